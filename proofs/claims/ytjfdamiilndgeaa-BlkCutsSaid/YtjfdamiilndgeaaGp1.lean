/- The plain words: what the functions reckon, and that the law answers true. No condition. -/
import Derived.Test.YtjfdamiilndgeaaMo1
import Derived.Test.YtjfdamiilndgeaaGe2
section
namespace Go.Proofs.Ytjfdamiilndgeaa
def two (p : Bool) : Int := bif p then 0 else 2
theorem twoP {p : Bool} (h : p = true) : two p = 0 := by rw [h]; rfl
theorem twoN {p : Bool} (h : p = false) : two p = 2 := by rw [h]; rfl
theorem blt_f {a b : Nat} (h : ¬ a < b) : Nat.blt a b = false := by
  cases e : Nat.blt a b with
  | false => rfl
  | true => exact absurd (Nat.blt_eq ▸ e) h
theorem wi_pred {i : Nat} (h : i < 9223372036854775807) : wi (((i + 1 : Nat) : Int) - 1) = (i : Int) := by rw [wi_in (by omega) (by omega)]; omega
theorem fuelS : fuel = 36893488147419103231 + 1 := rfl
theorem le64 {a b : UInt64} : (a ≤ b) ↔ a.toNat ≤ b.toNat := UInt64.le_iff_toNat_le
theorem lt64 {a b : UInt64} : (a < b) ↔ a.toNat < b.toNat := UInt64.lt_iff_toNat_lt
theorem sub64 {a b : UInt64} (h : b.toNat ≤ a.toNat) : (a - b).toNat = a.toNat - b.toNat := UInt64.toNat_sub_of_le _ _ (le64.2 h)
/-- xs laid into x from a on -/
def wrF (x : List UInt8) (a : Nat) (xs : List UInt8) : List UInt8 := x.take a ++ xs ++ x.drop (a + xs.length)
theorem wrF_nil (x : List UInt8) (a : Nat) : wrF x a [] = x := by simp [wrF]
theorem wrF_len {x xs : List UInt8} {a : Nat} (h : a + xs.length ≤ x.length) : (wrF x a xs).length = x.length := by
  simp only [wrF, List.length_append, List.length_take, List.length_drop]; omega
theorem own_eq (b : List UInt8) (h : b.length ≤ 100000000) : kit_Own b = some b := by unfold kit_Own; rw [cFits (by simp; omega)]
end Go.Proofs.Ytjfdamiilndgeaa

end

section
namespace Go.Proofs.Ytjfdamiilndgeaa
/-- n low bytes -/
def wB (v : UInt64) : Nat → List UInt8
  | 0 => []
  | n + 1 => wB v n ++ [byt v n]
theorem wB_len (v : UInt64) : ∀ n, (wB v n).length = n
  | 0 => rfl
  | n + 1 => by simp only [wB, List.length_append, wB_len v n]; rfl
theorem shr_add (v : UInt64) (m n : Nat) : shr64 (shr64 v m) n = shr64 v (m + n) := by
  apply UInt64.toBitVec_inj.1
  rw [shr64_bv, shr64_bv, shr64_bv, BitVec.shiftRight_add]
theorem shr_zero (v : UInt64) : shr64 v 0 = v := by
  apply UInt64.toBitVec_inj.1
  rw [shr64_bv]; simp
theorem blkwordL (n : Nat) (hn : n ≤ 8) (v : UInt64) (b : List UInt8) (hb : b.length ≤ 100000000) : ∀ (nf x : Nat), x ≤ n → n - x < nf → blk_wordL1 (n : Int) nf (b ++ wB v x) (shr64 v (8 * x)) (x : Int) = some (b ++ wB v n)
  | 0, x, _, h => absurd h (Nat.not_lt_zero _)
  | nf + 1, x, hx, hf => by
    unfold blk_wordL1 blk_wordL1B
    by_cases h : x < n
    · have hl := wB_len v x
      rw [bP (by omega), cFits (by rw [List.length_append, hl, List.length_singleton]; omega), wi_succ (by omega), List.append_assoc, shr_add]
      exact blkwordL n hn v b hb nf (x + 1) (by omega) (by omega)
    · rw [bN (by omega), show x = n by omega]
theorem blkword_eq (b : List UInt8) (v : UInt64) (n : Nat) (hn : n ≤ 8) (hb : b.length ≤ 100000000) : blk_word b v (n : Int) = some (b ++ wB v n) := by
  have := blkwordL n hn v b hb fuel 0 (by omega) (by rw [fuelS]; omega)
  rw [show 8 * 0 = 0 from rfl, shr_zero] at this
  unfold blk_word
  rw [← this]; simp [wB]
theorem blkword4 (b : List UInt8) (v : UInt64) (hb : b.length ≤ 100000000) : blk_word b v 4 = some (b ++ wB v 4) := blkword_eq b v 4 (by decide) hb
theorem blkword8 (b : List UInt8) (v : UInt64) (hb : b.length ≤ 100000000) : blk_word b v 8 = some (b ++ wB v 8) := blkword_eq b v 8 (by decide) hb
/-- may a request be? -/
def okQ (r : Req) : Prop := r.Ranges.length ≤ 16 ∧ (r.Ranges = [] ∨ ((r.Type_ = 11 ∨ r.Type_ = 13) ∧ r.Data = [])) ∧ 0 ≤ r.Room
instance (r : Req) : Decidable (okQ r) := by unfold okQ; infer_instance
theorem blkCheck_eq (r : Req) : blk_Check r = some (if okQ r then 0 else 2) := by
  have hrg : blk_ranged r.Type_ = some (decide (r.Type_ = 11 ∨ r.Type_ = 13)) := by
    unfold blk_ranged
    by_cases h : r.Type_ = 11
    · rw [bE h]; simp [h]
    · rw [bF h]; simp only [h, false_or]; rfl
  unfold blk_Check
  by_cases h1 : len r.Ranges > 16
  · rw [bP h1, if_neg (fun q => by obtain ⟨q1, _⟩ := q; simp only [len] at h1; omega)]
  · rw [bN h1]
    simp only [len] at h1
    by_cases h2 : len r.Ranges > 0
    · rw [bP h2, oS hrg]
      simp only [len] at h2
      have hne : r.Ranges ≠ [] := fun q => by rw [q] at h2; simp at h2
      by_cases h3 : r.Type_ = 11 ∨ r.Type_ = 13
      · rw [decide_eq_true h3, notT, brF]
        by_cases h4 : len r.Data > 0
        · rw [bP h4, if_neg]
          rintro ⟨_, q, _⟩
          rcases q with q | q
          · exact hne q
          · simp only [len, q.2] at h4; simp at h4
        · rw [bN h4]
          have h5 : r.Data = [] := by cases hd : r.Data with | nil => rfl | cons a b => rw [hd] at h4; simp [len] at h4
          by_cases h6 : r.Room < 0
          · rw [bP h6, if_neg (fun q => by obtain ⟨_, _, q3⟩ := q; omega)]
          · rw [bN h6, if_pos ⟨by omega, Or.inr ⟨h3, h5⟩, by omega⟩]
      · rw [decide_eq_false h3, notF, brT, if_neg]
        rintro ⟨_, q, _⟩
        rcases q with q | q
        · exact hne q
        · exact h3 q.1
    · rw [bN h2]
      have h5 : r.Ranges = [] := by cases hd : r.Ranges with | nil => rfl | cons a b => rw [hd] at h2; simp [len] at h2
      by_cases h6 : r.Room < 0
      · rw [bP h6, if_neg (fun q => by obtain ⟨_, _, q3⟩ := q; omega)]
      · rw [bN h6, if_pos ⟨by omega, Or.inl h5, by omega⟩]
def rangeB (x : Range) : List UInt8 := wB x.Sector 8 ++ wB x.Count.toUInt64 4 ++ wB x.Flags.toUInt64 4
theorem rangeB_len (x : Range) : (rangeB x).length = 16 := by simp only [rangeB, List.length_append, wB_len]
def rangesB (l : List Range) : List UInt8 := (l.map rangeB).flatten
theorem rangesB_len (l : List Range) : (rangesB l).length = 16 * l.length := by
  induction l with
  | nil => rfl
  | cons x l ih => simp only [rangesB, List.map_cons, List.flatten_cons, List.length_append, rangeB_len, List.length_cons] at ih ⊢; omega
/-- the head of a request -/
def headB (r : Req) : List UInt8 := wB r.Type_.toUInt64 4 ++ wB 0 4 ++ wB r.Sector 8
theorem headB_len (r : Req) : (headB r).length = 16 := by simp only [headB, List.length_append, wB_len]
def reqB (r : Req) : List UInt8 := headB r ++ r.Data ++ rangesB r.Ranges
theorem reqB_len (r : Req) : (reqB r).length = 16 + r.Data.length + 16 * r.Ranges.length := by
  simp only [reqB, List.length_append, headB_len, rangesB_len]
theorem blkBytesL (r : Req) (hl : r.Ranges.length ≤ 16) : ∀ (nf i : Nat) (b : List UInt8), i ≤ r.Ranges.length → r.Ranges.length - i < nf → b.length ≤ 10000000 + 16 * i → blk_BytesL1 r nf b (i : Int) = some (b ++ rangesB (r.Ranges.drop i), 0)
  | 0, i, b, _, h, _ => absurd h (Nat.not_lt_zero _)
  | nf + 1, i, b, hi, hn, hb => by
    unfold blk_BytesL1 blk_BytesL1B
    by_cases h : i < r.Ranges.length
    · have w1 := blkword8 b r.Ranges[i].Sector (by omega)
      have w2 := blkword4 (b ++ wB r.Ranges[i].Sector 8) r.Ranges[i].Count.toUInt64 (by rw [List.length_append, wB_len]; omega)
      have w3 := blkword4 (b ++ wB r.Ranges[i].Sector 8 ++ wB r.Ranges[i].Count.toUInt64 4) r.Ranges[i].Flags.toUInt64 (by rw [List.length_append, List.length_append, wB_len, wB_len]; omega)
      rw [drop_ix h, bP (by simp only [len]; omega), oS (ix_nat (getq h)), oS w1, oS w2, oS w3, wi_succ (by omega)]
      rw [blkBytesL r hl nf (i + 1) _ (by omega) (by omega) (by simp only [List.length_append, wB_len]; omega)]
      simp only [rangesB, List.map_cons, List.flatten_cons, rangeB, List.append_assoc]
    · rw [bN (by simp only [len]; omega), List.drop_of_length_le (by omega)]; simp [rangesB]
theorem blkBytes_eq (r : Req) (hd : r.Data.length ≤ 1000000) : blk_Bytes r = some (if okQ r then (reqB r, 0) else ([], 2)) := by
  unfold blk_Bytes
  rw [oS (blkCheck_eq r)]
  by_cases h : okQ r
  · have w1 := blkword4 [] r.Type_.toUInt64 (by simp)
    have w2 := blkword4 ([] ++ wB r.Type_.toUInt64 4) 0 (by simp [wB_len])
    have w3 := blkword8 ([] ++ wB r.Type_.toUInt64 4 ++ wB 0 4) r.Sector (by simp [wB_len])
    rw [if_pos h, if_pos h, nE rfl, oS w1, oS w2, oS w3]
    have e : ([] : List UInt8) ++ wB r.Type_.toUInt64 4 ++ wB 0 4 ++ wB r.Sector 8 = headB r := by simp [headB]
    rw [e, cFits (by rw [headB_len]; omega)]
    have := blkBytesL r h.1 fuel 0 (headB r ++ r.Data) (Nat.zero_le _) (by rw [fuelS]; have := h.1; omega) (by rw [List.length_append, headB_len]; omega)
    rw [List.drop_zero] at this
    exact this
  · rw [if_neg h, if_neg h, nF (by decide)]
end Go.Proofs.Ytjfdamiilndgeaa

end

section
namespace Go.Proofs.Ytjfdamiilndgeaa
theorem cDK {P : Prop} [Decidable P] {ρ : Type} {k : Option ρ} (h : P) : chk (decide P) k = k := by rw [decide_eq_true h]; rfl
theorem lives21 : law21zlives = some true := by kernel_rfl
theorem light_eqK (r : Req) : ∃ b, kit_LightReq r 6000 = some b ∧ (b = true → r.Data.length ≤ 6000 ∧ r.Ranges.length ≤ 40 ∧ r.Room ≤ 6000) := by
  unfold kit_LightReq
  by_cases h1 : len r.Data ≤ 6000
  · rw [bP h1]
    by_cases h2 : len r.Ranges ≤ 40
    · rw [bP h2]
      refine ⟨_, rfl, fun q => ?_⟩
      simp only [len] at h1 h2
      have := of_decide_eq_true q
      omega
    · rw [bN h2]; exact ⟨false, rfl, fun q => by cases q⟩
  · rw [bN h1]; exact ⟨false, rfl, fun q => by cases q⟩
theorem sh8B (w : UInt64) : shl64 (shr64 w 8) 8 ||| w.toUInt8.toUInt64 = w := by
  have hw := w.toNat_lt
  apply UInt64.toNat_inj.1
  have h1 : (shl64 (shr64 w 8) 8).toNat = 256 * (w.toNat / 256) := by
    simp only [shl64, shr64, UInt64.toNat_ofNat']
    rw [show 2 ^ min 8 64 = 256 from rfl]; omega
  rw [UInt64.toNat_or, h1, UInt8.toNat_toUInt64, UInt64.toNat_toUInt8]
  have h2 : w.toNat % 2 ^ 8 < 2 ^ 8 := Nat.mod_lt _ (by decide)
  have := Nat.two_pow_add_eq_or_of_lt (i := 8) h2 (w.toNat / 256)
  rw [show (2 ^ 8 : Nat) = 256 from rfl] at this
  rw [show 2 ^ 8 = 256 from rfl, ← this]; omega
theorem bnumber_okL (b : List UInt8) : ∀ (nf i : Nat) (x : UInt64), i ≤ b.length → b.length ≤ 1000000 → i < nf → ∃ v, blk_numberL1 b nf x ((i : Int) - 1) = some v
  | 0, i, _, _, _, h => absurd h (Nat.not_lt_zero _)
  | nf + 1, 0, x, _, _, _ => by
    unfold blk_numberL1 blk_numberL1B
    rw [bN (by omega)]; exact ⟨x, rfl⟩
  | nf + 1, i + 1, x, hi, hb, hn => by
    unfold blk_numberL1 blk_numberL1B
    rw [bP (by omega), show ((i + 1 : Nat) : Int) - 1 = (i : Int) by omega, oS (ix_nat (getq (by omega))), wi_in (by omega) (by omega)]
    exact bnumber_okL b nf i _ (by omega) hb (by omega)
theorem bnumber_ok (b : List UInt8) (hb : b.length ≤ 1000000) : ∃ v, blk_number b = some v := by
  unfold blk_number
  simp only [len]
  rw [wi_in (by omega) (by omega)]
  exact bnumber_okL b fuel b.length 0 (Nat.le_refl _) hb (by rw [fuelS]; omega)
theorem bnumber_L (v : UInt64) (n : Nat) (hn : n ≤ 8) (b : List UInt8) (hl : b.length = n) (hb : ∀ i, i < n → b[i]? = some (byt v i)) : ∀ (nf i : Nat), i ≤ n → i < nf → blk_numberL1 b nf (shr64 v (8 * i)) ((i : Int) - 1) = some v
  | 0, i, _, h => absurd h (Nat.not_lt_zero _)
  | nf + 1, 0, _, _ => by
    unfold blk_numberL1 blk_numberL1B
    rw [bN (by omega), Nat.mul_zero, shr_zero]
  | nf + 1, i + 1, hi, hf => by
    unfold blk_numberL1 blk_numberL1B
    have e : shl64 (shr64 v (8 * (i + 1))) (8 : UInt64).toNat ||| (byt v i).toUInt64 = shr64 v (8 * i) := by
      have := sh8B (shr64 v (8 * i))
      rw [shr_add] at this
      exact this
    rw [bP (by omega), show ((i + 1 : Nat) : Int) - 1 = (i : Int) by omega, oS (ix_nat (hb i (by omega))), wi_in (by omega) (by omega), e]
    exact bnumber_L v n hn b hl hb nf i (by omega) (by omega)
theorem wB_getB (v : UInt64) : ∀ (n i : Nat), i < n → (wB v n)[i]? = some (byt v i)
  | 0, i, h => absurd h (Nat.not_lt_zero _)
  | n + 1, i, h => by
    unfold wB
    by_cases q : i < n
    · rw [List.getElem?_append_left (by rw [wB_len]; exact q)]; exact wB_getB v n i q
    · rw [List.getElem?_append_right (by rw [wB_len]; omega), wB_len, show i - n = 0 by omega, show n = i by omega]; rfl
theorem bnumber_wB (v : UInt64) (n : Nat) (hn : n ≤ 8) (h0 : shr64 v (8 * n) = 0) : blk_number (wB v n) = some v := by
  unfold blk_number
  simp only [len]
  rw [wB_len, wi_in (by omega) (by omega), ← h0]
  exact bnumber_L v n hn (wB v n) (wB_len v n) (fun i h => wB_getB v n i h) fuel n (Nat.le_refl _) (by rw [fuelS]; omega)
theorem bnumber8 (v : UInt64) : blk_number (wB v 8) = some v := bnumber_wB v 8 (by decide) (by
  apply UInt64.toNat_inj.1
  have := v.toNat_lt
  simp only [shr64, UInt64.toNat_ofNat']
  rw [show 2 ^ min (8 * 8) 64 = 18446744073709551616 from rfl, Nat.div_eq_of_lt this]; rfl)
theorem bnumber4 (v : UInt32) : blk_number (wB v.toUInt64 4) = some v.toUInt64 := bnumber_wB v.toUInt64 4 (by decide) (by
  apply UInt64.toNat_inj.1
  have := v.toNat_lt
  simp only [shr64, UInt64.toNat_ofNat', UInt32.toNat_toUInt64]
  rw [show 2 ^ min (8 * 4) 64 = 4294967296 from rfl, Nat.div_eq_of_lt this]; rfl)
theorem breq_read (r : Req) (hl : (reqB r).length ≤ 100000) : blk_Read (reqB r) = some (⟨r.Type_, r.Sector, (reqB r).drop 16, 0, []⟩, 0) := by
  have hlen := reqB_len r
  have h4 : sub (reqB r) 0 4 = wB r.Type_.toUInt64 4 := by
    rw [sub_to]
    unfold reqB headB
    rw [show (4 : Int).toNat = (wB r.Type_.toUInt64 4).length from (wB_len _ 4).symm]
    simp only [List.append_assoc]
    exact List.take_left
  have h8 : sub (reqB r) 8 16 = wB r.Sector 8 := by
    rw [show (8 : Int) = ((8 : Nat) : Int) from rfl, show (16 : Int) = ((16 : Nat) : Int) from rfl, sub_nat]
    unfold reqB headB
    have e : (wB r.Type_.toUInt64 4 ++ wB 0 4).length = 8 := by rw [List.length_append, wB_len, wB_len]
    rw [List.append_assoc, List.append_assoc, List.drop_left' e]
    rw [show 16 - 8 = (wB r.Sector 8).length from (wB_len _ 8).symm]
    exact List.take_left
  unfold blk_Read
  rw [bN (by simp only [len]; omega), cDK (by simp only [len]; omega), h4, oS (bnumber4 _), cDK (by simp only [len]; omega), h8, oS (bnumber8 _), cDK (by simp only [len]; omega), cFits (by rw [sub_from]; simp; omega), sub_from]
  simp
end Go.Proofs.Ytjfdamiilndgeaa

end

section
namespace Go.Proofs.Ytjfdamiilndgeaa
/-- all bytes of a row of sectors -/
def flt (l : List Sec) : List UInt8 := (l.map Sec.l).flatten
theorem flt_cons (a : Sec) (l : List Sec) : flt (a :: l) = a.l ++ flt l := by simp [flt]
theorem flt_app (a b : List Sec) : flt (a ++ b) = flt a ++ flt b := by simp [flt]
theorem flt_len : ∀ l : List Sec, (flt l).length = 512 * l.length
  | [] => rfl
  | a :: l => by rw [flt_cons, List.length_append, flt_len l, a.h, List.length_cons]; omega
theorem flt_drop : ∀ (l : List Sec) (i : Nat), (flt l).drop (512 * i) = flt (l.drop i)
  | l, 0 => by rw [Nat.mul_zero, List.drop_zero, List.drop_zero]
  | [], i + 1 => by simp [flt]
  | a :: l, i + 1 => by
    rw [flt_cons, List.drop_append, a.h, List.drop_of_length_le (by rw [a.h]; omega), List.nil_append, show 512 * (i + 1) - 512 = 512 * i by omega, flt_drop l i, List.drop_succ_cons]
theorem flt_take : ∀ (l : List Sec) (i : Nat), (flt l).take (512 * i) = flt (l.take i)
  | l, 0 => by rw [Nat.mul_zero, List.take_zero, List.take_zero]; rfl
  | [], i + 1 => by simp [flt]
  | a :: l, i + 1 => by
    rw [flt_cons, List.take_append, a.h, List.take_of_length_le (by rw [a.h]; omega), show 512 * (i + 1) - 512 = 512 * i by omega, flt_take l i, List.take_succ_cons, flt_cons]
theorem flt_set {l : List Sec} {i : Nat} (a : Sec) (h : i < l.length) : flt (l.set i a) = wrF (flt l) (512 * i) a.l := by
  rw [List.set_eq_take_append_cons_drop, if_pos h, flt_app, flt_cons]
  unfold wrF
  rw [flt_take, a.h, show 512 * i + 512 = 512 * (i + 1) by omega, flt_drop, List.append_assoc]
theorem wrF_twoK {x xs ys : List UInt8} {a : Nat} (h : a + xs.length + ys.length ≤ x.length) : wrF (wrF x a xs) (a + xs.length) ys = wrF x a (xs ++ ys) := by
  have e1 : (x.take a ++ xs).length = a + xs.length := by simp; omega
  have e2 : (wrF x a xs).take (a + xs.length) = x.take a ++ xs := by unfold wrF; exact List.take_left' e1
  have e3 : (wrF x a xs).drop (a + xs.length + ys.length) = x.drop (a + xs.length + ys.length) := by
    unfold wrF; rw [List.drop_append, e1, List.drop_of_length_le (by rw [e1]; omega), List.nil_append, List.drop_drop]
    refine congrArg (fun t => x.drop t) ?_; omega
  rw [wrF, e2, e3]
  unfold wrF
  simp [Nat.add_assoc]
theorem wrF_wholeK {x xs : List UInt8} (h : xs.length = x.length) : wrF x 0 xs = xs := by
  unfold wrF
  rw [List.take_zero, List.nil_append, Nat.zero_add, List.drop_of_length_le (by omega), List.append_nil]
theorem u64nK {n : Nat} (h : n ≤ 4000000000) : (u64 (n : Int)).toNat = n := by
  rw [u64_of, UInt64.toNat_ofNat']; omega
theorem i64nK {a : UInt64} (h : a.toNat ≤ 4000000000) : i64 a = (a.toNat : Int) := i64_of (by omega)
theorem rem512K (n : Nat) : remi (n : Int) 512 = ((n % 512 : Nat) : Int) := remi_nat n 512
theorem quo512K (n : Nat) (h : n ≤ 9223372036854775807) : quoi (n : Int) 512 = ((n / 512 : Nat) : Int) := quoi_nat n 512 h
theorem quoLK (b : List UInt8) (h : b.length ≤ 9223372036854775807) : quoi (len b) 512 = ((b.length / 512 : Nat) : Int) := quo512K b.length h
theorem remLK (b : List UInt8) : remi (len b) 512 = ((b.length % 512 : Nat) : Int) := rem512K b.length
theorem remL16K (b : List UInt8) : remi (len b) 16 = ((b.length % 16 : Nat) : Int) := remi_nat b.length 16
theorem w512 {i : Nat} (h : i ≤ 100000) : wi ((i : Int) * 512) = ((512 * i : Nat) : Int) := by rw [wi_in (by omega) (by omega)]; omega
theorem sHas (s : sectors_Store) (hn : s.l.length ≤ 4096) (a k : UInt64) : sectors_Store_Has s a k = some (decide (a.toNat + k.toNat ≤ s.l.length)) := by
  unfold sectors_Store_Has
  have hu := u64nK (n := s.l.length) (by omega)
  rw [len_nat]
  have ha := a.toNat_lt
  have hk := k.toNat_lt
  by_cases q : a ≤ u64 (s.l.length : Int)
  · rw [bP q]
    rw [UInt64.le_iff_toNat_le, hu] at q
    congr 1
    refine decide_eq_decide.2 ?_
    rw [UInt64.le_iff_toNat_le, UInt64.toNat_sub_of_le _ _ (by rw [UInt64.le_iff_toNat_le, hu]; exact q), hu]; omega
  · rw [bN q]
    rw [UInt64.le_iff_toNat_le, hu] at q
    rw [decide_eq_false (by omega)]
theorem sReadL (a : UInt64) (k : Nat) (l : List Sec) (m : List (Int × Sec)) (hk : a.toNat + k ≤ l.length) (hn : l.length ≤ 4096) : ∀ (nf i : Nat), i ≤ k → k - i < nf → sectors_Store_ReadL1 a (k : Int) nf l m (((flt l).drop (512 * a.toNat)).take (512 * i)) (i : Int) = some (((flt l).drop (512 * a.toNat)).take (512 * k), 0, ⟨l, m⟩)
  | 0, i, _, h => absurd h (Nat.not_lt_zero _)
  | nf + 1, i, hi, hf => by
    unfold sectors_Store_ReadL1 sectors_Store_ReadL1B
    by_cases c : i < k
    · have e : wi (i64 a + (i : Int)) = ((a.toNat + i : Nat) : Int) := by rw [i64nK (by omega), wi_in (by omega) (by omega)]; omega
      have hl := flt_len l
      have e2 : ((flt l).drop (512 * a.toNat)).take (512 * i) ++ (l[a.toNat + i]'(by omega)).l = ((flt l).drop (512 * a.toNat)).take (512 * (i + 1)) := by
        rw [flt_drop, flt_take, flt_take, List.take_add_one, List.getElem?_drop, getq (by omega), flt_app]
        simp [flt]
      rw [bP (by omega), e, oS (ix_nat (getq (by omega))), cFits (by rw [List.length_take, List.length_drop, (l[a.toNat + i]'(by omega)).h]; omega), wi_succ (by omega), e2]
      exact sReadL a k l m hk hn nf (i + 1) (by omega) (by omega)
    · rw [bN (by omega), show i = k by omega]
theorem sRead (s : sectors_Store) (hn : s.l.length ≤ 4096) (a : UInt64) (k : Nat) (h : a.toNat + k ≤ s.l.length) : sectors_Store_Read s a (k : Int) = some (((flt s.l).drop (512 * a.toNat)).take (512 * k), 0, s) := by
  unfold sectors_Store_Read
  rw [bN (by omega), oS (sHas s hn _ _), u64nK (by omega), decide_eq_true h, notT, brF]
  have := sReadL a k s.l s.fresh h hn fuel 0 (Nat.zero_le _) (by rw [fuelS]; omega)
  rw [Nat.mul_zero, List.take_zero] at this
  exact this
theorem sImage (s : sectors_Store) (hn : s.l.length ≤ 4096) : sectors_Store_Image s = some (flt s.l, s) := by
  unfold sectors_Store_Image sectors_Store_Count
  rw [obS, len_nat, oS (sRead s hn 0 s.l.length (by show 0 + _ ≤ _; omega))]
  dsimp only
  rw [show (0 : UInt64).toNat = 0 from rfl, Nat.mul_zero, List.drop_zero, ← flt_len, List.take_length]
theorem sPut (l : List Sec) (m : List (Int × Sec)) (i : Nat) (a : Sec) (h : i < l.length) : ∃ m', sectors_Store_put ⟨l, m⟩ (i : Int) a = some ⟨l.set i a, m'⟩ := by
  unfold sectors_Store_put
  have hj : ∀ m1, sectors_Store_putJ1 (i : Int) l m1 a = some ⟨l.set i a, m1⟩ := fun m1 => by
    unfold sectors_Store_putJ1
    rw [oS (ix_nat (getq h)), Int.toNat_natCast]
  dsimp only
  cases hq : mhas (i : Int) m with
  | true => rw [notT, brF]; exact ⟨m, hj m⟩
  | false => rw [notF, brT, oS (ix_nat (getq h))]; exact ⟨_, hj _⟩
theorem secOf {xs : List UInt8} (h : xs.length = 512) : Sec.of xs = some ⟨xs, h⟩ := by unfold Sec.of; rw [dif_pos h]
theorem sWriteL (a : UInt64) (b : List UInt8) (hb : b.length ≤ 1000000) (hr : b.length % 512 = 0) (l0 : List Sec) (ha : a.toNat + b.length / 512 ≤ l0.length) (hn : l0.length ≤ 4096) : ∀ (nf i : Nat) (l : List Sec) (m : List (Int × Sec)), i ≤ b.length / 512 → b.length / 512 - i < nf → l.length = l0.length → flt l = wrF (flt l0) (512 * a.toNat) (b.take (512 * i)) → ∃ l' m', sectors_Store_WriteL1 a b nf l m (i : Int) = some (0, ⟨l', m'⟩) ∧ l'.length = l0.length ∧ flt l' = wrF (flt l0) (512 * a.toNat) b
  | 0, i, _, _, _, h, _, _ => absurd h (Nat.not_lt_zero _)
  | nf + 1, i, l, m, hi, hf, hl, hw => by
    unfold sectors_Store_WriteL1 sectors_Store_WriteL1B
    rw [quoLK b (by omega)]
    by_cases c : i < b.length / 512
    · have e : wi (i64 a + (i : Int)) = ((a.toNat + i : Nat) : Int) := by rw [i64nK (by omega), wi_in (by omega) (by omega)]; omega
      have hs : (sub b ((512 * i : Nat) : Int) ((512 * (i + 1) : Nat) : Int)) = (b.drop (512 * i)).take 512 := by
        rw [sub_nat, show 512 * (i + 1) - 512 * i = 512 by omega]
      have hL : ((b.drop (512 * i)).take 512).length = 512 := by rw [List.length_take, List.length_drop]; omega
      have hT : ((b.drop (512 * i)).take 512).take 512 = (b.drop (512 * i)).take 512 := List.take_of_length_le (by omega)
      obtain ⟨m', hp⟩ := sPut l m (a.toNat + i) ⟨_, hL⟩ (by omega)
      rw [bP (by omega), wi_succ (by omega), w512 (by omega), w512 (by omega), cDK (by simp only [len]; omega), hs, cT (Nat.ble_eq_true_of_le (by omega)), hT, oS (secOf hL), e, oS hp]
      refine sWriteL a b hb hr l0 ha hn nf (i + 1) _ _ (by omega) (by omega) (by rw [List.length_set]; exact hl) ?_
      have h0 := flt_len l0
      have hk : (b.take (512 * i)).length = 512 * i := by rw [List.length_take]; omega
      dsimp only
      rw [flt_set _ (by omega), hw]
      have := wrF_twoK (x := flt l0) (a := 512 * a.toNat) (xs := b.take (512 * i)) (ys := (b.drop (512 * i)).take 512) (by rw [hk, hL]; omega)
      rw [hk] at this
      rw [show 512 * (a.toNat + i) = 512 * a.toNat + 512 * i by omega, this, show 512 * (i + 1) = 512 * i + 512 by omega, List.take_add]
    · rw [bN (by omega)]
      refine ⟨l, m, rfl, hl, ?_⟩
      rw [hw, List.take_of_length_le (by omega)]
theorem sWrite (s : sectors_Store) (hn : s.l.length ≤ 4096) (a : UInt64) (b : List UInt8) (hb : b.length ≤ 1000000) : (∃ e, e ≠ 0 ∧ sectors_Store_Write s a b = some (e, s)) ∨ (512 * a.toNat + b.length ≤ (flt s.l).length ∧ ∃ l' m', sectors_Store_Write s a b = some (0, ⟨l', m'⟩) ∧ l'.length = s.l.length ∧ flt l' = wrF (flt s.l) (512 * a.toNat) b) := by
  unfold sectors_Store_Write
  rw [remLK, quoLK b (by omega)]
  by_cases h1 : b.length % 512 = 0
  · rw [nE (by omega), oS (sHas s hn _ _), u64nK (by omega)]
    by_cases c : a.toNat + b.length / 512 ≤ s.l.length
    · rw [decide_eq_true c, notT, brF]
      have h0 := flt_len s.l
      exact Or.inr ⟨by omega, sWriteL a b hb h1 s.l c hn fuel 0 s.l s.fresh (Nat.zero_le _) (by rw [fuelS]; omega) rfl (by rw [Nat.mul_zero, List.take_zero, wrF_nil])⟩
    · rw [decide_eq_false c, notF, brT]; exact Or.inl ⟨5, by decide, rfl⟩
  · rw [nF (by omega)]; exact Or.inl ⟨2, by decide, rfl⟩
theorem sZeroL (a k : UInt64) (l0 : List Sec) (ha : a.toNat + k.toNat ≤ l0.length) (hn : l0.length ≤ 4096) : ∀ (nf i : Nat) (l : List Sec) (m : List (Int × Sec)), i ≤ k.toNat → k.toNat - i < nf → l.length = l0.length → flt l = wrF (flt l0) (512 * a.toNat) (List.replicate (512 * i) 0) → ∃ l' m', sectors_Store_ZeroL1 a k nf l m (i : Int) = some (0, ⟨l', m'⟩) ∧ l'.length = l0.length ∧ flt l' = wrF (flt l0) (512 * a.toNat) (List.replicate (512 * k.toNat) 0)
  | 0, i, _, _, _, h, _, _ => absurd h (Nat.not_lt_zero _)
  | nf + 1, i, l, m, hi, hf, hl, hw => by
    unfold sectors_Store_ZeroL1 sectors_Store_ZeroL1B
    rw [i64nK (a := k) (by omega)]
    by_cases c : i < k.toNat
    · have e : wi (i64 a + (i : Int)) = ((a.toNat + i : Nat) : Int) := by rw [i64nK (by omega), wi_in (by omega) (by omega)]; omega
      obtain ⟨m', hp⟩ := sPut l m (a.toNat + i) Sec.z (by omega)
      rw [bP (by omega), wi_succ (by omega), e, oS hp]
      refine sZeroL a k l0 ha hn nf (i + 1) _ _ (by omega) (by omega) (by rw [List.length_set]; exact hl) ?_
      have h0 := flt_len l0
      have hz : Sec.z.l.length = 512 := Sec.z.h
      have hzl : Sec.z.l = List.replicate 512 0 := rfl
      dsimp only
      rw [flt_set _ (by omega), hw]
      have := wrF_twoK (x := flt l0) (a := 512 * a.toNat) (xs := List.replicate (512 * i) 0) (ys := Sec.z.l) (by rw [List.length_replicate, hz]; omega)
      rw [List.length_replicate] at this
      rw [show 512 * (a.toNat + i) = 512 * a.toNat + 512 * i by omega, this, hzl, List.replicate_append_replicate, show 512 * (i + 1) = 512 * i + 512 by omega]
    · rw [bN (by omega)]
      exact ⟨l, m, rfl, hl, by rw [hw, show i = k.toNat by omega]⟩
theorem sZero (s : sectors_Store) (hn : s.l.length ≤ 4096) (a k : UInt64) (h : a.toNat + k.toNat ≤ s.l.length) : ∃ l' m', sectors_Store_Zero s a k = some (0, ⟨l', m'⟩) ∧ l'.length = s.l.length ∧ flt l' = wrF (flt s.l) (512 * a.toNat) (List.replicate (512 * k.toNat) 0) := by
  unfold sectors_Store_Zero
  rw [oS (sHas s hn _ _), decide_eq_true h, notT, brF]
  exact sZeroL a k s.l h hn fuel 0 s.l s.fresh (Nat.zero_le _) (by rw [fuelS]; omega) rfl (by rw [Nat.mul_zero, List.replicate_zero, wrF_nil])
/-! a store of given bytes -/
def okI (b : List UInt8) : Prop := b.length % 512 = 0 ∧ 1 ≤ b.length / 512 ∧ b.length / 512 ≤ 4096
instance (b : List UInt8) : Decidable (okI b) := by unfold okI; infer_instance
theorem sOfL (b : List UInt8) (l0 : List Sec) (st : sectors_Store) (h0 : st.l = l0) (hb : b.length = 512 * l0.length) (hn : l0.length ≤ 4096) : ∀ (nf i : Nat) (l : List Sec) (m : List (Int × Sec)), i ≤ l0.length → l0.length - i < nf → l.length = l0.length → flt l = wrF (flt l0) 0 (b.take (512 * i)) → ∃ l', sectors_OfL1 b st nf l m (i : Int) = some (some ⟨l', m⟩, 0) ∧ l'.length = l0.length ∧ flt l' = b
  | 0, i, _, _, _, h, _, _ => absurd h (Nat.not_lt_zero _)
  | nf + 1, i, l, m, hi, hf, hl, hw => by
    unfold sectors_OfL1 sectors_OfL1B
    rw [h0, len_nat]
    have hf0 := flt_len l0
    by_cases c : i < l0.length
    · have hx : i < l.length := by omega
      have hA : (Sec.put l[i] (b.drop (512 * i))).l = (b.drop (512 * i)).take 512 := by
        show (b.drop (512 * i)).take 512 ++ (l[i]).l.drop (b.drop (512 * i)).length = _
        rw [List.drop_of_length_le (l := (l[i]).l) (by rw [(l[i]).h, List.length_drop]; omega), List.append_nil]
      rw [bP (by omega), oS (ix_nat (getq hx)), w512 (by omega), cDK (by simp only [len]; omega), sub_from, Int.toNat_natCast, Int.toNat_natCast, wi_succ (by omega)]
      refine sOfL b l0 st h0 hb hn nf (i + 1) _ _ (by omega) (by omega) (by rw [List.length_set]; exact hl) ?_
      have hk : (b.take (512 * i)).length = 512 * i := by rw [List.length_take]; omega
      have hL : ((b.drop (512 * i)).take 512).length = 512 := by rw [List.length_take, List.length_drop]; omega
      rw [flt_set _ hx, hw, hA]
      have := wrF_twoK (x := flt l0) (a := 0) (xs := b.take (512 * i)) (ys := (b.drop (512 * i)).take 512) (by rw [hk, hL]; omega)
      rw [hk, Nat.zero_add] at this
      rw [this, show 512 * (i + 1) = 512 * i + 512 by omega, List.take_add]
    · rw [bN (by omega)]
      refine ⟨l, rfl, hl, ?_⟩
      rw [hw, List.take_of_length_le (by omega), wrF_wholeK (by omega)]
theorem sOf (b : List UInt8) (hb : b.length ≤ 1000000) (h : okI b) : ∃ l m, sectors_Of b = some (some ⟨l, m⟩, 0) ∧ l.length = b.length / 512 ∧ flt l = b := by
  obtain ⟨h1, h2, h3⟩ := h
  unfold sectors_Of sectors_New
  have hl : (List.replicate (b.length / 512) Sec.z).length = b.length / 512 := List.length_replicate ..
  rw [remLK, quoLK b (by omega), nE (by omega), bN (by omega), bN (by omega), cDK (by omega), obS, Int.toNat_natCast]
  dsimp only [onO]
  rw [nE rfl]
  obtain ⟨l', e1, e2, e3⟩ := sOfL b (List.replicate (b.length / 512) Sec.z) ⟨List.replicate (b.length / 512) Sec.z, []⟩ rfl (by rw [hl]; omega) (by omega) fuel 0 (List.replicate (b.length / 512) Sec.z) [] (Nat.zero_le _) (by rw [fuelS]; omega) rfl (by rw [Nat.mul_zero, List.take_zero, wrF_nil])
  exact ⟨l', [], e1, by rw [e2, hl], e3⟩
theorem sOf_bad (b : List UInt8) (hb : b.length ≤ 1000000) (h : ¬ okI b) : sectors_Of b = some (none, 2) := by
  unfold sectors_Of sectors_New
  rw [remLK, quoLK b (by omega)]
  by_cases h1 : b.length % 512 = 0
  · rw [nE (by omega)]
    by_cases h2 : b.length / 512 < 1
    · rw [bP (by omega), obS]
      dsimp only [onO]
      rw [cF (by decide)]
    · rw [bN (by omega), bP (by
        have : ¬ b.length / 512 ≤ 4096 := fun q => h ⟨h1, by omega, q⟩
        omega), obS]
      dsimp only [onO]
      rw [cF (by decide)]
  · rw [nF (by omega)]
end Go.Proofs.Ytjfdamiilndgeaa

end

section
namespace Go.Proofs.Ytjfdamiilndgeaa
def numV (b : List UInt8) : UInt64 := (blk_number b).getD 0
theorem numV_eq {b : List UInt8} (hb : b.length ≤ 1000000) : blk_number b = some (numV b) := by
  obtain ⟨v, h⟩ := bnumber_ok b hb
  unfold numV
  rw [h]; rfl
/-- the ranges of k times 16 bytes -/
def trips : Nat → List UInt8 → List (UInt64 × UInt64 × UInt64)
  | 0, _ => []
  | k + 1, m => (numV (m.take 8), numV ((m.drop 8).take 4), numV ((m.drop 12).take 4)) :: trips k (m.drop 16)
/-- zeroes over all of the ranges -/
def zeroAll : List (UInt64 × UInt64 × UInt64) → List UInt8 → List UInt8
  | [], x => x
  | t :: r, x => zeroAll r (wrF x (512 * t.1.toNat) (List.replicate (512 * t.2.1.toNat) 0))
/-- do all ranges lie in the store? -/
def okT (N : Nat) (l : List (UInt64 × UInt64 × UInt64)) : Prop := ∀ t ∈ l, t.1.toNat + t.2.1.toNat ≤ N
theorem okT_cons {N : Nat} {t : UInt64 × UInt64 × UInt64} {l : List (UInt64 × UInt64 × UInt64)} : okT N (t :: l) ↔ t.1.toNat + t.2.1.toNat ≤ N ∧ okT N l := by simp [okT]
theorem eat0 {m : List UInt8} (h : m.length = 0) : blk_work_ranges_1 m = some (0, 0, 0, false, m) := by
  unfold blk_work_ranges_1
  rw [bP (by simp only [len]; omega)]
theorem eat1 {m : List UInt8} (h : 16 ≤ m.length) (hm : m.length ≤ 1000000) : blk_work_ranges_1 m = some (numV (m.take 8), numV ((m.drop 8).take 4), numV ((m.drop 12).take 4), true, m.drop 16) := by
  unfold blk_work_ranges_1
  have e1 : sub m (0 : Int) (8 : Int) = m.take 8 := sub_to m 8
  have e2 : sub m (8 : Int) (12 : Int) = (m.drop 8).take 4 := sub_nat m 8 12
  have e3 : sub m (12 : Int) (16 : Int) = (m.drop 12).take 4 := sub_nat m 12 16
  have e4 : sub m (16 : Int) (len m) = m.drop 16 := sub_from m 16
  rw [bN (by simp only [len]; omega), cDK (by simp only [len]; omega), e1, oS (numV_eq (by rw [List.length_take]; omega)), cDK (by simp only [len]; omega), e2, oS (numV_eq (by rw [List.length_take]; omega)), cDK (by simp only [len]; omega), e3, oS (numV_eq (by rw [List.length_take]; omega)), cDK (by simp only [len]; omega), e4]
theorem rngL3 (N : Nat) (hN : N ≤ 4096) : ∀ (nf k : Nat) (m : List UInt8) (l : List Sec) (mp : List (Int × Sec)) (a n f : UInt64), m.length = 16 * k → k + 1 < nf → k ≤ 10000 → l.length = N → okT N ((a, n, f) :: trips k m) →
    ∃ l' mp', blk_work_rangesL3 nf l mp m a n true = some ([], 0, ⟨l', mp'⟩) ∧ l'.length = N ∧ flt l' = zeroAll ((a, n, f) :: trips k m) (flt l)
  | 0, _, _, _, _, _, _, _, _, h, _, _, _ => absurd h (Nat.not_lt_zero _)
  | nf + 1, k, m, l, mp, a, n, f, hm, hf, hk, hl, ho => by
    unfold blk_work_rangesL3 blk_work_rangesL3B
    obtain ⟨h1, h2⟩ := okT_cons.1 ho
    dsimp only at h1
    obtain ⟨l1, m1, e1, e2, e3⟩ := sZero ⟨l, mp⟩ (by dsimp only; omega) a n (by dsimp only; omega)
    dsimp only at e2 e3
    rw [brT, oS e1]
    cases k with
    | zero =>
      rw [oS (eat0 (by omega))]
      dsimp only
      obtain ⟨nf2, rfl⟩ : ∃ x, nf = x + 1 := ⟨nf - 1, by omega⟩
      unfold blk_work_rangesL3 blk_work_rangesL3B
      rw [brF]
      exact ⟨l1, m1, rfl, by omega, e3⟩
    | succ k =>
      rw [oS (eat1 (by omega) (by omega))]
      dsimp only
      obtain ⟨l', mp', q1, q2, q3⟩ := rngL3 N hN nf k (m.drop 16) l1 m1 (numV (m.take 8)) (numV ((m.drop 8).take 4)) (numV ((m.drop 12).take 4)) (by rw [List.length_drop]; omega) (by omega) (by omega) (by omega) h2
      refine ⟨l', mp', q1, q2, ?_⟩
      rw [q3, e3]; rfl
/-- what the ranges come to -/
def rngOk (N : Nat) (T : List (UInt64 × UInt64 × UInt64)) (l : List Sec) (mp : List (Int × Sec)) (r : Option (List UInt8 × UInt8 × sectors_Store)) : Prop :=
  (∃ st, st ≠ 0 ∧ r = some ([], st, ⟨l, mp⟩)) ∨ (okT N T ∧ ∃ l' mp', r = some ([], 0, ⟨l', mp'⟩) ∧ l'.length = N ∧ flt l' = zeroAll T (flt l))
theorem rngEnd (N : Nat) (hN : N ≤ 4096) (w : blk_work) (fl : UInt64) (K : Nat) (hK : K ≤ 1000) (hd : w.data.length = 16 * (K + 1)) (l : List Sec) (mp : List (Int × Sec)) (hl : l.length = N) (nf : Nat) (m : List UInt8) (odd : Bool) (a n f : UInt64) (ho : okT N (trips (K + 1) w.data)) :
    rngOk N (trips (K + 1) w.data) l mp (blk_work_rangesL2 w fl (nf + 1) l mp m odd a n f false) := by
  unfold blk_work_rangesL2 blk_work_rangesL2B
  rw [brF]
  cases odd with
  | true => rw [brT]; exact Or.inl ⟨2, by decide, rfl⟩
  | false =>
    rw [brF, oS (eat1 (by omega) (by omega))]
    exact Or.inr ⟨ho, rngL3 N hN fuel K (w.data.drop 16) l mp _ _ (numV ((w.data.drop 12).take 4)) (by rw [List.length_drop]; omega) (by rw [fuelS]; omega) (by omega) hl ho⟩
theorem rngL2 (N : Nat) (hN : N ≤ 4096) (w : blk_work) (fl : UInt64) (K : Nat) (hK : K ≤ 1000) (hd : w.data.length = 16 * (K + 1)) (l : List Sec) (mp : List (Int × Sec)) (hl : l.length = N) : ∀ (nf k : Nat) (m : List UInt8) (odd : Bool) (a n f : UInt64), m.length = 16 * k → k + 1 < nf → k ≤ 10000 → (okT N ((a, n, f) :: trips k m) → okT N (trips (K + 1) w.data)) →
    rngOk N (trips (K + 1) w.data) l mp (blk_work_rangesL2 w fl nf l mp m odd a n f true)
  | 0, _, _, _, _, _, _, _, h, _, _ => absurd h (Nat.not_lt_zero _)
  | nf + 1, k, m, odd, a, n, f, hm, hf, hk, ho => by
    unfold blk_work_rangesL2 blk_work_rangesL2B
    rw [brT, oS (sHas ⟨l, mp⟩ (by dsimp only; omega) a n)]
    dsimp only
    rw [hl]
    by_cases c : a.toNat + n.toNat ≤ N
    · rw [decide_eq_true c, notT, brF]
      have go : ∀ od : Bool, rngOk N (trips (K + 1) w.data) l mp (ob (blk_work_ranges_1 m) fun ranges2 => blk_work_rangesL2 w fl nf l mp ranges2.2.2.2.2 od ranges2.1 ranges2.2.1 ranges2.2.2.1 ranges2.2.2.2.1) := by
        intro od
        cases k with
        | zero =>
          rw [oS (eat0 (by omega))]
          dsimp only
          obtain ⟨nf2, rfl⟩ : ∃ x, nf = x + 1 := ⟨nf - 1, by omega⟩
          exact rngEnd N hN w fl K hK hd l mp hl nf2 m od _ _ _ (ho (okT_cons.2 ⟨c, fun t ht => by cases ht⟩))
        | succ k =>
          rw [oS (eat1 (by omega) (by omega))]
          dsimp only
          exact rngL2 N hN w fl K hK hd l mp hl nf k (m.drop 16) od _ _ _ (by rw [List.length_drop]; omega) (by omega) (by omega) (fun q => ho (okT_cons.2 ⟨c, q⟩))
      cases odd with
      | true => rw [brT]; exact go true
      | false => rw [brF]; exact go _
    · rw [decide_eq_false c, notF, brT]; exact Or.inl ⟨1, by decide, rfl⟩
theorem feat_ok (f : UInt64) (b : Int) : ∃ c, feat_Has f b = some c := by
  unfold feat_Has
  by_cases h1 : b ≥ 0
  · rw [bP h1]
    by_cases h2 : b ≤ 63
    · rw [bP h2, cDK h1]; exact ⟨_, rfl⟩
    · rw [bN h2]; exact ⟨_, rfl⟩
  · rw [bN h1]; exact ⟨_, rfl⟩
theorem ranges_okK (w : blk_work) (s : sectors_Store) (hn : s.l.length ≤ 4096) (hd : w.data.length ≤ 100000) (bit : Int) (fl : UInt64) : rngOk s.l.length (trips (w.data.length / 16) w.data) s.l s.fresh (blk_work_ranges w s bit fl) := by
  unfold blk_work_ranges
  have hJ : rngOk s.l.length (trips (w.data.length / 16) w.data) s.l s.fresh (blk_work_rangesJ1 w s fl true) := by
    unfold blk_work_rangesJ1
    rw [brT]; exact Or.inl ⟨1, by decide, rfl⟩
  obtain ⟨c, hc⟩ := feat_ok w.feats bit
  rw [oS hc]
  cases c with
  | false => rw [notF, brT]; exact Or.inl ⟨2, by decide, rfl⟩
  | true =>
    obtain ⟨c2, hc2⟩ := feat_ok w.feats 5
    rw [notT, brF, oS hc2]
    cases c2 with
    | true => rw [brT]; exact hJ
    | false =>
      rw [brF, remL16K]
      by_cases h0 : len w.data = 0
      · rw [bE h0, h0]; exact hJ
      · rw [bF h0]
        by_cases h1 : w.data.length % 16 = 0
        · rw [nE (by omega)]
          by_cases h2 : len w.data > 256
          · rw [decide_eq_true h2]; exact hJ
          · rw [decide_eq_false h2]
            simp only [len] at h0 h2
            obtain ⟨K, hK⟩ : ∃ K, w.data.length = 16 * (K + 1) := ⟨w.data.length / 16 - 1, by omega⟩
            unfold blk_work_rangesJ1
            rw [brF, oS (eat1 (by omega) (by omega)), show w.data.length / 16 = K + 1 by omega]
            exact rngL2 s.l.length hn w fl K (by omega) hK s.l s.fresh rfl fuel K (w.data.drop 16) false _ _ _ (by rw [List.length_drop]; omega) (by rw [fuelS]; omega) (by omega) (fun q => q)
        · have hq : (((w.data.length % 16 : Nat) : Int) != 0) = true := by
            rw [bne_iff_ne]; omega
          rw [nF (by omega), hq]; exact hJ
/-! a request -/
def wkF (t : UInt32) (w : blk_work) (s : sectors_Store) : Option (List UInt8 × UInt8 × sectors_Store) :=
  if t = 0 then blk_work_in w s else if t = 1 then blk_work_out w s else if t = 4 then blk_work_sync w s
  else if t = 8 then (ob (blk_work_id w s) fun x => some (x.1, x.2, s)) else if t = 11 then blk_kind_does_1 w s else if t = 13 then blk_kind_does_2 w s else some ([], 2, s)
/-- what comes of it if it succeeds -/
def didW (t : UInt32) (w : blk_work) (s s' : sectors_Store) (out : List UInt8) : Prop :=
  (t = 0 → flt s'.l = flt s.l ∧ 512 * w.at_.toNat + w.room.toNat ≤ (flt s.l).length ∧ out = ((flt s.l).drop (512 * w.at_.toNat)).take w.room.toNat) ∧
  (t = 1 → out = [] ∧ 512 * w.at_.toNat + w.data.length ≤ (flt s.l).length ∧ flt s'.l = wrF (flt s.l) (512 * w.at_.toNat) w.data) ∧
  (t = 11 ∨ t = 13 → out = [] ∧ okT s.l.length (trips (w.data.length / 16) w.data) ∧ flt s'.l = zeroAll (trips (w.data.length / 16) w.data) (flt s.l)) ∧
  (t ≠ 0 → t ≠ 1 → t ≠ 11 → t ≠ 13 → flt s'.l = flt s.l ∧ (out = [] ∨ (t = 8 ∧ out.length = 20)))
def wkOk (t : UInt32) (w : blk_work) (s : sectors_Store) (r : Option (List UInt8 × UInt8 × sectors_Store)) : Prop :=
  ∃ out st s', r = some (out, st, s') ∧ s'.l.length = s.l.length ∧ out.length ≤ w.room.toNat ∧ (st ≠ 0 → out = [] ∧ flt s'.l = flt s.l) ∧ (st = 0 → didW t w s s' out)
theorem wk_bad {t : UInt32} {w : blk_work} {s : sectors_Store} {st : UInt8} (h : st ≠ 0) : wkOk t w s (some ([], st, s)) := ⟨[], st, s, rfl, rfl, Nat.zero_le _, fun _ => ⟨rfl, rfl⟩, fun q => absurd q h⟩
theorem wk_rng {r : Option (List UInt8 × UInt8 × sectors_Store)} {t : UInt32} {w : blk_work} {s : sectors_Store} (ht : t = 11 ∨ t = 13) (h : rngOk s.l.length (trips (w.data.length / 16) w.data) s.l s.fresh r) : wkOk t w s (ob r fun x => some (x.1, x.2.1, x.2.2)) := by
  rcases h with ⟨st, h1, h2⟩ | ⟨h1, l', mp', h2, h3, h4⟩
  · rw [oS h2]; exact wk_bad (s := s) h1
  · rw [oS h2]
    refine ⟨[], 0, ⟨l', mp'⟩, rfl, h3, Nat.zero_le _, fun q => absurd rfl q, fun _ => ⟨?_, ?_, fun _ => ⟨rfl, h1, h4⟩, ?_⟩⟩
    · intro q; rcases ht with p | p <;> (rw [p] at q; exact absurd q (by decide))
    · intro q; rcases ht with p | p <;> (rw [p] at q; exact absurd q (by decide))
    · intro _ _ q1 q2; rcases ht with p | p
      · exact absurd p q1
      · exact absurd p q2
theorem wk_ok (t : UInt32) (w : blk_work) (s : sectors_Store) (hn : s.l.length ≤ 4096) (hr : w.room.toNat ≤ 100000) (hd : w.data.length ≤ 100000) (hnm : w.name.length ≤ 20) : wkOk t w s (wkF t w s) := by
  unfold wkF
  have hfl := flt_len s.l
  by_cases t0 : t = 0
  · rw [if_pos t0]
    unfold blk_work_in
    by_cases h1 : w.room % 512 = 0
    · have h1' : w.room.toNat % 512 = 0 := by
        have := congrArg UInt64.toNat h1
        rw [UInt64.toNat_mod] at this; exact this
      have h2 : (w.room / 512).toNat = w.room.toNat / 512 := by rw [UInt64.toNat_div]; rfl
      rw [nE h1, oS (sHas s hn _ _), h2]
      by_cases c : w.at_.toNat + w.room.toNat / 512 ≤ s.l.length
      · rw [decide_eq_true c, notT, brF, i64nK (by rw [h2]; omega), h2, oS (sRead s hn w.at_ (w.room.toNat / 512) c)]
        dsimp only
        rw [show 512 * (w.room.toNat / 512) = w.room.toNat by omega]
        refine ⟨_, 0, s, rfl, rfl, ?_, fun q => absurd rfl q, fun _ => ⟨fun _ => ⟨rfl, by omega, rfl⟩, fun q => absurd (t0.symm.trans q) (by decide), fun q => ?_, fun q => absurd t0 q⟩⟩
        · rw [List.length_take]; omega
        · rcases q with q | q <;> exact absurd (t0.symm.trans q) (by decide)
      · rw [decide_eq_false c, notF, brT]; exact wk_bad (by decide)
    · rw [nF h1]; exact wk_bad (by decide)
  rw [if_neg t0]
  by_cases t1 : t = 1
  · rw [if_pos t1]
    unfold blk_work_out
    obtain ⟨c, hc⟩ := feat_ok w.feats 5
    rw [oS hc]
    cases c with
    | true => rw [brT]; exact wk_bad (by decide)
    | false =>
      rw [brF]
      rcases sWrite s hn w.at_ w.data (by omega) with ⟨e, e1, e2⟩ | ⟨e1, l', m', e2, e3, e4⟩
      · rw [oS e2, nF e1]; exact wk_bad (by decide)
      · rw [oS e2, nE rfl]
        refine ⟨[], 0, ⟨l', m'⟩, rfl, e3, Nat.zero_le _, fun q => absurd rfl q, fun _ => ⟨fun q => absurd q t0, fun _ => ⟨rfl, e1, e4⟩, fun q => ?_, fun _ q => absurd t1 q⟩⟩
        rcases q with q | q <;> exact absurd (t1.symm.trans q) (by decide)
  rw [if_neg t1]
  by_cases t4 : t = 4
  · rw [if_pos t4]
    unfold blk_work_sync sectors_Store_Flush
    obtain ⟨c, hc⟩ := feat_ok w.feats 9
    rw [oS hc]
    cases c with
    | false => rw [notF, brT]; exact wk_bad (by decide)
    | true =>
      rw [notT, brF, obS]
      refine ⟨[], 0, _, rfl, rfl, Nat.zero_le _, fun q => absurd rfl q, fun _ => ⟨fun q => absurd q t0, fun q => absurd q t1, fun q => ?_, fun _ _ _ _ => ⟨rfl, Or.inl rfl⟩⟩⟩
      rcases q with q | q <;> exact absurd (t4.symm.trans q) (by decide)
  rw [if_neg t4]
  by_cases t8 : t = 8
  · rw [if_pos t8]
    unfold blk_work_id
    by_cases h2 : w.room < 20
    · rw [bP h2, obS]; exact wk_bad (by decide)
    · rw [bN h2, cDK (by decide), obS]
      have e : (copyStr (List.replicate (20 : Int).toNat (0 : UInt8)) w.name).length = 20 := by
        unfold copyStr
        rw [List.length_append, List.length_take, List.length_drop, List.length_replicate, show (20 : Int).toNat = 20 from rfl]; omega
      rw [UInt64.lt_iff_toNat_lt] at h2
      refine ⟨_, 0, s, rfl, rfl, by rw [e]; exact Nat.le_of_not_lt h2, fun q => absurd rfl q, fun _ => ⟨fun q => absurd q t0, fun q => absurd q t1, fun q => ?_, fun _ _ _ _ => ⟨rfl, Or.inr ⟨t8, e⟩⟩⟩⟩
      rcases q with q | q <;> exact absurd (t8.symm.trans q) (by decide)
  rw [if_neg t8]
  by_cases t11 : t = 11
  · rw [if_pos t11]; exact wk_rng (Or.inl t11) (ranges_okK w s hn hd 13 0)
  rw [if_neg t11]
  by_cases t13 : t = 13
  · rw [if_pos t13]; exact wk_rng (Or.inr t13) (ranges_okK w s hn hd 14 1)
  rw [if_neg t13]; exact wk_bad (by decide)
theorem apply_eqK (s : sectors_Store) (f : UInt64) (nm : List UInt8) (r : Req) (hd : r.Data.length ≤ 1000000) (h : okQ r) : blk_Apply s f nm r = ob (wkF r.Type_ ⟨f, nm, (reqB r).drop 16, r.Sector, u64 r.Room⟩ s) fun x => some (x.1, x.2.1, 0, x.2.2) := by
  unfold blk_Apply
  have hlen := reqB_len r
  rw [oS (blkBytes_eq r hd), if_pos h, nE rfl]
  dsimp only
  have e16 : sub (reqB r) (16 : Int) (len (reqB r)) = (reqB r).drop 16 := sub_from _ 16
  have hc : decide (0 ≤ (16 : Int) ∧ (16 : Int) ≤ len (reqB r) ∧ len (reqB r) ≤ len (reqB r)) = true := decide_eq_true (by simp only [len]; omega)
  unfold blk_kind_does wkF
  rw [e16, hc]
  by_cases t0 : r.Type_ = 0
  · rw [bE t0, if_pos t0, obS, chkT, bE rfl]
  rw [bF t0, if_neg t0]
  by_cases t1 : r.Type_ = 1
  · rw [bE t1, if_pos t1, obS, chkT, bF (by decide), bE rfl]
  rw [bF t1, if_neg t1]
  by_cases t4 : r.Type_ = 4
  · rw [bE t4, if_pos t4, obS, chkT, bF (by decide), bF (by decide), bE rfl]
  rw [bF t4, if_neg t4]
  by_cases t8 : r.Type_ = 8
  · rw [bE t8, if_pos t8, obS, chkT, bF (by decide), bF (by decide), bF (by decide), bE rfl]
    cases blk_work_id ⟨f, nm, (reqB r).drop 16, r.Sector, u64 r.Room⟩ s <;> rfl
  rw [bF t8, if_neg t8]
  by_cases t11 : r.Type_ = 11
  · rw [bE t11, if_pos t11, obS, chkT, bF (by decide), bF (by decide), bF (by decide), bF (by decide), bE rfl]
  rw [bF t11, if_neg t11]
  by_cases t13 : r.Type_ = 13
  · rw [bE t13, if_pos t13, obS, chkT, bF (by decide), bF (by decide), bF (by decide), bF (by decide), bF (by decide), bE rfl]
  rw [bF t13, if_neg t13, obS, chkT, bF (by decide), bF (by decide), bF (by decide), bF (by decide), bF (by decide), bF (by decide), cE rfl]
  rfl
end Go.Proofs.Ytjfdamiilndgeaa

end

section
namespace Go.Proofs.Ytjfdamiilndgeaa
/-- may regions be, from pe on? -/
def okA : Nat → List Region → Bool
  | _, [] => true
  | pe, r :: l => decide (0 < r.Len.toNat ∧ r.At.toNat + r.Len.toNat ≤ 18446744073709551616 ∧ pe ≤ r.At.toNat) && okA (r.At.toNat + r.Len.toNat) l
def sumM : List Region → Nat
  | [] => 0
  | r :: l => r.Len.toNat + sumM l
def goodM (l : List Region) : Prop := l.length ≤ 16 ∧ okA 0 l = true ∧ sumM l ≤ 1048576
def errM (l : List Region) : Int := if l.length > 16 then 2 else two (okA 0 l && Nat.ble (sumM l) 1048576)
theorem errM_zero {l : List Region} : errM l = 0 ↔ goodM l := by
  unfold errM goodM
  by_cases h : l.length > 16
  · rw [if_pos h]; constructor
    · intro q; cases q
    · intro q; omega
  · rw [if_neg h]
    cases h2 : okA 0 l && Nat.ble (sumM l) 1048576 with
    | true =>
      rw [twoP rfl]
      simp only [Bool.and_eq_true, Nat.ble_eq] at h2
      exact ⟨fun _ => ⟨by omega, h2⟩, fun _ => rfl⟩
    | false =>
      rw [twoN rfl]
      constructor
      · intro q; cases q
      · rintro ⟨_, q1, q2⟩
        rw [q1, Bool.true_and] at h2
        rw [show Nat.ble (sumM l) 1048576 = true by rw [Nat.ble_eq]; exact q2] at h2; cases h2
/-- where the one before ends -/
def prevE (l : List Region) : Nat → Nat
  | 0 => 0
  | i + 1 => match l[i]? with | some s => s.At.toNat + s.Len.toNat | none => 0
theorem prevE_succ {l : List Region} {i : Nat} (h : i < l.length) : prevE l (i + 1) = l[i].At.toNat + l[i].Len.toNat := by
  simp only [prevE, getq h]
theorem ble_f {a b : Nat} (h : ¬ a ≤ b) : Nat.ble a b = false := by
  cases e : Nat.ble a b with
  | false => rfl
  | true => exact absurd (Nat.ble_eq ▸ e) h
theorem okA_n {pe : Nat} {r : Region} {l : List Region} {q : Bool} (h : ¬ (0 < r.Len.toNat ∧ r.At.toNat + r.Len.toNat ≤ 18446744073709551616 ∧ pe ≤ r.At.toNat)) : (okA pe (r :: l) && q) = false := by
  simp only [okA]; rw [decide_eq_false h]; rfl
theorem okA_p {pe : Nat} {r : Region} {l : List Region} {q : Bool} (h : 0 < r.Len.toNat ∧ r.At.toNat + r.Len.toNat ≤ 18446744073709551616 ∧ pe ≤ r.At.toNat) : (okA pe (r :: l) && q) = (okA (r.At.toNat + r.Len.toNat) l && q) := by
  simp only [okA]; rw [decide_eq_true h]; rfl
theorem gmemCheckL (l : List Region) (hl : l.length ≤ 16) : ∀ (nf i : Nat) (room : UInt64), i ≤ l.length → l.length - i < nf → (∀ j, j < i → ∀ h : j < l.length, 0 < l[j].Len.toNat ∧ l[j].At.toNat + l[j].Len.toNat ≤ 18446744073709551616) →
    gmem_CheckL1 l nf room (i : Int) = some (two (okA (prevE l i) (l.drop i) && Nat.ble (sumM (l.drop i)) room.toNat))
  | 0, i, room, _, h, _ => by omega
  | nf + 1, i, room, hi, hn, hp => by
    unfold gmem_CheckL1 gmem_CheckL1B
    by_cases h : i < l.length
    · have hd : l.drop i = l[i] :: l.drop (i + 1) := drop_ix h
      have hA := l[i].At.toNat_lt; have hL := l[i].Len.toNat_lt
      rw [bP (by simp only [len]; omega), oS (ix_nat (getq h)), hd]
      by_cases h0 : l[i].Len < 1
      · rw [bP h0, twoN (okA_n (fun q => by have := lt64.1 h0; simp only [UInt64.reduceToNat] at this; omega))]
      · have h0' : 0 < l[i].Len.toNat := by
          rcases Nat.eq_zero_or_pos l[i].Len.toNat with e | e
          · exact absurd (lt64.2 (by rw [e]; decide)) h0
          · exact e
        rw [bN h0]
        by_cases h1 : l[i].Len > room
        · rw [bP h1, twoN]
          rw [ble_f (by simp only [sumM]; have := lt64.1 h1; omega), Bool.and_false]
        · have h1' : l[i].Len.toNat ≤ room.toNat := Nat.le_of_not_lt fun q => h1 (lt64.2 q)
          rw [bN h1]
          have e1 : (l[i].Len - 1).toNat = l[i].Len.toNat - 1 := sub64 (by simp only [UInt64.reduceToNat]; omega)
          have e2 : ((18446744073709551615 : UInt64) - l[i].At).toNat = 18446744073709551615 - l[i].At.toNat := sub64 (by simp only [UInt64.reduceToNat]; omega)
          by_cases h2 : l[i].Len - 1 > (18446744073709551615 : UInt64) - l[i].At
          · rw [bP h2, twoN (okA_n (fun q => by have := lt64.1 h2; rw [e1, e2] at this; omega))]
          · have h2' : l[i].At.toNat + l[i].Len.toNat ≤ 18446744073709551616 := by
              have : ¬ ((18446744073709551615 : UInt64) - l[i].At).toNat < (l[i].Len - 1).toNat := fun q => h2 (lt64.2 q)
              rw [e1, e2] at this; omega
            rw [bN h2]
            have ih := gmemCheckL l hl nf (i + 1) (room - l[i].Len) (by omega) (by omega) (fun j hj hjl => by
              by_cases e : j = i
              · subst e; exact ⟨h0', h2'⟩
              · exact hp j (by omega) hjl)
            rw [prevE_succ h, sub64 h1'] at ih
            have eb : Nat.ble (sumM (l.drop (i + 1))) (room.toNat - l[i].Len.toNat) = Nat.ble (sumM (l[i] :: l.drop (i + 1))) room.toNat := by
              simp only [sumM]
              by_cases z : l[i].Len.toNat + sumM (l.drop (i + 1)) ≤ room.toNat
              · rw [Nat.ble_eq_true_of_le z, Nat.ble_eq_true_of_le (by omega)]
              · rw [ble_f z, ble_f (by omega)]
            rw [eb] at ih
            cases i with
            | zero =>
              rw [bN (by simp), wi_succ (by omega), ih, show prevE l 0 = 0 from rfl, okA_p ⟨h0', h2', Nat.zero_le _⟩]
            | succ j =>
              have hj : j < l.length := by omega
              obtain ⟨p1, p2⟩ := hp j (by omega) hj
              have hA2 := l[j].At.toNat_lt
              rw [bP (by omega), wi_pred (by omega), oS (ix_nat (getq hj)), prevE_succ hj]
              by_cases h3 : l[j + 1].At ≤ l[j].At
              · rw [bP h3, twoN (okA_n (fun q => by have := le64.1 h3; omega))]
              · have h3' : l[j].At.toNat < l[j + 1].At.toNat := Nat.lt_of_not_le fun q => h3 (le64.2 q)
                rw [bN h3]
                have e3 : (l[j + 1].At - l[j].At).toNat = l[j + 1].At.toNat - l[j].At.toNat := sub64 (by omega)
                by_cases h4 : l[j + 1].At - l[j].At < l[j].Len
                · rw [bP h4, twoN (okA_n (fun q => by have := lt64.1 h4; rw [e3] at this; omega))]
                · have h4' : l[j].At.toNat + l[j].Len.toNat ≤ l[j + 1].At.toNat := by
                    have : ¬ (l[j + 1].At - l[j].At).toNat < l[j].Len.toNat := fun q => h4 (lt64.2 q)
                    rw [e3] at this; omega
                  rw [bN h4, wi_succ (by omega), ih, okA_p ⟨h0', h2', h4'⟩]
    · rw [bN (by simp only [len]; omega), List.drop_of_length_le (by omega), twoP (by simp [okA, sumM])]
theorem gmemCheck (l : List Region) : gmem_Check l = some (errM l) := by
  unfold gmem_Check errM
  by_cases h : l.length > 16
  · rw [bP (by simp only [len]; omega), if_pos h]
  · rw [bN (by simp only [len]; omega), if_neg h]
    have := gmemCheckL l (by omega) fuel 0 1048576 (by omega) (by unfold fuel; omega) (fun j hj => by omega)
    exact this
theorem errM_good {l : List Region} (h : goodM l) : errM l = 0 := errM_zero.2 h
def zer (l : List Region) : List (List UInt8) := l.map fun r => List.replicate r.Len.toNat 0
theorem sumM_get : ∀ {l : List Region} {i : Nat} (h : i < l.length), l[i].Len.toNat ≤ sumM l
  | [], i, h => by simp at h
  | r :: l, 0, _ => by simp [sumM]
  | r :: l, i + 1, h => by
    have := sumM_get (l := l) (i := i) (by simpa using h)
    simp only [sumM, List.getElem_cons_succ]; omega
theorem gmemNewL (l reg : List Region) (hl : l.length ≤ 16) (hs : sumM l ≤ 1048576) : ∀ (nf i : Nat), i ≤ l.length → l.length - i < nf → gmem_NewL1 l reg nf ((zer l).take i ++ List.replicate (l.length - i) []) (i : Int) = some (some ⟨reg, zer l⟩, 0)
  | 0, i, _, h => by omega
  | nf + 1, i, hi, hn => by
    have hz : (zer l).length = l.length := by simp [zer]
    unfold gmem_NewL1 gmem_NewL1B
    by_cases h : i < l.length
    · have hL := sumM_get h
      rw [bP (by simp only [len]; omega), oS (ix_nat (getq h)), cP (by omega)]
      have hlt : i < ((zer l).take i ++ List.replicate (l.length - i) []).length := by simp [hz]; omega
      rw [oS (ix_nat (getq hlt)), wi_succ (by omega)]
      have e : ((zer l).take i ++ List.replicate (l.length - i) []).set (Int.toNat (i : Int)) (List.replicate (Int.toNat (l[i].Len.toNat : Int)) 0) = (zer l).take (i + 1) ++ List.replicate (l.length - (i + 1)) [] := by
        rw [Int.toNat_natCast, Int.toNat_natCast, List.set_append_right _ _ (by simp; omega)]
        have e1 : i - ((zer l).take i).length = 0 := by simp [hz]; omega
        rw [e1, show l.length - i = (l.length - (i + 1)) + 1 by omega, List.replicate_succ, List.set_cons_zero, List.take_add_one, getq (by omega : i < (zer l).length)]
        simp [zer]
      rw [e]
      exact gmemNewL l reg hl hs nf (i + 1) (by omega) (by omega)
    · have e : i = l.length := by omega
      rw [bN (by simp only [len]; omega), e, Nat.sub_self, List.take_of_length_le (by omega)]
      simp
theorem new_ok {l : List Region} (h : goodM l) : gmem_New l = some (some ⟨l, zer l⟩, 0) := by
  have hl := h.1
  unfold gmem_New
  rw [oS (gmemCheck l), nE (errM_good h)]
  have hc : slices_Clone_apiRegionapiRegion l = some l := by unfold slices_Clone_apiRegionapiRegion; rw [cFits (by simp; omega)]
  rw [oS hc, cP (by simp only [len]; rw [wi_in (by omega) (by omega)]; omega)]
  have := gmemNewL l l hl h.2.2 fuel 0 (by omega) (by unfold fuel; omega)
  rw [List.take_zero, List.nil_append, Nat.sub_zero] at this
  exact this
/-- where n bytes from a on lie: the region -/
def inR (a n : Nat) (r : Region) : Bool := decide (r.At.toNat ≤ a ∧ a + n ≤ r.At.toNat + r.Len.toNat)
def findR (l : List Region) (a n : Nat) : Option Nat := if n = 0 then none else l.findIdx? (inR a n)
/-- a memory as it is made and kept -/
def memOk (l : List Region) (b : List (List UInt8)) : Prop := goodM l ∧ b.length = l.length ∧ ∀ (i : Nat) (r : Region) (x : List UInt8), l[i]? = some r → b[i]? = some x → x.length = r.Len.toNat
theorem okA_get : ∀ {pe : Nat} {l : List Region}, okA pe l = true → ∀ {i : Nat} (h : i < l.length), pe ≤ l[i].At.toNat ∧ 0 < l[i].Len.toNat ∧ l[i].At.toNat + l[i].Len.toNat ≤ 18446744073709551616
  | pe, [], _, i, h => by simp at h
  | pe, r :: l, hk, 0, _ => by
    simp only [okA, Bool.and_eq_true, decide_eq_true_eq] at hk
    exact ⟨hk.1.2.2, hk.1.1, hk.1.2.1⟩
  | pe, r :: l, hk, i + 1, h => by
    simp only [okA, Bool.and_eq_true, decide_eq_true_eq] at hk
    have := okA_get hk.2 (i := i) (by simpa using h)
    simp only [List.getElem_cons_succ]
    exact ⟨by omega, this.2⟩
theorem okA_lt : ∀ {pe : Nat} {l : List Region}, okA pe l = true → ∀ {i j : Nat} (hij : i < j) (h : j < l.length), l[i].At.toNat + l[i].Len.toNat ≤ l[j].At.toNat
  | pe, [], _, i, j, _, h => by simp at h
  | pe, r :: l, hk, 0, j + 1, _, h => by
    simp only [okA, Bool.and_eq_true, decide_eq_true_eq] at hk
    exact (okA_get hk.2 (i := j) (by simpa using h)).1
  | pe, r :: l, hk, i + 1, j + 1, hij, h => by
    simp only [okA, Bool.and_eq_true, decide_eq_true_eq] at hk
    exact okA_lt hk.2 (i := i) (j := j) (by omega) (by simpa using h)
  | pe, r :: l, hk, 0, 0, hij, h => by omega
  | pe, r :: l, hk, i + 1, 0, hij, h => by omega
theorem mid_eq {i j : Nat} (hi : i ≤ j) (hj : j ≤ 16) : i64 (shr64 (u64 (wi ((i : Int) + (j : Int)))) ((1 : UInt64).toNat)) = (((i + j) / 2 : Nat) : Int) := by
  rw [wi_in (by omega) (by omega), show ((i : Int) + (j : Int)) = ((i + j : Nat) : Int) by omega, u64_of]
  have : ∀ n, n ≤ 32 → i64 (shr64 (UInt64.ofNat n) ((1 : UInt64).toNat)) = ((n / 2 : Nat) : Int) := by decide +kernel
  exact this _ (by omega)
theorem end_eq {r : Region} (h : 0 < r.Len.toNat ∧ r.At.toNat + r.Len.toNat ≤ 18446744073709551616) (a : UInt64) : ((r.Len - 1 + r.At) ≥ a) ↔ a.toNat < r.At.toNat + r.Len.toNat := by
  have e1 : (r.Len - 1).toNat = r.Len.toNat - 1 := sub64 (by simp only [UInt64.reduceToNat]; omega)
  have e2 : (r.Len - 1 + r.At).toNat = r.At.toNat + r.Len.toNat - 1 := by rw [UInt64.toNat_add, e1]; omega
  rw [GE.ge, le64, e2]; omega
theorem searchL (m : gmem_Mem) (hg : goodM m.l) (a : UInt64) : ∀ (nf i j : Nat), i ≤ j → j ≤ m.l.length → j - i < nf → (∀ k (h : k < m.l.length), k < i → m.l[k].At.toNat + m.l[k].Len.toNat ≤ a.toNat) → (∀ k (h : k < m.l.length), j ≤ k → a.toNat < m.l[k].At.toNat + m.l[k].Len.toNat) →
    ∃ s : Nat, sort_SearchFgmem_Mem_bytes_1L1 m a nf (i : Int) (j : Int) = some (s : Int) ∧ s ≤ m.l.length ∧ (∀ k (h : k < m.l.length), k < s → m.l[k].At.toNat + m.l[k].Len.toNat ≤ a.toNat) ∧ (∀ k (h : k < m.l.length), s ≤ k → a.toNat < m.l[k].At.toNat + m.l[k].Len.toNat)
  | 0, i, j, _, _, h, _, _ => by omega
  | nf + 1, i, j, hij, hj, hn, hlo, hhi => by
    have hl := hg.1
    unfold sort_SearchFgmem_Mem_bytes_1L1 sort_SearchFgmem_Mem_bytes_1L1B
    by_cases h : i < j
    · rw [bP (by omega), mid_eq hij (by omega)]
      have hm : (i + j) / 2 < m.l.length := by omega
      have gm := ix_nat (getq hm)
      have hb : gmem_Mem_bytes_1 (((i + j) / 2 : Nat) : Int) m a = some (decide ((m.l[(i + j) / 2].Len - 1 + m.l[(i + j) / 2].At) ≥ a)) := by
        unfold gmem_Mem_bytes_1; simp only [oS gm]
      have og := okA_get hg.2.1 hm
      rw [oS hb]
      by_cases hc : a.toNat < m.l[(i + j) / 2].At.toNat + m.l[(i + j) / 2].Len.toNat
      · rw [decide_eq_true ((end_eq og.2 a).2 hc), bFl (show (!true) = false from rfl)]
        refine searchL m hg a nf i ((i + j) / 2) (by omega) (by omega) (by omega) hlo (fun k hk hjk => ?_)
        by_cases e : k = (i + j) / 2
        · subst e; exact hc
        · have := okA_lt hg.2.1 (i := (i + j) / 2) (j := k) (by omega) hk
          omega
      · rw [decide_eq_false (fun q => hc ((end_eq og.2 a).1 q)), bT (show (!false) = true from rfl), wi_succ (by omega)]
        refine searchL m hg a nf ((i + j) / 2 + 1) j (by omega) (by omega) (by omega) (fun k hk hki => ?_) hhi
        by_cases e : k = (i + j) / 2
        · subst e; omega
        · have h1 := okA_lt hg.2.1 (i := k) (j := (i + j) / 2) (by omega) hm
          have h2 := okA_get hg.2.1 hm
          omega
    · have e : i = j := by omega
      subst e
      rw [bN (by omega)]
      exact ⟨i, rfl, hj, hlo, hhi⟩
theorem findR_some {l : List Region} {a n i : Nat} (hk : okA 0 l = true) (hn : 0 < n) (h : i < l.length) (h1 : l[i].At.toNat ≤ a) (h2 : a + n ≤ l[i].At.toNat + l[i].Len.toNat) : findR l a n = some i := by
  unfold findR
  rw [if_neg (by omega), List.findIdx?_eq_some_iff_getElem]
  refine ⟨h, by simp [inR, h1, h2], fun j hj => ?_⟩
  have := okA_lt hk hj h
  simp [inR]; omega
theorem findR_none {l : List Region} {a n : Nat} (h : ∀ (i : Nat) (hi : i < l.length), l[i].At.toNat ≤ a → ¬ a + n ≤ l[i].At.toNat + l[i].Len.toNat) : findR l a n = none := by
  unfold findR
  by_cases h0 : n = 0
  · rw [if_pos h0]
  · rw [if_neg h0, List.findIdx?_eq_none_iff]
    intro r hr
    obtain ⟨i, hi, rfl⟩ := List.mem_iff_getElem.1 hr
    have := h i hi
    simp only [inR, decide_eq_false_iff_not]; omega
/-- what 'bytes' hands out -/
def winR (l : List Region) (a n : Nat) : Option (Int × Int × Int) := match findR l a n with
  | none => none
  | some i => match l[i]? with | none => none | some r => some ((i : Int), ((a - r.At.toNat : Nat) : Int), ((a - r.At.toNat + n : Nat) : Int))
theorem bytes_eq (m : gmem_Mem) (hm : memOk m.l m.b) (a n : UInt64) : gmem_Mem_bytes m a n = some (winR m.l a.toNat n.toNat) := by
  obtain ⟨hg, hlen, hrow⟩ := hm
  have ha := a.toNat_lt; have hnb := n.toNat_lt
  unfold gmem_Mem_bytes winR
  by_cases h0 : n < 1
  · have : n.toNat = 0 := by have := lt64.1 h0; simp only [UInt64.reduceToNat] at this; omega
    rw [bP h0, show findR m.l a.toNat n.toNat = none by simp [findR, this]]
  · have hn : 0 < n.toNat := by
      rcases Nat.eq_zero_or_pos n.toNat with e | e
      · exact absurd (lt64.2 (by rw [e]; decide)) h0
      · exact e
    rw [bN h0]
    obtain ⟨s, hs, hsl, hlo, hhi⟩ := searchL m hg a fuel 0 m.l.length (by omega) (by omega) (by have := hg.1; unfold fuel; omega) (fun k hk h => by omega) (fun k hk h => by omega)
    have hsrch : sort_SearchFgmem_Mem_bytes_1 (len m.l) m a = some (s : Int) := by unfold sort_SearchFgmem_Mem_bytes_1; exact hs
    rw [oS hsrch]
    by_cases e : s = m.l.length
    · rw [bE (by simp only [len]; omega), findR_none (fun i hi h1 => by have := hlo i hi (by omega); omega)]
    · have hslt : s < m.l.length := by omega
      have og := okA_get hg.2.1 hslt
      have hh := hhi s hslt (Nat.le_refl _)
      have gi := ix_nat (getq hslt)
      rw [bF (by simp only [len]; omega)]
      simp only [oS gi]
      by_cases h2 : a < m.l[s].At
      · have h2' := lt64.1 h2
        rw [bP h2, findR_none (fun i hi h1 => by
          rcases Nat.lt_trichotomy i s with q | q | q
          · have := hlo i hi q; omega
          · subst q; omega
          · have := okA_lt hg.2.1 q hi; omega)]
      · have h2' : m.l[s].At.toNat ≤ a.toNat := Nat.le_of_not_lt fun q => h2 (lt64.2 q)
        have e1 : (a - m.l[s].At).toNat = a.toNat - m.l[s].At.toNat := sub64 h2'
        have e2 : (m.l[s].Len - (a - m.l[s].At)).toNat = m.l[s].Len.toNat - (a.toNat - m.l[s].At.toNat) := by rw [sub64 (by rw [e1]; omega), e1]
        rw [bN h2]
        by_cases h3 : n > m.l[s].Len - (a - m.l[s].At)
        · have h3' := lt64.1 h3
          rw [e2] at h3'
          rw [bP h3, findR_none (fun i hi h1 => by
            rcases Nat.lt_trichotomy i s with q | q | q
            · have := hlo i hi q; omega
            · subst q; omega
            · have := okA_lt hg.2.1 q hi; omega)]
        · have h3' : n.toNat ≤ m.l[s].Len.toNat - (a.toNat - m.l[s].At.toNat) := by
            rw [← e2]; exact Nat.le_of_not_lt fun q => h3 (lt64.2 q)
          have hb : s < m.b.length := by omega
          have hr := hrow s _ _ (getq hslt) (getq hb)
          have hL := m.l[s].Len.toNat_lt
          have e4 : (a - m.l[s].At + n).toNat = a.toNat - m.l[s].At.toNat + n.toNat := by rw [UInt64.toNat_add, e1]; omega
          rw [bN h3, oS (ix_nat (getq hb)), e1, e4, cP (by simp only [len]; omega), findR_some hg.2.1 hn hslt h2' (by omega)]
          simp only [getq hslt]
/-- what is found is there -/
theorem findR_in {l : List Region} {a n i : Nat} (h : findR l a n = some i) : ∃ (hi : i < l.length), 0 < n ∧ l[i].At.toNat ≤ a ∧ a + n ≤ l[i].At.toNat + l[i].Len.toNat := by
  unfold findR at h
  by_cases h0 : n = 0
  · rw [if_pos h0] at h; cases h
  · rw [if_neg h0, List.findIdx?_eq_some_iff_getElem] at h
    obtain ⟨hi, h1, _⟩ := h
    simp only [inR, decide_eq_true_eq] at h1
    exact ⟨hi, by omega, h1.1, h1.2⟩
theorem has_eq (m : gmem_Mem) (hm : memOk m.l m.b) (a n : UInt64) : gmem_Mem_Has m a n = some (findR m.l a.toNat n.toNat).isSome := by
  unfold gmem_Mem_Has
  rw [oS (show gmem_Mem_made m = some true from rfl), oS (bytes_eq m hm a n)]
  unfold winR
  cases hf : findR m.l a.toNat n.toNat with
  | none => rfl
  | some i =>
    obtain ⟨hi, h0, h1, h2⟩ := findR_in hf
    have hb : i < m.b.length := by rw [hm.2.1]; exact hi
    have hr := hm.2.2 i _ _ (getq hi) (getq hb)
    simp only [getq hi]
    rw [onS]
    dsimp only
    rw [oS (ix_nat (getq hb)), cP (by simp only [len]; omega), cP (by omega)]
    rfl
/-- the n bytes from a on -/
def readR (l : List Region) (b : List (List UInt8)) (a n : Nat) : Option (List UInt8) := match findR l a n with
  | none => none
  | some i => match l[i]?, b[i]? with | some r, some x => some ((x.drop (a - r.At.toNat)).take n) | _, _ => none
theorem read_eqM (m : gmem_Mem) (hm : memOk m.l m.b) (a : UInt64) (n : Int) (hn : n ≤ 140737488355328) : gmem_Mem_Read m a n = some (if n < 0 then (([] : List UInt8), (2 : Int)) else if n = 0 then ([], 0) else match readR m.l m.b a.toNat n.toNat with | none => ([], 5) | some x => (x, 0)) := by
  unfold gmem_Mem_Read
  rw [oS (show gmem_Mem_made m = some true from rfl)]
  by_cases h0 : n < 0
  · rw [bP h0, if_pos h0]
  · rw [bN h0, if_neg h0]
    by_cases h1 : n = 0
    · rw [bE h1, if_pos h1]
    · obtain ⟨k, rfl⟩ : ∃ k : Nat, n = (k : Int) := ⟨n.toNat, by omega⟩
      rw [bF h1, if_neg h1, u64_of, oS (bytes_eq m hm a _), UInt64.toNat_ofNat', Nat.mod_eq_of_lt (by omega), Int.toNat_natCast]
      unfold winR readR
      cases hf : findR m.l a.toNat k with
      | none => rfl
      | some i =>
        obtain ⟨hi, q0, q1, q2⟩ := findR_in hf
        have hb : i < m.b.length := by rw [hm.2.1]; exact hi
        have hr := hm.2.2 i _ _ (getq hi) (getq hb)
        simp only [getq hi, getq hb]
        have hs : sub m.b[i] ((a.toNat - m.l[i].At.toNat : Nat) : Int) ((a.toNat - m.l[i].At.toNat + k : Nat) : Int) = (m.b[i].drop (a.toNat - m.l[i].At.toNat)).take k := by
          rw [sub_nat]; congr 1; omega
        rw [onS]
        dsimp only
        rw [oS (ix_nat (getq hb)), cP (by simp only [len]; omega), cP (by omega), hs]
        have hc : ∀ x : List UInt8, x.length ≤ k → slices_Clone_bytebyte x = some x := fun x hx => by unfold slices_Clone_bytebyte; rw [cFits (by simp; omega)]
        rw [oS (hc _ (by simp; omega))]
/-- xs laid at a -/
def writeR (l : List Region) (b : List (List UInt8)) (a : Nat) (xs : List UInt8) : Option (List (List UInt8)) := match findR l a xs.length with
  | none => none
  | some i => match l[i]?, b[i]? with | some r, some x => some (b.set i (x.take (a - r.At.toNat) ++ xs ++ x.drop (a - r.At.toNat + xs.length))) | _, _ => none
theorem copyAt_all {x xs : List UInt8} {o m : Nat} (h : o + xs.length ≤ m) : copyAt x (o : Int) (m : Int) xs = x.take o ++ xs ++ x.drop (o + xs.length) := by
  unfold copyAt
  simp only [Int.toNat_natCast]
  rw [show xs.take (m - o) = xs from List.take_of_length_le (by omega), Nat.min_eq_left (by omega)]
theorem write_eqM (m : gmem_Mem) (hm : memOk m.l m.b) (a : UInt64) (xs : List UInt8) (hn : xs.length ≤ 140737488355328) : gmem_Mem_Write m a xs = some (if xs = [] then ((0 : Int), m.b) else match writeR m.l m.b a.toNat xs with | none => (5, m.b) | some b => (0, b)) := by
  unfold gmem_Mem_Write
  rw [oS (show gmem_Mem_made m = some true from rfl)]
  by_cases h1 : xs = []
  · rw [bE (by rw [h1]; rfl), if_pos h1]
  · have hl : 0 < xs.length := List.length_pos_iff.2 h1
    rw [bF (by simp only [len]; omega), if_neg h1, show len xs = ((xs.length : Nat) : Int) from rfl, u64_of, oS (bytes_eq m hm a _), UInt64.toNat_ofNat', Nat.mod_eq_of_lt (by omega)]
    unfold winR writeR
    cases hf : findR m.l a.toNat xs.length with
    | none => rfl
    | some i =>
      obtain ⟨hi, q0, q1, q2⟩ := findR_in hf
      have hb : i < m.b.length := by rw [hm.2.1]; exact hi
      have hr := hm.2.2 i _ _ (getq hi) (getq hb)
      simp only [getq hi, getq hb]
      rw [onS]
      dsimp only
      rw [oS (ix_nat (getq hb)), cP (by simp only [len]; omega), cP (by omega), copyAt_all (by omega), Int.toNat_natCast]
theorem write_ok {l : List Region} {b b' : List (List UInt8)} {a : Nat} {xs : List UInt8} (hm : memOk l b) (h : writeR l b a xs = some b') : memOk l b' := by
  unfold writeR at h
  cases hf : findR l a xs.length with
  | none => rw [hf] at h; cases h
  | some i =>
    obtain ⟨hi, q0, q1, q2⟩ := findR_in hf
    have hb : i < b.length := by rw [hm.2.1]; exact hi
    have hr := hm.2.2 i _ _ (getq hi) (getq hb)
    rw [hf] at h
    simp only [getq hi, getq hb, Option.some.injEq] at h
    subst h
    refine ⟨hm.1, by simpa using hm.2.1, fun j r x h1 h2 => ?_⟩
    by_cases e : j = i
    · subst e
      rw [List.getElem?_set_self hb] at h2
      rw [getq hi] at h1; cases h1; cases h2
      simp only [List.length_append, List.length_take, List.length_drop]; omega
    · rw [List.getElem?_set_ne (fun q => e q.symm)] at h2
      exact hm.2.2 j r x h1 h2
def lenR (b : List (List UInt8)) : Nat := b.flatten.length
theorem grow_eq (n : Nat) (h : n ≤ 140737488355328) : slices_Grow_bytebyten0 (n : Int) = some [] := by
  unfold slices_Grow_bytebyten0 slices_Grow_bytebyten0J1
  have e : wi ((n : Int) - wi ((0 : Int) - 0)) = (n : Int) := by rw [show wi ((0 : Int) - 0) = 0 from rfl, wi_in (by omega) (by omega)]; omega
  rw [cN (by omega), e]
  by_cases q : (n : Int) > 0
  · rw [bP q, cP (by omega), cP (by simp only [len]; omega)]; rfl
  · rw [bN q]
theorem concat4 (b : List (List UInt8)) (hl : b.length ≤ 1000000) (hs : lenR b ≤ 100000000000000) : ∀ (nf i : Nat), i ≤ b.length → b.length - i < nf → slices_Concat_bytebyteL4 b nf (b.take i).flatten (i : Int) = some b.flatten
  | 0, i, _, h => by omega
  | nf + 1, i, hi, hn => by
    unfold slices_Concat_bytebyteL4 slices_Concat_bytebyteL4B
    by_cases h : i < b.length
    · have e : (b.take i).flatten ++ b[i] = (b.take (i + 1)).flatten := by
        rw [List.take_add_one, getq h, List.flatten_append]; simp
      have hle : ((b.take i).flatten ++ b[i]).length ≤ b.flatten.length := by
        rw [e]
        conv => rhs; rw [← List.take_append_drop (i + 1) b, List.flatten_append, List.length_append]
        omega
      rw [List.length_append] at hle
      unfold lenR at hs
      rw [bP (by simp only [len]; omega), oS (ix_nat (getq h)), cFits (by omega), wi_succ (by omega), e]
      exact concat4 b hl hs nf (i + 1) (by omega) (by omega)
    · rw [bN (by simp only [len]; omega), List.take_of_length_le (by omega)]
theorem concat1 (b : List (List UInt8)) (hl : b.length ≤ 1000000) (hs : lenR b ≤ 100000000000000) : ∀ (nf i : Nat), i ≤ b.length → b.length - i < nf → slices_Concat_bytebyteL1 b nf ((lenR (b.take i) : Nat) : Int) (i : Int) = some b.flatten
  | 0, i, _, h => by omega
  | nf + 1, i, hi, hn => by
    unfold slices_Concat_bytebyteL1 slices_Concat_bytebyteL1B
    have hle : lenR (b.take i) ≤ lenR b := by
      unfold lenR
      conv => rhs; rw [← List.take_append_drop i b, List.flatten_append, List.length_append]
      omega
    by_cases h : i < b.length
    · have e : lenR (b.take (i + 1)) = lenR (b.take i) + b[i].length := by
        unfold lenR
        rw [List.take_add_one, getq h, List.flatten_append, List.length_append]; simp
      have hle2 : lenR (b.take (i + 1)) ≤ lenR b := by
        unfold lenR
        conv => rhs; rw [← List.take_append_drop (i + 1) b, List.flatten_append, List.length_append]
        omega
      have ew : wi (((lenR (b.take i) : Nat) : Int) + len b[i]) = ((lenR (b.take (i + 1)) : Nat) : Int) := by
        rw [wi_in (by simp only [len]; omega) (by simp only [len]; omega), e]; simp only [len]; omega
      rw [bP (by simp only [len]; omega), oS (ix_nat (getq h)), ew, cN (by omega)]
      unfold slices_Concat_bytebyteJ3 slices_Concat_bytebyteJ2
      rw [ew, wi_succ (by omega)]
      exact concat1 b hl hs nf (i + 1) (by omega) (by omega)
    · rw [bN (by simp only [len]; omega), oS (grow_eq _ (by omega))]
      have := concat4 b hl hs fuel 0 (by omega) (by unfold fuel; omega)
      simpa using this
theorem concat_eq (b : List (List UInt8)) (hl : b.length ≤ 1000000) (hs : lenR b ≤ 100000000000000) : slices_Concat_bytebyte b = some b.flatten := by
  unfold slices_Concat_bytebyte
  have := concat1 b hl hs fuel 0 (by omega) (by unfold fuel; omega)
  simpa [lenR] using this
end Go.Proofs.Ytjfdamiilndgeaa

end

section
namespace Go.Proofs.Ytjfdamiilndgeaa
/-- may segments be, behind one that is written or not? -/
def okS : Bool → List Seg → Bool
  | _, [] => true
  | w, s :: r => decide (0 < s.Len.toNat ∧ s.At.toNat + s.Len.toNat ≤ 18446744073709551616 ∧ (w = true → s.Write = true)) && okS s.Write r
def sumS : List Seg → Nat
  | [] => 0
  | s :: r => s.Len.toNat + sumS r
def rdS : List Seg → Nat
  | [] => 0
  | s :: r => (if s.Write then 0 else s.Len.toNat) + rdS r
def wrS : List Seg → Nat
  | [] => 0
  | s :: r => (if s.Write then s.Len.toNat else 0) + wrS r
/-- may a buffer be? -/
def goodS (l : List Seg) : Prop := l.length ≤ 64 ∧ okS false l = true ∧ sumS l < 4294967296
instance (l : List Seg) : Decidable (goodS l) := by unfold goodS; infer_instance
def errS (l : List Seg) : Int := if l.length > 64 then 3 else two (okS false l && Nat.blt (sumS l) 4294967296)
theorem errS_zero {l : List Seg} : errS l = 0 ↔ goodS l := by
  unfold errS goodS
  by_cases h : l.length > 64
  · rw [if_pos h]; constructor
    · intro q; cases q
    · intro q; omega
  · rw [if_neg h]
    cases h2 : okS false l && Nat.blt (sumS l) 4294967296 with
    | true =>
      rw [twoP rfl]
      simp only [Bool.and_eq_true, Nat.blt_eq] at h2
      exact ⟨fun _ => ⟨by omega, h2⟩, fun _ => rfl⟩
    | false =>
      rw [twoN rfl]
      constructor
      · intro q; cases q
      · rintro ⟨_, q1, q2⟩
        rw [q1, Bool.true_and] at h2
        rw [show Nat.blt (sumS l) 4294967296 = true by rw [Nat.blt_eq]; exact q2] at h2; cases h2
theorem errS_good {l : List Seg} (h : goodS l) : errS l = 0 := errS_zero.2 h
theorem errS_bad {l : List Seg} (h : ¬ goodS l) : errS l ≠ 0 := fun q => h (errS_zero.1 q)
theorem sumS_le : ∀ l : List Seg, sumS l ≤ 4294967295 * l.length
  | [] => by simp [sumS]
  | s :: r => by
    have := sumS_le r; have hs := s.Len.toNat_lt
    simp only [sumS, List.length_cons]; omega
/-- is the one before written? -/
def prevW (l : List Seg) : Nat → Bool
  | 0 => false
  | i + 1 => match l[i]? with | some s => s.Write | none => false
theorem prevW_succ {l : List Seg} {i : Nat} (h : i < l.length) : prevW l (i + 1) = l[i].Write := by
  simp only [prevW, getq h]
theorem len32 (s : Seg) (h : s.Len ≠ 0) : 0 < s.Len.toNat := by
  rcases Nat.eq_zero_or_pos s.Len.toNat with e | e
  · exact absurd (UInt32.toNat_inj.1 (by simpa using e)) h
  · exact e
theorem add64 (n : Nat) (x : UInt32) : UInt64.ofNat n + x.toUInt64 = UInt64.ofNat (n + x.toNat) := by
  rw [UInt64.ofNat_add]; congr 1
  apply UInt64.toNat_inj.1
  have := x.toNat_lt
  simp only [UInt32.toNat_toUInt64, UInt64.toNat_ofNat']; omega
theorem over1 (s : Seg) (h : 0 < s.Len.toNat) : (s.Len.toUInt64 - 1 > (18446744073709551615 : UInt64) - s.At) ↔ ¬ s.At.toNat + s.Len.toNat ≤ 18446744073709551616 := by
  have h1 := s.Len.toNat_lt; have h2 := s.At.toNat_lt
  rw [GT.gt, UInt64.lt_iff_toNat_lt, UInt64.toNat_sub_of_le, UInt64.toNat_sub_of_le, UInt32.toNat_toUInt64]
  · simp only [UInt64.reduceToNat]; omega
  · rw [UInt64.le_iff_toNat_le, UInt32.toNat_toUInt64]; simp only [UInt64.reduceToNat]; omega
  · rw [UInt64.le_iff_toNat_le]; simp only [UInt64.reduceToNat]; omega
theorem over2 (s : Seg) (h : 0 < s.Len.toNat) : (s.At + (s.Len.toUInt64 - 1) < s.At) ↔ ¬ s.At.toNat + s.Len.toNat ≤ 18446744073709551616 := by
  have h1 := s.Len.toNat_lt; have h2 := s.At.toNat_lt
  rw [UInt64.lt_iff_toNat_lt, UInt64.toNat_add, UInt64.toNat_sub_of_le, UInt32.toNat_toUInt64]
  · simp only [UInt64.reduceToNat]; omega
  · rw [UInt64.le_iff_toNat_le, UInt32.toNat_toUInt64]; simp only [UInt64.reduceToNat]; omega
theorem ge32 (n : Nat) (h : n < 18446744073709551616) : (UInt64.ofNat n ≥ 4294967296) ↔ ¬ n < 4294967296 := by
  rw [GE.ge, UInt64.le_iff_toNat_le, UInt64.toNat_ofNat']; simp only [UInt64.reduceToNat]; omega
theorem segCheckL (l : List Seg) (hl : l.length ≤ 64) : ∀ (nf i n : Nat) (m : Int), i ≤ l.length → l.length - i < nf → n + sumS (l.drop i) < 18446744073709551616 →
    seg_CheckL1 l nf m (UInt64.ofNat n) (i : Int) = some (two (okS (prevW l i) (l.drop i) && Nat.blt (n + sumS (l.drop i)) 4294967296))
  | 0, i, n, m, _, h, _ => by omega
  | nf + 1, i, n, m, hi, hn, hs => by
    unfold seg_CheckL1 seg_CheckL1B
    by_cases h : i < l.length
    · have hd : l.drop i = l[i] :: l.drop (i + 1) := drop_ix h
      rw [hd] at hs ⊢
      simp only [sumS] at hs
      have ih := segCheckL l hl nf (i + 1) (n + l[i].Len.toNat) m (by omega) (by omega) (by omega)
      rw [prevW_succ h] at ih
      simp only [okS, sumS]
      have c2 : seg_Check_1 2 (UInt64.ofNat n) = some 2 := rfl
      rw [bP (by simp only [len]; omega), oS (ix_nat (getq h))]
      by_cases h0 : l[i].Len = 0
      · rw [bP (show l[i].Len < 1 by rw [h0]; decide), oS c2]
        rw [twoN (by rw [h0]; simp)]
      have hp := len32 _ h0
      rw [bN (show ¬ l[i].Len < 1 by rw [UInt32.lt_iff_toNat_lt]; simp only [UInt32.reduceToNat]; omega)]
      by_cases ho : l[i].At.toNat + l[i].Len.toNat ≤ 18446744073709551616
      · rw [bN (fun q => (over1 _ hp).1 q ho)]
        have go : some (two (okS l[i].Write (l.drop (i + 1)) && Nat.blt (n + l[i].Len.toNat + sumS (l.drop (i + 1))) 4294967296)) = seg_CheckL1 l nf m (UInt64.ofNat n + l[i].Len.toUInt64) (wi ((i : Int) + 1)) := by
          rw [add64, wi_succ (by omega), ih]
        cases i with
        | zero =>
          rw [bN (by simp), ← go]
          congr 2
          simp [prevW, hp, ho, Nat.add_assoc]
        | succ j =>
          rw [bP (by omega), wi_pred (by omega), oS (ix_nat (getq (by omega)))]
          rw [prevW_succ (by omega)]
          by_cases hw : l[j].Write = true
          · rw [bT hw]
            by_cases hw2 : l[j + 1].Write = true
            · rw [bFl (by rw [hw2]; rfl), ← go]
              congr 2
              simp [hp, ho, hw2, Nat.add_assoc]
            · rw [bT (by simpa using hw2), oS c2, twoN (by simp [hw, hw2])]
          · rw [bFl (by simpa using hw), ← go]
            congr 2
            simp [hp, ho, hw, Nat.add_assoc]
      · rw [bP ((over1 _ hp).2 ho), oS c2, twoN (by simp [ho])]
    · have hd : l.drop i = [] := List.drop_of_length_le (by omega)
      rw [hd] at hs ⊢
      simp only [sumS, Nat.add_zero] at hs ⊢
      rw [bN (by simp only [len]; omega)]
      unfold seg_Check_1
      rw [show br ((0 : Int) == 0) (br (decide (UInt64.ofNat n ≥ 4294967296)) (some 2) (some 0)) (some 0) = br (decide (UInt64.ofNat n ≥ 4294967296)) (some (2 : Int)) (some 0) from rfl]
      by_cases hq : n < 4294967296
      · rw [bN (fun q => (ge32 n hs).1 q hq), obS, twoP (by simp [okS, hq])]
      · rw [bP ((ge32 n hs).2 hq), obS, twoN (by rw [blt_f hq, Bool.and_false])]
theorem segCheck (l : List Seg) : seg_Check l = some (errS l) := by
  unfold seg_Check errS
  by_cases h : l.length > 64
  · rw [bP (by simp only [len]; omega), if_pos h]
  · have := sumS_le l
    have h1 := segCheckL l (by omega) fuel 0 0 0 (by omega) (by unfold fuel; omega) (by simp; omega)
    rw [bN (by simp only [len]; omega), if_neg h]
    simp only [List.drop_zero, Nat.zero_add, prevW] at h1
    exact h1
theorem refCheckL (l : List Seg) (hl : l.length ≤ 64) : ∀ (nf i n : Nat), i ≤ l.length → l.length - i < nf → n + sumS (l.drop i) < 18446744073709551616 →
    ref_Check05L1 l nf (UInt64.ofNat n) (i : Int) = some (two (okS (prevW l i) (l.drop i) && Nat.blt (n + sumS (l.drop i)) 4294967296))
  | 0, i, n, _, h, _ => by omega
  | nf + 1, i, n, hi, hn, hs => by
    unfold ref_Check05L1 ref_Check05L1B
    by_cases h : i < l.length
    · have hd : l.drop i = l[i] :: l.drop (i + 1) := drop_ix h
      rw [hd] at hs ⊢
      simp only [sumS] at hs
      have ih := refCheckL l hl nf (i + 1) (n + l[i].Len.toNat) (by omega) (by omega) (by omega)
      rw [prevW_succ h] at ih
      simp only [okS, sumS]
      have gi := ix_nat (getq h)
      rw [bP (by simp only [len]; omega)]
      simp only [oS gi]
      by_cases h0 : l[i].Len = 0
      · rw [bE h0, twoN (by rw [h0]; simp)]
      have hp := len32 _ h0
      rw [bF h0]
      by_cases ho : l[i].At.toNat + l[i].Len.toNat ≤ 18446744073709551616
      · rw [bN (fun q => (over2 _ hp).1 q ho)]
        have go : some (two (okS l[i].Write (l.drop (i + 1)) && Nat.blt (n + l[i].Len.toNat + sumS (l.drop (i + 1))) 4294967296)) = ref_Check05L1 l nf (UInt64.ofNat n + l[i].Len.toUInt64) (wi ((i : Int) + 1)) := by
          rw [add64, wi_succ (by omega), ih]
        cases i with
        | zero =>
          rw [bN (by simp), ← go]
          congr 2
          simp [prevW, hp, ho, Nat.add_assoc]
        | succ j =>
          rw [bP (by omega), wi_pred (by omega), oS (ix_nat (getq (by omega)))]
          rw [prevW_succ (by omega)]
          by_cases hw : l[j].Write = true
          · rw [bT hw]
            by_cases hw2 : l[j + 1].Write = true
            · rw [bFl (by rw [hw2]; rfl), ← go]
              congr 2
              simp [hp, ho, hw2, Nat.add_assoc]
            · rw [bT (by simpa using hw2), twoN (by simp [hw, hw2])]
          · rw [bFl (by simpa using hw), ← go]
            congr 2
            simp [hp, ho, hw, Nat.add_assoc]
      · rw [bP ((over2 _ hp).2 ho), twoN (by simp [ho])]
    · have hd : l.drop i = [] := List.drop_of_length_le (by omega)
      rw [hd] at hs ⊢
      simp only [sumS, Nat.add_zero] at hs ⊢
      rw [bN (by simp only [len]; omega)]
      by_cases hq : n < 4294967296
      · rw [bN (fun q => (ge32 n hs).1 q hq), twoP (by simp [okS, hq])]
      · rw [bP ((ge32 n hs).2 hq), twoN (by rw [blt_f hq, Bool.and_false])]
theorem refCheck (l : List Seg) : ref_Check05 l = some (errS l) := by
  unfold ref_Check05 errS
  by_cases h : l.length > 64
  · rw [bP (by simp only [len]; omega), if_pos h]
  · have := sumS_le l
    have h1 := refCheckL l (by omega) fuel 0 0 (by omega) (by unfold fuel; omega) (by simp; omega)
    rw [bN (by simp only [len]; omega), if_neg h]
    simp only [List.drop_zero, Nat.zero_add, prevW] at h1
    exact h1
/-- how many bytes are read, and written -/
def totS (l : List Seg) : UInt64 × UInt64 := if goodS l then (UInt64.ofNat (rdS l), UInt64.ofNat (wrS l)) else (0, 0)
theorem segTotalL (l : List Seg) (hl : l.length ≤ 64) : ∀ (nf i a b : Nat), i ≤ l.length → l.length - i < nf → seg_TotalL1 l nf (UInt64.ofNat a) (UInt64.ofNat b) (i : Int) = some (UInt64.ofNat (a + rdS (l.drop i)), UInt64.ofNat (b + wrS (l.drop i)))
  | 0, i, a, b, _, h => by omega
  | nf + 1, i, a, b, hi, hn => by
    unfold seg_TotalL1 seg_TotalL1B
    by_cases h : i < l.length
    · have hd : l.drop i = l[i] :: l.drop (i + 1) := drop_ix h
      rw [hd, bP (by simp only [len]; omega), oS (ix_nat (getq h))]
      simp only [rdS, wrS]
      by_cases hw : l[i].Write = true
      · rw [bT hw]
        unfold seg_TotalJ3 seg_TotalJ2
        rw [add64, wi_succ (by omega), segTotalL l hl nf (i + 1) a _ (by omega) (by omega)]
        simp only [hw, if_true, Nat.zero_add, Nat.add_assoc]
      · rw [bFl (by simpa using hw)]
        unfold seg_TotalJ3 seg_TotalJ2
        rw [add64, wi_succ (by omega), segTotalL l hl nf (i + 1) _ b (by omega) (by omega)]
        simp only [hw, Nat.zero_add, Nat.add_assoc]; simp
    · rw [bN (by simp only [len]; omega), List.drop_of_length_le (by omega)]; simp [rdS, wrS]
theorem segTotal (l : List Seg) : seg_Total l = some (totS l) := by
  unfold seg_Total totS
  rw [oS (segCheck l)]
  by_cases h : goodS l
  · rw [nE (errS_good h), if_pos h]
    have h1 := segTotalL l h.1 fuel 0 0 0 (by omega) (by unfold fuel; have := h.1; omega)
    simp only [List.drop_zero, Nat.zero_add] at h1
    exact h1
  · rw [nF (errS_bad h), if_neg h]
end Go.Proofs.Ytjfdamiilndgeaa

end

section
namespace Go.Proofs.Ytjfdamiilndgeaa
def hdS (x : Seg) (k : Nat) : Seg := ⟨x.At, UInt32.ofNat k, x.Write⟩
def tlS (x : Seg) (k : Nat) : Seg := ⟨x.At + UInt64.ofNat k, UInt32.ofNat (x.Len.toNat - k), x.Write⟩
def takeS : Nat → List Seg → List Seg
  | _, [] => []
  | n, x :: r => if n = 0 then [] else if n < x.Len.toNat then [hdS x n] else x :: takeS (n - x.Len.toNat) r
def dropS : Nat → List Seg → List Seg
  | _, [] => []
  | n, x :: r => if n = 0 then x :: r else if n < x.Len.toNat then tlS x n :: r else dropS (n - x.Len.toNat) r
theorem take0 (l : List Seg) : takeS 0 l = [] := by cases l <;> simp [takeS]
theorem drop0 (l : List Seg) : dropS 0 l = l := by cases l <;> simp [dropS]
def posS (l : List Seg) : Prop := ∀ s ∈ l, 0 < s.Len.toNat
theorem okS_pos : ∀ {w : Bool} {l : List Seg}, okS w l = true → posS l
  | _, [], _ => fun s h => by cases h
  | w, x :: r, h => by
    simp only [okS, Bool.and_eq_true, decide_eq_true_eq] at h
    intro s hs
    rcases List.mem_cons.1 hs with e | e
    · subst e; exact h.1.1
    · exact okS_pos h.2 s e
theorem hd_len {x : Seg} {n : Nat} (h : n < x.Len.toNat) : (hdS x n).Len.toNat = n := by
  have := x.Len.toNat_lt
  simp only [hdS, UInt32.toNat_ofNat']; omega
theorem tl_len {x : Seg} {n : Nat} : (tlS x n).Len.toNat = x.Len.toNat - n := by
  have := x.Len.toNat_lt
  simp only [tlS, UInt32.toNat_ofNat']; omega
theorem tl_at {x : Seg} {n : Nat} (h : n < x.Len.toNat) (ha : x.At.toNat + x.Len.toNat ≤ 18446744073709551616) : (tlS x n).At.toNat = x.At.toNat + n := by
  have := x.Len.toNat_lt
  simp only [tlS, UInt64.toNat_add, UInt64.toNat_ofNat']; omega
theorem sum_take : ∀ (n : Nat) (l : List Seg), sumS (takeS n l) = min n (sumS l)
  | n, [] => by simp [takeS, sumS]
  | n, x :: r => by
    unfold takeS
    by_cases h0 : n = 0
    · rw [if_pos h0]; simp [sumS, h0]
    · rw [if_neg h0]
      by_cases h1 : n < x.Len.toNat
      · rw [if_pos h1]; simp only [sumS, hd_len h1]; omega
      · rw [if_neg h1]
        have := sum_take (n - x.Len.toNat) r
        simp only [sumS]; omega
theorem len_take : ∀ (n : Nat) (l : List Seg), (takeS n l).length ≤ l.length
  | n, [] => by simp [takeS]
  | n, x :: r => by
    unfold takeS
    have := len_take (n - x.Len.toNat) r
    split
    · simp
    · split
      · simp
      · simp only [List.length_cons]; omega
theorem take_take : ∀ (m n : Nat) (l : List Seg), takeS m (takeS n l) = takeS (min m n) l
  | m, n, [] => rfl
  | m, n, x :: r => by
    rw [takeS.eq_2 n]
    by_cases h0 : n = 0
    · rw [if_pos h0, h0]; simp [take0, takeS]
    · rw [if_neg h0]
      by_cases h1 : n < x.Len.toNat
      · rw [if_pos h1]
        simp only [takeS, hd_len h1]
        by_cases hm : m = 0
        · rw [if_pos hm, if_pos (show min m n = 0 by omega)]
        · by_cases hm2 : m < n
          · rw [if_neg hm, if_pos hm2, if_neg (show ¬ min m n = 0 by omega), if_pos (show min m n < x.Len.toNat by omega), show min m n = m by omega]; rfl
          · rw [if_neg hm, if_neg hm2, if_neg (show ¬ min m n = 0 by omega), if_pos (show min m n < x.Len.toNat by omega), show min m n = n by omega]
      · rw [if_neg h1]
        simp only [takeS]
        by_cases hm : m = 0
        · rw [if_pos hm, if_pos (show min m n = 0 by omega)]
        · by_cases hm2 : m < x.Len.toNat
          · rw [if_neg hm, if_pos hm2, if_neg (show ¬ min m n = 0 by omega), if_pos (show min m n < x.Len.toNat by omega), show min m n = m by omega]
          · rw [if_neg hm, if_neg hm2, if_neg (show ¬ min m n = 0 by omega), if_neg (show ¬ min m n < x.Len.toNat by omega), take_take, show min (m - x.Len.toNat) (n - x.Len.toNat) = min m n - x.Len.toNat by omega]
theorem drop_nil (n : Nat) : dropS n [] = [] := rfl
theorem tl_tl {x : Seg} {a b : Nat} (h : a + b ≤ x.Len.toNat) : tlS (tlS x a) b = tlS x (a + b) := by
  have := x.Len.toNat_lt
  have e := tl_len (x := x) (n := a)
  unfold tlS at e ⊢
  simp only [Seg.mk.injEq, and_true]
  refine ⟨by rw [UInt64.add_assoc, ← UInt64.ofNat_add], ?_⟩
  apply UInt32.toNat_inj.1
  simp only [UInt32.toNat_ofNat'] at e ⊢; omega
theorem drop_drop : ∀ (a b : Nat) (l : List Seg), posS l → dropS a (dropS b l) = dropS (b + a) l
  | a, b, [], _ => rfl
  | a, b, x :: r, hp => by
    have hx := hp x (by simp)
    have hr : posS r := fun s hs => hp s (by simp [hs])
    rw [dropS.eq_2 b]
    by_cases h0 : b = 0
    · rw [if_pos h0, h0, Nat.zero_add]
    · rw [if_neg h0]
      by_cases h1 : b < x.Len.toNat
      · rw [if_pos h1]
        simp only [dropS, tl_len]
        by_cases ha : a = 0
        · rw [if_pos ha, if_neg (by omega), if_pos (by omega), ha, Nat.add_zero]
        · by_cases ha2 : a < x.Len.toNat - b
          · rw [if_neg ha, if_pos ha2, if_neg (show ¬ b + a = 0 by omega), if_pos (show b + a < x.Len.toNat by omega), tl_tl (by omega)]
          · rw [if_neg ha, if_neg ha2, if_neg (show ¬ b + a = 0 by omega), if_neg (show ¬ b + a < x.Len.toNat by omega), show a - (x.Len.toNat - b) = b + a - x.Len.toNat by omega]
      · rw [if_neg h1, drop_drop _ _ r hr]
        rw [dropS.eq_2 (b + a), if_neg (by omega), if_neg (by omega), show b - x.Len.toNat + a = b + a - x.Len.toNat by omega]
theorem drop_take : ∀ (m n : Nat) (l : List Seg), posS l → dropS m (takeS n l) = takeS (n - m) (dropS m l)
  | m, n, [], _ => rfl
  | m, n, x :: r, hp => by
    have hx := hp x (by simp)
    have hr : posS r := fun s hs => hp s (by simp [hs])
    have hb := x.Len.toNat_lt
    by_cases hm : m = 0
    · rw [hm, drop0, drop0, Nat.sub_zero]
    rw [takeS.eq_2 n, dropS.eq_2 m x r, if_neg hm]
    by_cases h0 : n = 0
    · rw [if_pos h0, h0, Nat.zero_sub, take0]; rfl
    · rw [if_neg h0]
      by_cases h1 : n < x.Len.toNat
      · rw [if_pos h1]
        simp only [dropS, hd_len h1, if_neg hm]
        by_cases h2 : m < n
        · rw [if_pos h2, if_pos (by omega), takeS.eq_2, if_neg (by omega), tl_len, if_pos (by omega)]
          congr 1
          unfold tlS hdS
          simp only [Seg.mk.injEq, and_true, true_and]
          apply UInt32.toNat_inj.1
          simp only [UInt32.toNat_ofNat']; omega
        · rw [if_neg h2, show n - m = 0 by omega, take0]
      · rw [if_neg h1, dropS.eq_2 m, if_neg hm]
        by_cases h2 : m < x.Len.toNat
        · rw [if_pos h2, if_pos h2, takeS.eq_2, if_neg (by omega), tl_len, if_neg (by omega), show n - m - (x.Len.toNat - m) = n - x.Len.toNat by omega]
        · rw [if_neg h2, if_neg h2, drop_take _ _ r hr, show n - x.Len.toNat - (m - x.Len.toNat) = n - m by omega]
theorem minu_of (n : Nat) (x : UInt32) (h : n < 18446744073709551616) : minu64 (UInt64.ofNat n) x.toUInt64 = UInt64.ofNat (min n x.toNat) := by
  have hx := x.toNat_lt
  have e : (x.toUInt64 < UInt64.ofNat n) ↔ x.toNat < n := by
    rw [UInt64.lt_iff_toNat_lt, UInt64.toNat_ofNat', UInt32.toNat_toUInt64, Nat.mod_eq_of_lt h]
  unfold minu64
  by_cases q : x.toNat < n
  · rw [if_pos (e.2 q), Nat.min_eq_right (by omega)]
    apply UInt64.toNat_inj.1; rw [UInt64.toNat_ofNat', UInt32.toNat_toUInt64]; omega
  · rw [if_neg (fun z => q (e.1 z)), Nat.min_eq_left (by omega)]
theorem to32 (n : Nat) (h : n < 18446744073709551616) : (UInt64.ofNat n).toUInt32 = UInt32.ofNat n := by
  apply UInt32.toNat_inj.1; simp only [UInt64.toNat_toUInt32, UInt64.toNat_ofNat', UInt32.toNat_ofNat']; omega
theorem len_to32 (x : UInt32) : x.toUInt64.toUInt32 = x := by
  apply UInt32.toNat_inj.1
  have := x.toNat_lt
  simp only [UInt64.toNat_toUInt32, UInt32.toNat_toUInt64]; omega
theorem eatL : ∀ (nf : Nat) (l : List Seg) (n : Nat) (out : List Seg), posS l → l.length < nf → n < 18446744073709551616 → out.length + l.length ≤ 1000 →
    seg_row_eatL1 nf l (UInt64.ofNat n) out = some (out ++ takeS n l, dropS n l)
  | 0, l, n, out, _, h, _, _ => by omega
  | nf + 1, l, n, out, hp, hn, hb, hf => by
    unfold seg_row_eatL1 seg_row_eatL1B
    by_cases h0 : n = 0
    · rw [bN (by rw [h0]; decide), h0, take0, drop0, List.append_nil]
    · rw [bP (by rw [GT.gt, UInt64.lt_iff_toNat_lt, UInt64.toNat_ofNat']; simp only [UInt64.reduceToNat]; omega)]
      cases l with
      | nil => rw [bN (by simp [len])]; simp [takeS, dropS]
      | cons x r =>
        have hx := hp x (by simp)
        have hr : posS r := fun s hs => hp s (by simp [hs])
        have hxl := x.Len.toNat_lt
        simp only [List.length_cons] at hn hf
        have hsub : sub (x :: r) (1 : Int) (len (x :: r)) = r := by rw [sub_from]; rfl
        rw [bP (by simp only [len, List.length_cons]; omega), oS (show ix (x :: r) (0 : Int) = some x from rfl), minu_of n x.Len hb, cFits (by simp; omega)]
        simp only [takeS, dropS, if_neg h0]
        by_cases h1 : n < x.Len.toNat
        · rw [if_pos h1, if_pos h1, Nat.min_eq_left (by omega), to32 _ hb]
          rw [bP (by rw [UInt64.lt_iff_toNat_lt, UInt64.toNat_ofNat', UInt32.toNat_toUInt64]; omega), cP (by simp only [len, List.length_cons]; omega), hsub, cFits (by simp; omega)]
          refine congrArg some (congrArg (fun z => (out ++ [hdS x n], z :: r)) ?_)
          unfold tlS
          simp only [Seg.mk.injEq, and_true, true_and]
          apply UInt32.toNat_inj.1
          rw [UInt32.toNat_sub_of_le]
          · simp only [UInt32.toNat_ofNat']; omega
          · rw [UInt32.le_iff_toNat_le]; simp only [UInt32.toNat_ofNat']; omega
        · rw [if_neg h1, if_neg h1, Nat.min_eq_right (by omega)]
          have e1 : UInt64.ofNat x.Len.toNat = x.Len.toUInt64 := by
            apply UInt64.toNat_inj.1; rw [UInt64.toNat_ofNat', UInt32.toNat_toUInt64]; omega
          rw [bN (by rw [e1, UInt64.lt_iff_toNat_lt]; omega), cP (by simp only [len, List.length_cons]; omega), hsub]
          have e2 : UInt64.ofNat n - UInt64.ofNat x.Len.toNat = UInt64.ofNat (n - x.Len.toNat) := by
            apply UInt64.toNat_inj.1
            rw [UInt64.toNat_sub_of_le]
            · simp only [UInt64.toNat_ofNat']; omega
            · rw [UInt64.le_iff_toNat_le]; simp only [UInt64.toNat_ofNat']; omega
          rw [e2, eatL nf r (n - x.Len.toNat) _ hr (by omega) (by omega) (by simp; omega)]
          rw [e1, len_to32]
          simp
theorem partL (l : List Seg) (w : Bool) (hl : l.length ≤ 64) : ∀ (nf i : Nat) (out : List Seg), out.length ≤ i → i ≤ l.length → l.length - i < nf → seg_PartL1 l w nf out (i : Int) = some (out ++ (l.drop i).filter (fun s => s.Write == w))
  | 0, i, out, _, _, h => by omega
  | nf + 1, i, out, ho, hi, hn => by
    unfold seg_PartL1 seg_PartL1B
    by_cases h : i < l.length
    · have hd : l.drop i = l[i] :: l.drop (i + 1) := drop_ix h
      rw [hd, bP (by simp only [len]; omega), oS (ix_nat (getq h)), wi_succ (by omega)]
      by_cases hw : l[i].Write = w
      · rw [bE hw, cFits (by simp; omega), partL l w hl nf (i + 1) _ (by simp; omega) (by omega) (by omega)]
        rw [List.filter_cons, if_pos (by simpa using hw)]; simp
      · rw [bF hw, partL l w hl nf (i + 1) _ (by omega) (by omega) (by omega)]
        rw [List.filter_cons, if_neg (by simpa using hw)]
    · rw [bN (by simp only [len]; omega), List.drop_of_length_le (by omega)]; simp
theorem part_eq {l : List Seg} (h : goodS l) (w : Bool) : seg_Part l w = some (l.filter (fun s => s.Write == w)) := by
  unfold seg_Part
  rw [oS (segCheck l), nE (errS_good h)]
  have := partL l w h.1 fuel 0 [] (by simp) (by omega) (by have := h.1; unfold fuel; omega)
  simpa using this
end Go.Proofs.Ytjfdamiilndgeaa

end

section
namespace Go.Proofs.Ytjfdamiilndgeaa
def hasS (l : List Region) (s : Seg) : Bool := (findR l s.At.toNat s.Len.toNat).isSome
def inE (l : List Region) (ss : List Seg) : Int := if errS ss = 0 then (bif ss.all (hasS l) then 0 else 5) else errS ss
theorem segInL (m : gmem_Mem) (hm : memOk m.l m.b) (l : List Seg) (hl : l.length ≤ 64) : ∀ (nf i : Nat), i ≤ l.length → l.length - i < nf → seg_InL1 m l nf (i : Int) = some (bif (l.drop i).all (hasS m.l) then 0 else 5)
  | 0, i, _, h => by omega
  | nf + 1, i, hi, hn => by
    unfold seg_InL1 seg_InL1B
    by_cases h : i < l.length
    · have hd : l.drop i = l[i] :: l.drop (i + 1) := drop_ix h
      rw [bP (by simp only [len]; omega), oS (ix_nat (getq h)), oS (has_eq m hm _ _), hd, List.all_cons, UInt32.toNat_toUInt64]
      have ih := segInL m hm l hl nf (i + 1) (by omega) (by omega)
      cases q : (findR m.l l[i].At.toNat l[i].Len.toNat).isSome with
      | true => rw [bFl (show (!true) = false from rfl), wi_succ (by omega), ih, show hasS m.l l[i] = true from q, Bool.true_and]
      | false => rw [bT (show (!false) = true from rfl), show hasS m.l l[i] = false from q, Bool.false_and]; rfl
    · rw [bN (by simp only [len]; omega), List.drop_of_length_le (by omega)]; rfl
theorem segIn_eq (m : gmem_Mem) (hm : memOk m.l m.b) (l : List Seg) : seg_In m l = some (inE m.l l) := by
  unfold seg_In
  have h0 : gmem_Mem_Read m (0 : UInt64) (0 : Int) = some ([], 0) := by rw [read_eqM m hm _ _ (by omega)]; rfl
  rw [oS h0, nE rfl, oS (segCheck l)]
  unfold inE
  by_cases h : errS l = 0
  · rw [nE h, if_pos h]
    have hl := (errS_zero.1 h).1
    have := segInL m hm l hl fuel 0 (by omega) (by unfold fuel; omega)
    exact this
  · rw [nF h, if_neg h]
/-- the bytes of a segment -/
def rdSeg (l : List Region) (b : List (List UInt8)) (s : Seg) : List UInt8 := (readR l b s.At.toNat s.Len.toNat).getD []
def gatS (l : List Region) (b : List (List UInt8)) (ss : List Seg) : List UInt8 := (ss.map (rdSeg l b)).flatten
theorem readR_len {l : List Region} {b : List (List UInt8)} {a n : Nat} {x : List UInt8} (hm : memOk l b) (h : readR l b a n = some x) : x.length = n := by
  unfold readR at h
  cases hf : findR l a n with
  | none => rw [hf] at h; cases h
  | some i =>
    obtain ⟨hi, q0, q1, q2⟩ := findR_in hf
    have hb : i < b.length := by rw [hm.2.1]; exact hi
    have hr := hm.2.2 i _ _ (getq hi) (getq hb)
    rw [hf] at h
    simp only [getq hi, getq hb, Option.some.injEq] at h
    subst h; simp; omega
theorem readR_has {l : List Region} {b : List (List UInt8)} {s : Seg} (hm : memOk l b) (h : hasS l s = true) : readR l b s.At.toNat s.Len.toNat = some (rdSeg l b s) ∧ (rdSeg l b s).length = s.Len.toNat := by
  have : ∃ x, readR l b s.At.toNat s.Len.toNat = some x := by
    unfold hasS at h
    unfold readR
    cases hf : findR l s.At.toNat s.Len.toNat with
    | none => rw [hf] at h; cases h
    | some i =>
      obtain ⟨hi, q0, q1, q2⟩ := findR_in hf
      have hb : i < b.length := by rw [hm.2.1]; exact hi
      simp only [getq hi, getq hb]; exact ⟨_, rfl⟩
  obtain ⟨x, hx⟩ := this
  have e : rdSeg l b s = x := by unfold rdSeg; rw [hx]; rfl
  rw [e]; exact ⟨hx, readR_len hm hx⟩
theorem gat_len {l : List Region} {b : List (List UInt8)} (hm : memOk l b) : ∀ (ss : List Seg), ss.all (hasS l) = true → (gatS l b ss).length = sumS ss
  | [], _ => rfl
  | s :: r, h => by
    simp only [List.all_cons, Bool.and_eq_true] at h
    have h1 := (readR_has hm h.1).2
    have h2 := gat_len hm r h.2
    simp only [gatS, List.map_cons, List.flatten_cons, List.length_append, sumS] at h2 ⊢; omega
theorem gatherL (m : gmem_Mem) (hm : memOk m.l m.b) (p : List Seg) (hl : p.length ≤ 64) (hp : posS p) (hh : p.all (hasS m.l) = true) (hs : sumS p < 4294967296) : ∀ (nf i : Nat), i ≤ p.length → p.length - i < nf → seg_GatherL1 m p nf ((p.take i).map (rdSeg m.l m.b)) p (i : Int) = some (gatS m.l m.b p, 0)
  | 0, i, _, h => by omega
  | nf + 1, i, hi, hn => by
    unfold seg_GatherL1 seg_GatherL1B
    by_cases h : i < p.length
    · have hpi := hp p[i] (List.getElem_mem h)
      have hL := p[i].Len.toNat_lt
      have hhi : hasS m.l p[i] = true := List.all_eq_true.1 hh _ (List.getElem_mem h)
      have hr : gmem_Mem_Read m p[i].At (i32 p[i].Len) = some (rdSeg m.l m.b p[i], 0) := by
        rw [show i32 p[i].Len = ((p[i].Len.toNat : Nat) : Int) from rfl, read_eqM m hm _ _ (by omega), if_neg (by omega), if_neg (by omega), Int.toNat_natCast, (readR_has hm hhi).1]
      rw [bP (by simp only [len]; omega), oS (ix_nat (getq h)), oS hr, nE rfl, cFits (by simp; omega), wi_succ (by omega)]
      have e : (p.take i).map (rdSeg m.l m.b) ++ [rdSeg m.l m.b p[i]] = (p.take (i + 1)).map (rdSeg m.l m.b) := by
        rw [List.take_add_one, getq h, List.map_append]; rfl
      rw [e]
      exact gatherL m hm p hl hp hh hs nf (i + 1) (by omega) (by omega)
    · have hg := gat_len hm p hh
      unfold gatS at hg
      rw [bN (by simp only [len]; omega), List.take_of_length_le (by omega), oS (concat_eq _ (by simp; omega) (by unfold lenR; omega))]
      rfl
theorem inE_zero {l : List Region} {ss : List Seg} (h : inE l ss = 0) : goodS ss ∧ ss.all (hasS l) = true := by
  unfold inE at h
  by_cases q : errS ss = 0
  · rw [if_pos q] at h
    refine ⟨errS_zero.1 q, ?_⟩
    cases e : ss.all (hasS l) with
    | true => rfl
    | false => rw [e] at h; cases h
  · rw [if_neg q] at h; exact absurd h q
theorem all_filter {p q : Seg → Bool} : ∀ {l : List Seg}, l.all p = true → (l.filter q).all p = true := fun {l} h => List.all_eq_true.2 fun x hx => List.all_eq_true.1 h x (List.mem_filter.1 hx).1
theorem sum_filter (q : Seg → Bool) : ∀ l : List Seg, sumS (l.filter q) ≤ sumS l
  | [] => Nat.le_refl _
  | s :: r => by
    have := sum_filter q r
    rw [List.filter_cons]
    split
    · simp only [sumS]; omega
    · simp only [sumS]; omega
theorem gather_eq (m : gmem_Mem) (hm : memOk m.l m.b) (l : List Seg) : seg_Gather m l = some (if inE m.l l = 0 then (gatS m.l m.b (l.filter (fun s => s.Write == false)), 0) else ([], inE m.l l)) := by
  unfold seg_Gather
  rw [oS (segIn_eq m hm l)]
  by_cases h : inE m.l l = 0
  · obtain ⟨hg, ha⟩ := inE_zero h
    have hfl : (l.filter (fun s => s.Write == false)).length ≤ l.length := List.length_filter_le _ _
    have hl := hg.1
    rw [nE h, if_pos h, oS (part_eq hg false)]
    have := gatherL m hm (l.filter (fun s => s.Write == false)) (by omega) (fun s hs => okS_pos hg.2.1 s (List.mem_filter.1 hs).1) (all_filter ha) (by have := sum_filter (fun s => s.Write == false) l; have := hg.2.2; omega) fuel 0 (by omega) (by unfold fuel; omega)
    exact this
  · rw [nF h, if_neg h]
theorem gat_cons (l : List Region) (b : List (List UInt8)) (s : Seg) (r : List Seg) : gatS l b (s :: r) = rdSeg l b s ++ gatS l b r := by simp [gatS]
/-- bytes laid into segments, one behind the other -/
def wrR (l : List Region) (b : List (List UInt8)) (a : Nat) (xs : List UInt8) : List (List UInt8) := (writeR l b a xs).getD b
def scatS (l : List Region) : List (List UInt8) → List Seg → List UInt8 → List (List UInt8)
  | b, [], _ => b
  | b, s :: r, xs => scatS l (wrR l b s.At.toNat (xs.take s.Len.toNat)) r (xs.drop s.Len.toNat)
theorem wrR_nil (l : List Region) (b : List (List UInt8)) (a : Nat) : wrR l b a [] = b := rfl
theorem wrR_ok {l : List Region} {b : List (List UInt8)} {a : Nat} {xs : List UInt8} (hm : memOk l b) : memOk l (wrR l b a xs) := by
  unfold wrR
  cases h : writeR l b a xs with
  | none => exact hm
  | some b' => exact write_ok hm h
theorem wrM (m : gmem_Mem) (hm : memOk m.l m.b) (a : UInt64) (xs : List UInt8) (hn : xs.length ≤ 140737488355328) : ∃ e, gmem_Mem_Write m a xs = some (e, wrR m.l m.b a.toNat xs) := by
  rw [write_eqM m hm a xs hn]
  by_cases h : xs = []
  · rw [if_pos h, h, wrR_nil]; exact ⟨_, rfl⟩
  · rw [if_neg h]
    unfold wrR
    cases writeR m.l m.b a.toNat xs with
    | none => exact ⟨_, rfl⟩
    | some b => exact ⟨_, rfl⟩
theorem scat_nil (l : List Region) : ∀ (b : List (List UInt8)) (ss : List Seg), scatS l b ss [] = b
  | b, [] => rfl
  | b, s :: r => by rw [scatS, List.take_nil, List.drop_nil, wrR_nil]; exact scat_nil l b r
theorem scat_take (l : List Region) : ∀ (b : List (List UInt8)) (ss : List Seg) (xs : List UInt8), scatS l b (takeS xs.length ss) xs = scatS l b ss xs
  | b, [], xs => rfl
  | b, s :: r, xs => by
    unfold takeS
    by_cases h0 : xs.length = 0
    · rw [if_pos h0, List.eq_nil_of_length_eq_zero h0, scat_nil, scat_nil]
    · rw [if_neg h0]
      by_cases h1 : xs.length < s.Len.toNat
      · rw [if_pos h1]
        simp only [scatS, hd_len h1]
        rw [List.take_of_length_le (Nat.le_refl _), List.take_of_length_le (by omega), List.drop_of_length_le (by omega : xs.length ≤ s.Len.toNat), scat_nil]; rfl
      · rw [if_neg h1]
        simp only [scatS]
        have := scat_take l (wrR l b s.At.toNat (xs.take s.Len.toNat)) r (xs.drop s.Len.toNat)
        rw [List.length_drop] at this
        exact this
theorem scatterL (l : List Region) (xs : List UInt8) (hx : xs.length ≤ 100000000) (m0 : gmem_Mem) (hm0 : m0.l = l) (e : List Seg × List Seg) (hs : sumS e.1 ≤ xs.length) (hl : e.1.length ≤ 64) : ∀ (nf i n : Nat) (b : List (List UInt8)), memOk l b → i ≤ e.1.length → e.1.length - i < nf → n + sumS (e.1.drop i) = sumS e.1 →
    seg_ScatterL1 m0 xs e nf b (n : Int) e.1 (i : Int) = some (((sumS e.1 : Nat) : Int), (0 : Int), scatS l b (e.1.drop i) (xs.drop n))
  | 0, i, n, b, _, _, h, _ => by omega
  | nf + 1, i, n, b, hb, hi, hn, hsum => by
    unfold seg_ScatterL1 seg_ScatterL1B
    by_cases h : i < e.1.length
    · have hd : e.1.drop i = e.1[i] :: e.1.drop (i + 1) := drop_ix h
      rw [hd] at hsum ⊢
      simp only [sumS] at hsum
      have hw : wi ((n : Int) + i32 e.1[i].Len) = ((n + e.1[i].Len.toNat : Nat) : Int) := by
        rw [show i32 e.1[i].Len = ((e.1[i].Len.toNat : Nat) : Int) from rfl, wi_in (by omega) (by omega)]; omega
      have hsb : sub xs (n : Int) ((n + e.1[i].Len.toNat : Nat) : Int) = (xs.drop n).take e.1[i].Len.toNat := by
        exact (sub_nat _ _ _).trans (congrArg (fun z => (xs.drop n).take z) (by omega))
      obtain ⟨er, hwr⟩ := wrM ⟨m0.l, b⟩ (by rw [hm0]; exact hb) e.1[i].At ((xs.drop n).take e.1[i].Len.toNat) (by simp; omega)
      rw [bP (by simp only [len]; omega), oS (ix_nat (getq h)), hw, cP (by simp only [len]; omega), hsb, oS hwr, wi_succ (by omega)]
      dsimp only
      rw [hm0, scatterL l xs hx m0 hm0 e hs hl nf (i + 1) _ _ (wrR_ok hb) (by omega) (by omega) (by omega), scatS, List.drop_drop]
    · rw [bN (by simp only [len]; omega), List.drop_of_length_le (by omega)]
      rw [List.drop_of_length_le (by omega)] at hsum
      simp only [sumS, Nat.add_zero] at hsum
      rw [hsum]; rfl
theorem sum_wr : ∀ l : List Seg, sumS (l.filter (fun s => s.Write == true)) = wrS l
  | [] => rfl
  | s :: r => by
    have := sum_wr r
    rw [List.filter_cons]
    cases h : s.Write with
    | true => rw [if_pos (show (true == true) = true from rfl)]; simp only [sumS, wrS, h, if_true]; omega
    | false => rw [if_neg (by decide)]; simp only [wrS, h]; simpa using this
theorem scatter_eq (m : gmem_Mem) (hm : memOk m.l m.b) (l : List Seg) (xs : List UInt8) (hx : xs.length ≤ 100000000) : seg_Scatter m l xs = some (if inE m.l l = 0 then (((min xs.length (wrS l) : Nat) : Int), (0 : Int), scatS m.l m.b (l.filter (fun s => s.Write == true)) xs) else (0, inE m.l l, m.b)) := by
  unfold seg_Scatter
  rw [oS (segIn_eq m hm l)]
  by_cases h : inE m.l l = 0
  · obtain ⟨hg, ha⟩ := inE_zero h
    have hl := hg.1
    have hfl : (l.filter (fun s => s.Write == true)).length ≤ l.length := List.length_filter_le _ _
    have hp : posS (l.filter (fun s => s.Write == true)) := fun s hs => okS_pos hg.2.1 s (List.mem_filter.1 hs).1
    rw [nE h, if_pos h, oS (part_eq hg true)]
    have he : seg_row_eat (l.filter (fun s => s.Write == true)) (u64 (len xs)) = some (takeS xs.length (l.filter (fun s => s.Write == true)), dropS xs.length (l.filter (fun s => s.Write == true))) := by
      unfold seg_row_eat
      rw [show len xs = ((xs.length : Nat) : Int) from rfl, u64_of]
      have := eatL fuel (l.filter (fun s => s.Write == true)) xs.length [] hp (by unfold fuel; omega) (by omega) (by simp only [List.length_nil]; omega)
      rw [List.nil_append] at this
      exact this
    rw [oS he]
    have hlt := len_take xs.length (l.filter (fun s => s.Write == true))
    have hsm := sum_take xs.length (l.filter (fun s => s.Write == true))
    have := scatterL m.l xs hx m rfl (takeS xs.length (l.filter (fun s => s.Write == true)), dropS xs.length (l.filter (fun s => s.Write == true))) (by dsimp only; omega) (by dsimp only; omega) fuel 0 0 m.b hm (by omega) (by dsimp only; unfold fuel; omega) (by rw [List.drop_zero]; omega)
    rw [List.drop_zero, List.drop_zero] at this
    dsimp only at this
    rw [scat_take, hsm, sum_wr] at this
    exact this
  · rw [nF h, if_neg h]
end Go.Proofs.Ytjfdamiilndgeaa

end

section
namespace Go.Proofs.Ytjfdamiilndgeaa
end Go.Proofs.Ytjfdamiilndgeaa

end

section
namespace Go.Proofs.Ytjfdamiilndgeaa
/-- one region from 0 on -/
def rg (n : UInt64) : List Region := [⟨0, n⟩]
def rdF (x : List UInt8) (a n : Nat) : List UInt8 := (x.drop a).take n
def flatOk (n : UInt64) (x : List UInt8) : Prop := 0 < n.toNat ∧ n.toNat ≤ 1048576 ∧ x.length = n.toNat
theorem rg_good {n : UInt64} (h0 : 0 < n.toNat) (h1 : n.toNat ≤ 1048576) : goodM (rg n) := by
  refine ⟨by simp [rg], ?_, by simp [rg, sumM]; exact h1⟩
  simp only [rg, okA, Bool.and_true, decide_eq_true_eq]
  refine ⟨h0, ?_, Nat.zero_le _⟩
  show (0 : UInt64).toNat + _ ≤ _
  simp only [UInt64.reduceToNat]; omega
theorem flat_mem {n : UInt64} {x : List UInt8} (h : flatOk n x) : memOk (rg n) [x] := by
  refine ⟨rg_good h.1 h.2.1, rfl, fun i r y h1 h2 => ?_⟩
  cases i with
  | zero => simp [rg] at h1 h2; subst h1; subst h2; exact h.2.2
  | succ i => simp [rg] at h1
theorem find1 (n : UInt64) (a k : Nat) : findR (rg n) a k = if 0 < k ∧ a + k ≤ n.toNat then some 0 else none := by
  unfold findR
  by_cases h : k = 0
  · rw [if_pos h, if_neg (by omega)]
  · rw [if_neg h]
    simp only [rg, List.findIdx?_cons, List.findIdx?_nil]
    have e : inR a k (⟨0, n⟩ : Region) = decide (a + k ≤ n.toNat) := by
      unfold inR; simp only [UInt64.reduceToNat]
      by_cases q : a + k ≤ n.toNat
      · rw [decide_eq_true q, decide_eq_true (by omega)]
      · rw [decide_eq_false q, decide_eq_false (by omega)]
    rw [e]
    by_cases q : a + k ≤ n.toNat
    · rw [decide_eq_true q, if_pos (show 0 < k ∧ a + k ≤ n.toNat from ⟨by omega, q⟩)]; rfl
    · rw [decide_eq_false q, if_neg (show ¬ (0 < k ∧ a + k ≤ n.toNat) from fun z => q z.2)]; rfl
theorem read1 {n : UInt64} {x : List UInt8} (a k : Nat) : readR (rg n) [x] a k = if 0 < k ∧ a + k ≤ n.toNat then some (rdF x a k) else none := by
  unfold readR
  rw [find1]
  by_cases q : 0 < k ∧ a + k ≤ n.toNat
  · rw [if_pos q, if_pos q]; simp [rg, rdF]
  · rw [if_neg q, if_neg q]
theorem write1 {n : UInt64} {x : List UInt8} (a : Nat) (xs : List UInt8) : writeR (rg n) [x] a xs = if 0 < xs.length ∧ a + xs.length ≤ n.toNat then some [wrF x a xs] else none := by
  unfold writeR
  rw [find1]
  by_cases q : 0 < xs.length ∧ a + xs.length ≤ n.toNat
  · rw [if_pos q, if_pos q]; simp [rg, wrF]
  · rw [if_neg q, if_neg q]
theorem wrF_ok {n : UInt64} {x : List UInt8} {a : Nat} {xs : List UInt8} (h : flatOk n x) (q : a + xs.length ≤ n.toNat) : flatOk n (wrF x a xs) :=
  ⟨h.1, h.2.1, by rw [wrF_len (by rw [h.2.2]; exact q)]; exact h.2.2⟩
theorem has1 (n : UInt64) (s : Seg) : hasS (rg n) s = decide (0 < s.Len.toNat ∧ s.At.toNat + s.Len.toNat ≤ n.toNat) := by
  unfold hasS; rw [find1]
  by_cases q : 0 < s.Len.toNat ∧ s.At.toNat + s.Len.toNat ≤ n.toNat
  · rw [if_pos q, decide_eq_true q]; rfl
  · rw [if_neg q, decide_eq_false q]; rfl
/-- all segments lie within n bytes -/
def inF (n : Nat) (ss : List Seg) : Prop := ∀ s ∈ ss, s.At.toNat + s.Len.toNat ≤ n
instance (n : Nat) (ss : List Seg) : Decidable (inF n ss) := by unfold inF; infer_instance
theorem inF_cons {n : Nat} {s : Seg} {r : List Seg} : inF n (s :: r) ↔ s.At.toNat + s.Len.toNat ≤ n ∧ inF n r := by simp [inF]
theorem inF_filter {n : Nat} {l : List Seg} {p : Seg → Bool} (h : inF n l) : inF n (l.filter p) := fun s hs => h s (List.mem_filter.1 hs).1
theorem all_has {n : UInt64} {ss : List Seg} (hp : posS ss) : ss.all (hasS (rg n)) = true ↔ inF n.toNat ss := by
  rw [List.all_eq_true]
  constructor
  · intro h s hs
    have := h s hs
    rw [has1, decide_eq_true_eq] at this; exact this.2
  · intro h s hs
    rw [has1, decide_eq_true_eq]; exact ⟨hp s hs, h s hs⟩
theorem inE1 (n : UInt64) (ss : List Seg) : inE (rg n) ss = if errS ss = 0 then (if inF n.toNat ss then 0 else 5) else errS ss := by
  unfold inE
  by_cases h : errS ss = 0
  · rw [if_pos h, if_pos h]
    have hp := okS_pos (errS_zero.1 h).2.1
    by_cases q : inF n.toNat ss
    · rw [if_pos q, (all_has hp).2 q]; rfl
    · rw [if_neg q]
      cases e : ss.all (hasS (rg n)) with
      | true => exact absurd ((all_has hp).1 e) q
      | false => rfl
  · rw [if_neg h, if_neg h]
theorem inE1_zero {n : UInt64} {ss : List Seg} : inE (rg n) ss = 0 ↔ goodS ss ∧ inF n.toNat ss := by
  rw [inE1]
  by_cases h : errS ss = 0
  · rw [if_pos h]
    by_cases q : inF n.toNat ss
    · rw [if_pos q]; exact ⟨fun _ => ⟨errS_zero.1 h, q⟩, fun _ => rfl⟩
    · rw [if_neg q]; exact ⟨fun z => (by cases z), fun z => absurd z.2 q⟩
  · rw [if_neg h]; exact ⟨fun z => absurd z h, fun z => absurd (errS_good z.1) h⟩
def gatF (x : List UInt8) (ss : List Seg) : List UInt8 := (ss.map fun s => rdF x s.At.toNat s.Len.toNat).flatten
theorem gatF_cons (x : List UInt8) (s : Seg) (r : List Seg) : gatF x (s :: r) = rdF x s.At.toNat s.Len.toNat ++ gatF x r := by simp [gatF]
theorem gatF_nil (x : List UInt8) : gatF x [] = [] := rfl
theorem gat1 {n : UInt64} {x : List UInt8} : ∀ {ss : List Seg}, posS ss → inF n.toNat ss → gatS (rg n) [x] ss = gatF x ss
  | [], _, _ => rfl
  | s :: r, hp, hi => by
    have h1 := hp s (by simp)
    have h2 := inF_cons.1 hi
    rw [gat_cons, gatF_cons, gat1 (fun t ht => hp t (by simp [ht])) h2.2]
    unfold rdSeg
    rw [read1, if_pos ⟨h1, h2.1⟩]; rfl
theorem rdF_len {x : List UInt8} {a n : Nat} (h : a + n ≤ x.length) : (rdF x a n).length = n := by
  simp only [rdF, List.length_take, List.length_drop]; omega
def scatF (x : List UInt8) : List Seg → List UInt8 → List UInt8
  | [], _ => x
  | s :: r, xs => scatF (wrF x s.At.toNat (xs.take s.Len.toNat)) r (xs.drop s.Len.toNat)
theorem wr1 {n : UInt64} {x : List UInt8} {a : Nat} {xs : List UInt8} (h : a + xs.length ≤ n.toNat) : wrR (rg n) [x] a xs = [wrF x a xs] := by
  unfold wrR
  rw [write1]
  by_cases q : 0 < xs.length
  · rw [if_pos ⟨q, h⟩]; rfl
  · have : xs = [] := List.eq_nil_of_length_eq_zero (by omega)
    rw [if_neg (fun z => q z.1), this, wrF_nil]; rfl
theorem scat1 {n : UInt64} : ∀ {ss : List Seg} {x xs : List UInt8}, inF n.toNat ss → scatS (rg n) [x] ss xs = [scatF x ss xs]
  | [], _, _, _ => rfl
  | s :: r, x, xs, hi => by
    have h2 := inF_cons.1 hi
    unfold scatS scatF
    rw [wr1 (by rw [List.length_take]; omega)]
    exact scat1 h2.2
/-! parts of what is gathered -/
theorem rdF_take {x : List UInt8} {a m n : Nat} (h : m ≤ n) : rdF x a m = (rdF x a n).take m := by
  simp only [rdF, List.take_take]; rw [Nat.min_eq_left h]
theorem rdF_drop {x : List UInt8} {a m n : Nat} : rdF x (a + m) (n - m) = (rdF x a n).drop m := by
  simp only [rdF, List.drop_take, List.drop_drop]
theorem sum_rd : ∀ l : List Seg, sumS (l.filter (fun s => s.Write == false)) = rdS l
  | [] => rfl
  | s :: r => by
    have := sum_rd r
    rw [List.filter_cons]
    cases h : s.Write with
    | true => simp only [rdS, h, if_true]; rw [if_neg (by decide)]; omega
    | false => rw [if_pos (by decide)]; simp only [sumS, rdS, h]; rw [if_neg (by decide)]; omega
theorem zer1 (n : UInt64) : zer (rg n) = [List.replicate n.toNat 0] := rfl
/-- what a new memory of n bytes holds -/
def z1 (n : UInt64) : List UInt8 := List.replicate n.toNat 0
theorem z1_ok {n : UInt64} (h0 : 0 < n.toNat) (h1 : n.toNat ≤ 1048576) : flatOk n (z1 n) := ⟨h0, h1, by simp [z1]⟩
theorem new1_eq {n : UInt64} (h0 : 0 < n.toNat) (h1 : n.toNat ≤ 1048576) : gmem_New (rg n) = some (some ⟨rg n, [z1 n]⟩, 0) := by
  rw [new_ok (rg_good h0 h1), zer1]; rfl
theorem gather1 {n : UInt64} {x : List UInt8} (h : flatOk n x) (l : List Seg) (hg : goodS l) (hi : inF n.toNat l) : seg_Gather ⟨rg n, [x]⟩ l = some (gatF x (l.filter (fun s => s.Write == false)), 0) := by
  rw [gather_eq ⟨rg n, [x]⟩ (flat_mem h) l]
  dsimp only
  rw [if_pos (inE1_zero.2 ⟨hg, hi⟩), gat1 (fun s hs => okS_pos hg.2.1 s (List.mem_filter.1 hs).1) (inF_filter hi)]
theorem scatter1 {n : UInt64} {x : List UInt8} (h : flatOk n x) (l : List Seg) (xs : List UInt8) (hx : xs.length ≤ 100000000) (hg : goodS l) (hi : inF n.toNat l) : seg_Scatter ⟨rg n, [x]⟩ l xs = some (((min xs.length (wrS l) : Nat) : Int), (0 : Int), [scatF x (l.filter (fun s => s.Write == true)) xs]) := by
  rw [scatter_eq ⟨rg n, [x]⟩ (flat_mem h) l xs hx]
  dsimp only
  rw [if_pos (inE1_zero.2 ⟨hg, hi⟩), scat1 (inF_filter hi)]
theorem write1_eq {n : UInt64} {x : List UInt8} (h : flatOk n x) (a : UInt64) (xs : List UInt8) (q : a.toNat + xs.length ≤ n.toNat) : gmem_Mem_Write ⟨rg n, [x]⟩ a xs = some ((0 : Int), [wrF x a.toNat xs]) := by
  have hn := h.2.1
  rw [write_eqM ⟨rg n, [x]⟩ (flat_mem h) a xs (by omega)]
  by_cases e : xs = []
  · rw [if_pos e, e, wrF_nil]
  · have : 0 < xs.length := List.length_pos_iff.2 e
    rw [if_neg e]
    dsimp only
    rw [write1, if_pos ⟨this, q⟩]
theorem read1_eq {n : UInt64} {x : List UInt8} (h : flatOk n x) (a : UInt64) (k : Nat) (q : a.toNat + k ≤ n.toNat) : gmem_Mem_Read ⟨rg n, [x]⟩ a (k : Int) = some (rdF x a.toNat k, 0) := by
  have hn := h.2.1
  rw [read_eqM ⟨rg n, [x]⟩ (flat_mem h) a _ (by omega), if_neg (by omega)]
  by_cases e : k = 0
  · subst e; rw [if_pos (show ((0 : Nat) : Int) = 0 from rfl)]; simp [rdF]
  · rw [if_neg (by omega)]
    dsimp only
    rw [Int.toNat_natCast, read1, if_pos ⟨by omega, q⟩]
end Go.Proofs.Ytjfdamiilndgeaa

end

section
namespace Go.Proofs.Ytjfdamiilndgeaa
/-! covering: the same bytes, in order, of the same kind -/
inductive Cov : List Seg → List Seg → Prop
  | nil : Cov [] []
  | whole (x : Seg) (c l : List Seg) : Cov c l → Cov (x :: c) (x :: l)
  | part (x y : Seg) (c l : List Seg) : x.At = y.At → x.Write = y.Write → 0 < x.Len.toNat → x.Len.toNat < y.Len.toNat → Cov c (tlS y x.Len.toNat :: l) → Cov (x :: c) (y :: l)
theorem cov_refl : ∀ l : List Seg, Cov l l
  | [] => .nil
  | x :: l => .whole x l l (cov_refl l)
theorem cov_append {a b c d : List Seg} (h1 : Cov a b) (h2 : Cov c d) : Cov (a ++ c) (b ++ d) := by
  induction h1 with
  | nil => exact h2
  | whole x c l _ ih => exact .whole x _ _ ih
  | part x y c l e1 e2 e3 e4 _ ih => exact .part x y _ _ e1 e2 e3 e4 ih
theorem cov_sum {c l : List Seg} (h : Cov c l) : sumS c = sumS l := by
  induction h with
  | nil => rfl
  | whole x c l _ ih => simp only [sumS, ih]
  | part x y c l e1 e2 e3 e4 _ ih => simp only [sumS, ih, tl_len]; omega
theorem cov_ok {c l : List Seg} (h : Cov c l) : ∀ w : Bool, okS w l = true → okS w c = true := by
  induction h with
  | nil => intro w h; exact h
  | whole x c l _ ih =>
    intro w h
    unfold okS at h ⊢
    rw [Bool.and_eq_true] at h ⊢
    exact ⟨h.1, ih _ h.2⟩
  | part x y c l e1 e2 e3 e4 _ ih =>
    intro w h
    unfold okS at h ⊢
    rw [Bool.and_eq_true, decide_eq_true_eq] at h ⊢
    obtain ⟨⟨a1, a2, a3⟩, b⟩ := h
    refine ⟨⟨e3, by rw [e1]; omega, by rw [e2]; exact a3⟩, ih _ ?_⟩
    unfold okS
    rw [Bool.and_eq_true, decide_eq_true_eq]
    refine ⟨⟨by rw [tl_len]; omega, ?_, fun q => by rw [e2] at q; exact q⟩, b⟩
    rw [tl_len, tl_at e4 a2]; omega
theorem cov_good {c l : List Seg} (h : Cov c l) (hg : goodS l) (hl : c.length ≤ 64) : goodS c := ⟨hl, cov_ok h _ hg.2.1, by rw [cov_sum h]; exact hg.2.2⟩
end Go.Proofs.Ytjfdamiilndgeaa

end

section
namespace Go.Proofs.Ytjfdamiilndgeaa
theorem cov_in {n : Nat} (hn : n ≤ 18446744073709551616) {c l : List Seg} (h : Cov c l) : inF n l → inF n c := by
  induction h with
  | nil => exact id
  | whole x c l _ ih => intro h; rw [inF_cons] at h ⊢; exact ⟨h.1, ih h.2⟩
  | part x y c l e1 e2 e3 e4 _ ih =>
    intro h
    rw [inF_cons] at h ⊢
    refine ⟨by rw [e1]; omega, ih ?_⟩
    rw [inF_cons]
    refine ⟨?_, h.2⟩
    have hy := y.Len.toNat_lt
    rw [tl_len]
    unfold tlS
    dsimp only
    rw [UInt64.toNat_add, UInt64.toNat_ofNat']
    have h1 := h.1
    rcases Nat.lt_or_ge (y.At.toNat + x.Len.toNat) 18446744073709551616 with q | q <;> omega
theorem cov_gat (x : List UInt8) {c l : List Seg} (h : Cov c l) : inF x.length l → x.length ≤ 18446744073709551616 → gatF x c = gatF x l := by
  intro h1 h2
  induction h with
  | nil => rfl
  | whole s c l _ ih => rw [inF_cons] at h1; rw [gatF_cons, gatF_cons, ih h1.2]
  | part s y c l e1 e2 e3 e4 _ ih =>
    rw [inF_cons] at h1
    have ht : (tlS y s.Len.toNat).At.toNat = y.At.toNat + s.Len.toNat := by
      have hy := y.Len.toNat_lt
      unfold tlS
      dsimp only
      rw [UInt64.toNat_add, UInt64.toNat_ofNat']
      have := h1.1; omega
    have hi : inF x.length (tlS y s.Len.toNat :: l) := by
      rw [inF_cons]
      refine ⟨?_, h1.2⟩
      have := h1.1
      rw [ht, tl_len]; omega
    rw [gatF_cons, gatF_cons, ih hi, gatF_cons, ht, tl_len, e1, ← List.append_assoc]
    congr 1
    unfold rdF
    rw [show y.Len.toNat = s.Len.toNat + (y.Len.toNat - s.Len.toNat) by omega, List.take_add, List.drop_drop, show s.Len.toNat + (y.Len.toNat - s.Len.toNat) - s.Len.toNat = y.Len.toNat - s.Len.toNat by omega]

end Go.Proofs.Ytjfdamiilndgeaa

end

section
namespace Go.Proofs.Ytjfdamiilndgeaa
theorem n32K {n : Nat} (h : n ≤ 4000000000) : (UInt32.ofNat n).toNat = n := by rw [UInt32.toNat_ofNat']; omega
theorem n64K {n : Nat} (h : n ≤ 4000000000) : (UInt64.ofNat n).toNat = n := by rw [UInt64.toNat_ofNat']; omega
theorem cov_filtK (w : Bool) {c l : List Seg} (h : Cov c l) : Cov (c.filter (fun s => s.Write == w)) (l.filter (fun s => s.Write == w)) := by
  induction h with
  | nil => exact .nil
  | whole x c l _ ih =>
    by_cases q : (x.Write == w) = true
    · rw [List.filter_cons_of_pos (p := fun s : Seg => s.Write == w) q, List.filter_cons_of_pos (p := fun s : Seg => s.Write == w) q]; exact .whole x _ _ ih
    · rw [List.filter_cons_of_neg (p := fun s : Seg => s.Write == w) q, List.filter_cons_of_neg (p := fun s : Seg => s.Write == w) q]; exact ih
  | part x y c l e1 e2 e3 e4 _ ih =>
    by_cases q : (y.Write == w) = true
    · rw [List.filter_cons_of_pos (p := fun s : Seg => s.Write == w) (by rw [e2]; exact q), List.filter_cons_of_pos (p := fun s : Seg => s.Write == w) q]
      rw [List.filter_cons_of_pos (p := fun s : Seg => s.Write == w) (show ((tlS y x.Len.toNat).Write == w) = true from q)] at ih
      exact .part x y _ _ e1 e2 e3 e4 ih
    · rw [List.filter_cons_of_neg (p := fun s : Seg => s.Write == w) (by rw [e2]; exact q), List.filter_cons_of_neg (p := fun s : Seg => s.Write == w) q]
      rw [List.filter_cons_of_neg (p := fun s : Seg => s.Write == w) (show ¬ ((tlS y x.Len.toNat).Write == w) = true from q)] at ih
      exact ih
theorem cov_scatK {c l : List Seg} (h : Cov c l) : ∀ (x xs : List UInt8), inF x.length l → x.length ≤ 18446744073709551616 → scatF x c xs = scatF x l xs := by
  induction h with
  | nil => intro x xs _ _; rfl
  | whole s c l _ ih =>
    intro x xs h1 h2
    rw [inF_cons] at h1
    unfold scatF
    have e := wrF_len (x := x) (a := s.At.toNat) (xs := xs.take s.Len.toNat) (by rw [List.length_take]; omega)
    exact ih _ _ (by rw [e]; exact h1.2) (by rw [e]; exact h2)
  | part s y c l e1 e2 e3 e4 _ ih =>
    intro x xs h1 h2
    rw [inF_cons] at h1
    have ht : (tlS y s.Len.toNat).At.toNat = y.At.toNat + s.Len.toNat := by
      have hy := y.Len.toNat_lt
      unfold tlS
      dsimp only
      rw [UInt64.toNat_add, UInt64.toNat_ofNat']
      have := h1.1; omega
    have el := wrF_len (x := x) (a := y.At.toNat) (xs := xs.take s.Len.toNat) (by rw [List.length_take]; omega)
    have hi : inF (wrF x y.At.toNat (xs.take s.Len.toNat)).length (tlS y s.Len.toNat :: l) := by
      rw [el, inF_cons]
      refine ⟨?_, h1.2⟩
      have := h1.1
      rw [ht, tl_len]; omega
    have hI := ih (wrF x y.At.toNat (xs.take s.Len.toNat)) (xs.drop s.Len.toNat) hi (by rw [el]; exact h2)
    conv => lhs; unfold scatF
    rw [e1, hI]
    unfold scatF
    rw [ht, tl_len, List.drop_drop, show s.Len.toNat + (y.Len.toNat - s.Len.toNat) = y.Len.toNat by omega]
    refine congrArg (fun z => scatF z l (xs.drop y.Len.toNat)) ?_
    have et : xs.take y.Len.toNat = xs.take s.Len.toNat ++ (xs.drop s.Len.toNat).take (y.Len.toNat - s.Len.toNat) := by
      rw [← List.take_add]; congr 1; omega
    rcases Nat.lt_or_ge xs.length s.Len.toNat with q | q
    · have en : xs.drop s.Len.toNat = [] := List.drop_of_length_le (by omega)
      rw [et, en]; simp [wrF_nil]
    · have eL : (xs.take s.Len.toNat).length = s.Len.toNat := by rw [List.length_take]; omega
      rw [et]
      have := wrF_twoK (x := x) (a := y.At.toNat) (xs := xs.take s.Len.toNat) (ys := (xs.drop s.Len.toNat).take (y.Len.toNat - s.Len.toNat)) (by rw [eL, List.length_take]; have := h1.1; omega)
      rw [eL] at this
      exact this
theorem gat_oneK (x : List UInt8) (s : Seg) : gatF x [s] = rdF x s.At.toNat s.Len.toNat := by rw [gatF_cons, gatF_nil, List.append_nil]
theorem scat_oneK (x xs : List UInt8) (s : Seg) : scatF x [s] xs = wrF x s.At.toNat (xs.take s.Len.toNat) := rfl
theorem rdF_atK {x xs : List UInt8} {a i n : Nat} (h : a + xs.length ≤ x.length) (q : i + n ≤ xs.length) : rdF (wrF x a xs) (a + i) n = (xs.drop i).take n := by
  unfold rdF wrF
  have e : (x.take a).length = a := by rw [List.length_take]; omega
  rw [List.append_assoc, ← List.drop_drop, List.drop_left' e, List.drop_append_of_le_length (by omega), List.take_append_of_le_length (by rw [List.length_drop]; omega)]
theorem rdF_outK {x xs : List UInt8} {a b n : Nat} (h : a + xs.length ≤ x.length) (q : b + n ≤ a ∨ a + xs.length ≤ b) : rdF (wrF x a xs) b n = rdF x b n := by
  unfold rdF wrF
  rcases q with q | q
  · apply List.ext_getElem?
    intro i
    by_cases hi : i < n
    · rw [List.getElem?_take_of_lt hi, List.getElem?_take_of_lt hi, List.getElem?_drop, List.getElem?_drop, List.append_assoc, List.getElem?_append_left (by rw [List.length_take]; omega), List.getElem?_take_of_lt (by omega)]
    · rw [List.getElem?_eq_none (by rw [List.length_take]; omega), List.getElem?_eq_none (by rw [List.length_take]; omega)]
  · have e : (x.take a ++ xs).length = a + xs.length := by rw [List.length_append, List.length_take]; omega
    rw [List.drop_append, e, List.drop_eq_nil_of_le (by rw [e]; exact q), List.nil_append, List.drop_drop]
    congr 2; omega
theorem rdF_selfK {x xs : List UInt8} {a : Nat} (h : a + xs.length ≤ x.length) : rdF (wrF x a xs) a xs.length = xs := by
  have := rdF_atK (n := xs.length) (i := 0) h (by omega)
  rw [Nat.add_zero, List.drop_zero, List.take_length] at this; exact this
/-! one part, cut -/
def cut21 : List Int → Seg → List Seg
  | [], m => [m]
  | c :: cs, m => if 0 < c ∧ c < (m.Len.toNat : Int) then hdS m c.toNat :: cut21 cs (tlS m c.toNat) else cut21 cs m
theorem cut21_cov : ∀ (cs : List Int) (m : Seg), Cov (cut21 cs m) [m]
  | [], m => cov_refl [m]
  | c :: cs, m => by
    unfold cut21
    by_cases h : 0 < c ∧ c < (m.Len.toNat : Int)
    · rw [if_pos h]
      have hl : (hdS m c.toNat).Len.toNat = c.toNat := hd_len (by omega)
      exact .part _ _ _ _ rfl rfl (by omega) (by omega) (by rw [hl]; exact cut21_cov cs _)
    · rw [if_neg h]; exact cut21_cov cs m
theorem cut21_len : ∀ (cs : List Int) (m : Seg), (cut21 cs m).length ≤ cs.length + 1
  | [], m => Nat.le_refl _
  | c :: cs, m => by
    unfold cut21
    by_cases h : 0 < c ∧ c < (m.Len.toNat : Int)
    · rw [if_pos h, List.length_cons, List.length_cons]; have := cut21_len cs (tlS m c.toNat); omega
    · rw [if_neg h, List.length_cons]; have := cut21_len cs m; omega
/-- the last part ends where the whole ends -/
theorem cut21_last : ∀ (cs : List Int) (m : Seg), 0 < m.Len.toNat → m.At.toNat + m.Len.toNat ≤ 1000000 → ∃ s, (cut21 cs m).getLast? = some s ∧ s.At.toNat + s.Len.toNat = m.At.toNat + m.Len.toNat ∧ 0 < s.Len.toNat
  | [], m, h0, _ => ⟨m, rfl, rfl, h0⟩
  | c :: cs, m, h0, h1 => by
    unfold cut21
    by_cases h : 0 < c ∧ c < (m.Len.toNat : Int)
    · rw [if_pos h]
      have ha := tl_at (x := m) (n := c.toNat) (by omega) (by omega)
      have hl := tl_len (x := m) (n := c.toNat)
      obtain ⟨s, e1, e2, e3⟩ := cut21_last cs (tlS m c.toNat) (by omega) (by omega)
      refine ⟨s, ?_, by omega, e3⟩
      rw [List.getLast?_cons, e1]; rfl
    · rw [if_neg h]; exact cut21_last cs m h0 h1
theorem cutL (cuts : List Int) (hc : cuts.length ≤ 1000) : ∀ (nf i : Nat) (m : Seg) (out : List Seg), i ≤ cuts.length → cuts.length - i < nf → out.length ≤ i → law21zcutL1 cuts nf m out (i : Int) = some (out ++ cut21 (cuts.drop i) m)
  | 0, i, _, _, _, h, _ => absurd h (Nat.not_lt_zero _)
  | nf + 1, i, m, out, hi, hf, ho => by
    unfold law21zcutL1 law21zcutL1B
    by_cases c : i < cuts.length
    · have hg : cuts[i]? = some cuts[i] := getq c
      rw [drop_ix c, bP (by simp only [len]; omega), oS (ix_nat hg)]
      unfold cut21
      by_cases h1 : cuts[i] > 0
      · rw [bP h1, oS (ix_nat hg)]
        by_cases h2 : cuts[i] < i32 m.Len
        · have h2' : cuts[i] < (m.Len.toNat : Int) := h2
          obtain ⟨k, hk⟩ : ∃ k : Nat, cuts[i] = (k : Int) := ⟨cuts[i].toNat, by omega⟩
          rw [bP h2, oS (ix_nat hg), if_pos ⟨h1, h2'⟩, cFits (by simp only [List.length_singleton]; omega), oS (ix_nat hg), oS (ix_nat hg)]
          unfold law21zcutJ3 law21zcutJ2
          rw [hk, u32_of, u64_of, Int.toNat_natCast, wi_succ (by omega)]
          have hm : m.Len - UInt32.ofNat k = UInt32.ofNat (m.Len.toNat - k) := by
            have := m.Len.toNat_lt
            apply UInt32.toNat_inj.1
            rw [UInt32.toNat_sub_of_le _ _ (by rw [UInt32.le_iff_toNat_le, UInt32.toNat_ofNat']; omega), UInt32.toNat_ofNat', UInt32.toNat_ofNat']; omega
          rw [hm]
          have := cutL cuts hc nf (i + 1) (tlS m k) (out ++ [hdS m k]) (by omega) (by omega) (by rw [List.length_append, List.length_singleton]; omega)
          rw [List.append_assoc] at this
          exact this
        · have h2' : ¬ cuts[i] < (m.Len.toNat : Int) := h2
          rw [bN h2, if_neg (fun q => h2' q.2)]
          unfold law21zcutJ3 law21zcutJ2
          rw [wi_succ (by omega)]
          exact cutL cuts hc nf (i + 1) m out (by omega) (by omega) (by omega)
      · rw [bN h1, if_neg (fun q => h1 q.1)]
        unfold law21zcutJ2
        rw [wi_succ (by omega)]
        exact cutL cuts hc nf (i + 1) m out (by omega) (by omega) (by omega)
    · rw [bN (by simp only [len]; omega), cFits (by simp only [List.length_singleton]; omega), List.drop_of_length_le (by omega)]
      rfl
theorem cut_eq21 (m : Seg) (cuts : List Int) (hc : cuts.length ≤ 1000) : law21zcut m cuts = some (cut21 cuts m) := by
  have := cutL cuts hc fuel 0 m [] (Nat.zero_le _) (by rw [fuelS]; omega) (Nat.le_refl _)
  rw [List.drop_zero, List.nil_append] at this
  exact this
/-! the buffer of a request -/
def seg1 (r : Req) : Seg := ⟨0, UInt32.ofNat (reqB r).length, false⟩
def seg2 (r : Req) : Seg := ⟨8192, UInt32.ofNat (r.Room.toNat + 1), true⟩
def cutC (cs : List Int) (r : Req) : List Seg := cut21 cs (seg1 r) ++ cut21 cs (seg2 r)
theorem cutC_cov (cs : List Int) (r : Req) : Cov (cutC cs r) [seg1 r, seg2 r] := cov_append (cut21_cov cs (seg1 r)) (cut21_cov cs (seg2 r))
theorem seg1_len {r : Req} (h : (reqB r).length ≤ 8192) : (seg1 r).Len.toNat = (reqB r).length := n32K (by omega)
theorem seg2_len {r : Req} (h : r.Room ≤ 6000) : (seg2 r).Len.toNat = r.Room.toNat + 1 := n32K (by omega)
theorem whole_good {r : Req} (h1 : (reqB r).length ≤ 8192) (h2 : r.Room ≤ 6000) : goodS [seg1 r, seg2 r] := by
  have e1 := seg1_len h1
  have e2 := seg2_len h2
  have hl := reqB_len r
  refine ⟨by simp, ?_, ?_⟩
  · unfold okS okS okS
    have a1 : (seg1 r).At.toNat = 0 := rfl
    have a2 : (seg2 r).At.toNat = 8192 := rfl
    rw [Bool.and_true, Bool.and_eq_true, decide_eq_true_eq, decide_eq_true_eq]
    exact ⟨⟨by omega, by omega, fun q => by cases q⟩, by omega, by omega, fun _ => rfl⟩
  · simp only [sumS]; omega
theorem whole_in {r : Req} (h1 : (reqB r).length ≤ 8192) (h2 : r.Room ≤ 6000) : inF 16384 [seg1 r, seg2 r] := by
  have e1 := seg1_len h1
  have e2 := seg2_len h2
  have a1 : (seg1 r).At.toNat = 0 := rfl
  have a2 : (seg2 r).At.toNat = 8192 := rfl
  intro s hs
  rcases List.mem_cons.1 hs with q | q
  · subst q; omega
  · rw [List.mem_singleton] at q; subst q; omega
theorem u32roomK {n : Nat} (h : n ≤ 4000000) : (u32 (n : Int) + 1).toNat = n + 1 := by
  rw [u32_of, UInt32.toNat_add, UInt32.toNat_ofNat']
  simp only [UInt32.reduceToNat]; omega
/-- what is done with the answer -/
def finD (m : gmem_Mem) (l : List Seg) (x : List UInt8 × UInt8 × sectors_Store) : Option (UInt32 × Int × List (List UInt8) × sectors_Store) :=
  ob (seg_Scatter m l x.1) fun sc =>
  ob (ix l (wi ((len l) - (1 : Int)))) fun s1 =>
  ob (gmem_Mem_Write (gmem_Mem.mk m.l sc.2.2) ((s1.At + s1.Len.toUInt64) - (1 : UInt64)) [x.2.1]) fun w =>
  some ((u32 (len x.1)) + (1 : UInt32), (0 : Int), w.2, x.2.2)
theorem doTail (m : gmem_Mem) (l : List Seg) (t : UInt32) (w : blk_work) (s : sectors_Store) (x : List UInt8 × UInt8 × sectors_Store) (hw : wkF t w s = some x) (r : UInt32 × Int × List (List UInt8) × sectors_Store) (hf : finD m l x = some r) :
    (ob (blk_kind_does t) fun does1 =>
  br (does1 == 38)
  (ob (blk_work_in w s) fun in1 =>
  ob (seg_Scatter m l in1.1) fun scatte1 =>
  ob (ix l (wi ((len l) - (1 : Int)))) fun s1 =>
  ob (gmem_Mem_Write (gmem_Mem.mk m.l scatte1.2.2) ((s1.At + s1.Len.toUInt64) - (1 : UInt64)) [in1.2.1]) fun write1 =>
  some ((u32 (len in1.1)) + (1 : UInt32), (0 : Int), write1.2, in1.2.2))
  (br (does1 == 39)
  (ob (blk_work_out w s) fun out1 =>
  ob (seg_Scatter m l out1.1) fun scatte2 =>
  ob (ix l (wi ((len l) - (1 : Int)))) fun s2 =>
  ob (gmem_Mem_Write (gmem_Mem.mk m.l scatte2.2.2) ((s2.At + s2.Len.toUInt64) - (1 : UInt64)) [out1.2.1]) fun write2 =>
  some ((u32 (len out1.1)) + (1 : UInt32), (0 : Int), write2.2, out1.2.2))
  (br (does1 == 40)
  (ob (blk_work_sync w s) fun sync1 =>
  ob (seg_Scatter m l sync1.1) fun scatte3 =>
  ob (ix l (wi ((len l) - (1 : Int)))) fun s3 =>
  ob (gmem_Mem_Write (gmem_Mem.mk m.l scatte3.2.2) ((s3.At + s3.Len.toUInt64) - (1 : UInt64)) [sync1.2.1]) fun write3 =>
  some ((u32 (len sync1.1)) + (1 : UInt32), (0 : Int), write3.2, sync1.2.2))
  (br (does1 == 41)
  (ob (blk_work_id w s) fun id1 =>
  ob (seg_Scatter m l id1.1) fun scatte4 =>
  ob (ix l (wi ((len l) - (1 : Int)))) fun s4 =>
  ob (gmem_Mem_Write (gmem_Mem.mk m.l scatte4.2.2) ((s4.At + s4.Len.toUInt64) - (1 : UInt64)) [id1.2]) fun write4 =>
  some ((u32 (len id1.1)) + (1 : UInt32), (0 : Int), write4.2, s))
  (br (does1 == 42)
  (ob (blk_kind_does_1 w s) fun does2 =>
  ob (seg_Scatter m l does2.1) fun scatte5 =>
  ob (ix l (wi ((len l) - (1 : Int)))) fun s5 =>
  ob (gmem_Mem_Write (gmem_Mem.mk m.l scatte5.2.2) ((s5.At + s5.Len.toUInt64) - (1 : UInt64)) [does2.2.1]) fun write5 =>
  some ((u32 (len does2.1)) + (1 : UInt32), (0 : Int), write5.2, does2.2.2))
  (br (does1 == 44)
  (ob (blk_kind_does_2 w s) fun does3 =>
  ob (seg_Scatter m l does3.1) fun scatte6 =>
  ob (ix l (wi ((len l) - (1 : Int)))) fun s6 =>
  ob (gmem_Mem_Write (gmem_Mem.mk m.l scatte6.2.2) ((s6.At + s6.Len.toUInt64) - (1 : UInt64)) [does3.2.1]) fun write6 =>
  some ((u32 (len does3.1)) + (1 : UInt32), (0 : Int), write6.2, does3.2.2))
  (chk (does1 == 45) <|
  ob (blk_kind_does_3 w s) fun does4 =>
  ob (seg_Scatter m l does4.1) fun scatte7 =>
  ob (ix l (wi ((len l) - (1 : Int)))) fun s7 =>
  ob (gmem_Mem_Write (gmem_Mem.mk m.l scatte7.2.2) ((s7.At + s7.Len.toUInt64) - (1 : UInt64)) [does4.2]) fun write7 =>
  some ((u32 (len does4.1)) + (1 : UInt32), (0 : Int), write7.2, s)))))))) = some r := by
  unfold blk_kind_does
  unfold wkF at hw
  by_cases t0 : t = 0
  · rw [if_pos t0] at hw
    rw [bE t0, obS, bE rfl, oS hw]; exact hf
  rw [if_neg t0] at hw
  rw [bF t0]
  by_cases t1 : t = 1
  · rw [if_pos t1] at hw
    rw [bE t1, obS, bF (by decide), bE rfl, oS hw]; exact hf
  rw [if_neg t1] at hw
  rw [bF t1]
  by_cases t4 : t = 4
  · rw [if_pos t4] at hw
    rw [bE t4, obS, bF (by decide), bF (by decide), bE rfl, oS hw]; exact hf
  rw [if_neg t4] at hw
  rw [bF t4]
  by_cases t8 : t = 8
  · rw [if_pos t8] at hw
    rw [bE t8, obS, bF (by decide), bF (by decide), bF (by decide), bE rfl]
    cases hi : blk_work_id w s with
    | none => rw [hi] at hw; cases hw
    | some y =>
      rw [hi, obS] at hw
      obtain rfl := Option.some.inj hw
      rw [obS]; exact hf
  rw [if_neg t8] at hw
  rw [bF t8]
  by_cases t11 : t = 11
  · rw [if_pos t11] at hw
    rw [bE t11, obS, bF (by decide), bF (by decide), bF (by decide), bF (by decide), bE rfl, oS hw]; exact hf
  rw [if_neg t11] at hw
  rw [bF t11]
  by_cases t13 : t = 13
  · rw [if_pos t13] at hw
    rw [bE t13, obS, bF (by decide), bF (by decide), bF (by decide), bF (by decide), bF (by decide), bE rfl, oS hw]; exact hf
  rw [if_neg t13] at hw
  rw [bF t13, obS, bF (by decide), bF (by decide), bF (by decide), bF (by decide), bF (by decide), bF (by decide), cE rfl]
  unfold blk_kind_does_3
  obtain rfl := Option.some.inj hw
  rw [obS]; exact hf
/-- what the device does with the buffer -/
theorem doK {x : List UInt8} (hx : flatOk 16384 x) (s : sectors_Store) (f : UInt64) (nm : List UInt8) (r : Req) (hd : r.Data.length ≤ 6000) (hr : r.Room ≤ 6000) (h : okQ r) (C : List Seg) (hc : Cov C [seg1 r, seg2 r]) (hg : goodS C) (hb : rdF x 0 (reqB r).length = reqB r)
    (e : Seg) (hl : C.getLast? = some e) (he : e.At.toNat + e.Len.toNat = 8192 + r.Room.toNat + 1) (out : List UInt8) (st : UInt8) (s' : sectors_Store) (hw : wkF r.Type_ ⟨f, nm, (reqB r).drop 16, r.Sector, u64 r.Room⟩ s = some (out, st, s')) (ho : out.length ≤ r.Room.toNat) :
    blk_Do ⟨rg 16384, [x]⟩ s f nm C = some (u32 (len out) + 1, 0, [wrF (wrF x 8192 out) (8192 + r.Room.toNat) [st]], s') := by
  have hlen := reqB_len r
  have h0 := h.2.2
  have hR16 := h.1
  have hbl : (reqB r).length ≤ 8192 := by omega
  have h16 : (16384 : UInt64).toNat = 16384 := rfl
  have hxl : x.length = 16384 := hx.2.2
  have hin2 := whole_in hbl hr
  have hin : inF 16384 C := cov_in (by decide) hc hin2
  have hcR := cov_filtK false hc
  have hcW := cov_filtK true hc
  rw [show [seg1 r, seg2 r].filter (fun s => s.Write == false) = [seg1 r] from rfl] at hcR
  rw [show [seg1 r, seg2 r].filter (fun s => s.Write == true) = [seg2 r] from rfl] at hcW
  have e1 := seg1_len hbl
  have e2 := seg2_len hr
  have a1 : (seg1 r).At.toNat = 0 := rfl
  have a2 : (seg2 r).At.toNat = 8192 := rfl
  have hinR : inF x.length [seg1 r] := fun s hs => by rw [List.mem_singleton] at hs; subst hs; omega
  have hinW : inF x.length [seg2 r] := fun s hs => by rw [List.mem_singleton] at hs; subst hs; omega
  have hrd : rdS C = (reqB r).length := by
    rw [← sum_rd, cov_sum hcR]
    simp only [sumS]; omega
  have hwr : wrS C = r.Room.toNat + 1 := by
    rw [← sum_wr, cov_sum hcW]
    simp only [sumS]; omega
  have hgat : gatF x (C.filter (fun s => s.Write == false)) = reqB r := by
    rw [cov_gat x hcR hinR (by rw [hxl]; decide), gat_oneK, a1, e1, hb]
  have hsc := scatter1 hx C out (by omega) hg hin
  rw [cov_scatK hcW x out hinW (by rw [hxl]; decide), scat_oneK, a2, e2, List.take_of_length_le (by omega)] at hsc
  have hy : flatOk 16384 (wrF x 8192 out) := wrF_ok hx (by rw [h16]; omega)
  have hC0 : C.length ≤ 64 := hg.1
  have hC1 : 0 < C.length := by
    rcases C with _ | ⟨c, C⟩
    · cases hl
    · simp
  have hix : ix C (wi ((len C) - (1 : Int))) = some e := by
    have : wi ((len C) - (1 : Int)) = ((C.length - 1 : Nat) : Int) := by simp only [len]; rw [wi_in (by omega) (by omega)]; omega
    rw [this]
    exact ix_nat (by rw [← List.getLast?_eq_getElem?]; exact hl)
  have hat : ((e.At + e.Len.toUInt64) - (1 : UInt64)).toNat = 8192 + r.Room.toNat := by
    have q : (e.At + e.Len.toUInt64).toNat = 8192 + r.Room.toNat + 1 := by
      rw [UInt64.toNat_add, UInt32.toNat_toUInt64]; omega
    rw [UInt64.toNat_sub_of_le _ _ (by rw [UInt64.le_iff_toNat_le, q]; simp only [UInt64.reduceToNat]; omega), q]
    simp only [UInt64.reduceToNat]; omega
  have hwl := write1_eq hy ((e.At + e.Len.toUInt64) - (1 : UInt64)) [st] (by rw [hat, h16]; simp only [List.length_singleton]; omega)
  rw [hat] at hwl
  have hfin : finD ⟨rg 16384, [x]⟩ C (out, st, s') = some (u32 (len out) + 1, 0, [wrF (wrF x 8192 out) (8192 + r.Room.toNat) [st]], s') := by
    unfold finD
    dsimp only
    rw [oS hsc, oS hix]
    dsimp only
    rw [oS hwl]
  have hrm : UInt64.ofNat (r.Room.toNat + 1) - 1 = u64 r.Room := by
    have q := u64nK (n := r.Room.toNat) (by omega)
    rw [show ((r.Room.toNat : Nat) : Int) = r.Room by omega] at q
    apply UInt64.toNat_inj.1
    rw [UInt64.toNat_sub_of_le _ _ (by rw [UInt64.le_iff_toNat_le, n64K (by omega)]; simp only [UInt64.reduceToNat]; omega), n64K (by omega), q]
    simp only [UInt64.reduceToNat]; omega
  unfold blk_Do
  rw [oS (gather1 hx C hg hin), hgat]
  dsimp only
  rw [nE rfl, oS (segTotal C)]
  unfold totS
  rw [if_pos hg, hrd, hwr, oS (breq_read r (by omega))]
  dsimp only
  rw [nE rfl, bF (fun q => by
    have := congrArg UInt64.toNat q
    rw [n64K (by omega)] at this
    simp only [UInt64.reduceToNat] at this; omega), hrm]
  exact doTail ⟨rg 16384, [x]⟩ C r.Type_ ⟨f, nm, (reqB r).drop 16, r.Sector, u64 r.Room⟩ s (out, st, s') hw _ hfin
theorem ix0K {α : Type} (a : α) (l : List α) : ix (a :: l) 0 = some a := rfl
theorem a2two {α : Type} (x : A2 α) (u : α) : ((x.st 0 u).st 1 u).a0 = ((x.st 0 u).st 1 u).a1 := rfl
theorem hnew16 : gmem_New [Region.mk 0 16384] = some (some ⟨rg 16384, [z1 16384]⟩, 0) := new1_eq (n := 16384) (by decide) (by decide)
theorem seg1_eq (r : Req) : Seg.mk 0 (u32 (len (reqB r))) false = seg1 r := by unfold seg1; rw [len_nat, u32_of]
theorem seg2_eq {r : Req} (h0 : 0 ≤ r.Room) (h1 : r.Room ≤ 6000) : Seg.mk 8192 (u32 (wi (r.Room + 1))) true = seg2 r := by
  unfold seg2
  have : wi (r.Room + 1) = ((r.Room.toNat + 1 : Nat) : Int) := by rw [wi_in (by omega) (by omega)]; omega
  rw [this, u32_of]
/-- one of the two ways -/
theorem cutsStep (r : Req) (image : List UInt8) (hi : image.length ≤ 6000) (f : UInt64) (hd : r.Data.length ≤ 6000) (hr : r.Room ≤ 6000) (h : okQ r) (c1 c2 : List Seg) (l : List Sec) (m : List (Int × Sec)) (hO : sectors_Of image = some (some ⟨l, m⟩, 0)) (hn : l.length ≤ 4096)
    (out : List UInt8) (st : UInt8) (s' : sectors_Store) (hw : wkF r.Type_ ⟨f, [98, 111, 120], (reqB r).drop 16, r.Sector, u64 r.Room⟩ ⟨l, m⟩ = some (out, st, s')) (ho : out.length ≤ r.Room.toNat) (hs' : s'.l.length ≤ 4096)
    (D : List Seg) (x : Nat) (hx : x < 2) (hD : [[seg1 r, seg2 r], c1 ++ c2][x]? = some D) (hc : Cov D [seg1 r, seg2 r]) (hg : goodS D) (e : Seg) (hl : D.getLast? = some e) (he : e.At.toNat + e.Len.toNat = 8192 + r.Room.toNat + 1)
    (L1 : UInt32 → UInt64 → List UInt8 → Int → List Range → List UInt8 → A2 (List UInt8) → Int → Option Bool) (M : A2 (List UInt8)) :
    law21zBlkCutsL1B r image f (reqB r, 0) c1 c2 L1 r.Type_ r.Sector r.Data r.Room r.Ranges (reqB r) M (x : Int) = L1 r.Type_ r.Sector r.Data r.Room r.Ranges (reqB r) (M.st x (rdF (wrF (wrF (wrF (z1 16384) 0 (reqB r)) 8192 out) (8192 + r.Room.toNat) [st]) 8192 (r.Room.toNat + 1) ++ flt s'.l)) ((x + 1 : Nat) : Int) := by
  have hlen := reqB_len r
  have h0 := h.2.2
  have hR16 := h.1
  have h16 : (16384 : UInt64).toNat = 16384 := rfl
  have hz := z1_ok (n := 16384) (by decide) (by decide)
  have hzl : (z1 16384).length = 16384 := hz.2.2
  have hwr := write1_eq hz 0 (reqB r) (by rw [h16]; show 0 + _ ≤ _; omega)
  rw [show (0 : UInt64).toNat = 0 from rfl] at hwr
  have hy : flatOk 16384 (wrF (z1 16384) 0 (reqB r)) := wrF_ok hz (by rw [h16]; omega)
  have hb : rdF (wrF (z1 16384) 0 (reqB r)) 0 (reqB r).length = reqB r := rdF_selfK (by omega)
  have hdo := doK hy ⟨l, m⟩ f [98, 111, 120] r hd hr h D hc hg hb e hl he out st s' hw ho
  generalize wrF (z1 16384) 0 (reqB r) = y at *
  have hyl : y.length = 16384 := hy.2.2
  have hv : flatOk 16384 (wrF y 8192 out) := wrF_ok hy (by rw [h16]; omega)
  have hvl : (wrF y 8192 out).length = 16384 := hv.2.2
  have hv2 : flatOk 16384 (wrF (wrF y 8192 out) (8192 + r.Room.toNat) [st]) := wrF_ok hv (by rw [h16, List.length_singleton]; omega)
  have hrd := read1_eq hv2 8192 (r.Room.toNat + 1) (by rw [h16]; show 8192 + _ ≤ _; omega)
  rw [show (8192 : UInt64).toNat = 8192 from rfl] at hrd
  have hroom : wi (r.Room + (1 : Int)) = ((r.Room.toNat + 1 : Nat) : Int) := by rw [wi_in (by omega) (by omega)]; omega
  -- what is read there
  have hdr : (rdF (wrF (wrF y 8192 out) (8192 + r.Room.toNat) [st]) 8192 (r.Room.toNat + 1)).drop r.Room.toNat = [st] := by
    rw [← rdF_drop, show r.Room.toNat + 1 - r.Room.toNat = ([st] : List UInt8).length by simp]
    exact rdF_selfK (by rw [hvl, List.length_singleton]; omega)
  have hst : (rdF (wrF (wrF y 8192 out) (8192 + r.Room.toNat) [st]) 8192 (r.Room.toNat + 1))[r.Room.toNat]? = some st := by
    have : ((rdF (wrF (wrF y 8192 out) (8192 + r.Room.toNat) [st]) 8192 (r.Room.toNat + 1)).drop r.Room.toNat)[0]? = some st := by rw [hdr]; rfl
    rw [List.getElem?_drop, Nat.add_zero] at this; exact this
  have htk : (rdF (wrF (wrF y 8192 out) (8192 + r.Room.toNat) [st]) 8192 (r.Room.toNat + 1)).take out.length = out := by
    rw [← rdF_take (by omega), rdF_outK (by rw [hvl, List.length_singleton]; omega) (Or.inl (by omega))]
    exact rdF_selfK (by omega)
  have hLr : (rdF (wrF (wrF y 8192 out) (8192 + r.Room.toNat) [st]) 8192 (r.Room.toNat + 1)).length = r.Room.toNat + 1 := rdF_len (by rw [hv2.2.2, h16]; omega)
  have happ : blk_Apply ⟨l, m⟩ f [98, 111, 120] r = some (out, st, 0, s') := by rw [apply_eqK ⟨l, m⟩ f [98, 111, 120] r (by omega) h, hw, obS]
  have hst' : ix (rdF (wrF (wrF y 8192 out) (8192 + r.Room.toNat) [st]) 8192 (r.Room.toNat + 1)) r.Room = some st := by
    have := ix_nat hst
    rw [show ((r.Room.toNat : Nat) : Int) = r.Room by omega] at this; exact this
  have hfl := flt_len s'.l
  unfold law21zBlkCutsL1B
  dsimp only
  rw [seg1_eq r, seg2_eq h0 hr, bP (show (x : Int) < len [[seg1 r, seg2 r], c1 ++ c2] by simp only [len, List.length_cons, List.length_nil]; omega), oS (ix_nat hD), oS hnew16]
  dsimp only [onO]
  rw [oS (own_eq image (by omega)), oS hO]
  dsimp only [onO]
  rw [cnE rfl, nE rfl, oS hwr]
  dsimp only
  rw [cnE rfl, oS hdo]
  dsimp only
  rw [hroom, oS hrd]
  dsimp only
  rw [cnE rfl, cnE rfl, cN (show ¬ u32 (len out) + 1 < 1 by
    rw [UInt32.lt_iff_toNat_lt, len_nat, u32roomK (by omega)]; simp only [UInt32.reduceToNat]; omega), oS (own_eq image (by omega)), oS hO]
  dsimp only [onO]
  rw [oS (show blk_Apply ⟨l, m⟩ f [98, 111, 120] ⟨r.Type_, r.Sector, r.Data, r.Room, r.Ranges⟩ = some (out, st, 0, s') from happ)]
  dsimp only
  rw [cnE rfl, oS hst', cnE rfl, cnE rfl, cDK (by simp only [len]; omega), sub_to, show (len out).toNat = out.length from rfl, cnE htk, oS (sImage s' hs'), oS (sImage s' hs'), cnE rfl, oS (sImage s' hs')]
  dsimp only
  rw [cDK (by omega), cDK (by omega), cDK (by omega), Int.toNat_natCast, wi_succ (by omega)]
theorem cutsBad (r : Req) (image : List UInt8) (hi : image.length ≤ 6000) (f : UInt64) (by1 : List UInt8 × Int) (c1 c2 : List Seg) (hO : sectors_Of image = some (none, 2)) (L1 : UInt32 → UInt64 → List UInt8 → Int → List Range → List UInt8 → A2 (List UInt8) → Int → Option Bool)
    (T : UInt32) (S : UInt64) (D : List UInt8) (R : Int) (Rs : List Range) (b : List UInt8) (M : A2 (List UInt8)) : law21zBlkCutsL1B r image f by1 c1 c2 L1 T S D R Rs b M 0 = some true := by
  unfold law21zBlkCutsL1B
  rw [bP (by simp only [len, List.length_cons, List.length_nil]; decide), oS (ix0K _ _), oS hnew16]
  dsimp only [onO]
  rw [oS (own_eq image (by omega)), oS hO]
  dsimp only [onO]
  rw [cnE rfl, cF (by decide)]
theorem t_law21zBlkCuts (rp0 : Req) (image : List UInt8) (feats : UInt64) (cuts : List Int) : law21zBlkCuts rp0 image feats cuts = some true := by
  unfold law21zBlkCuts
  rw [oS lives21, notT, notF, chkT]
  obtain ⟨b, hb, hlt⟩ := light_eqK rp0
  rw [oS hb]
  cases b with
  | false => rw [notF, brT]
  | true =>
    obtain ⟨h1, h2, h3⟩ := hlt rfl
    rw [notT, brF]
    by_cases hi : len image > 6000
    · rw [bP hi]
    by_cases hk : len cuts > 40
    · rw [bN hi, bP hk]
    rw [bN hi, bN hk, oS (blkCheck_eq rp0)]
    simp only [len] at hi hk
    by_cases hq : okQ rp0
    · have hlen := reqB_len rp0
      have h0 := hq.2.2
      have hR16 := hq.1
      have hbl : (reqB rp0).length ≤ 8192 := by omega
      rw [if_pos hq, nE rfl, oS (blkBytes_eq rp0 (by omega)), if_pos hq]
      dsimp only
      have hi0 : ix [seg1 rp0, seg2 rp0] (0 : Int) = some (seg1 rp0) := ix_nat (i := 0) rfl
      have hi1 : ix [seg1 rp0, seg2 rp0] (1 : Int) = some (seg2 rp0) := ix_nat (i := 1) rfl
      have hn1 := cut21_len cuts (seg1 rp0)
      have hn2 := cut21_len cuts (seg2 rp0)
      rw [cnE rfl, seg1_eq rp0, seg2_eq h0 h3, oS hi0, oS (cut_eq21 _ cuts (by omega)), oS hi1, oS (cut_eq21 _ cuts (by omega)), cFits (by omega)]
      by_cases hC : len (cut21 cuts (seg1 rp0) ++ cut21 cuts (seg2 rp0)) > 64
      · rw [bP hC]
      rw [bN hC]
      have hC' : (cutC cuts rp0).length ≤ 64 := by
        unfold cutC
        simp only [len] at hC; omega
      have hgW := whole_good hbl h3
      have hcov := cutC_cov cuts rp0
      have hgC := cov_good hcov hgW hC'
      have hck : ref_Check05 (cut21 cuts (seg1 rp0) ++ cut21 cuts (seg2 rp0)) = some 0 := by
        have := refCheck (cutC cuts rp0)
        rw [errS_good hgC] at this; exact this
      have e2 := seg2_len h3
      have a2 : (seg2 rp0).At.toNat = 8192 := rfl
      obtain ⟨e, q1, q2, q3⟩ := cut21_last cuts (seg2 rp0) (by omega) (by omega)
      have hlC : (cutC cuts rp0).getLast? = some e := by
        unfold cutC
        rw [List.getLast?_append, q1]; rfl
      rw [show fuel = 36893488147419103229 + 1 + 1 + 1 from rfl]
      by_cases hI : okI image
      · obtain ⟨l, m, f1, f2, f3⟩ := sOf image (by omega) hI
        have hroom : (u64 rp0.Room).toNat = rp0.Room.toNat := by
          have := u64nK (n := rp0.Room.toNat) (by omega)
          rw [show ((rp0.Room.toNat : Nat) : Int) = rp0.Room by omega] at this; exact this
        obtain ⟨out, st, s', g1, g2, g3, _, _⟩ := wk_ok rp0.Type_ ⟨feats, [98, 111, 120], (reqB rp0).drop 16, rp0.Sector, u64 rp0.Room⟩ ⟨l, m⟩ (by dsimp only; omega) (by dsimp only; omega) (by dsimp only; rw [List.length_drop]; omega) (by dsimp only; decide)
        dsimp only at g2 g3
        have S := cutsStep rp0 image (by omega) feats h1 h3 hq (cut21 cuts (seg1 rp0)) (cut21 cuts (seg2 rp0)) l m f1 (by omega) out st s' g1 (by omega) (by omega)
        unfold law21zBlkCutsL1
        refine Eq.trans (S [seg1 rp0, seg2 rp0] 0 (by decide) rfl (cov_refl _) hgW (seg2 rp0) rfl (by omega) _ _) ?_
        unfold law21zBlkCutsL1
        refine Eq.trans (S (cutC cuts rp0) 1 (by decide) rfl hcov hgC e hlC (by omega) _ _) ?_
        unfold law21zBlkCutsL1 law21zBlkCutsL1B
        rw [bN (by simp only [len, List.length_cons, List.length_nil]; decide), cE (a2two _ _), oS hck, cE rfl]
      · unfold law21zBlkCutsL1
        exact cutsBad rp0 image (by omega) feats _ _ _ (sOf_bad image (by omega) hI) _ _ _ _ _ _ _ _
    · rw [if_neg hq, nF (by decide)]
end Go.Proofs.Ytjfdamiilndgeaa

end
