/- The plain words: what the functions reckon, and that the law answers true. No condition. -/
import Derived.Test.YtjfdamiilndgeaaMo1
import Derived.Test.YtjfdamiilndgeaaGe2
section
namespace Go.Proofs.Ytjfdamiilndgeaa
def two (p : Bool) : Int := bif p then 0 else 2
theorem fuelS : fuel = 36893488147419103231 + 1 := rfl
theorem own_eq (b : List UInt8) (h : b.length ≤ 100000000) : kit_Own b = some b := by unfold kit_Own; rw [cFits (by simp; omega)]
end Go.Proofs.Ytjfdamiilndgeaa

end

section
namespace Go.Proofs.Ytjfdamiilndgeaa
/-- n low bytes -/
def wB (v : UInt64) : Nat → List UInt8
  | 0 => []
  | n + 1 => wB v n ++ [byt v n]
theorem wB_len (v : UInt64) : ∀ n, (wB v n).length = n
  | 0 => rfl
  | n + 1 => by simp only [wB, List.length_append, wB_len v n]; rfl
theorem shr_add (v : UInt64) (m n : Nat) : shr64 (shr64 v m) n = shr64 v (m + n) := by
  apply UInt64.toBitVec_inj.1
  rw [shr64_bv, shr64_bv, shr64_bv, BitVec.shiftRight_add]
theorem shr_zero (v : UInt64) : shr64 v 0 = v := by
  apply UInt64.toBitVec_inj.1
  rw [shr64_bv]; simp
theorem blkwordL (n : Nat) (hn : n ≤ 8) (v : UInt64) (b : List UInt8) (hb : b.length ≤ 100000000) : ∀ (nf x : Nat), x ≤ n → n - x < nf → blk_wordL1 (n : Int) nf (b ++ wB v x) (shr64 v (8 * x)) (x : Int) = some (b ++ wB v n)
  | 0, x, _, h => absurd h (Nat.not_lt_zero _)
  | nf + 1, x, hx, hf => by
    unfold blk_wordL1 blk_wordL1B
    by_cases h : x < n
    · have hl := wB_len v x
      rw [bP (by omega), cFits (by rw [List.length_append, hl, List.length_singleton]; omega), wi_succ (by omega), List.append_assoc, shr_add]
      exact blkwordL n hn v b hb nf (x + 1) (by omega) (by omega)
    · rw [bN (by omega), show x = n by omega]
theorem blkword_eq (b : List UInt8) (v : UInt64) (n : Nat) (hn : n ≤ 8) (hb : b.length ≤ 100000000) : blk_word b v (n : Int) = some (b ++ wB v n) := by
  have := blkwordL n hn v b hb fuel 0 (by omega) (by rw [fuelS]; omega)
  rw [show 8 * 0 = 0 from rfl, shr_zero] at this
  unfold blk_word
  rw [← this]; simp [wB]
theorem blkword4 (b : List UInt8) (v : UInt64) (hb : b.length ≤ 100000000) : blk_word b v 4 = some (b ++ wB v 4) := blkword_eq b v 4 (by decide) hb
theorem blkword8 (b : List UInt8) (v : UInt64) (hb : b.length ≤ 100000000) : blk_word b v 8 = some (b ++ wB v 8) := blkword_eq b v 8 (by decide) hb
/-- may a request be? -/
def okQ (r : Req) : Prop := r.Ranges.length ≤ 16 ∧ (r.Ranges = [] ∨ ((r.Type_ = 11 ∨ r.Type_ = 13) ∧ r.Data = [])) ∧ 0 ≤ r.Room
instance (r : Req) : Decidable (okQ r) := by unfold okQ; infer_instance
theorem blkCheck_eq (r : Req) : blk_Check r = some (if okQ r then 0 else 2) := by
  have hrg : blk_ranged r.Type_ = some (decide (r.Type_ = 11 ∨ r.Type_ = 13)) := by
    unfold blk_ranged
    by_cases h : r.Type_ = 11
    · rw [bE h]; simp [h]
    · rw [bF h]; simp only [h, false_or]; rfl
  unfold blk_Check
  by_cases h1 : len r.Ranges > 16
  · rw [bP h1, if_neg (fun q => by obtain ⟨q1, _⟩ := q; simp only [len] at h1; omega)]
  · rw [bN h1]
    simp only [len] at h1
    by_cases h2 : len r.Ranges > 0
    · rw [bP h2, oS hrg]
      simp only [len] at h2
      have hne : r.Ranges ≠ [] := fun q => by rw [q] at h2; simp at h2
      by_cases h3 : r.Type_ = 11 ∨ r.Type_ = 13
      · rw [decide_eq_true h3, notT, brF]
        by_cases h4 : len r.Data > 0
        · rw [bP h4, if_neg]
          rintro ⟨_, q, _⟩
          rcases q with q | q
          · exact hne q
          · simp only [len, q.2] at h4; simp at h4
        · rw [bN h4]
          have h5 : r.Data = [] := by cases hd : r.Data with | nil => rfl | cons a b => rw [hd] at h4; simp [len] at h4
          by_cases h6 : r.Room < 0
          · rw [bP h6, if_neg (fun q => by obtain ⟨_, _, q3⟩ := q; omega)]
          · rw [bN h6, if_pos ⟨by omega, Or.inr ⟨h3, h5⟩, by omega⟩]
      · rw [decide_eq_false h3, notF, brT, if_neg]
        rintro ⟨_, q, _⟩
        rcases q with q | q
        · exact hne q
        · exact h3 q.1
    · rw [bN h2]
      have h5 : r.Ranges = [] := by cases hd : r.Ranges with | nil => rfl | cons a b => rw [hd] at h2; simp [len] at h2
      by_cases h6 : r.Room < 0
      · rw [bP h6, if_neg (fun q => by obtain ⟨_, _, q3⟩ := q; omega)]
      · rw [bN h6, if_pos ⟨by omega, Or.inl h5, by omega⟩]
def rangeB (x : Range) : List UInt8 := wB x.Sector 8 ++ wB x.Count.toUInt64 4 ++ wB x.Flags.toUInt64 4
theorem rangeB_len (x : Range) : (rangeB x).length = 16 := by simp only [rangeB, List.length_append, wB_len]
def rangesB (l : List Range) : List UInt8 := (l.map rangeB).flatten
theorem rangesB_len (l : List Range) : (rangesB l).length = 16 * l.length := by
  induction l with
  | nil => rfl
  | cons x l ih => simp only [rangesB, List.map_cons, List.flatten_cons, List.length_append, rangeB_len, List.length_cons] at ih ⊢; omega
/-- the head of a request -/
def headB (r : Req) : List UInt8 := wB r.Type_.toUInt64 4 ++ wB 0 4 ++ wB r.Sector 8
theorem headB_len (r : Req) : (headB r).length = 16 := by simp only [headB, List.length_append, wB_len]
def reqB (r : Req) : List UInt8 := headB r ++ r.Data ++ rangesB r.Ranges
theorem reqB_len (r : Req) : (reqB r).length = 16 + r.Data.length + 16 * r.Ranges.length := by
  simp only [reqB, List.length_append, headB_len, rangesB_len]
theorem blkBytesL (r : Req) (hl : r.Ranges.length ≤ 16) : ∀ (nf i : Nat) (b : List UInt8), i ≤ r.Ranges.length → r.Ranges.length - i < nf → b.length ≤ 10000000 + 16 * i → blk_BytesL1 r nf b (i : Int) = some (b ++ rangesB (r.Ranges.drop i), 0)
  | 0, i, b, _, h, _ => absurd h (Nat.not_lt_zero _)
  | nf + 1, i, b, hi, hn, hb => by
    unfold blk_BytesL1 blk_BytesL1B
    by_cases h : i < r.Ranges.length
    · have w1 := blkword8 b r.Ranges[i].Sector (by omega)
      have w2 := blkword4 (b ++ wB r.Ranges[i].Sector 8) r.Ranges[i].Count.toUInt64 (by rw [List.length_append, wB_len]; omega)
      have w3 := blkword4 (b ++ wB r.Ranges[i].Sector 8 ++ wB r.Ranges[i].Count.toUInt64 4) r.Ranges[i].Flags.toUInt64 (by rw [List.length_append, List.length_append, wB_len, wB_len]; omega)
      rw [drop_ix h, bP (by simp only [len]; omega), oS (ix_nat (getq h)), oS w1, oS w2, oS w3, wi_succ (by omega)]
      rw [blkBytesL r hl nf (i + 1) _ (by omega) (by omega) (by simp only [List.length_append, wB_len]; omega)]
      simp only [rangesB, List.map_cons, List.flatten_cons, rangeB, List.append_assoc]
    · rw [bN (by simp only [len]; omega), List.drop_of_length_le (by omega)]; simp [rangesB]
theorem blkBytes_eq (r : Req) (hd : r.Data.length ≤ 1000000) : blk_Bytes r = some (if okQ r then (reqB r, 0) else ([], 2)) := by
  unfold blk_Bytes
  rw [oS (blkCheck_eq r)]
  by_cases h : okQ r
  · have w1 := blkword4 [] r.Type_.toUInt64 (by simp)
    have w2 := blkword4 ([] ++ wB r.Type_.toUInt64 4) 0 (by simp [wB_len])
    have w3 := blkword8 ([] ++ wB r.Type_.toUInt64 4 ++ wB 0 4) r.Sector (by simp [wB_len])
    rw [if_pos h, if_pos h, nE rfl, oS w1, oS w2, oS w3]
    have e : ([] : List UInt8) ++ wB r.Type_.toUInt64 4 ++ wB 0 4 ++ wB r.Sector 8 = headB r := by simp [headB]
    rw [e, cFits (by rw [headB_len]; omega)]
    have := blkBytesL r h.1 fuel 0 (headB r ++ r.Data) (Nat.zero_le _) (by rw [fuelS]; have := h.1; omega) (by rw [List.length_append, headB_len]; omega)
    rw [List.drop_zero] at this
    exact this
  · rw [if_neg h, if_neg h, nF (by decide)]
end Go.Proofs.Ytjfdamiilndgeaa

end

section
namespace Go.Proofs.Ytjfdamiilndgeaa
theorem cDK {P : Prop} [Decidable P] {ρ : Type} {k : Option ρ} (h : P) : chk (decide P) k = k := by rw [decide_eq_true h]; rfl
theorem lives21 : law21zlives = some true := by kernel_rfl
theorem light_eqK (r : Req) : ∃ b, kit_LightReq r 6000 = some b ∧ (b = true → r.Data.length ≤ 6000 ∧ r.Ranges.length ≤ 40 ∧ r.Room ≤ 6000) := by
  unfold kit_LightReq
  by_cases h1 : len r.Data ≤ 6000
  · rw [bP h1]
    by_cases h2 : len r.Ranges ≤ 40
    · rw [bP h2]
      refine ⟨_, rfl, fun q => ?_⟩
      simp only [len] at h1 h2
      have := of_decide_eq_true q
      omega
    · rw [bN h2]; exact ⟨false, rfl, fun q => by cases q⟩
  · rw [bN h1]; exact ⟨false, rfl, fun q => by cases q⟩
theorem sh8B (w : UInt64) : shl64 (shr64 w 8) 8 ||| w.toUInt8.toUInt64 = w := by
  have hw := w.toNat_lt
  apply UInt64.toNat_inj.1
  have h1 : (shl64 (shr64 w 8) 8).toNat = 256 * (w.toNat / 256) := by
    simp only [shl64, shr64, UInt64.toNat_ofNat']
    rw [show 2 ^ min 8 64 = 256 from rfl]; omega
  rw [UInt64.toNat_or, h1, UInt8.toNat_toUInt64, UInt64.toNat_toUInt8]
  have h2 : w.toNat % 2 ^ 8 < 2 ^ 8 := Nat.mod_lt _ (by decide)
  have := Nat.two_pow_add_eq_or_of_lt (i := 8) h2 (w.toNat / 256)
  rw [show (2 ^ 8 : Nat) = 256 from rfl] at this
  rw [show 2 ^ 8 = 256 from rfl, ← this]; omega
theorem bnumber_L (v : UInt64) (n : Nat) (hn : n ≤ 8) (b : List UInt8) (hl : b.length = n) (hb : ∀ i, i < n → b[i]? = some (byt v i)) : ∀ (nf i : Nat), i ≤ n → i < nf → blk_numberL1 b nf (shr64 v (8 * i)) ((i : Int) - 1) = some v
  | 0, i, _, h => absurd h (Nat.not_lt_zero _)
  | nf + 1, 0, _, _ => by
    unfold blk_numberL1 blk_numberL1B
    rw [bN (by omega), Nat.mul_zero, shr_zero]
  | nf + 1, i + 1, hi, hf => by
    unfold blk_numberL1 blk_numberL1B
    have e : shl64 (shr64 v (8 * (i + 1))) (8 : UInt64).toNat ||| (byt v i).toUInt64 = shr64 v (8 * i) := by
      have := sh8B (shr64 v (8 * i))
      rw [shr_add] at this
      exact this
    rw [bP (by omega), show ((i + 1 : Nat) : Int) - 1 = (i : Int) by omega, oS (ix_nat (hb i (by omega))), wi_in (by omega) (by omega), e]
    exact bnumber_L v n hn b hl hb nf i (by omega) (by omega)
theorem wB_getB (v : UInt64) : ∀ (n i : Nat), i < n → (wB v n)[i]? = some (byt v i)
  | 0, i, h => absurd h (Nat.not_lt_zero _)
  | n + 1, i, h => by
    unfold wB
    by_cases q : i < n
    · rw [List.getElem?_append_left (by rw [wB_len]; exact q)]; exact wB_getB v n i q
    · rw [List.getElem?_append_right (by rw [wB_len]; omega), wB_len, show i - n = 0 by omega, show n = i by omega]; rfl
theorem bnumber_wB (v : UInt64) (n : Nat) (hn : n ≤ 8) (h0 : shr64 v (8 * n) = 0) : blk_number (wB v n) = some v := by
  unfold blk_number
  simp only [len]
  rw [wB_len, wi_in (by omega) (by omega), ← h0]
  exact bnumber_L v n hn (wB v n) (wB_len v n) (fun i h => wB_getB v n i h) fuel n (Nat.le_refl _) (by rw [fuelS]; omega)
theorem bnumber8 (v : UInt64) : blk_number (wB v 8) = some v := bnumber_wB v 8 (by decide) (by
  apply UInt64.toNat_inj.1
  have := v.toNat_lt
  simp only [shr64, UInt64.toNat_ofNat']
  rw [show 2 ^ min (8 * 8) 64 = 18446744073709551616 from rfl, Nat.div_eq_of_lt this]; rfl)
theorem bnumber4 (v : UInt32) : blk_number (wB v.toUInt64 4) = some v.toUInt64 := bnumber_wB v.toUInt64 4 (by decide) (by
  apply UInt64.toNat_inj.1
  have := v.toNat_lt
  simp only [shr64, UInt64.toNat_ofNat', UInt32.toNat_toUInt64]
  rw [show 2 ^ min (8 * 4) 64 = 4294967296 from rfl, Nat.div_eq_of_lt this]; rfl)
theorem breq_read (r : Req) (hl : (reqB r).length ≤ 100000) : blk_Read (reqB r) = some (⟨r.Type_, r.Sector, (reqB r).drop 16, 0, []⟩, 0) := by
  have hlen := reqB_len r
  have h4 : sub (reqB r) 0 4 = wB r.Type_.toUInt64 4 := by
    rw [sub_to]
    unfold reqB headB
    rw [show (4 : Int).toNat = (wB r.Type_.toUInt64 4).length from (wB_len _ 4).symm]
    simp only [List.append_assoc]
    exact List.take_left
  have h8 : sub (reqB r) 8 16 = wB r.Sector 8 := by
    rw [show (8 : Int) = ((8 : Nat) : Int) from rfl, show (16 : Int) = ((16 : Nat) : Int) from rfl, sub_nat]
    unfold reqB headB
    have e : (wB r.Type_.toUInt64 4 ++ wB 0 4).length = 8 := by rw [List.length_append, wB_len, wB_len]
    rw [List.append_assoc, List.append_assoc, List.drop_left' e]
    rw [show 16 - 8 = (wB r.Sector 8).length from (wB_len _ 8).symm]
    exact List.take_left
  unfold blk_Read
  rw [bN (by simp only [len]; omega), cDK (by simp only [len]; omega), h4, oS (bnumber4 _), cDK (by simp only [len]; omega), h8, oS (bnumber8 _), cDK (by simp only [len]; omega), cFits (by rw [sub_from]; simp; omega), sub_from]
  simp
end Go.Proofs.Ytjfdamiilndgeaa

end

section
namespace Go.Proofs.Ytjfdamiilndgeaa
theorem wB_inj8 {a b : UInt64} (h : wB a 8 = wB b 8) : a = b := by
  have := (bnumber8 a).symm.trans ((congrArg blk_number h).trans (bnumber8 b))
  exact Option.some.inj this
theorem wB_inj4 {a b : UInt32} (h : wB a.toUInt64 4 = wB b.toUInt64 4) : a = b := by
  have := (bnumber4 a).symm.trans ((congrArg blk_number h).trans (bnumber4 b))
  have := Option.some.inj this
  have := congrArg UInt64.toUInt32 this
  simpa using this
theorem head_inj {r o : Req} (h : reqB r = reqB o) : r.Type_ = o.Type_ ∧ r.Sector = o.Sector := by
  unfold reqB headB at h
  simp only [List.append_assoc] at h
  have h1 := List.append_inj h (by rw [wB_len, wB_len])
  have h2 := List.append_inj h1.2 rfl
  have h3 := List.append_inj h2.2 (by rw [wB_len, wB_len])
  exact ⟨wB_inj4 h1.1, wB_inj8 h3.1⟩
theorem beq_false' {α : Type} [BEq α] [LawfulBEq α] {a b : α} (h : a ≠ b) : (a == b) = false := beq_false_of_ne h
theorem back_tail (r o : Req) : (br (r.Type_ == o.Type_)
  (br (r.Sector == o.Sector)
  (br (decide ((wi ((len r.Ranges) + (len o.Ranges))) > (0 : Int)))
  (some true)
  (chk ((reqB r == reqB o) == (r.Data == o.Data)) <|
  some true))
  (br (decide ((wi ((len r.Ranges) + (len o.Ranges))) > (0 : Int)))
  (some true)
  (chk ((reqB r == reqB o) == false) <|
  some true)))
  (br (decide ((wi ((len r.Ranges) + (len o.Ranges))) > (0 : Int)))
  (some true)
  (chk ((reqB r == reqB o) == false) <|
  some true))) = some true ∨ ¬ (r.Ranges.length ≤ 40 ∧ o.Ranges.length ≤ 40) := by
  by_cases hl : r.Ranges.length ≤ 40 ∧ o.Ranges.length ≤ 40
  · refine Or.inl ?_
    have hw : wi ((len r.Ranges) + (len o.Ranges)) = ((r.Ranges.length + o.Ranges.length : Nat) : Int) := by
      simp only [len]; rw [wi_in (by omega) (by omega)]; omega
    rw [hw]
    by_cases h1 : r.Type_ = o.Type_
    · rw [bE h1]
      by_cases h2 : r.Sector = o.Sector
      · rw [bE h2]
        by_cases h3 : ((r.Ranges.length + o.Ranges.length : Nat) : Int) > 0
        · rw [bP h3]
        · rw [bN h3]
          have e1 : r.Ranges = [] := List.eq_nil_of_length_eq_zero (by omega)
          have e2 : o.Ranges = [] := List.eq_nil_of_length_eq_zero (by omega)
          have : (reqB r == reqB o) = (r.Data == o.Data) := by
            unfold reqB headB
            rw [e1, e2, h1, h2]
            by_cases q : r.Data = o.Data
            · rw [q]; simp
            · rw [beq_false' q]
              refine beq_false' fun h => q ?_
              exact (List.append_cancel_left (List.append_cancel_right h))
          rw [this, cE rfl]
      · rw [bF h2]
        by_cases h3 : ((r.Ranges.length + o.Ranges.length : Nat) : Int) > 0
        · rw [bP h3]
        · rw [bN h3, beq_false' (fun h => h2 (head_inj h).2), cE rfl]
    · rw [bF h1]
      by_cases h3 : ((r.Ranges.length + o.Ranges.length : Nat) : Int) > 0
      · rw [bP h3]
      · rw [bN h3, beq_false' (fun h => h1 (head_inj h).1), cE rfl]
  · exact Or.inr hl
theorem t_law21zBlkBack (rp0 : Req) (op1 : Req) : law21zBlkBack rp0 op1 = some true := by
  unfold law21zBlkBack
  rw [oS lives21, notT, notF, chkT]
  obtain ⟨b, hb, hlt⟩ := light_eqK rp0
  rw [oS hb]
  cases b with
  | false => rw [notF, brT]
  | true =>
    obtain ⟨h1, h2, h3⟩ := hlt rfl
    rw [notT, brF]
    obtain ⟨c, hc, hlo⟩ := light_eqK op1
    rw [oS hc]
    cases c with
    | false => rw [notF, brT]
    | true =>
      obtain ⟨g1, g2, g3⟩ := hlo rfl
      rw [notT, brF, oS (blkCheck_eq rp0)]
      by_cases hq : okQ rp0
      · rw [if_pos hq, nE rfl, oS (blkCheck_eq op1)]
        by_cases ho : okQ op1
        · rw [if_pos ho, nE rfl, oS (blkBytes_eq rp0 (by omega)), if_pos hq, oS (blkBytes_eq op1 (by omega)), if_pos ho]
          have hlen := reqB_len rp0
          dsimp only
          rw [oS (own_eq _ (by omega)), oS (breq_read rp0 (by omega))]
          dsimp only
          have ht := (back_tail rp0 op1).resolve_right (fun q => q ⟨h2, g2⟩)
          have hdl : ((reqB rp0).drop 16).length = rp0.Data.length + 16 * rp0.Ranges.length := by rw [List.length_drop]; omega
          have w1 : wi ((16 : Int) + len rp0.Data) = ((16 + rp0.Data.length : Nat) : Int) := by simp only [len]; rw [wi_in (by omega) (by omega)]; omega
          have w2 : wi ((16 : Int) * len rp0.Ranges) = ((16 * rp0.Ranges.length : Nat) : Int) := by simp only [len]; rw [wi_in (by omega) (by omega)]; omega
          rw [cnE rfl, cnE rfl, cnE rfl, cnE rfl, cnE rfl, cnE rfl, cnE (show len ([] : List Range) = 0 from rfl), cnE (by
            rw [w1, w2, wi_in (by omega) (by omega)]; simp only [len]; omega)]
          have hd2 : len ((reqB rp0).drop 16) = wi ((len (reqB rp0)) - (16 : Int)) := by
            simp only [len]
            rw [hdl, wi_in (by omega) (by omega)]; omega
          by_cases h4 : len rp0.Ranges = 0
          · have e1 : rp0.Ranges = [] := List.eq_nil_of_length_eq_zero (by simp only [len] at h4; omega)
            have e2 : (reqB rp0).drop 16 = rp0.Data := by
              unfold reqB
              rw [e1, List.append_assoc, List.drop_left' (headB_len rp0)]; simp [rangesB]
            rw [bE h4, cnE e2, cnE hd2]
            exact ht
          · rw [bF h4, cnE hd2]
            exact ht
        · rw [if_neg ho, nF (by decide)]
      · rw [if_neg hq, nF (by decide)]
end Go.Proofs.Ytjfdamiilndgeaa

end
