/- Parts of buffers in plain words: the first n bytes, what is behind them; equal lists; the read and the written parts. No condition. -/
import Derived.Test.YtgcbcnpbnonnjaaPuSeg
namespace Go.Proofs.Ytgcbcnpbnonnjaa
def hdS (x : Seg) (k : Nat) : Seg := ⟨x.At, UInt32.ofNat k, x.Write⟩
def tlS (x : Seg) (k : Nat) : Seg := ⟨x.At + UInt64.ofNat k, UInt32.ofNat (x.Len.toNat - k), x.Write⟩
def takeS : Nat → List Seg → List Seg
  | _, [] => []
  | n, x :: r => if n = 0 then [] else if n < x.Len.toNat then [hdS x n] else x :: takeS (n - x.Len.toNat) r
def dropS : Nat → List Seg → List Seg
  | _, [] => []
  | n, x :: r => if n = 0 then x :: r else if n < x.Len.toNat then tlS x n :: r else dropS (n - x.Len.toNat) r
theorem take0 (l : List Seg) : takeS 0 l = [] := by cases l <;> simp [takeS]
theorem drop0 (l : List Seg) : dropS 0 l = l := by cases l <;> simp [dropS]
def posS (l : List Seg) : Prop := ∀ s ∈ l, 0 < s.Len.toNat
theorem okS_pos : ∀ {w : Bool} {l : List Seg}, okS w l = true → posS l
  | _, [], _ => fun s h => by cases h
  | w, x :: r, h => by
    simp only [okS, Bool.and_eq_true, decide_eq_true_eq] at h
    intro s hs
    rcases List.mem_cons.1 hs with e | e
    · subst e; exact h.1.1
    · exact okS_pos h.2 s e
theorem okS_weak : ∀ {w : Bool} {l : List Seg}, okS w l = true → okS false l = true
  | w, [], _ => rfl
  | w, x :: r, h => by
    simp only [okS, Bool.and_eq_true, decide_eq_true_eq] at h ⊢
    exact ⟨⟨h.1.1, h.1.2.1, fun q => by cases q⟩, h.2⟩
theorem okS_of {w w' : Bool} {l : List Seg} (h : okS w l = true) (hw : w' = true → w = true) : okS w' l = true := by
  cases w' with
  | false => exact okS_weak h
  | true => rw [hw rfl] at h; exact h
theorem hd_len {x : Seg} {n : Nat} (h : n < x.Len.toNat) : (hdS x n).Len.toNat = n := by
  have := x.Len.toNat_lt
  simp only [hdS, UInt32.toNat_ofNat']; omega
theorem tl_len {x : Seg} {n : Nat} : (tlS x n).Len.toNat = x.Len.toNat - n := by
  have := x.Len.toNat_lt
  simp only [tlS, UInt32.toNat_ofNat']; omega
theorem tl_at {x : Seg} {n : Nat} (h : n < x.Len.toNat) (ha : x.At.toNat + x.Len.toNat ≤ 18446744073709551616) : (tlS x n).At.toNat = x.At.toNat + n := by
  have := x.Len.toNat_lt
  simp only [tlS, UInt64.toNat_add, UInt64.toNat_ofNat']; omega
theorem ok_take : ∀ {w : Bool} {l : List Seg} (n : Nat), okS w l = true → okS w (takeS n l) = true
  | w, [], n, _ => rfl
  | w, x :: r, n, h => by
    unfold takeS
    have h' := h
    simp only [okS, Bool.and_eq_true, decide_eq_true_eq] at h
    by_cases h0 : n = 0
    · rw [if_pos h0]; rfl
    · rw [if_neg h0]
      by_cases h1 : n < x.Len.toNat
      · rw [if_pos h1]
        simp only [okS, Bool.and_eq_true, decide_eq_true_eq, hd_len h1]
        refine ⟨⟨by omega, ?_, h.1.2.2⟩, trivial⟩
        show x.At.toNat + n ≤ _; omega
      · rw [if_neg h1]
        simp only [okS, Bool.and_eq_true, decide_eq_true_eq]
        exact ⟨h.1, ok_take _ h.2⟩
theorem ok_drop : ∀ {w : Bool} {l : List Seg} (n : Nat), okS w l = true → okS w (dropS n l) = true
  | w, [], n, _ => rfl
  | w, x :: r, n, h => by
    unfold dropS
    have h' := h
    simp only [okS, Bool.and_eq_true, decide_eq_true_eq] at h
    by_cases h0 : n = 0
    · rw [if_pos h0]; exact h'
    · rw [if_neg h0]
      by_cases h1 : n < x.Len.toNat
      · rw [if_pos h1]
        simp only [okS, Bool.and_eq_true, decide_eq_true_eq, tl_len, tl_at h1 h.1.2.1]
        exact ⟨⟨by omega, by omega, h.1.2.2⟩, h.2⟩
      · rw [if_neg h1]
        exact okS_of (ok_drop _ h.2) h.1.2.2
theorem sum_take : ∀ (n : Nat) (l : List Seg), sumS (takeS n l) = min n (sumS l)
  | n, [] => by simp [takeS, sumS]
  | n, x :: r => by
    unfold takeS
    by_cases h0 : n = 0
    · rw [if_pos h0]; simp [sumS, h0]
    · rw [if_neg h0]
      by_cases h1 : n < x.Len.toNat
      · rw [if_pos h1]; simp only [sumS, hd_len h1]; omega
      · rw [if_neg h1]
        have := sum_take (n - x.Len.toNat) r
        simp only [sumS]; omega
theorem sum_drop : ∀ (n : Nat) (l : List Seg), sumS (dropS n l) = sumS l - n
  | n, [] => by simp [dropS, sumS]
  | n, x :: r => by
    unfold dropS
    by_cases h0 : n = 0
    · rw [if_pos h0]; simp [sumS, h0]
    · rw [if_neg h0]
      by_cases h1 : n < x.Len.toNat
      · rw [if_pos h1]; simp only [sumS, tl_len]; omega
      · rw [if_neg h1]
        have := sum_drop (n - x.Len.toNat) r
        simp only [sumS]; omega
theorem len_take : ∀ (n : Nat) (l : List Seg), (takeS n l).length ≤ l.length
  | n, [] => by simp [takeS]
  | n, x :: r => by
    unfold takeS
    have := len_take (n - x.Len.toNat) r
    split
    · simp
    · split
      · simp
      · simp only [List.length_cons]; omega
theorem len_drop : ∀ (n : Nat) (l : List Seg), (dropS n l).length ≤ l.length
  | n, [] => by simp [dropS]
  | n, x :: r => by
    unfold dropS
    have := len_drop (n - x.Len.toNat) r
    split
    · simp
    · split
      · simp
      · simp only [List.length_cons]; omega
theorem good_take {l : List Seg} (n : Nat) (h : XE l) : XE (takeS n l) := ⟨Nat.le_trans (len_take n l) h.1, ok_take n h.2.1, by rw [sum_take]; have := h.2.2; omega⟩
theorem good_drop {l : List Seg} (n : Nat) (h : XE l) : XE (dropS n l) := ⟨Nat.le_trans (len_drop n l) h.1, ok_drop n h.2.1, by rw [sum_drop]; have := h.2.2; omega⟩
theorem take_all : ∀ (n : Nat) (l : List Seg), posS l → sumS l ≤ n → takeS n l = l
  | n, [], _, _ => rfl
  | n, x :: r, hp, h => by
    have h1 := hp x (by simp)
    simp only [sumS] at h
    unfold takeS
    rw [if_neg (by omega), if_neg (by omega), take_all _ r (fun s hs => hp s (by simp [hs])) (by omega)]
theorem take_take : ∀ (m n : Nat) (l : List Seg), takeS m (takeS n l) = takeS (min m n) l
  | m, n, [] => rfl
  | m, n, x :: r => by
    rw [takeS.eq_2 n]
    by_cases h0 : n = 0
    · rw [if_pos h0, h0]; simp [take0, takeS]
    · rw [if_neg h0]
      by_cases h1 : n < x.Len.toNat
      · rw [if_pos h1]
        simp only [takeS, hd_len h1]
        by_cases hm : m = 0
        · rw [if_pos hm, if_pos (show min m n = 0 by omega)]
        · by_cases hm2 : m < n
          · rw [if_neg hm, if_pos hm2, if_neg (show ¬ min m n = 0 by omega), if_pos (show min m n < x.Len.toNat by omega), show min m n = m by omega]; rfl
          · rw [if_neg hm, if_neg hm2, if_neg (show ¬ min m n = 0 by omega), if_pos (show min m n < x.Len.toNat by omega), show min m n = n by omega]
      · rw [if_neg h1]
        simp only [takeS]
        by_cases hm : m = 0
        · rw [if_pos hm, if_pos (show min m n = 0 by omega)]
        · by_cases hm2 : m < x.Len.toNat
          · rw [if_neg hm, if_pos hm2, if_neg (show ¬ min m n = 0 by omega), if_pos (show min m n < x.Len.toNat by omega), show min m n = m by omega]
          · rw [if_neg hm, if_neg hm2, if_neg (show ¬ min m n = 0 by omega), if_neg (show ¬ min m n < x.Len.toNat by omega), take_take, show min (m - x.Len.toNat) (n - x.Len.toNat) = min m n - x.Len.toNat by omega]
theorem tl_tl {x : Seg} {a b : Nat} (h : a + b ≤ x.Len.toNat) : tlS (tlS x a) b = tlS x (a + b) := by
  have := x.Len.toNat_lt
  have e := tl_len (x := x) (n := a)
  unfold tlS at e ⊢
  simp only [Seg.mk.injEq, and_true]
  refine ⟨by rw [UInt64.add_assoc, ← UInt64.ofNat_add], ?_⟩
  apply UInt32.toNat_inj.1
  simp only [UInt32.toNat_ofNat'] at e ⊢; omega
theorem drop_drop : ∀ (a b : Nat) (l : List Seg), posS l → dropS a (dropS b l) = dropS (b + a) l
  | a, b, [], _ => rfl
  | a, b, x :: r, hp => by
    have hx := hp x (by simp)
    have hr : posS r := fun s hs => hp s (by simp [hs])
    rw [dropS.eq_2 b]
    by_cases h0 : b = 0
    · rw [if_pos h0, h0, Nat.zero_add]
    · rw [if_neg h0]
      by_cases h1 : b < x.Len.toNat
      · rw [if_pos h1]
        simp only [dropS, tl_len]
        by_cases ha : a = 0
        · rw [if_pos ha, if_neg (by omega), if_pos (by omega), ha, Nat.add_zero]
        · by_cases ha2 : a < x.Len.toNat - b
          · rw [if_neg ha, if_pos ha2, if_neg (show ¬ b + a = 0 by omega), if_pos (show b + a < x.Len.toNat by omega), tl_tl (by omega)]
          · rw [if_neg ha, if_neg ha2, if_neg (show ¬ b + a = 0 by omega), if_neg (show ¬ b + a < x.Len.toNat by omega), show a - (x.Len.toNat - b) = b + a - x.Len.toNat by omega]
      · rw [if_neg h1, drop_drop _ _ r hr]
        rw [dropS.eq_2 (b + a), if_neg (by omega), if_neg (by omega), show b - x.Len.toNat + a = b + a - x.Len.toNat by omega]
theorem drop_take : ∀ (m n : Nat) (l : List Seg), posS l → dropS m (takeS n l) = takeS (n - m) (dropS m l)
  | m, n, [], _ => rfl
  | m, n, x :: r, hp => by
    have hx := hp x (by simp)
    have hr : posS r := fun s hs => hp s (by simp [hs])
    have hb := x.Len.toNat_lt
    by_cases hm : m = 0
    · rw [hm, drop0, drop0, Nat.sub_zero]
    rw [takeS.eq_2 n, dropS.eq_2 m x r, if_neg hm]
    by_cases h0 : n = 0
    · rw [if_pos h0, h0, Nat.zero_sub, take0]; rfl
    · rw [if_neg h0]
      by_cases h1 : n < x.Len.toNat
      · rw [if_pos h1]
        simp only [dropS, hd_len h1, if_neg hm]
        by_cases h2 : m < n
        · rw [if_pos h2, if_pos (by omega), takeS.eq_2, if_neg (by omega), tl_len, if_pos (by omega)]
          congr 1
          unfold tlS hdS
          simp only [Seg.mk.injEq, and_true, true_and]
          apply UInt32.toNat_inj.1
          simp only [UInt32.toNat_ofNat']; omega
        · rw [if_neg h2, show n - m = 0 by omega, take0]
      · rw [if_neg h1, dropS.eq_2 m, if_neg hm]
        by_cases h2 : m < x.Len.toNat
        · rw [if_pos h2, if_pos h2, takeS.eq_2, if_neg (by omega), tl_len, if_neg (by omega), show n - m - (x.Len.toNat - m) = n - x.Len.toNat by omega]
        · rw [if_neg h2, if_neg h2, drop_take _ _ r hr, show n - x.Len.toNat - (m - x.Len.toNat) = n - m by omega]
theorem minu_of (n : Nat) (x : UInt32) (h : n < 18446744073709551616) : QQ (UInt64.ofNat n) x.toUInt64 = UInt64.ofNat (min n x.toNat) := by
  have hx := x.toNat_lt
  have e : (x.toUInt64 < UInt64.ofNat n) ↔ x.toNat < n := by
    rw [UInt64.lt_iff_toNat_lt, UInt64.toNat_ofNat', UInt32.toNat_toUInt64, Nat.mod_eq_of_lt h]
  unfold QQ
  by_cases q : x.toNat < n
  · rw [if_pos (e.2 q), Nat.min_eq_right (by omega)]
    apply UInt64.toNat_inj.1; rw [UInt64.toNat_ofNat', UInt32.toNat_toUInt64]; omega
  · rw [if_neg (fun z => q (e.1 z)), Nat.min_eq_left (by omega)]
theorem to32 (n : Nat) (h : n < 18446744073709551616) : (UInt64.ofNat n).toUInt32 = UInt32.ofNat n := by
  apply UInt32.toNat_inj.1; simp only [UInt64.toNat_toUInt32, UInt64.toNat_ofNat', UInt32.toNat_ofNat']; omega
theorem len_to32 (x : UInt32) : x.toUInt64.toUInt32 = x := by
  apply UInt32.toNat_inj.1
  have := x.toNat_lt
  simp only [UInt64.toNat_toUInt32, UInt32.toNat_toUInt64]; omega
theorem eatL : ∀ (nf : Nat) (l : List Seg) (n : Nat) (out : List Seg), posS l → l.length < nf → n < 18446744073709551616 → out.length + l.length ≤ 1000 →
    Yv nf l (UInt64.ofNat n) out = some (out ++ takeS n l, dropS n l)
  | 0, l, n, out, _, h, _, _ => by omega
  | nf + 1, l, n, out, hp, hn, hb, hf => by
    unfold Yv seg_row_eatL1B
    by_cases h0 : n = 0
    · rw [bN (by rw [h0]; decide), h0, take0, drop0, List.append_nil]
    · rw [bP (by rw [GT.gt, UInt64.lt_iff_toNat_lt, UInt64.toNat_ofNat']; simp only [UInt64.reduceToNat]; omega)]
      cases l with
      | nil => rw [bN (by simp [len])]; simp [takeS, dropS]
      | cons x r =>
        have hx := hp x (by simp)
        have hr : posS r := fun s hs => hp s (by simp [hs])
        have hxl := x.Len.toNat_lt
        simp only [List.length_cons] at hn hf
        have hsub : sub (x :: r) (1 : Int) (len (x :: r)) = r := by rw [YN]; rfl
        rw [bP (by simp only [len, List.length_cons]; omega), oS (show ix (x :: r) (0 : Int) = some x from rfl), minu_of n x.Len hb, Kn (by simp; omega)]
        simp only [takeS, dropS, if_neg h0]
        by_cases h1 : n < x.Len.toNat
        · rw [if_pos h1, if_pos h1, Nat.min_eq_left (by omega), to32 _ hb]
          rw [bP (by rw [UInt64.lt_iff_toNat_lt, UInt64.toNat_ofNat', UInt32.toNat_toUInt64]; omega), cP (by simp only [len, List.length_cons]; omega), hsub, Kn (by simp; omega)]
          refine congrArg some (congrArg (fun z => (out ++ [hdS x n], z :: r)) ?_)
          unfold tlS
          simp only [Seg.mk.injEq, and_true, true_and]
          apply UInt32.toNat_inj.1
          rw [UInt32.toNat_sub_of_le]
          · simp only [UInt32.toNat_ofNat']; omega
          · rw [UInt32.le_iff_toNat_le]; simp only [UInt32.toNat_ofNat']; omega
        · rw [if_neg h1, if_neg h1, Nat.min_eq_right (by omega)]
          have e1 : UInt64.ofNat x.Len.toNat = x.Len.toUInt64 := by
            apply UInt64.toNat_inj.1; rw [UInt64.toNat_ofNat', UInt32.toNat_toUInt64]; omega
          rw [bN (by rw [e1, UInt64.lt_iff_toNat_lt]; omega), cP (by simp only [len, List.length_cons]; omega), hsub]
          have e2 : UInt64.ofNat n - UInt64.ofNat x.Len.toNat = UInt64.ofNat (n - x.Len.toNat) := by
            apply UInt64.toNat_inj.1
            rw [UInt64.toNat_sub_of_le]
            · simp only [UInt64.toNat_ofNat']; omega
            · rw [UInt64.le_iff_toNat_le]; simp only [UInt64.toNat_ofNat']; omega
          rw [e2, eatL nf r (n - x.Len.toNat) _ hr (by omega) (by omega) (by simp; omega)]
          rw [e1, len_to32]
          simp
theorem eat_eq {l : List Seg} {n : Nat} (h : XE l) (hn : n < 18446744073709551616) : seg_row_eat l (UInt64.ofNat n) = some (takeS n l, dropS n l) := by
  unfold seg_row_eat
  have := eatL fuel l n [] (okS_pos h.2.1) (by have := h.1; unfold fuel; omega) hn (by have := h.1; simp; omega)
  simpa using this
theorem cut_eq {l : List Seg} {a n : Nat} (h : XE l) (ha : a < 18446744073709551616) (hn : n < 18446744073709551616) : seg_Cut l (UInt64.ofNat a) (UInt64.ofNat n) = some (takeS n (dropS a l)) := by
  unfold seg_Cut
  have hl := h.1
  rw [oS (segCheck l), nE (errS_good h)]
  have hc : ZB l = some l := by unfold ZB; rw [Kn (by simp; omega)]
  rw [oS hc, oS (eat_eq h ha)]
  simp only
  rw [oS (eat_eq (good_drop a h) hn)]
theorem sub_ofNat {a b : Nat} (ha : a < 18446744073709551616) (hb : b ≤ a) : UInt64.ofNat a - UInt64.ofNat b = UInt64.ofNat (a - b) := by
  apply UInt64.toNat_inj.1
  rw [UInt64.toNat_sub_of_le]
  · simp only [UInt64.toNat_ofNat']; omega
  · rw [UInt64.le_iff_toNat_le]; simp only [UInt64.toNat_ofNat']; omega
theorem partL (l : List Seg) (w : Bool) (hl : l.length ≤ 64) : ∀ (nf i : Nat) (out : List Seg), out.length ≤ i → i ≤ l.length → l.length - i < nf → seg_PartL1 l w nf out (i : Int) = some (out ++ (l.drop i).filter (fun s => s.Write == w))
  | 0, i, out, _, _, h => by omega
  | nf + 1, i, out, ho, hi, hn => by
    unfold seg_PartL1 seg_PartL1B
    by_cases h : i < l.length
    · have hd : l.drop i = l[i] :: l.drop (i + 1) := YF h
      rw [hd, bP (by simp only [len]; omega), oS (ZF (getq h)), Zt (by omega)]
      by_cases hw : l[i].Write = w
      · rw [bE hw, Kn (by simp; omega), partL l w hl nf (i + 1) _ (by simp; omega) (by omega) (by omega)]
        rw [List.filter_cons, if_pos (by simpa using hw)]; simp
      · rw [bF hw, partL l w hl nf (i + 1) _ (by omega) (by omega) (by omega)]
        rw [List.filter_cons, if_neg (by simpa using hw)]
    · rw [bN (by simp only [len]; omega), List.drop_of_length_le (by omega)]; simp
theorem part_eq {l : List Seg} (h : XE l) (w : Bool) : seg_Part l w = some (l.filter (fun s => s.Write == w)) := by
  unfold seg_Part
  rw [oS (segCheck l), nE (errS_good h)]
  have := partL l w h.1 fuel 0 [] (by simp) (by omega) (by have := h.1; unfold fuel; omega)
  simpa using this
theorem part_w : ∀ {l : List Seg}, okS true l = true → l.filter (fun s => s.Write == true) = l ∧ l.filter (fun s => s.Write == false) = []
  | [], _ => ⟨rfl, rfl⟩
  | x :: r, h => by
    simp only [okS, Bool.and_eq_true, decide_eq_true_eq] at h
    have hw := h.1.2.2
    simp only [true_implies, forall_const] at hw
    have := part_w (l := r) (by have h2 := h.2; rw [hw] at h2; exact h2)
    simp [List.filter_cons, hw]
    simpa using this
theorem part_both : ∀ {l : List Seg}, okS false l = true → l.filter (fun s => s.Write == false) ++ l.filter (fun s => s.Write == true) = l
  | [], _ => rfl
  | x :: r, h => by
    simp only [okS, Bool.and_eq_true, decide_eq_true_eq] at h
    cases hw : x.Write with
    | false =>
      have := part_both (l := r) (by have := h.2; rw [hw] at this; exact this)
      simp only [List.filter_cons, hw, beq_self_eq_true, if_true, List.cons_append, this]
      simp; simpa using this
    | true =>
      have := part_w (l := r) (by have := h.2; rw [hw] at this; exact this)
      simp only [List.filter_cons, hw, beq_self_eq_true, if_true, this.1, this.2]
      simp
end Go.Proofs.Ytgcbcnpbnonnjaa
