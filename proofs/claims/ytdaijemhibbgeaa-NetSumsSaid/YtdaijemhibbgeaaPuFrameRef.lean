/- Frames as the document says them; checksums that are filled in. No condition. -/
import Derived.Test.YtdaijemhibbgeaaPuFrame
namespace Go.Proofs.Ytdaijemhibbgeaa
theorem fold2 : ∀ (nf n : Nat), n < nf → n < 18446744073709551616 → ref_Sum23L4 nf (UInt64.ofNat n) = some (cks n)
  | 0, n, h, _ => by omega
  | nf + 1, n, h, h2 => by
    unfold ref_Sum23L4 ref_Sum23L4B
    have hn : (UInt64.ofNat n).toNat = n := by rw [UInt64.toNat_ofNat']; omega
    have e1 : UInt64.ofNat n % 65536 = UInt64.ofNat (n % 65536) := by
      apply UInt64.toNat_inj.1
      rw [UInt64.toNat_mod, hn, UInt64.toNat_ofNat']; simp only [UInt64.reduceToNat]; omega
    have e2 : UInt64.ofNat n / 65536 = UInt64.ofNat (n / 65536) := by
      apply UInt64.toNat_inj.1
      rw [UInt64.toNat_div, hn, UInt64.toNat_ofNat']; simp only [UInt64.reduceToNat]; omega
    rw [e1, e2, ← UInt64.ofNat_add]
    by_cases h3 : n < 65536
    · rw [bN (by rw [GT.gt, UInt64.lt_iff_toNat_lt, hn]; simp only [UInt64.reduceToNat]; omega), Option.some.injEq]
      apply UInt16.toNat_inj.1
      rw [cks_nat, res_small h3, UInt16.toNat_not, UInt64.toNat_toUInt16, hn, UInt16.size]; omega
    · rw [bP (by rw [GT.gt, UInt64.lt_iff_toNat_lt, hn]; simp only [UInt64.reduceToNat]; omega), Nat.add_comm, fold2 nf _ (by omega) (by omega)]
      unfold cks; rw [res_fold (by omega)]
theorem drop2 {l : List UInt8} {i : Nat} (h : i + 1 < l.length) : l.drop i = l[i] :: l[i + 1] :: l.drop (i + 2) := by
  rw [drop_ix (by omega : i < l.length), drop_ix h]
theorem refSumL (b : List UInt8) (hb : b.length ≤ 100000) : ∀ (k nf i n : Nat), b.length = i + k → k < nf → n + wsum (b.drop i) < 18446744073709551616 → ref_Sum23L1 b nf (UInt64.ofNat n) (i : Int) = some (cks (n + wsum (b.drop i)))
  | k, 0, i, n, _, h, _ => by omega
  | k, nf + 1, i, n, hk, hn, hs => by
    have s8 : ∀ x : UInt8, shl64 x.toUInt64 (8 : UInt64).toNat = UInt64.ofNat (256 * x.toNat) := fun x => by
      apply UInt64.toNat_inj.1
      have hx := x.toNat_lt
      simp only [shl64, UInt64.toNat_ofNat', UInt8.toNat_toUInt64, UInt64.reduceToNat]
      rw [show 2 ^ min 8 64 = 256 from rfl]; omega
    have s1 : ∀ x : UInt8, x.toUInt64 = UInt64.ofNat x.toNat := fun x => by
      apply UInt64.toNat_inj.1
      have hx := x.toNat_lt
      simp only [UInt64.toNat_ofNat', UInt8.toNat_toUInt64]; omega
    unfold ref_Sum23L1 ref_Sum23L1B
    by_cases h : i < b.length
    · rw [bP (by simp only [len]; omega), oS (ix_nat (getq h)), wi_succ (by omega)]
      have w2 : wi ((i : Int) + 2) = ((i + 2 : Nat) : Int) := by rw [wi_in (by omega) (by omega)]; omega
      by_cases h2 : i + 1 < b.length
      · rw [drop2 h2] at hs ⊢
        simp only [wsum] at hs ⊢
        rw [bP (by simp only [len]; omega), oS (ix_nat (getq h2))]
        unfold ref_Sum23J3 ref_Sum23J2
        have e : UInt64.ofNat n + shl64 b[i].toUInt64 (8 : UInt64).toNat + b[i + 1].toUInt64 = UInt64.ofNat (n + 256 * b[i].toNat + b[i + 1].toNat) := by rw [s8, s1, ← UInt64.ofNat_add, ← UInt64.ofNat_add]
        refine ((congr (congrArg (ref_Sum23L1 b nf) e) w2).trans (refSumL b hb (k - 2) nf (i + 2) _ (by omega) (by omega) (by omega))).trans ?_
        exact congrArg (fun z => some (cks z)) (by omega)
      · rw [bN (by simp only [len]; omega)]
        have hd : b.drop i = [b[i]] := by rw [drop_ix h, List.drop_of_length_le (by omega)]
        rw [hd] at hs ⊢
        simp only [wsum] at hs ⊢
        unfold ref_Sum23J3 ref_Sum23J2
        rw [w2, s8, ← UInt64.ofNat_add]
        cases nf with
        | zero => omega
        | succ nf =>
          unfold ref_Sum23L1 ref_Sum23L1B
          rw [bN (by simp only [len]; omega)]
          exact fold2 fuel _ (by unfold fuel; omega) hs
    · rw [bN (by simp only [len]; omega)]
      have hd : b.drop i = [] := List.drop_of_length_le (by omega)
      rw [hd] at hs ⊢
      simp only [wsum, Nat.add_zero] at hs ⊢
      exact fold2 fuel _ (by unfold fuel; omega) hs
theorem refSum_eq (b : List UInt8) (h : b.length ≤ 100000) : ref_Sum23 b = some (cks (wsum b)) := by
  have h0 := wsum_le b
  have h1 := refSumL b h b.length fuel 0 0 (by omega) (by unfold fuel; omega) (by simp; omega)
  simp only [List.drop_zero, Nat.zero_add] at h1
  exact h1
theorem refCheck_eq (f : Frame) : ref_Check23 f = frame_Check f := rfl
theorem refBytesJ (D S : A6 UInt8) (v : Int) (t : UInt16) (da b : List UInt8) (h1 : b.length ≤ 100) (h2 : da.length ≤ 3000) : ref_Bytes23J3 D S v t da b = some ((b ++ [hi8 t, t.toUInt8]) ++ da, 0) := by
  unfold ref_Bytes23J3
  rw [cFits (by simp; omega), cFits (by simp; omega)]; rfl
theorem refBytesL (D S : A6 UInt8) (v : Int) (t : UInt16) (da : List UInt8) : ref_Bytes23L1 fuel D S v t da [] 0 =
    br (decide (v ≥ 0)) (chk (fits 12 4 1) <| ref_Bytes23J3 D S v t da ((l6 D ++ l6 S) ++ [129, 0, u8 (shri v (8 : UInt64).toNat), u8 v])) (ref_Bytes23J3 D S v t da (l6 D ++ l6 S)) := by kernel_rfl
theorem refBytes_eq (f : Frame) : ref_Bytes23 f = frame_Bytes f := by
  unfold ref_Bytes23
  rw [refCheck_eq]
  by_cases h : okF f
  · have h4 := h.2.2.2
    have hl : ∀ x, (l6 x).length = 6 := fun _ => rfl
    rw [bytes_ok h, oS (check_ok h), nE rfl, refBytesL]
    by_cases hv : f.Vlan ≥ 0
    · rw [bP hv, cFits (by decide), refBytesJ _ _ _ _ _ _ (by simp [hl]) (by omega)]
      simp only [bytesF, tagB_pos hv]
    · rw [bN hv, refBytesJ _ _ _ _ _ _ (by simp [hl]) (by omega)]
      simp only [bytesF, tagB_neg hv, List.append_nil]
  · rw [bytes_bad h, oS (check_bad h), nF (by decide)]
theorem kitFrame_eq (f g : Frame) : kit_Frame f g = some (f == g) := by
  unfold kit_Frame
  have key : (f == g) = (f.Dst == g.Dst && (f.Src == g.Src && (f.Vlan == g.Vlan && (f.Type_ == g.Type_ && f.Data == g.Data)))) := by
    rw [Bool.eq_iff_iff]
    simp only [beq_iff_eq, Bool.and_eq_true]
    cases f; cases g; simp
  rw [key]
  cases f.Dst == g.Dst <;> cases f.Src == g.Src <;> cases f.Vlan == g.Vlan <;> cases f.Type_ == g.Type_ <;> rfl
theorem refHdrOf_eq (h : Hdr) : ref_HdrOf23 h = some (bytesH h) := rfl
theorem clone_eq (b : List UInt8) (h : b.length ≤ 100000000) : slices_Clone_bytebyte b = some b := by
  unfold slices_Clone_bytebyte; rw [cFits (by simp; omega)]
/-- a word put at an even place -/
theorem wsum_put : ∀ (l : List UInt8) (n : Nat) (x y : UInt8), n + 2 ≤ l.length → n % 2 = 0 → l[n]? = some 0 → l[n + 1]? = some 0 → wsum ((l.set n x).set (n + 1) y) = wsum l + (256 * x.toNat + y.toNat)
  | a :: b :: r, 0, x, y, _, _, h0, h1 => by
    simp at h0 h1; subst h0; subst h1
    simp only [List.set_cons_zero, List.set_cons_succ, wsum, UInt8.reduceToNat]; omega
  | a :: b :: r, n + 2, x, y, hl, he, h0, h1 => by
    have := wsum_put r n x y (by simp only [List.length_cons] at hl; omega) (by omega) (by simpa using h0) (by simpa using h1)
    simp only [List.set_cons_succ, wsum, this]; omega
  | a :: b :: r, 1, x, y, _, he, _, _ => by simp at he
  | [a], n, x, y, hl, _, _, _ => by simp only [List.length_cons, List.length_nil] at hl; omega
  | [], n, x, y, hl, _, _, _ => by simp only [List.length_nil] at hl; omega
/-- what Fill makes -/
theorem fill_eq (b : List UInt8) (k n : Nat) (hk : k < 65536) (hn : n < 65536) (hb : b.length ≤ 3000) (h : k + n + 2 ≤ b.length) :
    frame_Fill b (Hdr.mk 1 (UInt16.ofNat k) (UInt16.ofNat n) 0) = some ((b.set (k + n) (shr16 (cks (wsum (b.drop k))) (8 : UInt64).toNat).toUInt8).set (k + n + 1) (cks (wsum (b.drop k))).toUInt8, 0) := by
  have e1 : i16 (UInt16.ofNat k) = (k : Int) := by simp only [i16, UInt16.toNat_ofNat']; omega
  have e2 : i16 (UInt16.ofNat n) = (n : Int) := by simp only [i16, UInt16.toNat_ofNat']; omega
  have w1 : wi ((k : Int) + (n : Int)) = ((k + n : Nat) : Int) := by rw [wi_in (by omega) (by omega)]; omega
  have w2 : wi (((k + n : Nat) : Int) + 2) = ((k + n + 2 : Nat) : Int) := by rw [wi_in (by omega) (by omega)]; omega
  have w3 : wi (((k + n : Nat) : Int) + 1) = ((k + n + 1 : Nat) : Int) := by rw [wi_in (by omega) (by omega)]; omega
  unfold frame_Fill
  rw [bF (show (1 : UInt8) &&& 1 ≠ 0 by decide)]
  simp only [e1, e2, w1, w2, w3]
  rw [bN (by simp only [len]; omega), bN (by simp only [len]; omega), oS (clone_eq b (by omega)), cP (by simp only [len]; omega), sub_from]
  simp only [Int.toNat_natCast]
  rw [oS (sum_eq _ (by simp; omega)), oS (ix_nat (getq (by omega))), oS (ix_nat (getq (by simp; omega)))]
end Go.Proofs.Ytdaijemhibbgeaa
