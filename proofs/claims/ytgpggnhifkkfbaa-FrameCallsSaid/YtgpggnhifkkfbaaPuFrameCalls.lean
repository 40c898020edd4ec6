/- The law FrameCalls in plain words: it answers true. No condition. -/
import Derived.Test.YtgpggnhifkkfbaaPuFrame
namespace Go.Proofs.Ytgpggnhifkkfbaa
theorem fold2 : ∀ (nf n : Nat), n < nf → n < 18446744073709551616 → ref_Sum23L4 nf (UInt64.ofNat n) = some (cks n)
  | 0, n, h, _ => by omega
  | nf + 1, n, h, h2 => by
    unfold ref_Sum23L4 ref_Sum23L4B
    have hn : (UInt64.ofNat n).toNat = n := by rw [UInt64.toNat_ofNat']; omega
    have e1 : UInt64.ofNat n % 65536 = UInt64.ofNat (n % 65536) := by
      apply UInt64.toNat_inj.1
      rw [UInt64.toNat_mod, hn, UInt64.toNat_ofNat']; simp only [UInt64.reduceToNat]; omega
    have e2 : UInt64.ofNat n / 65536 = UInt64.ofNat (n / 65536) := by
      apply UInt64.toNat_inj.1
      rw [UInt64.toNat_div, hn, UInt64.toNat_ofNat']; simp only [UInt64.reduceToNat]; omega
    rw [e1, e2, ← UInt64.ofNat_add]
    by_cases h3 : n < 65536
    · rw [bN (by rw [GT.gt, UInt64.lt_iff_toNat_lt, hn]; simp only [UInt64.reduceToNat]; omega), Option.some.injEq]
      apply UInt16.toNat_inj.1
      rw [cks_nat, res_small h3, UInt16.toNat_not, UInt64.toNat_toUInt16, hn, UInt16.size]; omega
    · rw [bP (by rw [GT.gt, UInt64.lt_iff_toNat_lt, hn]; simp only [UInt64.reduceToNat]; omega), Nat.add_comm, fold2 nf _ (by omega) (by omega)]
      unfold cks; rw [res_fold (by omega)]
theorem drop2 {l : List UInt8} {i : Nat} (h : i + 1 < l.length) : l.drop i = l[i] :: l[i + 1] :: l.drop (i + 2) := by
  rw [drop_ix (by omega : i < l.length), drop_ix h]
theorem refSumL (b : List UInt8) (hb : b.length ≤ 100000) : ∀ (k nf i n : Nat), b.length = i + k → k < nf → n + wsum (b.drop i) < 18446744073709551616 → ref_Sum23L1 b nf (UInt64.ofNat n) (i : Int) = some (cks (n + wsum (b.drop i)))
  | k, 0, i, n, _, h, _ => by omega
  | k, nf + 1, i, n, hk, hn, hs => by
    have s8 : ∀ x : UInt8, shl64 x.toUInt64 (8 : UInt64).toNat = UInt64.ofNat (256 * x.toNat) := fun x => by
      apply UInt64.toNat_inj.1
      have hx := x.toNat_lt
      simp only [shl64, UInt64.toNat_ofNat', UInt8.toNat_toUInt64, UInt64.reduceToNat]
      rw [show 2 ^ min 8 64 = 256 from rfl]; omega
    have s1 : ∀ x : UInt8, x.toUInt64 = UInt64.ofNat x.toNat := fun x => by
      apply UInt64.toNat_inj.1
      have hx := x.toNat_lt
      simp only [UInt64.toNat_ofNat', UInt8.toNat_toUInt64]; omega
    unfold ref_Sum23L1 ref_Sum23L1B
    by_cases h : i < b.length
    · rw [bP (by simp only [len]; omega), oS (ix_nat (getq h)), wi_succ (by omega)]
      have w2 : wi ((i : Int) + 2) = ((i + 2 : Nat) : Int) := by rw [wi_in (by omega) (by omega)]; omega
      by_cases h2 : i + 1 < b.length
      · rw [drop2 h2] at hs ⊢
        simp only [wsum] at hs ⊢
        rw [bP (by simp only [len]; omega), oS (ix_nat (getq h2))]
        unfold ref_Sum23J3 ref_Sum23J2
        have e : UInt64.ofNat n + shl64 b[i].toUInt64 (8 : UInt64).toNat + b[i + 1].toUInt64 = UInt64.ofNat (n + 256 * b[i].toNat + b[i + 1].toNat) := by rw [s8, s1, ← UInt64.ofNat_add, ← UInt64.ofNat_add]
        refine ((congr (congrArg (ref_Sum23L1 b nf) e) w2).trans (refSumL b hb (k - 2) nf (i + 2) _ (by omega) (by omega) (by omega))).trans ?_
        exact congrArg (fun z => some (cks z)) (by omega)
      · rw [bN (by simp only [len]; omega)]
        have hd : b.drop i = [b[i]] := by rw [drop_ix h, List.drop_of_length_le (by omega)]
        rw [hd] at hs ⊢
        simp only [wsum] at hs ⊢
        unfold ref_Sum23J3 ref_Sum23J2
        rw [w2, s8, ← UInt64.ofNat_add]
        cases nf with
        | zero => omega
        | succ nf =>
          unfold ref_Sum23L1 ref_Sum23L1B
          rw [bN (by simp only [len]; omega)]
          exact fold2 fuel _ (by unfold fuel; omega) hs
    · rw [bN (by simp only [len]; omega)]
      have hd : b.drop i = [] := List.drop_of_length_le (by omega)
      rw [hd] at hs ⊢
      simp only [wsum, Nat.add_zero] at hs ⊢
      exact fold2 fuel _ (by unfold fuel; omega) hs
theorem refSum_eq (b : List UInt8) (h : b.length ≤ 100000) : ref_Sum23 b = some (cks (wsum b)) := by
  have h0 := wsum_le b
  have h1 := refSumL b h b.length fuel 0 0 (by omega) (by unfold fuel; omega) (by simp; omega)
  simp only [List.drop_zero, Nat.zero_add] at h1
  exact h1
theorem refCheck_eq (f : Frame) : ref_Check23 f = frame_Check f := rfl
theorem refBytesJ (D S : A6 UInt8) (v : Int) (t : UInt16) (da b : List UInt8) (h1 : b.length ≤ 100) (h2 : da.length ≤ 3000) : ref_Bytes23J3 D S v t da b = some ((b ++ [hi8 t, t.toUInt8]) ++ da, 0) := by
  unfold ref_Bytes23J3
  rw [cFits (by simp; omega), cFits (by simp; omega)]; rfl
theorem refBytesL (D S : A6 UInt8) (v : Int) (t : UInt16) (da : List UInt8) : ref_Bytes23L1 fuel D S v t da [] 0 =
    br (decide (v ≥ 0)) (chk (fits 12 4 1) <| ref_Bytes23J3 D S v t da ((l6 D ++ l6 S) ++ [129, 0, u8 (shri v (8 : UInt64).toNat), u8 v])) (ref_Bytes23J3 D S v t da (l6 D ++ l6 S)) := by kernel_rfl
theorem refBytes_eq (f : Frame) : ref_Bytes23 f = frame_Bytes f := by
  unfold ref_Bytes23
  rw [refCheck_eq]
  by_cases h : okF f
  · have h4 := h.2.2.2
    have hl : ∀ x, (l6 x).length = 6 := fun _ => rfl
    rw [bytes_ok h, oS (check_ok h), nE rfl, refBytesL]
    by_cases hv : f.Vlan ≥ 0
    · rw [bP hv, cFits (by decide), refBytesJ _ _ _ _ _ _ (by simp [hl]) (by omega)]
      simp only [bytesF, tagB_pos hv]
    · rw [bN hv, refBytesJ _ _ _ _ _ _ (by simp [hl]) (by omega)]
      simp only [bytesF, tagB_neg hv, List.append_nil]
  · rw [bytes_bad h, oS (check_bad h), nF (by decide)]
theorem refReadJ (b : List UInt8) (D1 S1 : A6 UInt8) (v1 : Int) (t1 : UInt16) (da1 : List UInt8) (D S : A6 UInt8) (v : Int) (t2 : UInt16) (da2 : List UInt8) (k : Nat) (x y : UInt8) (r : List UInt8) (hb : b.length ≤ 3001) (hd : b.drop k = x :: y :: r) :
    ref_Read23J2 b D1 S1 v1 t1 da1 D S v t2 da2 (k : Int) = some (finF (Frame.mk D S v (w16 x y) r)) := by
  have hl := congrArg List.length hd
  simp only [List.length_drop, List.length_cons] at hl
  have w1 : wi ((k : Int) + 1) = ((k + 1 : Nat) : Int) := wi_succ (by omega)
  have w2 : wi ((k : Int) + 2) = ((k + 2 : Nat) : Int) := by rw [wi_in (by omega) (by omega)]; omega
  have g0 : b[k]? = some x := by have := congrArg (fun l => l[0]?) hd; simpa using this
  have g1 : b[k + 1]? = some y := by have := congrArg (fun l => l[1]?) hd; simpa using this
  have g2 : b.drop (k + 2) = r := by have := congrArg (fun l => l.drop 2) hd; simpa [List.drop_drop] using this
  unfold ref_Read23J2
  rw [w1, w2, oS (ix_nat g0), oS (ix_nat g1), cP (by simp only [len]; omega), sub_from, Int.toNat_natCast, g2, cFits (by simp; omega)]
  have hc : ∀ f, ref_Check23 f = frame_Check f := fun _ => rfl
  rw [hc]
  unfold finF
  show ob (frame_Check (Frame.mk D S v (w16 x y) r)) _ = _
  by_cases hk : okF (Frame.mk D S v (w16 x y) r)
  · rw [oS (check_ok hk), nE rfl, if_pos hk]; rfl
  · rw [oS (check_bad hk), nF (by decide), if_neg hk]; rfl
theorem refReadL (d0 d1 d2 d3 d4 d5 s0 s1 s2 s3 s4 s5 x y : UInt8) (r : List UInt8) : ref_Read23L1 (d0 :: d1 :: d2 :: d3 :: d4 :: d5 :: s0 :: s1 :: s2 :: s3 :: s4 :: s5 :: x :: y :: r) fuel (A6.mk 0 0 0 0 0 0) (A6.mk 0 0 0 0 0 0) 0 0 [] (A6.mk 0 0 0 0 0 0) (A6.mk 0 0 0 0 0 0) (-1) 0 [] 0 =
    ref_Read23L1B (d0 :: d1 :: d2 :: d3 :: d4 :: d5 :: s0 :: s1 :: s2 :: s3 :: s4 :: s5 :: x :: y :: r) (fun _ _ _ _ _ _ _ _ _ _ _ => none) (A6.mk 0 0 0 0 0 0) (A6.mk 0 0 0 0 0 0) 0 0 [] (A6.mk d0 d1 d2 d3 d4 d5) (A6.mk s0 s1 s2 s3 s4 s5) (-1) 0 [] 6 := by kernel_rfl
theorem ori_vlan (a b : UInt8) (h : a.toNat < 16) : ori (shli (i8 a) (8 : UInt64).toNat) (i8 b) = i16 (w16 a b) := by
  have hb := b.toNat_lt
  have e : shli (i8 a) (8 : UInt64).toNat = ((256 * a.toNat : Nat) : Int) := by
    simp only [shli, i8, UInt64.reduceToNat]
    rw [show ((2 ^ min 8 64 : Nat) : Int) = 256 from rfl, wi_in (by omega) (by omega)]; omega
  rw [e]
  simp only [ori, i8, i16, w16_nat]
  have e1 : (BitVec.ofInt 64 ((256 * a.toNat : Nat) : Int) ||| BitVec.ofInt 64 (b.toNat : Int)).toNat = 256 * a.toNat + b.toNat := by
    rw [BitVec.toNat_or, BitVec.ofInt_natCast, BitVec.ofInt_natCast, BitVec.toNat_ofNat, BitVec.toNat_ofNat, Nat.mod_eq_of_lt (by omega), Nat.mod_eq_of_lt (by omega)]
    exact (Nat.two_pow_add_eq_or_of_lt (i := 8) hb a.toNat).symm
  rw [e1, wi_nat (by omega)]
theorem refRead_eq (b : List UInt8) (hb : b.length ≤ 3000) : ref_Read23 b = frame_Read b := by
  by_cases hl : b.length < 14
  · unfold ref_Read23
    rw [read_short hl, bP (by simp only [len]; omega)]; rfl
  obtain ⟨d0, d1, d2, d3, d4, d5, s0, s1, s2, s3, s4, s5, x, y, r, rfl⟩ := list14 (b := b) (by omega)
  simp only [List.length_cons] at hb
  rw [read_eq _ _ _ _ _ _ _ _ _ _ _ _ _ _ _ (by omega)]
  unfold ref_Read23
  rw [bN (by simp only [len, List.length_cons]; omega), refReadL]
  generalize hbb : (d0 :: d1 :: d2 :: d3 :: d4 :: d5 :: s0 :: s1 :: s2 :: s3 :: s4 :: s5 :: x :: y :: r) = b
  have hlen : b.length = r.length + 14 := by subst hbb; rfl
  have hd12 : b.drop 12 = x :: y :: r := by subst hbb; rfl
  have g12 : ix b (12 : Int) = some x := by subst hbb; rfl
  have g13 : ix b (13 : Int) = some y := by subst hbb; rfl
  have hj12 := refReadJ b (A6.mk 0 0 0 0 0 0) (A6.mk 0 0 0 0 0 0) 0 0 [] (A6.mk d0 d1 d2 d3 d4 d5) (A6.mk s0 s1 s2 s3 s4 s5) (-1) 0 [] 12 x y r (by omega) hd12
  unfold ref_Read23L1B readR
  rw [bN (by decide), oS g12]
  by_cases hx : x = 129
  · rw [bE hx, oS g13]
    by_cases hy : y = 0
    · rw [bE hy, if_pos ((w16_tag x y).2 ⟨hx, hy⟩)]
      match r, hlen, hd12 with
      | [], hlen, _ => rw [bP (by simp only [len]; simp at hlen; omega)]; rfl
      | [a], hlen, _ => rw [bP (by simp only [len]; simp at hlen; omega)]; rfl
      | [a, c], hlen, _ => rw [bP (by simp only [len]; simp at hlen; omega)]; rfl
      | [a, c, d], hlen, _ => rw [bP (by simp only [len]; simp at hlen; omega)]; rfl
      | v0 :: v1 :: t0 :: t1 :: da, hlen, hd12 =>
        simp only [List.length_cons] at hlen hb
        have g14 : ix b (14 : Int) = some v0 := ix_int (by decide) (by have := congrArg (fun l => l[2]?) hd12; simpa using this)
        have g15 : ix b (15 : Int) = some v1 := ix_int (by decide) (by have := congrArg (fun l => l[3]?) hd12; simpa using this)
        have hd16 : b.drop 16 = t0 :: t1 :: da := by have := congrArg (fun l => l.drop 4) hd12; simpa [List.drop_drop] using this
        rw [bN (by simp only [len]; omega), oS g14]
        by_cases hv : v0 > 15
        · rw [bP hv]
          refine congrArg some (finF_bad ?_).symm
          intro hk
          have := hk.2.1
          simp only [i16, w16_nat] at this
          have hv' := UInt8.lt_iff_toNat_lt.1 hv
          simp only [UInt8.reduceToNat] at hv'; omega
        · have hv' : v0.toNat < 16 := by
            have : ¬ (15 : UInt8) < v0 := hv
            rw [UInt8.lt_iff_toNat_lt] at this
            simp only [UInt8.reduceToNat] at this; omega
          rw [bN hv, oS g14, oS g15, ori_vlan _ _ hv']
          exact refReadJ b _ _ _ _ _ _ _ _ _ _ 16 t0 t1 da (by omega) hd16
    · rw [bF hy, if_neg (fun q => hy ((w16_tag x y).1 q).2)]
      exact hj12
  · rw [bF hx, if_neg (fun q => hx ((w16_tag x y).1 q).1)]
    rw [← hj12]
    unfold ref_Read23J2
    rfl
theorem refFill_eq (b : List UInt8) (h : Hdr) (hb : b.length ≤ 3000) : ref_Fill23 b h = frame_Fill b h := by
  unfold ref_Fill23 frame_Fill
  rw [cFits (by simp; omega)]
  by_cases hf : h.Flags &&& 1 = 0
  · rw [bE hf, bE hf, oS (cloneb_eq b (by omega))]
  rw [bF hf, bF hf]
  by_cases h1 : i16 h.Start > len b
  · rw [bP h1, bP h1]
  rw [bN h1, bN h1]
  by_cases h2 : wi (wi (i16 h.Start + i16 h.Off) + 2) > len b
  · rw [bP h2, bP h2]
  rw [bN h2, bN h2, oS (cloneb_eq b (by omega))]
  simp only [i16, len] at h1
  have hs : (sub b ((h.Start.toNat : Nat) : Int) (len b)).length ≤ 100000 := by rw [sub_from]; simp; omega
  rw [cP (by simp only [len]; omega), cP (by simp only [len, i16]; omega)]
  show ob (ref_Sum23 (sub b (h.Start.toNat : Int) (len b))) _ = ob (frame_Sum (sub b (h.Start.toNat : Int) (len b))) _
  rw [oS (refSum_eq _ hs), oS (sum_eq _ hs)]
theorem refAll_eq (m : A6 UInt8) : ref_All23 m = frame_All m := by
  have e : ref_All23 m = br (m.a0 != 255) (some false) (br (m.a1 != 255) (some false) (br (m.a2 != 255) (some false) (br (m.a3 != 255) (some false) (br (m.a4 != 255) (some false) (br (m.a5 != 255) (some false) (some true)))))) := by kernel_rfl
  rw [e]
  unfold frame_All
  obtain ⟨a0, a1, a2, a3, a4, a5⟩ := m
  by_cases h0 : a0 = 255
  · by_cases h1 : a1 = 255
    · by_cases h2 : a2 = 255
      · by_cases h3 : a3 = 255
        · by_cases h4 : a4 = 255
          · by_cases h5 : a5 = 255
            · subst h0; subst h1; subst h2; subst h3; subst h4; subst h5; rfl
            · rw [nE h0, nE h1, nE h2, nE h3, nE h4, nF h5, beq_false_of_ne (by simp [h5])]
          · rw [nE h0, nE h1, nE h2, nE h3, nF h4, beq_false_of_ne (by simp [h4])]
        · rw [nE h0, nE h1, nE h2, nF h3, beq_false_of_ne (by simp [h3])]
      · rw [nE h0, nE h1, nF h2, beq_false_of_ne (by simp [h2])]
    · rw [nE h0, nF h1, beq_false_of_ne (by simp [h1])]
  · rw [nF h0, beq_false_of_ne (by simp [h0])]
theorem refGroup_eq (m : A6 UInt8) : ref_Group23 m = frame_Group m := by
  unfold ref_Group23 frame_Group
  congr 1
  have : m.a0 % 2 = m.a0 &&& 1 := by
    apply UInt8.toNat_inj.1
    rw [UInt8.toNat_mod, UInt8.toNat_and, show (1 : UInt8).toNat = 2 ^ 1 - 1 from rfl, Nat.and_two_pow_sub_one_eq_mod]; rfl
  rw [this]
theorem kitFrame_eq (f g : Frame) : kit_Frame f g = some (f == g) := by
  unfold kit_Frame
  have key : (f == g) = (f.Dst == g.Dst && (f.Src == g.Src && (f.Vlan == g.Vlan && (f.Type_ == g.Type_ && f.Data == g.Data)))) := by
    rw [Bool.eq_iff_iff]
    simp only [beq_iff_eq, Bool.and_eq_true]
    cases f; cases g; simp
  rw [key]
  cases f.Dst == g.Dst <;> cases f.Src == g.Src <;> cases f.Vlan == g.Vlan <;> cases f.Type_ == g.Type_ <;> rfl
theorem refHdrOf_eq (h : Hdr) : ref_HdrOf23 h = some (bytesH h) := rfl
theorem refReadHdr_eq (b : List UInt8) : ref_ReadHdr23 b = frame_ReadHdr b := by
  unfold ref_ReadHdr23 frame_ReadHdr
  by_cases h : len b < 12
  · rw [bP h, bP h]
  · rw [bN h, bN h]
    unfold frame_ReadHdr_1
    rw [show wi ((6 : Int) + 1) = 7 from by decide, show wi ((8 : Int) + 1) = 9 from by decide, show wi ((10 : Int) + 1) = 11 from by decide]
    simp only [len] at h
    have g : ∀ (i : Nat) (hi : i < 12), ix b (i : Int) = some (b[i]'(by omega)) := fun i hi => ix_nat (getq (by omega))
    have g0 := g 0 (by omega); have g6 := g 6 (by omega); have g7 := g 7 (by omega); have g8 := g 8 (by omega); have g9 := g 9 (by omega); have g10 := g 10 (by omega); have g11 := g 11 (by omega)
    simp only [Int.natCast_zero, Int.cast_ofNat_Int] at g0 g6 g7 g8 g9 g10 g11
    simp only [g0, g6, g7, g8, g9, g10, g11, obS]
theorem readHdr_some (b : List UInt8) : ∃ r, frame_ReadHdr b = some r := by
  unfold frame_ReadHdr
  by_cases h : len b < 12
  · exact ⟨_, by rw [bP h]⟩
  · rw [bN h]
    unfold frame_ReadHdr_1
    rw [show wi ((6 : Int) + 1) = 7 from by decide, show wi ((8 : Int) + 1) = 9 from by decide, show wi ((10 : Int) + 1) = 11 from by decide]
    simp only [len] at h
    have g : ∀ (i : Nat) (hi : i < 12), ix b (i : Int) = some (b[i]'(by omega)) := fun i hi => ix_nat (getq (by omega))
    have g0 := g 0 (by omega); have g6 := g 6 (by omega); have g7 := g 7 (by omega); have g8 := g 8 (by omega); have g9 := g 9 (by omega); have g10 := g 10 (by omega); have g11 := g 11 (by omega)
    simp only [Int.natCast_zero, Int.cast_ofNat_Int] at g0 g6 g7 g8 g9 g10 g11
    simp only [g0, g6, g7, g8, g9, g10, g11, obS]
    exact ⟨_, rfl⟩
theorem read_some (b : List UInt8) (h2 : b.length ≤ 3000) : ∃ r, frame_Read b = some r := by
  by_cases hl : b.length < 14
  · exact ⟨_, read_short hl⟩
  · obtain ⟨d0, d1, d2, d3, d4, d5, s0, s1, s2, s3, s4, s5, x, y, r, rfl⟩ := list14 (b := b) (by omega)
    simp only [List.length_cons] at h2
    exact ⟨_, read_eq _ _ _ _ _ _ _ _ _ _ _ _ _ _ _ (by omega)⟩
theorem fill_some (b : List UInt8) (h : Hdr) (hb : b.length ≤ 3000) : ∃ r, frame_Fill b h = some r := by
  unfold frame_Fill
  by_cases hf : h.Flags &&& 1 = 0
  · exact ⟨_, by rw [bE hf, oS (cloneb_eq b (by omega))]⟩
  rw [bF hf]
  by_cases h1 : i16 h.Start > len b
  · exact ⟨_, by rw [bP h1]⟩
  rw [bN h1]
  by_cases h2 : wi (wi (i16 h.Start + i16 h.Off) + 2) > len b
  · exact ⟨_, by rw [bP h2]⟩
  rw [bN h2, oS (cloneb_eq b (by omega))]
  have l1 := h.Start.toNat_lt; have l2 := h.Off.toNat_lt
  simp only [i16, len, wi_eq] at h1 h2
  have w1 : wi (i16 h.Start + i16 h.Off) = ((h.Start.toNat + h.Off.toNat : Nat) : Int) := by simp only [i16, wi_eq]; omega
  have w3 : wi (((h.Start.toNat + h.Off.toNat : Nat) : Int) + 1) = ((h.Start.toNat + h.Off.toNat + 1 : Nat) : Int) := wi_succ (by omega)
  rw [w1, w3, cP (by simp only [len, i16]; omega), oS (sum_eq _ (by rw [sub_from]; simp; omega)), oS (ix_nat (getq (by omega))), oS (ix_nat (getq (by simp; omega)))]
  exact ⟨_, rfl⟩
theorem t_law23zFrameCalls (f g : Frame) (hp2 : Hdr) (b : List UInt8) : law23zFrameCalls f g hp2 b = some true := by
  unfold law23zFrameCalls
  rw [oS lives23, notT, notF, chkT]
  by_cases h1 : len f.Data > 3000
  · rw [bP h1]
  rw [bN h1]
  by_cases h2 : len g.Data > 3000
  · rw [bP h2]
  rw [bN h2]
  by_cases h3 : len b > 3000
  · rw [bP h3]
  rw [bN h3]
  simp only [len] at h1 h2 h3
  obtain ⟨r1, e1⟩ : ∃ r, frame_Bytes f = some r := by
    by_cases h : okF f
    · exact ⟨_, bytes_ok h⟩
    · exact ⟨_, bytes_bad h⟩
  obtain ⟨r2, e2⟩ := read_some b (by omega)
  obtain ⟨r3, e3⟩ : ∃ r, frame_Check f = some r := by
    by_cases h : okF f
    · exact ⟨_, check_ok h⟩
    · exact ⟨_, check_bad h⟩
  obtain ⟨r4, e4⟩ := readHdr_some b
  obtain ⟨r5, e5⟩ := fill_some b hp2 (by omega)
  obtain ⟨r6, e6⟩ : ∃ r, frame_Group f.Dst = some r := ⟨_, rfl⟩
  obtain ⟨r7, e7⟩ : ∃ r, frame_All f.Dst = some r := ⟨_, rfl⟩
  rw [refBytes_eq, refRead_eq b (by omega), refCheck_eq, refGroup_eq, refAll_eq, refReadHdr_eq, refFill_eq b hp2 (by omega), refHdrOf_eq]
  simp only [oS e1, own_eq b (by omega), obS, oS e2, oS e3, oS e4, oS e5, oS e6, oS e7]
  rw [cnE rfl, cnE rfl, oS (kitFrame_eq _ _), beqI, notT, notF, chkT, cnE rfl, cnE rfl, oS (same_eq f g (by omega)), oS (kitFrame_eq f g), cnE rfl, cnE rfl, cnE rfl, cE rfl, cE rfl, cE rfl, cE rfl, oS (hdr_eq hp2), cE rfl, oS (sum_eq b (by omega)), oS (refSum_eq b (by omega)), cE rfl]
end Go.Proofs.Ytgpggnhifkkfbaa
