/- Frames that are read as the document says it. No condition. -/
import Derived.Test.YtgcbcnpbnonnjaaPuFrameRef
namespace Go.Proofs.Ytgcbcnpbnonnjaa
theorem refReadJ (b : List UInt8) (D1 S1 : A6 UInt8) (v1 : Int) (t1 : UInt16) (da1 : List UInt8) (D S : A6 UInt8) (v : Int) (t2 : UInt16) (da2 : List UInt8) (k : Nat) (x y : UInt8) (r : List UInt8) (hb : b.length ≤ 3001) (hd : b.drop k = x :: y :: r) :
    XN b D1 S1 v1 t1 da1 D S v t2 da2 (k : Int) = some (finF (Frame.mk D S v (w16 x y) r)) := by
  have hl := congrArg List.length hd
  simp only [List.length_drop, List.length_cons] at hl
  have w1 : wi ((k : Int) + 1) = ((k + 1 : Nat) : Int) := ZZ (by omega)
  have w2 : wi ((k : Int) + 2) = ((k + 2 : Nat) : Int) := by rw [YV (by omega) (by omega)]; omega
  have g0 : b[k]? = some x := by have := congrArg (fun l => l[0]?) hd; simpa using this
  have g1 : b[k + 1]? = some y := by have := congrArg (fun l => l[1]?) hd; simpa using this
  have g2 : b.drop (k + 2) = r := by have := congrArg (fun l => l.drop 2) hd; simpa [List.drop_drop] using this
  unfold XN
  rw [w1, w2, oS (ZQ g0), oS (ZQ g1), cP (by simp only [len]; omega), sub_from, Int.toNat_natCast, g2, cFits (by simp; omega)]
  have hc : ∀ f, Yf f = Xq f := fun _ => rfl
  rw [hc]
  unfold finF
  show ob (Xq (Frame.mk D S v (w16 x y) r)) _ = _
  by_cases hk : okF (Frame.mk D S v (w16 x y) r)
  · rw [oS (check_ok hk), nE rfl, if_pos hk]; rfl
  · rw [oS (check_bad hk), nF (by decide), if_neg hk]; rfl
theorem refReadL (d0 d1 d2 d3 d4 d5 s0 s1 s2 s3 s4 s5 x y : UInt8) (r : List UInt8) : ref_Read23L1 (d0 :: d1 :: d2 :: d3 :: d4 :: d5 :: s0 :: s1 :: s2 :: s3 :: s4 :: s5 :: x :: y :: r) fuel (A6.mk 0 0 0 0 0 0) (A6.mk 0 0 0 0 0 0) 0 0 [] (A6.mk 0 0 0 0 0 0) (A6.mk 0 0 0 0 0 0) (-1) 0 [] 0 =
    Kd (d0 :: d1 :: d2 :: d3 :: d4 :: d5 :: s0 :: s1 :: s2 :: s3 :: s4 :: s5 :: x :: y :: r) (fun _ _ _ _ _ _ _ _ _ _ _ => none) (A6.mk 0 0 0 0 0 0) (A6.mk 0 0 0 0 0 0) 0 0 [] (A6.mk d0 d1 d2 d3 d4 d5) (A6.mk s0 s1 s2 s3 s4 s5) (-1) 0 [] 6 := by kernel_rfl
theorem ori_vlan (a b : UInt8) (h : a.toNat < 16) : ori (shli (i8 a) (8 : UInt64).toNat) (i8 b) = i16 (w16 a b) := by
  have hb := b.toNat_lt
  have e : shli (i8 a) (8 : UInt64).toNat = ((256 * a.toNat : Nat) : Int) := by
    simp only [shli, i8, UInt64.reduceToNat]
    rw [show ((2 ^ min 8 64 : Nat) : Int) = 256 from rfl, YV (by omega) (by omega)]; omega
  rw [e]
  simp only [ori, i8, i16, w16_nat]
  have e1 : (BitVec.ofInt 64 ((256 * a.toNat : Nat) : Int) ||| BitVec.ofInt 64 (b.toNat : Int)).toNat = 256 * a.toNat + b.toNat := by
    rw [BitVec.toNat_or, BitVec.ofInt_natCast, BitVec.ofInt_natCast, BitVec.toNat_ofNat, BitVec.toNat_ofNat, Nat.mod_eq_of_lt (by omega), Nat.mod_eq_of_lt (by omega)]
    exact (Nat.two_pow_add_eq_or_of_lt (i := 8) hb a.toNat).symm
  rw [e1, wi_nat (by omega)]
theorem refRead_eq (b : List UInt8) (hb : b.length ≤ 3000) : Yo b = XX b := by
  by_cases hl : b.length < 14
  · unfold Yo
    rw [read_short hl, bP (by simp only [len]; omega)]; rfl
  obtain ⟨d0, d1, d2, d3, d4, d5, s0, s1, s2, s3, s4, s5, x, y, r, rfl⟩ := list14 (b := b) (by omega)
  simp only [List.length_cons] at hb
  rw [read_eq _ _ _ _ _ _ _ _ _ _ _ _ _ _ _ (by omega)]
  unfold Yo
  rw [bN (by simp only [len, List.length_cons]; omega), refReadL]
  generalize hbb : (d0 :: d1 :: d2 :: d3 :: d4 :: d5 :: s0 :: s1 :: s2 :: s3 :: s4 :: s5 :: x :: y :: r) = b
  have hlen : b.length = r.length + 14 := by subst hbb; rfl
  have hd12 : b.drop 12 = x :: y :: r := by subst hbb; rfl
  have g12 : ix b (12 : Int) = some x := by subst hbb; rfl
  have g13 : ix b (13 : Int) = some y := by subst hbb; rfl
  have hj12 := refReadJ b (A6.mk 0 0 0 0 0 0) (A6.mk 0 0 0 0 0 0) 0 0 [] (A6.mk d0 d1 d2 d3 d4 d5) (A6.mk s0 s1 s2 s3 s4 s5) (-1) 0 [] 12 x y r (by omega) hd12
  unfold Kd readFr
  rw [bN (by decide), oS g12]
  by_cases hx : x = 129
  · rw [bE hx, oS g13]
    by_cases hy : y = 0
    · rw [bE hy, if_pos ((w16_tag x y).2 ⟨hx, hy⟩)]
      match r, hlen, hd12 with
      | [], hlen, _ => rw [bP (by simp only [len]; simp at hlen; omega)]; rfl
      | [a], hlen, _ => rw [bP (by simp only [len]; simp at hlen; omega)]; rfl
      | [a, c], hlen, _ => rw [bP (by simp only [len]; simp at hlen; omega)]; rfl
      | [a, c, d], hlen, _ => rw [bP (by simp only [len]; simp at hlen; omega)]; rfl
      | v0 :: v1 :: t0 :: t1 :: da, hlen, hd12 =>
        simp only [List.length_cons] at hlen hb
        have g14 : ix b (14 : Int) = some v0 := ix_int (by decide) (by have := congrArg (fun l => l[2]?) hd12; simpa using this)
        have g15 : ix b (15 : Int) = some v1 := ix_int (by decide) (by have := congrArg (fun l => l[3]?) hd12; simpa using this)
        have hd16 : b.drop 16 = t0 :: t1 :: da := by have := congrArg (fun l => l.drop 4) hd12; simpa [List.drop_drop] using this
        rw [bN (by simp only [len]; omega), oS g14]
        by_cases hv : v0 > 15
        · rw [bP hv]
          refine congrArg some (finF_bad ?_).symm
          intro hk
          have := hk.2.1
          simp only [i16, w16_nat] at this
          have hv' := UInt8.lt_iff_toNat_lt.1 hv
          simp only [UInt8.reduceToNat] at hv'; omega
        · have hv' : v0.toNat < 16 := by
            have : ¬ (15 : UInt8) < v0 := hv
            rw [UInt8.lt_iff_toNat_lt] at this
            simp only [UInt8.reduceToNat] at this; omega
          rw [bN hv, oS g14, oS g15, ori_vlan _ _ hv']
          exact refReadJ b _ _ _ _ _ _ _ _ _ _ 16 t0 t1 da (by omega) hd16
    · rw [bF hy, if_neg (fun q => hy ((w16_tag x y).1 q).2)]
      exact hj12
  · rw [bF hx, if_neg (fun q => hx ((w16_tag x y).1 q).1)]
    rw [← hj12]
    unfold XN
    rfl
theorem rfill_off (b : List UInt8) (h : Hdr) (hf : h.Flags &&& 1 = 0) (hb : b.length ≤ 100000) : YM b h = some (b, 0) := by
  unfold YM
  rw [cFits (by simp; omega), bE hf]
theorem rfill_eq (b : List UInt8) (k n : Nat) (hk : k < 65536) (hn : n < 65536) (hb : b.length ≤ 3000) (h : k + n + 2 ≤ b.length) :
    YM b (Hdr.mk 1 (UInt16.ofNat k) (UInt16.ofNat n) 0) = some ((b.set (k + n) (Zt (cks (wsum (b.drop k))) (8 : UInt64).toNat).toUInt8).set (k + n + 1) (cks (wsum (b.drop k))).toUInt8, 0) := by
  have e0 : (UInt16.ofNat k).toNat = k := by simp only [UInt16.toNat_ofNat']; omega
  have e1 : i16 (UInt16.ofNat k) = (k : Int) := by simp only [i16, UInt16.toNat_ofNat']; omega
  have e2 : i16 (UInt16.ofNat n) = (n : Int) := by simp only [i16, UInt16.toNat_ofNat']; omega
  have w1 : wi ((k : Int) + (n : Int)) = ((k + n : Nat) : Int) := by rw [YV (by omega) (by omega)]; omega
  have w2 : wi (((k + n : Nat) : Int) + 2) = ((k + n + 2 : Nat) : Int) := by rw [YV (by omega) (by omega)]; omega
  have w3 : wi (((k + n : Nat) : Int) + 1) = ((k + n + 1 : Nat) : Int) := by rw [YV (by omega) (by omega)]; omega
  unfold YM
  rw [cFits (by simp; omega), bF (show (1 : UInt8) &&& 1 ≠ 0 by decide)]
  simp only [e0, e1, e2, w1, w2, w3]
  rw [bN (by simp only [len]; omega), bN (by simp only [len]; omega), cP (by simp only [len]; omega), sub_from]
  simp only [Int.toNat_natCast]
  rw [oS (refSum_eq _ (by simp; omega)), oS (ZQ (getq (by omega))), oS (ZQ (getq (by simp; omega)))]
end Go.Proofs.Ytgcbcnpbnonnjaa
