/- Frames in plain words: what their functions reckon. No condition. -/
import Derived.Test.YtgcbcnpbnonnjaaPuSum
namespace Go.Proofs.Ytgcbcnpbnonnjaa
theorem cloneb_eq (b : List UInt8) (h : b.length ≤ 100000000000000) : Zg b = some b := by
  unfold Zg; rw [Kn (by simp; omega)]
def okF (f : Frame) : Prop := -1 ≤ f.Vlan ∧ f.Vlan ≤ 4095 ∧ f.Type_ ≠ 33024 ∧ f.Data.length ≤ 1500
instance (f : Frame) : Decidable (okF f) := by unfold okF; infer_instance
theorem check_ok {f : Frame} (h : okF f) : Ya f = some 0 := by
  obtain ⟨h1, h2, h3, h4⟩ := h
  unfold Ya
  rw [bN (by omega), bN (by omega), bF h3, bN (by simp only [len]; omega)]
theorem check_bad {f : Frame} (h : ¬ okF f) : Ya f = some 2 := by
  unfold Ya
  by_cases h1 : f.Vlan < -1
  · rw [bP h1]
  rw [bN h1]
  by_cases h2 : f.Vlan > 4095
  · rw [bP h2]
  rw [bN h2]
  by_cases h3 : f.Type_ = 33024
  · rw [bE h3]
  rw [bF h3]
  by_cases h4 : len f.Data > 1500
  · rw [bP h4]
  · exact absurd ⟨by omega, by omega, h3, by simp only [len] at h4; omega⟩ h
def l6 (x : A6 UInt8) : List UInt8 := [x.a0, x.a1, x.a2, x.a3, x.a4, x.a5]
def hi8 (t : UInt16) : UInt8 := (ZG t (8 : UInt64).toNat).toUInt8
def tagB (v : Int) : List UInt8 := if 0 ≤ v then [129, 0, u8 (shri v (8 : UInt64).toNat), u8 v] else []
def ZA (f : Frame) : List UInt8 := l6 f.Dst ++ l6 f.Src ++ tagB f.Vlan ++ [hi8 f.Type_, f.Type_.toUInt8] ++ f.Data
theorem concat2 (a b : A6 UInt8) : Zl [[a.a0, a.a1, a.a2, a.a3, a.a4, a.a5], [b.a0, b.a1, b.a2, b.a3, b.a4, b.a5]] = some (l6 a ++ l6 b) := by kernel_rfl
theorem bytesJ (f : Frame) (b : List UInt8) (h1 : b.length ≤ 100) (h2 : f.Data.length ≤ 3000) : Yb f b = some ((b ++ [hi8 f.Type_, f.Type_.toUInt8]) ++ f.Data, 0) := by
  unfold Yb
  rw [Kn (by simp; omega), Kn (by simp; omega)]; rfl
theorem bytes_ok {f : Frame} (h : okF f) : Yo f = some (ZA f, 0) := by
  unfold Yo
  have hl : ∀ x, (l6 x).length = 6 := fun _ => rfl
  rw [oS (check_ok h), nE rfl, oS (concat2 f.Dst f.Src)]
  obtain ⟨h1, h2, h3, h4⟩ := h
  by_cases hv : f.Vlan ≥ 0
  · rw [bP hv, Kn (by simp [hl]), bytesJ f _ (by simp [hl]) (by omega)]
    simp only [ZA, tagB, if_pos hv]
  · rw [bN hv, bytesJ f _ (by simp [hl]) (by omega)]
    simp only [ZA, tagB, if_neg hv, List.append_nil]
theorem bytes_bad {f : Frame} (h : ¬ okF f) : Yo f = some ([], 2) := by
  unfold Yo
  rw [oS (check_bad h), nF (by decide)]
def w16 (x y : UInt8) : UInt16 := shl16 x.toUInt16 (8 : UInt64).toNat ||| y.toUInt16
theorem w16_nat (x y : UInt8) : (w16 x y).toNat = 256 * x.toNat + y.toNat := word16 x y
theorem w16_of (t : UInt16) : w16 (hi8 t) t.toUInt8 = t := by
  apply UInt16.toNat_inj.1
  rw [w16_nat]; exact hi_lo16 t
def zF : Frame := Frame.mk (A6.mk 0 0 0 0 0 0) (A6.mk 0 0 0 0 0 0) 0 0 []
def finF (f : Frame) : Frame × Int := if okF f then (f, 0) else (zF, 4)
theorem readJ (D1 S1 : A6 UInt8) (v1 : Int) (t1 : UInt16) (da1 : List UInt8) (D S : A6 UInt8) (v : Int) (t2 : UInt16) (da2 : List UInt8) (x y : UInt8) (r : List UInt8) (h : r.length ≤ 90000000000000) :
    Yn D1 S1 v1 t1 da1 D S v t2 da2 (x :: y :: r) = some (finF (Frame.mk D S v (w16 x y) r)) := by
  unfold Yn
  have e : Ka (x :: y :: r) = some (w16 x y) := rfl
  rw [oS e, cP (by simp only [len, List.length_cons]; omega), YN, show (x :: y :: r).drop (2 : Int).toNat = r from rfl, oS (cloneb_eq r (by omega))]
  unfold finF
  by_cases hk : okF (Frame.mk D S v (w16 x y) r)
  · rw [oS (check_ok hk), nE rfl, if_pos hk]
  · rw [oS (check_bad hk), nF (by decide), if_neg hk]; rfl
def readFr (D S : A6 UInt8) (x y : UInt8) (r : List UInt8) : Frame × Int :=
  if w16 x y = 33024 then
    match r with
    | v0 :: v1 :: t0 :: t1 :: da => finF (Frame.mk D S (i16 (w16 v0 v1)) (w16 t0 t1) da)
    | _ => (zF, 4)
  else finF (Frame.mk D S (-1) (w16 x y) r)
theorem read_eq (d0 d1 d2 d3 d4 d5 s0 s1 s2 s3 s4 s5 x y : UInt8) (r : List UInt8) (h : r.length ≤ 90000000000000) :
    XB (d0 :: d1 :: d2 :: d3 :: d4 :: d5 :: s0 :: s1 :: s2 :: s3 :: s4 :: s5 :: x :: y :: r) = some (readFr (A6.mk d0 d1 d2 d3 d4 d5) (A6.mk s0 s1 s2 s3 s4 s5) x y r) := by
  unfold XB
  generalize hb : (d0 :: d1 :: d2 :: d3 :: d4 :: d5 :: s0 :: s1 :: s2 :: s3 :: s4 :: s5 :: x :: y :: r) = b
  have hlen : b.length = r.length + 14 := by subst hb; rfl
  have e1 : sub b 0 6 = [d0, d1, d2, d3, d4, d5] := by subst hb; rfl
  have e2 : sub b 6 12 = [s0, s1, s2, s3, s4, s5] := by subst hb; rfl
  have e3 : sub b 12 (len b) = x :: y :: r := by rw [YN]; subst hb; rfl
  have e4 : Ka (x :: y :: r) = some (w16 x y) := rfl
  rw [bN (by simp only [len]; omega), cP (by simp only [len]; omega), e1, e2, e3]
  rw [cT (show Nat.ble 6 [d0, d1, d2, d3, d4, d5].length = true from rfl), oS (show A6.ofL (List.take 6 [d0, d1, d2, d3, d4, d5]) = some (A6.mk d0 d1 d2 d3 d4 d5) from rfl), cP (by simp only [len]; omega), cT (show Nat.ble 6 [s0, s1, s2, s3, s4, s5].length = true from rfl), oS (show A6.ofL (List.take 6 [s0, s1, s2, s3, s4, s5]) = some (A6.mk s0 s1 s2 s3 s4 s5) from rfl), cP (by simp only [len]; omega), oS e4]
  unfold readFr
  by_cases ht : w16 x y = 33024
  · rw [bE ht, if_pos ht]
    match r, h with
    | [], _ => rw [bP (by simp [len])]; rfl
    | [a], _ => rw [bP (by simp [len])]; rfl
    | [a, b], _ => rw [bP (by simp [len])]; rfl
    | [a, b, c], _ => rw [bP (by simp [len])]; rfl
    | v0 :: v1 :: t0 :: t1 :: da, h =>
      simp only [List.length_cons] at h
      rw [bN (by simp only [len, List.length_cons]; omega), cP (by simp only [len, List.length_cons]; omega), YN, show (x :: y :: v0 :: v1 :: t0 :: t1 :: da).drop (2 : Int).toNat = v0 :: v1 :: t0 :: t1 :: da from rfl]
      rw [oS (show Ka (v0 :: v1 :: t0 :: t1 :: da) = some (w16 v0 v1) from rfl), cP (by simp only [len, List.length_cons]; omega), YN, show (x :: y :: v0 :: v1 :: t0 :: t1 :: da).drop (4 : Int).toNat = t0 :: t1 :: da from rfl]
      exact readJ _ _ _ _ _ _ _ _ _ _ _ _ _ (by omega)
  · rw [bF ht, if_neg ht]
    exact readJ _ _ _ _ _ _ _ _ _ _ _ _ _ (by omega)
theorem read_short {b : List UInt8} (h : b.length < 14) : XB b = some (zF, 4) := by
  unfold XB
  rw [bP (by simp only [len]; omega)]; rfl
theorem list14 {b : List UInt8} (h : 14 ≤ b.length) : ∃ d0 d1 d2 d3 d4 d5 s0 s1 s2 s3 s4 s5 x y r, b = d0 :: d1 :: d2 :: d3 :: d4 :: d5 :: s0 :: s1 :: s2 :: s3 :: s4 :: s5 :: x :: y :: r := by
  match b, h with
  | d0 :: d1 :: d2 :: d3 :: d4 :: d5 :: s0 :: s1 :: s2 :: s3 :: s4 :: s5 :: x :: y :: r, _ => exact ⟨_, _, _, _, _, _, _, _, _, _, _, _, _, _, _, rfl⟩
theorem vlan_u8 {v : Int} (h0 : 0 ≤ v) (h1 : v ≤ 4095) : i16 (w16 (u8 (shri v (8 : UInt64).toNat)) (u8 v)) = v := by
  have e : shri v (8 : UInt64).toNat = v / 256 := by
    simp only [shri, UInt64.reduceToNat]
    rw [show ((2 ^ min 8 64 : Nat) : Int) = 256 from rfl, Int.fdiv_eq_ediv_of_nonneg _ (by decide)]
  simp only [i16, w16_nat, e]
  have h2 := u8_nat (v / 256); have h3 := u8_nat v
  omega
theorem tagB_pos {v : Int} (h : 0 ≤ v) : tagB v = [129, 0, u8 (shri v (8 : UInt64).toNat), u8 v] := if_pos h
theorem tagB_neg {v : Int} (h : ¬ 0 ≤ v) : tagB v = [] := if_neg h
theorem finF_ok {f : Frame} (h : okF f) : finF f = (f, 0) := if_pos h
theorem read_bytes {f : Frame} (h : okF f) (m : List UInt8) (hm : f.Data.length + m.length ≤ 2900) : XB (ZA f ++ m) = some (finF (Frame.mk f.Dst f.Src f.Vlan f.Type_ (f.Data ++ m))) := by
  obtain ⟨D, S, v, t, da⟩ := f
  obtain ⟨h1, h2, h3, h4⟩ := h
  simp only at h1 h2 h3 h4 hm
  by_cases hv : 0 ≤ v
  · have e : ZA (Frame.mk D S v t da) ++ m = D.a0 :: D.a1 :: D.a2 :: D.a3 :: D.a4 :: D.a5 :: S.a0 :: S.a1 :: S.a2 :: S.a3 :: S.a4 :: S.a5 :: 129 :: 0 :: (u8 (shri v (8 : UInt64).toNat) :: u8 v :: hi8 t :: t.toUInt8 :: (da ++ m)) := by
      simp only [ZA, tagB_pos hv, l6]; simp
    rw [e, read_eq _ _ _ _ _ _ _ _ _ _ _ _ _ _ _ (by simp; omega)]
    unfold readFr
    rw [if_pos (by decide)]
    simp only [w16_of, vlan_u8 hv h2]
  · have hv1 : v = -1 := by omega
    have e : ZA (Frame.mk D S v t da) ++ m = D.a0 :: D.a1 :: D.a2 :: D.a3 :: D.a4 :: D.a5 :: S.a0 :: S.a1 :: S.a2 :: S.a3 :: S.a4 :: S.a5 :: hi8 t :: t.toUInt8 :: (da ++ m) := by
      simp only [ZA, tagB_neg hv, l6]; simp
    rw [e, read_eq _ _ _ _ _ _ _ _ _ _ _ _ _ _ _ (by simp; omega)]
    unfold readFr
    rw [w16_of, if_neg h3, hv1]
theorem read_back {f : Frame} (h : okF f) : XB (ZA f) = some (f, 0) := by
  have := read_bytes h [] (by have := h.2.2.2; simp; omega)
  rw [List.append_nil, List.append_nil] at this
  rw [this, finF_ok]; exact h
theorem bytesF_len (f : Frame) : (ZA f).length = 14 + (tagB f.Vlan).length + f.Data.length := by
  simp only [ZA, l6, List.length_append, List.length_cons, List.length_nil]; omega
/-! lists that are the same -/
/-! headers -/
def YL (h : Hdr) : List UInt8 := [h.Flags, 0, 0, 0, 0, 0, h.Start.toUInt8, hi8 h.Start, h.Off.toUInt8, hi8 h.Off, h.Buffers.toUInt8, hi8 h.Buffers]
theorem lo_hi (t : UInt16) : t.toUInt8.toUInt16 ||| shl16 (hi8 t).toUInt16 (8 : UInt64).toNat = t := by
  have := w16_of t
  unfold w16 at this
  rwa [UInt16.or_comm] at this
theorem readHdr_eq (h : Hdr) : Zp (YL h) = some (h, 0) := by
  have e : Zp (YL h) = some (Hdr.mk h.Flags (h.Start.toUInt8.toUInt16 ||| shl16 (hi8 h.Start).toUInt16 (8 : UInt64).toNat) (h.Off.toUInt8.toUInt16 ||| shl16 (hi8 h.Off).toUInt16 (8 : UInt64).toNat) (h.Buffers.toUInt8.toUInt16 ||| shl16 (hi8 h.Buffers).toUInt16 (8 : UInt64).toNat), 0) := by kernel_rfl
  rw [e, lo_hi, lo_hi, lo_hi]
end Go.Proofs.Ytgcbcnpbnonnjaa
