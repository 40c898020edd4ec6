/- Frames in plain words: what their functions reckon. No condition. -/
import Derived.Test.YtgcbcnpbnonnjaaPuSum
namespace Go.Proofs.Ytgcbcnpbnonnjaa
theorem cloneb_eq (b : List UInt8) (h : b.length ≤ 100000000000000) : slices_Clone_bytebyte b = some b := by
  unfold slices_Clone_bytebyte; rw [cFits (by simp; omega)]
/-- may a frame be? -/
def okF (f : Frame) : Prop := -1 ≤ f.Vlan ∧ f.Vlan ≤ 4095 ∧ f.Type_ ≠ 33024 ∧ f.Data.length ≤ 1500
instance (f : Frame) : Decidable (okF f) := by unfold okF; infer_instance
theorem check_ok {f : Frame} (h : okF f) : frame_Check f = some 0 := by
  obtain ⟨h1, h2, h3, h4⟩ := h
  unfold frame_Check
  rw [bN (by omega), bN (by omega), bF h3, bN (by simp only [len]; omega)]
theorem check_bad {f : Frame} (h : ¬ okF f) : frame_Check f = some 2 := by
  unfold frame_Check
  by_cases h1 : f.Vlan < -1
  · rw [bP h1]
  rw [bN h1]
  by_cases h2 : f.Vlan > 4095
  · rw [bP h2]
  rw [bN h2]
  by_cases h3 : f.Type_ = 33024
  · rw [bE h3]
  rw [bF h3]
  by_cases h4 : len f.Data > 1500
  · rw [bP h4]
  · exact absurd ⟨by omega, by omega, h3, by simp only [len] at h4; omega⟩ h
/-- the word of two bytes -/
def w16 (x y : UInt8) : UInt16 := shl16 x.toUInt16 (8 : UInt64).toNat ||| y.toUInt16
def zF : Frame := Frame.mk (A6.mk 0 0 0 0 0 0) (A6.mk 0 0 0 0 0 0) 0 0 []
/-- the frame that is read, if it may be -/
def finF (f : Frame) : Frame × Int := if okF f then (f, 0) else (zF, 4)
theorem readJ (D1 S1 : A6 UInt8) (v1 : Int) (t1 : UInt16) (da1 : List UInt8) (D S : A6 UInt8) (v : Int) (t2 : UInt16) (da2 : List UInt8) (x y : UInt8) (r : List UInt8) (h : r.length ≤ 90000000000000) :
    frame_ReadJ1 D1 S1 v1 t1 da1 D S v t2 da2 (x :: y :: r) = some (finF (Frame.mk D S v (w16 x y) r)) := by
  unfold frame_ReadJ1
  have e : frame_word (x :: y :: r) = some (w16 x y) := rfl
  rw [oS e, cP (by simp only [len, List.length_cons]; omega), sub_from, show (x :: y :: r).drop (2 : Int).toNat = r from rfl, oS (cloneb_eq r (by omega))]
  unfold finF
  by_cases hk : okF (Frame.mk D S v (w16 x y) r)
  · rw [oS (check_ok hk), nE rfl, if_pos hk]
  · rw [oS (check_bad hk), nF (by decide), if_neg hk]; rfl
/-- what is read out of fourteen bytes and more -/
def readFr (D S : A6 UInt8) (x y : UInt8) (r : List UInt8) : Frame × Int :=
  if w16 x y = 33024 then
    match r with
    | v0 :: v1 :: t0 :: t1 :: da => finF (Frame.mk D S (i16 (w16 v0 v1)) (w16 t0 t1) da)
    | _ => (zF, 4)
  else finF (Frame.mk D S (-1) (w16 x y) r)
theorem read_eq (d0 d1 d2 d3 d4 d5 s0 s1 s2 s3 s4 s5 x y : UInt8) (r : List UInt8) (h : r.length ≤ 90000000000000) :
    frame_Read (d0 :: d1 :: d2 :: d3 :: d4 :: d5 :: s0 :: s1 :: s2 :: s3 :: s4 :: s5 :: x :: y :: r) = some (readFr (A6.mk d0 d1 d2 d3 d4 d5) (A6.mk s0 s1 s2 s3 s4 s5) x y r) := by
  unfold frame_Read
  generalize hb : (d0 :: d1 :: d2 :: d3 :: d4 :: d5 :: s0 :: s1 :: s2 :: s3 :: s4 :: s5 :: x :: y :: r) = b
  have hlen : b.length = r.length + 14 := by subst hb; rfl
  have e1 : sub b 0 6 = [d0, d1, d2, d3, d4, d5] := by subst hb; rfl
  have e2 : sub b 6 12 = [s0, s1, s2, s3, s4, s5] := by subst hb; rfl
  have e3 : sub b 12 (len b) = x :: y :: r := by rw [sub_from]; subst hb; rfl
  have e4 : frame_word (x :: y :: r) = some (w16 x y) := rfl
  rw [bN (by simp only [len]; omega), cP (by simp only [len]; omega), e1, e2, e3]
  rw [cT (show Nat.ble 6 [d0, d1, d2, d3, d4, d5].length = true from rfl), oS (show A6.ofL (List.take 6 [d0, d1, d2, d3, d4, d5]) = some (A6.mk d0 d1 d2 d3 d4 d5) from rfl), cP (by simp only [len]; omega), cT (show Nat.ble 6 [s0, s1, s2, s3, s4, s5].length = true from rfl), oS (show A6.ofL (List.take 6 [s0, s1, s2, s3, s4, s5]) = some (A6.mk s0 s1 s2 s3 s4 s5) from rfl), cP (by simp only [len]; omega), oS e4]
  unfold readFr
  by_cases ht : w16 x y = 33024
  · rw [bE ht, if_pos ht]
    match r, h with
    | [], _ => rw [bP (by simp [len])]; rfl
    | [a], _ => rw [bP (by simp [len])]; rfl
    | [a, b], _ => rw [bP (by simp [len])]; rfl
    | [a, b, c], _ => rw [bP (by simp [len])]; rfl
    | v0 :: v1 :: t0 :: t1 :: da, h =>
      simp only [List.length_cons] at h
      rw [bN (by simp only [len, List.length_cons]; omega), cP (by simp only [len, List.length_cons]; omega), sub_from, show (x :: y :: v0 :: v1 :: t0 :: t1 :: da).drop (2 : Int).toNat = v0 :: v1 :: t0 :: t1 :: da from rfl]
      rw [oS (show frame_word (v0 :: v1 :: t0 :: t1 :: da) = some (w16 v0 v1) from rfl), cP (by simp only [len, List.length_cons]; omega), sub_from, show (x :: y :: v0 :: v1 :: t0 :: t1 :: da).drop (4 : Int).toNat = t0 :: t1 :: da from rfl]
      exact readJ _ _ _ _ _ _ _ _ _ _ _ _ _ (by omega)
  · rw [bF ht, if_neg ht]
    exact readJ _ _ _ _ _ _ _ _ _ _ _ _ _ (by omega)
theorem read_short {b : List UInt8} (h : b.length < 14) : frame_Read b = some (zF, 4) := by
  unfold frame_Read
  rw [bP (by simp only [len]; omega)]; rfl
theorem list14 {b : List UInt8} (h : 14 ≤ b.length) : ∃ d0 d1 d2 d3 d4 d5 s0 s1 s2 s3 s4 s5 x y r, b = d0 :: d1 :: d2 :: d3 :: d4 :: d5 :: s0 :: s1 :: s2 :: s3 :: s4 :: s5 :: x :: y :: r := by
  match b, h with
  | d0 :: d1 :: d2 :: d3 :: d4 :: d5 :: s0 :: s1 :: s2 :: s3 :: s4 :: s5 :: x :: y :: r, _ => exact ⟨_, _, _, _, _, _, _, _, _, _, _, _, _, _, _, rfl⟩
end Go.Proofs.Ytgcbcnpbnonnjaa
