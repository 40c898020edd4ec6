/- Plain words on numbers, their bits and their bytes. No program in sight; no condition. -/
import Derived.Test.YtlofegfaphijpaaPure
import Derived.KernelRfl
namespace Go.Proofs.Ytlofegfaphijpaa

theorem shr64_bv (x : UInt64) (n : Nat) : (shr64 x n).toBitVec = x.toBitVec >>> n := by
  apply BitVec.eq_of_toNat_eq
  have hx := x.toNat_lt
  simp only [shr64, UInt64.toNat_toBitVec, UInt64.toNat_ofNat', BitVec.toNat_ushiftRight, Nat.shiftRight_eq_div_pow]
  by_cases h : n ≤ 64
  · rw [Nat.min_eq_left h, Nat.mod_eq_of_lt]
    exact Nat.lt_of_le_of_lt (Nat.div_le_self _ _) hx
  · rw [Nat.min_eq_right (by omega)]
    have h1 : x.toNat / 2 ^ 64 = 0 := Nat.div_eq_of_lt hx
    have h2 : x.toNat / 2 ^ n = 0 := Nat.div_eq_of_lt (Nat.lt_of_lt_of_le hx (Nat.pow_le_pow_right (by decide) (by omega)))
    rw [h1, h2]
theorem shl64_bv (x : UInt64) (n : Nat) : (shl64 x n).toBitVec = x.toBitVec <<< n := by
  apply BitVec.eq_of_toNat_eq
  simp only [shl64, UInt64.toNat_toBitVec, UInt64.toNat_ofNat', BitVec.toNat_shiftLeft, Nat.shiftLeft_eq]
  by_cases h : n ≤ 64
  · rw [Nat.min_eq_left h]
  · rw [Nat.min_eq_right (by omega)]
    have e : 2 ^ n = 2 ^ 64 * 2 ^ (n - 64) := by rw [← Nat.pow_add]; congr 1; omega
    rw [e, ← Nat.mul_assoc, Nat.mul_right_comm, Nat.mul_mod_left, Nat.mul_mod_left]
theorem ext64 {x y : UInt64} (h : ∀ i, i < 64 → x.toBitVec.getLsbD i = y.toBitVec.getLsbD i) : x = y :=
  UInt64.toBitVec_inj.1 (BitVec.eq_of_getLsbD_eq h)
/-- byte i of a word -/
def byt (v : UInt64) (i : Nat) : UInt8 := (shr64 v (8 * i)).toUInt8
theorem byt_bit (v : UInt64) (k i : Nat) : (byt v k).toBitVec.getLsbD i = (decide (i < 8) && v.toBitVec.getLsbD (8 * k + i)) := by
  simp [byt, shr64_bv, BitVec.getLsbD_setWidth]
theorem put_bit (b : UInt8) (n i : Nat) : (shl64 b.toUInt64 n).toBitVec.getLsbD i = (decide (i < 64) && decide (n ≤ i) && b.toBitVec.getLsbD (i - n)) := by
  rw [shl64_bv, BitVec.getLsbD_shiftLeft]
  simp only [UInt8.toBitVec_toUInt64, BitVec.getLsbD_setWidth]
  by_cases h : n ≤ i
  · by_cases h2 : i < 64
    · have : i - n < 64 := by omega
      have h3 : ¬ i < n := by omega
      simp [h, h2, this, h3]
    · simp [h2]
  · have : i < n := by omega
    simp [h, this]
theorem or8 (v : UInt64) : (((((((((0 : UInt64) ||| shl64 (byt v 0).toUInt64 0) ||| shl64 (byt v 1).toUInt64 8) ||| shl64 (byt v 2).toUInt64 16) ||| shl64 (byt v 3).toUInt64 24) ||| shl64 (byt v 4).toUInt64 32) ||| shl64 (byt v 5).toUInt64 40) ||| shl64 (byt v 6).toUInt64 48) ||| shl64 (byt v 7).toUInt64 56) = v := by
  refine ext64 fun i hi => ?_
  simp only [UInt64.toBitVec_or, BitVec.getLsbD_or, put_bit, byt_bit]
  have h0 : (0 : UInt64).toBitVec.getLsbD i = false := by simp
  rw [h0]
  have hk : i = 8 * (i / 8) + i % 8 := by omega
  have hk8 : i / 8 < 8 := by omega
  have hj := Nat.mod_lt i (show 0 < 8 by decide)
  generalize i / 8 = k at *
  generalize i % 8 = j at *
  subst hk
  have : k = 0 ∨ k = 1 ∨ k = 2 ∨ k = 3 ∨ k = 4 ∨ k = 5 ∨ k = 6 ∨ k = 7 := by omega
  rcases this with h | h | h | h | h | h | h | h <;> subst h <;> simp <;> grind
theorem byt_nat (v : UInt64) (k : Nat) (h : k < 8) : (byt v k).toNat = v.toNat / 2 ^ (8 * k) % 256 := by
  have hv := v.toNat_lt
  have h1 : v.toNat / 2 ^ (8 * k) < 18446744073709551616 := Nat.lt_of_le_of_lt (Nat.div_le_self _ _) hv
  simp only [byt, shr64, UInt64.toNat_toUInt8, UInt64.toNat_ofNat']
  rw [Nat.min_eq_left (by omega), Nat.mod_eq_of_lt h1]
/-- a word of little-endian bytes -/
def wrd (b0 b1 b2 b3 b4 b5 b6 b7 : UInt8) : UInt64 := UInt64.ofNat (b0.toNat + 256 * (b1.toNat + 256 * (b2.toNat + 256 * (b3.toNat + 256 * (b4.toNat + 256 * (b5.toNat + 256 * (b6.toNat + 256 * b7.toNat)))))))
theorem wrd_nat (b0 b1 b2 b3 b4 b5 b6 b7 : UInt8) : (wrd b0 b1 b2 b3 b4 b5 b6 b7).toNat = b0.toNat + 256 * (b1.toNat + 256 * (b2.toNat + 256 * (b3.toNat + 256 * (b4.toNat + 256 * (b5.toNat + 256 * (b6.toNat + 256 * b7.toNat)))))) := by
  have h0 := b0.toNat_lt; have h1 := b1.toNat_lt; have h2 := b2.toNat_lt; have h3 := b3.toNat_lt; have h4 := b4.toNat_lt; have h5 := b5.toNat_lt; have h6 := b6.toNat_lt; have h7 := b7.toNat_lt
  simp only [wrd, UInt64.toNat_ofNat']; omega
theorem byt_wrd (b0 b1 b2 b3 b4 b5 b6 b7 : UInt8) : byt (wrd b0 b1 b2 b3 b4 b5 b6 b7) 0 = b0 ∧ byt (wrd b0 b1 b2 b3 b4 b5 b6 b7) 1 = b1 ∧ byt (wrd b0 b1 b2 b3 b4 b5 b6 b7) 2 = b2 ∧ byt (wrd b0 b1 b2 b3 b4 b5 b6 b7) 3 = b3 ∧
    byt (wrd b0 b1 b2 b3 b4 b5 b6 b7) 4 = b4 ∧ byt (wrd b0 b1 b2 b3 b4 b5 b6 b7) 5 = b5 ∧ byt (wrd b0 b1 b2 b3 b4 b5 b6 b7) 6 = b6 ∧ byt (wrd b0 b1 b2 b3 b4 b5 b6 b7) 7 = b7 := by
  have h0 := b0.toNat_lt; have h1 := b1.toNat_lt; have h2 := b2.toNat_lt; have h3 := b3.toNat_lt; have h4 := b4.toNat_lt; have h5 := b5.toNat_lt; have h6 := b6.toNat_lt; have h7 := b7.toNat_lt
  refine ⟨?_, ?_, ?_, ?_, ?_, ?_, ?_, ?_⟩ <;> (apply UInt8.toNat_inj.1; rw [byt_nat _ _ (by decide), wrd_nat]; omega)
theorem or_wrd (b0 b1 b2 b3 b4 b5 b6 b7 : UInt8) : (((((((((0 : UInt64) ||| shl64 b0.toUInt64 0) ||| shl64 b1.toUInt64 8) ||| shl64 b2.toUInt64 16) ||| shl64 b3.toUInt64 24) ||| shl64 b4.toUInt64 32) ||| shl64 b5.toUInt64 40) ||| shl64 b6.toUInt64 48) ||| shl64 b7.toUInt64 56) = wrd b0 b1 b2 b3 b4 b5 b6 b7 := by
  have h := or8 (wrd b0 b1 b2 b3 b4 b5 b6 b7)
  obtain ⟨e0, e1, e2, e3, e4, e5, e6, e7⟩ := byt_wrd b0 b1 b2 b3 b4 b5 b6 b7
  rw [e0, e1, e2, e3, e4, e5, e6, e7] at h
  exact h
theorem wrd_byt (v : UInt64) : wrd (byt v 0) (byt v 1) (byt v 2) (byt v 3) (byt v 4) (byt v 5) (byt v 6) (byt v 7) = v := by
  rw [← or_wrd]; exact or8 v
theorem shl_zero (n : Nat) : shl64 (0 : UInt8).toUInt64 n = 0 := by
  have e : (0 : UInt8).toUInt64 = 0 := rfl
  rw [e]; apply UInt64.toNat_inj.1; simp [shl64]
theorem or_zero64 (x : UInt64) : x ||| (0 : UInt64) = x := by simp
theorem or_wrd4 (b0 b1 b2 b3 : UInt8) : (((((0 : UInt64) ||| shl64 b0.toUInt64 0) ||| shl64 b1.toUInt64 8) ||| shl64 b2.toUInt64 16) ||| shl64 b3.toUInt64 24) = wrd b0 b1 b2 b3 0 0 0 0 := by
  rw [← or_wrd]; simp only [shl_zero, or_zero64]
theorem or_wrd2 (b0 b1 : UInt8) : (((0 : UInt64) ||| shl64 b0.toUInt64 0) ||| shl64 b1.toUInt64 8) = wrd b0 b1 0 0 0 0 0 0 := by
  rw [← or_wrd]; simp only [shl_zero, or_zero64]
theorem byt_hi32 (x : UInt32) (k : Nat) (h : 4 ≤ k) (h' : k < 8) : byt x.toUInt64 k = 0 := by
  apply UInt8.toNat_inj.1
  rw [byt_nat _ _ h']
  have hx := x.toNat_lt
  have : x.toUInt64.toNat / 2 ^ (8 * k) = 0 := Nat.div_eq_of_lt (by
    rw [UInt32.toNat_toUInt64]; exact Nat.lt_of_lt_of_le hx (Nat.pow_le_pow_right (by decide) (by omega : 32 ≤ 8 * k)))
  rw [this]; rfl
theorem byt_hi16 (x : UInt16) (k : Nat) (h : 2 ≤ k) (h' : k < 8) : byt x.toUInt64 k = 0 := by
  apply UInt8.toNat_inj.1
  rw [byt_nat _ _ h']
  have hx := x.toNat_lt
  have : x.toUInt64.toNat / 2 ^ (8 * k) = 0 := Nat.div_eq_of_lt (by
    rw [UInt16.toNat_toUInt64]; exact Nat.lt_of_lt_of_le hx (Nat.pow_le_pow_right (by decide) (by omega : 16 ≤ 8 * k)))
  rw [this]; rfl
theorem wrd4_byt (x : UInt32) : (wrd (byt x.toUInt64 0) (byt x.toUInt64 1) (byt x.toUInt64 2) (byt x.toUInt64 3) 0 0 0 0).toUInt32 = x := by
  have h := wrd_byt x.toUInt64
  rw [byt_hi32 x 4 (by decide) (by decide), byt_hi32 x 5 (by decide) (by decide), byt_hi32 x 6 (by decide) (by decide), byt_hi32 x 7 (by decide) (by decide)] at h
  rw [h]; simp
theorem wrd2_byt (x : UInt16) : (wrd (byt x.toUInt64 0) (byt x.toUInt64 1) 0 0 0 0 0 0).toUInt16 = x := by
  have h := wrd_byt x.toUInt64
  rw [byt_hi16 x 2 (by decide) (by decide), byt_hi16 x 3 (by decide) (by decide), byt_hi16 x 4 (by decide) (by decide), byt_hi16 x 5 (by decide) (by decide), byt_hi16 x 6 (by decide) (by decide), byt_hi16 x 7 (by decide) (by decide)] at h
  rw [h]; simp
/-- Horner's way to a word -/
theorem horner8 (b0 b1 b2 b3 b4 b5 b6 b7 : UInt8) : 256 * (256 * (256 * (256 * (256 * (256 * (256 * (256 * (0 : UInt64) + b7.toUInt64) + b6.toUInt64) + b5.toUInt64) + b4.toUInt64) + b3.toUInt64) + b2.toUInt64) + b1.toUInt64) + b0.toUInt64 = wrd b0 b1 b2 b3 b4 b5 b6 b7 := by
  have h0 := b0.toNat_lt; have h1 := b1.toNat_lt; have h2 := b2.toNat_lt; have h3 := b3.toNat_lt; have h4 := b4.toNat_lt; have h5 := b5.toNat_lt; have h6 := b6.toNat_lt; have h7 := b7.toNat_lt
  apply UInt64.toNat_inj.1
  rw [wrd_nat]
  simp only [UInt64.toNat_add, UInt64.toNat_mul, UInt8.toNat_toUInt64, UInt64.reduceToNat]
  omega
theorem horner4 (b0 b1 b2 b3 : UInt8) : 256 * (256 * (256 * (256 * (0 : UInt64) + b3.toUInt64) + b2.toUInt64) + b1.toUInt64) + b0.toUInt64 = wrd b0 b1 b2 b3 0 0 0 0 := by
  have h0 := b0.toNat_lt; have h1 := b1.toNat_lt; have h2 := b2.toNat_lt; have h3 := b3.toNat_lt
  apply UInt64.toNat_inj.1
  rw [wrd_nat]
  simp only [UInt64.toNat_add, UInt64.toNat_mul, UInt8.toNat_toUInt64, UInt64.reduceToNat, UInt8.reduceToNat]
  omega
theorem horner2 (b0 b1 : UInt8) : 256 * (256 * (0 : UInt64) + b1.toUInt64) + b0.toUInt64 = wrd b0 b1 0 0 0 0 0 0 := by
  have h0 := b0.toNat_lt; have h1 := b1.toNat_lt
  apply UInt64.toNat_inj.1
  rw [wrd_nat]
  simp only [UInt64.toNat_add, UInt64.toNat_mul, UInt8.toNat_toUInt64, UInt64.reduceToNat, UInt8.reduceToNat]
  omega

/-! steps; their proofs are laid so that 'simp' writes each step down -/
section
variable {α ρ : Type}
theorem obS {a : α} {k : α → Option ρ} : ob (some a) k = k a := Eq.trans rfl rfl
theorem chkT {k : Option ρ} : chk true k = k := Eq.trans rfl rfl
theorem brT {x y : Option ρ} : br true x y = x := Eq.trans rfl rfl
theorem brF {x y : Option ρ} : br false x y = y := Eq.trans rfl rfl
theorem notT : (!true) = false := Eq.trans rfl rfl
theorem notF : (!false) = true := Eq.trans rfl rfl
theorem beqI {α : Type} [BEq α] [ReflBEq α] (a : α) : (a == a) = true := BEq.rfl
theorem bneI {α : Type} [BEq α] [ReflBEq α] (a : α) : (a != a) = false := by simp [bne]
end

/-! lists and loops -/
theorem ix_get {α : Type} {l : List α} {i : Nat} (h : i < l.length) : ix l (i : Int) = some l[i] := by
  simp [ix, h]
theorem fits_ok {m n b : Nat} (h : (m + n) * b ≤ 140737488355328) : fits m n b = true := by simpa [fits] using h
theorem drop_ix {α : Type} {l : List α} {i : Nat} (h : i < l.length) : l.drop i = l[i] :: l.drop (i + 1) := List.drop_eq_getElem_cons h
theorem wi_nat {n : Nat} (h : n ≤ 9223372036854775807) : wi (n : Int) = n := wi_in (by omega) (by omega)
theorem wi_succ {n : Nat} (h : n < 9223372036854775807) : wi ((n : Int) + 1) = ((n + 1 : Nat) : Int) := by rw [wi_in (by omega) (by omega)]; omega
end Go.Proofs.Ytlofegfaphijpaa
