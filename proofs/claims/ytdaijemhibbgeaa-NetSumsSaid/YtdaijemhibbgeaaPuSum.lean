/- Checksums in plain words: what the functions of frames reckon. No condition. -/
import Derived.Test.YtdaijemhibbgeaaMo1
import Derived.Test.YtdaijemhibbgeaaPuLib2
namespace Go.Proofs.Ytdaijemhibbgeaa
/-- the sum of a list's words, the high byte first -/
def wsum : List UInt8 → Nat
  | x :: y :: r => 256 * x.toNat + y.toNat + wsum r
  | [x] => 256 * x.toNat
  | [] => 0
theorem wsum_le : ∀ b : List UInt8, wsum b ≤ 65535 * b.length
  | x :: y :: r => by
    have := wsum_le r; have hx := x.toNat_lt; have hy := y.toNat_lt
    simp only [wsum, List.length_cons]; omega
  | [x] => by have hx := x.toNat_lt; simp only [wsum, List.length_cons, List.length_nil]; omega
  | [] => by simp [wsum]
/-- folded to 16 bits -/
def res (n : Nat) : Nat := if n = 0 then 0 else (n - 1) % 65535 + 1
theorem res_le (n : Nat) : res n ≤ 65535 := by unfold res; split <;> omega
theorem res_small {n : Nat} (h : n < 65536) : res n = n := by unfold res; split <;> omega
theorem res_fold {n : Nat} (h : 65536 ≤ n) : res (n / 65536 + n % 65536) = res n := by
  unfold res
  rw [if_neg (by omega), if_neg (by omega)]; omega
/-- the checksum -/
def cks (n : Nat) : UInt16 := ~~~(UInt16.ofNat (res n))
theorem cks_nat (n : Nat) : (cks n).toNat = 65535 - res n := by
  have := res_le n
  simp only [cks, UInt16.toNat_not, UInt16.size, UInt16.toNat_ofNat']; omega
theorem cks_zero {n : Nat} (h : res n = 65535) : cks n = 0 := by
  apply UInt16.toNat_inj.1; rw [cks_nat, h]; rfl
theorem res_cks (n : Nat) : res (n + (cks n).toNat) = 65535 := by
  rw [cks_nat]; have := res_le n
  unfold res at *
  split at this <;> rename_i h
  · subst h; simp
  · rw [if_neg h, if_neg (by omega)]; omega
theorem fold1 : ∀ (nf n : Nat), n < nf → n < 18446744073709551616 → frame_SumL3 nf (UInt64.ofNat n) = some (cks n)
  | 0, n, h, _ => by omega
  | nf + 1, n, h, h2 => by
    unfold frame_SumL3 frame_SumL3B
    have e1 : (shr64 (UInt64.ofNat n) (16 : UInt64).toNat) = UInt64.ofNat (n / 65536) := by
      apply UInt64.toNat_inj.1
      simp only [shr64, UInt64.toNat_ofNat', UInt64.reduceToNat]
      rw [Nat.mod_eq_of_lt h2, show 2 ^ min 16 64 = 65536 from rfl]
    have e2 : (UInt64.ofNat n &&& 65535) = UInt64.ofNat (n % 65536) := by
      apply UInt64.toNat_inj.1
      rw [UInt64.toNat_and, UInt64.toNat_ofNat', UInt64.toNat_ofNat', Nat.mod_eq_of_lt h2, show (65535 : UInt64).toNat = 2 ^ 16 - 1 from rfl, Nat.and_two_pow_sub_one_eq_mod]
      omega
    rw [e1, e2]
    by_cases h3 : n < 65536
    · have : n / 65536 = 0 := by omega
      rw [this, nE (show UInt64.ofNat 0 = 0 from rfl), Option.some.injEq]
      apply UInt16.toNat_inj.1
      rw [cks_nat, res_small h3, UInt16.toNat_not, UInt64.toNat_toUInt16, UInt64.toNat_ofNat', UInt16.size]; omega
    · rw [nF, ← UInt64.ofNat_add, fold1 nf _ (by omega) (by omega)]
      · unfold cks; rw [res_fold (by omega)]
      · intro e
        have := congrArg UInt64.toNat e
        simp only [UInt64.toNat_ofNat', UInt64.reduceToNat] at this; omega
theorem sumLp : ∀ (b : List UInt8) (nf n : Nat), b.length < nf → n + wsum b < 18446744073709551616 → frame_SumL1 nf b (UInt64.ofNat n) = some (cks (n + wsum b))
  | b, 0, n, h, _ => by omega
  | x :: y :: r, nf + 1, n, h, h2 => by
    unfold frame_SumL1 frame_SumL1B
    have e : frame_word (x :: y :: r) = some (shl16 x.toUInt16 (8 : UInt64).toNat ||| y.toUInt16) := rfl
    rw [bP (by simp only [len, List.length_cons]; omega), oS e, cP (by simp only [len, List.length_cons]; omega), sub_from]
    have e3 : (shl16 x.toUInt16 (8 : UInt64).toNat ||| y.toUInt16).toUInt64 = UInt64.ofNat (256 * x.toNat + y.toNat) := by
      apply UInt64.toNat_inj.1
      have hx := x.toNat_lt; have hy := y.toNat_lt
      rw [UInt16.toNat_toUInt64, word16, UInt64.toNat_ofNat']; omega
    rw [e3, ← UInt64.ofNat_add]
    simp only [wsum] at h2
    have := sumLp r nf (n + (256 * x.toNat + y.toNat)) (by simp only [List.length_cons] at h; omega) (by omega)
    rw [show (x :: y :: r).drop (2 : Int).toNat = r from rfl, this]
    simp only [wsum]; congr 2; omega
  | [x], nf + 1, n, h, h2 => by
    unfold frame_SumL1 frame_SumL1B
    rw [bN (by simp [len]), bE (by simp [len]), oS (show ix [x] (0 : Int) = some x from rfl)]
    have e3 : shl64 x.toUInt64 (8 : UInt64).toNat = UInt64.ofNat (256 * x.toNat) := by
      apply UInt64.toNat_inj.1
      have hx := x.toNat_lt
      simp only [shl64, UInt64.toNat_ofNat', UInt8.toNat_toUInt64, UInt64.reduceToNat]
      rw [show 2 ^ min 8 64 = 256 from rfl]; omega
    rw [e3, ← UInt64.ofNat_add]
    simp only [wsum] at h2 ⊢
    exact fold1 fuel _ (by unfold fuel; omega) h2
  | [], nf + 1, n, h, h2 => by
    unfold frame_SumL1 frame_SumL1B
    rw [bN (by simp [len]), bF (by simp [len])]
    simp only [wsum, Nat.add_zero] at h2 ⊢
    exact fold1 fuel _ (by unfold fuel; omega) h2
theorem sum_eq (b : List UInt8) (h : b.length ≤ 100000) : frame_Sum b = some (cks (wsum b)) := by
  have := wsum_le b
  have h1 := sumLp b fuel 0 (by unfold fuel; omega) (by omega)
  rw [Nat.zero_add] at h1; exact h1
end Go.Proofs.Ytdaijemhibbgeaa
