/- Checksums in plain words: what the functions of frames reckon. No condition. -/
import Derived.Test.YtgcbcnpbnonnjaaMo1
import Derived.Test.YtgcbcnpbnonnjaaPuLib2
namespace Go.Proofs.Ytgcbcnpbnonnjaa
def wsum : List UInt8 → Nat
  | x :: y :: r => 256 * x.toNat + y.toNat + wsum r
  | [x] => 256 * x.toNat
  | [] => 0
theorem wsum_le : ∀ b : List UInt8, wsum b ≤ 65535 * b.length
  | x :: y :: r => by
    have := wsum_le r; have hx := x.toNat_lt; have hy := y.toNat_lt
    simp only [wsum, List.length_cons]; omega
  | [x] => by have hx := x.toNat_lt; simp only [wsum, List.length_cons, List.length_nil]; omega
  | [] => by simp [wsum]
def res (n : Nat) : Nat := if n = 0 then 0 else (n - 1) % 65535 + 1
theorem res_le (n : Nat) : res n ≤ 65535 := by unfold res; split <;> omega
theorem res_small {n : Nat} (h : n < 65536) : res n = n := by unfold res; split <;> omega
theorem res_fold {n : Nat} (h : 65536 ≤ n) : res (n / 65536 + n % 65536) = res n := by
  unfold res
  rw [if_neg (by omega), if_neg (by omega)]; omega
def cks (n : Nat) : UInt16 := ~~~(UInt16.ofNat (res n))
theorem cks_nat (n : Nat) : (cks n).toNat = 65535 - res n := by
  have := res_le n
  simp only [cks, UInt16.toNat_not, UInt16.size, UInt16.toNat_ofNat']; omega
theorem cks_zero {n : Nat} (h : res n = 65535) : cks n = 0 := by
  apply UInt16.toNat_inj.1; rw [cks_nat, h]; rfl
theorem res_cks (n : Nat) : res (n + (cks n).toNat) = 65535 := by
  rw [cks_nat]; have := res_le n
  unfold res at *
  split at this <;> rename_i h
  · subst h; simp
  · rw [if_neg h, if_neg (by omega)]; omega
end Go.Proofs.Ytgcbcnpbnonnjaa
