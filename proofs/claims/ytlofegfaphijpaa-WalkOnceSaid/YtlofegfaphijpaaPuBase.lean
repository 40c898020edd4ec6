/- Small words that all chapters share. No condition. -/
import Derived.Test.YtlofegfaphijpaaMo1
import Derived.Test.YtlofegfaphijpaaPuLib2
namespace Go.Proofs.Ytlofegfaphijpaa
def two (p : Bool) : Int := bif p then 0 else 2
theorem twoP {p : Bool} (h : p = true) : two p = 0 := by rw [h]; rfl
theorem twoN {p : Bool} (h : p = false) : two p = 2 := by rw [h]; rfl
theorem blt_f {a b : Nat} (h : ¬ a < b) : Nat.blt a b = false := by
  cases e : Nat.blt a b with
  | false => rfl
  | true => exact absurd (Nat.blt_eq ▸ e) h
theorem wi_pred {i : Nat} (h : i < 9223372036854775807) : wi (((i + 1 : Nat) : Int) - 1) = (i : Int) := by rw [wi_in (by omega) (by omega)]; omega
theorem fuelS : fuel = 36893488147419103231 + 1 := rfl
theorem le64 {a b : UInt64} : (a ≤ b) ↔ a.toNat ≤ b.toNat := UInt64.le_iff_toNat_le
theorem lt64 {a b : UInt64} : (a < b) ↔ a.toNat < b.toNat := UInt64.lt_iff_toNat_lt
theorem sub64 {a b : UInt64} (h : b.toNat ≤ a.toNat) : (a - b).toNat = a.toNat - b.toNat := UInt64.toNat_sub_of_le _ _ (le64.2 h)
/-- xs laid into x from a on -/
def wrF (x : List UInt8) (a : Nat) (xs : List UInt8) : List UInt8 := x.take a ++ xs ++ x.drop (a + xs.length)
theorem wrF_nil (x : List UInt8) (a : Nat) : wrF x a [] = x := by simp [wrF]
theorem wrF_len {x xs : List UInt8} {a : Nat} (h : a + xs.length ≤ x.length) : (wrF x a xs).length = x.length := by
  simp only [wrF, List.length_append, List.length_take, List.length_drop]; omega
theorem pick_eq (n : Int) (m : Nat) (hm : 0 < m) (hm2 : m ≤ 1000000) : ∃ k : Nat, kit_Pick n (m : Int) = some (k : Int) ∧ k < m := by
  unfold kit_Pick
  have h1 : (remi n (m : Int)) = n.tmod m := rfl
  have h2 := Int.tmod_lt_of_pos n (show (0 : Int) < (m : Int) by omega)
  have h3 : -(m : Int) < n.tmod m := by
    have := Int.tmod_lt_of_pos (-n) (show (0 : Int) < (m : Int) by omega)
    rw [Int.neg_tmod] at this; omega
  rw [bN (by omega), cnF (by omega), h1]
  by_cases h : n.tmod m < 0
  · rw [bP h, wi_in (by omega) (by omega)]
    exact ⟨(n.tmod m + m).toNat, by congr 1; omega, by omega⟩
  · rw [bN h]
    exact ⟨(n.tmod m).toNat, by congr 1; omega, by omega⟩
end Go.Proofs.Ytlofegfaphijpaa
