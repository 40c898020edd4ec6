/- Small words that all chapters share. No condition. -/
import Derived.Test.YtbeendakebamhaaMo1
import Derived.Test.YtbeendakebamhaaPuLib2
namespace Go.Proofs.Ytbeendakebamhaa
def two (p : Bool) : Int := bif p then 0 else 2
theorem twoP {p : Bool} (h : p = true) : two p = 0 := by rw [h]; rfl
theorem twoN {p : Bool} (h : p = false) : two p = 2 := by rw [h]; rfl
theorem wi_pred {i : Nat} (h : i < 9223372036854775807) : wi (((i + 1 : Nat) : Int) - 1) = (i : Int) := by rw [wi_in (by omega) (by omega)]; omega
theorem le64 {a b : UInt64} : (a ≤ b) ↔ a.toNat ≤ b.toNat := UInt64.le_iff_toNat_le
theorem lt64 {a b : UInt64} : (a < b) ↔ a.toNat < b.toNat := UInt64.lt_iff_toNat_lt
theorem sub64 {a b : UInt64} (h : b.toNat ≤ a.toNat) : (a - b).toNat = a.toNat - b.toNat := UInt64.toNat_sub_of_le _ _ (le64.2 h)
theorem lightRL (l : List Region) (k : UInt64) (hl : l.length ≤ 40) : ∀ (nf i : Nat) (s : UInt64), i ≤ l.length → l.length - i < nf → ∃ b, kit_LightRegionsL1 l k nf s (i : Int) = some b
  | 0, i, s, _, h => by omega
  | nf + 1, i, s, hi, hn => by
    unfold kit_LightRegionsL1 kit_LightRegionsL1B
    by_cases h : i < l.length
    · rw [bP (by simp only [len]; omega), oS (ix_nat (getq h)), wi_succ (by omega)]
      exact lightRL l k hl nf (i + 1) _ (by omega) (by omega)
    · rw [bN (by simp only [len]; omega)]; exact ⟨_, rfl⟩
/-- few regions or not: the answer is one, and if it is yes, they are few -/
theorem lightR (l : List Region) (k : UInt64) : ∃ b, kit_LightRegions l k = some b ∧ (b = true → l.length ≤ 40) := by
  unfold kit_LightRegions
  by_cases h : l.length > 40
  · rw [bP (by simp only [len]; omega)]; exact ⟨false, rfl, fun q => by cases q⟩
  · rw [bN (by simp only [len]; omega)]
    obtain ⟨b, hb⟩ := lightRL l k (by omega) fuel 0 0 (by omega) (by unfold fuel; omega)
    exact ⟨b, hb, fun _ => by omega⟩
end Go.Proofs.Ytbeendakebamhaa
