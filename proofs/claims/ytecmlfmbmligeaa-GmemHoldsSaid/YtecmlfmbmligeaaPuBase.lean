/- Small words that all chapters share. No condition. -/
import Derived.Test.YtecmlfmbmligeaaMo1
import Derived.Test.YtecmlfmbmligeaaPuLib2
namespace Go.Proofs.Ytecmlfmbmligeaa
def two (p : Bool) : Int := bif p then 0 else 2
theorem twoP {p : Bool} (h : p = true) : two p = 0 := by rw [h]; rfl
theorem twoN {p : Bool} (h : p = false) : two p = 2 := by rw [h]; rfl
theorem wi_pred {i : Nat} (h : i < 9223372036854775807) : wi (((i + 1 : Nat) : Int) - 1) = (i : Int) := by rw [wi_in (by omega) (by omega)]; omega
theorem fuelS : fuel = 36893488147419103231 + 1 := rfl
theorem le64 {a b : UInt64} : (a ≤ b) ↔ a.toNat ≤ b.toNat := UInt64.le_iff_toNat_le
theorem lt64 {a b : UInt64} : (a < b) ↔ a.toNat < b.toNat := UInt64.lt_iff_toNat_lt
theorem sub64 {a b : UInt64} (h : b.toNat ≤ a.toNat) : (a - b).toNat = a.toNat - b.toNat := UInt64.toNat_sub_of_le _ _ (le64.2 h)
/-- xs laid into x from a on -/
def wrF (x : List UInt8) (a : Nat) (xs : List UInt8) : List UInt8 := x.take a ++ xs ++ x.drop (a + xs.length)
theorem wrF_nil (x : List UInt8) (a : Nat) : wrF x a [] = x := by simp [wrF]
theorem wrF_len {x xs : List UInt8} {a : Nat} (h : a + xs.length ≤ x.length) : (wrF x a xs).length = x.length := by
  simp only [wrF, List.length_append, List.length_take, List.length_drop]; omega
theorem wrF_snoc {x xs : List UInt8} {a : Nat} {c : UInt8} (h : a + xs.length < x.length) : wrF x a (xs ++ [c]) = (wrF x a xs).set (a + xs.length) c := by
  unfold wrF
  have e : (x.take a ++ xs).length = a + xs.length := by simp; omega
  rw [List.set_append_right _ _ (by rw [e]; exact Nat.le_refl _), e, Nat.sub_self, drop_ix h, List.set_cons_zero]
  simp [Nat.add_assoc]
theorem pick_eq (n : Int) (m : Nat) (hm : 0 < m) (hm2 : m ≤ 1000000) : ∃ k : Nat, kit_Pick n (m : Int) = some (k : Int) ∧ k < m := by
  unfold kit_Pick
  have h1 : (remi n (m : Int)) = n.tmod m := rfl
  have h2 := Int.tmod_lt_of_pos n (show (0 : Int) < (m : Int) by omega)
  have h3 : -(m : Int) < n.tmod m := by
    have := Int.tmod_lt_of_pos (-n) (show (0 : Int) < (m : Int) by omega)
    rw [Int.neg_tmod] at this; omega
  rw [bN (by omega), cnF (by omega), h1]
  by_cases h : n.tmod m < 0
  · rw [bP h, wi_in (by omega) (by omega)]
    exact ⟨(n.tmod m + m).toNat, by congr 1; omega, by omega⟩
  · rw [bN h]
    exact ⟨(n.tmod m).toNat, by congr 1; omega, by omega⟩
theorem lightRL (l : List Region) (k : UInt64) (hl : l.length ≤ 40) : ∀ (nf i : Nat) (s : UInt64), i ≤ l.length → l.length - i < nf → ∃ b, kit_LightRegionsL1 l k nf s (i : Int) = some b
  | 0, i, s, _, h => by omega
  | nf + 1, i, s, hi, hn => by
    unfold kit_LightRegionsL1 kit_LightRegionsL1B
    by_cases h : i < l.length
    · rw [bP (by simp only [len]; omega), oS (ix_nat (getq h)), wi_succ (by omega)]
      exact lightRL l k hl nf (i + 1) _ (by omega) (by omega)
    · rw [bN (by simp only [len]; omega)]; exact ⟨_, rfl⟩
/-- few regions or not: the answer is one, and if it is yes, they are few -/
theorem lightR (l : List Region) (k : UInt64) : ∃ b, kit_LightRegions l k = some b ∧ (b = true → l.length ≤ 40) := by
  unfold kit_LightRegions
  by_cases h : l.length > 40
  · rw [bP (by simp only [len]; omega)]; exact ⟨false, rfl, fun q => by cases q⟩
  · rw [bN (by simp only [len]; omega)]
    obtain ⟨b, hb⟩ := lightRL l k (by omega) fuel 0 0 (by omega) (by unfold fuel; omega)
    exact ⟨b, hb, fun _ => by omega⟩
theorem own_eq (b : List UInt8) (h : b.length ≤ 100000000) : kit_Own b = some b := by unfold kit_Own; rw [cFits (by simp; omega)]
end Go.Proofs.Ytecmlfmbmligeaa
