/- Posted buffers. No condition. -/
import Derived.Test.YtgcbcnpbnonnjaaPuCuts
namespace Go.Proofs.Ytgcbcnpbnonnjaa
def postS (a : UInt64) (n : Nat) : List Seg := [⟨a, UInt32.ofNat n, true⟩]
theorem post_good {a : UInt64} {n : Nat} (h1 : 1 ≤ n) (h2 : n < 4294967296) (h3 : a.toNat + n ≤ 18446744073709551616) : XE (postS a n) := by
  have e : (UInt32.ofNat n).toNat = n := by rw [UInt32.toNat_ofNat']; omega
  refine ⟨by simp [postS], ?_, ?_⟩
  · unfold postS okS okS
    simp only [e, Bool.and_true, decide_eq_true_eq]
    exact ⟨by omega, by omega, fun q => by cases q⟩
  · simp only [postS, sumS, e]; omega
theorem post_eq (a : UInt64) (n : Int) (cuts : List Int) (hc : cuts.length ≤ 1000000) : netdrv_Post a n cuts = some (if 1 ≤ n ∧ n < 4294967296 ∧ XE (postS a n.toNat) then cutQ (postS a n.toNat) cuts else []) := by
  unfold netdrv_Post
  by_cases h1 : n < 1
  · rw [bP h1, if_neg (by rintro ⟨q, _⟩; omega)]
  · rw [bN h1]
    by_cases h2 : n ≥ 4294967296
    · rw [bP h2, if_neg (by rintro ⟨_, q, _⟩; omega)]
    · have e : u32 n = UInt32.ofNat n.toNat := by
        conv => lhs; rw [show n = ((n.toNat : Nat) : Int) by omega]
        exact u32_of _
      have hcut := bcut_eq (postS a n.toNat) cuts hc
      rw [bN h2, e]
      refine Eq.trans (oS (k := fun cut1 => some cut1) hcut) ?_
      by_cases hg : XE (postS a n.toNat)
      · rw [if_pos hg, if_pos ⟨by omega, by omega, hg⟩]
      · rw [if_neg hg, if_neg (fun q => hg q.2.2)]
end Go.Proofs.Ytgcbcnpbnonnjaa
