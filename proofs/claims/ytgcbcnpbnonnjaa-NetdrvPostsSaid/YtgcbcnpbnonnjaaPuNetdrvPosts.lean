/- The law NetdrvPosts in plain words: it answers true. No condition. -/
import Derived.Test.YtgcbcnpbnonnjaaPuPost
namespace Go.Proofs.Ytgcbcnpbnonnjaa
theorem lives26P : law26zlives = some true := by kernel_rfl
theorem postsL (a : UInt64) (n : Int) (c : List Seg) (hg : goodS c) (hne : 0 < c.length) : ∀ (nf i : Nat) (nx : UInt64), i ≤ c.length → c.length - i < nf → sideS nx (c.drop i) (a + u64 n) → law26zNetdrvPostsL1 a n c nf nx (i : Int) = some true
  | 0, i, nx, _, h, _ => absurd h (Nat.not_lt_zero _)
  | nf + 1, i, nx, hi, hn, hs => by
    have h64 := hg.1
    unfold law26zNetdrvPostsL1 law26zNetdrvPostsL1B
    by_cases h : i < c.length
    · have g := ix_nat (getq h)
      rw [drop_ix h] at hs
      obtain ⟨h1, h2, h3⟩ := hs
      rw [bP (by simp only [len]; omega)]
      simp only [g, obS, h1, wi_succ (show i < 9223372036854775807 by omega)]
      rw [notT, notF, chkT, cnE h2]
      exact postsL a n c hg hne nf (i + 1) _ (by omega) (by omega) h3
    · rw [List.drop_of_length_le (by omega)] at hs
      rw [bN (by simp only [len]; omega), cP' (by simp only [len]; omega), cP' (by simp only [len]; omega), cE hs, oS (refCheck c), cE (errS_good hg)]
theorem t_law26zNetdrvPosts (atp0 : UInt64) (np1 : Int) (cuts : List Int) : law26zNetdrvPosts atp0 np1 cuts = some true := by
  unfold law26zNetdrvPosts
  rw [oS lives26P, notT, notF, chkT]
  by_cases hc : len cuts > 70
  · rw [bP hc]
  rw [bN hc]
  simp only [len] at hc
  rw [cFits (by simp; omega), oS (post_eq atp0 np1 cuts (by omega))]
  by_cases h1 : np1 < 1
  · rw [bP h1, if_neg (by rintro ⟨q, _⟩; omega), cE (show len ([] : List Seg) = 0 from rfl)]
  rw [bN h1]
  by_cases h2 : np1 ≥ 4294967296
  · rw [bP h2, if_neg (by rintro ⟨_, q, _⟩; omega), cE (show len ([] : List Seg) = 0 from rfl)]
  rw [bN h2]
  have e : u64 np1 = UInt64.ofNat np1.toNat := by
    conv => lhs; rw [show np1 = ((np1.toNat : Nat) : Int) by omega]
    exact u64_of _
  have en : (UInt64.ofNat np1.toNat).toNat = np1.toNat := by rw [UInt64.toNat_ofNat']; omega
  have ha := atp0.toNat_lt
  have hov : (u64 np1 - 1 > (18446744073709551615 : UInt64) - atp0) ↔ ¬ atp0.toNat + np1.toNat ≤ 18446744073709551616 := by
    rw [GT.gt, lt64, sub64 (by simp only [UInt64.reduceToNat]; omega), e, sub64 (by rw [en]; simp only [UInt64.reduceToNat]; omega), en]
    simp only [UInt64.reduceToNat]; omega
  by_cases h3 : atp0.toNat + np1.toNat ≤ 18446744073709551616
  · have hg := post_good (a := atp0) (n := np1.toNat) (by omega) (by omega) h3
    have hcov := cov_cutQ hg cuts
    have hs := cov_side hcov _ _ (post_side atp0 np1.toNat (by omega))
    have hl := cov_len hcov
    have g2 := cutQ_good hg cuts
    rw [bN (fun q => (hov.1 q) h3), if_pos ⟨by omega, by omega, hg⟩]
    exact postsL atp0 np1 _ g2 (by simp only [postS, List.length_cons, List.length_nil] at hl; exact hl) fuel 0 atp0 (Nat.zero_le _) (by rw [fuelS]; have := g2.1; omega) (by rw [e]; exact hs)
  · rw [bP (hov.2 h3), if_neg (fun q => post_bad (by omega) (by omega) h3 q.2.2), cE (show len ([] : List Seg) = 0 from rfl)]
end Go.Proofs.Ytgcbcnpbnonnjaa
