/- Posted buffers. No condition. -/
import Derived.Test.YtgcbcnpbnonnjaaPuCuts
namespace Go.Proofs.Ytgcbcnpbnonnjaa
theorem cP' {P : Prop} [Decidable P] {ρ : Type} {k : Option ρ} (h : P) : chk (decide P) k = k := by rw [decide_eq_true h]; rfl
/-- a posted segment -/
def postS (a : UInt64) (n : Nat) : List Seg := [⟨a, UInt32.ofNat n, true⟩]
theorem post_good {a : UInt64} {n : Nat} (h1 : 1 ≤ n) (h2 : n < 4294967296) (h3 : a.toNat + n ≤ 18446744073709551616) : goodS (postS a n) := by
  have e : (UInt32.ofNat n).toNat = n := by rw [UInt32.toNat_ofNat']; omega
  refine ⟨by simp [postS], ?_, ?_⟩
  · unfold postS okS okS
    simp only [e, Bool.and_true, decide_eq_true_eq]
    exact ⟨by omega, by omega, fun q => by cases q⟩
  · simp only [postS, sumS, e]; omega
theorem post_bad {a : UInt64} {n : Nat} (h1 : 1 ≤ n) (h2 : n < 4294967296) (h3 : ¬ a.toNat + n ≤ 18446744073709551616) : ¬ goodS (postS a n) := by
  have e : (UInt32.ofNat n).toNat = n := by rw [UInt32.toNat_ofNat']; omega
  rintro ⟨_, h, _⟩
  unfold postS okS at h
  rw [Bool.and_eq_true, decide_eq_true_eq] at h
  have := h.1.2.1
  dsimp only at this
  omega
theorem post_eq (a : UInt64) (n : Int) (cuts : List Int) (hc : cuts.length ≤ 1000000) : netdrv_Post a n cuts = some (if 1 ≤ n ∧ n < 4294967296 ∧ goodS (postS a n.toNat) then cutQ (postS a n.toNat) cuts else []) := by
  unfold netdrv_Post
  by_cases h1 : n < 1
  · rw [bP h1, if_neg (by rintro ⟨q, _⟩; omega)]
  · rw [bN h1]
    by_cases h2 : n ≥ 4294967296
    · rw [bP h2, if_neg (by rintro ⟨_, q, _⟩; omega)]
    · have e : u32 n = UInt32.ofNat n.toNat := by
        conv => lhs; rw [show n = ((n.toNat : Nat) : Int) by omega]
        exact u32_of _
      have hcut := bcut_eq (postS a n.toNat) cuts hc
      rw [bN h2, e]
      refine Eq.trans (oS (k := fun cut1 => some cut1) hcut) ?_
      by_cases hg : goodS (postS a n.toNat)
      · rw [if_pos hg, if_pos ⟨by omega, by omega, hg⟩]
      · rw [if_neg hg, if_neg (fun q => hg q.2.2)]
/-- side by side, in one stretch -/
def sideS : UInt64 → List Seg → UInt64 → Prop
  | a, [], e => a = e
  | a, s :: c, e => s.Write = true ∧ s.At = a ∧ sideS (a + s.Len.toUInt64) c e
theorem u64_len (x : UInt32) : UInt64.ofNat x.toNat = x.toUInt64 := by
  apply UInt64.toNat_inj.1; have := x.toNat_lt; simp only [UInt64.toNat_ofNat', UInt32.toNat_toUInt64]; omega
theorem cov_side {c l : List Seg} (h : Cov c l) : ∀ (a e : UInt64), sideS a l e → sideS a c e := by
  induction h with
  | nil => intro a e h; exact h
  | whole x c l _ ih => intro a e h; exact ⟨h.1, h.2.1, ih _ _ h.2.2⟩
  | part x y c l e1 e2 e3 e4 _ ih =>
    intro a e h
    obtain ⟨h1, h2, h3⟩ := h
    refine ⟨by rw [e2]; exact h1, by rw [e1]; exact h2, ih _ _ ⟨h1, ?_, ?_⟩⟩
    · unfold tlS; dsimp only; rw [h2, u64_len]
    · have : a + x.Len.toUInt64 + (tlS y x.Len.toNat).Len.toUInt64 = a + y.Len.toUInt64 := by
        rw [UInt64.add_assoc]
        congr 1
        apply UInt64.toNat_inj.1
        have := y.Len.toNat_lt
        rw [UInt64.toNat_add, UInt32.toNat_toUInt64, UInt32.toNat_toUInt64, UInt32.toNat_toUInt64, tl_len]; omega
      rw [this]; exact h3
theorem post_side (a : UInt64) (n : Nat) (h : n < 4294967296) : sideS a (postS a n) (a + UInt64.ofNat n) := by
  refine ⟨rfl, rfl, ?_⟩
  show a + (UInt32.ofNat n).toUInt64 = _
  rw [← u64_len, show (UInt32.ofNat n).toNat = n from by rw [UInt32.toNat_ofNat']; omega]
end Go.Proofs.Ytgcbcnpbnonnjaa
