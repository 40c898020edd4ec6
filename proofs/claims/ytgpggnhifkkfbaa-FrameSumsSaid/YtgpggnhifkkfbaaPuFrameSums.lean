/- The law FrameSums in plain words: it answers true. No condition. -/
import Derived.Test.YtgpggnhifkkfbaaPuSum
namespace Go.Proofs.Ytgpggnhifkkfbaa
theorem t_law23zFrameSums (b : List UInt8) (turn : Int) : law23zFrameSums b turn = some true := by
  unfold law23zFrameSums
  rw [oS lives23, notT, notF, chkT]
  by_cases hb : len b > 3000
  · rw [bP hb]
  rw [bN hb]
  simp only [len] at hb
  rw [oS (sum_eq b (by omega)), oS (own_eq b (by omega))]
  -- what follows, for the even list
  have key : ∀ e : List UInt8, e.length ≤ 3001 → e.length % 2 = 0 → wsum e = wsum b → law23zFrameSumsJ1 turn (cks (wsum b)) e = some true := by
    intro e hl he hw
    unfold law23zFrameSumsJ1
    have hq : wi (quoi (len e) 2 + 1) = ((e.length / 2 + 1 : Nat) : Int) := by
      have := quoi_nat e.length 2 (by omega)
      rw [len_nat, show (2 : Int) = ((2 : Nat) : Int) from rfl, this, wi_in (by omega) (by omega)]; omega
    rw [hq]
    obtain ⟨k, hk, hlt⟩ := pick_eq turn ((e.length / 2 + 1 : Nat) : Int) (by omega) (by omega)
    rw [oS hk]
    have hw2 : wi (2 * (k : Int)) = ((2 * k : Nat) : Int) := by rw [wi_in (by omega) (by omega)]; omega
    rw [hw2, cP (by simp only [len]; omega), sub_from, sub_to]
    have e1 : ((2 * k : Nat) : Int).toNat = 2 * k := rfl
    rw [e1]
    have hd : (e.drop (2 * k)).length ≤ 3001 := by simp; omega
    have ht : (e.take (2 * k)).length = 2 * k := by simp; omega
    rw [oS (own_eq _ (by omega)), cP (by simp only [len]; omega), cFits (by omega), cP (by simp only [len]; omega), oS (own_eq _ (by omega)), cFits (by rw [ht]; simp; omega), cP (by simp only [len]; omega), cFits (by rw [List.length_append, ht]; simp; omega), oS (own_eq _ (by omega)), cFits (by simp; omega)]
    have hsplit : wsum (e.take (2 * k)) + wsum (e.drop (2 * k)) = wsum b := by
      rw [← wsum_app _ _ (by rw [ht]; omega), List.take_append_drop, hw]
    have hdm : (e.drop (2 * k)).length % 2 = 0 := by simp; omega
    rw [oS (sum_eq e (by omega)), cE (by rw [hw])]
    rw [oS (sum_eq _ (by rw [List.length_append]; omega)), wsum_app _ _ hdm, Nat.add_comm, hsplit, cE rfl]
    rw [oS (sum_eq _ (by rw [List.length_append, List.length_append, ht]; simp; omega)), wsum_app _ _ (by rw [List.length_append, ht]; simp), wsum_app _ _ (by rw [ht]; omega), show wsum [0, 0] = 0 from rfl, Nat.add_zero, hsplit, cE rfl]
    rw [oS (sum_eq _ (by simp; omega)), wsum_app _ _ he, hw]
    have h2 : wsum [(shr16 (cks (wsum b)) (8 : UInt64).toNat).toUInt8, (cks (wsum b)).toUInt8] = (cks (wsum b)).toNat := by
      simp only [wsum, Nat.add_zero]; exact hi_lo16 _
    rw [h2, cE (cks_zero (res_cks _))]
  by_cases hm : b.length % 2 = 1
  · have : remi (len b) 2 = 1 := by rw [len_nat, show (2 : Int) = ((2 : Nat) : Int) from rfl, remi_nat, hm]; rfl
    rw [bE this, cFits (by simp; omega)]
    exact key _ (by simp; omega) (by simp; omega) (wsum_odd b hm)
  · have : remi (len b) 2 ≠ 1 := by rw [len_nat, show (2 : Int) = ((2 : Nat) : Int) from rfl, remi_nat]; omega
    rw [bF this]
    exact key _ (by omega) (by omega) rfl
end Go.Proofs.Ytgpggnhifkkfbaa
