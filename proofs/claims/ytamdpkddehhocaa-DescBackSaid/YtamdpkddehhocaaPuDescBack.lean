/- The law DescBack in plain words: it answers true. No condition. -/
import Derived.Test.YtamdpkddehhocaaPuDesc
namespace Go.Proofs.Ytamdpkddehhocaa
theorem ob_to {α ρ : Type} {x : Option α} {f : α → Option ρ} {r : ρ} (h : ob x f = some r) : ∃ a, x = some a ∧ f a = some r := ob_e h
theorem t_law_DescBack (ap0 b : Desc) (pp2 qp3 : Packed) (u : Used) (vp5 : Event) (l : List Desc) : law_DescBack ap0 b pp2 qp3 u vp5 l = some true := by
  unfold law_DescBack
  rw [lives03, obS, notT, notF, chkT]
  by_cases hl : len l > 300
  · rw [show decide (len l > 300) = true from by simpa using hl, brT]
  · have hl' : l.length ≤ 300 := by simp only [len] at hl; omega
    obtain ⟨w, hw, hw'⟩ := ob_to (used_word u)
    obtain ⟨x, hx, hx'⟩ := ob_to (event_word vp5)
    obtain ⟨y, hy, hy'⟩ := event_lt vp5
    obtain rfl : x = y := Option.some.inj (hx.symm.trans hy)
    have e1 : (bsD ap0 == bsD b) = (ap0 == b) := bsD_beq ap0 b
    have e2 : (bsP pp2 == bsP qp3) = (pp2 == qp3) := bsP_beq pp2 qp3
    have e3 : (len (l.flatMap bsD) == wi (16 * len l)) = true := by
      simp only [len, flat_len16]
      rw [wi_in (by omega) (by omega)]; simp
    rw [show decide (len l > 300) = false from by simpa using hl]
    simp only [notT, notF, brF, chkT, obS, bytesD, bytesP, read_bytesD, read_bytesP, tableD l (by omega), read_table l (by omega), same_refl l (by omega), e1, e2, e3, hw, hw', hx, hx', hy', beqI]
end Go.Proofs.Ytamdpkddehhocaa
