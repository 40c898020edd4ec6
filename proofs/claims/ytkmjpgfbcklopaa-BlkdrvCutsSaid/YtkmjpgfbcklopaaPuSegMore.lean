/- Buffers in plain words: equal lists of segments, the reference's parts and cuts, buffers that may not be. No condition. -/
import Derived.Test.YtkmjpgfbcklopaaPuSegMem
namespace Go.Proofs.Ytkmjpgfbcklopaa
theorem cons_beq {α : Type} [BEq α] {x y : α} {a b : List α} : ((x :: a) == (y :: b)) = (x == y && a == b) := rfl
theorem ksameL (a b : List Seg) (he : a.length = b.length) (hl : a.length ≤ 1000000) : ∀ (nf i : Nat), i ≤ a.length → a.length - i < nf → kit_SameSegsL1 a b nf (i : Int) = some (a.drop i == b.drop i)
  | 0, i, _, h => by omega
  | nf + 1, i, hi, hn => by
    unfold kit_SameSegsL1 kit_SameSegsL1B
    by_cases h : i < a.length
    · have h2 : i < b.length := by omega
      rw [bP (by simp only [len]; omega), oS (ix_nat (getq h)), oS (ix_nat (getq h2)), drop_ix h, drop_ix h2, cons_beq]
      by_cases e : a[i] = b[i]
      · rw [nE e, wi_succ (by omega), ksameL a b he hl nf (i + 1) (by omega) (by omega), e, beqI, Bool.true_and]
      · rw [nF e, beq_false_of_ne e, Bool.false_and]
    · rw [bN (by simp only [len]; omega), List.drop_of_length_le (by omega), List.drop_of_length_le (by omega)]; rfl
theorem ksame_eq (a b : List Seg) (hl : a.length ≤ 1000000) : kit_SameSegs a b = some (a == b) := by
  unfold kit_SameSegs
  by_cases h : a.length = b.length
  · rw [nE (by simp only [len]; omega)]
    have := ksameL a b h hl fuel 0 (by omega) (by unfold fuel; omega)
    exact this
  · rw [nF (by simp only [len]; omega), beq_false_of_ne (fun q => h (by rw [q]))]
/-- the bytes from a on, n of them -/
def cutS (l : List Seg) (a n : Nat) : List Seg := if goodS l then takeS n (dropS a l) else []
theorem segCut_eq (l : List Seg) (a n : UInt64) : seg_Cut l a n = some (cutS l a.toNat n.toNat) := by
  unfold cutS
  by_cases h : goodS l
  · rw [if_pos h]
    have := cut_eq (l := l) (a := a.toNat) (n := n.toNat) h a.toNat_lt n.toNat_lt
    rw [UInt64.ofNat_toNat, UInt64.ofNat_toNat] at this; exact this
  · rw [if_neg h]; unfold seg_Cut; rw [oS (segCheck l), nF (errS_bad h)]
end Go.Proofs.Ytkmjpgfbcklopaa
