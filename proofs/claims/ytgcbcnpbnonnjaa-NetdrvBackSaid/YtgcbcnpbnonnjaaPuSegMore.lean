/- Buffers in plain words: equal lists of segments, the reference's parts and cuts, buffers that may not be. No condition. -/
import Derived.Test.YtgcbcnpbnonnjaaPuSegMem
namespace Go.Proofs.Ytgcbcnpbnonnjaa
def cutS (l : List Seg) (a n : Nat) : List Seg := if XE l then takeS n (dropS a l) else []
theorem segCut_eq (l : List Seg) (a n : UInt64) : seg_Cut l a n = some (cutS l a.toNat n.toNat) := by
  unfold cutS
  by_cases h : XE l
  · rw [if_pos h]
    have := cut_eq (l := l) (a := a.toNat) (n := n.toNat) h a.toNat_lt n.toNat_lt
    rw [UInt64.ofNat_toNat, UInt64.ofNat_toNat] at this; exact this
  · rw [if_neg h]; unfold seg_Cut; rw [oS (segCheck l), nF (errS_bad h)]
end Go.Proofs.Ytgcbcnpbnonnjaa
