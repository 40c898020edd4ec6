/- Buffers in a memory, in plain words. No condition. -/
import Derived.Test.YtkmjpgfbcklopaaPuGmem
import Derived.Test.YtkmjpgfbcklopaaPuCut
namespace Go.Proofs.Ytkmjpgfbcklopaa
def hasS (l : List Region) (s : Seg) : Bool := (findR l s.At.toNat s.Len.toNat).isSome
theorem sum_filter (q : Seg → Bool) : ∀ l : List Seg, sumS (l.filter q) ≤ sumS l
  | [] => Nat.le_refl _
  | s :: r => by
    have := sum_filter q r
    rw [List.filter_cons]
    split
    · simp only [sumS]; omega
    · simp only [sumS]; omega
end Go.Proofs.Ytkmjpgfbcklopaa
