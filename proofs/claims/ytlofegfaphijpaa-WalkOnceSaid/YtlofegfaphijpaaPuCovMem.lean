/- Buffers that are cut hold what the whole holds. No condition. -/
import Derived.Test.YtlofegfaphijpaaPuCuts
namespace Go.Proofs.Ytlofegfaphijpaa
theorem rwrite1 {n : UInt64} {x : List UInt8} (h : flatOk n x) (a : UInt64) (xs : List UInt8) (q : a.toNat + xs.length ≤ n.toNat) : ref_Mem_Write02 ⟨rg n, [x]⟩ a xs = some ((0 : Int), [wrF x a.toNat xs]) := by
  have hn := h.2.1
  rw [rwrite_eq ⟨rg n, [x]⟩ (flat_mem h) a xs (by omega)]
  by_cases e : xs = []
  · rw [if_pos e, e, wrF_nil]
  · have : 0 < xs.length := List.length_pos_iff.2 e
    rw [if_neg e]
    dsimp only
    rw [write1, if_pos ⟨this, q⟩]

theorem rnew1 {n : UInt64} (h0 : 0 < n.toNat) (h1 : n.toNat ≤ 1048576) : ref_New02 (rg n) = some (some ⟨rg n, [z1 n]⟩, 0) := by
  rw [rnew_ok (rg_good h0 h1)]; rfl

end Go.Proofs.Ytlofegfaphijpaa
