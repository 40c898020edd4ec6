/- The law BuildTables in plain words: it answers true. No condition. -/
import Derived.Test.YtihcimjfabdafaaPuBuild2
namespace Go.Proofs.Ytihcimjfabdafaa
theorem lives09T : law09zlives = some true := by kernel_rfl
theorem flat16_len {α : Type} (g : α → List UInt8) (hg : ∀ x, (g x).length = 16) : ∀ L : List α, (L.flatMap g).length = 16 * L.length
  | [] => rfl
  | x :: L => by rw [List.flatMap_cons, List.length_append, hg, flat16_len g hg L, List.length_cons]; omega
theorem i16_u16 {n : Nat} (h : n ≤ 65535) : i16 (u16 (n : Int)) = (n : Int) := by
  rw [u16_of]; simp only [i16, UInt16.toNat_ofNat']; omega
end Go.Proofs.Ytihcimjfabdafaa
