/- The engine, part 21: pointers that are handed out at blocks with rows of one's own, nil or not. No statement of the seat is proved here; no condition. -/
import Derived.Test.YtlofegfaphijpaaEng20
namespace Go.Proofs.Ytlofegfaphijpaa

section
variable {c : Cx} {k : List Item} {fr : List (Nat × Option Value)} {own : List (Option Res)} {shr : List Fact} {σ : Type} {F : σ → Nat × List Value → Res}
end
end Go.Proofs.Ytlofegfaphijpaa
