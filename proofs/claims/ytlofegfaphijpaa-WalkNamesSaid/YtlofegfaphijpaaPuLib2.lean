/- Plain words, part 2: steps whose conditions are known; parts of lists. No program in sight; no condition. -/
import Derived.Test.YtlofegfaphijpaaPuLib
namespace Go.Proofs.Ytlofegfaphijpaa
section
variable {ρ : Type} {p : Prop} [Decidable p] {x y k : Option ρ}
variable {α : Type} [BEq α] [LawfulBEq α] {a b : α}
end
end Go.Proofs.Ytlofegfaphijpaa
