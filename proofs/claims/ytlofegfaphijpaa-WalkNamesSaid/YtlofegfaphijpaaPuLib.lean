/- Plain words on numbers, their bits and their bytes. No program in sight; no condition. -/
import Derived.Test.YtlofegfaphijpaaPure
import Derived.KernelRfl
namespace Go.Proofs.Ytlofegfaphijpaa

/-! steps; their proofs are laid so that 'simp' writes each step down -/
section
variable {α ρ : Type}
end

end Go.Proofs.Ytlofegfaphijpaa
