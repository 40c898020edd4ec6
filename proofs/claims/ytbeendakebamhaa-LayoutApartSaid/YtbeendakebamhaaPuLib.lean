/- Plain words on numbers, their bits and their bytes. No program in sight; no condition. -/
import Derived.Test.YtbeendakebamhaaPure
import Derived.KernelRfl
namespace Go.Proofs.Ytbeendakebamhaa

/-! steps; their proofs are laid so that 'simp' writes each step down -/
section
variable {α ρ : Type}
theorem obS {a : α} {k : α → Option ρ} : ob (some a) k = k a := Eq.trans rfl rfl
theorem beqI {α : Type} [BEq α] [ReflBEq α] (a : α) : (a == a) = true := BEq.rfl
theorem bneI {α : Type} [BEq α] [ReflBEq α] (a : α) : (a != a) = false := by simp [bne]
end

theorem wi_nat {n : Nat} (h : n ≤ 9223372036854775807) : wi (n : Int) = n := wi_in (by omega) (by omega)
end Go.Proofs.Ytbeendakebamhaa
