/- Plain words, part 2: steps whose conditions are known; parts of lists. No program in sight; no condition. -/
import Derived.Test.YtkjmmbmlapmkbaaPuLib
namespace Go.Proofs.Ytkjmmbmlapmkbaa
section
variable {ρ : Type} {p : Prop} [Decidable p] {x y k : Option ρ}
theorem bP (h : p) : br (decide p) x y = x := by rw [decide_eq_true h]; rfl
theorem bN (h : ¬ p) : br (decide p) x y = y := by rw [decide_eq_false h]; rfl
variable {α : Type} [BEq α] [LawfulBEq α] {a b : α}
theorem bE (h : a = b) : br (a == b) x y = x := by subst h; rw [beqI]; rfl
theorem bF (h : a ≠ b) : br (a == b) x y = y := by rw [beq_false_of_ne h]; rfl
theorem cnF (h : a ≠ b) : chk (!(a == b)) k = k := by rw [beq_false_of_ne h]; rfl
theorem cnE (h : a = b) : chk (!(a != b)) k = k := by subst h; rw [bneI]; rfl
theorem bT {c : Bool} (h : c = true) : br c x y = x := by subst h; rfl
theorem bFl {c : Bool} (h : c = false) : br c x y = y := by subst h; rfl
theorem cNT {c : Bool} (h : c = false) : chk (!c) k = k := by subst h; rfl
end
theorem oS {α ρ : Type} {x : Option α} {a : α} {k : α → Option ρ} (h : x = some a) : ob x k = k a := by subst h; rfl
end Go.Proofs.Ytkjmmbmlapmkbaa
