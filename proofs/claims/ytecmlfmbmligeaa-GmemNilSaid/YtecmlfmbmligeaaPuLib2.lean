/- Plain words, part 2: steps whose conditions are known; parts of lists. No program in sight; no condition. -/
import Derived.Test.YtecmlfmbmligeaaPuLib
namespace Go.Proofs.Ytecmlfmbmligeaa
section
variable {ρ : Type} {p : Prop} [Decidable p] {x y k : Option ρ}
theorem bP (h : p) : br (decide p) x y = x := by rw [decide_eq_true h]; rfl
theorem bN (h : ¬ p) : br (decide p) x y = y := by rw [decide_eq_false h]; rfl
variable {α : Type} [BEq α] [LawfulBEq α] {a b : α}
theorem cNT {c : Bool} (h : c = false) : chk (!c) k = k := by subst h; rfl
end
theorem oS {α ρ : Type} {x : Option α} {a : α} {k : α → Option ρ} (h : x = some a) : ob x k = k a := by subst h; rfl
end Go.Proofs.Ytecmlfmbmligeaa
