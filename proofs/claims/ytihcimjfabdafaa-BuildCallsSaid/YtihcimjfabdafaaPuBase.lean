/- Small words that all chapters share. No condition. -/
import Derived.Test.YtihcimjfabdafaaMo1
import Derived.Test.YtihcimjfabdafaaPuLib2
namespace Go.Proofs.Ytihcimjfabdafaa
def two (p : Bool) : Int := bif p then 0 else 2
theorem twoP {p : Bool} (h : p = true) : two p = 0 := by rw [h]; rfl
theorem twoN {p : Bool} (h : p = false) : two p = 2 := by rw [h]; rfl
theorem blt_f {a b : Nat} (h : ¬ a < b) : Nat.blt a b = false := by
  cases e : Nat.blt a b with
  | false => rfl
  | true => exact absurd (Nat.blt_eq ▸ e) h
theorem wi_pred {i : Nat} (h : i < 9223372036854775807) : wi (((i + 1 : Nat) : Int) - 1) = (i : Int) := by rw [wi_in (by omega) (by omega)]; omega
theorem fuelS : fuel = 36893488147419103231 + 1 := rfl
end Go.Proofs.Ytihcimjfabdafaa
