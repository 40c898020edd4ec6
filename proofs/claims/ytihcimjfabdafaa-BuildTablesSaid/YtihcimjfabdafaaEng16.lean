/- The engine, part 16: loops gone through round by round, fields of elements of rows of one's own, rows of constant bytes, maps of one's own. No statement of the seat is proved here; no condition. -/
import Derived.Test.YtihcimjfabdafaaEng15
import Derived.LoopN
import Derived.MapKept
namespace Go.Proofs.Ytihcimjfabdafaa

section
variable {c : Cx} {k : List Item} {s : St} {ops : Array Oper} {rest : List Oper} {o : Oper} {fr : List (Nat × Option Value)} {own : List (Option Res)} {shr : List Fact} {d : Nat} {τ σ : Type} {S : Shape τ}

variable {cells : τ → List Value} {sz : Nat} {ag ag' : Bool} {hl : ∀ x, (cells x).length = sz} {hone : ∀ x, (cells x).all (·.oneCell') = true}
end
end Go.Proofs.Ytihcimjfabdafaa
