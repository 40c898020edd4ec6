/- The engine, part 19: function values that are handed out: what they have captured is read by all and written no more. No statement of the seat is proved here; no condition. -/
import Derived.Test.YtlofegfaphijpaaEng18
namespace Go.Proofs.Ytlofegfaphijpaa

section
variable {c : Cx} {k : List Item} {s : St} {ops : Array Oper} {rest : List Oper} {lo : Nat} {fr : List (Nat × Option Value)} {own : List (Option Res)} {shr : List Fact}
end
end Go.Proofs.Ytlofegfaphijpaa
