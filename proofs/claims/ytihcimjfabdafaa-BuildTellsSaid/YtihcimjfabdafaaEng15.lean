/- The engine, part 15: rows in view, windows, pointers that are compared with nil, rows that grow by a row. No statement of the seat is proved here; no condition. -/
import Derived.Test.YtihcimjfabdafaaEng14
import Derived.Laws.Pointers
namespace Go.Proofs.Ytihcimjfabdafaa

section
variable {c : Cx} {k : List Item} {s : St} {ops : Array Oper} {rest : List Oper} {o : Oper} {fr : List (Nat × Option Value)} {own : List (Option Res)} {shr : List Fact} {d : Nat} {τ σ : Type} {S : Shape τ} {nn : Bool} {v : Value} {vs : List Value} {bs : List (List τ)} {ex : Option (Nat × Value)}

end
end Go.Proofs.Ytihcimjfabdafaa
