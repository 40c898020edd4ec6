/- The engine, part 17: rows of constant bytes, maps of one's own. No statement of the seat is proved here; no condition. -/
import Derived.Test.YtecmlfmbmligeaaEng16
namespace Go.Proofs.Ytecmlfmbmligeaa
open MapKept (IsKey)

section
variable {κ ν : Type} [BEq κ] {kk : IntKind} {kf : κ → Int} {V : ν → Value}
variable {c : Cx} {k : List Item} {s : St} {ops : Array Oper} {rest : List Oper} {o : Oper} {fr : List (Nat × Option Value)} {own : List (Option Res)} {shr : List Fact} {d : Nat}
omit [BEq κ] in
end

section
variable {c : Cx} {k : List Item} {s : St} {ops : Array Oper} {rest : List Oper} {o : Oper} {fr : List (Nat × Option Value)} {own : List (Option Res)} {shr : List Fact} {d : Nat}
end
end Go.Proofs.Ytecmlfmbmligeaa
