/- The engine, part 14: pointers to objects, nil or not; rows that are read while they are one's own; copies; windows. No statement of the seat is proved here; no condition. -/
import Derived.Test.YtihcimjfabdafaaEng13
namespace Go.Proofs.Ytihcimjfabdafaa

section
variable {c : Cx} {k : List Item} {s : St} {ops : Array Oper} {rest : List Oper} {o : Oper} {fr : List (Nat × Option Value)} {own : List (Option Res)} {shr : List Fact} {d : Nat} {σ τ ρ : Type} {SL : Shape τ} {S : Shape ρ} {t : TypeId} {nn : Bool} {fl : σ → List τ} {fb : σ → List (List ρ)}

end
end Go.Proofs.Ytihcimjfabdafaa
