/- The engine, part 18: made zeros behind a row of one's own; blocks that become rows; slices of whole arrays with a bound. No statement of the seat is proved here; no condition. -/
import Derived.Test.YtlofegfaphijpaaEng17
namespace Go.Proofs.Ytlofegfaphijpaa

section
variable {c : Cx} {k : List Item} {s : St} {ops : Array Oper} {rest : List Oper} {o : Oper} {fr : List (Nat × Option Value)} {own : List (Option Res)} {shr : List Fact} {d : Nat} {τ σ : Type} {S : Shape τ} {S' : Shape σ}

end
end Go.Proofs.Ytlofegfaphijpaa
