/- The engine, part 12: slice values in blocks, in built values, in rows. No statement of the seat is proved here; no condition. -/
import Derived.Test.YtbeendakebamhaaEng11
namespace Go.Proofs.Ytbeendakebamhaa

section
variable {c : Cx} {k : List Item} {s : St} {ops : Array Oper} {rest : List Oper} {o : Oper} {fr : List (Nat × Option Value)} {own : List (Option Res)} {shr : List Fact} {d : Nat} {τ σ : Type} {S : Shape τ} {S' : Shape σ}
end
end Go.Proofs.Ytbeendakebamhaa
