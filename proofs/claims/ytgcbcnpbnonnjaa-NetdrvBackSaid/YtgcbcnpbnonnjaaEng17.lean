/- The engine, part 17: rows of constant bytes, maps of one's own. No statement of the seat is proved here; no condition. -/
import Derived.Test.YtgcbcnpbnonnjaaEng16
namespace Go.Proofs.Ytgcbcnpbnonnjaa
open MapKept (IsKey)
theorem Sat.ret {τ : Type} {S : Shape τ} {c : Cx} {fr : List (Nat × Option Value)} {own : List (Option Res)} {shr : List Fact} {a : Act} {w : World} {i : Nat} {v : Value} {xs : List τ} (hs : Sat c ⟨fr, own, shr⟩ a w) (hi : own[i]? = some (some (rowS S v xs))) : Sat c ⟨fr, own.set i none, shr ++ [Fact.sl S v xs]⟩ a w := by
  obtain ⟨R, hs', hw⟩ := hs.2.2.2
  exact ⟨hs.1, hs.2.1, hs.2.2.1, _, _, hw.retire i _ (RowRel.slice (hw.rd i) (hw.ow i _ hi))⟩
section
variable {κ ν : Type} [BEq κ] {kk : IntKind} {kf : κ → Int} {V : ν → Value}
variable {c : Cx} {k : List Item} {s : St} {ops : Array Oper} {rest : List Oper} {o : Oper} {fr : List (Nat × Option Value)} {own : List (Option Res)} {shr : List Fact} {d : Nat}
omit [BEq κ] in
end

section
variable {c : Cx} {k : List Item} {s : St} {ops : Array Oper} {rest : List Oper} {o : Oper} {fr : List (Nat × Option Value)} {own : List (Option Res)} {shr : List Fact} {d : Nat}
end
end Go.Proofs.Ytgcbcnpbnonnjaa
