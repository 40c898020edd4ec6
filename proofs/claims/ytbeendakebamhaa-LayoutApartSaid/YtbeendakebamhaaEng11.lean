/- The engine, part 11: views of a state, blocks that become readable, arrays at reckoned places, deferred calls, calls that borrow. No statement of the seat is proved here; no condition. -/
import Derived.Test.YtbeendakebamhaaEng10
namespace Go.Proofs.Ytbeendakebamhaa

/-! a state seen otherwise -/
def VS (c : Cx) (s s' : St) : Prop := ∀ a w, Sat c s a w → Sat c s' a w
section
variable {c : Cx} {k : List Item} {s s' : St} {ops : Array Oper} {rest : List Oper} {lo : Nat}
end

section
variable {c : Cx} {k : List Item} {s : St} {ops : Array Oper} {rest : List Oper} {o : Oper} {fr : List (Nat × Option Value)} {own : List (Option Res)} {shr : List Fact} {d : Nat} {τ σ : Type} {S : Shape τ} {S' : Shape σ}

/-! calls that put lent parts back where they were -/
theorem OpT.vs {Ks Ks' : St → Prop} {s : St} (h : OpT c o s Ks) (hv : ∀ x, Ks x → ∃ y, Ks' y ∧ VS c x y) : OpT c o s Ks' := fun a w hs K Q hK =>
  h a w hs K Q fun x hx a' w' hs' => by
    obtain ⟨y, hy, hxy⟩ := hv x hx
    exact hK y hy a' w' (hxy a' w' hs')
end

section
variable {c : Cx} {k : List Item} {s : St} {ops : Array Oper} {rest : List Oper} {o : Oper} {fr : List (Nat × Option Value)} {own : List (Option Res)} {shr : List Fact} {d : Nat} {τ σ : Type} {S : Shape τ} {S' : Shape σ}
variable {t e : TypeId} {x : Operand} {vx : Value} {i : Nat} {xs : List τ} {b : Nat} {z : Value} {lo hi : Operand} {kl kh : IntKind} {l m : Int}
end

section
variable {own : List (Option Res)} {shr : List Fact} {bs : List Nat} {τ : Type} {S : Shape τ}
end
open Classical in
section
variable {c : Cx} {k : List Item} {o : Oper} {fr : List (Nat × Option Value)} {own : List (Option Res)} {shr : List Fact}
end
end Go.Proofs.Ytbeendakebamhaa
