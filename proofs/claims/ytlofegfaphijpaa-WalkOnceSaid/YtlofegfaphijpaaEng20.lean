/- The engine, part 20: function values, by what they yield when they are called; values in interfaces. No statement of the seat is proved here; no condition. -/
import Derived.Test.YtlofegfaphijpaaEng19
namespace Go.Proofs.Ytlofegfaphijpaa

/-- a function value: called, it yields what is said, and nothing else is written -/
def FnOk {α β : Type} (P : Program) (av : α → List Value) (rv : β → Value) (v : Value) (φ : α → Option β) (h : PH) : Prop :=
  v.oneCell' = true ∧ ∀ x r, φ x = some r → ∃ (f : FuncId) (cp : List Value) (shr0 : List Fact), v = .func (.func f) #[] cp.toArray ∧ Callee P f ∧ (∀ F ∈ shr0, F.p h) ∧ Ctr P f (av x ++ cp).toArray [] shr0 (fun u own shr => u = rv r ∧ own = [] ∧ shr = [])
theorem FnOk.mono {α β : Type} {P : Program} {av : α → List Value} {rv : β → Value} {v : Value} {φ : α → Option β} {h h' : PH} (hl : h.le h') (hf : FnOk P av rv v φ h) : FnOk P av rv v φ h' :=
  ⟨hf.1, fun x r e => let ⟨f, cp, shr0, a, b, c, d⟩ := hf.2 x r e; ⟨f, cp, shr0, a, b, fun F hF => F.mono hl (c F hF), d⟩⟩
def Fact.fn {α β : Type} (P : Program) (av : α → List Value) (rv : β → Value) (v : Value) (φ : α → Option β) : Fact := ⟨FnOk P av rv v φ, FnOk.mono⟩
def av0 : Unit → List Value := fun _ => []
/-- function values without arguments, in cells -/
def Shape.fn {β : Type} (P : Program) (rv : β → Value) : Shape (Option β) :=
  ⟨1, false, fun h cs o => ∃ v, cs = [v] ∧ FnOk P av0 rv v (fun _ => o) h, fun hl ⟨v, e, h⟩ => ⟨v, e, h.mono hl⟩, fun ⟨v, e, _⟩ => by subst e; rfl, fun ⟨v, e, h⟩ u hu => by subst e; simp at hu; subst hu; exact h.1⟩
section
variable {c : Cx} {k : List Item} {o : Oper} {fr : List (Nat × Option Value)} {own : List (Option Res)} {shr : List Fact} {d : Nat}
end
end Go.Proofs.Ytlofegfaphijpaa
