/- The engine, part 19: function values that are handed out: what they have captured is read by all and written no more. No statement of the seat is proved here; no condition. -/
import Derived.Test.YtihcimjfabdafaaEng18
namespace Go.Proofs.Ytihcimjfabdafaa

section
variable {c : Cx} {k : List Item} {s : St} {ops : Array Oper} {rest : List Oper} {lo : Nat} {fr : List (Nat × Option Value)} {own : List (Option Res)} {shr : List Fact}
/-- a fact that follows from the others -/
theorem vs_add (G : Fact) (hG : ∀ R, (∀ F ∈ shr, F.p R) → G.p R) : VS c ⟨fr, own, shr⟩ ⟨fr, own, shr ++ [G]⟩ :=
  fun a w hs => ⟨hs.1, hs.2.1, hs.2.2.1, hs.2.2.2.add G fun R _ h => hG R h⟩
theorem mem_at {i : Nat} {F : Fact} (h : shr[i]? = some F) {R : PH} (hF : ∀ G ∈ shr, G.p R) : F.p R := hF F (List.mem_of_getElem? h)
theorem HSat.adds {R0 : PH} {w0 : World} {B : Nat → Prop} {w : World} (h : HSat R0 w0 B own shr w) {β : Type} {P : β → Prop} {Gs : β → List Fact} (hG : ∀ R, (∀ F ∈ shr, F.p R) → ∃ q, P q ∧ ∀ G ∈ Gs q, G.p R) : ∃ q, P q ∧ HSat R0 w0 B own (shr ++ Gs q) w := by
  obtain ⟨R, hs, hw⟩ := h
  obtain ⟨q, hq, hg⟩ := hG R hw.sh
  refine ⟨q, hq, R, hs, hw.r0, hw.rw_, fun F hF => ?_, hw.ow, hw.hw, hw.dj, hw.rd, hw.new, hw.rnew, hw.size, hw.keep, hw.os, hw.tape, hw.output⟩
  rcases List.mem_append.1 hF with h | h
  · exact hw.sh F h
  · exact hg F h
end
end Go.Proofs.Ytihcimjfabdafaa
