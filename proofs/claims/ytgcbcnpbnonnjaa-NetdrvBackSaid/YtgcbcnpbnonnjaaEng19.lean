/- The engine, part 19: function values that are handed out: what they have captured is read by all and written no more. No statement of the seat is proved here; no condition. -/
import Derived.Test.YtgcbcnpbnonnjaaEng18
namespace Go.Proofs.Ytgcbcnpbnonnjaa

def ptrS (b : Nat) : Shape Unit := Shape.plain 1 false (fun _ => [.pointer (some ⟨b, 0, none⟩)]) (fun _ => rfl) (fun _ => rfl)
def Fact.clo {α : Type} (F : α → Value → Fact) (v : Value) (o : Option α) : Fact := ⟨fun h => ∀ x, o = some x → (F x v).p h, fun hl h x e => (F x v).mono hl (h x e)⟩
section
variable {c : Cx} {k : List Item} {s : St} {ops : Array Oper} {rest : List Oper} {lo : Nat} {fr : List (Nat × Option Value)} {own : List (Option Res)} {shr : List Fact}
theorem vs_add (G : Fact) (hG : ∀ R, (∀ F ∈ shr, F.p R) → G.p R) : VS c ⟨fr, own, shr⟩ ⟨fr, own, shr ++ [G]⟩ :=
  fun a w hs => ⟨hs.1, hs.2.1, hs.2.2.1, hs.2.2.2.add G fun R _ h => hG R h⟩
theorem mem_at {i : Nat} {F : Fact} (h : shr[i]? = some F) {R : PH} (hF : ∀ G ∈ shr, G.p R) : F.p R := hF F (List.mem_of_getElem? h)
theorem HSat.adds {R0 : PH} {w0 : World} {B : Nat → Prop} {w : World} (h : HSat R0 w0 B own shr w) {β : Type} {P : β → Prop} {Gs : β → List Fact} (hG : ∀ R, (∀ F ∈ shr, F.p R) → ∃ q, P q ∧ ∀ G ∈ Gs q, G.p R) : ∃ q, P q ∧ HSat R0 w0 B own (shr ++ Gs q) w := by
  obtain ⟨R, hs, hw⟩ := h
  obtain ⟨q, hq, hg⟩ := hG R hw.sh
  refine ⟨q, hq, R, hs, hw.r0, hw.rw_, fun F hF => ?_, hw.ow, hw.hw, hw.dj, hw.rd, hw.new, hw.rnew, hw.size, hw.keep, hw.os, hw.tape, hw.output⟩
  rcases List.mem_append.1 hF with h | h
  · exact hw.sh F h
  · exact hg F h
theorem Tops_clo {α β : Type} {F : α → Value → Fact} {v : Value} {o : Option α} {x : α} {i : Nat} {g : β → Value} {Gs : β → List Fact} (hi : shr[i]? = some (Fact.clo F v o)) (ho : o = some x)
    (hF : ∀ h, (F x v).p h → ∃ q : β, v = g q ∧ ∀ G ∈ Gs q, G.p h) (hk : ∀ q, v = g q → Tops c ops k rest ⟨fr, own, shr ++ Gs q⟩) : Tops c ops k rest ⟨fr, own, shr⟩ := fun a w hs => by
  obtain ⟨q, hq, hh⟩ := hs.2.2.2.adds (P := fun q => v = g q) (Gs := Gs) (fun R h => hF R (mem_at hi h x ho))
  exact hk q hq a w ⟨hs.1, hs.2.1, hs.2.2.1, hh⟩
end
section
variable {c : Cx} {k : List Item} {s : St} {ops : Array Oper} {rest : List Oper} {o : Oper} {fr : List (Nat × Option Value)} {own : List (Option Res)} {shr : List Fact} {d i : Nat} {v : Value} {a : Act} {w : World} {K : Act → World → Prop} {Q : Exit → Act → World → Prop}
theorem cgb {b c : Bool} (h : b = c) : some (Value.bool b) = some (Value.bool c) := congrArg (fun b => some (Value.bool b)) h
theorem tW (fr' : List (Nat × Option Value)) (own' : List (Option Res)) (shr' : List Fact) (ts is js : List Nat) (H : (ZX is, sel s.fr ts, pick s.own is, pickT s.shr js) = (true, fr', own', shr')) (h : Tk c k ⟨fr', own', shr'⟩) : Tk c k s := by
  simp only [Prod.mk.injEq] at H
  exact Tk_wkS ts is js H.1 H.2.1 H.2.2.1 H.2.2.2 h
theorem nW (fr' : List (Nat × Option Value)) (own' : List (Option Res)) (shr' : List Fact) (ts is js : List Nat) (H : (ZX is, sel s.fr ts, pick s.own is, pickT s.shr js) = (true, fr', own', shr')) (h : Tk c k ⟨fr', own', shr'⟩) : Tops c ops k [] s := QT (tW fr' own' shr' ts is js H h)
theorem sMv {x : Operand} (hg : o.guard = none) (hd : o.dst = some d) (H : (o.op, Nat.blt d c.n, ev fr x) = (.move x, true, some v)) (h : Tops c ops k rest ⟨(d, some v) :: fr, own, shr⟩) : Tops c ops k (o :: rest) ⟨fr, own, shr⟩ := by
  simp only [Prod.mk.injEq] at H
  exact Qa hg (Qk H.2.1 hd H.1 H.2.2) h
theorem sAs {x : Operand} (hg : o.guard = none) (hd : o.dst = some d) (H : (o.op, Nat.blt d c.n, ev fr x) = (.assign x, true, some v)) (h : Tops c ops k rest ⟨(d, some v) :: fr, own, shr⟩) : Tops c ops k (o :: rest) ⟨fr, own, shr⟩ := by
  simp only [Prod.mk.injEq] at H
  exact Qa hg (Zh H.2.1 hd H.1 H.2.2) h
theorem pF {fr' : List (Nat × Option Value)} {own' : List (Option Res)} {shr' : List Fact} (h : Sat c ⟨(d, some v) :: fr, own, shr⟩ a w) (i : Nat) (is js : List Nat) (H : (fidx d fr, setF fr i (d, some v), ZX is, pick own is, pickT shr js) = (some i, fr', true, own', shr')) : Sat c ⟨fr', own', shr'⟩ a w := by
  simp only [Prod.mk.injEq] at H
  exact h.putF H.1 is js H.2.1 H.2.2.1 H.2.2.2.1 H.2.2.2.2
theorem wGo {s' : St} (hi : ops[i]? = some o) (hg : o.guard = none) (hs : Sat c s a w) (ho : OpT c o s (fun x => x = s')) (hK : ∀ a' w', Sat c s' a' w' → K a' w') : wpOp c.P ops Q i K a w :=
  QG hi hg hs ho fun _ e a' w' h => hK a' w' (e ▸ h)
theorem wYs {s' : St} {j : Nat} {b : Bool} (hi : ops[i]? = some o) (hg : o.guard = some (j, b)) (hd : ((ops[j]?).bind (·.dst)) = some d) (hs : Sat c s a w) (hl : lk s.fr d = some (.bool b)) (ho : OpT c o s (fun x => x = s')) (hK : ∀ a' w', Sat c s' a' w' → K a' w') : wpOp c.P ops Q i K a w :=
  ZQ hi hg hd hs hl ho fun _ e a' w' h => hK a' w' (e ▸ h)
theorem bC (b : Bool) : b = true ∨ b = false := Bool.eq_false_or_eq_true b
end
end Go.Proofs.Ytgcbcnpbnonnjaa
