/- The engine, part 14: pointers to objects, nil or not; rows that are read while they are one's own; copies; windows. No statement of the seat is proved here; no condition. -/
import Derived.Test.YtbeendakebamhaaEng13
namespace Go.Proofs.Ytbeendakebamhaa

/-- a pointer that is nil, or points at a block [slice that is read, rows of one's own] -/
def optR {σ τ ρ : Type} (t : TypeId) (SL : Shape τ) (S : Shape ρ) (nn : Bool) (fl : σ → List τ) (fb : σ → List (List ρ)) (p : Value) (o : Option σ) : Res :=
  ⟨fun R h => match o with
    | none => p = .pointer none
    | some m => ∃ b vl v vs h1 h2, p = .pointer (some ⟨b, 0, none⟩) ∧ h1.disj h2 ∧ h1.le h ∧ h2.le h ∧ (cellsR b t [vl, v]).p R h1 ∧ (rowsX S nn v vs (fb m) none).p R h2 ∧ SliceRel SL R vl (fl m),
   fun {R R' h} hl hp => by
    cases o with
    | none => exact hp
    | some m =>
      obtain ⟨b, vl, v, vs, h1, h2, e, d, l1, l2, p1, p2, p3⟩ := hp
      exact ⟨b, vl, v, vs, h1, h2, e, d, l1, l2, (cellsR b t [vl, v]).mono hl p1, (rowsX S nn v vs (fb m) none).mono hl p2, p3.mono hl⟩⟩

section
variable {c : Cx} {k : List Item} {s : St} {ops : Array Oper} {rest : List Oper} {o : Oper} {fr : List (Nat × Option Value)} {own : List (Option Res)} {shr : List Fact} {d : Nat} {σ τ ρ : Type} {SL : Shape τ} {S : Shape ρ} {t : TypeId} {nn : Bool} {fl : σ → List τ} {fb : σ → List (List ρ)}

theorem Tk_optS {i : Nat} {p : Value} {x : Option σ} {m : σ} (hi : own[i]? = some (some (optR t SL S nn fl fb p x))) (hx : x = some m)
    (hk : ∀ (b : Nat) (vl v : Value) (vs : List Value), p = .pointer (some ⟨b, 0, none⟩) → Tk c k ⟨fr, own.set i (some (cellsR b t [vl, v])) ++ [some (rowsX S nn v vs (fb m) none)], shr ++ [Fact.sl SL vl (fl m)]⟩) : Tk c k ⟨fr, own, shr⟩ := fun a w hs => by
  subst hx
  obtain ⟨⟨⟨b, vl, v, vs⟩, e⟩, hx⟩ := hs.2.2.2.split hi (α := { y : Nat × Value × Value × List Value // p = .pointer (some ⟨y.1, 0, none⟩) }) (r1 := fun y => cellsR y.1.1 t [y.1.2.1, y.1.2.2.1]) (r2 := fun y => rowsX S nn y.1.2.2.1 y.1.2.2.2 (fb m) none) (F := fun y => [Fact.sl SL y.1.2.1 (fl m)]) (by
    rintro R h _ ⟨b, vl, v, vs, h1, h2, e, d, l1, l2, p1, p2, p3⟩
    refine ⟨⟨(b, vl, v, vs), e⟩, h1, h2, d, l1, l2, p1, p2, ?_⟩
    intro G hG; simp at hG; subst hG; exact p3)
  exact hk b vl v vs e a w ⟨hs.1, hs.2.1, hs.2.2.1, hx⟩
theorem Tk_nilopt (t : TypeId) (SL : Shape τ) (S : Shape ρ) (nn : Bool) (fl : σ → List τ) (fb : σ → List (List ρ)) (h : Tk c k ⟨fr, own ++ [some (optR t SL S nn fl fb (.pointer none) none)], shr⟩) : Tk c k ⟨fr, own, shr⟩ := fun a w hs =>
  h a w ⟨hs.1, hs.2.1, hs.2.2.1, hs.2.2.2.free _ fun _ => rfl⟩
theorem vs_fold (m : σ) {i j q b : Nat} {vl v : Value} {vs : List Value} {ls : List τ} {bs : List (List ρ)} (hi : own[i]? = some (some (cellsR b t [vl, v]))) (hj : own[j]? = some (some (rowsX S nn v vs bs none))) (hij : Nat.beq i j = false) (hq : shr[q]? = some (Fact.sl SL vl ls)) (hl : fl m = ls) (hb : fb m = bs) :
    VS c ⟨fr, own, shr⟩ ⟨fr, (own.set i (some (optR t SL S nn fl fb (.pointer (some ⟨b, 0, none⟩)) (some m)))).set j none, shr⟩ := fun a w hs => by
  refine ⟨hs.1, hs.2.1, hs.2.2.1, hs.2.2.2.merge hij hi hj ?_⟩
  intro R h1 h2 hF hd p1 p2
  exact ⟨b, vl, v, vs, h1, h2, rfl, hd, PH.or_left, PH.or_right hd, p1, by rw [hb]; exact p2, by rw [hl]; exact hF _ (List.mem_of_getElem? hq)⟩

end
end Go.Proofs.Ytbeendakebamhaa
