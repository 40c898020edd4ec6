/- The engine, part 12: slice values in blocks, in built values, in rows. No statement of the seat is proved here; no condition. -/
import Derived.Test.YtlofegfaphijpaaEng11
namespace Go.Proofs.Ytlofegfaphijpaa

/-- in every state that fits, v is a slice value -/
def IsSl (c : Cx) (s : St) (v : Value) : Prop := ∀ a w, Sat c s a w → ∃ base n cap, v = .slice base n cap
section
variable {c : Cx} {k : List Item} {s : St} {ops : Array Oper} {rest : List Oper} {o : Oper} {fr : List (Nat × Option Value)} {own : List (Option Res)} {shr : List Fact} {d : Nat} {τ σ : Type} {S : Shape τ} {S' : Shape σ}
theorem is_sl {i : Nat} {v : Value} {xs : List τ} (hi : shr[i]? = some (Fact.sl S v xs)) : IsSl c ⟨fr, own, shr⟩ v := fun a w hs => by
  obtain ⟨R, _, base, cap, css, e, _⟩ := hs.2.2.2.fact hi
  exact ⟨_, _, _, e⟩
theorem is_row {i : Nat} {v : Value} {xs : List τ} (hi : own[i]? = some (some (rowS S v xs))) : IsSl c ⟨fr, own, shr⟩ v := fun a w hs => by
  obtain ⟨R, hs', hw⟩ := hs.2.2.2
  obtain ⟨base, cap, e⟩ := RowRel.val (hw.ow i _ hi)
  exact ⟨_, _, _, e⟩
theorem OpT_storeV {t : TypeId} {x y : Operand} {b off i : Nat} {tb : TypeId} {cs cs' : List Value} {v : Value} (hd : o.dst = none) (ho : o.op = .store t x y) (hx : ev fr x = some (.pointer (some ⟨b, off, none⟩))) (hy : ev fr y = some v)
    (ht : TyF c.P t false 1) (hi : own[i]? = some (some (cellsR b tb cs))) (hv : IsSl c ⟨fr, own, shr⟩ v) (hl : Nat.ble (off + 1) cs.length = true) (hc : cs.take off ++ [v] ++ cs.drop (off + 1) = cs') :
    OpT c o ⟨fr, own, shr⟩ (fun s => s = ⟨fr, own.set i (some (cellsR b tb cs')), shr⟩) := fun a w hs => by
  obtain ⟨base, n, cap, e⟩ := hv a w hs
  have e2 : v.cells.toList = [v] := by subst e; rfl
  refine OpT_storeC hd ho hx hy ht hi (by rw [e2]; rfl) hl ?_ (by rw [e2]; exact hc) a w hs
  rw [e2]; subst e; exact one_of rfl
theorem OpT_storeA1 (F : Value → List Value) {t : TypeId} {x y : Operand} {b off i m : Nat} {tb : TypeId} {cs cs' : List Value} {v : Value} (hd : o.dst = none) (ho : o.op = .store t x y) (hx : ev fr x = some (.pointer (some ⟨b, off, none⟩))) (hy : ev fr y = some (.agg (F v).toArray))
    (ht : TyF c.P t true m) (hi : own[i]? = some (some (cellsR b tb cs))) (hv : IsSl c ⟨fr, own, shr⟩ v) (hone : ∀ p q r, (F (.slice p q r)).all (·.oneCell') = true) (hm : Nat.beq (F v).length m = true) (hl : Nat.ble (off + m) cs.length = true) (hc : cs.take off ++ F v ++ cs.drop (off + m) = cs') :
    OpT c o ⟨fr, own, shr⟩ (fun s => s = ⟨fr, own.set i (some (cellsR b tb cs')), shr⟩) := fun a w hs => by
  obtain ⟨base, n, cap, e⟩ := hv a w hs
  refine OpT_storeC hd ho hx hy ht hi hm hl ?_ hc a w hs
  subst e; exact one_of (hone base n cap)
theorem OpT_build2 (G : Value → Value → List (Nat × Value)) (F : Value → Value → List Value) {t : TypeId} {ps : Array (Nat × Operand)} {v v' : Value} (hn : Nat.blt d c.n = true) (hd : o.dst = some d) (ho : o.op = .build t ps) (hx : evs fr ps.toList = some (G v v')) (hv : IsSl c ⟨fr, own, shr⟩ v) (hv' : IsSl c ⟨fr, own, shr⟩ v') (hb : ∀ p q r p' q' r', c.P.built t (G (.slice p q r) (.slice p' q' r')) = some (F (.slice p q r) (.slice p' q' r')).toArray) : OpT c o ⟨fr, own, shr⟩ (fun s => s = ⟨(d, some (.agg (F v v').toArray)) :: fr, own, shr⟩) := fun a w hs => by
  obtain ⟨base, n, cap, e⟩ := hv a w hs
  obtain ⟨base', n', cap', e'⟩ := hv' a w hs
  exact OpT_build hn hd ho hx (bldV (by subst e; subst e'; exact hb base n cap base' n' cap')) a w hs

end
end Go.Proofs.Ytlofegfaphijpaa
