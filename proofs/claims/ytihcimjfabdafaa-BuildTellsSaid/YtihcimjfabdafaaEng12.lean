/- The engine, part 12: slice values in blocks, in built values, in rows. No statement of the seat is proved here; no condition. -/
import Derived.Test.YtihcimjfabdafaaEng11
namespace Go.Proofs.Ytihcimjfabdafaa

/-- in every state that fits, v is a slice value -/
def IsSl (c : Cx) (s : St) (v : Value) : Prop := ∀ a w, Sat c s a w → ∃ base n cap, v = .slice base n cap
section
variable {c : Cx} {k : List Item} {s : St} {ops : Array Oper} {rest : List Oper} {o : Oper} {fr : List (Nat × Option Value)} {own : List (Option Res)} {shr : List Fact} {d : Nat} {τ σ : Type} {S : Shape τ} {S' : Shape σ}
theorem is_sl {i : Nat} {v : Value} {xs : List τ} (hi : shr[i]? = some (Fact.sl S v xs)) : IsSl c ⟨fr, own, shr⟩ v := fun a w hs => by
  obtain ⟨R, _, base, cap, css, e, _⟩ := hs.2.2.2.fact hi
  exact ⟨_, _, _, e⟩
theorem is_row {i : Nat} {v : Value} {xs : List τ} (hi : own[i]? = some (some (rowS S v xs))) : IsSl c ⟨fr, own, shr⟩ v := fun a w hs => by
  obtain ⟨R, hs', hw⟩ := hs.2.2.2
  obtain ⟨base, cap, e⟩ := RowRel.val (hw.ow i _ hi)
  exact ⟨_, _, _, e⟩
theorem OpT_box1 {t : TypeId} {x : Operand} {v : Value} (hn : Nat.blt d c.n = true) (hd : o.dst = some d) (ho : o.op = .box t x) (hx : ev fr x = some v) (hv : IsSl c ⟨fr, own, shr⟩ v) :
    OpT c o ⟨fr, own, shr⟩ (fun s => ∃ b, s = ⟨(d, some (.pointer (some ⟨b, 0, none⟩))) :: fr, own ++ [some (cellsR b t [v])], shr⟩) := fun a w hs => by
  obtain ⟨base, n, cap, e⟩ := hv a w hs
  have h := OpT_box (own := own) (shr := shr) hn hd ho hx a w hs
  have e2 : v.cells.toList = [v] := by subst e; rfl
  rw [e2] at h; exact h
theorem OpT_storeV {t : TypeId} {x y : Operand} {b off i : Nat} {tb : TypeId} {cs cs' : List Value} {v : Value} (hd : o.dst = none) (ho : o.op = .store t x y) (hx : ev fr x = some (.pointer (some ⟨b, off, none⟩))) (hy : ev fr y = some v)
    (ht : TyF c.P t false 1) (hi : own[i]? = some (some (cellsR b tb cs))) (hv : IsSl c ⟨fr, own, shr⟩ v) (hl : Nat.ble (off + 1) cs.length = true) (hc : cs.take off ++ [v] ++ cs.drop (off + 1) = cs') :
    OpT c o ⟨fr, own, shr⟩ (fun s => s = ⟨fr, own.set i (some (cellsR b tb cs')), shr⟩) := fun a w hs => by
  obtain ⟨base, n, cap, e⟩ := hv a w hs
  have e2 : v.cells.toList = [v] := by subst e; rfl
  refine OpT_storeC hd ho hx hy ht hi (by rw [e2]; rfl) hl ?_ (by rw [e2]; exact hc) a w hs
  rw [e2]; subst e; exact one_of rfl
/-! a row of slices that is built -/
def numb : List Value → Nat → List (Nat × Value)
  | [], _ => []
  | v :: r, i => (i, v) :: numb r (i + 1)
theorem fill_numb : ∀ (vs : List Value) (i : Nat) (cs : Array Value), (∀ v ∈ vs, v.cells = #[v]) → i + vs.length = cs.size → Instr.fill (fun i => some (i * 1, 1)) cs (numb vs i) = some (cs.toList.take i ++ vs).toArray
  | [], i, cs, _, h => by
    simp only [List.length_nil, Nat.add_zero] at h
    simp only [numb, Instr.fill, List.append_nil, Option.some.injEq]
    rw [List.take_of_length_le (by simp; omega)]
  | v :: vs, i, cs, hv, h => by
    have h1 := hv v (by simp)
    simp only [List.length_cons] at h
    have hlt : i < cs.size := by omega
    simp only [numb, Instr.fill, h1, Nat.mul_one]
    rw [if_neg (by simp; omega)]
    have h2 := fill_numb vs (i + 1) (cs.setIfInBounds i v) (fun u hu => hv u (by simp [hu])) (by simp; omega)
    have e : (#[v].zipIdx.foldl (fun cs (x : Value × Nat) => cs.setIfInBounds (i + x.2) x.1) cs) = cs.setIfInBounds i v := by simp [Array.zipIdx]
    simp only [Nat.mul_one] at h2
    rw [e, h2]
    simp only [Array.toList_setIfInBounds, Option.some.injEq]
    have e3 : (cs.toList.set i v).take (i + 1) = cs.toList.take i ++ [v] := by
      rw [List.take_succ_eq_append_getElem (by simpa using hlt)]
      simp [List.take_set_of_le]
    rw [e3, List.append_assoc]; rfl
end
end Go.Proofs.Ytihcimjfabdafaa
