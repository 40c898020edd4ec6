/- The engine, part 12: slice values in blocks, in built values, in rows. No statement of the seat is proved here; no condition. -/
import Derived.Test.YtlofegfaphijpaaEng11
namespace Go.Proofs.Ytlofegfaphijpaa

/-- in every state that fits, v is a slice value -/
def IsSl (c : Cx) (s : St) (v : Value) : Prop := ∀ a w, Sat c s a w → ∃ base n cap, v = .slice base n cap
section
variable {c : Cx} {k : List Item} {s : St} {ops : Array Oper} {rest : List Oper} {o : Oper} {fr : List (Nat × Option Value)} {own : List (Option Res)} {shr : List Fact} {d : Nat} {τ σ : Type} {S : Shape τ} {S' : Shape σ}
theorem is_sl {i : Nat} {v : Value} {xs : List τ} (hi : shr[i]? = some (Fact.sl S v xs)) : IsSl c ⟨fr, own, shr⟩ v := fun a w hs => by
  obtain ⟨R, _, base, cap, css, e, _⟩ := hs.2.2.2.fact hi
  exact ⟨_, _, _, e⟩
theorem is_row {i : Nat} {v : Value} {xs : List τ} (hi : own[i]? = some (some (rowS S v xs))) : IsSl c ⟨fr, own, shr⟩ v := fun a w hs => by
  obtain ⟨R, hs', hw⟩ := hs.2.2.2
  obtain ⟨base, cap, e⟩ := RowRel.val (hw.ow i _ hi)
  exact ⟨_, _, _, e⟩
theorem OpT_storeV {t : TypeId} {x y : Operand} {b off i : Nat} {tb : TypeId} {cs cs' : List Value} {v : Value} (hd : o.dst = none) (ho : o.op = .store t x y) (hx : ev fr x = some (.pointer (some ⟨b, off, none⟩))) (hy : ev fr y = some v)
    (ht : TyF c.P t false 1) (hi : own[i]? = some (some (cellsR b tb cs))) (hv : IsSl c ⟨fr, own, shr⟩ v) (hl : Nat.ble (off + 1) cs.length = true) (hc : cs.take off ++ [v] ++ cs.drop (off + 1) = cs') :
    OpT c o ⟨fr, own, shr⟩ (fun s => s = ⟨fr, own.set i (some (cellsR b tb cs')), shr⟩) := fun a w hs => by
  obtain ⟨base, n, cap, e⟩ := hv a w hs
  have e2 : v.cells.toList = [v] := by subst e; rfl
  refine OpT_storeC hd ho hx hy ht hi (by rw [e2]; rfl) hl ?_ (by rw [e2]; exact hc) a w hs
  rw [e2]; subst e; exact one_of rfl
theorem OpT_build1 (G : Value → List (Nat × Value)) (F : Value → List Value) {t : TypeId} {ps : Array (Nat × Operand)} {v : Value} (hn : Nat.blt d c.n = true) (hd : o.dst = some d) (ho : o.op = .build t ps) (hx : evs fr ps.toList = some (G v)) (hv : IsSl c ⟨fr, own, shr⟩ v) (hb : ∀ p q r, c.P.built t (G (.slice p q r)) = some (F (.slice p q r)).toArray) : OpT c o ⟨fr, own, shr⟩ (fun s => s = ⟨(d, some (.agg (F v).toArray)) :: fr, own, shr⟩) := fun a w hs => by
  obtain ⟨base, n, cap, e⟩ := hv a w hs
  exact OpT_build hn hd ho hx (bldV (by subst e; exact hb base n cap)) a w hs
theorem OpT_build2 (G : Value → Value → List (Nat × Value)) (F : Value → Value → List Value) {t : TypeId} {ps : Array (Nat × Operand)} {v v' : Value} (hn : Nat.blt d c.n = true) (hd : o.dst = some d) (ho : o.op = .build t ps) (hx : evs fr ps.toList = some (G v v')) (hv : IsSl c ⟨fr, own, shr⟩ v) (hv' : IsSl c ⟨fr, own, shr⟩ v') (hb : ∀ p q r p' q' r', c.P.built t (G (.slice p q r) (.slice p' q' r')) = some (F (.slice p q r) (.slice p' q' r')).toArray) : OpT c o ⟨fr, own, shr⟩ (fun s => s = ⟨(d, some (.agg (F v v').toArray)) :: fr, own, shr⟩) := fun a w hs => by
  obtain ⟨base, n, cap, e⟩ := hv a w hs
  obtain ⟨base', n', cap', e'⟩ := hv' a w hs
  exact OpT_build hn hd ho hx (bldV (by subst e; subst e'; exact hb base n cap base' n' cap')) a w hs

/-! a row of slices that is built -/
def numb : List Value → Nat → List (Nat × Value)
  | [], _ => []
  | v :: r, i => (i, v) :: numb r (i + 1)
theorem fill_numb : ∀ (vs : List Value) (i : Nat) (cs : Array Value), (∀ v ∈ vs, v.cells = #[v]) → i + vs.length = cs.size → Instr.fill (fun i => some (i * 1, 1)) cs (numb vs i) = some (cs.toList.take i ++ vs).toArray
  | [], i, cs, _, h => by
    simp only [List.length_nil, Nat.add_zero] at h
    simp only [numb, Instr.fill, List.append_nil, Option.some.injEq]
    rw [List.take_of_length_le (by simp; omega)]
  | v :: vs, i, cs, hv, h => by
    have h1 := hv v (by simp)
    simp only [List.length_cons] at h
    have hlt : i < cs.size := by omega
    simp only [numb, Instr.fill, h1, Nat.mul_one]
    rw [if_neg (by simp; omega)]
    have h2 := fill_numb vs (i + 1) (cs.setIfInBounds i v) (fun u hu => hv u (by simp [hu])) (by simp; omega)
    have e : (#[v].zipIdx.foldl (fun cs (x : Value × Nat) => cs.setIfInBounds (i + x.2) x.1) cs) = cs.setIfInBounds i v := by simp [Array.zipIdx]
    simp only [Nat.mul_one] at h2
    rw [e, h2]
    simp only [Array.toList_setIfInBounds, Option.some.injEq]
    have e3 : (cs.toList.set i v).take (i + 1) = cs.toList.take i ++ [v] := by
      rw [List.take_succ_eq_append_getElem (by simpa using hlt)]
      simp [List.take_set_of_le]
    rw [e3, List.append_assoc]; rfl
theorem OpT_buildSl (S : Shape τ) {t e : TypeId} {n : Nat} {ps : Array (Nat × Operand)} {vs : List Value} {xs : List τ} {b : Nat} {z : Value} (hS : S.sz = 1) (hn : Nat.blt d c.n = true) (hd : o.dst = some d) (ho : o.op = .buildSlice t n ps) (hx : evs fr ps.toList = some (numb vs 0)) (ht : SlF c.P t e 1 b z)
    (hv : ∀ v ∈ vs, IsSl c ⟨fr, own, shr⟩ v) (hnv : vs.length = n) (hl : vs.length = xs.length) (hm : Nat.ble n 65536 = true) (hrel : ∀ R, (∀ F ∈ shr, F.p R) → ∀ (i : Nat) (ci : List Value) (x : τ), (vs.map fun v => [v])[i]? = some ci → xs[i]? = some x → S.rel R ci x) :
    OpT c o ⟨fr, own, shr⟩ (fun s => ∃ v, s = ⟨(d, some v) :: fr, own ++ [some (rowS S v xs)], shr⟩) := fun a w hs => by
  have hm' := Nat.le_of_ble_eq_true hm
  have hcl : ∀ v ∈ vs, v.cells = #[v] := fun v h => by
    obtain ⟨p, q, r, e⟩ := hv v h a w hs
    subst e; rfl
  have hb : BldF c.P t n (numb vs 0) e vs := by
    refine bldF ht (by omega) ?_
    have hsz : (if n * 1 = 0 then #[] else (Array.range (n * 1)).map (z.cells[· % z.cells.size]!)).size = n := by
      split
      · simp; omega
      · simp
    have := fill_numb vs 0 (if n * 1 = 0 then #[] else (Array.range (n * 1)).map (z.cells[· % z.cells.size]!)) hcl (by rw [hsz]; omega)
    simpa using this
  exact OpT_buildSlice (S := S) (xs := xs) (css := vs.map fun v => [v]) (cs := vs) hn hd ho hx hb (by simp [← List.flatMap_def]) (by simp [hl]) (by omega) (by simp only [Nat.ble_eq]; omega) hrel a w hs
end
end Go.Proofs.Ytlofegfaphijpaa
