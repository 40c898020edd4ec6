/- The engine, part 15: rows in view, windows, pointers that are compared with nil, rows that grow by a row. No statement of the seat is proved here; no condition. -/
import Derived.Test.YtlofegfaphijpaaEng14
import Derived.Laws.Pointers
namespace Go.Proofs.Ytlofegfaphijpaa

/-! ## a value that may be lacking -/
def onO {α β : Type} (o : Option α) (n : Option β) (s : α → Option β) : Option β := match o with | none => n | some m => s m
theorem onO_cases {α β : Type} {o : Option α} {n : Option β} {s : α → Option β} {r : β} (h : onO o n s = some r) : (o = none ∧ n = some r) ∨ ∃ m, o = some m ∧ s m = some r := by
  cases o with
  | none => exact .inl ⟨rfl, h⟩
  | some m => exact .inr ⟨m, rfl, h⟩
def vsAt (vs : List Value) (j : Nat) : Value := vs.getD j undef
/-- a window: none, or (row, from, to) -/
def winV (sz : Nat) (vs : List Value) (r : Option (Int × Int × Int)) : Value := match r with | none => .slice none 0 0 | some w => subV (vsAt vs w.1.toNat) sz w.2.1.toNat w.2.2.toNat

section
variable {c : Cx} {k : List Item} {s : St} {ops : Array Oper} {rest : List Oper} {o : Oper} {fr : List (Nat × Option Value)} {own : List (Option Res)} {shr : List Fact} {d : Nat} {τ σ : Type} {S : Shape τ} {nn : Bool} {v : Value} {vs : List Value} {bs : List (List τ)} {ex : Option (Nat × Value)}

theorem vs_focus {i : Nat} {j : Int} {xs : List τ} (hi : own[i]? = some (some (rowsX S nn v vs bs none))) (hj : ix bs j = some xs) :
    VS c ⟨fr, own, shr⟩ ⟨fr, own.set i (some (rowsX S nn v vs bs (some (j.toNat, vsAt vs j.toNat)))) ++ [some (rowS S (vsAt vs j.toNat) xs)], shr⟩ := fun a w hs => by
  obtain ⟨u, h⟩ := ex_focus (c := c) (fr := fr) (shr := shr) hi hj a w hs
  have hil : i < own.length := (List.getElem?_eq_some_iff.1 hi).1
  have hu : u = vsAt vs j.toNat := by
    obtain ⟨R, hs', hw⟩ := h.2.2.2
    have hq : (own.set i (some (rowsX S nn v vs bs (some (j.toNat, u)))) ++ [some (rowS S u xs)])[i]? = some (some (rowsX S nn v vs bs (some (j.toNat, u)))) := by
      rw [List.getElem?_append_left (by simpa using hil)]; simp [hil]
    obtain ⟨h0, hh, p⟩ := hw.ow i _ hq
    have := p.hol _ rfl
    simp only at this
    unfold vsAt
    rw [List.getD_eq_getElem?_getD, this]; rfl
  subst hu; exact h
theorem set_ix {j : Int} {xs : List τ} (hj : ix bs j = some xs) : bs.set j.toNat xs = bs := by
  obtain ⟨_, _, hb⟩ := ix_some hj
  apply List.ext_getElem?
  intro q
  by_cases e : q = j.toNat
  · subst e
    rw [List.getElem?_set_self (List.getElem?_eq_some_iff.1 hb).1, hb]
  · rw [List.getElem?_set_ne (fun z => e z.symm)]
theorem vs_unfocus0 {i q : Nat} {j : Int} {u : Value} {xs : List τ} (hi : own[i]? = some (some (rowsX S nn v vs bs (some (j.toNat, u))))) (hq : own[q]? = some (some (rowS S u xs))) (hiq : Nat.beq i q = false) (hj : ix bs j = some xs) :
    VS c ⟨fr, own, shr⟩ ⟨fr, (own.set i (some (rowsX S nn v vs bs none))).set q none, shr⟩ := by
  have h := vs_unfocus (c := c) (fr := fr) (shr := shr) hi hq hiq
  rw [set_ix hj] at h; exact h

/-! a pointer and nil -/
theorem run_ptrNil {P : Program} {t : TypeId} {x y : Operand} {p : Option Addr} {op : BinOp} (hop : op = .eql ∨ op = .neq) (ht : P.underlying t = some (.pointer (P.pointee t))) : Bin P op t x y (.pointer p) (.pointer none) (.bool (nilB op p.isNone)) := fun w => by
  have hg : (eqGuard op t x y (.pointer p) (.pointer none)).run P w = .ok () w := by rcases hop with rfl | rfl <;> rfl
  rw [Sem.run_bind, hg, Result.andThen_ok]
  rcases hop with rfl | rfl
  · rw [run_eql_pointer_nil w t p ht]; rfl
  · rw [run_neq_pointer_nil w t p ht]; cases p <;> rfl
theorem OpT_ptrNil {t : TypeId} {x y : Operand} {t2 : TypeId} {op : BinOp} {p : Option Addr} (hn : Nat.blt d c.n = true) (hd : o.dst = some d) (ho : o.op = .binOp op t x y t2) (hop : op = .eql ∨ op = .neq) (hx : ev fr x = some (.pointer p)) (hy : ev fr y = some (.pointer none)) (ht : c.P.underlying t = some (.pointer (c.P.pointee t))) :
    OpT c o ⟨fr, own, shr⟩ (fun s => s = ⟨(d, some (.bool (nilB op p.isNone))) :: fr, own, shr⟩) := OpT_bin hn hd ho hx hy (run_ptrNil hop ht)

end
end Go.Proofs.Ytlofegfaphijpaa
