/- The engine, part 16: loops gone through round by round, fields of elements of rows of one's own, rows of constant bytes, maps of one's own. No statement of the seat is proved here; no condition. -/
import Derived.Test.YtihcimjfabdafaaEng15
import Derived.LoopN
import Derived.MapKept
namespace Go.Proofs.Ytihcimjfabdafaa

section
variable {c : Cx} {k : List Item} {s : St} {ops : Array Oper} {rest : List Oper} {o : Oper} {fr : List (Nat × Option Value)} {own : List (Option Res)} {shr : List Fact} {d : Nat} {τ σ : Type} {S : Shape τ}

/-! ## fields of elements -/
theorem OpT_fieldR {t : TypeId} {x : Operand} {vx : Value} {i n f q : Nat} {m : Int} {xs : List τ} {u : τ} (hn : Nat.blt d c.n = true) (hd : o.dst = some d) (ho : o.op = .fieldAddr t x f) (hx : ev fr x = some (rowPtr vx n)) (hf : FldF c.P t f q) (hi : own[i]? = some (some (rowS S vx xs))) (hu : ix xs m = some u) :
    OpT c o ⟨fr, own, shr⟩ (fun s => s = ⟨(d, some (rowPtr vx (n + q))) :: fr, own, shr⟩) :=
  OpT_val hn hd fun a w hs => by
    obtain ⟨h0, h1, h2⟩ := ix_some hu
    obtain ⟨R, hs', hw⟩ := hs.2.2.2
    obtain ⟨css, _, _, h3⟩ := hw.ow i _ hi
    rcases h3 with ⟨_, hx0⟩ | ⟨g, cap, cur, tg, hv, _⟩
    · subst hx0; simp at h2
    · subst hv
      have e := ev_eval hs.2.2.1 hx
      simp only [rowPtr] at e ⊢
      have := hf (Addr.add ⟨g, 0, none⟩ n) w
      rw [Addr.add_add] at this
      simp [execOp, ho, e, this]
variable {cells : τ → List Value} {sz : Nat} {ag ag' : Bool} {hl : ∀ x, (cells x).length = sz} {hone : ∀ x, (cells x).all (·.oneCell') = true}
theorem OpT_loadOF (hS : S = Shape.plain sz ag cells hl hone) {t : TypeId} {x : Operand} {i n q : Nat} {m : Int} {vx v : Value} {xs : List τ} {u : τ} (hn : Nat.blt d c.n = true) (hd : o.dst = some d) (ho : o.op = .load t x) (hx : ev fr x = some (rowPtr vx (Int.toNat m * sz + q)))
    (ht : TyF c.P t false n) (hi : own[i]? = some (some (rowS S vx xs))) (hu : ix xs m = some u) (hv : (cells u)[q]? = some v) (hq : Nat.blt q sz = true) : OpT c o ⟨fr, own, shr⟩ (fun s => s = ⟨(d, some v) :: fr, own, shr⟩) :=
  OpT_val hn hd fun a w hs => by
    obtain ⟨h0, h1, h2⟩ := ix_some hu
    obtain ⟨R, hs', hw⟩ := hs.2.2.2
    have hne : xs ≠ [] := by intro e; subst e; simp at h2
    obtain ⟨g, cap, cur, tg, a1, a2, a3, a4, a5, a6⟩ := row_block hS (hw.ow i _ hi) hne
    subst a1
    have hb := hw.hw i g _ a2
    have hc := row_cell hl a6 h2 (q := q) (Nat.blt_eq.mp hq)
    rw [hv] at hc
    have hcell : w.cell? ⟨g, m.toNat * sz + q, none⟩ = some v := by
      rw [cell_of_row w g _ cur tg (0, 0) hb]; exact hc
    have e := ev_eval hs.2.2.1 hx
    simp only [rowPtr, Addr.add_lit, Nat.zero_add] at e
    simp [execOp, ho, e, Instr.loadAt, Instr.sureAddr, loadVar, ht.ag, hcell]
theorem OpT_loadOFA (hS : S = Shape.plain sz ag cells hl hone) {t : TypeId} {x : Operand} {i n q : Nat} {m : Int} {vx : Value} {vs : List Value} {xs : List τ} {u : τ} (hn : Nat.blt d c.n = true) (hd : o.dst = some d) (ho : o.op = .load t x) (hx : ev fr x = some (rowPtr vx (Int.toNat m * sz + q)))
    (ht : TyF c.P t true n) (hi : own[i]? = some (some (rowS S vx xs))) (hu : ix xs m = some u) (hv : ((cells u).drop q).take n = vs) (hq : Nat.ble (q + n) sz = true) : OpT c o ⟨fr, own, shr⟩ (fun s => s = ⟨(d, some (.agg vs.toArray)) :: fr, own, shr⟩) :=
  OpT_val hn hd fun a w hs => by
    obtain ⟨h0, h1, h2⟩ := ix_some hu
    obtain ⟨R, hs', hw⟩ := hs.2.2.2
    have hne : xs ≠ [] := by intro e; subst e; simp at h2
    obtain ⟨g, cap, cur, tg, a1, a2, a3, a4, a5, a6⟩ := row_block hS (hw.ow i _ hi) hne
    subst a1
    have hq' := Nat.le_of_ble_eq_true hq
    have hb := hw.hw i g _ a2
    have hlen : vs.length = n := by rw [← hv, List.length_take, List.length_drop, hl u]; omega
    have hcs : CellsAt (PH.one g (.cells cur tg (0, 0))) ⟨g, m.toNat * sz + q, none⟩ vs := by
      intro j z hj
      have hjn : j < n := by rw [← hlen]; exact (List.getElem?_eq_some_iff.1 hj).1
      rw [← hv, List.getElem?_take, if_pos hjn, List.getElem?_drop] at hj
      have hc := row_cell hl a6 h2 (q := q + j) (by omega)
      rw [hj, ← Nat.add_assoc] at hc
      show PH.cell _ _ = _
      unfold PH.cell
      simp only [Addr.add_lit, PH.one_self]
      exact hc
    have hin : (PH.one g (.cells cur tg (0, 0))).inW w := fun b o' h => by obtain ⟨e1, e2⟩ := PH.one_some h; subst e1; subst e2; exact hb
    have hld := loadCells_at (P := c.P) hin hcs
    rw [hlen] at hld
    have e := ev_eval hs.2.2.1 hx
    simp only [rowPtr, Addr.add_lit, Nat.zero_add] at e
    simp [execOp, ho, e, Instr.loadAt, Instr.sureAddr, loadVar, ht.ag, ht.sz, hld]
end
end Go.Proofs.Ytihcimjfabdafaa
