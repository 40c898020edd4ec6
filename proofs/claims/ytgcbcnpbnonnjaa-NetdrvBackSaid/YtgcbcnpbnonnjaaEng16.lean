/- The engine, part 16: loops gone through round by round, fields of elements of rows of one's own, rows of constant bytes, maps of one's own. No statement of the seat is proved here; no condition. -/
import Derived.Test.YtgcbcnpbnonnjaaEng15
import Derived.LoopN
import Derived.MapKept
namespace Go.Proofs.Ytgcbcnpbnonnjaa

section
variable {c : Cx} {k : List Item} {s : St} {ops : Array Oper} {rest : List Oper} {o : Oper} {fr : List (Nat × Option Value)} {own : List (Option Res)} {shr : List Fact} {d : Nat} {τ σ : Type} {S : Shape τ}

/-! ## fields of elements -/
theorem OpT_fieldR {t : TypeId} {x : Operand} {vx : Value} {i n f q : Nat} {m : Int} {xs : List τ} {u : τ} (hn : Nat.blt d c.n = true) (hd : o.dst = some d) (ho : o.op = .fieldAddr t x f) (hx : ev fr x = some (rowPtr vx n)) (hf : FldF c.P t f q) (hi : own[i]? = some (some (rowS S vx xs))) (hu : ix xs m = some u) :
    OpT c o ⟨fr, own, shr⟩ (fun s => s = ⟨(d, some (rowPtr vx (n + q))) :: fr, own, shr⟩) :=
  Zy hn hd fun a w hs => by
    obtain ⟨h0, h1, h2⟩ := ix_some hu
    obtain ⟨R, hs', hw⟩ := hs.2.2.2
    obtain ⟨css, _, _, h3⟩ := hw.ow i _ hi
    rcases h3 with ⟨_, hx0⟩ | ⟨g, cap, cur, tg, hv, _⟩
    · subst hx0; simp at h2
    · subst hv
      have e := Qv hs.2.2.1 hx
      simp only [rowPtr] at e ⊢
      have := hf (Addr.add ⟨g, 0, none⟩ n) w
      rw [Addr.add_add] at this
      simp [execOp, ho, e, this]
variable {cells : τ → List Value} {sz : Nat} {ag ag' : Bool} {hl : ∀ x, (cells x).length = sz} {hone : ∀ x, (cells x).all (·.oneCell') = true}
theorem splice_in {α : Type} {l cs us : List α} {p q n z : Nat} (h : (l.drop p).take z = us) (hl : p + z ≤ l.length) (hq : q + n ≤ z) :
    l.take (p + q) ++ cs ++ l.drop (p + q + n) = l.take p ++ (us.take q ++ cs ++ us.drop (q + n)) ++ l.drop (p + z) := by
  have e1 : l.take (p + q) = l.take p ++ us.take q := by
    rw [List.take_add, ← h, List.take_take, Nat.min_eq_left (by omega)]
  have e2 : l.drop (p + q + n) = us.drop (q + n) ++ l.drop (p + z) := by
    rw [← h, List.drop_take, List.drop_drop]
    have : l.drop (p + z) = (l.drop (p + (q + n))).drop (z - (q + n)) := by rw [List.drop_drop]; congr 1; omega
    rw [this, List.take_append_drop]; congr 1; omega
  rw [e1, e2]; simp [List.append_assoc]
theorem OpT_storeOF (hS : S = Shape.plain sz ag cells hl hone) {t : TypeId} {x y : Operand} {i n q : Nat} {m : Int} {vx v : Value} {xs : List τ} {u u0 : τ} (hd : o.dst = none) (ho : o.op = .store t x y) (hx : ev fr x = some (rowPtr vx (Int.toNat m * sz + q))) (hy : ev fr y = some v)
    (ht : TyF c.P t ag' n) (hi : own[i]? = some (some (rowS S vx xs))) (hu : ix xs m = some u0) (hvn : v.cells.size = n) (hv : (cells u0).take q ++ v.cells.toList ++ (cells u0).drop (q + n) = cells u) (hq : Nat.ble (q + n) sz = true) :
    OpT c o ⟨fr, own, shr⟩ (fun s => s = ⟨fr, own.set i (some (rowS S vx (xs.set m.toNat u))), shr⟩) :=
  OpT_skipRun hd fun a w hs => by
    obtain ⟨h0, h1, h2⟩ := ix_some hu
    obtain ⟨R, hs', hw⟩ := hs.2.2.2
    have hne : xs ≠ [] := by intro e; subst e; simp at h2
    obtain ⟨g, cap, cur, tg, a1, a2, a3, a4, a5, a6⟩ := row_block hS (hw.ow i _ hi) hne
    subst a1
    have hq' := Nat.le_of_ble_eq_true hq
    have hb := hw.hw i g _ a2
    have hlt : m.toNat < xs.length := (List.getElem?_eq_some_iff.1 h2).1
    have hfit : m.toNat * sz + sz ≤ xs.length * sz := by
      have := Nat.mul_le_mul_right sz hlt
      rw [Nat.succ_mul] at this; exact this
    have hcap : xs.length * sz ≤ cur.size := by rw [a5]; exact Nat.mul_le_mul_right sz a3
    have hvl : v.cells.toList.length = n := by simpa using hvn
    have hvone : ∀ z ∈ v.cells.toList, z.oneCell' = true := fun z hz => by
      have : z ∈ cells u := by rw [← hv]; simp [hz]
      exact List.all_eq_true.1 (hone u) z this
    have hst := run_storeCells_at c.P g (m.toNat * sz + q) tg v.cells.toList 0 cur w hb (by rw [hvl]; omega) hvone
    simp only [Nat.add_zero, hvl] at hst
    have e := Qv hs.2.2.1 hx
    simp only [rowPtr, Addr.add_lit, Nat.zero_add] at e
    have hseg : (cur.toList.drop (m.toNat * sz)).take sz = cells u0 := by
      apply List.ext_getElem?
      intro j
      rw [List.getElem?_take]
      by_cases hj : j < sz
      · rw [if_pos hj, List.getElem?_drop]
        have := row_cell hl a6 h2 (q := j) hj
        simpa using this
      · rw [if_neg hj, List.getElem?_eq_none (by rw [hl u0]; omega)]
    have hsp := splice_in (cs := v.cells.toList) hseg (by rw [Array.length_toList]; omega) hq'
    rw [hv] at hsp
    refine ⟨w.setRow g (cur.toList.take (m.toNat * sz + q) ++ v.cells.toList ++ cur.toList.drop (m.toNat * sz + q + n)).toArray, ?_, ?_⟩
    · simp [execOp, ho, e, Qv hs.2.2.1 hy, Instr.storeAt, Instr.sureAddr, storeVar, ht.sz, hvn, hst]
    · rw [hsp]
      have hb' := setRow_heap w g cur (cur.toList.take (m.toNat * sz) ++ cells u ++ cur.toList.drop (m.toNat * sz + sz)).toArray tg (0, 0) hb
      refine ⟨R, _, hw.upd i (PH.one g (.cells (cur.toList.take (m.toNat * sz) ++ cells u ++ cur.toList.drop (m.toNat * sz + sz)).toArray tg (0, 0))) ?_ (by simp) ?_ ?_ rfl rfl rfl (own_set ?_)⟩
      · intro b hb1 hb2
        by_cases eq : b = g
        · subst eq; rw [a2] at hb2; cases hb2
        · exact setRow_other w g b _ eq
      · intro b o' h; obtain ⟨e1, e2⟩ := PH.one_some h; subst e1; subst e2; exact hb'
      · intro b o' h; obtain ⟨e1, _⟩ := PH.one_some h; subst e1; left; rw [a2]; simp
      · subst hS
        refine ⟨(xs.set m.toNat u).map cells, by simp, ?_, .inr ⟨g, cap, _, tg, by simp, PH.one_self _ _, by simpa using a3, a4, ?_, ?_⟩⟩
        · intro j ci z p q
          simp only [List.getElem?_map, q, Option.map_some, Option.some.injEq] at p
          exact p.symm
        · have e5 : cur.toList.length = cap * sz := by simpa using a5
          simp only [List.size_toArray, List.length_append, List.length_take, List.length_drop, hl u, e5]
          show _ = cap * sz
          have : xs.length * sz ≤ cap * sz := Nat.mul_le_mul_right sz a3
          omega
        · show List.take ((xs.set m.toNat u).length * sz) _ = _
          rw [flatten_set hl u hlt, List.length_set, List.toList_toArray, take_splice (hl u) hfit (by simpa using hcap), a6]
end
end Go.Proofs.Ytgcbcnpbnonnjaa
