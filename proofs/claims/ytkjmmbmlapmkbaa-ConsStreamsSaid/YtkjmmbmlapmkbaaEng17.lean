/- The engine, part 17: rows of constant bytes, maps of one's own. No statement of the seat is proved here; no condition. -/
import Derived.Test.YtkjmmbmlapmkbaaEng16
namespace Go.Proofs.Ytkjmmbmlapmkbaa
open MapKept (IsKey)
/-- a row of one's own becomes one that all read -/
theorem Sat.ret {τ : Type} {S : Shape τ} {c : Cx} {fr : List (Nat × Option Value)} {own : List (Option Res)} {shr : List Fact} {a : Act} {w : World} {i : Nat} {v : Value} {xs : List τ} (hs : Sat c ⟨fr, own, shr⟩ a w) (hi : own[i]? = some (some (rowS S v xs))) : Sat c ⟨fr, own.set i none, shr ++ [Fact.sl S v xs]⟩ a w := by
  obtain ⟨R, hs', hw⟩ := hs.2.2.2
  exact ⟨hs.1, hs.2.1, hs.2.2.1, _, _, hw.retire i _ (RowRel.slice (hw.rd i) (hw.ow i _ hi))⟩
section
variable {κ ν : Type} [BEq κ] {kk : IntKind} {kf : κ → Int} {V : ν → Value}
variable {c : Cx} {k : List Item} {s : St} {ops : Array Oper} {rest : List Oper} {o : Oper} {fr : List (Nat × Option Value)} {own : List (Option Res)} {shr : List Fact} {d : Nat}
omit [BEq κ] in
end

/-! ## rows of constant bytes -/
def sliceR (v : Value) (xs : List UInt8) : Res := ⟨fun _ h => SliceRel u8S h v xs, fun _ h => h⟩
section
variable {c : Cx} {k : List Item} {s : St} {ops : Array Oper} {rest : List Oper} {o : Oper} {fr : List (Nat × Option Value)} {own : List (Option Res)} {shr : List Fact} {d : Nat}
theorem OpT_bytesC {t e : TypeId} {x : Operand} {v : Value} {i : Nat} {xs : List UInt8} (hn : Nat.blt d c.n = true) (hd : o.dst = some d) (ho : o.op = .convert t t x) (hx : ev fr x = some v) (ht : c.P.underlying t = some (.slice e)) (he : c.P.underlying e = some (.int .u8))
    (hi : own[i]? = some (some (rowS u8S v xs))) (hne : xs.isEmpty = false) : OpT c o ⟨fr, own, shr⟩ (fun s => s = ⟨(d, some v) :: fr, own.set i none, shr ++ [Fact.sl u8S v xs]⟩) := by
  have main : OpT c o ⟨fr, own, shr⟩ (fun s => ∃ _ : Unit, s = ⟨(d, some v) :: fr, own.set i none, shr ++ [Fact.sl u8S v xs]⟩) :=
    OpT_run (f := fun _ => ⟨(d, some v) :: fr, own.set i none, shr ++ [Fact.sl u8S v xs]⟩) hn hd fun a w hs => by
      obtain ⟨R, hs', hw⟩ := hs.2.2.2
      have hne' : xs ≠ [] := by intro q; rw [q] at hne; cases hne
      obtain ⟨g, cap, cur, tg, a1, a2, a3, a4, a5, a6⟩ := row_block (S := u8S) rfl (hw.ow i _ hi) hne'
      have hb := hw.hw i g _ a2
      have hgl : g < w.heap.size := (Array.getElem?_eq_some_iff.1 hb).1
      have hsh : w.shape? g = some (tg, cur.size) := by unfold World.shape?; rw [hb]
      have hf : (w.freeze ⟨g, cur.size, none⟩ 1).heap[g]? = some (.cells cur tg (cur.size, cur.size + 1)) := by
        unfold World.freeze
        simp [hb, Array.getElem?_modify]
      have ho' : ∀ b, b ≠ g → (w.freeze ⟨g, cur.size, none⟩ 1).heap[b]? = w.heap[b]? := fun b hbg => by
        unfold World.freeze
        simp only [Array.getElem?_modify]
        rw [if_neg (by decide)]
        simp only [Array.getElem?_modify, if_neg (fun q : g = b => hbg q.symm)]
      have hwf : (w.freeze ⟨g, cur.size, none⟩ 1).os = w.os ∧ (w.freeze ⟨g, cur.size, none⟩ 1).tape = w.tape ∧ (w.freeze ⟨g, cur.size, none⟩ 1).output = w.output ∧ (w.freeze ⟨g, cur.size, none⟩ 1).heap.size = w.heap.size := by
        unfold World.freeze; simp
      refine ⟨v, w.freeze ⟨g, cur.size, none⟩ 1, (), ?_, rfl, ?_⟩
      · subst a1
        simp [execOp, ho, ev_eval hs.2.2.1 hx, convert, run_underlying ht, run_underlying he, markStringish, hsh]
      · have hsl : SliceRel u8S (PH.one g (.cells cur tg (cur.size, cur.size + 1))) v xs := by
          refine ⟨some ⟨g, 0, none⟩, cap, xs.map cU8, a1, a3, by simp, fun j ci x p q => ?_, fun j ci p => ⟨_, rfl, ?_⟩⟩
          · simp only [List.getElem?_map, q, Option.map_some, Option.some.injEq] at p
            exact p.symm
          · rw [List.getElem?_map] at p
            obtain ⟨x, hx1, hx2⟩ := Option.map_eq_some_iff.1 p
            subst hx2
            intro q z hz
            have hc := row_cell (cells := cU8) (sz := 1) (fun _ => rfl) a6 hx1 (q := 0) (by decide)
            cases q with
            | zero =>
              obtain rfl : vU8 x = z := Option.some.inj hz
              show PH.cell _ _ = _
              unfold PH.cell
              simp only [Addr.add_lit, PH.one_self]
              have : u8S.sz = 1 := rfl
              rw [this]
              have hc2 : cur[j * 1 + 0]? = some (vU8 x) := hc
              simpa using hc2
            | succ q => cases hz
        have hu := hw.upd (own' := own.set i (some (sliceR v xs))) (w' := w.freeze ⟨g, cur.size, none⟩ 1) i (PH.one g (.cells cur tg (cur.size, cur.size + 1))) (by
          intro b hb1 hb2
          by_cases eq : b = g
          · subst eq; rw [a2] at hb2; cases hb2
          · exact ho' b eq) (by rw [hwf.2.2.2]; exact Nat.le_refl _) (by intro b o' h; obtain ⟨e1, e2⟩ := PH.one_some h; subst e1; subst e2; exact hf)
          (by intro b o' h; obtain ⟨e1, _⟩ := PH.one_some h; subst e1; left; rw [a2]; simp) hwf.1 hwf.2.1 hwf.2.2.1 (own_set hsl)
        have hr := hu.retire i (Fact.sl u8S v xs) (SliceRel.mono (PH.or_right (hu.rd i)) (by simp only [if_true]; exact hsl))
        rw [List.set_set] at hr
        exact ⟨_, _, hr⟩
  refine main.vs ?_
  rintro x ⟨_, rfl⟩
  exact ⟨_, rfl, fun a w hs => hs⟩
end
end Go.Proofs.Ytkjmmbmlapmkbaa
