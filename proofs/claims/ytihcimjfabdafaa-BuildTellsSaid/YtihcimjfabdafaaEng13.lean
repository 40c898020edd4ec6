/- The engine, part 13: rows of rows of one's own; objects behind pointers that may be nil; copies. No statement of the seat is proved here; no condition. -/
import Derived.Test.YtihcimjfabdafaaEng12
namespace Go.Proofs.Ytihcimjfabdafaa

/-! ## parts that are parted and joined -/
theorem PH.disj_le {h h1 g : PH} (hl : h1.le h) (hd : h.disj g) : h1.disj g := fun b => by
  cases hb : h1 b with
  | none => exact .inl rfl
  | some o =>
    rcases hd b with q | q
    · rw [hl b o hb] at q; cases q
    · exact .inr q
theorem HSat.split {R0 : PH} {w0 : World} {B : Nat → Prop} {own : List (Option Res)} {shr : List Fact} {w : World} (h : HSat R0 w0 B own shr w) {i : Nat} {r : Res} (hi : own[i]? = some (some r)) {α : Type} {r1 r2 : α → Res} {F : α → List Fact}
    (hsp : ∀ R h, (∀ G ∈ shr, G.p R) → r.p R h → ∃ x h1 h2, h1.disj h2 ∧ h1.le h ∧ h2.le h ∧ (r1 x).p R h1 ∧ (r2 x).p R h2 ∧ ∀ G ∈ F x, G.p R) :
    ∃ x, HSat R0 w0 B (own.set i (some (r1 x)) ++ [some (r2 x)]) (shr ++ F x) w := by
  obtain ⟨R, hs, hw⟩ := h
  obtain ⟨x, h1, h2, hd, l1, l2, p1, p2, hF⟩ := hsp R (hs i) hw.sh (hw.ow i r hi)
  have hil : i < own.length := (List.getElem?_eq_some_iff.1 hi).1
  refine ⟨x, R, fun j => if j = i then h1 else if j = own.length then h2 else hs j, hw.r0, hw.rw_, ?_, ?_, ?_, ?_, ?_, ?_, hw.rnew, hw.size, hw.keep, hw.os, hw.tape, hw.output⟩
  · intro G hG
    rcases List.mem_append.1 hG with q | q
    · exact hw.sh G q
    · exact hF G q
  · intro j q hj
    by_cases e : j = i
    · subst e
      rw [List.getElem?_append_left (by simpa using hil)] at hj
      simp [hil] at hj; subst hj
      simp only [if_true]; exact p1
    · by_cases e2 : j = own.length
      · subst e2
        rw [List.getElem?_append_right (by simp)] at hj
        simp at hj; subst hj
        simp only [e, if_true, if_false]; exact p2
      · simp only [e, e2, if_false]
        rcases Nat.lt_or_ge j own.length with hlt | hge
        · rw [List.getElem?_append_left (by simpa using hlt), List.getElem?_set_ne (fun q => e q.symm)] at hj
          exact hw.ow j q hj
        · rw [List.getElem?_eq_none (by simp; omega)] at hj; cases hj
  · intro j
    by_cases e : j = i
    · simp only [e, if_true]; exact fun b o hb => hw.hw i b o (l1 b o hb)
    · by_cases e2 : j = own.length
      · simp only [e2, if_true]
        rw [if_neg (by omega)]
        exact fun b o hb => hw.hw i b o (l2 b o hb)
      · simp only [e, e2, if_false]; exact hw.hw j
  · intro j l hjl
    by_cases e : j = i
    · subst e
      simp only [if_true]
      rw [if_neg (fun q => hjl q.symm)]
      by_cases e2 : l = own.length
      · simp only [e2, if_true]; exact hd
      · simp only [e2, if_false]; exact PH.disj_le l1 (hw.dj j l hjl)
    · rw [if_neg e]
      by_cases e2 : j = own.length
      · rw [if_pos e2]
        by_cases e3 : l = i
        · rw [if_pos e3]; exact PH.disj_comm hd
        · rw [if_neg e3, if_neg (by omega)]; exact PH.disj_le l2 (hw.dj i l (fun q => e3 q.symm))
      · rw [if_neg e2]
        by_cases e3 : l = i
        · rw [if_pos e3]; exact PH.disj_comm (PH.disj_le l1 (hw.dj i j (fun q => e q.symm)))
        · rw [if_neg e3]
          by_cases e4 : l = own.length
          · rw [if_pos e4]; exact PH.disj_comm (PH.disj_le l2 (hw.dj i j (fun q => e q.symm)))
          · rw [if_neg e4]; exact hw.dj j l hjl
  · intro j
    by_cases e : j = i
    · rw [if_pos e]; exact PH.disj_comm (PH.disj_le l1 (PH.disj_comm (hw.rd i)))
    · rw [if_neg e]
      by_cases e2 : j = own.length
      · rw [if_pos e2]; exact PH.disj_comm (PH.disj_le l2 (PH.disj_comm (hw.rd i)))
      · rw [if_neg e2]; exact hw.rd j
  · intro j b o hb
    by_cases e : j = i
    · rw [if_pos e] at hb; exact hw.new i b o (l1 b o hb)
    · rw [if_neg e] at hb
      by_cases e2 : j = own.length
      · rw [if_pos e2] at hb; exact hw.new i b o (l2 b o hb)
      · rw [if_neg e2] at hb; exact hw.new j b o hb
section
variable {c : Cx} {k : List Item} {s s' : St} {ops : Array Oper} {rest : List Oper} {lo : Nat} {α : Type} {f : α → St}
end

theorem RowRel.mono {τ : Type} {S : Shape τ} {R R' h : PH} (hl : R.le R') {v : Value} {xs : List τ} (hr : RowRel S R h v xs) : RowRel S R' h v xs := (rowS S v xs).mono hl hr
theorem RowRel.le {τ : Type} {S : Shape τ} {R h h' : PH} (hl : h.le h') {v : Value} {xs : List τ} (hr : RowRel S R h v xs) : RowRel S R h' v xs := by
  obtain ⟨css, h1, h2, h3⟩ := hr
  refine ⟨css, h1, h2, ?_⟩
  rcases h3 with q | ⟨g, cap, cur, tg, a1, a2, a3⟩
  · exact .inl q
  · exact .inr ⟨g, cap, cur, tg, a1, hl _ _ a2, a3⟩

section
variable {c : Cx} {k : List Item} {s : St} {ops : Array Oper} {rest : List Oper} {o : Oper} {fr : List (Nat × Option Value)} {own : List (Option Res)} {shr : List Fact} {d : Nat} {τ σ : Type} {S : Shape τ} {nn : Bool} {v : Value} {vs : List Value} {bs : List (List τ)} {ex : Option (Nat × Value)}

end

/-! ## what is made -/
section
variable {c : Cx} {k : List Item} {s : St} {ops : Array Oper} {rest : List Oper} {o : Oper} {fr : List (Nat × Option Value)} {own : List (Option Res)} {shr : List Fact} {d : Nat} {τ σ : Type}
end
end Go.Proofs.Ytihcimjfabdafaa
