/- The engine, part 5: rows of one's own; what grows; strings of bytes. No statement of the seat is proved here; no condition. -/
import Derived.Test.YtbeendakebamhaaEng4
namespace Go.Proofs.Ytbeendakebamhaa

/-- a row of one's own: v is nil, or slices its block from the start on -/
def RowRel {τ : Type} (S : Shape τ) (R h : PH) (v : Value) (xs : List τ) : Prop :=
  ∃ css : List (List Value), css.length = xs.length ∧ (∀ (i : Nat) (ci : List Value) (x : τ), css[i]? = some ci → xs[i]? = some x → S.rel R ci x) ∧
    ((v = .slice none 0 0 ∧ xs = []) ∨
     ∃ (g cap : Nat) (cur : Array Value) (tg : TypeId), v = .slice (some ⟨g, 0, none⟩) xs.length cap ∧ h g = some (.cells cur tg (0, 0)) ∧ xs.length ≤ cap ∧ cap ≤ maxLen ∧ cur.size = cap * S.sz ∧ cur.toList.take (xs.length * S.sz) = css.flatten)
def rowS {τ : Type} (S : Shape τ) (v : Value) (xs : List τ) : Res :=
  ⟨fun R h => RowRel S R h v xs, fun hl ⟨css, h1, h2, h3⟩ => ⟨css, h1, fun i ci x a b => S.mono hl (h2 i ci x a b), h3⟩⟩

theorem css_len {τ : Type} {S : Shape τ} {R : PH} {css : List (List Value)} {xs : List τ} (h1 : css.length = xs.length) (h2 : ∀ (i : Nat) (ci : List Value) (x : τ), css[i]? = some ci → xs[i]? = some x → S.rel R ci x) : (∀ ci ∈ css, ci.length = S.sz) ∧ (∀ u ∈ css.flatten, u.oneCell' = true) := by
  have hx : ∀ (i : Nat) (ci : List Value), css[i]? = some ci → ∃ x, xs[i]? = some x := fun i ci hi => by
    have : i < css.length := (List.getElem?_eq_some_iff.1 hi).1
    exact ⟨xs[i]'(by omega), List.getElem?_eq_getElem _⟩
  refine ⟨fun ci hci => ?_, fun u hu => ?_⟩
  · obtain ⟨i, hi⟩ := List.mem_iff_getElem?.1 hci
    obtain ⟨x, hx⟩ := hx i ci hi
    exact S.len (h2 i ci x hi hx)
  · obtain ⟨ci, hci, hu⟩ := List.mem_flatten.1 hu
    obtain ⟨i, hi⟩ := List.mem_iff_getElem?.1 hci
    obtain ⟨x, hx⟩ := hx i ci hi
    exact S.one (h2 i ci x hi hx) u hu

section
variable {c : Cx} {k : List Item} {o : Oper} {ops : Array Oper} {rest : List Oper} {fr : List (Nat × Option Value)} {own : List (Option Res)} {shr : List Fact} {d : Nat} {τ : Type} {S : Shape τ}

/-- what is owned becomes readable by all; nobody writes it any more -/
theorem HW.retire {R0 : PH} {w0 : World} {B : Nat → Prop} {own : List (Option Res)} {shr : List Fact} {w : World} {R : PH} {hs : Nat → PH} (h : HW R0 w0 B own shr w R hs) (i : Nat) (G : Fact) (hG : G.p (R.or (hs i))) :
    HW R0 w0 B (own.set i none) (shr ++ [G]) w (R.or (hs i)) (fun j => if j = i then PH.emp else hs j) := by
  have hle : R.le (R.or (hs i)) := PH.or_left
  refine ⟨PH.le_trans h.r0 hle, ?_, ?_, ?_, ?_, ?_, ?_, ?_, ?_, h.size, h.keep, h.os, h.tape, h.output⟩
  · intro b o hb
    rcases PH.or_some hb with q | q
    · exact h.rw_ b o q
    · exact h.hw i b o q
  · intro F hF
    rcases List.mem_append.1 hF with q | q
    · exact F.mono hle (h.sh F q)
    · simp at q; subst q; exact hG
  · intro j r hj
    by_cases e : j = i
    · subst e
      rcases Nat.lt_or_ge j own.length with hlt | hge
      · simp [hlt] at hj
      · simp [Nat.not_lt.2 hge] at hj
    · rw [List.getElem?_set_ne (fun q => e q.symm)] at hj
      simp only [e, if_false]
      exact r.mono hle (h.ow j r hj)
  · intro j
    by_cases e : j = i
    · simp only [e, if_true]; intro b o hb; cases hb
    · simp only [e, if_false]; exact h.hw j
  · intro j l hjl
    by_cases e : j = i
    · simp only [e, if_true]; exact fun b => .inl rfl
    · by_cases e' : l = i
      · simp only [e', if_true]; exact fun b => .inr rfl
      · simp only [e, e', if_false]; exact h.dj j l hjl
  · intro j
    by_cases e : j = i
    · simp only [e, if_true]; exact fun b => .inr rfl
    · simp only [e, if_false]
      intro b
      have h1 := h.rd j b
      have h2 := h.dj i j (fun q => e q.symm) b
      rcases h1 with q | q
      · rcases h2 with q' | q'
        · left; simp [PH.or, q, q']
        · right; exact q'
      · right; exact q
  · intro j b o hb
    by_cases e : j = i
    · simp only [e, if_true] at hb; cases hb
    · simp only [e, if_false] at hb; exact h.new j b o hb
  · intro b o hb
    rcases PH.or_some hb with q | q
    · exact h.rnew b o q
    · exact .inr (h.new i b o q)

theorem RowRel.slice {R h : PH} (hd : R.disj h) {v : Value} {xs : List τ} (hr : RowRel S R h v xs) : SliceRel S (R.or h) v xs := by
  obtain ⟨css, h1, h2, h3⟩ := hr
  obtain ⟨hl, _⟩ := css_len h1 h2
  rcases h3 with ⟨hv, hx⟩ | ⟨g, cap, cur, tg, hv, hg, hle, hcm, hcs, htk⟩
  · subst hv; subst hx
    have : css = [] := List.eq_nil_of_length_eq_zero (by simpa using h1)
    subst this
    exact ⟨none, 0, [], rfl, Nat.le_refl _, rfl, fun i ci x a => by simp at a, fun i ci a => by simp at a⟩
  · refine ⟨_, cap, css, hv, hle, h1, fun i ci x a b => S.mono PH.or_left (h2 i ci x a b), fun i ci a => ⟨_, rfl, ?_⟩⟩
    intro j u hj
    have hjl : j < S.sz := by
      rw [← hl ci (List.mem_of_getElem? a)]; exact (List.getElem?_eq_some_iff.1 hj).1
    rw [Addr.add_add, Addr.add_lit, Nat.zero_add]
    have hgg : (R.or h) g = some (.cells cur tg (0, 0)) := PH.or_right hd g _ hg
    have h5 := flat_get hl i j ci a hjl
    rw [hj, ← htk, List.getElem?_take] at h5
    split at h5
    · simp [PH.cell, hgg]; simpa using h5
    · cases h5
def evs (fr : List (Nat × Option Value)) : List (Nat × Operand) → Option (List (Nat × Value))
  | [] => some []
  | (i, x) :: r => match ev fr x, evs fr r with | some v, some l => some ((i, v) :: l) | _, _ => none
theorem evs_eval {a : Act} {fr : List (Nat × Option Value)} (hf : Fr a fr) : ∀ {l : List (Nat × Operand)} {r : List (Nat × Value)}, evs fr l = some r → l.map (fun (i, x) => (i, a.eval x)) = r
  | [], r, h => by simp [evs] at h; subst h; rfl
  | (i, x) :: l, r, h => by
    simp only [evs] at h
    split at h
    · rename_i v l' hv hl
      simp at h; subst h
      simp [ev_eval hf hv, evs_eval hf hl]
    · cases h
end
end Go.Proofs.Ytbeendakebamhaa
