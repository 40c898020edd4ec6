/- The engine: rules for stepping through code. No statement of the seat is proved here; no condition. -/
import Derived.Test.YtlofegfaphijpaaGe1
import Derived.Laws.Pointers
import Derived.LoopN
import Derived.MapKept
import Derived.KernelRfl
section
namespace Go.Proofs.Ytlofegfaphijpaa

/-! ## parts that are parted and joined -/
theorem PH.disj_le {h h1 g : PH} (hl : h1.le h) (hd : h.disj g) : h1.disj g := fun b => by
  cases hb : h1 b with
  | none => exact .inl rfl
  | some o =>
    rcases hd b with q | q
    · rw [hl b o hb] at q; cases q
    · exact .inr q
theorem PH.disj_or {h1 h2 g : PH} (a : h1.disj g) (b : h2.disj g) : (h1.or h2).disj g := fun x => by
  rcases a x with q | q
  · rcases b x with q' | q'
    · left; simp [PH.or, q, q']
    · exact .inr q'
  · exact .inr q
def PH.minus (h g : PH) : PH := fun b => match g b with | some _ => none | none => h b
theorem PH.minus_le {h g : PH} : (h.minus g).le h := fun b o hb => by
  unfold PH.minus at hb
  cases hg : g b with
  | some _ => rw [hg] at hb; cases hb
  | none => rw [hg] at hb; exact hb
theorem PH.minus_disj {h g : PH} : (h.minus g).disj g := fun b => by
  unfold PH.minus
  cases hg : g b with
  | some _ => exact .inl rfl
  | none => exact .inr rfl
theorem PH.le_minus {h g k : PH} (hl : k.le h) (hd : k.disj g) : k.le (h.minus g) := fun b o hb => by
  unfold PH.minus
  rcases hd b with q | q
  · rw [q] at hb; cases hb
  · rw [q]; exact hl b o hb
theorem HSat.split {R0 : PH} {w0 : World} {B : Nat → Prop} {own : List (Option Res)} {shr : List Fact} {w : World} (h : HSat R0 w0 B own shr w) {i : Nat} {r : Res} (hi : own[i]? = some (some r)) {α : Type} {r1 r2 : α → Res} {F : α → List Fact}
    (hsp : ∀ R h, (∀ G ∈ shr, G.p R) → r.p R h → ∃ x h1 h2, h1.disj h2 ∧ h1.le h ∧ h2.le h ∧ (r1 x).p R h1 ∧ (r2 x).p R h2 ∧ ∀ G ∈ F x, G.p R) :
    ∃ x, HSat R0 w0 B (own.set i (some (r1 x)) ++ [some (r2 x)]) (shr ++ F x) w := by
  obtain ⟨R, hs, hw⟩ := h
  obtain ⟨x, h1, h2, hd, l1, l2, p1, p2, hF⟩ := hsp R (hs i) hw.sh (hw.ow i r hi)
  have hil : i < own.length := (List.getElem?_eq_some_iff.1 hi).1
  refine ⟨x, R, fun j => if j = i then h1 else if j = own.length then h2 else hs j, hw.r0, hw.rw_, ?_, ?_, ?_, ?_, ?_, ?_, hw.rnew, hw.size, hw.keep, hw.os, hw.tape, hw.output⟩
  · intro G hG
    rcases List.mem_append.1 hG with q | q
    · exact hw.sh G q
    · exact hF G q
  · intro j q hj
    by_cases e : j = i
    · subst e
      rw [List.getElem?_append_left (by simpa using hil)] at hj
      simp [hil] at hj; subst hj
      simp only [if_true]; exact p1
    · by_cases e2 : j = own.length
      · subst e2
        rw [List.getElem?_append_right (by simp)] at hj
        simp at hj; subst hj
        simp only [e, if_true, if_false]; exact p2
      · simp only [e, e2, if_false]
        rcases Nat.lt_or_ge j own.length with hlt | hge
        · rw [List.getElem?_append_left (by simpa using hlt), List.getElem?_set_ne (fun q => e q.symm)] at hj
          exact hw.ow j q hj
        · rw [List.getElem?_eq_none (by simp; omega)] at hj; cases hj
  · intro j
    by_cases e : j = i
    · simp only [e, if_true]; exact fun b o hb => hw.hw i b o (l1 b o hb)
    · by_cases e2 : j = own.length
      · simp only [e2, if_true]
        rw [if_neg (by omega)]
        exact fun b o hb => hw.hw i b o (l2 b o hb)
      · simp only [e, e2, if_false]; exact hw.hw j
  · intro j l hjl
    by_cases e : j = i
    · subst e
      simp only [if_true]
      rw [if_neg (fun q => hjl q.symm)]
      by_cases e2 : l = own.length
      · simp only [e2, if_true]; exact hd
      · simp only [e2, if_false]; exact PH.disj_le l1 (hw.dj j l hjl)
    · rw [if_neg e]
      by_cases e2 : j = own.length
      · rw [if_pos e2]
        by_cases e3 : l = i
        · rw [if_pos e3]; exact PH.disj_comm hd
        · rw [if_neg e3, if_neg (by omega)]; exact PH.disj_le l2 (hw.dj i l (fun q => e3 q.symm))
      · rw [if_neg e2]
        by_cases e3 : l = i
        · rw [if_pos e3]; exact PH.disj_comm (PH.disj_le l1 (hw.dj i j (fun q => e q.symm)))
        · rw [if_neg e3]
          by_cases e4 : l = own.length
          · rw [if_pos e4]; exact PH.disj_comm (PH.disj_le l2 (hw.dj i j (fun q => e q.symm)))
          · rw [if_neg e4]; exact hw.dj j l hjl
  · intro j
    by_cases e : j = i
    · rw [if_pos e]; exact PH.disj_comm (PH.disj_le l1 (PH.disj_comm (hw.rd i)))
    · rw [if_neg e]
      by_cases e2 : j = own.length
      · rw [if_pos e2]; exact PH.disj_comm (PH.disj_le l2 (PH.disj_comm (hw.rd i)))
      · rw [if_neg e2]; exact hw.rd j
  · intro j b o hb
    by_cases e : j = i
    · rw [if_pos e] at hb; exact hw.new i b o (l1 b o hb)
    · rw [if_neg e] at hb
      by_cases e2 : j = own.length
      · rw [if_pos e2] at hb; exact hw.new i b o (l2 b o hb)
      · rw [if_neg e2] at hb; exact hw.new j b o hb
theorem HSat.merge {R0 : PH} {w0 : World} {B : Nat → Prop} {own : List (Option Res)} {shr : List Fact} {w : World} (h : HSat R0 w0 B own shr w) {i j : Nat} {r r1 r2 : Res} (hij : Nat.beq i j = false) (hi : own[i]? = some (some r1)) (hj : own[j]? = some (some r2))
    (hm : ∀ R h1 h2, (∀ G ∈ shr, G.p R) → h1.disj h2 → r1.p R h1 → r2.p R h2 → r.p R (h1.or h2)) : HSat R0 w0 B ((own.set i (some r)).set j none) shr w := by
  obtain ⟨R, hs, hw⟩ := h
  have hne : i ≠ j := Nat.ne_of_beq_eq_false hij
  have hil : i < own.length := (List.getElem?_eq_some_iff.1 hi).1
  have hjl : j < own.length := (List.getElem?_eq_some_iff.1 hj).1
  have hp := hm R (hs i) (hs j) hw.sh (hw.dj i j hne) (hw.ow i _ hi) (hw.ow j _ hj)
  refine ⟨R, fun k => if k = i then (hs i).or (hs j) else if k = j then PH.emp else hs k, hw.r0, hw.rw_, hw.sh, ?_, ?_, ?_, ?_, ?_, hw.rnew, hw.size, hw.keep, hw.os, hw.tape, hw.output⟩
  · intro k q hk
    by_cases e : k = i
    · subst e
      rw [List.getElem?_set_ne (fun q => hne q.symm)] at hk
      simp [hil] at hk; subst hk
      simp only [if_true]; exact hp
    · rw [if_neg e]
      by_cases e2 : k = j
      · subst e2; simp [hjl] at hk
      · rw [if_neg e2]
        rw [List.getElem?_set_ne (fun q => e2 q.symm), List.getElem?_set_ne (fun q => e q.symm)] at hk
        exact hw.ow k q hk
  · intro k
    by_cases e : k = i
    · rw [if_pos e]; exact fun b o hb => by
        rcases PH.or_some hb with q | q
        · exact hw.hw i b o q
        · exact hw.hw j b o q
    · rw [if_neg e]
      by_cases e2 : k = j
      · rw [if_pos e2]; intro b o hb; cases hb
      · rw [if_neg e2]; exact hw.hw k
  · intro k l hkl
    by_cases e : k = i
    · rw [if_pos e, if_neg (by omega)]
      by_cases e2 : l = j
      · rw [if_pos e2]; exact fun b => .inr rfl
      · rw [if_neg e2]; exact PH.disj_or (hw.dj i l (by omega)) (hw.dj j l (by omega))
    · rw [if_neg e]
      by_cases e2 : k = j
      · rw [if_pos e2]; exact fun b => .inl rfl
      · rw [if_neg e2]
        by_cases e3 : l = i
        · rw [if_pos e3]; exact PH.disj_comm (PH.disj_or (hw.dj i k (by omega)) (hw.dj j k (by omega)))
        · rw [if_neg e3]
          by_cases e4 : l = j
          · rw [if_pos e4]; exact fun b => .inr rfl
          · rw [if_neg e4]; exact hw.dj k l hkl
  · intro k
    by_cases e : k = i
    · rw [if_pos e]; exact PH.disj_comm (PH.disj_or (PH.disj_comm (hw.rd i)) (PH.disj_comm (hw.rd j)))
    · rw [if_neg e]
      by_cases e2 : k = j
      · rw [if_pos e2]; exact fun b => .inr rfl
      · rw [if_neg e2]; exact hw.rd k
  · intro k b o hb
    by_cases e : k = i
    · rw [if_pos e] at hb
      rcases PH.or_some hb with q | q
      · exact hw.new i b o q
      · exact hw.new j b o q
    · rw [if_neg e] at hb
      by_cases e2 : k = j
      · rw [if_pos e2] at hb; cases hb
      · rw [if_neg e2] at hb; exact hw.new k b o hb
theorem HSat.free {R0 : PH} {w0 : World} {B : Nat → Prop} {own : List (Option Res)} {shr : List Fact} {w : World} (h : HSat R0 w0 B own shr w) (r : Res) (hr : ∀ R, r.p R PH.emp) : HSat R0 w0 B (own ++ [some r]) shr w := by
  obtain ⟨R, hs, hw⟩ := h
  refine ⟨R, _, hw.upd own.length PH.emp (fun _ _ _ => rfl) (Nat.le_refl _) (fun b o' hb => by cases hb) (fun b o' hb => by cases hb) rfl rfl rfl ?_⟩
  intro j r' hj
  by_cases e : j = own.length
  · subst e; simp at hj; subst hj; exact .inl ⟨rfl, hr R⟩
  · right; refine ⟨e, ?_⟩
    rcases Nat.lt_or_ge j own.length with hlt | hge
    · rwa [List.getElem?_append_left hlt] at hj
    · rw [List.getElem?_eq_none (by simp; omega)] at hj; cases hj

def EX {α : Type} (c : Cx) (s : St) (f : α → St) : Prop := ∀ a w, Sat c s a w → ∃ x, Sat c (f x) a w
section
variable {c : Cx} {k : List Item} {s s' : St} {ops : Array Oper} {rest : List Oper} {lo : Nat} {α : Type} {f : α → St}
end

/-! ## rows of rows -/
def valS : Shape Value := ⟨1, false, fun _ cs x => cs = [x] ∧ x.oneCell' = true, fun _ h => h, fun ⟨e, _⟩ => by subst e; rfl, fun ⟨e, h⟩ u hu => by subst e; simp at hu; subst hu; exact h⟩
theorem val_css {R : PH} : ∀ {css : List (List Value)} {vs : List Value}, css.length = vs.length → (∀ (i : Nat) (ci : List Value) (x : Value), css[i]? = some ci → vs[i]? = some x → valS.rel R ci x) → css.flatten = vs ∧ ∀ x ∈ vs, x.oneCell' = true
  | [], [], _, _ => ⟨rfl, fun x h => by cases h⟩
  | [], _ :: _, h, _ => by simp at h
  | _ :: _, [], h, _ => by simp at h
  | ci :: css, x :: vs, h, hr => by
    obtain ⟨e1, e2⟩ := hr 0 ci x rfl rfl
    obtain ⟨ih1, ih2⟩ := val_css (R := R) (css := css) (vs := vs) (by simpa using h) (fun i ci x a b => hr (i + 1) ci x a b)
    subst e1
    refine ⟨by simp [ih1], fun y hy => ?_⟩
    rcases List.mem_cons.1 hy with q | q
    · subst q; exact e2
    · exact ih2 y q
theorem RowRel.mono {τ : Type} {S : Shape τ} {R R' h : PH} (hl : R.le R') {v : Value} {xs : List τ} (hr : RowRel S R h v xs) : RowRel S R' h v xs := (rowS S v xs).mono hl hr
theorem RowRel.le {τ : Type} {S : Shape τ} {R h h' : PH} (hl : h.le h') {v : Value} {xs : List τ} (hr : RowRel S R h v xs) : RowRel S R h' v xs := by
  obtain ⟨css, h1, h2, h3⟩ := hr
  refine ⟨css, h1, h2, ?_⟩
  rcases h3 with q | ⟨g, cap, cur, tg, a1, a2, a3⟩
  · exact .inl q
  · exact .inr ⟨g, cap, cur, tg, a1, hl _ _ a2, a3⟩

structure RowsP {τ : Type} (S : Shape τ) (nn : Bool) (v : Value) (vs : List Value) (bs : List (List τ)) (ex : Option (Nat × Value)) (R h h0 : PH) (hs : Nat → PH) : Prop where
  out : RowRel valS R h0 v vs
  nn : nn = true → ∃ a n c, v = .slice (some a) n c
  len : vs.length = bs.length
  l0 : h0.le h
  ls : ∀ i, ex.map (·.1) ≠ some i → (hs i).le h
  d0 : ∀ i, ex.map (·.1) ≠ some i → h0.disj (hs i)
  ds : ∀ i j, i ≠ j → ex.map (·.1) ≠ some i → ex.map (·.1) ≠ some j → (hs i).disj (hs j)
  row : ∀ (i : Nat) (v' : Value) (xs : List τ), ex.map (·.1) ≠ some i → vs[i]? = some v' → bs[i]? = some xs → RowRel S R (hs i) v' xs
  hol : ∀ p, ex = some p → vs[p.1]? = some p.2
def QV {τ : Type} (S : Shape τ) (nn : Bool) (v : Value) (vs : List Value) (bs : List (List τ)) (ex : Option (Nat × Value)) : Res :=
  ⟨fun R h => ∃ h0 hs, RowsP S nn v vs bs ex R h h0 hs, fun hl ⟨h0, hs, p⟩ => ⟨h0, hs, p.out.mono hl, p.nn, p.len, p.l0, p.ls, p.d0, p.ds, fun i v' xs a b d => (p.row i v' xs a b d).mono hl, p.hol⟩⟩

section
variable {c : Cx} {k : List Item} {s : St} {ops : Array Oper} {rest : List Oper} {o : Oper} {fr : List (Nat × Option Value)} {own : List (Option Res)} {shr : List Fact} {d : Nat} {τ σ : Type} {S : Shape τ} {nn : Bool} {v : Value} {vs : List Value} {bs : List (List τ)} {ex : Option (Nat × Value)}

theorem ex_focus {i : Nat} {j : Int} {xs : List τ} (hi : own[i]? = some (some (QV S nn v vs bs none))) (hj : ix bs j = some xs) :
    EX c ⟨fr, own, shr⟩ (fun u => ⟨fr, own.set i (some (QV S nn v vs bs (some (j.toNat, u)))) ++ [some (rowS S u xs)], shr⟩) := fun a w hs => by
  obtain ⟨_, _, hb⟩ := ix_some hj
  obtain ⟨x, hx⟩ := hs.2.2.2.split hi (r1 := fun u => QV S nn v vs bs (some (j.toNat, u))) (r2 := fun u => rowS S u xs) (F := fun _ => []) (by
    rintro R h _ ⟨h0, hh, p⟩
    have hlt : j.toNat < vs.length := by rw [p.len]; exact (List.getElem?_eq_some_iff.1 hb).1
    have hv := List.getElem?_eq_getElem hlt
    refine ⟨vs[j.toNat], h.minus (hh j.toNat), hh j.toNat, PH.minus_disj, PH.minus_le, p.ls _ (by simp), ⟨h0, hh, p.out, p.nn, p.len, PH.le_minus p.l0 (p.d0 _ (by simp)), ?_, ?_, ?_, ?_, ?_⟩, p.row _ _ _ (by simp) hv hb, fun G h => by cases h⟩
    · intro q hq; exact PH.le_minus (p.ls q (by simp)) (p.ds q _ (fun e => hq (by simp [e])) (by simp) (by simp))
    · intro q _; exact p.d0 q (by simp)
    · intro q q' a _ _; exact p.ds q q' a (by simp) (by simp)
    · intro q v' ys _ a b; exact p.row q v' ys (by simp) a b
    · intro p' e; cases e; exact hv)
  rw [List.append_nil] at hx
  exact ⟨x, hs.1, hs.2.1, hs.2.2.1, hx⟩
theorem vs_unfocus {i q : Nat} {m : Nat} {u : Value} {xs : List τ} (hi : own[i]? = some (some (QV S nn v vs bs (some (m, u))))) (hq : own[q]? = some (some (rowS S u xs))) (hiq : Nat.beq i q = false) :
    VS c ⟨fr, own, shr⟩ ⟨fr, (own.set i (some (QV S nn v vs (bs.set m xs) none))).set q none, shr⟩ := fun a w hs => by
  refine ⟨hs.1, hs.2.1, hs.2.2.1, hs.2.2.2.merge hiq hi hq ?_⟩
  rintro R h1 h2 _ hd ⟨h0, hh, p⟩ hr
  refine ⟨h0, fun j => if j = m then h2 else hh j, p.out, p.nn, by simpa using p.len, PH.le_trans p.l0 PH.or_left, ?_, ?_, ?_, ?_, fun p' e => by cases e⟩
  · intro j _
    by_cases e : j = m
    · rw [if_pos e]; exact PH.or_right hd
    · rw [if_neg e]; exact PH.le_trans (p.ls j (fun e' => e (by simpa using e'.symm))) PH.or_left
  · intro j _
    by_cases e : j = m
    · rw [if_pos e]; exact PH.disj_le p.l0 hd
    · rw [if_neg e]; exact p.d0 j (fun e' => e (by simpa using e'.symm))
  · intro j l hjl _ _
    by_cases e : j = m
    · rw [if_pos e, if_neg (by omega)]; exact PH.disj_comm (PH.disj_le (p.ls l (fun e' => hjl (by rw [e]; simpa using e'))) hd)
    · rw [if_neg e]
      by_cases e2 : l = m
      · rw [if_pos e2]; exact PH.disj_le (p.ls j (fun e' => e (by simpa using e'.symm))) hd
      · rw [if_neg e2]; exact p.ds j l hjl (fun e' => e (by simpa using e'.symm)) (fun e' => e2 (by simpa using e'.symm))
  · intro j v' ys _ a1 a2
    by_cases e : j = m
    · rw [if_pos e]
      subst e
      have := p.hol _ rfl
      simp only at this
      rw [a1] at this; cases this
      have hlt : j < bs.length := by rw [← p.len]; exact (List.getElem?_eq_some_iff.1 a1).1
      rw [List.getElem?_set_self hlt] at a2; cases a2
      exact hr
    · rw [if_neg e]
      rw [List.getElem?_set_ne (fun q => e q.symm)] at a2
      exact p.row j v' ys (fun e' => e (by simpa using e'.symm)) a1 a2
theorem rows_val {R h : PH} (hp : (QV S nn v vs bs ex).p R h) : ∃ base cp, v = .slice base bs.length cp := by
  obtain ⟨h0, hh, p⟩ := hp
  rw [← p.len]; exact RowRel.val p.out
theorem is_rows {i : Nat} (hi : own[i]? = some (some (QV S nn v vs bs ex))) : IsSl c ⟨fr, own, shr⟩ v := fun a w hs => by
  obtain ⟨R, hs', hw⟩ := hs.2.2.2
  obtain ⟨base, cp, e⟩ := rows_val (hw.ow i _ hi)
  exact ⟨_, _, _, e⟩
theorem OpT_idxRows {t e : TypeId} {x y : Operand} {i : Nat} {kk : IntKind} {m : Int} {xs : List τ} {b : Nat} {z : Value} (hn : Nat.blt d c.n = true) (hd : o.dst = some d) (ho : o.op = .indexAddr t x y) (hx : ev fr x = some v) (hy : ev fr y = some (.int kk m))
    (ht : SlF c.P t e 1 b z) (hi : own[i]? = some (some (QV S nn v vs bs ex))) (hu : ix bs m = some xs) : OpT c o ⟨fr, own, shr⟩ (fun s => s = ⟨(d, some (ZW v (Int.toNat m * 1))) :: fr, own, shr⟩) :=
  ZI hn hd fun a w hs => by
    obtain ⟨h0, h1, h2⟩ := ix_some hu
    obtain ⟨R, hs', hw⟩ := hs.2.2.2
    obtain ⟨h0', hh, p⟩ := hw.ow i _ hi
    obtain ⟨css, _, _, h3⟩ := p.out
    rcases h3 with ⟨_, hx0⟩ | ⟨g, cap, cur, tg, hv, _⟩
    · have := p.len; rw [hx0] at this; simp at this; omega
    · have h1' : m < (vs.length : Int) := by rw [p.len]; exact h1
      subst hv
      have hun := run_underlying ht.und w
      simp [execOp, ho, QH hs.2.2.1 hx, QH hs.2.2.1 hy, Instr.indexAt, asIntOf, hun, ht.sz, h0, h1', ZW]
theorem val_block {R h : PH} {v : Value} {vs : List Value} (hr : RowRel valS R h v vs) (hne : vs ≠ []) :
    ∃ (g cap : Nat) (cur : Array Value) (tg : TypeId), v = .slice (some ⟨g, 0, none⟩) vs.length cap ∧ h g = some (.cells cur tg (0, 0)) ∧ vs.length ≤ cap ∧ cap ≤ maxLen ∧ cur.size = cap ∧ cur.toList.take vs.length = vs ∧ ∀ x ∈ vs, x.oneCell' = true := by
  obtain ⟨css, h1, h2, h3⟩ := hr
  obtain ⟨e1, e2⟩ := val_css h1 h2
  rcases h3 with ⟨_, hx⟩ | ⟨g, cap, cur, tg, a1, a2, a3, a4, a5, a6⟩
  · exact absurd hx hne
  · refine ⟨g, cap, cur, tg, a1, a2, a3, a4, ?_, ?_, e2⟩
    · simpa [valS] using a5
    · rw [e1] at a6; simpa [valS] using a6
theorem OpT_loadRow {t : TypeId} {x : Operand} {i n : Nat} {m : Int} {u : Value} (hn : Nat.blt d c.n = true) (hd : o.dst = some d) (ho : o.op = .load t x) (hx : ev fr x = some (ZW v (Int.toNat m * 1)))
    (ht : TyF c.P t false n) (hi : own[i]? = some (some (QV S nn v vs bs (some (m.toNat, u))))) : OpT c o ⟨fr, own, shr⟩ (fun s => s = ⟨(d, some u) :: fr, own, shr⟩) :=
  ZI hn hd fun a w hs => by
    obtain ⟨R, hs', hw⟩ := hs.2.2.2
    obtain ⟨h0', hh, p⟩ := hw.ow i _ hi
    have hu : vs[m.toNat]? = some u := p.hol _ rfl
    have hne : vs ≠ [] := by intro e; subst e; simp at hu
    obtain ⟨g, cap, cur, tg, a1, a2, a3, a4, a5, a6, _⟩ := val_block p.out hne
    have hb := hw.hw i g _ (p.l0 _ _ a2)
    have hc : cur[m.toNat]? = some u := by
      rw [← a6, List.getElem?_take] at hu
      split at hu
      · simpa using hu
      · cases hu
    have hcell : w.cell? ⟨g, m.toNat, none⟩ = some u := by rw [cell_of_row w g _ cur tg (0, 0) hb]; exact hc
    have e := QH hs.2.2.1 hx
    rw [a1] at e
    simp only [ZW, Addr.add_lit, Nat.zero_add, Nat.mul_one] at e
    simp [execOp, ho, e, Instr.loadAt, Instr.sureAddr, loadVar, ht.ag, hcell]
theorem OpT_eqRows {t e : TypeId} {x y : Operand} {t2 : TypeId} {op : BinOp} {i : Nat} (hn : Nat.blt d c.n = true) (hd : o.dst = some d) (ho : o.op = .binOp op t x y t2) (hop : op = .eql ∨ op = .neq) (hx : ev fr x = some v) (hy : ev fr y = some (.slice none 0 0)) (ht : c.P.underlying t = some (.slice e))
    (hi : own[i]? = some (some (QV S true v vs bs ex))) : OpT c o ⟨fr, own, shr⟩ (fun s => s = ⟨(d, some (.bool (nilB op false))) :: fr, own, shr⟩) := fun a w hs => by
  obtain ⟨R, hs', hw⟩ := hs.2.2.2
  obtain ⟨h0', hh, p⟩ := hw.ow i _ hi
  obtain ⟨ad, n, cp, e1⟩ := p.nn rfl
  subst e1
  exact Qf hn hd ho hx hy (run_eqNil (base := some ad) hop ht) a w hs
theorem OpT_eqSub {t e : TypeId} {x y : Operand} {t2 : TypeId} {op : BinOp} {i : Nat} {u : Value} {xs : List τ} {l m : Int} (hn : Nat.blt d c.n = true) (hd : o.dst = some d) (ho : o.op = .binOp op t x y t2) (hop : op = .eql ∨ op = .neq) (hx : ev fr x = some (subV u S.sz l.toNat m.toNat)) (hy : ev fr y = some (.slice none 0 0)) (ht : c.P.underlying t = some (.slice e))
    (hi : own[i]? = some (some (rowS S u xs))) (hc : decide (0 ≤ l ∧ l ≤ m ∧ m ≤ len xs) = true) (hlt : decide (l < m) = true) : OpT c o ⟨fr, own, shr⟩ (fun s => s = ⟨(d, some (.bool (nilB op false))) :: fr, own, shr⟩) := fun a w hs => by
  obtain ⟨R, hs', hw⟩ := hs.2.2.2
  obtain ⟨h0, h1, h2⟩ : 0 ≤ l ∧ l ≤ m ∧ m ≤ len xs := by simpa using hc
  have h3 : l < m := by simpa using hlt
  unfold len at h2
  obtain ⟨css, _, _, h4⟩ := hw.ow i _ hi
  rcases h4 with ⟨_, hx0⟩ | ⟨g, cap, cur, tg, hv, _⟩
  · subst hx0; simp at h2; omega
  · subst hv
    have e1 : ∃ ad, subV (.slice (some ⟨g, 0, none⟩) xs.length cap) S.sz l.toNat m.toNat = .slice (some ad) (m.toNat - l.toNat) (cap - l.toNat) := by
      show ∃ ad, Value.slice (if cap = l.toNat then some ⟨g, 0, none⟩ else _) _ _ = _
      by_cases e : cap = l.toNat
      · rw [if_pos e]; exact ⟨_, rfl⟩
      · rw [if_neg e]; exact ⟨_, rfl⟩
    obtain ⟨ad, e1⟩ := e1
    rw [e1] at hx
    exact Qf hn hd ho hx hy (run_eqNil (base := some ad) hop ht) a w hs
theorem OpT_storeRow {t : TypeId} {x y : Operand} {i q : Nat} {m : Int} {u : Value} {xs xs0 : List τ} {ag : Bool} (hd : o.dst = none) (ho : o.op = .store t x y) (hx : ev fr x = some (ZW v (Int.toNat m * 1))) (hy : ev fr y = some u)
    (ht : TyF c.P t ag 1) (hi : own[i]? = some (some (QV S nn v vs bs none))) (hq : own[q]? = some (some (rowS S u xs))) (hiq : Nat.beq i q = false) (hu : ix bs m = some xs0) :
    OpT c o ⟨fr, own, shr⟩ (fun s => ∃ vs', s = ⟨fr, (own.set i (some (QV S nn v vs' (bs.set m.toNat xs) none))).set q none, shr⟩) := by
  have hil : i < own.length := (List.getElem?_eq_some_iff.1 hi).1
  have h1 : OpT c o ⟨fr, own, shr⟩ (fun s => s = ⟨fr, own.set i (some (QV S nn v (vs.set m.toNat u) bs (some (m.toNat, u)))), shr⟩) := by
    refine OpT_skipRun hd fun a w hs => ?_
    obtain ⟨h0, h1, h2⟩ := ix_some hu
    obtain ⟨R, hs', hw⟩ := hs.2.2.2
    obtain ⟨h0', hh, p⟩ := hw.ow i _ hi
    have hmv : m.toNat < vs.length := by rw [p.len]; exact (List.getElem?_eq_some_iff.1 h2).1
    have hne : vs ≠ [] := by intro e; subst e; simp at hmv
    obtain ⟨g, cap, cur, tg, a1, a2, a3, a4, a5, a6, a7⟩ := val_block p.out hne
    obtain ⟨base, cp, eu⟩ := RowRel.val (hw.ow q _ hq)
    have hucl : u.cells = #[u] := by subst eu; rfl
    have huone : u.oneCell' = true := by subst eu; rfl
    have hb := hw.hw i g _ (p.l0 _ _ a2)
    have hst := run_storeCells_at c.P g m.toNat tg [u] 0 cur w hb (by simp; omega) (by intro z hz; simp at hz; subst hz; exact huone)
    simp only [Nat.add_zero, List.length_singleton] at hst
    have e := QH hs.2.2.1 hx
    rw [a1] at e
    simp only [ZW, Addr.add_lit, Nat.zero_add, Nat.mul_one] at e
    have hset : cur.toList.take m.toNat ++ [u] ++ cur.toList.drop (m.toNat + 1) = cur.toList.set m.toNat u := by
      rw [List.set_eq_take_append_cons_drop, if_pos (by simp; omega)]; simp
    rw [hset] at hst
    refine ⟨w.setRow g (cur.toList.set m.toNat u).toArray, ?_, ?_⟩
    · simp [execOp, ho, e, QH hs.2.2.1 hy, Instr.storeAt, Instr.sureAddr, storeVar, ht.sz, hucl, hst]
    · have hb' := setRow_heap w g cur (cur.toList.set m.toNat u).toArray tg (0, 0) hb
      refine ⟨R, _, hw.upd i (fun b => if b = g then some (.cells (cur.toList.set m.toNat u).toArray tg (0, 0)) else hs' i b) ?_ (by simp) ?_ ?_ rfl rfl rfl (own_set ?_)⟩
      · intro b _ hb2
        by_cases eq : b = g
        · subst eq; rw [p.l0 _ _ a2] at hb2; cases hb2
        · exact setRow_other w g b _ eq
      · intro b o' hb1
        by_cases eq : b = g
        · subst eq; simp at hb1; subst hb1; exact hb'
        · simp only [eq, if_false] at hb1
          rw [setRow_other w g b _ eq]; exact hw.hw i b o' hb1
      · intro b o' hb1
        by_cases eq : b = g
        · subst eq; left; rw [p.l0 _ _ a2]; simp
        · simp only [eq, if_false] at hb1; left; rw [hb1]; simp
      · refine ⟨fun b => if b = g then some (.cells (cur.toList.set m.toNat u).toArray tg (0, 0)) else h0' b, hh, ⟨(vs.set m.toNat u).map fun x => [x], by simp, ?_, .inr ⟨g, cap, (cur.toList.set m.toNat u).toArray, tg, by rw [a1]; simp, by simp, by simpa using a3, a4, by simp [a5, valS], ?_⟩⟩, p.nn, by simpa using p.len, ?_, ?_, ?_, ?_, ?_, ?_⟩
        · intro j ci z q1 q2
          simp only [List.getElem?_map, q2, Option.map_some, Option.some.injEq] at q1
          refine ⟨q1.symm, ?_⟩
          rcases List.mem_or_eq_of_mem_set (List.mem_of_getElem? q2) with q3 | q3
          · exact a7 z q3
          · subst q3; exact huone
        · rw [show (List.map (fun x => [x]) (vs.set m.toNat u)).flatten = vs.set m.toNat u from by rw [← List.flatMap_def]; simp]
          simp only [valS, Nat.mul_one, List.length_set]
          rw [List.take_set, a6]
        · intro b o' hb1
          by_cases eq : b = g
          · subst eq; simpa using hb1
          · simp only [eq, if_false] at hb1 ⊢; exact p.l0 b o' hb1
        · intro j _ b o' hb1
          have hl := p.ls j (by simp) b o' hb1
          by_cases eq : b = g
          · subst eq
            rcases p.d0 j (by simp) b with q3 | q3
            · rw [a2] at q3; cases q3
            · rw [q3] at hb1; cases hb1
          · simp only [eq, if_false]; exact hl
        · intro j _ b
          by_cases eq : b = g
          · subst eq
            rcases p.d0 j (by simp) b with q3 | q3
            · rw [a2] at q3; cases q3
            · exact .inr q3
          · simp only [eq, if_false]; exact p.d0 j (by simp) b
        · intro j l hjl _ _; exact p.ds j l hjl (by simp) (by simp)
        · intro j v' ys hj q1 q2
          rw [List.getElem?_set_ne (fun e' => hj (by simp [e']))] at q1
          exact p.row j v' ys (by simp) q1 q2
        · intro p' e'; cases e'; exact List.getElem?_set_self hmv
  refine h1.vs ?_
  rintro x rfl
  refine ⟨_, ⟨vs.set m.toNat u, rfl⟩, ?_⟩
  have hne : i ≠ q := Nat.ne_of_beq_eq_false hiq
  have h2 := vs_unfocus (c := c) (fr := fr) (shr := shr) (own := own.set i (some (QV S nn v (vs.set m.toNat u) bs (some (m.toNat, u))))) (i := i) (q := q) (m := m.toNat) (u := u) (xs := xs) (S := S) (nn := nn) (v := v) (vs := vs.set m.toNat u) (bs := bs) (by simp [hil]) (by rw [List.getElem?_set_ne hne]; exact hq) hiq
  rw [List.set_set] at h2
  exact h2
end

/-! ## what is made -/
section
variable {c : Cx} {k : List Item} {s : St} {ops : Array Oper} {rest : List Oper} {o : Oper} {fr : List (Nat × Option Value)} {own : List (Option Res)} {shr : List Fact} {d : Nat} {τ σ : Type}
theorem OpT_makeK (S : Shape τ) {cells : τ → List Value} {sz : Nat} {ag : Bool} {hl : ∀ x, (cells x).length = sz} {hone : ∀ x, (cells x).all (·.oneCell') = true} (hS : S = Shape.plain sz ag cells hl hone) {t e : TypeId} {x y : Operand} {l m : Int} {kl km : IntKind} {b : Nat} {z : Value} {u : τ} (hn : Nat.blt d c.n = true) (hd : o.dst = some d) (ho : o.op = .makeSlice t x y) (hx : ev fr x = some (.int kl l)) (hy : ev fr y = some (.int km m))
    (ht : SlF c.P t e sz b z) (hz : z.cells.toList = cells u) (hok : decide (0 ≤ l ∧ l ≤ m ∧ (b : Int) * m ≤ 140737488355328) = true) :
    OpT c o ⟨fr, own, shr⟩ (fun s => ∃ v, s = ⟨(d, some v) :: fr, own ++ [some (rowS S v (List.replicate l.toNat u))], shr⟩) := by
  subst hS
  exact Kn hn hd fun a w hs => by
    obtain ⟨h0, h1, h2⟩ : 0 ≤ l ∧ l ≤ m ∧ (b : Int) * m ≤ 140737488355328 := by simpa using hok
    obtain ⟨ti, hti, htz, hsz, hb⟩ := ht.info
    have hbp := ht.bpos
    have hm : m ≤ 140737488355328 := by
      have h3 : m ≤ (b : Int) * m := by
        have h4 : (1 : Int) ≤ (b : Int) := by omega
        have := Int.mul_le_mul_of_nonneg_right h4 (show 0 ≤ m by omega)
        omega
      omega
    have hr := run_make (P := c.P) w t e ti z ht.und hti htz kl km l m h0 h1 (by rw [hb]; omega) (by omega)
    have hzc : z.cells = (cells u).toArray := by rw [← hz]
    rw [hsz, hzc] at hr
    have hlen : (List.replicate l.toNat u).length = l.toNat := by simp
    refine ⟨.slice (some ⟨w.heap.size, 0, none⟩) l.toNat m.toNat, w.alloc (.cells (madeCells (cells u).toArray (m.toNat * sz)) e), .slice (some ⟨w.heap.size, 0, none⟩) l.toNat m.toNat, by simp [execOp, ho, QH hs.2.2.1 hx, QH hs.2.2.1 hy, hr], rfl, ?_⟩
    have hcl : (cells u).length = sz := hl u
    have hmc := madeCells_flat (z := cells u) m.toNat (by rw [hcl]; exact ht.pos)
    rw [hcl] at hmc
    have := HSat.newrow (S := Shape.plain sz ag cells hl hone) (own := own) (shr := shr) hs.2.2.2 (madeCells (cells u).toArray (m.toNat * sz)) e (List.replicate l.toNat u) (List.replicate l.toNat (cells u)) m.toNat (by simp)
      (fun R _ _ i ci x q1 q2 => by
        rw [List.getElem?_replicate] at q1 q2
        split at q1
        · rename_i hlt; rw [if_pos hlt] at q2; simp at q1 q2; subst q1; subst q2; rfl
        · cases q1) (by simp; omega) (by unfold maxLen; omega) (by simp [size_madeCells, Shape.plain]) (by
        have hsplit : m.toNat = l.toNat + (m.toNat - l.toNat) := by omega
        rw [hmc, hlen]
        show List.take (l.toNat * sz) _ = _
        rw [hsplit, ← List.replicate_append_replicate, List.flatten_append, List.take_left']
        rw [XV (sz := sz) (fun ci h => by rw [(List.mem_replicate.1 h).2, hcl])]; simp)
    rw [hlen] at this
    exact this
theorem OpT_makeRows (S : Shape τ) {t e : TypeId} {x y : Operand} {l m : Int} {kl km : IntKind} {b : Nat} (hn : Nat.blt d c.n = true) (hd : o.dst = some d) (ho : o.op = .makeSlice t x y) (hx : ev fr x = some (.int kl l)) (hy : ev fr y = some (.int km m))
    (ht : SlF c.P t e 1 b (.slice none 0 0)) (hok : decide (0 ≤ l ∧ l ≤ m ∧ (b : Int) * m ≤ 140737488355328) = true) :
    OpT c o ⟨fr, own, shr⟩ (fun s => ∃ v vs, s = ⟨(d, some v) :: fr, own ++ [some (QV S true v vs (List.replicate l.toNat []) none)], shr⟩) := by
  have hz : (Value.slice none 0 0).cells.toList = [Value.slice none 0 0] := rfl
  refine fun a w hs K Q hK => ?_
  have main : OpT c o ⟨fr, own, shr⟩ (fun s => ∃ x : Value × List Value, s = ⟨(d, some x.1) :: fr, own ++ [some (QV S true x.1 x.2 (List.replicate l.toNat []) none)], shr⟩) :=
    Kn (f := fun x : Value × List Value => ⟨(d, some x.1) :: fr, own ++ [some (QV S true x.1 x.2 (List.replicate l.toNat []) none)], shr⟩) hn hd fun a w hs => by
      obtain ⟨h0, h1, h2⟩ : 0 ≤ l ∧ l ≤ m ∧ (b : Int) * m ≤ 140737488355328 := by simpa using hok
      obtain ⟨ti, hti, htz, hsz, hb⟩ := ht.info
      have hbp := ht.bpos
      have hm : m ≤ 140737488355328 := by
        have h3 : m ≤ (b : Int) * m := by
          have h4 : (1 : Int) ≤ (b : Int) := by omega
          have := Int.mul_le_mul_of_nonneg_right h4 (show 0 ≤ m by omega)
          omega
        omega
      have hr := run_make (P := c.P) w t e ti _ ht.und hti htz kl km l m h0 h1 (by rw [hb]; omega) (by omega)
      rw [hsz, Nat.mul_one] at hr
      have hmc := madeCells_flat (z := [Value.slice none 0 0]) m.toNat (by simp)
      simp only [List.length_singleton, Nat.mul_one] at hmc
      have hsz2 : (madeCells (Value.slice none 0 0).cells m.toNat).size = m.toNat := by simp [size_madeCells]
      refine ⟨.slice (some ⟨w.heap.size, 0, none⟩) l.toNat m.toNat, _, (.slice (some ⟨w.heap.size, 0, none⟩) l.toNat m.toNat, List.replicate l.toNat (.slice none 0 0)), by simp [execOp, ho, QH hs.2.2.1 hx, QH hs.2.2.1 hy, hr]; rfl, rfl, ?_⟩
      refine hs.2.2.2.alloc _ _ fun R _ _ => ?_
      refine ⟨PH.one w.heap.size (.cells (madeCells (Value.slice none 0 0).cells m.toNat) e), fun _ => PH.emp, ⟨?_, fun _ => ⟨_, _, _, rfl⟩, by simp, PH.le_refl _, fun _ _ b o h => (by cases h), fun _ _ b => .inr rfl, fun _ _ _ _ _ b => .inr rfl, ?_, fun _ h => (by cases h)⟩⟩
      · refine ⟨List.replicate l.toNat [Value.slice none 0 0], by simp, ?_, .inr ⟨w.heap.size, m.toNat, _, e, by simp, PH.one_self _ _, by simp; omega, by unfold maxLen; omega, by rw [hsz2]; simp [valS], ?_⟩⟩
        · intro i ci x q1 q2
          rw [List.getElem?_replicate] at q1 q2
          split at q1
          · rename_i hlt; rw [if_pos hlt] at q2; simp at q1 q2; subst q1; subst q2; exact ⟨rfl, rfl⟩
          · cases q1
        · have hsplit : m.toNat = l.toNat + (m.toNat - l.toNat) := by omega
          rw [show (madeCells (Value.slice none 0 0).cells m.toNat).toList = _ from hmc, hsplit, ← List.replicate_append_replicate, List.flatten_append, List.take_left']
          simp [valS, List.length_flatten]
      · intro i v' xs _ q1 q2
        rw [List.getElem?_replicate] at q1 q2
        split at q1
        · rename_i hlt; rw [if_pos hlt] at q2; simp at q1 q2; subst q1; subst q2
          exact ⟨[], rfl, fun i ci x h => by simp at h, .inl ⟨rfl, rfl⟩⟩
        · cases q1
  refine main a w hs K Q ?_
  rintro x ⟨⟨p, q⟩, rfl⟩
  exact hK _ ⟨p, q, rfl⟩
end
end Go.Proofs.Ytlofegfaphijpaa

end

section
namespace Go.Proofs.Ytlofegfaphijpaa

def optR {σ τ ρ : Type} (t : TypeId) (SL : Shape τ) (S : Shape ρ) (nn : Bool) (fl : σ → List τ) (fb : σ → List (List ρ)) (p : Value) (o : Option σ) : Res :=
  ⟨fun R h => match o with
    | none => p = .pointer none
    | some m => ∃ b vl v vs h1 h2, p = .pointer (some ⟨b, 0, none⟩) ∧ h1.disj h2 ∧ h1.le h ∧ h2.le h ∧ (Qm b t [vl, v]).p R h1 ∧ (QV S nn v vs (fb m) none).p R h2 ∧ SliceRel SL R vl (fl m),
   fun {R R' h} hl hp => by
    cases o with
    | none => exact hp
    | some m =>
      obtain ⟨b, vl, v, vs, h1, h2, e, d, l1, l2, p1, p2, p3⟩ := hp
      exact ⟨b, vl, v, vs, h1, h2, e, d, l1, l2, (Qm b t [vl, v]).mono hl p1, (QV S nn v vs (fb m) none).mono hl p2, p3.mono hl⟩⟩

section
variable {c : Cx} {k : List Item} {s : St} {ops : Array Oper} {rest : List Oper} {o : Oper} {fr : List (Nat × Option Value)} {own : List (Option Res)} {shr : List Fact} {d : Nat} {σ τ ρ : Type} {SL : Shape τ} {S : Shape ρ} {t : TypeId} {nn : Bool} {fl : σ → List τ} {fb : σ → List (List ρ)}

theorem Tk_optS {i : Nat} {p : Value} {x : Option σ} {m : σ} (hi : own[i]? = some (some (optR t SL S nn fl fb p x))) (hx : x = some m)
    (hk : ∀ (b : Nat) (vl v : Value) (vs : List Value), p = .pointer (some ⟨b, 0, none⟩) → Tk c k ⟨fr, own.set i (some (Qm b t [vl, v])) ++ [some (QV S nn v vs (fb m) none)], shr ++ [Fact.sl SL vl (fl m)]⟩) : Tk c k ⟨fr, own, shr⟩ := fun a w hs => by
  subst hx
  obtain ⟨⟨⟨b, vl, v, vs⟩, e⟩, hx⟩ := hs.2.2.2.split hi (α := { y : Nat × Value × Value × List Value // p = .pointer (some ⟨y.1, 0, none⟩) }) (r1 := fun y => Qm y.1.1 t [y.1.2.1, y.1.2.2.1]) (r2 := fun y => QV S nn y.1.2.2.1 y.1.2.2.2 (fb m) none) (F := fun y => [Fact.sl SL y.1.2.1 (fl m)]) (by
    rintro R h _ ⟨b, vl, v, vs, h1, h2, e, d, l1, l2, p1, p2, p3⟩
    refine ⟨⟨(b, vl, v, vs), e⟩, h1, h2, d, l1, l2, p1, p2, ?_⟩
    intro G hG; simp at hG; subst hG; exact p3)
  exact hk b vl v vs e a w ⟨hs.1, hs.2.1, hs.2.2.1, hx⟩
theorem Tk_nilopt (t : TypeId) (SL : Shape τ) (S : Shape ρ) (nn : Bool) (fl : σ → List τ) (fb : σ → List (List ρ)) (h : Tk c k ⟨fr, own ++ [some (optR t SL S nn fl fb (.pointer none) none)], shr⟩) : Tk c k ⟨fr, own, shr⟩ := fun a w hs =>
  h a w ⟨hs.1, hs.2.1, hs.2.2.1, hs.2.2.2.free _ fun _ => rfl⟩
theorem vs_fold (m : σ) {i j q b : Nat} {vl v : Value} {vs : List Value} {ls : List τ} {bs : List (List ρ)} (hi : own[i]? = some (some (Qm b t [vl, v]))) (hj : own[j]? = some (some (QV S nn v vs bs none))) (hij : Nat.beq i j = false) (hq : shr[q]? = some (Fact.sl SL vl ls)) (hl : fl m = ls) (hb : fb m = bs) :
    VS c ⟨fr, own, shr⟩ ⟨fr, (own.set i (some (optR t SL S nn fl fb (.pointer (some ⟨b, 0, none⟩)) (some m)))).set j none, shr⟩ := fun a w hs => by
  refine ⟨hs.1, hs.2.1, hs.2.2.1, hs.2.2.2.merge hij hi hj ?_⟩
  intro R h1 h2 hF hd p1 p2
  exact ⟨b, vl, v, vs, h1, h2, rfl, hd, PH.or_left, PH.or_right hd, p1, by rw [hb]; exact p2, by rw [hl]; exact hF _ (List.mem_of_getElem? hq)⟩

theorem ri_rows {cells : ρ → List Value} {sz : Nat} {ag : Bool} {hl : ∀ x, (cells x).length = sz} {hone : ∀ x, (cells x).all (·.oneCell') = true} (hS : S = Shape.plain sz ag cells hl hone) (nn : Bool) (v : Value) (vs : List Value) (bs : List (List ρ)) (ex : Option (Nat × Value)) : RI (QV S nn v vs bs ex) := fun R R' h hr => by
  subst hS
  obtain ⟨h0, hh, p⟩ := hr
  exact ⟨h0, hh, p.out, p.nn, p.len, p.l0, p.ls, p.d0, p.ds, p.row, p.hol⟩

/-! ## copies -/
def copyAt (xs : List ρ) (l m : Int) (ys : List ρ) : List ρ := xs.take l.toNat ++ ys.take (m.toNat - l.toNat) ++ xs.drop (l.toNat + min ys.length (m.toNat - l.toNat))
theorem copyAt_none {xs ys : List ρ} {l m : Int} (h : min ys.length (m.toNat - l.toNat) = 0) : copyAt xs l m ys = xs := by
  unfold copyAt
  rw [h, Nat.add_zero]
  have : ys.take (m.toNat - l.toNat) = [] := by
    apply List.eq_nil_of_length_eq_zero
    rw [List.length_take]; omega
  rw [this]; simp
theorem flat_takeM {cells : ρ → List Value} {sz : Nat} (hl : ∀ x, (cells x).length = sz) : ∀ (xs : List ρ) (k : Nat), ((xs.map cells).flatten).take (k * sz) = ((xs.take k).map cells).flatten
  | [], k => by simp
  | x :: xs, 0 => by simp
  | x :: xs, k + 1 => by
    have ih := flat_takeM hl xs k
    simp only [List.map_cons, List.flatten_cons, List.take_succ_cons]
    rw [← ih, List.take_append, hl x, List.take_of_length_le (by rw [hl x, Nat.add_mul]; omega), show (k + 1) * sz - sz = k * sz by rw [Nat.add_mul]; omega]
theorem flat_dropM {cells : ρ → List Value} {sz : Nat} (hl : ∀ x, (cells x).length = sz) : ∀ (xs : List ρ) (k : Nat), ((xs.map cells).flatten).drop (k * sz) = ((xs.drop k).map cells).flatten
  | [], k => by simp
  | x :: xs, 0 => by simp
  | x :: xs, k + 1 => by
    have ih := flat_dropM hl xs k
    simp only [List.map_cons, List.flatten_cons, List.drop_succ_cons]
    rw [← ih, List.drop_append, hl x, List.drop_of_length_le (by rw [hl x, Nat.add_mul]; omega), List.nil_append, show (k + 1) * sz - sz = k * sz by rw [Nat.add_mul]; omega]
theorem copyAt_len {xs ys : List ρ} {l m : Int} (h0 : 0 ≤ l) (h1 : l ≤ m) (h2 : m ≤ (xs.length : Int)) : (copyAt xs l m ys).length = xs.length := by
  unfold copyAt
  simp only [List.length_append, List.length_take, List.length_drop]; omega
theorem OpT_copyG {cells : ρ → List Value} {sz : Nat} {ag : Bool} {hl : ∀ x, (cells x).length = sz} {hone : ∀ x, (cells x).all (·.oneCell') = true} (hS : S = Shape.plain sz ag cells hl hone) {ty e : TypeId} {x y : Operand} {u vy : Value} {i b : Nat} {z : Value} {l m : Int} {xs ys : List ρ} (hn : Nat.blt d c.n = true) (hd : o.dst = some d)
    (ho : o.op = .call { callee := .builtin .copy, args := #[x, y], argTypes := #[ty, ty] }) (hx : ev fr x = some (subV u S.sz l.toNat m.toNat)) (hy : ev fr y = some vy) (ht : SlF c.P ty e S.sz b z) (hi : own[i]? = some (some (rowS S u xs)))
    (hys : ∀ (w : World) (R : PH) (hs : Nat → PH), HW c.R0 c.w0 c.B own shr w R hs → ∃ R', R'.inW w ∧ SliceRel S R' vy ys) (hc : decide (0 ≤ l ∧ l ≤ m ∧ m ≤ len xs) = true) :
    OpT c o ⟨fr, own, shr⟩ (fun s => s = ⟨(d, some (vI ((min ys.length (m.toNat - l.toNat) : Nat) : Int))) :: fr, own.set i (some (rowS S u (copyAt xs l m ys))), shr⟩) := by
  have main : OpT c o ⟨fr, own, shr⟩ (fun s => ∃ _ : Unit, s = ⟨(d, some (vI ((min ys.length (m.toNat - l.toNat) : Nat) : Int))) :: fr, own.set i (some (rowS S u (copyAt xs l m ys))), shr⟩) :=
    Kn hn hd fun a w hs => by
      obtain ⟨h0, h1, h2⟩ : 0 ≤ l ∧ l ≤ m ∧ m ≤ len xs := by simpa using hc
      unfold len at h2
      obtain ⟨R, hs', hw⟩ := hs.2.2.2
      obtain ⟨R', hR', hsl⟩ := hys w R hs' hw
      obtain ⟨base, cap, css, e1, e2, e3, e4, e5, e6, e7, e8⟩ := hsl.flat
      have hun := run_underlying ht.und w
      have hr := hw.ow i _ hi
      refine ⟨vI ((min ys.length (m.toNat - l.toNat) : Nat) : Int), ?_⟩
      by_cases hn0 : min ys.length (m.toNat - l.toNat) = 0
      · refine ⟨w, (), ?_, rfl, ?_⟩
        · obtain ⟨bu, cu, eu⟩ := RowRel.val hr
          have hmin : Nat.min ys.length (m.toNat - l.toNat) = 0 := hn0
          subst eu; subst e1
          cases hb : (if cu = l.toNat then bu else bu.map (·.add (l.toNat * S.sz))) with
          | none => cases base <;> simp [execOp, ho, resolve, invoke, builtin, QH hs.2.2.1 hx, QH hs.2.2.1 hy, Builtin.copy_, hun, subV, hb, Builtin.lenOf, hmin, hn0, ht.sz, Builtin.firstCells, loadCells, loadCellsFrom, goInt]
          | some ad => cases base <;> simp [execOp, ho, resolve, invoke, builtin, QH hs.2.2.1 hx, QH hs.2.2.1 hy, Builtin.copy_, hun, subV, hb, Builtin.lenOf, hmin, hn0, ht.sz, Builtin.firstCells, loadCells, loadCellsFrom, storeCells, goInt]
        · rw [copyAt_none hn0]
          have : own.set i (some (rowS S u xs)) = own := by
            apply List.ext_getElem?
            intro j
            by_cases ej : j = i
            · subst ej
              have hlt : j < own.length := (List.getElem?_eq_some_iff.1 hi).1
              rw [List.getElem?_set_self hlt, hi]
            · rw [List.getElem?_set_ne (fun q => ej q.symm)]
          show HSat c.R0 c.w0 c.B (own.set i (some (rowS S u xs))) shr w
          rw [this]; exact hs.2.2.2
      · generalize hN : min ys.length (m.toNat - l.toNat) = N at hn0
        have hmin : Nat.min ys.length (m.toNat - l.toNat) = N := hN
        have hyne : ys ≠ [] := by intro q; subst q; simp at hN; omega
        obtain ⟨ad, rfl⟩ : ∃ ad, base = some ad := by
          cases base with
          | none => exact absurd rfl (e7 hyne)
          | some ad => exact ⟨ad, rfl⟩
        have hne : xs ≠ [] := by intro q; subst q; simp at h2; omega
        obtain ⟨g, cp, cur, tg, a1, a2, a3, a4, a5, a6⟩ := row_block hS hr hne
        subst a1; subst e1
        have hb := hw.hw i g _ a2
        have hcss : css = ys.map cells := by subst hS; exact flat_map1 (R := R') (hl := hl) (hone := hone) (ag := ag) e3 e4
        have hSsz : S.sz = sz := by subst hS; rfl
        have hNl : N ≤ ys.length := by omega
        have hNm : l.toNat + N ≤ xs.length := by omega
        have hcl : ¬ cp = l.toNat := by omega
        have hnl : (((ys.take N).map cells).flatten).length = N * sz := by
          rw [XV (sz := sz) (fun ci h => by obtain ⟨x, _, rfl⟩ := List.mem_map.1 h; exact hl x), List.length_map, List.length_take, Nat.min_eq_left hNl]
        have hnews : ∀ (j : Nat) (v : Value), (((ys.take N).map cells).flatten)[j]? = some v → w.cell? (ad.add j) = some v := by
          intro j v hj
          rw [← flat_takeM hl, List.getElem?_take] at hj
          split at hj
          · rw [← hcss] at hj; exact PH.cell_inW hR' (e8 ad rfl j v hj)
          · cases hj
        have hf := run_firstCells_some (P := c.P) w sz N ad ys.length cap _ hnl hnews
        have hone1 : ∀ v ∈ (((ys.take N).map cells).flatten), v.oneCell' = true := by
          intro v hv
          obtain ⟨ci, hci, hv⟩ := List.mem_flatten.1 hv
          obtain ⟨x, _, rfl⟩ := List.mem_map.1 hci
          exact List.all_eq_true.1 (hone x) v hv
        have hfit0 : (l.toNat + N) * sz ≤ xs.length * sz := Nat.mul_le_mul_right sz hNm
        have hcap : xs.length * sz ≤ cur.size := by rw [a5]; exact Nat.mul_le_mul_right sz a3
        have hfit : l.toNat * sz + N * sz ≤ xs.length * sz := by rw [← Nat.add_mul]; exact hfit0
        have hst := run_storeCells_at c.P g (l.toNat * sz) tg _ 0 cur w hb (by rw [hnl]; omega) hone1
        simp only [Nat.add_zero, hnl] at hst
        refine ⟨w.setRow g (cur.toList.take (l.toNat * sz) ++ ((ys.take N).map cells).flatten ++ cur.toList.drop (l.toNat * sz + N * sz)).toArray, (), ?_, rfl, ?_⟩
        · generalize ((ys.take N).map cells).flatten = news at hst hf ⊢
          simp [execOp, ho, resolve, invoke, builtin, QH hs.2.2.1 hx, QH hs.2.2.1 hy, Builtin.copy_, hun, subV, hcl, Builtin.lenOf, hmin, hSsz, ht.sz, hf, Addr.add_lit, hst, goInt]
        · have hb' := setRow_heap w g cur (cur.toList.take (l.toNat * sz) ++ ((ys.take N).map cells).flatten ++ cur.toList.drop (l.toNat * sz + N * sz)).toArray tg (0, 0) hb
          refine ⟨R, _, hw.upd i (PH.one g (.cells (cur.toList.take (l.toNat * sz) ++ ((ys.take N).map cells).flatten ++ cur.toList.drop (l.toNat * sz + N * sz)).toArray tg (0, 0))) ?_ (by simp) ?_ ?_ rfl rfl rfl (own_set ?_)⟩
          · intro b hb1 hb2
            by_cases eq : b = g
            · subst eq; rw [a2] at hb2; cases hb2
            · exact setRow_other w g b _ eq
          · intro b o' h; obtain ⟨e1, e2⟩ := PH.one_some h; subst e1; subst e2; exact hb'
          · intro b o' h; obtain ⟨e1, _⟩ := PH.one_some h; subst e1; left; rw [a2]; simp
          · have hlenc := copyAt_len (ys := ys) h0 h1 h2
            subst hS
            refine ⟨(copyAt xs l m ys).map cells, by simp, ?_, .inr ⟨g, cp, _, tg, by rw [hlenc], PH.one_self _ _, by rw [hlenc]; exact a3, a4, ?_, ?_⟩⟩
            · intro j ci z p q
              simp only [List.getElem?_map, q, Option.map_some, Option.some.injEq] at p
              exact p.symm
            · have e5' : cur.toList.length = cp * sz := by simpa using a5
              simp only [List.size_toArray, List.length_append, List.length_take, List.length_drop, hnl, e5']
              show _ = cp * sz
              have : xs.length * sz ≤ cp * sz := Nat.mul_le_mul_right sz a3
              omega
            · show List.take ((copyAt xs l m ys).length * sz) _ = _
              rw [hlenc, List.toList_toArray, take_splice hnl hfit (by simpa using hcap), a6, ← Nat.add_mul, flat_takeM hl, flat_dropM hl]
              unfold copyAt
              rw [hN, List.map_append, List.map_append, List.flatten_append, List.flatten_append]
              have : ys.take (m.toNat - l.toNat) = ys.take N := by
                by_cases q : m.toNat - l.toNat ≤ ys.length
                · rw [← hN, Nat.min_eq_right q]
                · rw [← hN, Nat.min_eq_left (by omega), List.take_of_length_le (by omega), List.take_of_length_le (Nat.le_refl _)]
              rw [this]
  refine main.vs ?_
  rintro x ⟨_, rfl⟩
  exact ⟨_, rfl, fun a w hs => hs⟩
theorem OpT_copyS {cells : ρ → List Value} {sz : Nat} {ag : Bool} {hl : ∀ x, (cells x).length = sz} {hone : ∀ x, (cells x).all (·.oneCell') = true} (hS : S = Shape.plain sz ag cells hl hone) {ty e : TypeId} {x y : Operand} {u vy : Value} {i j b : Nat} {z : Value} {l m : Int} {xs ys : List ρ} (hn : Nat.blt d c.n = true) (hd : o.dst = some d)
    (ho : o.op = .call { callee := .builtin .copy, args := #[x, y], argTypes := #[ty, ty] }) (hx : ev fr x = some (subV u S.sz l.toNat m.toNat)) (hy : ev fr y = some vy) (ht : SlF c.P ty e S.sz b z) (hi : own[i]? = some (some (rowS S u xs))) (hj : shr[j]? = some (Fact.sl S vy ys)) (hc : decide (0 ≤ l ∧ l ≤ m ∧ m ≤ len xs) = true) :
    OpT c o ⟨fr, own, shr⟩ (fun s => s = ⟨(d, some (vI ((min ys.length (m.toNat - l.toNat) : Nat) : Int))) :: fr, own.set i (some (rowS S u (copyAt xs l m ys))), shr⟩) :=
  OpT_copyG hS hn hd ho hx hy ht hi (fun w R hs hw => ⟨R, hw.rw_, hw.sh _ (List.mem_of_getElem? hj)⟩) hc
end
end Go.Proofs.Ytlofegfaphijpaa

end

section
namespace Go.Proofs.Ytlofegfaphijpaa

/-! ## a value that may be lacking -/
def onO {α β : Type} (o : Option α) (n : Option β) (s : α → Option β) : Option β := match o with | none => n | some m => s m
theorem onO_cases {α β : Type} {o : Option α} {n : Option β} {s : α → Option β} {r : β} (h : onO o n s = some r) : (o = none ∧ n = some r) ∨ ∃ m, o = some m ∧ s m = some r := by
  cases o with
  | none => exact .inl ⟨rfl, h⟩
  | some m => exact .inr ⟨m, rfl, h⟩
theorem onS {α β : Type} {m : α} {n : Option β} {s : α → Option β} : onO (some m) n s = s m := rfl

theorem nbeq {a b : Nat} (h : a ≠ b) : Nat.beq a b = false := by
  cases e : Nat.beq a b with
  | false => rfl
  | true => exact absurd (Nat.eq_of_beq_eq_true e) h
def vsAt (vs : List Value) (j : Nat) : Value := vs.getD j undef
def winV (sz : Nat) (vs : List Value) (r : Option (Int × Int × Int)) : Value := match r with | none => .slice none 0 0 | some w => subV (vsAt vs w.1.toNat) sz w.2.1.toNat w.2.2.toNat

section
variable {c : Cx} {k : List Item} {s : St} {ops : Array Oper} {rest : List Oper} {o : Oper} {fr : List (Nat × Option Value)} {own : List (Option Res)} {shr : List Fact} {d : Nat} {τ σ : Type} {S : Shape τ} {nn : Bool} {v : Value} {vs : List Value} {bs : List (List τ)} {ex : Option (Nat × Value)}

theorem vs_focus {i : Nat} {j : Int} {xs : List τ} (hi : own[i]? = some (some (QV S nn v vs bs none))) (hj : ix bs j = some xs) :
    VS c ⟨fr, own, shr⟩ ⟨fr, own.set i (some (QV S nn v vs bs (some (j.toNat, vsAt vs j.toNat)))) ++ [some (rowS S (vsAt vs j.toNat) xs)], shr⟩ := fun a w hs => by
  obtain ⟨u, h⟩ := ex_focus (c := c) (fr := fr) (shr := shr) hi hj a w hs
  have hil : i < own.length := (List.getElem?_eq_some_iff.1 hi).1
  have hu : u = vsAt vs j.toNat := by
    obtain ⟨R, hs', hw⟩ := h.2.2.2
    have hq : (own.set i (some (QV S nn v vs bs (some (j.toNat, u)))) ++ [some (rowS S u xs)])[i]? = some (some (QV S nn v vs bs (some (j.toNat, u)))) := by
      rw [List.getElem?_append_left (by simpa using hil)]; simp [hil]
    obtain ⟨h0, hh, p⟩ := hw.ow i _ hq
    have := p.hol _ rfl
    simp only at this
    unfold vsAt
    rw [List.getD_eq_getElem?_getD, this]; rfl
  subst hu; exact h
theorem set_ix {j : Int} {xs : List τ} (hj : ix bs j = some xs) : bs.set j.toNat xs = bs := by
  obtain ⟨_, _, hb⟩ := ix_some hj
  apply List.ext_getElem?
  intro q
  by_cases e : q = j.toNat
  · subst e
    rw [List.getElem?_set_self (List.getElem?_eq_some_iff.1 hb).1, hb]
  · rw [List.getElem?_set_ne (fun z => e z.symm)]
theorem vs_unfocus0 {i q : Nat} {j : Int} {u : Value} {xs : List τ} (hi : own[i]? = some (some (QV S nn v vs bs (some (j.toNat, u))))) (hq : own[q]? = some (some (rowS S u xs))) (hiq : Nat.beq i q = false) (hj : ix bs j = some xs) :
    VS c ⟨fr, own, shr⟩ ⟨fr, (own.set i (some (QV S nn v vs bs none))).set q none, shr⟩ := by
  have h := vs_unfocus (c := c) (fr := fr) (shr := shr) hi hq hiq
  rw [set_ix hj] at h; exact h

/-! a pointer and nil -/
theorem run_ptrNil {P : Program} {t : TypeId} {x y : Operand} {p : Option Addr} {op : BinOp} (hop : op = .eql ∨ op = .neq) (ht : P.underlying t = some (.pointer (P.pointee t))) : Bin P op t x y (.pointer p) (.pointer none) (.bool (nilB op p.isNone)) := fun w => by
  have hg : (eqGuard op t x y (.pointer p) (.pointer none)).run P w = .ok () w := by rcases hop with rfl | rfl <;> rfl
  rw [Sem.run_bind, hg, Result.andThen_ok]
  rcases hop with rfl | rfl
  · rw [run_eql_pointer_nil w t p ht]; rfl
  · rw [run_neq_pointer_nil w t p ht]; cases p <;> rfl
theorem OpT_ptrNil {t : TypeId} {x y : Operand} {t2 : TypeId} {op : BinOp} {p : Option Addr} (hn : Nat.blt d c.n = true) (hd : o.dst = some d) (ho : o.op = .binOp op t x y t2) (hop : op = .eql ∨ op = .neq) (hx : ev fr x = some (.pointer p)) (hy : ev fr y = some (.pointer none)) (ht : c.P.underlying t = some (.pointer (c.P.pointee t))) :
    OpT c o ⟨fr, own, shr⟩ (fun s => s = ⟨(d, some (.bool (nilB op p.isNone))) :: fr, own, shr⟩) := Qf hn hd ho hx hy (run_ptrNil hop ht)

/-! rows that grow by a row -/
theorem vs_nilrows {S : Shape τ} : VS c ⟨fr, own, shr⟩ ⟨fr, own ++ [some (QV S false (.slice none 0 0) [] [] none)], shr⟩ := fun a w hs =>
  ⟨hs.1, hs.2.1, hs.2.2.1, hs.2.2.2.free _ fun R => ⟨PH.emp, fun _ => PH.emp, ⟨⟨[], rfl, fun i ci x h => by simp at h, .inl ⟨rfl, rfl⟩⟩, fun h => (by cases h), rfl, fun _ _ h => h, fun _ _ _ _ h => h, fun _ _ _ => .inl rfl, fun _ _ _ _ _ _ => .inl rfl, fun i v' xs _ h => (by simp at h), fun p h => (by cases h)⟩⟩⟩
theorem OpT_buildV {t e : TypeId} {ps : Array (Nat × Operand)} {u : Value} {i b : Nat} {z : Value} {xs : List τ} (hn : Nat.blt d c.n = true) (hd : o.dst = some d) (ho : o.op = .buildSlice t 1 ps) (hx : evs fr ps.toList = some [(0, u)]) (ht : SlF c.P t e 1 b z) (hi : own[i]? = some (some (rowS S u xs))) :
    OpT c o ⟨fr, own, shr⟩ (fun s => ∃ w, s = ⟨(d, some w) :: fr, own ++ [some (rowS valS w [u])], shr⟩) := fun a w hs => by
  obtain ⟨base, n, cap, e⟩ := Jf (c := c) (fr := fr) (shr := shr) hi a w hs
  exact OpT_buildSl valS (vs := [u]) (xs := [u]) rfl hn hd ho hx ht (by intro v hv; simp at hv; subst hv; exact Jf hi) rfl rfl rfl (by
    intro R _ q ci x q1 q2
    cases q with
    | zero => simp at q1 q2; subst q1; subst q2; exact ⟨rfl, by subst e; rfl⟩
    | succ q => simp at q1) a w hs
def innR {τ : Type} (S : Shape τ) (vs : List Value) (bs : List (List τ)) : Res :=
  ⟨fun R h => vs.length = bs.length ∧ ∃ hs : Nat → PH, (∀ i, (hs i).le h) ∧ (∀ i j, i ≠ j → (hs i).disj (hs j)) ∧ ∀ (i : Nat) (v' : Value) (xs : List τ), vs[i]? = some v' → bs[i]? = some xs → RowRel S R (hs i) v' xs,
   fun hl ⟨h1, hs, h2, h3, h4⟩ => ⟨h1, hs, h2, h3, fun i v' xs a b => (h4 i v' xs a b).mono hl⟩⟩
theorem OpT_appendRows {t e : TypeId} {x y : Operand} {i j q b : Nat} {z : Value} {w0 u : Value} {xs : List τ} (hn : Nat.blt d c.n = true) (hd : o.dst = some d) (ho : o.op = .call { callee := .builtin .append, args := #[x, y], argTypes := #[t, t] })
    (hx : ev fr x = some v) (hy : ev fr y = some w0) (ht : SlF c.P t e 1 b z) (hi : own[i]? = some (some (QV S false v vs bs none))) (hj : own[j]? = some (some (rowS valS w0 [u]))) (hq : own[q]? = some (some (rowS S u xs))) (hij : Nat.beq i j = false) (hiq : Nat.beq i q = false) (hjq : Nat.beq j q = false) (hf : fits bs.length 1 b = true) :
    OpT c o ⟨fr, own, shr⟩ (fun s => ∃ p : Value × List Value, s = ⟨(d, some p.1) :: fr, ((own.set i (some (QV S false p.1 p.2 (bs ++ [xs]) none))).set j none).set q none, shr⟩) :=
  Kn (f := fun p : Value × List Value => ⟨(d, some p.1) :: fr, ((own.set i (some (QV S false p.1 p.2 (bs ++ [xs]) none))).set j none).set q none, shr⟩) hn hd fun a w hs => by
    have nij : i ≠ j := Nat.ne_of_beq_eq_false hij
    have niq : i ≠ q := Nat.ne_of_beq_eq_false hiq
    have njq : j ≠ q := Nat.ne_of_beq_eq_false hjq
    have hil : i < own.length := (List.getElem?_eq_some_iff.1 hi).1
    have hjl : j < own.length := (List.getElem?_eq_some_iff.1 hj).1
    have hql : q < own.length := (List.getElem?_eq_some_iff.1 hq).1
    -- the rows, parted
    obtain ⟨_, hsat⟩ := hs.2.2.2.split hi (α := Unit) (r1 := fun _ => rowS valS v vs) (r2 := fun _ => innR S vs bs) (F := fun _ => []) (by
      rintro R h _ ⟨h0, hh, p⟩
      refine ⟨(), h0, h.minus h0, PH.disj_comm PH.minus_disj, p.l0, PH.minus_le, p.out, ⟨p.len, hh, fun i => PH.le_minus (p.ls i (by simp)) (PH.disj_comm (p.d0 i (by simp))), fun i j hij => p.ds i j hij (by simp) (by simp), fun i v' xs a b => p.row i v' xs (by simp) a b⟩, fun G h => by cases h⟩)
    rw [List.append_nil] at hsat
    obtain ⟨R, hs', hw⟩ := hsat
    have g1 : (own.set i (some (rowS valS v vs)) ++ [some (innR S vs bs)])[i]? = some (some (rowS valS v vs)) := by
      rw [List.getElem?_append_left (by simpa using hil)]; simp [hil]
    have g2 : (own.set i (some (rowS valS v vs)) ++ [some (innR S vs bs)])[j]? = some (some (rowS valS w0 [u])) := by
      rw [List.getElem?_append_left (by simpa using hjl), List.getElem?_set_ne nij]; exact hj
    have hlen : vs.length = bs.length := by
      obtain ⟨R, hs', hw⟩ := hs.2.2.2
      obtain ⟨h0, hh, p⟩ := hw.ow i _ hi
      exact p.len
    obtain ⟨v', w', hr, hh⟩ := run_append_S (S := valS) (sz := 0) ht hw g1 (or_inW hw.rw_ (hw.hw j)) (fun cs x h => h) (RowRel.slice (hw.rd j) (hw.ow j _ g2)) (by rw [hlen]; exact Nat.le_of_ble_eq_true hf) o.type
    refine ⟨v', w', (v', vs ++ [u]), ?_, rfl, ?_⟩
    · simp only [execOp, ho, resolve, invoke, builtin, Sem.run_bind, Sem.run_pure, Result.andThen_ok, List.map_toArray, List.map_cons, List.map_nil, QH hs.2.2.1 hx, QH hs.2.2.1 hy, hr]
    · -- the parts joined again
      have e0 : (own.set i (some (rowS valS v vs)) ++ [some (innR S vs bs)]).set i (some (rowS valS v' (vs ++ [u]))) = own.set i (some (rowS valS v' (vs ++ [u]))) ++ [some (innR S vs bs)] := by
        rw [List.set_append_left _ _ (by simpa using hil), List.set_set]
      rw [e0] at hh
      -- the row into the rows
      have m1 := hh.merge (i := own.length) (j := q) (r := innR S (vs ++ [u]) (bs ++ [xs])) (r1 := innR S vs bs) (r2 := rowS S u xs) (nbeq (by omega)) (by rw [List.getElem?_append_right (by simp)]; simp) (by rw [List.getElem?_append_left (by simpa using hql), List.getElem?_set_ne niq]; exact hq) (by
        rintro R h1 h2 _ hd ⟨l1, g, l2, l3, l4⟩ hrow
        refine ⟨by simp [l1], fun z => if z = bs.length then h2 else g z, ?_, ?_, ?_⟩
        · intro z
          show (if z = bs.length then h2 else g z).le _
          by_cases ez : z = bs.length
          · rw [if_pos ez]; exact PH.or_right hd
          · rw [if_neg ez]; exact PH.le_trans (l2 z) PH.or_left
        · intro z z' hz
          show (if z = bs.length then h2 else g z).disj (if z' = bs.length then h2 else g z')
          by_cases ez : z = bs.length
          · rw [if_pos ez, if_neg (by omega)]; exact PH.disj_comm (PH.disj_le (l2 z') hd)
          · rw [if_neg ez]
            by_cases ez' : z' = bs.length
            · rw [if_pos ez']; exact PH.disj_le (l2 z) hd
            · rw [if_neg ez']; exact l3 z z' hz
        · intro z v2 ys a1 a2
          show RowRel S R (if z = bs.length then h2 else g z) v2 ys
          by_cases ez : z = bs.length
          · rw [if_pos ez]; subst ez
            rw [← l1] at a1
            rw [List.getElem?_concat_length] at a1
            rw [List.getElem?_concat_length] at a2
            cases a1; cases a2; exact hrow
          · rw [if_neg ez]
            have hz : z < bs.length := by
              have := (List.getElem?_eq_some_iff.1 a2).1
              simp at this; omega
            rw [List.getElem?_append_left (by omega)] at a1
            rw [List.getElem?_append_left hz] at a2
            exact l4 z v2 ys a1 a2)
      have e1 : ((own.set i (some (rowS valS v' (vs ++ [u]))) ++ [some (innR S vs bs)]).set own.length (some (innR S (vs ++ [u]) (bs ++ [xs])))).set q none = (own.set i (some (rowS valS v' (vs ++ [u])))).set q none ++ [some (innR S (vs ++ [u]) (bs ++ [xs]))] := by
        rw [List.set_append_right _ _ (by simp), List.set_append_left _ _ (by simpa using hql)]
        simp
      rw [e1] at m1
      have m2 := m1.merge (i := i) (j := own.length) (r := QV S false v' (vs ++ [u]) (bs ++ [xs]) none) (r1 := rowS valS v' (vs ++ [u])) (r2 := innR S (vs ++ [u]) (bs ++ [xs])) (nbeq (by omega)) (by rw [List.getElem?_append_left (by simpa using hil), List.getElem?_set_ne (fun z => niq z.symm)]; simp [hil]) (by rw [List.getElem?_append_right (by simp)]; simp) (by
        rintro R h1 h2 _ hd hout ⟨l1, g, l2, l3, l4⟩
        exact ⟨h1, g, ⟨hout, fun h => (by cases h), l1, PH.or_left, fun z _ => PH.le_trans (l2 z) (PH.or_right hd), fun z _ => PH.disj_comm (PH.disj_le (l2 z) (PH.disj_comm hd)), fun z z' hz _ _ => l3 z z' hz, fun z v2 ys _ a1 a2 => l4 z v2 ys a1 a2, fun p h => (by cases h)⟩⟩)
      obtain ⟨R2, hs2, hw2⟩ := m2
      refine ⟨R2, hs2, hw2.r0, hw2.rw_, hw2.sh, ?_, hw2.hw, hw2.dj, hw2.rd, hw2.new, hw2.rnew, hw2.size, hw2.keep, hw2.os, hw2.tape, hw2.output⟩
      intro z r hz
      refine hw2.ow z r ?_
      by_cases ezj : z = j
      · subst ezj
        exfalso
        change (((own.set i _).set z none).set q none)[z]? = _ at hz
        rw [List.getElem?_set_ne (fun e => njq e.symm)] at hz
        simp [hjl] at hz
      · have hzl : z < own.length := by
          have := (List.getElem?_eq_some_iff.1 hz).1
          simpa using this
        change (((own.set i _).set j none).set q none)[z]? = _ at hz
        rw [List.set_append_left _ _ (by simpa using hil), List.set_append_right _ _ (by simp), List.getElem?_append_left (by simpa using hzl)]
        by_cases ezq : z = q
        · subst ezq; simp [hql] at hz
        · rw [List.getElem?_set_ne (fun e => ezq e.symm), List.getElem?_set_ne (fun e => ezj e.symm)] at hz
          by_cases ezi : z = i
          · subst ezi
            rw [List.getElem?_set_self (by simpa using hil)]
            rw [List.getElem?_set_self hil] at hz; exact hz
          · rw [List.getElem?_set_ne (fun e => ezi e.symm)] at hz
            rw [List.getElem?_set_ne (fun e => ezi e.symm), List.getElem?_set_ne (fun e => ezq e.symm), List.getElem?_set_ne (fun e => ezi e.symm)]
            exact hz
end
end Go.Proofs.Ytlofegfaphijpaa

end

section
namespace Go.Proofs.Ytlofegfaphijpaa

section
variable {c : Cx} {k : List Item} {s : St} {ops : Array Oper} {rest : List Oper} {o : Oper} {fr : List (Nat × Option Value)} {own : List (Option Res)} {shr : List Fact} {d : Nat} {τ σ : Type} {S : Shape τ}

/-! ## loops, round by round -/
theorem Tk_unroll (n : Nat) {body : Code} (h : Tk c (.code body :: .back (Code.rounds c.P body (Yz c k) n) :: k) s) : Tk c (.code (.loop body) :: k) s := fun a w hs => by
  show (Code.loop body).wp c.P (Yz c k) a w
  have q : body.wp c.P (Yz c (.back (Code.rounds c.P body (Yz c k) n) :: k)) a w := h a w hs
  rw [contQ_back] at q
  exact wp_loop_rounds (n + 1) q
theorem Tk_round {n : Nat} {body : Code} (h : Tk c (.code body :: .back (Code.rounds c.P body (Yz c k) n) :: k) s) : Tk c (.back (Code.rounds c.P body (Yz c k) (n + 1)) :: k) s := fun a w hs => by
  show Code.rounds c.P body (Yz c k) (n + 1) a w
  have q : body.wp c.P (Yz c (.back (Code.rounds c.P body (Yz c k) n) :: k)) a w := h a w hs
  rw [contQ_back] at q
  exact q

/-! ## fields of elements -/
theorem OpT_fieldR {t : TypeId} {x : Operand} {vx : Value} {i n f q : Nat} {m : Int} {xs : List τ} {u : τ} (hn : Nat.blt d c.n = true) (hd : o.dst = some d) (ho : o.op = .fieldAddr t x f) (hx : ev fr x = some (ZW vx n)) (hf : FldF c.P t f q) (hi : own[i]? = some (some (rowS S vx xs))) (hu : ix xs m = some u) :
    OpT c o ⟨fr, own, shr⟩ (fun s => s = ⟨(d, some (ZW vx (n + q))) :: fr, own, shr⟩) :=
  ZI hn hd fun a w hs => by
    obtain ⟨h0, h1, h2⟩ := ix_some hu
    obtain ⟨R, hs', hw⟩ := hs.2.2.2
    obtain ⟨css, _, _, h3⟩ := hw.ow i _ hi
    rcases h3 with ⟨_, hx0⟩ | ⟨g, cap, cur, tg, hv, _⟩
    · subst hx0; simp at h2
    · subst hv
      have e := QH hs.2.2.1 hx
      simp only [ZW] at e ⊢
      have := hf (Addr.add ⟨g, 0, none⟩ n) w
      rw [Addr.add_add] at this
      simp [execOp, ho, e, this]
variable {cells : τ → List Value} {sz : Nat} {ag ag' : Bool} {hl : ∀ x, (cells x).length = sz} {hone : ∀ x, (cells x).all (·.oneCell') = true}
theorem OpT_loadOF (hS : S = Shape.plain sz ag cells hl hone) {t : TypeId} {x : Operand} {i n q : Nat} {m : Int} {vx v : Value} {xs : List τ} {u : τ} (hn : Nat.blt d c.n = true) (hd : o.dst = some d) (ho : o.op = .load t x) (hx : ev fr x = some (ZW vx (Int.toNat m * sz + q)))
    (ht : TyF c.P t false n) (hi : own[i]? = some (some (rowS S vx xs))) (hu : ix xs m = some u) (hv : (cells u)[q]? = some v) (hq : Nat.blt q sz = true) : OpT c o ⟨fr, own, shr⟩ (fun s => s = ⟨(d, some v) :: fr, own, shr⟩) :=
  ZI hn hd fun a w hs => by
    obtain ⟨h0, h1, h2⟩ := ix_some hu
    obtain ⟨R, hs', hw⟩ := hs.2.2.2
    have hne : xs ≠ [] := by intro e; subst e; simp at h2
    obtain ⟨g, cap, cur, tg, a1, a2, a3, a4, a5, a6⟩ := row_block hS (hw.ow i _ hi) hne
    subst a1
    have hb := hw.hw i g _ a2
    have hc := row_cell hl a6 h2 (q := q) (Nat.blt_eq.mp hq)
    rw [hv] at hc
    have hcell : w.cell? ⟨g, m.toNat * sz + q, none⟩ = some v := by
      rw [cell_of_row w g _ cur tg (0, 0) hb]; exact hc
    have e := QH hs.2.2.1 hx
    simp only [ZW, Addr.add_lit, Nat.zero_add] at e
    simp [execOp, ho, e, Instr.loadAt, Instr.sureAddr, loadVar, ht.ag, hcell]
theorem OpT_loadOFA (hS : S = Shape.plain sz ag cells hl hone) {t : TypeId} {x : Operand} {i n q : Nat} {m : Int} {vx : Value} {vs : List Value} {xs : List τ} {u : τ} (hn : Nat.blt d c.n = true) (hd : o.dst = some d) (ho : o.op = .load t x) (hx : ev fr x = some (ZW vx (Int.toNat m * sz + q)))
    (ht : TyF c.P t true n) (hi : own[i]? = some (some (rowS S vx xs))) (hu : ix xs m = some u) (hv : ((cells u).drop q).take n = vs) (hq : Nat.ble (q + n) sz = true) : OpT c o ⟨fr, own, shr⟩ (fun s => s = ⟨(d, some (.agg vs.toArray)) :: fr, own, shr⟩) :=
  ZI hn hd fun a w hs => by
    obtain ⟨h0, h1, h2⟩ := ix_some hu
    obtain ⟨R, hs', hw⟩ := hs.2.2.2
    have hne : xs ≠ [] := by intro e; subst e; simp at h2
    obtain ⟨g, cap, cur, tg, a1, a2, a3, a4, a5, a6⟩ := row_block hS (hw.ow i _ hi) hne
    subst a1
    have hq' := Nat.le_of_ble_eq_true hq
    have hb := hw.hw i g _ a2
    have hlen : vs.length = n := by rw [← hv, List.length_take, List.length_drop, hl u]; omega
    have hcs : CellsAt (PH.one g (.cells cur tg (0, 0))) ⟨g, m.toNat * sz + q, none⟩ vs := by
      intro j z hj
      have hjn : j < n := by rw [← hlen]; exact (List.getElem?_eq_some_iff.1 hj).1
      rw [← hv, List.getElem?_take, if_pos hjn, List.getElem?_drop] at hj
      have hc := row_cell hl a6 h2 (q := q + j) (by omega)
      rw [hj, ← Nat.add_assoc] at hc
      show PH.cell _ _ = _
      unfold PH.cell
      simp only [Addr.add_lit, PH.one_self]
      exact hc
    have hin : (PH.one g (.cells cur tg (0, 0))).inW w := fun b o' h => by obtain ⟨e1, e2⟩ := PH.one_some h; subst e1; subst e2; exact hb
    have hld := loadCells_at (P := c.P) hin hcs
    rw [hlen] at hld
    have e := QH hs.2.2.1 hx
    simp only [ZW, Addr.add_lit, Nat.zero_add] at e
    simp [execOp, ho, e, Instr.loadAt, Instr.sureAddr, loadVar, ht.ag, ht.sz, hld]
end
end Go.Proofs.Ytlofegfaphijpaa

end

section
namespace Go.Proofs.Ytlofegfaphijpaa
open MapKept (IsKey)
theorem Sat.ret {τ : Type} {S : Shape τ} {c : Cx} {fr : List (Nat × Option Value)} {own : List (Option Res)} {shr : List Fact} {a : Act} {w : World} {i : Nat} {v : Value} {xs : List τ} (hs : Sat c ⟨fr, own, shr⟩ a w) (hi : own[i]? = some (some (rowS S v xs))) : Sat c ⟨fr, own.set i none, shr ++ [Fact.sl S v xs]⟩ a w := by
  obtain ⟨R, hs', hw⟩ := hs.2.2.2
  exact ⟨hs.1, hs.2.1, hs.2.2.1, _, _, hw.retire i _ (RowRel.slice (hw.rd i) (hw.ow i _ hi))⟩
/-! ## maps in plain words -/
def mget {κ ν : Type} [BEq κ] (z : ν) (k : κ) : List (κ × ν) → ν
  | [] => z
  | p :: r => bif k == p.1 then p.2 else mget z k r
def mput {κ ν : Type} [BEq κ] (k : κ) (v : ν) : List (κ × ν) → List (κ × ν)
  | [] => [(k, v)]
  | p :: r => bif k == p.1 then (k, v) :: r else p :: mput k v r
structure KeyF {κ : Type} [BEq κ] (kk : IntKind) (kf : κ → Int) : Prop where
  eq : ∀ x y, (kf x == kf y) = (x == y)
  inj : ∀ x y, (x == y) = true → kf x = kf y
theorem keyI : KeyF .i64 (fun x : Int => x) := ⟨fun _ _ => rfl, fun _ _ h => by simpa using h⟩
def entV (e : MapEntry) : Value × Value := (e.key, e.val)
def mapR {κ ν : Type} (b : Nat) (kk : IntKind) (kf : κ → Int) (V : ν → Value) (xs : List (κ × ν)) : Res :=
  ⟨fun _ h => ∃ es ck, h b = some (.map es ck) ∧ es.toList.map entV = xs.map (fun p => (Value.int kk (kf p.1), V p.2)), fun _ h => h⟩

section
variable {κ ν : Type} [BEq κ] {kk : IntKind} {kf : κ → Int} {V : ν → Value}
theorem find_map (hk : KeyF kk kf) (k : κ) (z : ν) : ∀ (es : List MapEntry) (xs : List (κ × ν)) (n : Nat), es.map entV = xs.map (fun p => (Value.int kk (kf p.1), V p.2)) →
    (Instr.findNow (.int kk) (.int kk (kf k)) es n = some none ∧ mget z k xs = z ∧ ∀ v, (mput k v xs) = xs ++ [(k, v)]) ∨
    (∃ (j : Nat) (e : MapEntry) (p : κ × ν), es[j]? = some e ∧ xs[j]? = some p ∧ Instr.findNow (.int kk) (.int kk (kf k)) es n = some (some (n + j, V p.2)) ∧ mget z k xs = p.2 ∧ e.key = .int kk (kf k) ∧ ∀ v, mput k v xs = xs.set j (k, v))
  | [], [], n, _ => .inl ⟨rfl, rfl, fun v => rfl⟩
  | [], _ :: _, _, h => by simp at h
  | _ :: _, [], _, h => by simp at h
  | e :: es, p :: xs, n, h => by
    simp only [List.map_cons, List.cons.injEq] at h
    obtain ⟨h1, h2⟩ := h
    have hkey : e.key = .int kk (kf p.1) := congrArg Prod.fst h1
    have hval : e.val = V p.2 := congrArg Prod.snd h1
    have hs : Instr.sameNow (.int kk) (.int kk (kf k)) e.key = some (kf k == kf p.1) := by rw [hkey]; simp [Instr.sameNow]
    cases hc : k == p.1 with
    | true =>
      refine .inr ⟨0, e, p, rfl, rfl, ?_, ?_, ?_, fun v => ?_⟩
      · simp only [Instr.findNow, hs, hk.eq, hc, hval, Nat.add_zero]
      · simp only [mget, hc, cond_true]
      · rw [hkey, hk.inj _ _ hc]
      · simp only [mput, hc, cond_true, List.set_cons_zero]
    | false =>
      rcases find_map hk k z es xs (n + 1) h2 with ⟨a, b, d⟩ | ⟨j, e', p', a1, a2, a3, a4, a5, a6⟩
      · refine .inl ⟨?_, ?_, fun v => ?_⟩
        · simp only [Instr.findNow, hs, hk.eq, hc]; exact a
        · simp only [mget, hc, cond_false]; exact b
        · simp only [mput, hc, cond_false, d v, List.cons_append]
      · refine .inr ⟨j + 1, e', p', by simpa using a1, by simpa using a2, ?_, ?_, a5, fun v => ?_⟩
        · simp only [Instr.findNow, hs, hk.eq, hc]; rw [a3]; congr 3; omega
        · simp only [mget, hc, cond_false]; exact a4
        · simp only [mput, hc, cond_false, a6 v, List.set_cons_succ]
variable {c : Cx} {k : List Item} {s : St} {ops : Array Oper} {rest : List Oper} {o : Oper} {fr : List (Nat × Option Value)} {own : List (Option Res)} {shr : List Fact} {d : Nat}
omit [BEq κ] in
theorem OpT_makeMap (kk : IntKind) (kf : κ → Int) (V : ν → Value) {t : TypeId} (hn : Nat.blt d c.n = true) (hd : o.dst = some d) (ho : o.op = .makeMap t none) :
    OpT c o ⟨fr, own, shr⟩ (fun s => ∃ b, s = ⟨(d, some (.map (some b))) :: fr, own ++ [some (mapR b kk kf V [])], shr⟩) :=
  Kn (f := fun b => ⟨(d, some (.map (some b))) :: fr, own ++ [some (mapR b kk kf V [])], shr⟩) hn hd fun a w hs => ⟨.map (some w.heap.size), w.alloc (.map #[] 0), w.heap.size, by
    have e : (Instr.makeMap t none).run c.P w = .ok (.map (some w.heap.size)) (w.alloc (.map #[] 0)) := rfl
    simp only [execOp, ho, Option.map_none, Sem.run_bind, e, Result.andThen_ok, Sem.run_pure], rfl,
    hs.2.2.2.alloc _ _ (fun _ _ _ => ⟨#[], 0, by simp [PH.one_self], rfl⟩)⟩
theorem OpT_lookup (hk : KeyF kk kf) {t tk te : TypeId} {x y : Operand} {b i : Nat} {kx : κ} {z : ν} {xs : List (κ × ν)} (hn : Nat.blt d c.n = true) (hd : o.dst = some d) (ho : o.op = .lookup t x y false) (hx : ev fr x = some (.map (some b))) (hy : ev fr y = some (.int kk (kf kx)))
    (ht : c.P.underlying t = some (.map tk te)) (htk : c.P.underlying tk = some (.int kk)) (hz : TyZ c.P te (V z)) (hi : own[i]? = some (some (mapR b kk kf V xs))) :
    OpT c o ⟨fr, own, shr⟩ (fun s => s = ⟨(d, some (V (mget z kx xs))) :: fr, own, shr⟩) :=
  ZI hn hd fun a w hs => by
    obtain ⟨R, hs', hw⟩ := hs.2.2.2
    obtain ⟨es, ck, h1, h2⟩ := hw.ow i _ hi
    have hb := hw.hw i b _ h1
    have hik : IsKey (.int kk) (.int kk (kf kx)) := rfl
    rcases find_map hk kx z es.toList xs 0 h2 with ⟨f1, f2, _⟩ | ⟨j, e, p, _, _, f1, f2, _, _⟩
    · rw [f2]
      simp [execOp, ho, QH hs.2.2.1 hx, QH hs.2.2.1 hy, Instr.lookup, run_underlying ht, MapKept.run_getObj_map hb, MapKept.run_checkKey htk hik, MapKept.run_findKey htk f1, hz w]
    · rw [f2]
      simp [execOp, ho, QH hs.2.2.1 hx, QH hs.2.2.1 hy, Instr.lookup, run_underlying ht, MapKept.run_getObj_map hb, MapKept.run_checkKey htk hik, MapKept.run_findKey htk f1]
theorem OpT_mapUpdate (hk : KeyF kk kf) (kx : κ) (u : ν) {t tk te : TypeId} {x y q : Operand} {b i : Nat} {z : ν} {v : Value} {xs : List (κ × ν)} (hd : o.dst = none) (ho : o.op = .mapUpdate t x y q) (hx : ev fr x = some (.map (some b))) (hy : ev fr y = some (.int kk (kf kx))) (hq : ev fr q = some v) (hv : v = V u)
    (ht : c.P.underlying t = some (.map tk te)) (htk : c.P.underlying tk = some (.int kk)) (hi : own[i]? = some (some (mapR b kk kf V xs))) (_ : z = z) :
    OpT c o ⟨fr, own, shr⟩ (fun s => s = ⟨fr, own.set i (some (mapR b kk kf V (mput kx u xs))), shr⟩) :=
  OpT_skipRun hd fun a w hs => by
    subst hv
    obtain ⟨R, hs', hw⟩ := hs.2.2.2
    obtain ⟨es, ck, h1, h2⟩ := hw.ow i _ hi
    have hb := hw.hw i b _ h1
    have hik : IsKey (.int kk) (.int kk (kf kx)) := rfl
    have fin : ∀ es' ck', es'.toList.map entV = (mput kx u xs).map (fun p => (Value.int kk (kf p.1), V p.2)) → HSat c.R0 c.w0 c.B (own.set i (some (mapR b kk kf V (mput kx u xs)))) shr { w with heap := w.heap.setIfInBounds b (.map es' ck') } := fun es' ck' he => by
      have h0 := MapKept.heap_set (o' := Obj.map es' ck') hb
      refine ⟨R, _, hw.upd i (PH.one b (.map es' ck')) ?_ (by simp) ?_ ?_ rfl rfl rfl (own_set ?_)⟩
      · intro b' hb1 hb2
        by_cases eq : b' = b
        · subst eq; rw [h1] at hb2; cases hb2
        · exact h0.2 b' eq
      · intro b' o' h; obtain ⟨e1, e2⟩ := PH.one_some h; subst e1; subst e2; exact h0.1
      · intro b' o' h; obtain ⟨e1, _⟩ := PH.one_some h; subst e1; left; rw [h1]; simp
      · exact ⟨es', ck', PH.one_self _ _, he⟩
    rcases find_map hk kx z es.toList xs 0 h2 with ⟨f1, _, f3⟩ | ⟨j, e, p, g1, g2, f1, _, f4, f5⟩
    · refine ⟨{ w with heap := w.heap.setIfInBounds b (.map (es.push ⟨.int kk (kf kx), V u, ck⟩) (ck + 1)) }, ?_, fin _ _ ?_⟩
      · simp [execOp, ho, QH hs.2.2.1 hx, QH hs.2.2.1 hy, QH hs.2.2.1 hq, Instr.mapUpdate, run_underlying ht, MapKept.run_getObj_map hb, MapKept.run_checkKey htk hik, MapKept.run_findKey htk f1, MapKept.run_setObj_map _ hb]
      · rw [f3 u, Array.toList_push, List.map_append, List.map_append, h2]; rfl
    · have hj : es[j]? = some e := by simpa using g1
      refine ⟨{ w with heap := w.heap.setIfInBounds b (.map (es.modify j fun e => { e with key := .int kk (kf kx), val := V u }) ck) }, ?_, fin _ _ ?_⟩
      · simp [execOp, ho, QH hs.2.2.1 hx, QH hs.2.2.1 hy, QH hs.2.2.1 hq, Instr.mapUpdate, run_underlying ht, MapKept.run_getObj_map hb, MapKept.run_checkKey htk hik, MapKept.run_findKey htk f1, hj, f4, MapKept.run_keyThatStays hik, MapKept.run_setObj_map _ hb]
      · rw [f5 u]
        apply List.ext_getElem?
        intro q
        simp only [Array.toList_modify, List.getElem?_map, List.getElem?_modify, List.getElem?_set]
        have h3 := congrArg (fun l => l[q]?) h2
        simp only [List.getElem?_map] at h3
        by_cases eq : j = q
        · subst eq
          have hlt : j < xs.length := (List.getElem?_eq_some_iff.1 g2).1
          rw [g1]; simp [hlt, entV]
        · simp only [eq, if_false]
          cases hq' : es.toList[q]? with
          | none => rw [hq'] at h3; simpa using h3
          | some e' => rw [hq'] at h3; simpa using h3
end

section
variable {c : Cx} {k : List Item} {s : St} {ops : Array Oper} {rest : List Oper} {o : Oper} {fr : List (Nat × Option Value)} {own : List (Option Res)} {shr : List Fact} {d : Nat}
theorem OpT_idxKA {t e : TypeId} {x y : Operand} {n sz : Nat} {kk : IntKind} {j : Int} {cs vs : List Value} (hn : Nat.blt d c.n = true) (hd : o.dst = some d) (ho : o.op = .index t x y) (hx : ev fr x = some (.agg cs.toArray)) (hy : ev fr y = some (.int kk j)) (ht : ArrF c.P t n e sz) (he : TyF c.P e true sz) (hj : decide (0 ≤ j ∧ j < (n : Int)) = true) (hv : (cs.drop (j.toNat * sz)).take sz = vs) :
    OpT c o ⟨fr, own, shr⟩ (fun s => s = ⟨(d, some (.agg vs.toArray)) :: fr, own, shr⟩) :=
  ZI hn hd fun a w hs => by
    have hj' : 0 ≤ j ∧ j < (n : Int) := by simpa using hj
    have hun := run_underlying ht.und w
    simp only [execOp, ho, QH hs.2.2.1 hx, QH hs.2.2.1 hy, Instr.index, asIntOf, Sem.run_bind, Sem.run_pure, Result.andThen_ok, hun]
    rw [if_pos hj']
    have h4 : cs.toArray.extract (j.toNat * sz) (j.toNat * sz + sz) = vs.toArray := by
      apply Array.ext'
      rw [Array.toList_extract]
      simp only [List.extract]
      rw [show j.toNat * sz + sz - j.toNat * sz = sz by omega, hv]
    simp [ht.ez, part, he.ag, he.sz]
    exact hv
theorem OpT_sliceArrH {t e : TypeId} {x hi : Operand} {b n sz : Nat} {kk : IntKind} {m : Int} (hn : Nat.blt d c.n = true) (hd : o.dst = some d) (ho : o.op = .slice t x none (some hi) none) (hx : ev fr x = some (.pointer (some ⟨b, 0, none⟩))) (hh : ev fr hi = some (.int kk m)) (ht : ArrF c.P t n e sz) (hm : decide (0 ≤ m ∧ m ≤ (n : Int)) = true) (h0 : Nat.blt 0 n = true) :
    OpT c o ⟨fr, own, shr⟩ (fun s => s = ⟨(d, some (.slice (some ⟨b, 0, none⟩) m.toNat n)) :: fr, own, shr⟩) :=
  ZI hn hd fun a w hs => by
    have hm' : 0 ≤ m ∧ m ≤ (n : Int) := by simpa using hm
    have h0' : ¬ n = 0 := by have := Nat.blt_eq.mp h0; omega
    have hu := run_underlying ht.und w
    have hez := ht.ez w
    simp [execOp, ho, QH hs.2.2.1 hx, QH hs.2.2.1 hh, Instr.sliceAt, hu, Instr.sureAddr, Instr.sliceBounds, Instr.sliceBound, asIntOf, hm', hez, h0', Addr.add_zero']
theorem OpT_idxSl {t e : TypeId} {x y : Operand} {b off n cap sz bt : Nat} {z : Value} {kk : IntKind} {m : Int} (hn : Nat.blt d c.n = true) (hd : o.dst = some d) (ho : o.op = .indexAddr t x y) (hx : ev fr x = some (.slice (some ⟨b, off, none⟩) n cap)) (hy : ev fr y = some (.int kk m)) (ht : SlF c.P t e sz bt z) (hm : decide (0 ≤ m ∧ m < (n : Int)) = true) :
    OpT c o ⟨fr, own, shr⟩ (fun s => s = ⟨(d, some (.pointer (some ⟨b, off + m.toNat * sz, none⟩))) :: fr, own, shr⟩) :=
  ZI hn hd fun a w hs => by
    have hm' : 0 ≤ m ∧ m < (n : Int) := by simpa using hm
    have hun := run_underlying ht.und w
    simp [execOp, ho, QH hs.2.2.1 hx, QH hs.2.2.1 hy, Instr.indexAt, asIntOf, hun, ht.sz, hm', Addr.add_lit]
end
end Go.Proofs.Ytlofegfaphijpaa

end

section
namespace Go.Proofs.Ytlofegfaphijpaa

section
variable {c : Cx} {k : List Item} {s : St} {ops : Array Oper} {rest : List Oper} {o : Oper} {fr : List (Nat × Option Value)} {own : List (Option Res)} {shr : List Fact} {d : Nat} {τ σ : Type} {S : Shape τ} {S' : Shape σ}

end
end Go.Proofs.Ytlofegfaphijpaa

end

section
namespace Go.Proofs.Ytlofegfaphijpaa

section
variable {c : Cx} {k : List Item} {s : St} {ops : Array Oper} {rest : List Oper} {lo : Nat} {fr : List (Nat × Option Value)} {own : List (Option Res)} {shr : List Fact}
theorem vs_add (G : Fact) (hG : ∀ R, (∀ F ∈ shr, F.p R) → G.p R) : VS c ⟨fr, own, shr⟩ ⟨fr, own, shr ++ [G]⟩ :=
  fun a w hs => ⟨hs.1, hs.2.1, hs.2.2.1, hs.2.2.2.add G fun R _ h => hG R h⟩
theorem mem_at {i : Nat} {F : Fact} (h : shr[i]? = some F) {R : PH} (hF : ∀ G ∈ shr, G.p R) : F.p R := hF F (List.mem_of_getElem? h)
theorem HSat.adds {R0 : PH} {w0 : World} {B : Nat → Prop} {w : World} (h : HSat R0 w0 B own shr w) {β : Type} {P : β → Prop} {Gs : β → List Fact} (hG : ∀ R, (∀ F ∈ shr, F.p R) → ∃ q, P q ∧ ∀ G ∈ Gs q, G.p R) : ∃ q, P q ∧ HSat R0 w0 B own (shr ++ Gs q) w := by
  obtain ⟨R, hs, hw⟩ := h
  obtain ⟨q, hq, hg⟩ := hG R hw.sh
  refine ⟨q, hq, R, hs, hw.r0, hw.rw_, fun F hF => ?_, hw.ow, hw.hw, hw.dj, hw.rd, hw.new, hw.rnew, hw.size, hw.keep, hw.os, hw.tape, hw.output⟩
  rcases List.mem_append.1 hF with h | h
  · exact hw.sh F h
  · exact hg F h
end
end Go.Proofs.Ytlofegfaphijpaa

end

section
namespace Go.Proofs.Ytlofegfaphijpaa

def FnOk {α β : Type} (P : Program) (av : α → List Value) (rv : β → Value) (v : Value) (φ : α → Option β) (h : PH) : Prop :=
  v.oneCell' = true ∧ ∀ x r, φ x = some r → ∃ (f : FuncId) (cp : List Value) (shr0 : List Fact), v = .func (.func f) #[] cp.toArray ∧ QQ P f ∧ (∀ F ∈ shr0, F.p h) ∧ Ctr P f (av x ++ cp).toArray [] shr0 (fun u own shr => u = rv r ∧ own = [] ∧ shr = [])
theorem FnOk.mono {α β : Type} {P : Program} {av : α → List Value} {rv : β → Value} {v : Value} {φ : α → Option β} {h h' : PH} (hl : h.le h') (hf : FnOk P av rv v φ h) : FnOk P av rv v φ h' :=
  ⟨hf.1, fun x r e => let ⟨f, cp, shr0, a, b, c, d⟩ := hf.2 x r e; ⟨f, cp, shr0, a, b, fun F hF => F.mono hl (c F hF), d⟩⟩
def Fact.fn {α β : Type} (P : Program) (av : α → List Value) (rv : β → Value) (v : Value) (φ : α → Option β) : Fact := ⟨FnOk P av rv v φ, FnOk.mono⟩
def av0 : Unit → List Value := fun _ => []
def Shape.fn {β : Type} (P : Program) (rv : β → Value) : Shape (Option β) :=
  ⟨1, false, fun h cs o => ∃ v, cs = [v] ∧ FnOk P av0 rv v (fun _ => o) h, fun hl ⟨v, e, h⟩ => ⟨v, e, h.mono hl⟩, fun ⟨v, e, _⟩ => by subst e; rfl, fun ⟨v, e, h⟩ u hu => by subst e; simp at hu; subst hu; exact h.1⟩
theorem fal_nil {R : PH} : ∀ F ∈ ([] : List Fact), F.p R := fun F h => by cases h
theorem KD {R : PH} {G : Fact} {l : List Fact} (h : G.p R) (hs : ∀ F ∈ l, F.p R) : ∀ F ∈ G :: l, F.p R := fun F hF => by
  cases hF with
  | head => exact h
  | tail _ hm => exact hs F hm
section
variable {c : Cx} {k : List Item} {o : Oper} {fr : List (Nat × Option Value)} {own : List (Option Res)} {shr : List Fact} {d : Nat}
theorem OpT_callG {f : FuncId} {fx : Operand} {as : Array Operand} {ats : Array TypeId} {vs : List Value} {cp : List Value} {args : Array Value} {shr0 : List Fact} {rv : Value} {dd : Option Nat} (hC : Ctr c.P f args [] shr0 (fun u own shr => u = rv ∧ own = [] ∧ shr = [])) (hn : dstOk dd c.n = true) (hd : o.dst = dd)
    (ho : o.op = .call { callee := .value fx, args := as, argTypes := ats }) (hfx : ev fr fx = some (.func (.func f) #[] cp.toArray)) (hvs : evl fr as.toList = some vs) (hc : QQ c.P f) (ha : args = (vs ++ cp).toArray) {a : Act} {w : World} (hs : Sat c ⟨fr, own, shr⟩ a w) (hF : Sat c ⟨fr, own, shr ++ shr0⟩ a w) {K : Act → World → Prop} {Q : Exit → Act → World → Prop}
    (hK : ∀ a' w', Sat c ⟨putD dd rv fr, own, shr⟩ a' w' → K a' w') : o.wp c.P a w K Q := by
  have hev := hs.2.2.1
  obtain ⟨R, hs', hw⟩ := hF.2.2.2
  unfold Oper.wp
  have hmap : as.map a.eval = vs.toArray := by apply Array.ext'; simpa using evl_eval hev hvs
  have hrun : (execOp a.eval o).run c.P w = .ok (.enter f (vs.toArray ++ cp.toArray)) w := by
    have := hc (vs.toArray ++ cp.toArray) w
    simp only [List.append_toArray] at this
    simp only [execOp, ho, resolve, hmap, QH hev hfx, Deferred.ofValue, Sem.run_bind, Sem.run_pure, Result.andThen_ok, invoke, List.append_toArray, List.nil_append, this]
  rw [hrun, Oper.upon_enter]
  have harg : vs.toArray ++ cp.toArray = args := by rw [ha]; simp
  rw [harg]
  have hw2 := hw.pick [] (shr' := shr0) rfl (fun F h => List.mem_append_right _ h)
  refine (hC R w (fun _ => PH.emp) hw.rw_ (fun F hF => hw.sh F (List.mem_append_right _ hF)) (fun i r hi => by cases hi) (fun i b o hb => by cases hb) (fun i j _ b => .inl rfl) (fun i b => .inr rfl)).mono ?_
  rintro e w1 ⟨rv', own1, shr1, rfl, ⟨rfl, rfl, rfl⟩, hh⟩
  dsimp only
  have hh' : HSat R w (fun b => ∃ i, i < ([] : List Res).length ∧ (match ([] : List Nat)[i]? with | some j => hs' j | none => PH.emp : PH) b ≠ none) (([] : List Res).map some) [] w1 := hh
  have hcall := hw.call [] [] 0 rfl hh'
  have h1 : HSat c.R0 c.w0 c.B own shr w1 := by
    obtain ⟨R2, hs2, hw3⟩ := hcall
    refine ⟨R2, hs2, hw3.r0, hw3.rw_, fun F hF => hw3.sh F (by simp [hF]), fun i r hi => hw3.ow i r (by simpa [clear] using hi), hw3.hw, hw3.dj, hw3.rd, hw3.new, hw3.rnew, hw3.size, hw3.keep, hw3.os, hw3.tape, hw3.output⟩
  rw [hd]
  cases dd with
  | none => exact hK _ _ ⟨hs.1, hs.2.1, hs.2.2.1, h1⟩
  | some d => exact hK _ _ (Sat_put (c := c) hn ⟨hs.1, hs.2.1, hs.2.2.1, h1⟩)
theorem OpT_callF {α β : Type} {P : Program} {av : α → List Value} {rv : β → Value} {v u : Value} {φ : α → Option β} (x : α) {r : β} {fx : Operand} {as : Array Operand} {ats : Array TypeId} {i : Nat} {dd : Option Nat} (hn : dstOk dd c.n = true) (hd : o.dst = dd)
    (ho : o.op = .call { callee := .value fx, args := as, argTypes := ats }) (hfx : ev fr fx = some v) (hi : shr[i]? = some (Fact.fn P av rv v φ)) (hP : c.P = P) (hvs : evl fr as.toList = some (av x)) (hx : φ x = some r) (hu : rv r = u) : OpT c o ⟨fr, own, shr⟩ (fun s => s = ⟨putD dd u fr, own, shr⟩) := by
  intro a w hs K Q hK
  subst hP; subst hu
  have hG : ∀ R, (∀ F ∈ shr, F.p R) → ∃ q : FuncId × List Value × List Fact, (v = .func (.func q.1) #[] q.2.1.toArray ∧ QQ c.P q.1 ∧ Ctr c.P q.1 (av x ++ q.2.1).toArray [] q.2.2 (fun u own shr => u = rv r ∧ own = [] ∧ shr = [])) ∧ ∀ G ∈ q.2.2, G.p R := fun R hF => by
    obtain ⟨_, h⟩ := (mem_at hi hF : FnOk c.P av rv v φ R)
    obtain ⟨f, cp, shr0, a1, a2, a3, a4⟩ := h x r hx
    exact ⟨⟨f, cp, shr0⟩, ⟨a1, a2, a4⟩, a3⟩
  obtain ⟨q, ⟨hv, hc, hC⟩, hh⟩ := hs.2.2.2.adds (P := fun q : FuncId × List Value × List Fact => v = .func (.func q.1) #[] q.2.1.toArray ∧ QQ c.P q.1 ∧ Ctr c.P q.1 (av x ++ q.2.1).toArray [] q.2.2 (fun u own shr => u = rv r ∧ own = [] ∧ shr = [])) (Gs := fun q => q.2.2) hG
  subst hv
  exact OpT_callG hC hn hd ho hfx hvs hc rfl hs ⟨hs.1, hs.2.1, hs.2.2.1, hh⟩ (fun a' w' h => hK _ rfl a' w' h)
theorem OpT_loadPF {β : Type} {P : Program} {rv : β → Value} {t : TypeId} {x : Operand} {p : Value} {i n : Nat} {y : Option β} (hn : Nat.blt d c.n = true) (hd : o.dst = some d) (ho : o.op = .load t x) (hx : ev fr x = some p)
    (ht : TyF c.P t false n) (hi : shr[i]? = some (Fact.pt (Shape.fn P rv) p y)) : OpT c o ⟨fr, own, shr⟩ (fun s => ∃ v, s = ⟨(d, some v) :: fr, own, shr ++ [Fact.fn P av0 rv v (fun _ => y)]⟩) :=
  Kn hn hd fun a w hs => by
    obtain ⟨R, hs', hw⟩ := hs.2.2.2
    obtain ⟨ad, cs, e, hc, v, e', hsl⟩ := hw.sh _ (List.mem_of_getElem? hi)
    subst e; subst e'
    have h1 := PH.cell_inW hw.rw_ (hc 0 v rfl)
    rw [Addr.add_zero'] at h1
    refine ⟨v, w, v, by simp [execOp, ho, QH hs.2.2.1 hx, Instr.loadAt, Instr.sureAddr, loadVar, ht.ag, h1], rfl, ?_⟩
    exact ⟨R, hs', hw.r0, hw.rw_, fun F hF => by
      rcases List.mem_append.1 hF with h | h
      · exact hw.sh F h
      · simp at h; subst h; exact hsl, hw.ow, hw.hw, hw.dj, hw.rd, hw.new, hw.rnew, hw.size, hw.keep, hw.os, hw.tape, hw.output⟩
theorem KL {β : Type} {P : Program} {rv : β → Value} {v : Value} {y : Option β} {i : Nat} (hi : shr[i]? = some (Fact.fn P av0 rv v (fun _ => y))) : ∀ R, (∀ F ∈ shr, F.p R) → (Shape.fn P rv).rel R [v] y := fun R hF => ⟨v, rfl, mem_at hi hF⟩
theorem one_cells {v : Value} (h : v.oneCell' = true) : v.cells = #[v] := by
  cases v <;> first | rfl | simp [Value.oneCell'] at h
theorem ZS {τ : Type} (S : Shape τ) {t e : TypeId} {n : Nat} {ps : Array (Nat × Operand)} {vs : List Value} {xs : List τ} {b : Nat} {z : Value} (hS : S.sz = 1) (hn : Nat.blt d c.n = true) (hd : o.dst = some d) (ho : o.op = .buildSlice t n ps) (hx : evs fr ps.toList = some (numb vs 0)) (ht : SlF c.P t e 1 b z)
    (hnv : vs.length = n) (hl : vs.length = xs.length) (hm : Nat.ble n 65536 = true) (hrel : ∀ R, (∀ F ∈ shr, F.p R) → ∀ (i : Nat) (ci : List Value) (x : τ), (vs.map fun v => [v])[i]? = some ci → xs[i]? = some x → S.rel R ci x) :
    OpT c o ⟨fr, own, shr⟩ (fun s => ∃ v, s = ⟨(d, some v) :: fr, own ++ [some (rowS S v xs)], shr⟩) := fun a w hs => by
  have hm' := Nat.le_of_ble_eq_true hm
  have hcl : ∀ v ∈ vs, v.cells = #[v] := fun v h => by
    obtain ⟨R, hs', hw⟩ := hs.2.2.2
    obtain ⟨i, hi⟩ := List.mem_iff_getElem?.1 h
    have hlt := (List.getElem?_eq_some_iff.1 hi).1
    have hr := hrel R hw.sh i [v] (xs[i]'(by omega)) (by simp [hi]) (List.getElem?_eq_getElem _)
    exact one_cells (S.one hr v (by simp))
  have hb : BldF c.P t n (numb vs 0) e vs := by
    refine bldF ht (by omega) ?_
    have hsz : (if n * 1 = 0 then #[] else (Array.range (n * 1)).map (z.cells[· % z.cells.size]!)).size = n := by
      split
      · simp; omega
      · simp
    have := fill_numb vs 0 (if n * 1 = 0 then #[] else (Array.range (n * 1)).map (z.cells[· % z.cells.size]!)) hcl (by rw [hsz]; omega)
    simpa using this
  exact QK (S := S) (xs := xs) (css := vs.map fun v => [v]) (cs := vs) hn hd ho hx hb (by simp [← List.flatMap_def]) (by simp [hl]) (by omega) (by simp only [Nat.ble_eq]; omega) hrel a w hs

/-! interfaces -/
def MkIf (P : Program) (t : TypeId) : Prop := ∀ v w, (Instr.makeInterface t v).run P w = .ok (.iface t v) w
def Asrt (P : Program) (u x t : TypeId) : Prop := ∀ v w, (Instr.typeAssert (.iface u v) x t false).run P w = .ok v w
def Meth (P : Program) (t : TypeId) (m : String) (f : FuncId) : Prop := ∀ v w, (method (P.types.size + Made.depth) t v m).run P w = .ok (f, v) w
theorem OpT_mkIf {t : TypeId} {x : Operand} {v : Value} (hn : Nat.blt d c.n = true) (hd : o.dst = some d) (ho : o.op = .makeInterface t x) (hx : ev fr x = some v) (ht : MkIf c.P t) : OpT c o ⟨fr, own, shr⟩ (fun y => y = ⟨(d, some (.iface t v)) :: fr, own, shr⟩) :=
  ZI hn hd fun a w hs => by simp [execOp, ho, QH hs.2.2.1 hx, ht v w]
theorem OpT_asrt {u y t : TypeId} {x : Operand} {v : Value} (hn : Nat.blt d c.n = true) (hd : o.dst = some d) (ho : o.op = .typeAssert x y t false) (hx : ev fr x = some (.iface u v)) (ht : Asrt c.P u y t) : OpT c o ⟨fr, own, shr⟩ (fun y => y = ⟨(d, some v) :: fr, own, shr⟩) :=
  ZI hn hd fun a w hs => by simp [execOp, ho, QH hs.2.2.1 hx, ht v w]
theorem OpT_invoke {t : TypeId} {m : String} {rc : Value} {f : FuncId} {fx : Operand} {as : Array Operand} {ats : Array TypeId} {vs : List Value} {args : Array Value} {own0 : List Res} {shr0 : List Fact} {Post : Value → List Res → List Fact → Prop} {dd : Option Nat} (hC : Ctr c.P f args own0 shr0 Post) (is js : List Nat) (hn : dstOk dd c.n = true) (hd : o.dst = dd)
    (ho : o.op = .call { callee := .invoke fx m, args := as, argTypes := ats }) (hfx : ev fr fx = some (.iface t rc)) (hvs : evl fr as.toList = some vs) (hc : Meth c.P t m f ∧ QQ c.P f) (ha : args = (rc :: vs).toArray) (hnd : Xf is = true) (hio : pick own is = own0.map some) (hjs : pickF shr js = some shr0) :
    OpT c o ⟨fr, own, shr⟩ (fun s => ∃ rv own1 shr1, Post rv own1 shr1 ∧ s = ⟨putD dd rv fr, clear own is ++ own1.map some, shr ++ shr1⟩) := by
  intro a w hs K Q hK
  have hev := hs.2.2.1
  obtain ⟨R, hs', hw⟩ := hs.2.2.2
  unfold Oper.wp
  have hmap : as.map a.eval = vs.toArray := by apply Array.ext'; simpa using evl_eval hev hvs
  have hrun : (execOp a.eval o).run c.P w = .ok (.enter f (rc :: vs).toArray) w := by
    have h1 := hc.2 (rc :: vs).toArray w
    have h2 := hc.1 rc w
    have e1 : (#[Value.iface t rc] ++ vs.toArray)[0]? = some (.iface t rc) := by simp
    have e2 : (#[Value.iface t rc] ++ vs.toArray).extract 1 (#[Value.iface t rc] ++ vs.toArray).size = vs.toArray := by
      apply Array.ext'; simp
    have e3 : #[rc] ++ vs.toArray = (rc :: vs).toArray := by simp
    simp only [execOp, ho, resolve, hmap, QH hev hfx, Sem.run_bind, Sem.run_pure, Result.andThen_ok, invoke, e1, e2, callMethod, run_program, h2, e3, h1]
  rw [hrun, Oper.upon_enter]
  have hil : is.length = own0.length := by
    have := congrArg List.length hio
    simpa [pick] using this
  have hall : ∀ (i : Nat), (match is[i]? with | some j => hs' j | none => PH.emp : PH).inW w := fun i => by
    cases e : is[i]? with
    | some j => exact hw.hw j
    | none => intro b o hb; cases hb
  rw [← ha]
  have hw2 := hw.pick is hnd (pickF_mem hjs)
  refine (hC R w (fun (i : Nat) => match is[i]? with | some j => hs' j | none => PH.emp) hw.rw_ (fun F hF => hw.sh F (pickF_mem hjs F hF)) ?_ hall ?_ ?_).mono ?_
  · intro i r hi
    refine hw2.ow i r ?_
    rw [hio]; simp [hi]
  · exact hw2.dj
  · exact hw2.rd
  · rintro e w1 ⟨rv, own1, shr1, rfl, hp, hh⟩
    dsimp only
    have hcall := hw.call is own1 own0.length hil hh
    have hfin : HSat c.R0 c.w0 c.B (clear own is ++ own1.map some) (shr ++ shr1) w1 := hcall
    refine hK _ ⟨rv, own1, shr1, hp, rfl⟩ _ _ ?_
    rw [hd]
    cases dd with
    | none => exact ⟨hs.1, hs.2.1, hs.2.2.1, hfin⟩
    | some d => exact Sat_put (c := c) hn ⟨hs.1, hs.2.1, hs.2.2.1, hfin⟩
end
end Go.Proofs.Ytlofegfaphijpaa

end

section
namespace Go.Proofs.Ytlofegfaphijpaa

section
variable {c : Cx} {k : List Item} {fr : List (Nat × Option Value)} {own : List (Option Res)} {shr : List Fact} {σ : Type} {F : σ → Nat × List Value → Res}
end
end Go.Proofs.Ytlofegfaphijpaa

end

section
namespace Go.Proofs.Ytlofegfaphijpaa

/-! ## what is kept of a state: reckoned -/
def selZ (fr : List (Nat × Option Value)) : List Nat → Option (List (Nat × Option Value))
  | [] => some []
  | t :: ts => match lk fr t with
    | none => none
    | some v => match selZ fr ts with
      | none => none
      | some r => some ((t, some v) :: r)
theorem selZ_eq {fr : List (Nat × Option Value)} : ∀ {ts : List Nat} {fr' : List (Nat × Option Value)}, selZ fr ts = some fr' → sel fr ts = fr'
  | [], fr', h => by
    cases h; rfl
  | t :: ts, fr', h => by
    unfold selZ at h
    split at h
    · cases h
    · next v hv =>
      split at h
      · cases h
      · next r hr =>
        cases h
        rw [sel, hv, selZ_eq hr]
def pickZ (own : List (Option Res)) : List Nat → Option (List (Option Res))
  | [] => some []
  | i :: is => match own[i]? with
    | none => none
    | some x => match x with
      | none => none
      | some r => match pickZ own is with
        | none => none
        | some l => some (some r :: l)
theorem pickZ_eq {own : List (Option Res)} : ∀ {is : List Nat} {own' : List (Option Res)}, pickZ own is = some own' → pick own is = own'
  | [], own', h => by
    cases h; rfl
  | i :: is, own', h => by
    unfold pickZ at h
    split at h
    · cases h
    · next x hx =>
      split at h
      · cases h
      · next r =>
        split at h
        · cases h
        · next l hl =>
          cases h
          have := pickZ_eq hl
          unfold pick at this ⊢
          rw [List.map_cons, hx, this]; rfl
def pickTZ (shr : List Fact) : List Nat → Option (List Fact)
  | [] => some []
  | j :: js => match shr[j]? with
    | none => none
    | some f => match pickTZ shr js with
      | none => none
      | some l => some (f :: l)
theorem pickTZ_eq {shr : List Fact} : ∀ {js : List Nat} {shr' : List Fact}, pickTZ shr js = some shr' → pickT shr js = shr'
  | [], shr', h => by
    cases h; rfl
  | j :: js, shr', h => by
    unfold pickTZ at h
    split at h
    · cases h
    · next f hf =>
      split at h
      · cases h
      · next l hl =>
        cases h
        have := pickTZ_eq hl
        unfold pickT at this ⊢
        rw [List.map_cons, hf, this]; rfl
section
variable {c : Cx} {k : List Item} {s : St} {ops : Array Oper} {rest : List Oper} {a : Act} {w : World}
theorem tZ (ts is js : List Nat) {fr' : List (Nat × Option Value)} {own' : List (Option Res)} {shr' : List Fact} (hn : Xf is = true) (hf : selZ s.fr ts = some fr') (ho : pickZ s.own is = some own') (hs : pickTZ s.shr js = some shr') (h : Tk c k ⟨fr', own', shr'⟩) : Tk c k s :=
  Tk_wkS ts is js hn (selZ_eq hf) (pickZ_eq ho) (pickTZ_eq hs) h
theorem aZ {lo : Nat} (ts is js : List Nat) {fr' : List (Nat × Option Value)} {own' : List (Option Res)} {shr' : List Fact} (hn : Xf is = true) (hf : selZ s.fr ts = some fr') (ho : pickZ s.own is = some own') (hs : pickTZ s.shr js = some shr') (h : TA c ops k lo ⟨fr', own', shr'⟩) : TA c ops k lo s :=
  TA_wkS ts is js hn (selZ_eq hf) (pickZ_eq ho) (pickTZ_eq hs) h
theorem gZ {lo : Nat} (h0 : Sat c s a w) (ts is js : List Nat) {fr' : List (Nat × Option Value)} {own' : List (Option Res)} {shr' : List Fact} (hn : Xf is = true) (hf : selZ s.fr ts = some fr') (ho : pickZ s.own is = some own') (hs : pickTZ s.shr js = some shr') (h : TA c ops k lo ⟨fr', own', shr'⟩) : TAat c ops k lo a w :=
  h a w (h0.wkS ts is js hn (selZ_eq hf) (pickZ_eq ho) (pickTZ_eq hs))
end

/-! ## values built of three slices -/
section
variable {c : Cx} {o : Oper} {d : Nat} {fr : List (Nat × Option Value)} {own : List (Option Res)} {shr : List Fact}
end
section
variable {c : Cx} {k : List Item} {s : St} {ops : Array Oper} {rest : List Oper} {o : Oper} {fr : List (Nat × Option Value)} {own : List (Option Res)} {shr : List Fact} {d i : Nat} {v : Value} {a : Act} {w : World} {K : Act → World → Prop} {Q : Exit → Act → World → Prop}
theorem cgb {b c : Bool} (h : b = c) : some (Value.bool b) = some (Value.bool c) := congrArg (fun b => some (Value.bool b)) h
theorem sMv {x : Operand} (hg : o.guard = none) (hd : o.dst = some d) (H : (o.op, Nat.blt d c.n, ev fr x) = (.move x, true, some v)) (h : Tops c ops k rest ⟨(d, some v) :: fr, own, shr⟩) : Tops c ops k (o :: rest) ⟨fr, own, shr⟩ := by
  simp only [Prod.mk.injEq] at H
  exact Qa hg (Qk H.2.1 hd H.1 H.2.2) h
theorem sAs {x : Operand} (hg : o.guard = none) (hd : o.dst = some d) (H : (o.op, Nat.blt d c.n, ev fr x) = (.assign x, true, some v)) (h : Tops c ops k rest ⟨(d, some v) :: fr, own, shr⟩) : Tops c ops k (o :: rest) ⟨fr, own, shr⟩ := by
  simp only [Prod.mk.injEq] at H
  exact Qa hg (QN H.2.1 hd H.1 H.2.2) h
theorem pF {fr' : List (Nat × Option Value)} {own' : List (Option Res)} {shr' : List Fact} (h : Sat c ⟨(d, some v) :: fr, own, shr⟩ a w) (i : Nat) (is js : List Nat) (H : (fidx d fr, setF fr i (d, some v), Xf is, pick own is, pickT shr js) = (some i, fr', true, own', shr')) : Sat c ⟨fr', own', shr'⟩ a w := by
  simp only [Prod.mk.injEq] at H
  exact h.putF H.1 is js H.2.1 H.2.2.1 H.2.2.2.1 H.2.2.2.2
theorem wGo {s' : St} (hi : ops[i]? = some o) (hg : o.guard = none) (hs : Sat c s a w) (ho : OpT c o s (fun x => x = s')) (hK : ∀ a' w', Sat c s' a' w' → K a' w') : wpOp c.P ops Q i K a w :=
  QO hi hg hs ho fun _ e a' w' h => hK a' w' (e ▸ h)
theorem wYs {s' : St} {j : Nat} {b : Bool} (hi : ops[i]? = some o) (hg : o.guard = some (j, b)) (hd : ((ops[j]?).bind (·.dst)) = some d) (hs : Sat c s a w) (hl : lk s.fr d = some (.bool b)) (ho : OpT c o s (fun x => x = s')) (hK : ∀ a' w', Sat c s' a' w' → K a' w') : wpOp c.P ops Q i K a w :=
  Xg hi hg hd hs hl ho fun _ e a' w' h => hK a' w' (e ▸ h)
theorem bC (b : Bool) : b = true ∨ b = false := Bool.eq_false_or_eq_true b
end
end Go.Proofs.Ytlofegfaphijpaa

end

section
namespace Go.Proofs.Ytlofegfaphijpaa

theorem shr64_bv (x : UInt64) (n : Nat) : (Kb x n).toBitVec = x.toBitVec >>> n := by
  apply BitVec.eq_of_toNat_eq
  have hx := x.toNat_lt
  simp only [Kb, UInt64.toNat_toBitVec, UInt64.toNat_ofNat', BitVec.toNat_ushiftRight, Nat.shiftRight_eq_div_pow]
  by_cases h : n ≤ 64
  · rw [Nat.min_eq_left h, Nat.mod_eq_of_lt]
    exact Nat.lt_of_le_of_lt (Nat.div_le_self _ _) hx
  · rw [Nat.min_eq_right (by omega)]
    have h1 : x.toNat / 2 ^ 64 = 0 := Nat.div_eq_of_lt hx
    have h2 : x.toNat / 2 ^ n = 0 := Nat.div_eq_of_lt (Nat.lt_of_lt_of_le hx (Nat.pow_le_pow_right (by decide) (by omega)))
    rw [h1, h2]
theorem shl64_bv (x : UInt64) (n : Nat) : (Km x n).toBitVec = x.toBitVec <<< n := by
  apply BitVec.eq_of_toNat_eq
  simp only [Km, UInt64.toNat_toBitVec, UInt64.toNat_ofNat', BitVec.toNat_shiftLeft, Nat.shiftLeft_eq]
  by_cases h : n ≤ 64
  · rw [Nat.min_eq_left h]
  · rw [Nat.min_eq_right (by omega)]
    have e : 2 ^ n = 2 ^ 64 * 2 ^ (n - 64) := by rw [← Nat.pow_add]; congr 1; omega
    rw [e, ← Nat.mul_assoc, Nat.mul_right_comm, Nat.mul_mod_left, Nat.mul_mod_left]
theorem ext64 {x y : UInt64} (h : ∀ i, i < 64 → x.toBitVec.getLsbD i = y.toBitVec.getLsbD i) : x = y :=
  UInt64.toBitVec_inj.1 (BitVec.eq_of_getLsbD_eq h)
def byt (v : UInt64) (i : Nat) : UInt8 := (Kb v (8 * i)).toUInt8
theorem byt_bit (v : UInt64) (k i : Nat) : (byt v k).toBitVec.getLsbD i = (decide (i < 8) && v.toBitVec.getLsbD (8 * k + i)) := by
  simp [byt, shr64_bv, BitVec.getLsbD_setWidth]
theorem put_bit (b : UInt8) (n i : Nat) : (Km b.toUInt64 n).toBitVec.getLsbD i = (decide (i < 64) && decide (n ≤ i) && b.toBitVec.getLsbD (i - n)) := by
  rw [shl64_bv, BitVec.getLsbD_shiftLeft]
  simp only [UInt8.toBitVec_toUInt64, BitVec.getLsbD_setWidth]
  by_cases h : n ≤ i
  · by_cases h2 : i < 64
    · have : i - n < 64 := by omega
      have h3 : ¬ i < n := by omega
      simp [h, h2, this, h3]
    · simp [h2]
  · have : i < n := by omega
    simp [h, this]
theorem or8 (v : UInt64) : (((((((((0 : UInt64) ||| Km (byt v 0).toUInt64 0) ||| Km (byt v 1).toUInt64 8) ||| Km (byt v 2).toUInt64 16) ||| Km (byt v 3).toUInt64 24) ||| Km (byt v 4).toUInt64 32) ||| Km (byt v 5).toUInt64 40) ||| Km (byt v 6).toUInt64 48) ||| Km (byt v 7).toUInt64 56) = v := by
  refine ext64 fun i hi => ?_
  simp only [UInt64.toBitVec_or, BitVec.getLsbD_or, put_bit, byt_bit]
  have h0 : (0 : UInt64).toBitVec.getLsbD i = false := by simp
  rw [h0]
  have hk : i = 8 * (i / 8) + i % 8 := by omega
  have hk8 : i / 8 < 8 := by omega
  have hj := Nat.mod_lt i (show 0 < 8 by decide)
  generalize i / 8 = k at *
  generalize i % 8 = j at *
  subst hk
  have : k = 0 ∨ k = 1 ∨ k = 2 ∨ k = 3 ∨ k = 4 ∨ k = 5 ∨ k = 6 ∨ k = 7 := by omega
  rcases this with h | h | h | h | h | h | h | h <;> subst h <;> simp <;> grind
theorem byt_nat (v : UInt64) (k : Nat) (h : k < 8) : (byt v k).toNat = v.toNat / 2 ^ (8 * k) % 256 := by
  have hv := v.toNat_lt
  have h1 : v.toNat / 2 ^ (8 * k) < 18446744073709551616 := Nat.lt_of_le_of_lt (Nat.div_le_self _ _) hv
  simp only [byt, Kb, UInt64.toNat_toUInt8, UInt64.toNat_ofNat']
  rw [Nat.min_eq_left (by omega), Nat.mod_eq_of_lt h1]
def wrd (b0 b1 b2 b3 b4 b5 b6 b7 : UInt8) : UInt64 := UInt64.ofNat (b0.toNat + 256 * (b1.toNat + 256 * (b2.toNat + 256 * (b3.toNat + 256 * (b4.toNat + 256 * (b5.toNat + 256 * (b6.toNat + 256 * b7.toNat)))))))
theorem wrd_nat (b0 b1 b2 b3 b4 b5 b6 b7 : UInt8) : (wrd b0 b1 b2 b3 b4 b5 b6 b7).toNat = b0.toNat + 256 * (b1.toNat + 256 * (b2.toNat + 256 * (b3.toNat + 256 * (b4.toNat + 256 * (b5.toNat + 256 * (b6.toNat + 256 * b7.toNat)))))) := by
  have h0 := b0.toNat_lt; have h1 := b1.toNat_lt; have h2 := b2.toNat_lt; have h3 := b3.toNat_lt; have h4 := b4.toNat_lt; have h5 := b5.toNat_lt; have h6 := b6.toNat_lt; have h7 := b7.toNat_lt
  simp only [wrd, UInt64.toNat_ofNat']; omega
theorem byt_wrd (b0 b1 b2 b3 b4 b5 b6 b7 : UInt8) : byt (wrd b0 b1 b2 b3 b4 b5 b6 b7) 0 = b0 ∧ byt (wrd b0 b1 b2 b3 b4 b5 b6 b7) 1 = b1 ∧ byt (wrd b0 b1 b2 b3 b4 b5 b6 b7) 2 = b2 ∧ byt (wrd b0 b1 b2 b3 b4 b5 b6 b7) 3 = b3 ∧
    byt (wrd b0 b1 b2 b3 b4 b5 b6 b7) 4 = b4 ∧ byt (wrd b0 b1 b2 b3 b4 b5 b6 b7) 5 = b5 ∧ byt (wrd b0 b1 b2 b3 b4 b5 b6 b7) 6 = b6 ∧ byt (wrd b0 b1 b2 b3 b4 b5 b6 b7) 7 = b7 := by
  have h0 := b0.toNat_lt; have h1 := b1.toNat_lt; have h2 := b2.toNat_lt; have h3 := b3.toNat_lt; have h4 := b4.toNat_lt; have h5 := b5.toNat_lt; have h6 := b6.toNat_lt; have h7 := b7.toNat_lt
  refine ⟨?_, ?_, ?_, ?_, ?_, ?_, ?_, ?_⟩ <;> (apply UInt8.toNat_inj.1; rw [byt_nat _ _ (by decide), wrd_nat]; omega)
theorem or_wrd (b0 b1 b2 b3 b4 b5 b6 b7 : UInt8) : (((((((((0 : UInt64) ||| Km b0.toUInt64 0) ||| Km b1.toUInt64 8) ||| Km b2.toUInt64 16) ||| Km b3.toUInt64 24) ||| Km b4.toUInt64 32) ||| Km b5.toUInt64 40) ||| Km b6.toUInt64 48) ||| Km b7.toUInt64 56) = wrd b0 b1 b2 b3 b4 b5 b6 b7 := by
  have h := or8 (wrd b0 b1 b2 b3 b4 b5 b6 b7)
  obtain ⟨e0, e1, e2, e3, e4, e5, e6, e7⟩ := byt_wrd b0 b1 b2 b3 b4 b5 b6 b7
  rw [e0, e1, e2, e3, e4, e5, e6, e7] at h
  exact h
theorem wrd_byt (v : UInt64) : wrd (byt v 0) (byt v 1) (byt v 2) (byt v 3) (byt v 4) (byt v 5) (byt v 6) (byt v 7) = v := by
  rw [← or_wrd]; exact or8 v
theorem shl_zero (n : Nat) : Km (0 : UInt8).toUInt64 n = 0 := by
  have e : (0 : UInt8).toUInt64 = 0 := rfl
  rw [e]; apply UInt64.toNat_inj.1; simp [Km]
theorem or_zero64 (x : UInt64) : x ||| (0 : UInt64) = x := by simp
theorem or_wrd4 (b0 b1 b2 b3 : UInt8) : (((((0 : UInt64) ||| Km b0.toUInt64 0) ||| Km b1.toUInt64 8) ||| Km b2.toUInt64 16) ||| Km b3.toUInt64 24) = wrd b0 b1 b2 b3 0 0 0 0 := by
  rw [← or_wrd]; simp only [shl_zero, or_zero64]
theorem or_wrd2 (b0 b1 : UInt8) : (((0 : UInt64) ||| Km b0.toUInt64 0) ||| Km b1.toUInt64 8) = wrd b0 b1 0 0 0 0 0 0 := by
  rw [← or_wrd]; simp only [shl_zero, or_zero64]
theorem byt_hi32 (x : UInt32) (k : Nat) (h : 4 ≤ k) (h' : k < 8) : byt x.toUInt64 k = 0 := by
  apply UInt8.toNat_inj.1
  rw [byt_nat _ _ h']
  have hx := x.toNat_lt
  have : x.toUInt64.toNat / 2 ^ (8 * k) = 0 := Nat.div_eq_of_lt (by
    rw [UInt32.toNat_toUInt64]; exact Nat.lt_of_lt_of_le hx (Nat.pow_le_pow_right (by decide) (by omega : 32 ≤ 8 * k)))
  rw [this]; rfl
theorem byt_hi16 (x : UInt16) (k : Nat) (h : 2 ≤ k) (h' : k < 8) : byt x.toUInt64 k = 0 := by
  apply UInt8.toNat_inj.1
  rw [byt_nat _ _ h']
  have hx := x.toNat_lt
  have : x.toUInt64.toNat / 2 ^ (8 * k) = 0 := Nat.div_eq_of_lt (by
    rw [UInt16.toNat_toUInt64]; exact Nat.lt_of_lt_of_le hx (Nat.pow_le_pow_right (by decide) (by omega : 16 ≤ 8 * k)))
  rw [this]; rfl
theorem wrd4_byt (x : UInt32) : (wrd (byt x.toUInt64 0) (byt x.toUInt64 1) (byt x.toUInt64 2) (byt x.toUInt64 3) 0 0 0 0).toUInt32 = x := by
  have h := wrd_byt x.toUInt64
  rw [byt_hi32 x 4 (by decide) (by decide), byt_hi32 x 5 (by decide) (by decide), byt_hi32 x 6 (by decide) (by decide), byt_hi32 x 7 (by decide) (by decide)] at h
  rw [h]; simp
theorem wrd2_byt (x : UInt16) : (wrd (byt x.toUInt64 0) (byt x.toUInt64 1) 0 0 0 0 0 0).toUInt16 = x := by
  have h := wrd_byt x.toUInt64
  rw [byt_hi16 x 2 (by decide) (by decide), byt_hi16 x 3 (by decide) (by decide), byt_hi16 x 4 (by decide) (by decide), byt_hi16 x 5 (by decide) (by decide), byt_hi16 x 6 (by decide) (by decide), byt_hi16 x 7 (by decide) (by decide)] at h
  rw [h]; simp
theorem horner8 (b0 b1 b2 b3 b4 b5 b6 b7 : UInt8) : 256 * (256 * (256 * (256 * (256 * (256 * (256 * (256 * (0 : UInt64) + b7.toUInt64) + b6.toUInt64) + b5.toUInt64) + b4.toUInt64) + b3.toUInt64) + b2.toUInt64) + b1.toUInt64) + b0.toUInt64 = wrd b0 b1 b2 b3 b4 b5 b6 b7 := by
  have h0 := b0.toNat_lt; have h1 := b1.toNat_lt; have h2 := b2.toNat_lt; have h3 := b3.toNat_lt; have h4 := b4.toNat_lt; have h5 := b5.toNat_lt; have h6 := b6.toNat_lt; have h7 := b7.toNat_lt
  apply UInt64.toNat_inj.1
  rw [wrd_nat]
  simp only [UInt64.toNat_add, UInt64.toNat_mul, UInt8.toNat_toUInt64, UInt64.reduceToNat]
  omega
theorem horner4 (b0 b1 b2 b3 : UInt8) : 256 * (256 * (256 * (256 * (0 : UInt64) + b3.toUInt64) + b2.toUInt64) + b1.toUInt64) + b0.toUInt64 = wrd b0 b1 b2 b3 0 0 0 0 := by
  have h0 := b0.toNat_lt; have h1 := b1.toNat_lt; have h2 := b2.toNat_lt; have h3 := b3.toNat_lt
  apply UInt64.toNat_inj.1
  rw [wrd_nat]
  simp only [UInt64.toNat_add, UInt64.toNat_mul, UInt8.toNat_toUInt64, UInt64.reduceToNat, UInt8.reduceToNat]
  omega
theorem horner2 (b0 b1 : UInt8) : 256 * (256 * (0 : UInt64) + b1.toUInt64) + b0.toUInt64 = wrd b0 b1 0 0 0 0 0 0 := by
  have h0 := b0.toNat_lt; have h1 := b1.toNat_lt
  apply UInt64.toNat_inj.1
  rw [wrd_nat]
  simp only [UInt64.toNat_add, UInt64.toNat_mul, UInt8.toNat_toUInt64, UInt64.reduceToNat, UInt8.reduceToNat]
  omega

/-! steps; their proofs are laid so that 'simp' writes each step down -/
section
variable {α ρ : Type}
theorem obS {a : α} {k : α → Option ρ} : ob (some a) k = k a := Eq.trans rfl rfl
theorem chkT {k : Option ρ} : chk true k = k := Eq.trans rfl rfl
theorem brT {x y : Option ρ} : br true x y = x := Eq.trans rfl rfl
theorem brF {x y : Option ρ} : br false x y = y := Eq.trans rfl rfl
theorem notT : (!true) = false := Eq.trans rfl rfl
theorem notF : (!false) = true := Eq.trans rfl rfl
theorem beqI {α : Type} [BEq α] [ReflBEq α] (a : α) : (a == a) = true := BEq.rfl
theorem bneI {α : Type} [BEq α] [ReflBEq α] (a : α) : (a != a) = false := by simp [bne]
end

/-! lists and loops -/
theorem ix_get {α : Type} {l : List α} {i : Nat} (h : i < l.length) : ix l (i : Int) = some l[i] := by
  simp [ix, h]
theorem fits_ok {m n b : Nat} (h : (m + n) * b ≤ 140737488355328) : fits m n b = true := by simpa [fits] using h
theorem drop_ix {α : Type} {l : List α} {i : Nat} (h : i < l.length) : l.drop i = l[i] :: l.drop (i + 1) := List.drop_eq_getElem_cons h
theorem wi_nat {n : Nat} (h : n ≤ 9223372036854775807) : wi (n : Int) = n := wi_in (by omega) (by omega)
theorem ZH {n : Nat} (h : n < 9223372036854775807) : wi ((n : Int) + 1) = ((n + 1 : Nat) : Int) := by rw [wi_in (by omega) (by omega)]; omega
end Go.Proofs.Ytlofegfaphijpaa

end

section
namespace Go.Proofs.Ytlofegfaphijpaa
section
variable {ρ : Type} {p : Prop} [Decidable p] {x y k : Option ρ}
theorem bP (h : p) : br (decide p) x y = x := by rw [decide_eq_true h]; rfl
theorem bN (h : ¬ p) : br (decide p) x y = y := by rw [decide_eq_false h]; rfl
theorem cP (h : p) : chk (decide p) k = k := by rw [decide_eq_true h]; rfl
variable {α : Type} [BEq α] [LawfulBEq α] {a b : α}
theorem bE (h : a = b) : br (a == b) x y = x := by subst h; rw [beqI]; rfl
theorem bF (h : a ≠ b) : br (a == b) x y = y := by rw [beq_false_of_ne h]; rfl
theorem nE (h : a = b) : br (a != b) x y = y := by subst h; rw [bneI]; rfl
theorem nF (h : a ≠ b) : br (a != b) x y = x := by
  have : (a != b) = true := by simpa using h
  rw [this]; rfl
theorem cE (h : a = b) : chk (a == b) k = k := by subst h; rw [beqI]; rfl
theorem cnF (h : a ≠ b) : chk (!(a == b)) k = k := by rw [beq_false_of_ne h]; rfl
theorem cnE (h : a = b) : chk (!(a != b)) k = k := by subst h; rw [bneI]; rfl
theorem bT {c : Bool} (h : c = true) : br c x y = x := by subst h; rfl
theorem bFl {c : Bool} (h : c = false) : br c x y = y := by subst h; rfl
theorem cFits {m n q : Nat} (h : (m + n) * q ≤ 140737488355328) : chk (fits m n q) k = k := by rw [fits_ok h]; rfl
end
theorem oS {α ρ : Type} {x : Option α} {a : α} {k : α → Option ρ} (h : x = some a) : ob x k = k a := by subst h; rfl
theorem XK {α : Type} {l : List α} {i : Nat} {x : α} (h : l[i]? = some x) : ix l (i : Int) = some x := by simp [ix, h]
theorem sub_nat {α : Type} (l : List α) (i j : Nat) : sub l (i : Int) (j : Int) = (l.drop i).take (j - i) := by simp [sub]
theorem u64_of (n : Nat) : u64 (n : Int) = UInt64.ofNat n := by
  apply UInt64.toNat_inj.1
  simp only [u64, UInt64.toNat_ofNat']; omega
theorem i64_of {x : UInt64} (h : x.toNat ≤ 9223372036854775807) : i64 x = (x.toNat : Int) := wi_nat h
theorem getq {α : Type} {l : List α} {i : Nat} (h : i < l.length) : l[i]? = some l[i] := List.getElem?_eq_getElem h
end Go.Proofs.Ytlofegfaphijpaa

end
