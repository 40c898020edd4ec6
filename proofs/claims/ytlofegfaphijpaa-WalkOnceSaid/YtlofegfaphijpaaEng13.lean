/- The engine, part 13: rows of rows of one's own; objects behind pointers that may be nil; copies. No statement of the seat is proved here; no condition. -/
import Derived.Test.YtlofegfaphijpaaEng12
namespace Go.Proofs.Ytlofegfaphijpaa

/-! ## parts that are parted and joined -/
theorem PH.disj_le {h h1 g : PH} (hl : h1.le h) (hd : h.disj g) : h1.disj g := fun b => by
  cases hb : h1 b with
  | none => exact .inl rfl
  | some o =>
    rcases hd b with q | q
    · rw [hl b o hb] at q; cases q
    · exact .inr q
theorem PH.disj_or {h1 h2 g : PH} (a : h1.disj g) (b : h2.disj g) : (h1.or h2).disj g := fun x => by
  rcases a x with q | q
  · rcases b x with q' | q'
    · left; simp [PH.or, q, q']
    · exact .inr q'
  · exact .inr q
def PH.minus (h g : PH) : PH := fun b => match g b with | some _ => none | none => h b
theorem PH.minus_le {h g : PH} : (h.minus g).le h := fun b o hb => by
  unfold PH.minus at hb
  cases hg : g b with
  | some _ => rw [hg] at hb; cases hb
  | none => rw [hg] at hb; exact hb
theorem PH.minus_disj {h g : PH} : (h.minus g).disj g := fun b => by
  unfold PH.minus
  cases hg : g b with
  | some _ => exact .inl rfl
  | none => exact .inr rfl
theorem PH.le_minus {h g k : PH} (hl : k.le h) (hd : k.disj g) : k.le (h.minus g) := fun b o hb => by
  unfold PH.minus
  rcases hd b with q | q
  · rw [q] at hb; cases hb
  · rw [q]; exact hl b o hb
theorem HSat.split {R0 : PH} {w0 : World} {B : Nat → Prop} {own : List (Option Res)} {shr : List Fact} {w : World} (h : HSat R0 w0 B own shr w) {i : Nat} {r : Res} (hi : own[i]? = some (some r)) {α : Type} {r1 r2 : α → Res} {F : α → List Fact}
    (hsp : ∀ R h, (∀ G ∈ shr, G.p R) → r.p R h → ∃ x h1 h2, h1.disj h2 ∧ h1.le h ∧ h2.le h ∧ (r1 x).p R h1 ∧ (r2 x).p R h2 ∧ ∀ G ∈ F x, G.p R) :
    ∃ x, HSat R0 w0 B (own.set i (some (r1 x)) ++ [some (r2 x)]) (shr ++ F x) w := by
  obtain ⟨R, hs, hw⟩ := h
  obtain ⟨x, h1, h2, hd, l1, l2, p1, p2, hF⟩ := hsp R (hs i) hw.sh (hw.ow i r hi)
  have hil : i < own.length := (List.getElem?_eq_some_iff.1 hi).1
  refine ⟨x, R, fun j => if j = i then h1 else if j = own.length then h2 else hs j, hw.r0, hw.rw_, ?_, ?_, ?_, ?_, ?_, ?_, hw.rnew, hw.size, hw.keep, hw.os, hw.tape, hw.output⟩
  · intro G hG
    rcases List.mem_append.1 hG with q | q
    · exact hw.sh G q
    · exact hF G q
  · intro j q hj
    by_cases e : j = i
    · subst e
      rw [List.getElem?_append_left (by simpa using hil)] at hj
      simp [hil] at hj; subst hj
      simp only [if_true]; exact p1
    · by_cases e2 : j = own.length
      · subst e2
        rw [List.getElem?_append_right (by simp)] at hj
        simp at hj; subst hj
        simp only [e, if_true, if_false]; exact p2
      · simp only [e, e2, if_false]
        rcases Nat.lt_or_ge j own.length with hlt | hge
        · rw [List.getElem?_append_left (by simpa using hlt), List.getElem?_set_ne (fun q => e q.symm)] at hj
          exact hw.ow j q hj
        · rw [List.getElem?_eq_none (by simp; omega)] at hj; cases hj
  · intro j
    by_cases e : j = i
    · simp only [e, if_true]; exact fun b o hb => hw.hw i b o (l1 b o hb)
    · by_cases e2 : j = own.length
      · simp only [e2, if_true]
        rw [if_neg (by omega)]
        exact fun b o hb => hw.hw i b o (l2 b o hb)
      · simp only [e, e2, if_false]; exact hw.hw j
  · intro j l hjl
    by_cases e : j = i
    · subst e
      simp only [if_true]
      rw [if_neg (fun q => hjl q.symm)]
      by_cases e2 : l = own.length
      · simp only [e2, if_true]; exact hd
      · simp only [e2, if_false]; exact PH.disj_le l1 (hw.dj j l hjl)
    · rw [if_neg e]
      by_cases e2 : j = own.length
      · rw [if_pos e2]
        by_cases e3 : l = i
        · rw [if_pos e3]; exact PH.disj_comm hd
        · rw [if_neg e3, if_neg (by omega)]; exact PH.disj_le l2 (hw.dj i l (fun q => e3 q.symm))
      · rw [if_neg e2]
        by_cases e3 : l = i
        · rw [if_pos e3]; exact PH.disj_comm (PH.disj_le l1 (hw.dj i j (fun q => e q.symm)))
        · rw [if_neg e3]
          by_cases e4 : l = own.length
          · rw [if_pos e4]; exact PH.disj_comm (PH.disj_le l2 (hw.dj i j (fun q => e q.symm)))
          · rw [if_neg e4]; exact hw.dj j l hjl
  · intro j
    by_cases e : j = i
    · rw [if_pos e]; exact PH.disj_comm (PH.disj_le l1 (PH.disj_comm (hw.rd i)))
    · rw [if_neg e]
      by_cases e2 : j = own.length
      · rw [if_pos e2]; exact PH.disj_comm (PH.disj_le l2 (PH.disj_comm (hw.rd i)))
      · rw [if_neg e2]; exact hw.rd j
  · intro j b o hb
    by_cases e : j = i
    · rw [if_pos e] at hb; exact hw.new i b o (l1 b o hb)
    · rw [if_neg e] at hb
      by_cases e2 : j = own.length
      · rw [if_pos e2] at hb; exact hw.new i b o (l2 b o hb)
      · rw [if_neg e2] at hb; exact hw.new j b o hb
theorem HSat.merge {R0 : PH} {w0 : World} {B : Nat → Prop} {own : List (Option Res)} {shr : List Fact} {w : World} (h : HSat R0 w0 B own shr w) {i j : Nat} {r r1 r2 : Res} (hij : Nat.beq i j = false) (hi : own[i]? = some (some r1)) (hj : own[j]? = some (some r2))
    (hm : ∀ R h1 h2, (∀ G ∈ shr, G.p R) → h1.disj h2 → r1.p R h1 → r2.p R h2 → r.p R (h1.or h2)) : HSat R0 w0 B ((own.set i (some r)).set j none) shr w := by
  obtain ⟨R, hs, hw⟩ := h
  have hne : i ≠ j := Nat.ne_of_beq_eq_false hij
  have hil : i < own.length := (List.getElem?_eq_some_iff.1 hi).1
  have hjl : j < own.length := (List.getElem?_eq_some_iff.1 hj).1
  have hp := hm R (hs i) (hs j) hw.sh (hw.dj i j hne) (hw.ow i _ hi) (hw.ow j _ hj)
  refine ⟨R, fun k => if k = i then (hs i).or (hs j) else if k = j then PH.emp else hs k, hw.r0, hw.rw_, hw.sh, ?_, ?_, ?_, ?_, ?_, hw.rnew, hw.size, hw.keep, hw.os, hw.tape, hw.output⟩
  · intro k q hk
    by_cases e : k = i
    · subst e
      rw [List.getElem?_set_ne (fun q => hne q.symm)] at hk
      simp [hil] at hk; subst hk
      simp only [if_true]; exact hp
    · rw [if_neg e]
      by_cases e2 : k = j
      · subst e2; simp [hjl] at hk
      · rw [if_neg e2]
        rw [List.getElem?_set_ne (fun q => e2 q.symm), List.getElem?_set_ne (fun q => e q.symm)] at hk
        exact hw.ow k q hk
  · intro k
    by_cases e : k = i
    · rw [if_pos e]; exact fun b o hb => by
        rcases PH.or_some hb with q | q
        · exact hw.hw i b o q
        · exact hw.hw j b o q
    · rw [if_neg e]
      by_cases e2 : k = j
      · rw [if_pos e2]; intro b o hb; cases hb
      · rw [if_neg e2]; exact hw.hw k
  · intro k l hkl
    by_cases e : k = i
    · rw [if_pos e, if_neg (by omega)]
      by_cases e2 : l = j
      · rw [if_pos e2]; exact fun b => .inr rfl
      · rw [if_neg e2]; exact PH.disj_or (hw.dj i l (by omega)) (hw.dj j l (by omega))
    · rw [if_neg e]
      by_cases e2 : k = j
      · rw [if_pos e2]; exact fun b => .inl rfl
      · rw [if_neg e2]
        by_cases e3 : l = i
        · rw [if_pos e3]; exact PH.disj_comm (PH.disj_or (hw.dj i k (by omega)) (hw.dj j k (by omega)))
        · rw [if_neg e3]
          by_cases e4 : l = j
          · rw [if_pos e4]; exact fun b => .inr rfl
          · rw [if_neg e4]; exact hw.dj k l hkl
  · intro k
    by_cases e : k = i
    · rw [if_pos e]; exact PH.disj_comm (PH.disj_or (PH.disj_comm (hw.rd i)) (PH.disj_comm (hw.rd j)))
    · rw [if_neg e]
      by_cases e2 : k = j
      · rw [if_pos e2]; exact fun b => .inr rfl
      · rw [if_neg e2]; exact hw.rd k
  · intro k b o hb
    by_cases e : k = i
    · rw [if_pos e] at hb
      rcases PH.or_some hb with q | q
      · exact hw.new i b o q
      · exact hw.new j b o q
    · rw [if_neg e] at hb
      by_cases e2 : k = j
      · rw [if_pos e2] at hb; cases hb
      · rw [if_neg e2] at hb; exact hw.new k b o hb
/-- a part is laid for nothing -/
theorem HSat.free {R0 : PH} {w0 : World} {B : Nat → Prop} {own : List (Option Res)} {shr : List Fact} {w : World} (h : HSat R0 w0 B own shr w) (r : Res) (hr : ∀ R, r.p R PH.emp) : HSat R0 w0 B (own ++ [some r]) shr w := by
  obtain ⟨R, hs, hw⟩ := h
  refine ⟨R, _, hw.upd own.length PH.emp (fun _ _ _ => rfl) (Nat.le_refl _) (fun b o' hb => by cases hb) (fun b o' hb => by cases hb) rfl rfl rfl ?_⟩
  intro j r' hj
  by_cases e : j = own.length
  · subst e; simp at hj; subst hj; exact .inl ⟨rfl, hr R⟩
  · right; refine ⟨e, ?_⟩
    rcases Nat.lt_or_ge j own.length with hlt | hge
    · rwa [List.getElem?_append_left hlt] at hj
    · rw [List.getElem?_eq_none (by simp; omega)] at hj; cases hj

/-- a state seen otherwise, with something new named -/
def EX {α : Type} (c : Cx) (s : St) (f : α → St) : Prop := ∀ a w, Sat c s a w → ∃ x, Sat c (f x) a w
section
variable {c : Cx} {k : List Item} {s s' : St} {ops : Array Oper} {rest : List Oper} {lo : Nat} {α : Type} {f : α → St}
end

/-! ## rows of rows -/
def valS : Shape Value := ⟨1, false, fun _ cs x => cs = [x] ∧ x.oneCell' = true, fun _ h => h, fun ⟨e, _⟩ => by subst e; rfl, fun ⟨e, h⟩ u hu => by subst e; simp at hu; subst hu; exact h⟩
theorem val_css {R : PH} : ∀ {css : List (List Value)} {vs : List Value}, css.length = vs.length → (∀ (i : Nat) (ci : List Value) (x : Value), css[i]? = some ci → vs[i]? = some x → valS.rel R ci x) → css.flatten = vs ∧ ∀ x ∈ vs, x.oneCell' = true
  | [], [], _, _ => ⟨rfl, fun x h => by cases h⟩
  | [], _ :: _, h, _ => by simp at h
  | _ :: _, [], h, _ => by simp at h
  | ci :: css, x :: vs, h, hr => by
    obtain ⟨e1, e2⟩ := hr 0 ci x rfl rfl
    obtain ⟨ih1, ih2⟩ := val_css (R := R) (css := css) (vs := vs) (by simpa using h) (fun i ci x a b => hr (i + 1) ci x a b)
    subst e1
    refine ⟨by simp [ih1], fun y hy => ?_⟩
    rcases List.mem_cons.1 hy with q | q
    · subst q; exact e2
    · exact ih2 y q
theorem RowRel.mono {τ : Type} {S : Shape τ} {R R' h : PH} (hl : R.le R') {v : Value} {xs : List τ} (hr : RowRel S R h v xs) : RowRel S R' h v xs := (rowS S v xs).mono hl hr
theorem RowRel.le {τ : Type} {S : Shape τ} {R h h' : PH} (hl : h.le h') {v : Value} {xs : List τ} (hr : RowRel S R h v xs) : RowRel S R h' v xs := by
  obtain ⟨css, h1, h2, h3⟩ := hr
  refine ⟨css, h1, h2, ?_⟩
  rcases h3 with q | ⟨g, cap, cur, tg, a1, a2, a3⟩
  · exact .inl q
  · exact .inr ⟨g, cap, cur, tg, a1, hl _ _ a2, a3⟩

structure RowsP {τ : Type} (S : Shape τ) (nn : Bool) (v : Value) (vs : List Value) (bs : List (List τ)) (ex : Option (Nat × Value)) (R h h0 : PH) (hs : Nat → PH) : Prop where
  out : RowRel valS R h0 v vs
  nn : nn = true → ∃ a n c, v = .slice (some a) n c
  len : vs.length = bs.length
  l0 : h0.le h
  ls : ∀ i, ex.map (·.1) ≠ some i → (hs i).le h
  d0 : ∀ i, ex.map (·.1) ≠ some i → h0.disj (hs i)
  ds : ∀ i j, i ≠ j → ex.map (·.1) ≠ some i → ex.map (·.1) ≠ some j → (hs i).disj (hs j)
  row : ∀ (i : Nat) (v' : Value) (xs : List τ), ex.map (·.1) ≠ some i → vs[i]? = some v' → bs[i]? = some xs → RowRel S R (hs i) v' xs
  hol : ∀ p, ex = some p → vs[p.1]? = some p.2
/-- rows of one's own in a row of one's own; ex: the row that is out on its own -/
def rowsX {τ : Type} (S : Shape τ) (nn : Bool) (v : Value) (vs : List Value) (bs : List (List τ)) (ex : Option (Nat × Value)) : Res :=
  ⟨fun R h => ∃ h0 hs, RowsP S nn v vs bs ex R h h0 hs, fun hl ⟨h0, hs, p⟩ => ⟨h0, hs, p.out.mono hl, p.nn, p.len, p.l0, p.ls, p.d0, p.ds, fun i v' xs a b d => (p.row i v' xs a b d).mono hl, p.hol⟩⟩

section
variable {c : Cx} {k : List Item} {s : St} {ops : Array Oper} {rest : List Oper} {o : Oper} {fr : List (Nat × Option Value)} {own : List (Option Res)} {shr : List Fact} {d : Nat} {τ σ : Type} {S : Shape τ} {nn : Bool} {v : Value} {vs : List Value} {bs : List (List τ)} {ex : Option (Nat × Value)}

theorem ex_focus {i : Nat} {j : Int} {xs : List τ} (hi : own[i]? = some (some (rowsX S nn v vs bs none))) (hj : ix bs j = some xs) :
    EX c ⟨fr, own, shr⟩ (fun u => ⟨fr, own.set i (some (rowsX S nn v vs bs (some (j.toNat, u)))) ++ [some (rowS S u xs)], shr⟩) := fun a w hs => by
  obtain ⟨_, _, hb⟩ := ix_some hj
  obtain ⟨x, hx⟩ := hs.2.2.2.split hi (r1 := fun u => rowsX S nn v vs bs (some (j.toNat, u))) (r2 := fun u => rowS S u xs) (F := fun _ => []) (by
    rintro R h _ ⟨h0, hh, p⟩
    have hlt : j.toNat < vs.length := by rw [p.len]; exact (List.getElem?_eq_some_iff.1 hb).1
    have hv := List.getElem?_eq_getElem hlt
    refine ⟨vs[j.toNat], h.minus (hh j.toNat), hh j.toNat, PH.minus_disj, PH.minus_le, p.ls _ (by simp), ⟨h0, hh, p.out, p.nn, p.len, PH.le_minus p.l0 (p.d0 _ (by simp)), ?_, ?_, ?_, ?_, ?_⟩, p.row _ _ _ (by simp) hv hb, fun G h => by cases h⟩
    · intro q hq; exact PH.le_minus (p.ls q (by simp)) (p.ds q _ (fun e => hq (by simp [e])) (by simp) (by simp))
    · intro q _; exact p.d0 q (by simp)
    · intro q q' a _ _; exact p.ds q q' a (by simp) (by simp)
    · intro q v' ys _ a b; exact p.row q v' ys (by simp) a b
    · intro p' e; cases e; exact hv)
  rw [List.append_nil] at hx
  exact ⟨x, hs.1, hs.2.1, hs.2.2.1, hx⟩
theorem vs_unfocus {i q : Nat} {m : Nat} {u : Value} {xs : List τ} (hi : own[i]? = some (some (rowsX S nn v vs bs (some (m, u))))) (hq : own[q]? = some (some (rowS S u xs))) (hiq : Nat.beq i q = false) :
    VS c ⟨fr, own, shr⟩ ⟨fr, (own.set i (some (rowsX S nn v vs (bs.set m xs) none))).set q none, shr⟩ := fun a w hs => by
  refine ⟨hs.1, hs.2.1, hs.2.2.1, hs.2.2.2.merge hiq hi hq ?_⟩
  rintro R h1 h2 _ hd ⟨h0, hh, p⟩ hr
  refine ⟨h0, fun j => if j = m then h2 else hh j, p.out, p.nn, by simpa using p.len, PH.le_trans p.l0 PH.or_left, ?_, ?_, ?_, ?_, fun p' e => by cases e⟩
  · intro j _
    by_cases e : j = m
    · rw [if_pos e]; exact PH.or_right hd
    · rw [if_neg e]; exact PH.le_trans (p.ls j (fun e' => e (by simpa using e'.symm))) PH.or_left
  · intro j _
    by_cases e : j = m
    · rw [if_pos e]; exact PH.disj_le p.l0 hd
    · rw [if_neg e]; exact p.d0 j (fun e' => e (by simpa using e'.symm))
  · intro j l hjl _ _
    by_cases e : j = m
    · rw [if_pos e, if_neg (by omega)]; exact PH.disj_comm (PH.disj_le (p.ls l (fun e' => hjl (by rw [e]; simpa using e'))) hd)
    · rw [if_neg e]
      by_cases e2 : l = m
      · rw [if_pos e2]; exact PH.disj_le (p.ls j (fun e' => e (by simpa using e'.symm))) hd
      · rw [if_neg e2]; exact p.ds j l hjl (fun e' => e (by simpa using e'.symm)) (fun e' => e2 (by simpa using e'.symm))
  · intro j v' ys _ a1 a2
    by_cases e : j = m
    · rw [if_pos e]
      subst e
      have := p.hol _ rfl
      simp only at this
      rw [a1] at this; cases this
      have hlt : j < bs.length := by rw [← p.len]; exact (List.getElem?_eq_some_iff.1 a1).1
      rw [List.getElem?_set_self hlt] at a2; cases a2
      exact hr
    · rw [if_neg e]
      rw [List.getElem?_set_ne (fun q => e q.symm)] at a2
      exact p.row j v' ys (fun e' => e (by simpa using e'.symm)) a1 a2
theorem rows_val {R h : PH} (hp : (rowsX S nn v vs bs ex).p R h) : ∃ base cp, v = .slice base bs.length cp := by
  obtain ⟨h0, hh, p⟩ := hp
  rw [← p.len]; exact RowRel.val p.out
theorem is_rows {i : Nat} (hi : own[i]? = some (some (rowsX S nn v vs bs ex))) : IsSl c ⟨fr, own, shr⟩ v := fun a w hs => by
  obtain ⟨R, hs', hw⟩ := hs.2.2.2
  obtain ⟨base, cp, e⟩ := rows_val (hw.ow i _ hi)
  exact ⟨_, _, _, e⟩
theorem OpT_idxRows {t e : TypeId} {x y : Operand} {i : Nat} {kk : IntKind} {m : Int} {xs : List τ} {b : Nat} {z : Value} (hn : Nat.blt d c.n = true) (hd : o.dst = some d) (ho : o.op = .indexAddr t x y) (hx : ev fr x = some v) (hy : ev fr y = some (.int kk m))
    (ht : SlF c.P t e 1 b z) (hi : own[i]? = some (some (rowsX S nn v vs bs ex))) (hu : ix bs m = some xs) : OpT c o ⟨fr, own, shr⟩ (fun s => s = ⟨(d, some (rowPtr v (Int.toNat m * 1))) :: fr, own, shr⟩) :=
  OpT_val hn hd fun a w hs => by
    obtain ⟨h0, h1, h2⟩ := ix_some hu
    obtain ⟨R, hs', hw⟩ := hs.2.2.2
    obtain ⟨h0', hh, p⟩ := hw.ow i _ hi
    obtain ⟨css, _, _, h3⟩ := p.out
    rcases h3 with ⟨_, hx0⟩ | ⟨g, cap, cur, tg, hv, _⟩
    · have := p.len; rw [hx0] at this; simp at this; omega
    · have h1' : m < (vs.length : Int) := by rw [p.len]; exact h1
      subst hv
      have hun := run_underlying ht.und w
      simp [execOp, ho, ev_eval hs.2.2.1 hx, ev_eval hs.2.2.1 hy, Instr.indexAt, asIntOf, hun, ht.sz, h0, h1', rowPtr]
/-- the block behind a row of values -/
theorem val_block {R h : PH} {v : Value} {vs : List Value} (hr : RowRel valS R h v vs) (hne : vs ≠ []) :
    ∃ (g cap : Nat) (cur : Array Value) (tg : TypeId), v = .slice (some ⟨g, 0, none⟩) vs.length cap ∧ h g = some (.cells cur tg (0, 0)) ∧ vs.length ≤ cap ∧ cap ≤ maxLen ∧ cur.size = cap ∧ cur.toList.take vs.length = vs ∧ ∀ x ∈ vs, x.oneCell' = true := by
  obtain ⟨css, h1, h2, h3⟩ := hr
  obtain ⟨e1, e2⟩ := val_css h1 h2
  rcases h3 with ⟨_, hx⟩ | ⟨g, cap, cur, tg, a1, a2, a3, a4, a5, a6⟩
  · exact absurd hx hne
  · refine ⟨g, cap, cur, tg, a1, a2, a3, a4, ?_, ?_, e2⟩
    · simpa [valS] using a5
    · rw [e1] at a6; simpa [valS] using a6
theorem OpT_loadRow {t : TypeId} {x : Operand} {i n : Nat} {m : Int} {u : Value} (hn : Nat.blt d c.n = true) (hd : o.dst = some d) (ho : o.op = .load t x) (hx : ev fr x = some (rowPtr v (Int.toNat m * 1)))
    (ht : TyF c.P t false n) (hi : own[i]? = some (some (rowsX S nn v vs bs (some (m.toNat, u))))) : OpT c o ⟨fr, own, shr⟩ (fun s => s = ⟨(d, some u) :: fr, own, shr⟩) :=
  OpT_val hn hd fun a w hs => by
    obtain ⟨R, hs', hw⟩ := hs.2.2.2
    obtain ⟨h0', hh, p⟩ := hw.ow i _ hi
    have hu : vs[m.toNat]? = some u := p.hol _ rfl
    have hne : vs ≠ [] := by intro e; subst e; simp at hu
    obtain ⟨g, cap, cur, tg, a1, a2, a3, a4, a5, a6, _⟩ := val_block p.out hne
    have hb := hw.hw i g _ (p.l0 _ _ a2)
    have hc : cur[m.toNat]? = some u := by
      rw [← a6, List.getElem?_take] at hu
      split at hu
      · simpa using hu
      · cases hu
    have hcell : w.cell? ⟨g, m.toNat, none⟩ = some u := by rw [cell_of_row w g _ cur tg (0, 0) hb]; exact hc
    have e := ev_eval hs.2.2.1 hx
    rw [a1] at e
    simp only [rowPtr, Addr.add_lit, Nat.zero_add, Nat.mul_one] at e
    simp [execOp, ho, e, Instr.loadAt, Instr.sureAddr, loadVar, ht.ag, hcell]
theorem OpT_eqRows {t e : TypeId} {x y : Operand} {t2 : TypeId} {op : BinOp} {i : Nat} (hn : Nat.blt d c.n = true) (hd : o.dst = some d) (ho : o.op = .binOp op t x y t2) (hop : op = .eql ∨ op = .neq) (hx : ev fr x = some v) (hy : ev fr y = some (.slice none 0 0)) (ht : c.P.underlying t = some (.slice e))
    (hi : own[i]? = some (some (rowsX S true v vs bs ex))) : OpT c o ⟨fr, own, shr⟩ (fun s => s = ⟨(d, some (.bool (nilB op false))) :: fr, own, shr⟩) := fun a w hs => by
  obtain ⟨R, hs', hw⟩ := hs.2.2.2
  obtain ⟨h0', hh, p⟩ := hw.ow i _ hi
  obtain ⟨ad, n, cp, e1⟩ := p.nn rfl
  subst e1
  exact OpT_bin hn hd ho hx hy (run_eqNil (base := some ad) hop ht) a w hs
/-- a part of a row of one's own that is not empty is not nil -/
theorem OpT_eqSub {t e : TypeId} {x y : Operand} {t2 : TypeId} {op : BinOp} {i : Nat} {u : Value} {xs : List τ} {l m : Int} (hn : Nat.blt d c.n = true) (hd : o.dst = some d) (ho : o.op = .binOp op t x y t2) (hop : op = .eql ∨ op = .neq) (hx : ev fr x = some (subV u S.sz l.toNat m.toNat)) (hy : ev fr y = some (.slice none 0 0)) (ht : c.P.underlying t = some (.slice e))
    (hi : own[i]? = some (some (rowS S u xs))) (hc : decide (0 ≤ l ∧ l ≤ m ∧ m ≤ len xs) = true) (hlt : decide (l < m) = true) : OpT c o ⟨fr, own, shr⟩ (fun s => s = ⟨(d, some (.bool (nilB op false))) :: fr, own, shr⟩) := fun a w hs => by
  obtain ⟨R, hs', hw⟩ := hs.2.2.2
  obtain ⟨h0, h1, h2⟩ : 0 ≤ l ∧ l ≤ m ∧ m ≤ len xs := by simpa using hc
  have h3 : l < m := by simpa using hlt
  unfold len at h2
  obtain ⟨css, _, _, h4⟩ := hw.ow i _ hi
  rcases h4 with ⟨_, hx0⟩ | ⟨g, cap, cur, tg, hv, _⟩
  · subst hx0; simp at h2; omega
  · subst hv
    have e1 : ∃ ad, subV (.slice (some ⟨g, 0, none⟩) xs.length cap) S.sz l.toNat m.toNat = .slice (some ad) (m.toNat - l.toNat) (cap - l.toNat) := by
      show ∃ ad, Value.slice (if cap = l.toNat then some ⟨g, 0, none⟩ else _) _ _ = _
      by_cases e : cap = l.toNat
      · rw [if_pos e]; exact ⟨_, rfl⟩
      · rw [if_neg e]; exact ⟨_, rfl⟩
    obtain ⟨ad, e1⟩ := e1
    rw [e1] at hx
    exact OpT_bin hn hd ho hx hy (run_eqNil (base := some ad) hop ht) a w hs
/-- a row of one's own is laid into the rows -/
theorem OpT_storeRow {t : TypeId} {x y : Operand} {i q : Nat} {m : Int} {u : Value} {xs xs0 : List τ} {ag : Bool} (hd : o.dst = none) (ho : o.op = .store t x y) (hx : ev fr x = some (rowPtr v (Int.toNat m * 1))) (hy : ev fr y = some u)
    (ht : TyF c.P t ag 1) (hi : own[i]? = some (some (rowsX S nn v vs bs none))) (hq : own[q]? = some (some (rowS S u xs))) (hiq : Nat.beq i q = false) (hu : ix bs m = some xs0) :
    OpT c o ⟨fr, own, shr⟩ (fun s => ∃ vs', s = ⟨fr, (own.set i (some (rowsX S nn v vs' (bs.set m.toNat xs) none))).set q none, shr⟩) := by
  have hil : i < own.length := (List.getElem?_eq_some_iff.1 hi).1
  have h1 : OpT c o ⟨fr, own, shr⟩ (fun s => s = ⟨fr, own.set i (some (rowsX S nn v (vs.set m.toNat u) bs (some (m.toNat, u)))), shr⟩) := by
    refine OpT_skipRun hd fun a w hs => ?_
    obtain ⟨h0, h1, h2⟩ := ix_some hu
    obtain ⟨R, hs', hw⟩ := hs.2.2.2
    obtain ⟨h0', hh, p⟩ := hw.ow i _ hi
    have hmv : m.toNat < vs.length := by rw [p.len]; exact (List.getElem?_eq_some_iff.1 h2).1
    have hne : vs ≠ [] := by intro e; subst e; simp at hmv
    obtain ⟨g, cap, cur, tg, a1, a2, a3, a4, a5, a6, a7⟩ := val_block p.out hne
    obtain ⟨base, cp, eu⟩ := RowRel.val (hw.ow q _ hq)
    have hucl : u.cells = #[u] := by subst eu; rfl
    have huone : u.oneCell' = true := by subst eu; rfl
    have hb := hw.hw i g _ (p.l0 _ _ a2)
    have hst := run_storeCells_at c.P g m.toNat tg [u] 0 cur w hb (by simp; omega) (by intro z hz; simp at hz; subst hz; exact huone)
    simp only [Nat.add_zero, List.length_singleton] at hst
    have e := ev_eval hs.2.2.1 hx
    rw [a1] at e
    simp only [rowPtr, Addr.add_lit, Nat.zero_add, Nat.mul_one] at e
    have hset : cur.toList.take m.toNat ++ [u] ++ cur.toList.drop (m.toNat + 1) = cur.toList.set m.toNat u := by
      rw [List.set_eq_take_append_cons_drop, if_pos (by simp; omega)]; simp
    rw [hset] at hst
    refine ⟨w.setRow g (cur.toList.set m.toNat u).toArray, ?_, ?_⟩
    · simp [execOp, ho, e, ev_eval hs.2.2.1 hy, Instr.storeAt, Instr.sureAddr, storeVar, ht.sz, hucl, hst]
    · have hb' := setRow_heap w g cur (cur.toList.set m.toNat u).toArray tg (0, 0) hb
      refine ⟨R, _, hw.upd i (fun b => if b = g then some (.cells (cur.toList.set m.toNat u).toArray tg (0, 0)) else hs' i b) ?_ (by simp) ?_ ?_ rfl rfl rfl (own_set ?_)⟩
      · intro b _ hb2
        by_cases eq : b = g
        · subst eq; rw [p.l0 _ _ a2] at hb2; cases hb2
        · exact setRow_other w g b _ eq
      · intro b o' hb1
        by_cases eq : b = g
        · subst eq; simp at hb1; subst hb1; exact hb'
        · simp only [eq, if_false] at hb1
          rw [setRow_other w g b _ eq]; exact hw.hw i b o' hb1
      · intro b o' hb1
        by_cases eq : b = g
        · subst eq; left; rw [p.l0 _ _ a2]; simp
        · simp only [eq, if_false] at hb1; left; rw [hb1]; simp
      · refine ⟨fun b => if b = g then some (.cells (cur.toList.set m.toNat u).toArray tg (0, 0)) else h0' b, hh, ⟨(vs.set m.toNat u).map fun x => [x], by simp, ?_, .inr ⟨g, cap, (cur.toList.set m.toNat u).toArray, tg, by rw [a1]; simp, by simp, by simpa using a3, a4, by simp [a5, valS], ?_⟩⟩, p.nn, by simpa using p.len, ?_, ?_, ?_, ?_, ?_, ?_⟩
        · intro j ci z q1 q2
          simp only [List.getElem?_map, q2, Option.map_some, Option.some.injEq] at q1
          refine ⟨q1.symm, ?_⟩
          rcases List.mem_or_eq_of_mem_set (List.mem_of_getElem? q2) with q3 | q3
          · exact a7 z q3
          · subst q3; exact huone
        · rw [show (List.map (fun x => [x]) (vs.set m.toNat u)).flatten = vs.set m.toNat u from by rw [← List.flatMap_def]; simp]
          simp only [valS, Nat.mul_one, List.length_set]
          rw [List.take_set, a6]
        · intro b o' hb1
          by_cases eq : b = g
          · subst eq; simpa using hb1
          · simp only [eq, if_false] at hb1 ⊢; exact p.l0 b o' hb1
        · intro j _ b o' hb1
          have hl := p.ls j (by simp) b o' hb1
          by_cases eq : b = g
          · subst eq
            rcases p.d0 j (by simp) b with q3 | q3
            · rw [a2] at q3; cases q3
            · rw [q3] at hb1; cases hb1
          · simp only [eq, if_false]; exact hl
        · intro j _ b
          by_cases eq : b = g
          · subst eq
            rcases p.d0 j (by simp) b with q3 | q3
            · rw [a2] at q3; cases q3
            · exact .inr q3
          · simp only [eq, if_false]; exact p.d0 j (by simp) b
        · intro j l hjl _ _; exact p.ds j l hjl (by simp) (by simp)
        · intro j v' ys hj q1 q2
          rw [List.getElem?_set_ne (fun e' => hj (by simp [e']))] at q1
          exact p.row j v' ys (by simp) q1 q2
        · intro p' e'; cases e'; exact List.getElem?_set_self hmv
  refine h1.vs ?_
  rintro x rfl
  refine ⟨_, ⟨vs.set m.toNat u, rfl⟩, ?_⟩
  have hne : i ≠ q := Nat.ne_of_beq_eq_false hiq
  have h2 := vs_unfocus (c := c) (fr := fr) (shr := shr) (own := own.set i (some (rowsX S nn v (vs.set m.toNat u) bs (some (m.toNat, u))))) (i := i) (q := q) (m := m.toNat) (u := u) (xs := xs) (S := S) (nn := nn) (v := v) (vs := vs.set m.toNat u) (bs := bs) (by simp [hil]) (by rw [List.getElem?_set_ne hne]; exact hq) hiq
  rw [List.set_set] at h2
  exact h2
end

/-! ## what is made -/
section
variable {c : Cx} {k : List Item} {s : St} {ops : Array Oper} {rest : List Oper} {o : Oper} {fr : List (Nat × Option Value)} {own : List (Option Res)} {shr : List Fact} {d : Nat} {τ σ : Type}
/-- make([]T, l, c), of any integers -/
theorem OpT_makeK (S : Shape τ) {cells : τ → List Value} {sz : Nat} {ag : Bool} {hl : ∀ x, (cells x).length = sz} {hone : ∀ x, (cells x).all (·.oneCell') = true} (hS : S = Shape.plain sz ag cells hl hone) {t e : TypeId} {x y : Operand} {l m : Int} {kl km : IntKind} {b : Nat} {z : Value} {u : τ} (hn : Nat.blt d c.n = true) (hd : o.dst = some d) (ho : o.op = .makeSlice t x y) (hx : ev fr x = some (.int kl l)) (hy : ev fr y = some (.int km m))
    (ht : SlF c.P t e sz b z) (hz : z.cells.toList = cells u) (hok : decide (0 ≤ l ∧ l ≤ m ∧ (b : Int) * m ≤ 140737488355328) = true) :
    OpT c o ⟨fr, own, shr⟩ (fun s => ∃ v, s = ⟨(d, some v) :: fr, own ++ [some (rowS S v (List.replicate l.toNat u))], shr⟩) := by
  subst hS
  exact OpT_run hn hd fun a w hs => by
    obtain ⟨h0, h1, h2⟩ : 0 ≤ l ∧ l ≤ m ∧ (b : Int) * m ≤ 140737488355328 := by simpa using hok
    obtain ⟨ti, hti, htz, hsz, hb⟩ := ht.info
    have hbp := ht.bpos
    have hm : m ≤ 140737488355328 := by
      have h3 : m ≤ (b : Int) * m := by
        have h4 : (1 : Int) ≤ (b : Int) := by omega
        have := Int.mul_le_mul_of_nonneg_right h4 (show 0 ≤ m by omega)
        omega
      omega
    have hr := run_make (P := c.P) w t e ti z ht.und hti htz kl km l m h0 h1 (by rw [hb]; omega) (by omega)
    have hzc : z.cells = (cells u).toArray := by rw [← hz]
    rw [hsz, hzc] at hr
    have hlen : (List.replicate l.toNat u).length = l.toNat := by simp
    refine ⟨.slice (some ⟨w.heap.size, 0, none⟩) l.toNat m.toNat, w.alloc (.cells (madeCells (cells u).toArray (m.toNat * sz)) e), .slice (some ⟨w.heap.size, 0, none⟩) l.toNat m.toNat, by simp [execOp, ho, ev_eval hs.2.2.1 hx, ev_eval hs.2.2.1 hy, hr], rfl, ?_⟩
    have hcl : (cells u).length = sz := hl u
    have hmc := madeCells_flat (z := cells u) m.toNat (by rw [hcl]; exact ht.pos)
    rw [hcl] at hmc
    have := HSat.newrow (S := Shape.plain sz ag cells hl hone) (own := own) (shr := shr) hs.2.2.2 (madeCells (cells u).toArray (m.toNat * sz)) e (List.replicate l.toNat u) (List.replicate l.toNat (cells u)) m.toNat (by simp)
      (fun R _ _ i ci x q1 q2 => by
        rw [List.getElem?_replicate] at q1 q2
        split at q1
        · rename_i hlt; rw [if_pos hlt] at q2; simp at q1 q2; subst q1; subst q2; rfl
        · cases q1) (by simp; omega) (by unfold maxLen; omega) (by simp [size_madeCells, Shape.plain]) (by
        have hsplit : m.toNat = l.toNat + (m.toNat - l.toNat) := by omega
        rw [hmc, hlen]
        show List.take (l.toNat * sz) _ = _
        rw [hsplit, ← List.replicate_append_replicate, List.flatten_append, List.take_left']
        rw [flat_len (sz := sz) (fun ci h => by rw [(List.mem_replicate.1 h).2, hcl])]; simp)
    rw [hlen] at this
    exact this
/-- make([][]T, l, c): rows, each nil -/
theorem OpT_makeRows (S : Shape τ) {t e : TypeId} {x y : Operand} {l m : Int} {kl km : IntKind} {b : Nat} (hn : Nat.blt d c.n = true) (hd : o.dst = some d) (ho : o.op = .makeSlice t x y) (hx : ev fr x = some (.int kl l)) (hy : ev fr y = some (.int km m))
    (ht : SlF c.P t e 1 b (.slice none 0 0)) (hok : decide (0 ≤ l ∧ l ≤ m ∧ (b : Int) * m ≤ 140737488355328) = true) :
    OpT c o ⟨fr, own, shr⟩ (fun s => ∃ v vs, s = ⟨(d, some v) :: fr, own ++ [some (rowsX S true v vs (List.replicate l.toNat []) none)], shr⟩) := by
  have hz : (Value.slice none 0 0).cells.toList = [Value.slice none 0 0] := rfl
  refine fun a w hs K Q hK => ?_
  have main : OpT c o ⟨fr, own, shr⟩ (fun s => ∃ x : Value × List Value, s = ⟨(d, some x.1) :: fr, own ++ [some (rowsX S true x.1 x.2 (List.replicate l.toNat []) none)], shr⟩) :=
    OpT_run (f := fun x : Value × List Value => ⟨(d, some x.1) :: fr, own ++ [some (rowsX S true x.1 x.2 (List.replicate l.toNat []) none)], shr⟩) hn hd fun a w hs => by
      obtain ⟨h0, h1, h2⟩ : 0 ≤ l ∧ l ≤ m ∧ (b : Int) * m ≤ 140737488355328 := by simpa using hok
      obtain ⟨ti, hti, htz, hsz, hb⟩ := ht.info
      have hbp := ht.bpos
      have hm : m ≤ 140737488355328 := by
        have h3 : m ≤ (b : Int) * m := by
          have h4 : (1 : Int) ≤ (b : Int) := by omega
          have := Int.mul_le_mul_of_nonneg_right h4 (show 0 ≤ m by omega)
          omega
        omega
      have hr := run_make (P := c.P) w t e ti _ ht.und hti htz kl km l m h0 h1 (by rw [hb]; omega) (by omega)
      rw [hsz, Nat.mul_one] at hr
      have hmc := madeCells_flat (z := [Value.slice none 0 0]) m.toNat (by simp)
      simp only [List.length_singleton, Nat.mul_one] at hmc
      have hsz2 : (madeCells (Value.slice none 0 0).cells m.toNat).size = m.toNat := by simp [size_madeCells]
      refine ⟨.slice (some ⟨w.heap.size, 0, none⟩) l.toNat m.toNat, _, (.slice (some ⟨w.heap.size, 0, none⟩) l.toNat m.toNat, List.replicate l.toNat (.slice none 0 0)), by simp [execOp, ho, ev_eval hs.2.2.1 hx, ev_eval hs.2.2.1 hy, hr]; rfl, rfl, ?_⟩
      refine hs.2.2.2.alloc _ _ fun R _ _ => ?_
      refine ⟨PH.one w.heap.size (.cells (madeCells (Value.slice none 0 0).cells m.toNat) e), fun _ => PH.emp, ⟨?_, fun _ => ⟨_, _, _, rfl⟩, by simp, PH.le_refl _, fun _ _ b o h => (by cases h), fun _ _ b => .inr rfl, fun _ _ _ _ _ b => .inr rfl, ?_, fun _ h => (by cases h)⟩⟩
      · refine ⟨List.replicate l.toNat [Value.slice none 0 0], by simp, ?_, .inr ⟨w.heap.size, m.toNat, _, e, by simp, PH.one_self _ _, by simp; omega, by unfold maxLen; omega, by rw [hsz2]; simp [valS], ?_⟩⟩
        · intro i ci x q1 q2
          rw [List.getElem?_replicate] at q1 q2
          split at q1
          · rename_i hlt; rw [if_pos hlt] at q2; simp at q1 q2; subst q1; subst q2; exact ⟨rfl, rfl⟩
          · cases q1
        · have hsplit : m.toNat = l.toNat + (m.toNat - l.toNat) := by omega
          rw [show (madeCells (Value.slice none 0 0).cells m.toNat).toList = _ from hmc, hsplit, ← List.replicate_append_replicate, List.flatten_append, List.take_left']
          simp [valS, List.length_flatten]
      · intro i v' xs _ q1 q2
        rw [List.getElem?_replicate] at q1 q2
        split at q1
        · rename_i hlt; rw [if_pos hlt] at q2; simp at q1 q2; subst q1; subst q2
          exact ⟨[], rfl, fun i ci x h => by simp at h, .inl ⟨rfl, rfl⟩⟩
        · cases q1
  refine main a w hs K Q ?_
  rintro x ⟨⟨p, q⟩, rfl⟩
  exact hK _ ⟨p, q, rfl⟩
end
end Go.Proofs.Ytlofegfaphijpaa
