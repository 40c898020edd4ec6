/- The engine: rules for stepping through code. No statement of the seat is proved here; no condition. -/
import Derived.Test.YtjfdamiilndgeaaGe1
import Derived.Laws.Pointers
import Derived.LoopN
import Derived.MapKept
import Derived.KernelRfl
section
namespace Go.Proofs.Ytjfdamiilndgeaa

/-! ## parts that are parted and joined -/
theorem PH.disj_le {h h1 g : PH} (hl : h1.le h) (hd : h.disj g) : h1.disj g := fun b => by
  cases hb : h1 b with
  | none => exact .inl rfl
  | some o =>
    rcases hd b with q | q
    · rw [hl b o hb] at q; cases q
    · exact .inr q
theorem PH.disj_or {h1 h2 g : PH} (a : h1.disj g) (b : h2.disj g) : (h1.or h2).disj g := fun x => by
  rcases a x with q | q
  · rcases b x with q' | q'
    · left; simp [PH.or, q, q']
    · exact .inr q'
  · exact .inr q
def PH.minus (h g : PH) : PH := fun b => match g b with | some _ => none | none => h b
theorem PH.minus_le {h g : PH} : (h.minus g).le h := fun b o hb => by
  unfold PH.minus at hb
  cases hg : g b with
  | some _ => rw [hg] at hb; cases hb
  | none => rw [hg] at hb; exact hb
theorem PH.minus_disj {h g : PH} : (h.minus g).disj g := fun b => by
  unfold PH.minus
  cases hg : g b with
  | some _ => exact .inl rfl
  | none => exact .inr rfl
theorem PH.le_minus {h g k : PH} (hl : k.le h) (hd : k.disj g) : k.le (h.minus g) := fun b o hb => by
  unfold PH.minus
  rcases hd b with q | q
  · rw [q] at hb; cases hb
  · rw [q]; exact hl b o hb
theorem HSat.split {R0 : PH} {w0 : World} {B : Nat → Prop} {own : List (Option Res)} {shr : List Fact} {w : World} (h : HSat R0 w0 B own shr w) {i : Nat} {r : Res} (hi : own[i]? = some (some r)) {α : Type} {r1 r2 : α → Res} {F : α → List Fact}
    (hsp : ∀ R h, (∀ G ∈ shr, G.p R) → r.p R h → ∃ x h1 h2, h1.disj h2 ∧ h1.le h ∧ h2.le h ∧ (r1 x).p R h1 ∧ (r2 x).p R h2 ∧ ∀ G ∈ F x, G.p R) :
    ∃ x, HSat R0 w0 B (own.set i (some (r1 x)) ++ [some (r2 x)]) (shr ++ F x) w := by
  obtain ⟨R, hs, hw⟩ := h
  obtain ⟨x, h1, h2, hd, l1, l2, p1, p2, hF⟩ := hsp R (hs i) hw.sh (hw.ow i r hi)
  have hil : i < own.length := (List.getElem?_eq_some_iff.1 hi).1
  refine ⟨x, R, fun j => if j = i then h1 else if j = own.length then h2 else hs j, hw.r0, hw.rw_, ?_, ?_, ?_, ?_, ?_, ?_, hw.rnew, hw.size, hw.keep, hw.os, hw.tape, hw.output⟩
  · intro G hG
    rcases List.mem_append.1 hG with q | q
    · exact hw.sh G q
    · exact hF G q
  · intro j q hj
    by_cases e : j = i
    · subst e
      rw [List.getElem?_append_left (by simpa using hil)] at hj
      simp [hil] at hj; subst hj
      simp only [if_true]; exact p1
    · by_cases e2 : j = own.length
      · subst e2
        rw [List.getElem?_append_right (by simp)] at hj
        simp at hj; subst hj
        simp only [e, if_true, if_false]; exact p2
      · simp only [e, e2, if_false]
        rcases Nat.lt_or_ge j own.length with hlt | hge
        · rw [List.getElem?_append_left (by simpa using hlt), List.getElem?_set_ne (fun q => e q.symm)] at hj
          exact hw.ow j q hj
        · rw [List.getElem?_eq_none (by simp; omega)] at hj; cases hj
  · intro j
    by_cases e : j = i
    · simp only [e, if_true]; exact fun b o hb => hw.hw i b o (l1 b o hb)
    · by_cases e2 : j = own.length
      · simp only [e2, if_true]
        rw [if_neg (by omega)]
        exact fun b o hb => hw.hw i b o (l2 b o hb)
      · simp only [e, e2, if_false]; exact hw.hw j
  · intro j l hjl
    by_cases e : j = i
    · subst e
      simp only [if_true]
      rw [if_neg (fun q => hjl q.symm)]
      by_cases e2 : l = own.length
      · simp only [e2, if_true]; exact hd
      · simp only [e2, if_false]; exact PH.disj_le l1 (hw.dj j l hjl)
    · rw [if_neg e]
      by_cases e2 : j = own.length
      · rw [if_pos e2]
        by_cases e3 : l = i
        · rw [if_pos e3]; exact PH.disj_comm hd
        · rw [if_neg e3, if_neg (by omega)]; exact PH.disj_le l2 (hw.dj i l (fun q => e3 q.symm))
      · rw [if_neg e2]
        by_cases e3 : l = i
        · rw [if_pos e3]; exact PH.disj_comm (PH.disj_le l1 (hw.dj i j (fun q => e q.symm)))
        · rw [if_neg e3]
          by_cases e4 : l = own.length
          · rw [if_pos e4]; exact PH.disj_comm (PH.disj_le l2 (hw.dj i j (fun q => e q.symm)))
          · rw [if_neg e4]; exact hw.dj j l hjl
  · intro j
    by_cases e : j = i
    · rw [if_pos e]; exact PH.disj_comm (PH.disj_le l1 (PH.disj_comm (hw.rd i)))
    · rw [if_neg e]
      by_cases e2 : j = own.length
      · rw [if_pos e2]; exact PH.disj_comm (PH.disj_le l2 (PH.disj_comm (hw.rd i)))
      · rw [if_neg e2]; exact hw.rd j
  · intro j b o hb
    by_cases e : j = i
    · rw [if_pos e] at hb; exact hw.new i b o (l1 b o hb)
    · rw [if_neg e] at hb
      by_cases e2 : j = own.length
      · rw [if_pos e2] at hb; exact hw.new i b o (l2 b o hb)
      · rw [if_neg e2] at hb; exact hw.new j b o hb
theorem HSat.merge {R0 : PH} {w0 : World} {B : Nat → Prop} {own : List (Option Res)} {shr : List Fact} {w : World} (h : HSat R0 w0 B own shr w) {i j : Nat} {r r1 r2 : Res} (hij : Nat.beq i j = false) (hi : own[i]? = some (some r1)) (hj : own[j]? = some (some r2))
    (hm : ∀ R h1 h2, (∀ G ∈ shr, G.p R) → h1.disj h2 → r1.p R h1 → r2.p R h2 → r.p R (h1.or h2)) : HSat R0 w0 B ((own.set i (some r)).set j none) shr w := by
  obtain ⟨R, hs, hw⟩ := h
  have hne : i ≠ j := Nat.ne_of_beq_eq_false hij
  have hil : i < own.length := (List.getElem?_eq_some_iff.1 hi).1
  have hjl : j < own.length := (List.getElem?_eq_some_iff.1 hj).1
  have hp := hm R (hs i) (hs j) hw.sh (hw.dj i j hne) (hw.ow i _ hi) (hw.ow j _ hj)
  refine ⟨R, fun k => if k = i then (hs i).or (hs j) else if k = j then PH.emp else hs k, hw.r0, hw.rw_, hw.sh, ?_, ?_, ?_, ?_, ?_, hw.rnew, hw.size, hw.keep, hw.os, hw.tape, hw.output⟩
  · intro k q hk
    by_cases e : k = i
    · subst e
      rw [List.getElem?_set_ne (fun q => hne q.symm)] at hk
      simp [hil] at hk; subst hk
      simp only [if_true]; exact hp
    · rw [if_neg e]
      by_cases e2 : k = j
      · subst e2; simp [hjl] at hk
      · rw [if_neg e2]
        rw [List.getElem?_set_ne (fun q => e2 q.symm), List.getElem?_set_ne (fun q => e q.symm)] at hk
        exact hw.ow k q hk
  · intro k
    by_cases e : k = i
    · rw [if_pos e]; exact fun b o hb => by
        rcases PH.or_some hb with q | q
        · exact hw.hw i b o q
        · exact hw.hw j b o q
    · rw [if_neg e]
      by_cases e2 : k = j
      · rw [if_pos e2]; intro b o hb; cases hb
      · rw [if_neg e2]; exact hw.hw k
  · intro k l hkl
    by_cases e : k = i
    · rw [if_pos e, if_neg (by omega)]
      by_cases e2 : l = j
      · rw [if_pos e2]; exact fun b => .inr rfl
      · rw [if_neg e2]; exact PH.disj_or (hw.dj i l (by omega)) (hw.dj j l (by omega))
    · rw [if_neg e]
      by_cases e2 : k = j
      · rw [if_pos e2]; exact fun b => .inl rfl
      · rw [if_neg e2]
        by_cases e3 : l = i
        · rw [if_pos e3]; exact PH.disj_comm (PH.disj_or (hw.dj i k (by omega)) (hw.dj j k (by omega)))
        · rw [if_neg e3]
          by_cases e4 : l = j
          · rw [if_pos e4]; exact fun b => .inr rfl
          · rw [if_neg e4]; exact hw.dj k l hkl
  · intro k
    by_cases e : k = i
    · rw [if_pos e]; exact PH.disj_comm (PH.disj_or (PH.disj_comm (hw.rd i)) (PH.disj_comm (hw.rd j)))
    · rw [if_neg e]
      by_cases e2 : k = j
      · rw [if_pos e2]; exact fun b => .inr rfl
      · rw [if_neg e2]; exact hw.rd k
  · intro k b o hb
    by_cases e : k = i
    · rw [if_pos e] at hb
      rcases PH.or_some hb with q | q
      · exact hw.new i b o q
      · exact hw.new j b o q
    · rw [if_neg e] at hb
      by_cases e2 : k = j
      · rw [if_pos e2] at hb; cases hb
      · rw [if_neg e2] at hb; exact hw.new k b o hb
/-- a part is laid for nothing -/
theorem HSat.free {R0 : PH} {w0 : World} {B : Nat → Prop} {own : List (Option Res)} {shr : List Fact} {w : World} (h : HSat R0 w0 B own shr w) (r : Res) (hr : ∀ R, r.p R PH.emp) : HSat R0 w0 B (own ++ [some r]) shr w := by
  obtain ⟨R, hs, hw⟩ := h
  refine ⟨R, _, hw.upd own.length PH.emp (fun _ _ _ => rfl) (Nat.le_refl _) (fun b o' hb => by cases hb) (fun b o' hb => by cases hb) rfl rfl rfl ?_⟩
  intro j r' hj
  by_cases e : j = own.length
  · subst e; simp at hj; subst hj; exact .inl ⟨rfl, hr R⟩
  · right; refine ⟨e, ?_⟩
    rcases Nat.lt_or_ge j own.length with hlt | hge
    · rwa [List.getElem?_append_left hlt] at hj
    · rw [List.getElem?_eq_none (by simp; omega)] at hj; cases hj

/-- a state seen otherwise, with something new named -/
def EX {α : Type} (c : Cx) (s : St) (f : α → St) : Prop := ∀ a w, Sat c s a w → ∃ x, Sat c (f x) a w
section
variable {c : Cx} {k : List Item} {s s' : St} {ops : Array Oper} {rest : List Oper} {lo : Nat} {α : Type} {f : α → St}
theorem OpT.pre {o : Oper} {Ks : St → Prop} (hv : VS c s s') (h : OpT c o s' Ks) : OpT c o s Ks := fun a w hs => h a w (hv a w hs)
end

/-! ## rows of rows -/
def valS : Shape Value := ⟨1, false, fun _ cs x => cs = [x] ∧ x.oneCell' = true, fun _ h => h, fun ⟨e, _⟩ => by subst e; rfl, fun ⟨e, h⟩ u hu => by subst e; simp at hu; subst hu; exact h⟩
theorem val_css {R : PH} : ∀ {css : List (List Value)} {vs : List Value}, css.length = vs.length → (∀ (i : Nat) (ci : List Value) (x : Value), css[i]? = some ci → vs[i]? = some x → valS.rel R ci x) → css.flatten = vs ∧ ∀ x ∈ vs, x.oneCell' = true
  | [], [], _, _ => ⟨rfl, fun x h => by cases h⟩
  | [], _ :: _, h, _ => by simp at h
  | _ :: _, [], h, _ => by simp at h
  | ci :: css, x :: vs, h, hr => by
    obtain ⟨e1, e2⟩ := hr 0 ci x rfl rfl
    obtain ⟨ih1, ih2⟩ := val_css (R := R) (css := css) (vs := vs) (by simpa using h) (fun i ci x a b => hr (i + 1) ci x a b)
    subst e1
    refine ⟨by simp [ih1], fun y hy => ?_⟩
    rcases List.mem_cons.1 hy with q | q
    · subst q; exact e2
    · exact ih2 y q
theorem RowRel.mono {τ : Type} {S : Shape τ} {R R' h : PH} (hl : R.le R') {v : Value} {xs : List τ} (hr : RowRel S R h v xs) : RowRel S R' h v xs := (rowS S v xs).mono hl hr
theorem RowRel.le {τ : Type} {S : Shape τ} {R h h' : PH} (hl : h.le h') {v : Value} {xs : List τ} (hr : RowRel S R h v xs) : RowRel S R h' v xs := by
  obtain ⟨css, h1, h2, h3⟩ := hr
  refine ⟨css, h1, h2, ?_⟩
  rcases h3 with q | ⟨g, cap, cur, tg, a1, a2, a3⟩
  · exact .inl q
  · exact .inr ⟨g, cap, cur, tg, a1, hl _ _ a2, a3⟩

structure RowsP {τ : Type} (S : Shape τ) (nn : Bool) (v : Value) (vs : List Value) (bs : List (List τ)) (ex : Option (Nat × Value)) (R h h0 : PH) (hs : Nat → PH) : Prop where
  out : RowRel valS R h0 v vs
  nn : nn = true → ∃ a n c, v = .slice (some a) n c
  len : vs.length = bs.length
  l0 : h0.le h
  ls : ∀ i, ex.map (·.1) ≠ some i → (hs i).le h
  d0 : ∀ i, ex.map (·.1) ≠ some i → h0.disj (hs i)
  ds : ∀ i j, i ≠ j → ex.map (·.1) ≠ some i → ex.map (·.1) ≠ some j → (hs i).disj (hs j)
  row : ∀ (i : Nat) (v' : Value) (xs : List τ), ex.map (·.1) ≠ some i → vs[i]? = some v' → bs[i]? = some xs → RowRel S R (hs i) v' xs
  hol : ∀ p, ex = some p → vs[p.1]? = some p.2
/-- rows of one's own in a row of one's own; ex: the row that is out on its own -/
def rowsX {τ : Type} (S : Shape τ) (nn : Bool) (v : Value) (vs : List Value) (bs : List (List τ)) (ex : Option (Nat × Value)) : Res :=
  ⟨fun R h => ∃ h0 hs, RowsP S nn v vs bs ex R h h0 hs, fun hl ⟨h0, hs, p⟩ => ⟨h0, hs, p.out.mono hl, p.nn, p.len, p.l0, p.ls, p.d0, p.ds, fun i v' xs a b d => (p.row i v' xs a b d).mono hl, p.hol⟩⟩

section
variable {c : Cx} {k : List Item} {s : St} {ops : Array Oper} {rest : List Oper} {o : Oper} {fr : List (Nat × Option Value)} {own : List (Option Res)} {shr : List Fact} {d : Nat} {τ σ : Type} {S : Shape τ} {nn : Bool} {v : Value} {vs : List Value} {bs : List (List τ)} {ex : Option (Nat × Value)}

theorem ex_focus {i : Nat} {j : Int} {xs : List τ} (hi : own[i]? = some (some (rowsX S nn v vs bs none))) (hj : ix bs j = some xs) :
    EX c ⟨fr, own, shr⟩ (fun u => ⟨fr, own.set i (some (rowsX S nn v vs bs (some (j.toNat, u)))) ++ [some (rowS S u xs)], shr⟩) := fun a w hs => by
  obtain ⟨_, _, hb⟩ := ix_some hj
  obtain ⟨x, hx⟩ := hs.2.2.2.split hi (r1 := fun u => rowsX S nn v vs bs (some (j.toNat, u))) (r2 := fun u => rowS S u xs) (F := fun _ => []) (by
    rintro R h _ ⟨h0, hh, p⟩
    have hlt : j.toNat < vs.length := by rw [p.len]; exact (List.getElem?_eq_some_iff.1 hb).1
    have hv := List.getElem?_eq_getElem hlt
    refine ⟨vs[j.toNat], h.minus (hh j.toNat), hh j.toNat, PH.minus_disj, PH.minus_le, p.ls _ (by simp), ⟨h0, hh, p.out, p.nn, p.len, PH.le_minus p.l0 (p.d0 _ (by simp)), ?_, ?_, ?_, ?_, ?_⟩, p.row _ _ _ (by simp) hv hb, fun G h => by cases h⟩
    · intro q hq; exact PH.le_minus (p.ls q (by simp)) (p.ds q _ (fun e => hq (by simp [e])) (by simp) (by simp))
    · intro q _; exact p.d0 q (by simp)
    · intro q q' a _ _; exact p.ds q q' a (by simp) (by simp)
    · intro q v' ys _ a b; exact p.row q v' ys (by simp) a b
    · intro p' e; cases e; exact hv)
  rw [List.append_nil] at hx
  exact ⟨x, hs.1, hs.2.1, hs.2.2.1, hx⟩
theorem vs_unfocus {i q : Nat} {m : Nat} {u : Value} {xs : List τ} (hi : own[i]? = some (some (rowsX S nn v vs bs (some (m, u))))) (hq : own[q]? = some (some (rowS S u xs))) (hiq : Nat.beq i q = false) :
    VS c ⟨fr, own, shr⟩ ⟨fr, (own.set i (some (rowsX S nn v vs (bs.set m xs) none))).set q none, shr⟩ := fun a w hs => by
  refine ⟨hs.1, hs.2.1, hs.2.2.1, hs.2.2.2.merge hiq hi hq ?_⟩
  rintro R h1 h2 _ hd ⟨h0, hh, p⟩ hr
  refine ⟨h0, fun j => if j = m then h2 else hh j, p.out, p.nn, by simpa using p.len, PH.le_trans p.l0 PH.or_left, ?_, ?_, ?_, ?_, fun p' e => by cases e⟩
  · intro j _
    by_cases e : j = m
    · rw [if_pos e]; exact PH.or_right hd
    · rw [if_neg e]; exact PH.le_trans (p.ls j (fun e' => e (by simpa using e'.symm))) PH.or_left
  · intro j _
    by_cases e : j = m
    · rw [if_pos e]; exact PH.disj_le p.l0 hd
    · rw [if_neg e]; exact p.d0 j (fun e' => e (by simpa using e'.symm))
  · intro j l hjl _ _
    by_cases e : j = m
    · rw [if_pos e, if_neg (by omega)]; exact PH.disj_comm (PH.disj_le (p.ls l (fun e' => hjl (by rw [e]; simpa using e'))) hd)
    · rw [if_neg e]
      by_cases e2 : l = m
      · rw [if_pos e2]; exact PH.disj_le (p.ls j (fun e' => e (by simpa using e'.symm))) hd
      · rw [if_neg e2]; exact p.ds j l hjl (fun e' => e (by simpa using e'.symm)) (fun e' => e2 (by simpa using e'.symm))
  · intro j v' ys _ a1 a2
    by_cases e : j = m
    · rw [if_pos e]
      subst e
      have := p.hol _ rfl
      simp only at this
      rw [a1] at this; cases this
      have hlt : j < bs.length := by rw [← p.len]; exact (List.getElem?_eq_some_iff.1 a1).1
      rw [List.getElem?_set_self hlt] at a2; cases a2
      exact hr
    · rw [if_neg e]
      rw [List.getElem?_set_ne (fun q => e q.symm)] at a2
      exact p.row j v' ys (fun e' => e (by simpa using e'.symm)) a1 a2
theorem rows_val {R h : PH} (hp : (rowsX S nn v vs bs ex).p R h) : ∃ base cp, v = .slice base bs.length cp := by
  obtain ⟨h0, hh, p⟩ := hp
  rw [← p.len]; exact RowRel.val p.out
theorem is_rows {i : Nat} (hi : own[i]? = some (some (rowsX S nn v vs bs ex))) : IsSl c ⟨fr, own, shr⟩ v := fun a w hs => by
  obtain ⟨R, hs', hw⟩ := hs.2.2.2
  obtain ⟨base, cp, e⟩ := rows_val (hw.ow i _ hi)
  exact ⟨_, _, _, e⟩
theorem OpT_idxRows {t e : TypeId} {x y : Operand} {i : Nat} {kk : IntKind} {m : Int} {xs : List τ} {b : Nat} {z : Value} (hn : Nat.blt d c.n = true) (hd : o.dst = some d) (ho : o.op = .indexAddr t x y) (hx : ev fr x = some v) (hy : ev fr y = some (.int kk m))
    (ht : SlF c.P t e 1 b z) (hi : own[i]? = some (some (rowsX S nn v vs bs ex))) (hu : ix bs m = some xs) : OpT c o ⟨fr, own, shr⟩ (fun s => s = ⟨(d, some (rowPtr v (Int.toNat m * 1))) :: fr, own, shr⟩) :=
  OpT_val hn hd fun a w hs => by
    obtain ⟨h0, h1, h2⟩ := ix_some hu
    obtain ⟨R, hs', hw⟩ := hs.2.2.2
    obtain ⟨h0', hh, p⟩ := hw.ow i _ hi
    obtain ⟨css, _, _, h3⟩ := p.out
    rcases h3 with ⟨_, hx0⟩ | ⟨g, cap, cur, tg, hv, _⟩
    · have := p.len; rw [hx0] at this; simp at this; omega
    · have h1' : m < (vs.length : Int) := by rw [p.len]; exact h1
      subst hv
      have hun := run_underlying ht.und w
      simp [execOp, ho, ev_eval hs.2.2.1 hx, ev_eval hs.2.2.1 hy, Instr.indexAt, asIntOf, hun, ht.sz, h0, h1', rowPtr]
/-- the block behind a row of values -/
theorem val_block {R h : PH} {v : Value} {vs : List Value} (hr : RowRel valS R h v vs) (hne : vs ≠ []) :
    ∃ (g cap : Nat) (cur : Array Value) (tg : TypeId), v = .slice (some ⟨g, 0, none⟩) vs.length cap ∧ h g = some (.cells cur tg (0, 0)) ∧ vs.length ≤ cap ∧ cap ≤ maxLen ∧ cur.size = cap ∧ cur.toList.take vs.length = vs ∧ ∀ x ∈ vs, x.oneCell' = true := by
  obtain ⟨css, h1, h2, h3⟩ := hr
  obtain ⟨e1, e2⟩ := val_css h1 h2
  rcases h3 with ⟨_, hx⟩ | ⟨g, cap, cur, tg, a1, a2, a3, a4, a5, a6⟩
  · exact absurd hx hne
  · refine ⟨g, cap, cur, tg, a1, a2, a3, a4, ?_, ?_, e2⟩
    · simpa [valS] using a5
    · rw [e1] at a6; simpa [valS] using a6
theorem OpT_loadRow {t : TypeId} {x : Operand} {i n : Nat} {m : Int} {u : Value} (hn : Nat.blt d c.n = true) (hd : o.dst = some d) (ho : o.op = .load t x) (hx : ev fr x = some (rowPtr v (Int.toNat m * 1)))
    (ht : TyF c.P t false n) (hi : own[i]? = some (some (rowsX S nn v vs bs (some (m.toNat, u))))) : OpT c o ⟨fr, own, shr⟩ (fun s => s = ⟨(d, some u) :: fr, own, shr⟩) :=
  OpT_val hn hd fun a w hs => by
    obtain ⟨R, hs', hw⟩ := hs.2.2.2
    obtain ⟨h0', hh, p⟩ := hw.ow i _ hi
    have hu : vs[m.toNat]? = some u := p.hol _ rfl
    have hne : vs ≠ [] := by intro e; subst e; simp at hu
    obtain ⟨g, cap, cur, tg, a1, a2, a3, a4, a5, a6, _⟩ := val_block p.out hne
    have hb := hw.hw i g _ (p.l0 _ _ a2)
    have hc : cur[m.toNat]? = some u := by
      rw [← a6, List.getElem?_take] at hu
      split at hu
      · simpa using hu
      · cases hu
    have hcell : w.cell? ⟨g, m.toNat, none⟩ = some u := by rw [cell_of_row w g _ cur tg (0, 0) hb]; exact hc
    have e := ev_eval hs.2.2.1 hx
    rw [a1] at e
    simp only [rowPtr, Addr.add_lit, Nat.zero_add, Nat.mul_one] at e
    simp [execOp, ho, e, Instr.loadAt, Instr.sureAddr, loadVar, ht.ag, hcell]
theorem OpT_eqRows {t e : TypeId} {x y : Operand} {t2 : TypeId} {op : BinOp} {i : Nat} (hn : Nat.blt d c.n = true) (hd : o.dst = some d) (ho : o.op = .binOp op t x y t2) (hop : op = .eql ∨ op = .neq) (hx : ev fr x = some v) (hy : ev fr y = some (.slice none 0 0)) (ht : c.P.underlying t = some (.slice e))
    (hi : own[i]? = some (some (rowsX S true v vs bs ex))) : OpT c o ⟨fr, own, shr⟩ (fun s => s = ⟨(d, some (.bool (nilB op false))) :: fr, own, shr⟩) := fun a w hs => by
  obtain ⟨R, hs', hw⟩ := hs.2.2.2
  obtain ⟨h0', hh, p⟩ := hw.ow i _ hi
  obtain ⟨ad, n, cp, e1⟩ := p.nn rfl
  subst e1
  exact OpT_bin hn hd ho hx hy (run_eqNil (base := some ad) hop ht) a w hs
/-- a part of a row of one's own that is not empty is not nil -/
theorem OpT_eqSub {t e : TypeId} {x y : Operand} {t2 : TypeId} {op : BinOp} {i : Nat} {u : Value} {xs : List τ} {l m : Int} (hn : Nat.blt d c.n = true) (hd : o.dst = some d) (ho : o.op = .binOp op t x y t2) (hop : op = .eql ∨ op = .neq) (hx : ev fr x = some (subV u S.sz l.toNat m.toNat)) (hy : ev fr y = some (.slice none 0 0)) (ht : c.P.underlying t = some (.slice e))
    (hi : own[i]? = some (some (rowS S u xs))) (hc : decide (0 ≤ l ∧ l ≤ m ∧ m ≤ len xs) = true) (hlt : decide (l < m) = true) : OpT c o ⟨fr, own, shr⟩ (fun s => s = ⟨(d, some (.bool (nilB op false))) :: fr, own, shr⟩) := fun a w hs => by
  obtain ⟨R, hs', hw⟩ := hs.2.2.2
  obtain ⟨h0, h1, h2⟩ : 0 ≤ l ∧ l ≤ m ∧ m ≤ len xs := by simpa using hc
  have h3 : l < m := by simpa using hlt
  unfold len at h2
  obtain ⟨css, _, _, h4⟩ := hw.ow i _ hi
  rcases h4 with ⟨_, hx0⟩ | ⟨g, cap, cur, tg, hv, _⟩
  · subst hx0; simp at h2; omega
  · subst hv
    have e1 : ∃ ad, subV (.slice (some ⟨g, 0, none⟩) xs.length cap) S.sz l.toNat m.toNat = .slice (some ad) (m.toNat - l.toNat) (cap - l.toNat) := by
      show ∃ ad, Value.slice (if cap = l.toNat then some ⟨g, 0, none⟩ else _) _ _ = _
      by_cases e : cap = l.toNat
      · rw [if_pos e]; exact ⟨_, rfl⟩
      · rw [if_neg e]; exact ⟨_, rfl⟩
    obtain ⟨ad, e1⟩ := e1
    rw [e1] at hx
    exact OpT_bin hn hd ho hx hy (run_eqNil (base := some ad) hop ht) a w hs
/-- a row of one's own is laid into the rows -/
theorem OpT_storeRow {t : TypeId} {x y : Operand} {i q : Nat} {m : Int} {u : Value} {xs xs0 : List τ} {ag : Bool} (hd : o.dst = none) (ho : o.op = .store t x y) (hx : ev fr x = some (rowPtr v (Int.toNat m * 1))) (hy : ev fr y = some u)
    (ht : TyF c.P t ag 1) (hi : own[i]? = some (some (rowsX S nn v vs bs none))) (hq : own[q]? = some (some (rowS S u xs))) (hiq : Nat.beq i q = false) (hu : ix bs m = some xs0) :
    OpT c o ⟨fr, own, shr⟩ (fun s => ∃ vs', s = ⟨fr, (own.set i (some (rowsX S nn v vs' (bs.set m.toNat xs) none))).set q none, shr⟩) := by
  have hil : i < own.length := (List.getElem?_eq_some_iff.1 hi).1
  have h1 : OpT c o ⟨fr, own, shr⟩ (fun s => s = ⟨fr, own.set i (some (rowsX S nn v (vs.set m.toNat u) bs (some (m.toNat, u)))), shr⟩) := by
    refine OpT_skipRun hd fun a w hs => ?_
    obtain ⟨h0, h1, h2⟩ := ix_some hu
    obtain ⟨R, hs', hw⟩ := hs.2.2.2
    obtain ⟨h0', hh, p⟩ := hw.ow i _ hi
    have hmv : m.toNat < vs.length := by rw [p.len]; exact (List.getElem?_eq_some_iff.1 h2).1
    have hne : vs ≠ [] := by intro e; subst e; simp at hmv
    obtain ⟨g, cap, cur, tg, a1, a2, a3, a4, a5, a6, a7⟩ := val_block p.out hne
    obtain ⟨base, cp, eu⟩ := RowRel.val (hw.ow q _ hq)
    have hucl : u.cells = #[u] := by subst eu; rfl
    have huone : u.oneCell' = true := by subst eu; rfl
    have hb := hw.hw i g _ (p.l0 _ _ a2)
    have hst := run_storeCells_at c.P g m.toNat tg [u] 0 cur w hb (by simp; omega) (by intro z hz; simp at hz; subst hz; exact huone)
    simp only [Nat.add_zero, List.length_singleton] at hst
    have e := ev_eval hs.2.2.1 hx
    rw [a1] at e
    simp only [rowPtr, Addr.add_lit, Nat.zero_add, Nat.mul_one] at e
    have hset : cur.toList.take m.toNat ++ [u] ++ cur.toList.drop (m.toNat + 1) = cur.toList.set m.toNat u := by
      rw [List.set_eq_take_append_cons_drop, if_pos (by simp; omega)]; simp
    rw [hset] at hst
    refine ⟨w.setRow g (cur.toList.set m.toNat u).toArray, ?_, ?_⟩
    · simp [execOp, ho, e, ev_eval hs.2.2.1 hy, Instr.storeAt, Instr.sureAddr, storeVar, ht.sz, hucl, hst]
    · have hb' := setRow_heap w g cur (cur.toList.set m.toNat u).toArray tg (0, 0) hb
      refine ⟨R, _, hw.upd i (fun b => if b = g then some (.cells (cur.toList.set m.toNat u).toArray tg (0, 0)) else hs' i b) ?_ (by simp) ?_ ?_ rfl rfl rfl (own_set ?_)⟩
      · intro b _ hb2
        by_cases eq : b = g
        · subst eq; rw [p.l0 _ _ a2] at hb2; cases hb2
        · exact setRow_other w g b _ eq
      · intro b o' hb1
        by_cases eq : b = g
        · subst eq; simp at hb1; subst hb1; exact hb'
        · simp only [eq, if_false] at hb1
          rw [setRow_other w g b _ eq]; exact hw.hw i b o' hb1
      · intro b o' hb1
        by_cases eq : b = g
        · subst eq; left; rw [p.l0 _ _ a2]; simp
        · simp only [eq, if_false] at hb1; left; rw [hb1]; simp
      · refine ⟨fun b => if b = g then some (.cells (cur.toList.set m.toNat u).toArray tg (0, 0)) else h0' b, hh, ⟨(vs.set m.toNat u).map fun x => [x], by simp, ?_, .inr ⟨g, cap, (cur.toList.set m.toNat u).toArray, tg, by rw [a1]; simp, by simp, by simpa using a3, a4, by simp [a5, valS], ?_⟩⟩, p.nn, by simpa using p.len, ?_, ?_, ?_, ?_, ?_, ?_⟩
        · intro j ci z q1 q2
          simp only [List.getElem?_map, q2, Option.map_some, Option.some.injEq] at q1
          refine ⟨q1.symm, ?_⟩
          rcases List.mem_or_eq_of_mem_set (List.mem_of_getElem? q2) with q3 | q3
          · exact a7 z q3
          · subst q3; exact huone
        · rw [show (List.map (fun x => [x]) (vs.set m.toNat u)).flatten = vs.set m.toNat u from by rw [← List.flatMap_def]; simp]
          simp only [valS, Nat.mul_one, List.length_set]
          rw [List.take_set, a6]
        · intro b o' hb1
          by_cases eq : b = g
          · subst eq; simpa using hb1
          · simp only [eq, if_false] at hb1 ⊢; exact p.l0 b o' hb1
        · intro j _ b o' hb1
          have hl := p.ls j (by simp) b o' hb1
          by_cases eq : b = g
          · subst eq
            rcases p.d0 j (by simp) b with q3 | q3
            · rw [a2] at q3; cases q3
            · rw [q3] at hb1; cases hb1
          · simp only [eq, if_false]; exact hl
        · intro j _ b
          by_cases eq : b = g
          · subst eq
            rcases p.d0 j (by simp) b with q3 | q3
            · rw [a2] at q3; cases q3
            · exact .inr q3
          · simp only [eq, if_false]; exact p.d0 j (by simp) b
        · intro j l hjl _ _; exact p.ds j l hjl (by simp) (by simp)
        · intro j v' ys hj q1 q2
          rw [List.getElem?_set_ne (fun e' => hj (by simp [e']))] at q1
          exact p.row j v' ys (by simp) q1 q2
        · intro p' e'; cases e'; exact List.getElem?_set_self hmv
  refine h1.vs ?_
  rintro x rfl
  refine ⟨_, ⟨vs.set m.toNat u, rfl⟩, ?_⟩
  have hne : i ≠ q := Nat.ne_of_beq_eq_false hiq
  have h2 := vs_unfocus (c := c) (fr := fr) (shr := shr) (own := own.set i (some (rowsX S nn v (vs.set m.toNat u) bs (some (m.toNat, u))))) (i := i) (q := q) (m := m.toNat) (u := u) (xs := xs) (S := S) (nn := nn) (v := v) (vs := vs.set m.toNat u) (bs := bs) (by simp [hil]) (by rw [List.getElem?_set_ne hne]; exact hq) hiq
  rw [List.set_set] at h2
  exact h2
end

/-! ## what is made -/
section
variable {c : Cx} {k : List Item} {s : St} {ops : Array Oper} {rest : List Oper} {o : Oper} {fr : List (Nat × Option Value)} {own : List (Option Res)} {shr : List Fact} {d : Nat} {τ σ : Type}
/-- make([]T, l, c), of any integers -/
theorem OpT_makeK (S : Shape τ) {cells : τ → List Value} {sz : Nat} {ag : Bool} {hl : ∀ x, (cells x).length = sz} {hone : ∀ x, (cells x).all (·.oneCell') = true} (hS : S = Shape.plain sz ag cells hl hone) {t e : TypeId} {x y : Operand} {l m : Int} {kl km : IntKind} {b : Nat} {z : Value} {u : τ} (hn : Nat.blt d c.n = true) (hd : o.dst = some d) (ho : o.op = .makeSlice t x y) (hx : ev fr x = some (.int kl l)) (hy : ev fr y = some (.int km m))
    (ht : SlF c.P t e sz b z) (hz : z.cells.toList = cells u) (hok : decide (0 ≤ l ∧ l ≤ m ∧ (b : Int) * m ≤ 140737488355328) = true) :
    OpT c o ⟨fr, own, shr⟩ (fun s => ∃ v, s = ⟨(d, some v) :: fr, own ++ [some (rowS S v (List.replicate l.toNat u))], shr⟩) := by
  subst hS
  exact OpT_run hn hd fun a w hs => by
    obtain ⟨h0, h1, h2⟩ : 0 ≤ l ∧ l ≤ m ∧ (b : Int) * m ≤ 140737488355328 := by simpa using hok
    obtain ⟨ti, hti, htz, hsz, hb⟩ := ht.info
    have hbp := ht.bpos
    have hm : m ≤ 140737488355328 := by
      have h3 : m ≤ (b : Int) * m := by
        have h4 : (1 : Int) ≤ (b : Int) := by omega
        have := Int.mul_le_mul_of_nonneg_right h4 (show 0 ≤ m by omega)
        omega
      omega
    have hr := run_make (P := c.P) w t e ti z ht.und hti htz kl km l m h0 h1 (by rw [hb]; omega) (by omega)
    have hzc : z.cells = (cells u).toArray := by rw [← hz]
    rw [hsz, hzc] at hr
    have hlen : (List.replicate l.toNat u).length = l.toNat := by simp
    refine ⟨.slice (some ⟨w.heap.size, 0, none⟩) l.toNat m.toNat, w.alloc (.cells (madeCells (cells u).toArray (m.toNat * sz)) e), .slice (some ⟨w.heap.size, 0, none⟩) l.toNat m.toNat, by simp [execOp, ho, ev_eval hs.2.2.1 hx, ev_eval hs.2.2.1 hy, hr], rfl, ?_⟩
    have hcl : (cells u).length = sz := hl u
    have hmc := madeCells_flat (z := cells u) m.toNat (by rw [hcl]; exact ht.pos)
    rw [hcl] at hmc
    have := HSat.newrow (S := Shape.plain sz ag cells hl hone) (own := own) (shr := shr) hs.2.2.2 (madeCells (cells u).toArray (m.toNat * sz)) e (List.replicate l.toNat u) (List.replicate l.toNat (cells u)) m.toNat (by simp)
      (fun R _ _ i ci x q1 q2 => by
        rw [List.getElem?_replicate] at q1 q2
        split at q1
        · rename_i hlt; rw [if_pos hlt] at q2; simp at q1 q2; subst q1; subst q2; rfl
        · cases q1) (by simp; omega) (by unfold maxLen; omega) (by simp [size_madeCells, Shape.plain]) (by
        have hsplit : m.toNat = l.toNat + (m.toNat - l.toNat) := by omega
        rw [hmc, hlen]
        show List.take (l.toNat * sz) _ = _
        rw [hsplit, ← List.replicate_append_replicate, List.flatten_append, List.take_left']
        rw [flat_len (sz := sz) (fun ci h => by rw [(List.mem_replicate.1 h).2, hcl])]; simp)
    rw [hlen] at this
    exact this
/-- make([][]T, l, c): rows, each nil -/
theorem OpT_makeRows (S : Shape τ) {t e : TypeId} {x y : Operand} {l m : Int} {kl km : IntKind} {b : Nat} (hn : Nat.blt d c.n = true) (hd : o.dst = some d) (ho : o.op = .makeSlice t x y) (hx : ev fr x = some (.int kl l)) (hy : ev fr y = some (.int km m))
    (ht : SlF c.P t e 1 b (.slice none 0 0)) (hok : decide (0 ≤ l ∧ l ≤ m ∧ (b : Int) * m ≤ 140737488355328) = true) :
    OpT c o ⟨fr, own, shr⟩ (fun s => ∃ v vs, s = ⟨(d, some v) :: fr, own ++ [some (rowsX S true v vs (List.replicate l.toNat []) none)], shr⟩) := by
  have hz : (Value.slice none 0 0).cells.toList = [Value.slice none 0 0] := rfl
  refine fun a w hs K Q hK => ?_
  have main : OpT c o ⟨fr, own, shr⟩ (fun s => ∃ x : Value × List Value, s = ⟨(d, some x.1) :: fr, own ++ [some (rowsX S true x.1 x.2 (List.replicate l.toNat []) none)], shr⟩) :=
    OpT_run (f := fun x : Value × List Value => ⟨(d, some x.1) :: fr, own ++ [some (rowsX S true x.1 x.2 (List.replicate l.toNat []) none)], shr⟩) hn hd fun a w hs => by
      obtain ⟨h0, h1, h2⟩ : 0 ≤ l ∧ l ≤ m ∧ (b : Int) * m ≤ 140737488355328 := by simpa using hok
      obtain ⟨ti, hti, htz, hsz, hb⟩ := ht.info
      have hbp := ht.bpos
      have hm : m ≤ 140737488355328 := by
        have h3 : m ≤ (b : Int) * m := by
          have h4 : (1 : Int) ≤ (b : Int) := by omega
          have := Int.mul_le_mul_of_nonneg_right h4 (show 0 ≤ m by omega)
          omega
        omega
      have hr := run_make (P := c.P) w t e ti _ ht.und hti htz kl km l m h0 h1 (by rw [hb]; omega) (by omega)
      rw [hsz, Nat.mul_one] at hr
      have hmc := madeCells_flat (z := [Value.slice none 0 0]) m.toNat (by simp)
      simp only [List.length_singleton, Nat.mul_one] at hmc
      have hsz2 : (madeCells (Value.slice none 0 0).cells m.toNat).size = m.toNat := by simp [size_madeCells]
      refine ⟨.slice (some ⟨w.heap.size, 0, none⟩) l.toNat m.toNat, _, (.slice (some ⟨w.heap.size, 0, none⟩) l.toNat m.toNat, List.replicate l.toNat (.slice none 0 0)), by simp [execOp, ho, ev_eval hs.2.2.1 hx, ev_eval hs.2.2.1 hy, hr]; rfl, rfl, ?_⟩
      refine hs.2.2.2.alloc _ _ fun R _ _ => ?_
      refine ⟨PH.one w.heap.size (.cells (madeCells (Value.slice none 0 0).cells m.toNat) e), fun _ => PH.emp, ⟨?_, fun _ => ⟨_, _, _, rfl⟩, by simp, PH.le_refl _, fun _ _ b o h => (by cases h), fun _ _ b => .inr rfl, fun _ _ _ _ _ b => .inr rfl, ?_, fun _ h => (by cases h)⟩⟩
      · refine ⟨List.replicate l.toNat [Value.slice none 0 0], by simp, ?_, .inr ⟨w.heap.size, m.toNat, _, e, by simp, PH.one_self _ _, by simp; omega, by unfold maxLen; omega, by rw [hsz2]; simp [valS], ?_⟩⟩
        · intro i ci x q1 q2
          rw [List.getElem?_replicate] at q1 q2
          split at q1
          · rename_i hlt; rw [if_pos hlt] at q2; simp at q1 q2; subst q1; subst q2; exact ⟨rfl, rfl⟩
          · cases q1
        · have hsplit : m.toNat = l.toNat + (m.toNat - l.toNat) := by omega
          rw [show (madeCells (Value.slice none 0 0).cells m.toNat).toList = _ from hmc, hsplit, ← List.replicate_append_replicate, List.flatten_append, List.take_left']
          simp [valS, List.length_flatten]
      · intro i v' xs _ q1 q2
        rw [List.getElem?_replicate] at q1 q2
        split at q1
        · rename_i hlt; rw [if_pos hlt] at q2; simp at q1 q2; subst q1; subst q2
          exact ⟨[], rfl, fun i ci x h => by simp at h, .inl ⟨rfl, rfl⟩⟩
        · cases q1
  refine main a w hs K Q ?_
  rintro x ⟨⟨p, q⟩, rfl⟩
  exact hK _ ⟨p, q, rfl⟩
end
end Go.Proofs.Ytjfdamiilndgeaa

end

section
namespace Go.Proofs.Ytjfdamiilndgeaa

/-- a pointer that is nil, or points at a block [slice that is read, rows of one's own] -/
def optR {σ τ ρ : Type} (t : TypeId) (SL : Shape τ) (S : Shape ρ) (nn : Bool) (fl : σ → List τ) (fb : σ → List (List ρ)) (p : Value) (o : Option σ) : Res :=
  ⟨fun R h => match o with
    | none => p = .pointer none
    | some m => ∃ b vl v vs h1 h2, p = .pointer (some ⟨b, 0, none⟩) ∧ h1.disj h2 ∧ h1.le h ∧ h2.le h ∧ (cellsR b t [vl, v]).p R h1 ∧ (rowsX S nn v vs (fb m) none).p R h2 ∧ SliceRel SL R vl (fl m),
   fun {R R' h} hl hp => by
    cases o with
    | none => exact hp
    | some m =>
      obtain ⟨b, vl, v, vs, h1, h2, e, d, l1, l2, p1, p2, p3⟩ := hp
      exact ⟨b, vl, v, vs, h1, h2, e, d, l1, l2, (cellsR b t [vl, v]).mono hl p1, (rowsX S nn v vs (fb m) none).mono hl p2, p3.mono hl⟩⟩

section
variable {c : Cx} {k : List Item} {s : St} {ops : Array Oper} {rest : List Oper} {o : Oper} {fr : List (Nat × Option Value)} {own : List (Option Res)} {shr : List Fact} {d : Nat} {σ τ ρ : Type} {SL : Shape τ} {S : Shape ρ} {t : TypeId} {nn : Bool} {fl : σ → List τ} {fb : σ → List (List ρ)}

theorem Tk_optS {i : Nat} {p : Value} {x : Option σ} {m : σ} (hi : own[i]? = some (some (optR t SL S nn fl fb p x))) (hx : x = some m)
    (hk : ∀ (b : Nat) (vl v : Value) (vs : List Value), p = .pointer (some ⟨b, 0, none⟩) → Tk c k ⟨fr, own.set i (some (cellsR b t [vl, v])) ++ [some (rowsX S nn v vs (fb m) none)], shr ++ [Fact.sl SL vl (fl m)]⟩) : Tk c k ⟨fr, own, shr⟩ := fun a w hs => by
  subst hx
  obtain ⟨⟨⟨b, vl, v, vs⟩, e⟩, hx⟩ := hs.2.2.2.split hi (α := { y : Nat × Value × Value × List Value // p = .pointer (some ⟨y.1, 0, none⟩) }) (r1 := fun y => cellsR y.1.1 t [y.1.2.1, y.1.2.2.1]) (r2 := fun y => rowsX S nn y.1.2.2.1 y.1.2.2.2 (fb m) none) (F := fun y => [Fact.sl SL y.1.2.1 (fl m)]) (by
    rintro R h _ ⟨b, vl, v, vs, h1, h2, e, d, l1, l2, p1, p2, p3⟩
    refine ⟨⟨(b, vl, v, vs), e⟩, h1, h2, d, l1, l2, p1, p2, ?_⟩
    intro G hG; simp at hG; subst hG; exact p3)
  exact hk b vl v vs e a w ⟨hs.1, hs.2.1, hs.2.2.1, hx⟩
theorem Tk_nilopt (t : TypeId) (SL : Shape τ) (S : Shape ρ) (nn : Bool) (fl : σ → List τ) (fb : σ → List (List ρ)) (h : Tk c k ⟨fr, own ++ [some (optR t SL S nn fl fb (.pointer none) none)], shr⟩) : Tk c k ⟨fr, own, shr⟩ := fun a w hs =>
  h a w ⟨hs.1, hs.2.1, hs.2.2.1, hs.2.2.2.free _ fun _ => rfl⟩
theorem vs_fold (m : σ) {i j q b : Nat} {vl v : Value} {vs : List Value} {ls : List τ} {bs : List (List ρ)} (hi : own[i]? = some (some (cellsR b t [vl, v]))) (hj : own[j]? = some (some (rowsX S nn v vs bs none))) (hij : Nat.beq i j = false) (hq : shr[q]? = some (Fact.sl SL vl ls)) (hl : fl m = ls) (hb : fb m = bs) :
    VS c ⟨fr, own, shr⟩ ⟨fr, (own.set i (some (optR t SL S nn fl fb (.pointer (some ⟨b, 0, none⟩)) (some m)))).set j none, shr⟩ := fun a w hs => by
  refine ⟨hs.1, hs.2.1, hs.2.2.1, hs.2.2.2.merge hij hi hj ?_⟩
  intro R h1 h2 hF hd p1 p2
  exact ⟨b, vl, v, vs, h1, h2, rfl, hd, PH.or_left, PH.or_right hd, p1, by rw [hb]; exact p2, by rw [hl]; exact hF _ (List.mem_of_getElem? hq)⟩

theorem ri_rows {cells : ρ → List Value} {sz : Nat} {ag : Bool} {hl : ∀ x, (cells x).length = sz} {hone : ∀ x, (cells x).all (·.oneCell') = true} (hS : S = Shape.plain sz ag cells hl hone) (nn : Bool) (v : Value) (vs : List Value) (bs : List (List ρ)) (ex : Option (Nat × Value)) : RI (rowsX S nn v vs bs ex) := fun R R' h hr => by
  subst hS
  obtain ⟨h0, hh, p⟩ := hr
  exact ⟨h0, hh, p.out, p.nn, p.len, p.l0, p.ls, p.d0, p.ds, p.row, p.hol⟩

/-! ## copies -/
/-- ys laid into xs from l on, as far as m -/
def copyAt (xs : List ρ) (l m : Int) (ys : List ρ) : List ρ := xs.take l.toNat ++ ys.take (m.toNat - l.toNat) ++ xs.drop (l.toNat + min ys.length (m.toNat - l.toNat))
theorem copyAt_none {xs ys : List ρ} {l m : Int} (h : min ys.length (m.toNat - l.toNat) = 0) : copyAt xs l m ys = xs := by
  unfold copyAt
  rw [h, Nat.add_zero]
  have : ys.take (m.toNat - l.toNat) = [] := by
    apply List.eq_nil_of_length_eq_zero
    rw [List.length_take]; omega
  rw [this]; simp
theorem flat_takeM {cells : ρ → List Value} {sz : Nat} (hl : ∀ x, (cells x).length = sz) : ∀ (xs : List ρ) (k : Nat), ((xs.map cells).flatten).take (k * sz) = ((xs.take k).map cells).flatten
  | [], k => by simp
  | x :: xs, 0 => by simp
  | x :: xs, k + 1 => by
    have ih := flat_takeM hl xs k
    simp only [List.map_cons, List.flatten_cons, List.take_succ_cons]
    rw [← ih, List.take_append, hl x, List.take_of_length_le (by rw [hl x, Nat.add_mul]; omega), show (k + 1) * sz - sz = k * sz by rw [Nat.add_mul]; omega]
theorem flat_dropM {cells : ρ → List Value} {sz : Nat} (hl : ∀ x, (cells x).length = sz) : ∀ (xs : List ρ) (k : Nat), ((xs.map cells).flatten).drop (k * sz) = ((xs.drop k).map cells).flatten
  | [], k => by simp
  | x :: xs, 0 => by simp
  | x :: xs, k + 1 => by
    have ih := flat_dropM hl xs k
    simp only [List.map_cons, List.flatten_cons, List.drop_succ_cons]
    rw [← ih, List.drop_append, hl x, List.drop_of_length_le (by rw [hl x, Nat.add_mul]; omega), List.nil_append, show (k + 1) * sz - sz = k * sz by rw [Nat.add_mul]; omega]
theorem copyAt_len {xs ys : List ρ} {l m : Int} (h0 : 0 ≤ l) (h1 : l ≤ m) (h2 : m ≤ (xs.length : Int)) : (copyAt xs l m ys).length = xs.length := by
  unfold copyAt
  simp only [List.length_append, List.length_take, List.length_drop]; omega
/-- copy(x[l:m], y): x a row of one's own, y a slice that is read, or another part of one's own -/
theorem OpT_copyG {cells : ρ → List Value} {sz : Nat} {ag : Bool} {hl : ∀ x, (cells x).length = sz} {hone : ∀ x, (cells x).all (·.oneCell') = true} (hS : S = Shape.plain sz ag cells hl hone) {ty e : TypeId} {x y : Operand} {u vy : Value} {i b : Nat} {z : Value} {l m : Int} {xs ys : List ρ} (hn : Nat.blt d c.n = true) (hd : o.dst = some d)
    (ho : o.op = .call { callee := .builtin .copy, args := #[x, y], argTypes := #[ty, ty] }) (hx : ev fr x = some (subV u S.sz l.toNat m.toNat)) (hy : ev fr y = some vy) (ht : SlF c.P ty e S.sz b z) (hi : own[i]? = some (some (rowS S u xs)))
    (hys : ∀ (w : World) (R : PH) (hs : Nat → PH), HW c.R0 c.w0 c.B own shr w R hs → ∃ R', R'.inW w ∧ SliceRel S R' vy ys) (hc : decide (0 ≤ l ∧ l ≤ m ∧ m ≤ len xs) = true) :
    OpT c o ⟨fr, own, shr⟩ (fun s => s = ⟨(d, some (vI ((min ys.length (m.toNat - l.toNat) : Nat) : Int))) :: fr, own.set i (some (rowS S u (copyAt xs l m ys))), shr⟩) := by
  have main : OpT c o ⟨fr, own, shr⟩ (fun s => ∃ _ : Unit, s = ⟨(d, some (vI ((min ys.length (m.toNat - l.toNat) : Nat) : Int))) :: fr, own.set i (some (rowS S u (copyAt xs l m ys))), shr⟩) :=
    OpT_run hn hd fun a w hs => by
      obtain ⟨h0, h1, h2⟩ : 0 ≤ l ∧ l ≤ m ∧ m ≤ len xs := by simpa using hc
      unfold len at h2
      obtain ⟨R, hs', hw⟩ := hs.2.2.2
      obtain ⟨R', hR', hsl⟩ := hys w R hs' hw
      obtain ⟨base, cap, css, e1, e2, e3, e4, e5, e6, e7, e8⟩ := hsl.flat
      have hun := run_underlying ht.und w
      have hr := hw.ow i _ hi
      refine ⟨vI ((min ys.length (m.toNat - l.toNat) : Nat) : Int), ?_⟩
      by_cases hn0 : min ys.length (m.toNat - l.toNat) = 0
      · refine ⟨w, (), ?_, rfl, ?_⟩
        · obtain ⟨bu, cu, eu⟩ := RowRel.val hr
          have hmin : Nat.min ys.length (m.toNat - l.toNat) = 0 := hn0
          subst eu; subst e1
          cases hb : (if cu = l.toNat then bu else bu.map (·.add (l.toNat * S.sz))) with
          | none => cases base <;> simp [execOp, ho, resolve, invoke, builtin, ev_eval hs.2.2.1 hx, ev_eval hs.2.2.1 hy, Builtin.copy_, hun, subV, hb, Builtin.lenOf, hmin, hn0, ht.sz, Builtin.firstCells, loadCells, loadCellsFrom, goInt]
          | some ad => cases base <;> simp [execOp, ho, resolve, invoke, builtin, ev_eval hs.2.2.1 hx, ev_eval hs.2.2.1 hy, Builtin.copy_, hun, subV, hb, Builtin.lenOf, hmin, hn0, ht.sz, Builtin.firstCells, loadCells, loadCellsFrom, storeCells, goInt]
        · rw [copyAt_none hn0]
          have : own.set i (some (rowS S u xs)) = own := by
            apply List.ext_getElem?
            intro j
            by_cases ej : j = i
            · subst ej
              have hlt : j < own.length := (List.getElem?_eq_some_iff.1 hi).1
              rw [List.getElem?_set_self hlt, hi]
            · rw [List.getElem?_set_ne (fun q => ej q.symm)]
          show HSat c.R0 c.w0 c.B (own.set i (some (rowS S u xs))) shr w
          rw [this]; exact hs.2.2.2
      · generalize hN : min ys.length (m.toNat - l.toNat) = N at hn0
        have hmin : Nat.min ys.length (m.toNat - l.toNat) = N := hN
        have hyne : ys ≠ [] := by intro q; subst q; simp at hN; omega
        obtain ⟨ad, rfl⟩ : ∃ ad, base = some ad := by
          cases base with
          | none => exact absurd rfl (e7 hyne)
          | some ad => exact ⟨ad, rfl⟩
        have hne : xs ≠ [] := by intro q; subst q; simp at h2; omega
        obtain ⟨g, cp, cur, tg, a1, a2, a3, a4, a5, a6⟩ := row_block hS hr hne
        subst a1; subst e1
        have hb := hw.hw i g _ a2
        have hcss : css = ys.map cells := by subst hS; exact flat_map1 (R := R') (hl := hl) (hone := hone) (ag := ag) e3 e4
        have hSsz : S.sz = sz := by subst hS; rfl
        have hNl : N ≤ ys.length := by omega
        have hNm : l.toNat + N ≤ xs.length := by omega
        have hcl : ¬ cp = l.toNat := by omega
        have hnl : (((ys.take N).map cells).flatten).length = N * sz := by
          rw [flat_len (sz := sz) (fun ci h => by obtain ⟨x, _, rfl⟩ := List.mem_map.1 h; exact hl x), List.length_map, List.length_take, Nat.min_eq_left hNl]
        have hnews : ∀ (j : Nat) (v : Value), (((ys.take N).map cells).flatten)[j]? = some v → w.cell? (ad.add j) = some v := by
          intro j v hj
          rw [← flat_takeM hl, List.getElem?_take] at hj
          split at hj
          · rw [← hcss] at hj; exact PH.cell_inW hR' (e8 ad rfl j v hj)
          · cases hj
        have hf := run_firstCells_some (P := c.P) w sz N ad ys.length cap _ hnl hnews
        have hone1 : ∀ v ∈ (((ys.take N).map cells).flatten), v.oneCell' = true := by
          intro v hv
          obtain ⟨ci, hci, hv⟩ := List.mem_flatten.1 hv
          obtain ⟨x, _, rfl⟩ := List.mem_map.1 hci
          exact List.all_eq_true.1 (hone x) v hv
        have hfit0 : (l.toNat + N) * sz ≤ xs.length * sz := Nat.mul_le_mul_right sz hNm
        have hcap : xs.length * sz ≤ cur.size := by rw [a5]; exact Nat.mul_le_mul_right sz a3
        have hfit : l.toNat * sz + N * sz ≤ xs.length * sz := by rw [← Nat.add_mul]; exact hfit0
        have hst := run_storeCells_at c.P g (l.toNat * sz) tg _ 0 cur w hb (by rw [hnl]; omega) hone1
        simp only [Nat.add_zero, hnl] at hst
        refine ⟨w.setRow g (cur.toList.take (l.toNat * sz) ++ ((ys.take N).map cells).flatten ++ cur.toList.drop (l.toNat * sz + N * sz)).toArray, (), ?_, rfl, ?_⟩
        · generalize ((ys.take N).map cells).flatten = news at hst hf ⊢
          simp [execOp, ho, resolve, invoke, builtin, ev_eval hs.2.2.1 hx, ev_eval hs.2.2.1 hy, Builtin.copy_, hun, subV, hcl, Builtin.lenOf, hmin, hSsz, ht.sz, hf, Addr.add_lit, hst, goInt]
        · have hb' := setRow_heap w g cur (cur.toList.take (l.toNat * sz) ++ ((ys.take N).map cells).flatten ++ cur.toList.drop (l.toNat * sz + N * sz)).toArray tg (0, 0) hb
          refine ⟨R, _, hw.upd i (PH.one g (.cells (cur.toList.take (l.toNat * sz) ++ ((ys.take N).map cells).flatten ++ cur.toList.drop (l.toNat * sz + N * sz)).toArray tg (0, 0))) ?_ (by simp) ?_ ?_ rfl rfl rfl (own_set ?_)⟩
          · intro b hb1 hb2
            by_cases eq : b = g
            · subst eq; rw [a2] at hb2; cases hb2
            · exact setRow_other w g b _ eq
          · intro b o' h; obtain ⟨e1, e2⟩ := PH.one_some h; subst e1; subst e2; exact hb'
          · intro b o' h; obtain ⟨e1, _⟩ := PH.one_some h; subst e1; left; rw [a2]; simp
          · have hlenc := copyAt_len (ys := ys) h0 h1 h2
            subst hS
            refine ⟨(copyAt xs l m ys).map cells, by simp, ?_, .inr ⟨g, cp, _, tg, by rw [hlenc], PH.one_self _ _, by rw [hlenc]; exact a3, a4, ?_, ?_⟩⟩
            · intro j ci z p q
              simp only [List.getElem?_map, q, Option.map_some, Option.some.injEq] at p
              exact p.symm
            · have e5' : cur.toList.length = cp * sz := by simpa using a5
              simp only [List.size_toArray, List.length_append, List.length_take, List.length_drop, hnl, e5']
              show _ = cp * sz
              have : xs.length * sz ≤ cp * sz := Nat.mul_le_mul_right sz a3
              omega
            · show List.take ((copyAt xs l m ys).length * sz) _ = _
              rw [hlenc, List.toList_toArray, take_splice hnl hfit (by simpa using hcap), a6, ← Nat.add_mul, flat_takeM hl, flat_dropM hl]
              unfold copyAt
              rw [hN, List.map_append, List.map_append, List.flatten_append, List.flatten_append]
              have : ys.take (m.toNat - l.toNat) = ys.take N := by
                by_cases q : m.toNat - l.toNat ≤ ys.length
                · rw [← hN, Nat.min_eq_right q]
                · rw [← hN, Nat.min_eq_left (by omega), List.take_of_length_le (by omega), List.take_of_length_le (Nat.le_refl _)]
              rw [this]
  refine main.vs ?_
  rintro x ⟨_, rfl⟩
  exact ⟨_, rfl, fun a w hs => hs⟩
theorem OpT_copyS {cells : ρ → List Value} {sz : Nat} {ag : Bool} {hl : ∀ x, (cells x).length = sz} {hone : ∀ x, (cells x).all (·.oneCell') = true} (hS : S = Shape.plain sz ag cells hl hone) {ty e : TypeId} {x y : Operand} {u vy : Value} {i j b : Nat} {z : Value} {l m : Int} {xs ys : List ρ} (hn : Nat.blt d c.n = true) (hd : o.dst = some d)
    (ho : o.op = .call { callee := .builtin .copy, args := #[x, y], argTypes := #[ty, ty] }) (hx : ev fr x = some (subV u S.sz l.toNat m.toNat)) (hy : ev fr y = some vy) (ht : SlF c.P ty e S.sz b z) (hi : own[i]? = some (some (rowS S u xs))) (hj : shr[j]? = some (Fact.sl S vy ys)) (hc : decide (0 ≤ l ∧ l ≤ m ∧ m ≤ len xs) = true) :
    OpT c o ⟨fr, own, shr⟩ (fun s => s = ⟨(d, some (vI ((min ys.length (m.toNat - l.toNat) : Nat) : Int))) :: fr, own.set i (some (rowS S u (copyAt xs l m ys))), shr⟩) :=
  OpT_copyG hS hn hd ho hx hy ht hi (fun w R hs hw => ⟨R, hw.rw_, hw.sh _ (List.mem_of_getElem? hj)⟩) hc
end
end Go.Proofs.Ytjfdamiilndgeaa

end

section
namespace Go.Proofs.Ytjfdamiilndgeaa

/-! ## a value that may be lacking -/
def onO {α β : Type} (o : Option α) (n : Option β) (s : α → Option β) : Option β := match o with | none => n | some m => s m
theorem onO_cases {α β : Type} {o : Option α} {n : Option β} {s : α → Option β} {r : β} (h : onO o n s = some r) : (o = none ∧ n = some r) ∨ ∃ m, o = some m ∧ s m = some r := by
  cases o with
  | none => exact .inl ⟨rfl, h⟩
  | some m => exact .inr ⟨m, rfl, h⟩
theorem onS {α β : Type} {m : α} {n : Option β} {s : α → Option β} : onO (some m) n s = s m := rfl

def vsAt (vs : List Value) (j : Nat) : Value := vs.getD j undef
/-- a window: none, or (row, from, to) -/
def winV (sz : Nat) (vs : List Value) (r : Option (Int × Int × Int)) : Value := match r with | none => .slice none 0 0 | some w => subV (vsAt vs w.1.toNat) sz w.2.1.toNat w.2.2.toNat

section
variable {c : Cx} {k : List Item} {s : St} {ops : Array Oper} {rest : List Oper} {o : Oper} {fr : List (Nat × Option Value)} {own : List (Option Res)} {shr : List Fact} {d : Nat} {τ σ : Type} {S : Shape τ} {nn : Bool} {v : Value} {vs : List Value} {bs : List (List τ)} {ex : Option (Nat × Value)}

theorem vs_focus {i : Nat} {j : Int} {xs : List τ} (hi : own[i]? = some (some (rowsX S nn v vs bs none))) (hj : ix bs j = some xs) :
    VS c ⟨fr, own, shr⟩ ⟨fr, own.set i (some (rowsX S nn v vs bs (some (j.toNat, vsAt vs j.toNat)))) ++ [some (rowS S (vsAt vs j.toNat) xs)], shr⟩ := fun a w hs => by
  obtain ⟨u, h⟩ := ex_focus (c := c) (fr := fr) (shr := shr) hi hj a w hs
  have hil : i < own.length := (List.getElem?_eq_some_iff.1 hi).1
  have hu : u = vsAt vs j.toNat := by
    obtain ⟨R, hs', hw⟩ := h.2.2.2
    have hq : (own.set i (some (rowsX S nn v vs bs (some (j.toNat, u)))) ++ [some (rowS S u xs)])[i]? = some (some (rowsX S nn v vs bs (some (j.toNat, u)))) := by
      rw [List.getElem?_append_left (by simpa using hil)]; simp [hil]
    obtain ⟨h0, hh, p⟩ := hw.ow i _ hq
    have := p.hol _ rfl
    simp only at this
    unfold vsAt
    rw [List.getD_eq_getElem?_getD, this]; rfl
  subst hu; exact h
theorem set_ix {j : Int} {xs : List τ} (hj : ix bs j = some xs) : bs.set j.toNat xs = bs := by
  obtain ⟨_, _, hb⟩ := ix_some hj
  apply List.ext_getElem?
  intro q
  by_cases e : q = j.toNat
  · subst e
    rw [List.getElem?_set_self (List.getElem?_eq_some_iff.1 hb).1, hb]
  · rw [List.getElem?_set_ne (fun z => e z.symm)]
theorem vs_unfocus0 {i q : Nat} {j : Int} {u : Value} {xs : List τ} (hi : own[i]? = some (some (rowsX S nn v vs bs (some (j.toNat, u))))) (hq : own[q]? = some (some (rowS S u xs))) (hiq : Nat.beq i q = false) (hj : ix bs j = some xs) :
    VS c ⟨fr, own, shr⟩ ⟨fr, (own.set i (some (rowsX S nn v vs bs none))).set q none, shr⟩ := by
  have h := vs_unfocus (c := c) (fr := fr) (shr := shr) hi hq hiq
  rw [set_ix hj] at h; exact h

/-! a pointer and nil -/
theorem run_ptrNil {P : Program} {t : TypeId} {x y : Operand} {p : Option Addr} {op : BinOp} (hop : op = .eql ∨ op = .neq) (ht : P.underlying t = some (.pointer (P.pointee t))) : Bin P op t x y (.pointer p) (.pointer none) (.bool (nilB op p.isNone)) := fun w => by
  have hg : (eqGuard op t x y (.pointer p) (.pointer none)).run P w = .ok () w := by rcases hop with rfl | rfl <;> rfl
  rw [Sem.run_bind, hg, Result.andThen_ok]
  rcases hop with rfl | rfl
  · rw [run_eql_pointer_nil w t p ht]; rfl
  · rw [run_neq_pointer_nil w t p ht]; cases p <;> rfl
theorem OpT_ptrNil {t : TypeId} {x y : Operand} {t2 : TypeId} {op : BinOp} {p : Option Addr} (hn : Nat.blt d c.n = true) (hd : o.dst = some d) (ho : o.op = .binOp op t x y t2) (hop : op = .eql ∨ op = .neq) (hx : ev fr x = some (.pointer p)) (hy : ev fr y = some (.pointer none)) (ht : c.P.underlying t = some (.pointer (c.P.pointee t))) :
    OpT c o ⟨fr, own, shr⟩ (fun s => s = ⟨(d, some (.bool (nilB op p.isNone))) :: fr, own, shr⟩) := OpT_bin hn hd ho hx hy (run_ptrNil hop ht)

end
end Go.Proofs.Ytjfdamiilndgeaa

end

section
namespace Go.Proofs.Ytjfdamiilndgeaa

section
variable {c : Cx} {k : List Item} {s : St} {ops : Array Oper} {rest : List Oper} {o : Oper} {fr : List (Nat × Option Value)} {own : List (Option Res)} {shr : List Fact} {d : Nat} {τ σ : Type} {S : Shape τ}

variable {cells : τ → List Value} {sz : Nat} {ag ag' : Bool} {hl : ∀ x, (cells x).length = sz} {hone : ∀ x, (cells x).all (·.oneCell') = true}
end
end Go.Proofs.Ytjfdamiilndgeaa

end

section
namespace Go.Proofs.Ytjfdamiilndgeaa
open MapKept (IsKey)
/-- a row of one's own becomes one that all read -/
theorem Sat.ret {τ : Type} {S : Shape τ} {c : Cx} {fr : List (Nat × Option Value)} {own : List (Option Res)} {shr : List Fact} {a : Act} {w : World} {i : Nat} {v : Value} {xs : List τ} (hs : Sat c ⟨fr, own, shr⟩ a w) (hi : own[i]? = some (some (rowS S v xs))) : Sat c ⟨fr, own.set i none, shr ++ [Fact.sl S v xs]⟩ a w := by
  obtain ⟨R, hs', hw⟩ := hs.2.2.2
  exact ⟨hs.1, hs.2.1, hs.2.2.1, _, _, hw.retire i _ (RowRel.slice (hw.rd i) (hw.ow i _ hi))⟩
/-! ## maps in plain words -/
def mget {κ ν : Type} [BEq κ] (z : ν) (k : κ) : List (κ × ν) → ν
  | [] => z
  | p :: r => bif k == p.1 then p.2 else mget z k r
def mput {κ ν : Type} [BEq κ] (k : κ) (v : ν) : List (κ × ν) → List (κ × ν)
  | [] => [(k, v)]
  | p :: r => bif k == p.1 then (k, v) :: r else p :: mput k v r
/-- keys as numbers of a kind -/
structure KeyF {κ : Type} [BEq κ] (kk : IntKind) (kf : κ → Int) : Prop where
  eq : ∀ x y, (kf x == kf y) = (x == y)
  inj : ∀ x y, (x == y) = true → kf x = kf y
theorem keyI : KeyF .i64 (fun x : Int => x) := ⟨fun _ _ => rfl, fun _ _ h => by simpa using h⟩
def entV (e : MapEntry) : Value × Value := (e.key, e.val)
def mapR {κ ν : Type} (b : Nat) (kk : IntKind) (kf : κ → Int) (V : ν → Value) (xs : List (κ × ν)) : Res :=
  ⟨fun _ h => ∃ es ck, h b = some (.map es ck) ∧ es.toList.map entV = xs.map (fun p => (Value.int kk (kf p.1), V p.2)), fun _ h => h⟩

section
variable {κ ν : Type} [BEq κ] {kk : IntKind} {kf : κ → Int} {V : ν → Value}
theorem find_map (hk : KeyF kk kf) (k : κ) (z : ν) : ∀ (es : List MapEntry) (xs : List (κ × ν)) (n : Nat), es.map entV = xs.map (fun p => (Value.int kk (kf p.1), V p.2)) →
    (Instr.findNow (.int kk) (.int kk (kf k)) es n = some none ∧ mget z k xs = z ∧ ∀ v, (mput k v xs) = xs ++ [(k, v)]) ∨
    (∃ (j : Nat) (e : MapEntry) (p : κ × ν), es[j]? = some e ∧ xs[j]? = some p ∧ Instr.findNow (.int kk) (.int kk (kf k)) es n = some (some (n + j, V p.2)) ∧ mget z k xs = p.2 ∧ e.key = .int kk (kf k) ∧ ∀ v, mput k v xs = xs.set j (k, v))
  | [], [], n, _ => .inl ⟨rfl, rfl, fun v => rfl⟩
  | [], _ :: _, _, h => by simp at h
  | _ :: _, [], _, h => by simp at h
  | e :: es, p :: xs, n, h => by
    simp only [List.map_cons, List.cons.injEq] at h
    obtain ⟨h1, h2⟩ := h
    have hkey : e.key = .int kk (kf p.1) := congrArg Prod.fst h1
    have hval : e.val = V p.2 := congrArg Prod.snd h1
    have hs : Instr.sameNow (.int kk) (.int kk (kf k)) e.key = some (kf k == kf p.1) := by rw [hkey]; simp [Instr.sameNow]
    cases hc : k == p.1 with
    | true =>
      refine .inr ⟨0, e, p, rfl, rfl, ?_, ?_, ?_, fun v => ?_⟩
      · simp only [Instr.findNow, hs, hk.eq, hc, hval, Nat.add_zero]
      · simp only [mget, hc, cond_true]
      · rw [hkey, hk.inj _ _ hc]
      · simp only [mput, hc, cond_true, List.set_cons_zero]
    | false =>
      rcases find_map hk k z es xs (n + 1) h2 with ⟨a, b, d⟩ | ⟨j, e', p', a1, a2, a3, a4, a5, a6⟩
      · refine .inl ⟨?_, ?_, fun v => ?_⟩
        · simp only [Instr.findNow, hs, hk.eq, hc]; exact a
        · simp only [mget, hc, cond_false]; exact b
        · simp only [mput, hc, cond_false, d v, List.cons_append]
      · refine .inr ⟨j + 1, e', p', by simpa using a1, by simpa using a2, ?_, ?_, a5, fun v => ?_⟩
        · simp only [Instr.findNow, hs, hk.eq, hc]; rw [a3]; congr 3; omega
        · simp only [mget, hc, cond_false]; exact a4
        · simp only [mput, hc, cond_false, a6 v, List.set_cons_succ]
variable {c : Cx} {k : List Item} {s : St} {ops : Array Oper} {rest : List Oper} {o : Oper} {fr : List (Nat × Option Value)} {own : List (Option Res)} {shr : List Fact} {d : Nat}
omit [BEq κ] in
theorem OpT_makeMap (kk : IntKind) (kf : κ → Int) (V : ν → Value) {t : TypeId} (hn : Nat.blt d c.n = true) (hd : o.dst = some d) (ho : o.op = .makeMap t none) :
    OpT c o ⟨fr, own, shr⟩ (fun s => ∃ b, s = ⟨(d, some (.map (some b))) :: fr, own ++ [some (mapR b kk kf V [])], shr⟩) :=
  OpT_run (f := fun b => ⟨(d, some (.map (some b))) :: fr, own ++ [some (mapR b kk kf V [])], shr⟩) hn hd fun a w hs => ⟨.map (some w.heap.size), w.alloc (.map #[] 0), w.heap.size, by
    have e : (Instr.makeMap t none).run c.P w = .ok (.map (some w.heap.size)) (w.alloc (.map #[] 0)) := rfl
    simp only [execOp, ho, Option.map_none, Sem.run_bind, e, Result.andThen_ok, Sem.run_pure], rfl,
    hs.2.2.2.alloc _ _ (fun _ _ _ => ⟨#[], 0, by simp [PH.one_self], rfl⟩)⟩
theorem OpT_mapUpdate (hk : KeyF kk kf) (kx : κ) (u : ν) {t tk te : TypeId} {x y q : Operand} {b i : Nat} {z : ν} {v : Value} {xs : List (κ × ν)} (hd : o.dst = none) (ho : o.op = .mapUpdate t x y q) (hx : ev fr x = some (.map (some b))) (hy : ev fr y = some (.int kk (kf kx))) (hq : ev fr q = some v) (hv : v = V u)
    (ht : c.P.underlying t = some (.map tk te)) (htk : c.P.underlying tk = some (.int kk)) (hi : own[i]? = some (some (mapR b kk kf V xs))) (_ : z = z) :
    OpT c o ⟨fr, own, shr⟩ (fun s => s = ⟨fr, own.set i (some (mapR b kk kf V (mput kx u xs))), shr⟩) :=
  OpT_skipRun hd fun a w hs => by
    subst hv
    obtain ⟨R, hs', hw⟩ := hs.2.2.2
    obtain ⟨es, ck, h1, h2⟩ := hw.ow i _ hi
    have hb := hw.hw i b _ h1
    have hik : IsKey (.int kk) (.int kk (kf kx)) := rfl
    have fin : ∀ es' ck', es'.toList.map entV = (mput kx u xs).map (fun p => (Value.int kk (kf p.1), V p.2)) → HSat c.R0 c.w0 c.B (own.set i (some (mapR b kk kf V (mput kx u xs)))) shr { w with heap := w.heap.setIfInBounds b (.map es' ck') } := fun es' ck' he => by
      have h0 := MapKept.heap_set (o' := Obj.map es' ck') hb
      refine ⟨R, _, hw.upd i (PH.one b (.map es' ck')) ?_ (by simp) ?_ ?_ rfl rfl rfl (own_set ?_)⟩
      · intro b' hb1 hb2
        by_cases eq : b' = b
        · subst eq; rw [h1] at hb2; cases hb2
        · exact h0.2 b' eq
      · intro b' o' h; obtain ⟨e1, e2⟩ := PH.one_some h; subst e1; subst e2; exact h0.1
      · intro b' o' h; obtain ⟨e1, _⟩ := PH.one_some h; subst e1; left; rw [h1]; simp
      · exact ⟨es', ck', PH.one_self _ _, he⟩
    rcases find_map hk kx z es.toList xs 0 h2 with ⟨f1, _, f3⟩ | ⟨j, e, p, g1, g2, f1, _, f4, f5⟩
    · refine ⟨{ w with heap := w.heap.setIfInBounds b (.map (es.push ⟨.int kk (kf kx), V u, ck⟩) (ck + 1)) }, ?_, fin _ _ ?_⟩
      · simp [execOp, ho, ev_eval hs.2.2.1 hx, ev_eval hs.2.2.1 hy, ev_eval hs.2.2.1 hq, Instr.mapUpdate, run_underlying ht, MapKept.run_getObj_map hb, MapKept.run_checkKey htk hik, MapKept.run_findKey htk f1, MapKept.run_setObj_map _ hb]
      · rw [f3 u, Array.toList_push, List.map_append, List.map_append, h2]; rfl
    · have hj : es[j]? = some e := by simpa using g1
      refine ⟨{ w with heap := w.heap.setIfInBounds b (.map (es.modify j fun e => { e with key := .int kk (kf kx), val := V u }) ck) }, ?_, fin _ _ ?_⟩
      · simp [execOp, ho, ev_eval hs.2.2.1 hx, ev_eval hs.2.2.1 hy, ev_eval hs.2.2.1 hq, Instr.mapUpdate, run_underlying ht, MapKept.run_getObj_map hb, MapKept.run_checkKey htk hik, MapKept.run_findKey htk f1, hj, f4, MapKept.run_keyThatStays hik, MapKept.run_setObj_map _ hb]
      · rw [f5 u]
        apply List.ext_getElem?
        intro q
        simp only [Array.toList_modify, List.getElem?_map, List.getElem?_modify, List.getElem?_set]
        have h3 := congrArg (fun l => l[q]?) h2
        simp only [List.getElem?_map] at h3
        by_cases eq : j = q
        · subst eq
          have hlt : j < xs.length := (List.getElem?_eq_some_iff.1 g2).1
          rw [g1]; simp [hlt, entV]
        · simp only [eq, if_false]
          cases hq' : es.toList[q]? with
          | none => rw [hq'] at h3; simpa using h3
          | some e' => rw [hq'] at h3; simpa using h3
end

section
variable {c : Cx} {k : List Item} {s : St} {ops : Array Oper} {rest : List Oper} {o : Oper} {fr : List (Nat × Option Value)} {own : List (Option Res)} {shr : List Fact} {d : Nat}
/-- a row that is made, under a name -/
theorem OpT_makeL {τ : Type} {S : Shape τ} {s : St} {F : Value → List (Nat × Option Value)} {ys xs : List τ} (h : OpT c o s (fun s' => ∃ v, s' = ⟨F v, own ++ [some (rowS S v ys)], shr⟩)) (e : ys = xs) : OpT c o s (fun s' => ∃ v, s' = ⟨F v, own ++ [some (rowS S v xs)], shr⟩) := e ▸ h
end
end Go.Proofs.Ytjfdamiilndgeaa

end

section
namespace Go.Proofs.Ytjfdamiilndgeaa

section
variable {c : Cx} {k : List Item} {s : St} {ops : Array Oper} {rest : List Oper} {o : Oper} {fr : List (Nat × Option Value)} {own : List (Option Res)} {shr : List Fact} {d : Nat} {τ σ : Type} {S : Shape τ} {S' : Shape σ}

end
end Go.Proofs.Ytjfdamiilndgeaa

end

section
namespace Go.Proofs.Ytjfdamiilndgeaa

section
variable {c : Cx} {k : List Item} {s : St} {ops : Array Oper} {rest : List Oper} {lo : Nat} {fr : List (Nat × Option Value)} {own : List (Option Res)} {shr : List Fact}
end
end Go.Proofs.Ytjfdamiilndgeaa

end

section
namespace Go.Proofs.Ytjfdamiilndgeaa

/-- a function value: called, it yields what is said, and nothing else is written -/
def FnOk {α β : Type} (P : Program) (av : α → List Value) (rv : β → Value) (v : Value) (φ : α → Option β) (h : PH) : Prop :=
  v.oneCell' = true ∧ ∀ x r, φ x = some r → ∃ (f : FuncId) (cp : List Value) (shr0 : List Fact), v = .func (.func f) #[] cp.toArray ∧ Callee P f ∧ (∀ F ∈ shr0, F.p h) ∧ Ctr P f (av x ++ cp).toArray [] shr0 (fun u own shr => u = rv r ∧ own = [] ∧ shr = [])
theorem FnOk.mono {α β : Type} {P : Program} {av : α → List Value} {rv : β → Value} {v : Value} {φ : α → Option β} {h h' : PH} (hl : h.le h') (hf : FnOk P av rv v φ h) : FnOk P av rv v φ h' :=
  ⟨hf.1, fun x r e => let ⟨f, cp, shr0, a, b, c, d⟩ := hf.2 x r e; ⟨f, cp, shr0, a, b, fun F hF => F.mono hl (c F hF), d⟩⟩
def Fact.fn {α β : Type} (P : Program) (av : α → List Value) (rv : β → Value) (v : Value) (φ : α → Option β) : Fact := ⟨FnOk P av rv v φ, FnOk.mono⟩
def av0 : Unit → List Value := fun _ => []
/-- function values without arguments, in cells -/
def Shape.fn {β : Type} (P : Program) (rv : β → Value) : Shape (Option β) :=
  ⟨1, false, fun h cs o => ∃ v, cs = [v] ∧ FnOk P av0 rv v (fun _ => o) h, fun hl ⟨v, e, h⟩ => ⟨v, e, h.mono hl⟩, fun ⟨v, e, _⟩ => by subst e; rfl, fun ⟨v, e, h⟩ u hu => by subst e; simp at hu; subst hu; exact h.1⟩
section
variable {c : Cx} {k : List Item} {o : Oper} {fr : List (Nat × Option Value)} {own : List (Option Res)} {shr : List Fact} {d : Nat}
end
end Go.Proofs.Ytjfdamiilndgeaa

end

section
namespace Go.Proofs.Ytjfdamiilndgeaa

/-- two parts in one -/
def Res.star (r1 r2 : Res) : Res :=
  ⟨fun R h => ∃ h1 h2, h1.disj h2 ∧ h1.le h ∧ h2.le h ∧ r1.p R h1 ∧ r2.p R h2, fun hl ⟨h1, h2, d, l1, l2, p1, p2⟩ => ⟨h1, h2, d, l1, l2, r1.mono hl p1, r2.mono hl p2⟩⟩
/-- a pointer that is nil, or points at a block with parts -/
def optT {σ : Type} (F : σ → Nat × List Value → Res) (p : Value) (o : Option σ) : Res :=
  ⟨fun R h => match o with
    | none => p = .pointer none
    | some m => ∃ y : Nat × List Value, p = .pointer (some ⟨y.1, 0, none⟩) ∧ (F m y).p R h,
   fun {R R' h} hl hp => by
    cases o with
    | none => exact hp
    | some m =>
      obtain ⟨y, e, q⟩ := hp
      exact ⟨y, e, (F m y).mono hl q⟩⟩
section
variable {c : Cx} {k : List Item} {fr : List (Nat × Option Value)} {own : List (Option Res)} {shr : List Fact} {σ : Type} {F : σ → Nat × List Value → Res}
theorem Tk_optTN {i : Nat} {p : Value} {x : Option σ} (hi : own[i]? = some (some (optT F p x))) (hx : x = none) (hk : p = .pointer none → Tk c k ⟨fr, own.set i none, shr⟩) : Tk c k ⟨fr, own, shr⟩ := fun a w hs => by
  subst hx
  obtain ⟨R, hs', hw⟩ := hs.2.2.2
  refine hk (hw.ow i _ hi) a w ⟨hs.1, hs.2.1, hs.2.2.1, R, hs', hw.r0, hw.rw_, hw.sh, ?_, hw.hw, hw.dj, hw.rd, hw.new, hw.rnew, hw.size, hw.keep, hw.os, hw.tape, hw.output⟩
  intro j r hj
  by_cases e : j = i
  · subst e
    have hil : j < own.length := (List.getElem?_eq_some_iff.1 hi).1
    simp [hil] at hj
  · rw [List.getElem?_set_ne (fun q => e q.symm)] at hj; exact hw.ow j r hj
theorem HSat.swap1 {R0 : PH} {w0 : World} {B : Nat → Prop} {w : World} (h : HSat R0 w0 B own shr w) {i : Nat} {r : Res} (hi : own[i]? = some (some r)) {α : Type} {r' : α → Res} (hr : ∀ R h, r.p R h → ∃ y, (r' y).p R h) : ∃ y, HSat R0 w0 B (own.set i (some (r' y))) shr w := by
  obtain ⟨R, hs, hw⟩ := h
  obtain ⟨y, hy⟩ := hr R (hs i) (hw.ow i _ hi)
  refine ⟨y, R, hs, hw.r0, hw.rw_, hw.sh, ?_, hw.hw, hw.dj, hw.rd, hw.new, hw.rnew, hw.size, hw.keep, hw.os, hw.tape, hw.output⟩
  intro j q hj
  by_cases e : j = i
  · subst e
    have hil : j < own.length := (List.getElem?_eq_some_iff.1 hi).1
    rw [List.getElem?_set_self hil] at hj
    simp at hj; subst hj; exact hy
  · rw [List.getElem?_set_ne (fun q => e q.symm)] at hj; exact hw.ow j q hj
theorem Tk_optTS {i : Nat} {p : Value} {x : Option σ} {m : σ} (hi : own[i]? = some (some (optT F p x))) (hx : x = some m)
    (hk : ∀ (b : Nat) (vs : List Value), p = .pointer (some ⟨b, 0, none⟩) → Tk c k ⟨fr, own.set i (some (F m (b, vs))), shr⟩) : Tk c k ⟨fr, own, shr⟩ := fun a w hs => by
  subst hx
  obtain ⟨⟨⟨b, vs⟩, e⟩, hh⟩ := hs.2.2.2.swap1 hi (α := { y : Nat × List Value // p = .pointer (some ⟨y.1, 0, none⟩) }) (r' := fun y => F m y.1) (fun R h hp => by
    obtain ⟨y, e, q⟩ := hp
    exact ⟨⟨y, e⟩, q⟩)
  exact hk b vs e a w ⟨hs.1, hs.2.1, hs.2.2.1, hh⟩
theorem Tk_nilT (F : σ → Nat × List Value → Res) (h : Tk c k ⟨fr, own ++ [some (optT F (.pointer none) none)], shr⟩) : Tk c k ⟨fr, own, shr⟩ := fun a w hs =>
  h a w ⟨hs.1, hs.2.1, hs.2.2.1, hs.2.2.2.free _ fun _ => rfl⟩
theorem vs_star {i : Nat} {r1 r2 : Res} (hi : own[i]? = some (some (r1.star r2))) : VS c ⟨fr, own, shr⟩ ⟨fr, own.set i (some r1) ++ [some r2], shr⟩ := fun a w hs => by
  obtain ⟨_, hx⟩ := hs.2.2.2.split hi (α := Unit) (r1 := fun _ => r1) (r2 := fun _ => r2) (F := fun _ => []) (by
    rintro R h _ ⟨h1, h2, d, l1, l2, p1, p2⟩
    exact ⟨(), h1, h2, d, l1, l2, p1, p2, fun G hG => by cases hG⟩)
  rw [List.append_nil] at hx
  exact ⟨hs.1, hs.2.1, hs.2.2.1, hx⟩
theorem vs_join {i j : Nat} {r1 r2 : Res} (hi : own[i]? = some (some r1)) (hj : own[j]? = some (some r2)) (hij : Nat.beq i j = false) : VS c ⟨fr, own, shr⟩ ⟨fr, (own.set i (some (r1.star r2))).set j none, shr⟩ := fun a w hs => by
  refine ⟨hs.1, hs.2.1, hs.2.2.1, hs.2.2.2.merge hij hi hj ?_⟩
  intro R h1 h2 hF hd p1 p2
  exact ⟨h1, h2, hd, PH.or_left, PH.or_right hd, p1, p2⟩
theorem vs_optT (F : σ → Nat × List Value → Res) (m : σ) (b : Nat) (vs : List Value) {i : Nat} {r : Res} (hi : own[i]? = some (some r)) (hr : r = F m (b, vs)) : VS c ⟨fr, own, shr⟩ ⟨fr, own.set i (some (optT F (.pointer (some ⟨b, 0, none⟩)) (some m))), shr⟩ := fun a w hs => by
  subst hr
  obtain ⟨_, hh⟩ := hs.2.2.2.swap1 hi (α := Unit) (r' := fun _ => optT F (.pointer (some ⟨b, 0, none⟩)) (some m)) (fun R h hp => ⟨(), (b, vs), rfl, hp⟩)
  exact ⟨hs.1, hs.2.1, hs.2.2.1, hh⟩
end
end Go.Proofs.Ytjfdamiilndgeaa

end

section
namespace Go.Proofs.Ytjfdamiilndgeaa

/-! ## what is kept of a state: reckoned -/
def selZ (fr : List (Nat × Option Value)) : List Nat → Option (List (Nat × Option Value))
  | [] => some []
  | t :: ts => match lk fr t with
    | none => none
    | some v => match selZ fr ts with
      | none => none
      | some r => some ((t, some v) :: r)
theorem selZ_eq {fr : List (Nat × Option Value)} : ∀ {ts : List Nat} {fr' : List (Nat × Option Value)}, selZ fr ts = some fr' → sel fr ts = fr'
  | [], fr', h => by
    cases h; rfl
  | t :: ts, fr', h => by
    unfold selZ at h
    split at h
    · cases h
    · next v hv =>
      split at h
      · cases h
      · next r hr =>
        cases h
        rw [sel, hv, selZ_eq hr]
def pickZ (own : List (Option Res)) : List Nat → Option (List (Option Res))
  | [] => some []
  | i :: is => match own[i]? with
    | none => none
    | some x => match x with
      | none => none
      | some r => match pickZ own is with
        | none => none
        | some l => some (some r :: l)
theorem pickZ_eq {own : List (Option Res)} : ∀ {is : List Nat} {own' : List (Option Res)}, pickZ own is = some own' → pick own is = own'
  | [], own', h => by
    cases h; rfl
  | i :: is, own', h => by
    unfold pickZ at h
    split at h
    · cases h
    · next x hx =>
      split at h
      · cases h
      · next r =>
        split at h
        · cases h
        · next l hl =>
          cases h
          have := pickZ_eq hl
          unfold pick at this ⊢
          rw [List.map_cons, hx, this]; rfl
def pickTZ (shr : List Fact) : List Nat → Option (List Fact)
  | [] => some []
  | j :: js => match shr[j]? with
    | none => none
    | some f => match pickTZ shr js with
      | none => none
      | some l => some (f :: l)
theorem pickTZ_eq {shr : List Fact} : ∀ {js : List Nat} {shr' : List Fact}, pickTZ shr js = some shr' → pickT shr js = shr'
  | [], shr', h => by
    cases h; rfl
  | j :: js, shr', h => by
    unfold pickTZ at h
    split at h
    · cases h
    · next f hf =>
      split at h
      · cases h
      · next l hl =>
        cases h
        have := pickTZ_eq hl
        unfold pickT at this ⊢
        rw [List.map_cons, hf, this]; rfl
section
variable {c : Cx} {k : List Item} {s : St} {ops : Array Oper} {rest : List Oper} {a : Act} {w : World}
theorem tZ (ts is js : List Nat) {fr' : List (Nat × Option Value)} {own' : List (Option Res)} {shr' : List Fact} (hn : nodupB is = true) (hf : selZ s.fr ts = some fr') (ho : pickZ s.own is = some own') (hs : pickTZ s.shr js = some shr') (h : Tk c k ⟨fr', own', shr'⟩) : Tk c k s :=
  Tk_wkS ts is js hn (selZ_eq hf) (pickZ_eq ho) (pickTZ_eq hs) h
theorem aZ {lo : Nat} (ts is js : List Nat) {fr' : List (Nat × Option Value)} {own' : List (Option Res)} {shr' : List Fact} (hn : nodupB is = true) (hf : selZ s.fr ts = some fr') (ho : pickZ s.own is = some own') (hs : pickTZ s.shr js = some shr') (h : TA c ops k lo ⟨fr', own', shr'⟩) : TA c ops k lo s :=
  TA_wkS ts is js hn (selZ_eq hf) (pickZ_eq ho) (pickTZ_eq hs) h
theorem gZ {lo : Nat} (h0 : Sat c s a w) (ts is js : List Nat) {fr' : List (Nat × Option Value)} {own' : List (Option Res)} {shr' : List Fact} (hn : nodupB is = true) (hf : selZ s.fr ts = some fr') (ho : pickZ s.own is = some own') (hs : pickTZ s.shr js = some shr') (h : TA c ops k lo ⟨fr', own', shr'⟩) : TAat c ops k lo a w :=
  h a w (h0.wkS ts is js hn (selZ_eq hf) (pickZ_eq ho) (pickTZ_eq hs))
end

/-! ## values built of three slices -/
section
variable {c : Cx} {o : Oper} {d : Nat} {fr : List (Nat × Option Value)} {own : List (Option Res)} {shr : List Fact}
/-! ## what is appended to nothing -/
theorem OpT_nil0 {τ : Type} {S : Shape τ} {i : Nat} {s : St} {ys : List τ} (h : OpT c o s (fun t => ∃ v, t = ⟨(d, some v) :: fr, own.set i (some (rowS S v ([] ++ ys))), shr⟩)) : OpT c o s (fun t => ∃ v, t = ⟨(d, some v) :: fr, own.set i (some (rowS S v ys)), shr⟩) := h

/-! ## a string that is copied into a row of one's own -/
def copyStr (xs ys : List UInt8) : List UInt8 := ys.take xs.length ++ xs.drop ys.length
theorem copyStr_len (xs ys : List UInt8) : (copyStr xs ys).length = xs.length := by
  unfold copyStr
  rw [List.length_append, List.length_take, List.length_drop]; omega
theorem flatU8 (xs : List UInt8) : (xs.map cU8).flatten = xs.map vU8 := by
  induction xs with
  | nil => rfl
  | cons x xs ih => rw [List.map_cons, List.flatten_cons, ih]; rfl
theorem str_cells (ys : List UInt8) (N : Nat) : ((ByteArray.extract ⟨ys.toArray⟩ 0 N).data.map fun b => Value.int .u8 b.toNat).toList = (ys.take N).map vU8 := by
  rw [Array.toList_map, ByteArray.data_extract, Array.toList_extract]
  simp [List.extract_eq_take_drop]
theorem OpT_copyStr {ty ts e : TypeId} {x y : Operand} {u : Value} {i b : Nat} {z : Value} {xs ys : List UInt8} (hn : Nat.blt d c.n = true) (hd : o.dst = some d)
    (ho : o.op = .call { callee := .builtin .copy, args := #[x, y], argTypes := #[ty, ts] }) (hx : ev fr x = some u) (hy : ev fr y = some (vS ys)) (ht : SlF c.P ty e 1 b z) (hi : own[i]? = some (some (rowS u8S u xs))) :
    OpT c o ⟨fr, own, shr⟩ (fun s => s = ⟨(d, some (vI ((min ys.length xs.length : Nat) : Int))) :: fr, own.set i (some (rowS u8S u (copyStr xs ys))), shr⟩) := by
  have main : OpT c o ⟨fr, own, shr⟩ (fun s => ∃ _ : Unit, s = ⟨(d, some (vI ((min ys.length xs.length : Nat) : Int))) :: fr, own.set i (some (rowS u8S u (copyStr xs ys))), shr⟩) :=
    OpT_run hn hd fun a w hs => by
      obtain ⟨R, hs', hw⟩ := hs.2.2.2
      have hun := run_underlying ht.und w
      have hr := hw.ow i _ hi
      refine ⟨vI ((min ys.length xs.length : Nat) : Int), ?_⟩
      have hsz : (ByteArray.mk ys.toArray).size = ys.length := by simp [ByteArray.size]
      by_cases hne : xs = []
      · subst hne
        refine ⟨w, (), ?_, rfl, ?_⟩
        · obtain ⟨bu, cu, eu⟩ := RowRel.val hr
          subst eu
          cases bu with
          | none => simp [execOp, ho, resolve, invoke, builtin, ev_eval hs.2.2.1 hx, ev_eval hs.2.2.1 hy, Builtin.copy_, hun, Builtin.lenOf, hsz, ht.sz, Builtin.firstCells, goInt]
          | some ad =>
            simp [execOp, ho, resolve, invoke, builtin, ev_eval hs.2.2.1 hx, ev_eval hs.2.2.1 hy, Builtin.copy_, hun, Builtin.lenOf, hsz, ht.sz, Builtin.firstCells, storeCells, goInt]
        · have : own.set i (some (rowS u8S u (copyStr [] ys))) = own := by
            apply List.ext_getElem?
            intro j
            by_cases ej : j = i
            · subst ej
              have hlt : j < own.length := (List.getElem?_eq_some_iff.1 hi).1
              rw [List.getElem?_set_self hlt, hi]; simp [copyStr]
            · rw [List.getElem?_set_ne (fun q => ej q.symm)]
          show HSat c.R0 c.w0 c.B (own.set i (some (rowS u8S u (copyStr [] ys)))) shr w
          rw [this]; exact hs.2.2.2
      · generalize hN : min ys.length xs.length = N
        have hmin : Nat.min ys.length xs.length = N := hN
        obtain ⟨g, cp, cur, tg, a1, a2, a3, a4, a5, a6⟩ := row_block (S := u8S) rfl hr hne
        subst a1
        have hb := hw.hw i g _ a2
        simp only [Nat.mul_one] at a5 a6
        have hnl : ((ys.take N).map vU8).length = N := by rw [List.length_map, List.length_take]; omega
        have hone1 : ∀ v ∈ (ys.take N).map vU8, v.oneCell' = true := by
          intro v hv
          obtain ⟨x, _, rfl⟩ := List.mem_map.1 hv
          rfl
        have hst := run_storeCells_at c.P g 0 tg ((ys.take N).map vU8) 0 cur w hb (by rw [hnl]; omega) hone1
        simp only [Nat.add_zero, hnl, List.take_zero, List.nil_append, Nat.zero_add] at hst
        have hst' : (storeCells ⟨g, 0, none⟩ (List.take N (List.map (fun b => Value.int IntKind.u8 (b.toNat : Int)) ys))).run c.P w = .ok () (w.setRow g (((ys.take N).map vU8) ++ cur.toList.drop N).toArray) := by
          rw [← List.map_take]; exact hst
        have hcl : (((ByteArray.extract ⟨ys.toArray⟩ 0 N).data.map fun b => Value.int .u8 b.toNat).toList) = (ys.take N).map vU8 := str_cells ys N
        refine ⟨w.setRow g (((ys.take N).map vU8) ++ cur.toList.drop N).toArray, (), ?_, rfl, ?_⟩
        · have hq : (Builtin.copy_ #[ty, ts] o.type #[.slice (some ⟨g, 0, none⟩) xs.length cp, vS ys]).run c.P w = .ok (vI (N : Int)) (w.setRow g (((ys.take N).map vU8) ++ cur.toList.drop N).toArray) := by
            simp only [Builtin.copy_]
            simp [hun, Builtin.lenOf, hsz, hmin, ht.sz, Builtin.firstCells, hst', goInt]
          simp [execOp, ho, resolve, invoke, builtin, ev_eval hs.2.2.1 hx, ev_eval hs.2.2.1 hy, hq]
        · have hb' := setRow_heap w g cur (((ys.take N).map vU8) ++ cur.toList.drop N).toArray tg (0, 0) hb
          refine ⟨R, _, hw.upd i (PH.one g (.cells (((ys.take N).map vU8) ++ cur.toList.drop N).toArray tg (0, 0))) ?_ (by simp) ?_ ?_ rfl rfl rfl (own_set ?_)⟩
          · intro b hb1 hb2
            by_cases eq : b = g
            · subst eq; rw [a2] at hb2; cases hb2
            · exact setRow_other w g b _ eq
          · intro b o' h; obtain ⟨e1, e2⟩ := PH.one_some h; subst e1; subst e2; exact hb'
          · intro b o' h; obtain ⟨e1, _⟩ := PH.one_some h; subst e1; left; rw [a2]; simp
          · have hlenc := copyStr_len xs ys
            refine ⟨(copyStr xs ys).map cU8, by simp, ?_, .inr ⟨g, cp, _, tg, by rw [hlenc], PH.one_self _ _, by rw [hlenc]; exact a3, a4, ?_, ?_⟩⟩
            · intro j ci z p q
              simp only [List.getElem?_map, q, Option.map_some, Option.some.injEq] at p
              exact p.symm
            · have e5' : cur.toList.length = cp := by simpa using a5
              simp only [List.size_toArray, List.length_append, List.length_drop, hnl, e5']
              show _ = cp * 1
              omega
            · show List.take ((copyStr xs ys).length * 1) _ = _
              rw [hlenc, Nat.mul_one, List.toList_toArray, flatU8, List.take_append, hnl, List.take_of_length_le (by rw [hnl]; omega)]
              have e7 : cur.toList.take xs.length = xs.map vU8 := by rw [a6, flatU8]
              have e8 : (cur.toList.drop N).take (xs.length - N) = (xs.drop N).map vU8 := by
                rw [List.map_drop, ← e7, List.drop_take]
              rw [e8]
              unfold copyStr
              rw [List.map_append]
              congr 1
              · congr 1
                by_cases q : ys.length ≤ xs.length
                · rw [← hN, Nat.min_eq_left q, List.take_of_length_le (Nat.le_refl _), List.take_of_length_le q]
                · rw [← hN, Nat.min_eq_right (by omega)]
              · by_cases q : ys.length ≤ xs.length
                · rw [← hN, Nat.min_eq_left q]
                · rw [← hN, Nat.min_eq_right (by omega), List.drop_of_length_le (Nat.le_refl _), List.drop_of_length_le (by omega)]
  refine main.vs ?_
  rintro x ⟨_, rfl⟩
  exact ⟨_, rfl, fun a w hs => hs⟩
end
end Go.Proofs.Ytjfdamiilndgeaa

end

section
namespace Go.Proofs.Ytjfdamiilndgeaa
open MapKept (IsKey)

/-! ## sectors -/
structure Sec where
  l : List UInt8
  h : l.length = 512
deriving DecidableEq
instance : Inhabited Sec := ⟨⟨List.replicate 512 0, List.length_replicate ..⟩⟩
def Sec.z : Sec := ⟨List.replicate 512 0, List.length_replicate ..⟩
def Sec.of (xs : List UInt8) : Option Sec := if h : xs.length = 512 then some ⟨xs, h⟩ else none
theorem Sec.of_eq {xs : List UInt8} {a : Sec} (h : Sec.of xs = some a) : xs = a.l := by
  unfold Sec.of at h
  split at h
  · cases h; rfl
  · cases h
theorem putLen (x : Sec) (ys : List UInt8) : (ys.take 512 ++ x.l.drop ys.length).length = 512 := by
  rw [List.length_append, List.length_take, List.length_drop, x.h]; omega
def Sec.put (x : Sec) (ys : List UInt8) : Sec := ⟨ys.take 512 ++ x.l.drop ys.length, putLen x ys⟩
def cSec (x : Sec) : List Value := x.l.map vU8
theorem cSec_len (x : Sec) : (cSec x).length = 512 := by unfold cSec; rw [List.length_map]; exact x.h
theorem cSec_one (x : Sec) : (cSec x).all (·.oneCell') = true := by
  unfold cSec
  rw [List.all_eq_true]
  intro v hv
  obtain ⟨y, _, rfl⟩ := List.mem_map.1 hv
  rfl
def secS : Shape Sec := Shape.plain 512 true cSec cSec_len cSec_one
def vSec (x : Sec) : Value := .agg (x.l.map vU8).toArray
theorem secB (x : Sec) : (x.l.length == 512) = true := by rw [x.h]; rfl
theorem secM (x : Sec) : ((x.l.map vU8).length == 512) = true := by rw [List.length_map, x.h]; rfl

theorem tyZ_of {P : Program} {t e : TypeId} {sz b : Nat} {z : Value} (h : SlF P t e sz b z) : TyZ P e z := fun w => by
  obtain ⟨i, hi, hz, _, _⟩ := h.info
  simp [zeroValue, typeInfo, hi, hz]
section
variable {c : Cx} {k : List Item} {s : St} {ops : Array Oper} {rest : List Oper} {o : Oper} {fr : List (Nat × Option Value)} {own : List (Option Res)} {shr : List Fact} {d : Nat}
/-! ## the bytes of a sector of a row, as a slice -/
def rowSl (v : Value) (off n : Nat) : Value := match v with | .slice (some a) _ _ => .slice (some (a.add off)) n n | _ => undef
theorem OpT_sliceEG {τ : Type} {S : Shape τ} {cells : τ → List Value} {sz : Nat} {ag : Bool} {hl : ∀ x, (cells x).length = sz} {hone : ∀ x, (cells x).all (·.oneCell') = true} (hS : S = Shape.plain sz ag cells hl hone) {t e : TypeId} {x : Operand} {vx : Value} {i n : Nat} {m : Int} {xs : List τ} {u : τ} (hn : Nat.blt d c.n = true) (hd : o.dst = some d) (ho : o.op = .slice t x none none none) (hx : ev fr x = some (rowPtr vx (Int.toNat m * sz))) (ht : ArrF c.P t n e 1) (h0 : n ≠ 0)
    (hi : own[i]? = some (some (rowS S vx xs))) (hu : ix xs m = some u) : OpT c o ⟨fr, own, shr⟩ (fun s => s = ⟨(d, some (rowSl vx (Int.toNat m * sz) n)) :: fr, own, shr⟩) :=
  OpT_val hn hd fun a w hs => by
    obtain ⟨_, _, h2⟩ := ix_some hu
    obtain ⟨R, hs', hw⟩ := hs.2.2.2
    have hne : xs ≠ [] := by intro e; subst e; simp at h2
    obtain ⟨g, cap, cur, tg, a1, a2, a3, a4, a5, a6⟩ := row_block hS (hw.ow i _ hi) hne
    subst a1
    have hun := run_underlying ht.und w
    have hez := ht.ez w
    have e := ev_eval hs.2.2.1 hx
    simp only [rowPtr, Addr.add_lit, Nat.zero_add] at e
    simp [execOp, ho, e, Instr.sliceAt, hun, Instr.sureAddr, Instr.sliceBounds, hez, h0, rowSl, Addr.add_lit]
theorem OpT_sliceElt {t e : TypeId} {x : Operand} {vx : Value} {i : Nat} {m : Int} {xs : List Sec} {u : Sec} (hn : Nat.blt d c.n = true) (hd : o.dst = some d) (ho : o.op = .slice t x none none none) (hx : ev fr x = some (rowPtr vx (Int.toNat m * 512))) (ht : ArrF c.P t 512 e 1)
    (hi : own[i]? = some (some (rowS secS vx xs))) (hu : ix xs m = some u) : OpT c o ⟨fr, own, shr⟩ (fun s => s = ⟨(d, some (rowSl vx (Int.toNat m * 512) 512)) :: fr, own, shr⟩) :=
  OpT_sliceEG (S := secS) rfl hn hd ho hx ht (by decide) hi hu
/-- the bytes of a sector, read where they lie -/
theorem elt_rel {R h : PH} {vx : Value} {xs : List Sec} {u : Sec} {m : Int} (hr : RowRel secS R h vx xs) (hu : ix xs m = some u) : SliceRel u8S h (rowSl vx (Int.toNat m * 512) 512) u.l := by
  obtain ⟨_, _, h2⟩ := ix_some hu
  have hne : xs ≠ [] := by intro e; subst e; simp at h2
  obtain ⟨g, cap, cur, tg, a1, a2, a3, a4, a5, a6⟩ := row_block (S := secS) rfl hr hne
  subst a1
  refine ⟨some ⟨g, m.toNat * 512, none⟩, 512, u.l.map cU8, ?_, ?_, by simp, fun j ci x p q => ?_, fun j ci p => ⟨_, rfl, ?_⟩⟩
  · rw [u.h]; simp [rowSl, Addr.add_lit]
  · rw [u.h]; exact Nat.le_refl _
  · simp only [List.getElem?_map, q, Option.map_some, Option.some.injEq] at p
    exact p.symm
  · rw [List.getElem?_map] at p
    obtain ⟨x, hx1, hx2⟩ := Option.map_eq_some_iff.1 p
    subst hx2
    have hj : j < 512 := by rw [← u.h]; exact (List.getElem?_eq_some_iff.1 hx1).1
    intro q z hz
    cases q with
    | zero =>
      obtain rfl : vU8 x = z := Option.some.inj hz
      have hc := row_cell (cells := cSec) (sz := 512) cSec_len a6 h2 (q := j) hj
      rw [show (cSec u)[j]? = some (vU8 x) by unfold cSec; rw [List.getElem?_map, hx1]; rfl] at hc
      show PH.cell _ _ = _
      unfold PH.cell
      simp only [Addr.add_lit, a2]
      have : u8S.sz = 1 := rfl
      rw [this, Nat.mul_one, Nat.add_zero]
      exact hc
    | succ q => cases hz
/-- append(x, s[i][:]...) -/
theorem OpT_appendE {t e : TypeId} {x y : Operand} {vx vy : Value} {i j b : Nat} {m : Int} {z : Value} {xs : List UInt8} {ys : List Sec} {u : Sec} (hn : Nat.blt d c.n = true) (hd : o.dst = some d) (ho : o.op = .call { callee := .builtin .append, args := #[x, y], argTypes := #[t, t] })
    (hx : ev fr x = some vx) (hy : ev fr y = some (rowSl vy (Int.toNat m * 512) 512)) (ht : SlF c.P t e 1 b z) (hi : own[i]? = some (some (rowS u8S vx xs))) (hj : own[j]? = some (some (rowS secS vy ys))) (hu : ix ys m = some u) (hf : fits xs.length u.l.length b = true) :
    OpT c o ⟨fr, own, shr⟩ (fun s => ∃ v, s = ⟨(d, some v) :: fr, own.set i (some (rowS u8S v (xs ++ u.l))), shr⟩) :=
  OpT_run hn hd fun a w hs => by
    obtain ⟨R, hs', hw⟩ := hs.2.2.2
    obtain ⟨v', w', hr, hh⟩ := run_append_S (S := u8S) (sz := 0) ht hw hi (hw.hw j) (fun cs x h => h) (elt_rel (hw.ow j _ hj) hu) (Nat.le_of_ble_eq_true hf) o.type
    refine ⟨v', w', v', ?_, rfl, hh⟩
    simp only [execOp, ho, resolve, invoke, builtin, Sem.run_bind, Sem.run_pure, Result.andThen_ok, List.map_toArray, List.map_cons, List.map_nil, ev_eval hs.2.2.1 hx, ev_eval hs.2.2.1 hy, hr]
/-- copy(s[i][:], y) -/
theorem OpT_copyEG {τ : Type} {S : Shape τ} {by_ : τ → List UInt8} {sz : Nat} {ag : Bool} {hl : ∀ x, ((by_ x).map vU8).length = sz} {hone : ∀ x, ((by_ x).map vU8).all (·.oneCell') = true} (hS : S = Shape.plain sz ag (fun x => (by_ x).map vU8) hl hone) {t e : TypeId} {x y : Operand} {vx vy : Value} {i j b : Nat} {m : Int} {z : Value} {xs : List τ} {ys : List UInt8} {u u' : τ} (hput : by_ u' = ys.take sz ++ (by_ u).drop ys.length) (hn : Nat.blt d c.n = true) (hd : o.dst = some d) (ho : o.op = .call { callee := .builtin .copy, args := #[x, y], argTypes := #[t, t] })
    (hx : ev fr x = some (rowSl vx (Int.toNat m * sz) sz)) (hy : ev fr y = some vy) (ht : SlF c.P t e 1 b z) (hi : own[i]? = some (some (rowS S vx xs))) (hu : ix xs m = some u) (hj : shr[j]? = some (Fact.sl u8S vy ys)) :
    OpT c o ⟨fr, own, shr⟩ (fun s => s = ⟨(d, some (vI ((min ys.length sz : Nat) : Int))) :: fr, own.set i (some (rowS S vx (xs.set m.toNat u'))), shr⟩) := by
  have main : OpT c o ⟨fr, own, shr⟩ (fun s => ∃ _ : Unit, s = ⟨(d, some (vI ((min ys.length sz : Nat) : Int))) :: fr, own.set i (some (rowS S vx (xs.set m.toNat u'))), shr⟩) :=
    OpT_run hn hd fun a w hs => by
      obtain ⟨R, hs', hw⟩ := hs.2.2.2
      have hsl : SliceRel u8S R vy ys := hw.sh _ (List.mem_of_getElem? hj)
      have hR' := hw.rw_
      obtain ⟨base, cap2, css, e1, e2, e3, e4, e5, e6, e7, e8⟩ := hsl.flat
      have hun := run_underlying ht.und w
      have hul : (by_ u).length = sz := by have := hl u; rwa [List.length_map] at this
      obtain ⟨_, _, h2⟩ := ix_some hu
      have hne : xs ≠ [] := by intro e; subst e; simp at h2
      obtain ⟨g, cp, cur, tg, a1, a2, a3, a4, a5, a6⟩ := row_block hS (hw.ow i _ hi) hne
      subst a1
      have hb := hw.hw i g _ a2
      have hlt : m.toNat < xs.length := (List.getElem?_eq_some_iff.1 h2).1
      have hfit : m.toNat * sz + sz ≤ xs.length * sz := by
        have := Nat.mul_le_mul_right sz hlt
        rw [Nat.succ_mul] at this; exact this
      have hcap : xs.length * sz ≤ cur.size := by rw [a5]; exact Nat.mul_le_mul_right sz a3
      have hcss : css = ys.map cU8 := flat_map1 (R := R) (cells := cU8) (sz := 1) (ag := false) (hl := fun _ => rfl) (hone := fun _ => rfl) e3 e4
      generalize hN : min ys.length sz = N
      have hmin : Nat.min ys.length sz = N := hN
      have hNl : N ≤ ys.length := by omega
      have hnl : ((ys.take N).map vU8).length = N := by rw [List.length_map, List.length_take]; omega
      have hone1 : ∀ v ∈ (ys.take N).map vU8, v.oneCell' = true := by
        intro v hv
        obtain ⟨x, _, rfl⟩ := List.mem_map.1 hv
        rfl
      have hst := run_storeCells_at c.P g (m.toNat * sz) tg ((ys.take N).map vU8) 0 cur w hb (by rw [hnl]; omega) hone1
      simp only [Nat.add_zero, hnl] at hst
      have ex := ev_eval hs.2.2.1 hx
      simp only [rowSl, Addr.add_lit, Nat.zero_add] at ex
      -- what is written is the sector anew
      have huc : (cur.toList.drop (m.toNat * sz)).take sz = ((by_ u).map vU8) := by
        apply List.ext_getElem?
        intro q
        by_cases hq : q < sz
        · rw [List.getElem?_take_of_lt hq, List.getElem?_drop]
          have := row_cell (cells := (fun x => (by_ x).map vU8)) (sz := sz) hl a6 h2 (q := q) hq
          rw [← this]; simp
        · rw [List.getElem?_eq_none (by rw [List.length_take]; omega), List.getElem?_eq_none (by rw [hl]; omega)]
      have hnew : cur.toList.take (m.toNat * sz) ++ (ys.take N).map vU8 ++ cur.toList.drop (m.toNat * sz + N) = cur.toList.take (m.toNat * sz) ++ ((by_ u').map vU8) ++ cur.toList.drop (m.toNat * sz + sz) := by
        have hN5 : N ≤ sz := by omega
        have h3 : cur.toList.drop (m.toNat * sz + N) = ((((by_ u).map vU8)).drop N) ++ cur.toList.drop (m.toNat * sz + sz) := by
          have h5 : cur.toList.drop (m.toNat * sz + sz) = (cur.toList.drop (m.toNat * sz + N)).drop (sz - N) := by
            rw [List.drop_drop]; congr 1; omega
          rw [← huc, List.drop_take, List.drop_drop, h5, List.take_append_drop]
        rw [h3]
        have h4 : ((by_ u').map vU8) = (ys.take N).map vU8 ++ (((by_ u).map vU8)).drop N := by
          rw [hput, List.map_append, ← List.map_drop]
          congr 1
          · congr 1
            by_cases q : ys.length ≤ sz
            · rw [← hN, Nat.min_eq_left q, List.take_of_length_le q, List.take_of_length_le (Nat.le_refl _)]
            · rw [← hN, Nat.min_eq_right (by omega)]
          · congr 1
            by_cases q : ys.length ≤ sz
            · rw [← hN, Nat.min_eq_left q]
            · rw [← hN, Nat.min_eq_right (by omega), List.drop_of_length_le (by rw [hul]; omega), List.drop_of_length_le (by rw [hul]; exact Nat.le_refl _)]
        rw [h4]; simp only [List.append_assoc]
      refine ⟨vI (N : Int), w.setRow g (cur.toList.take (m.toNat * sz) ++ ((by_ u').map vU8) ++ cur.toList.drop (m.toNat * sz + sz)).toArray, (), ?_, rfl, ?_⟩
      · rw [hnew] at hst
        cases base with
        | none =>
          have hy0 : ys = [] := by
            cases ys with
            | nil => rfl
            | cons y ys => exact absurd rfl (e7 (by simp))
          subst hy0; subst e1
          have hN0 : N = 0 := by simpa using hN.symm
          subst hN0
          have hq : (Builtin.copy_ #[t, t] o.type #[.slice (some ⟨g, m.toNat * sz, none⟩) sz sz, .slice none ([] : List UInt8).length cap2]).run c.P w = .ok (vI ((0 : Nat) : Int)) (w.setRow g (cur.toList.take (m.toNat * sz) ++ ((by_ u').map vU8) ++ cur.toList.drop (m.toNat * sz + sz)).toArray) := by
            simp only [Builtin.copy_]
            have hst0 : (storeCells ⟨g, m.toNat * sz, none⟩ []).run c.P w = .ok () (w.setRow g (cur.toList.take (m.toNat * sz) ++ ((by_ u').map vU8) ++ cur.toList.drop (m.toNat * sz + sz)).toArray) := by simpa using hst
            simp [hun, Builtin.lenOf, ht.sz, Builtin.firstCells, hst0, goInt]
          simp [execOp, ho, resolve, invoke, builtin, ex, ev_eval hs.2.2.1 hy]
          have hq' := hq
          simp at hq'
          simp [hq']
        | some ad =>
          subst e1
          have hnews : ∀ (q : Nat) (v : Value), ((ys.take N).map vU8)[q]? = some v → w.cell? (ad.add q) = some v := by
            intro q v hq
            rw [List.map_take, List.getElem?_take] at hq
            split at hq
            · have : css.flatten[q]? = some v := by rw [hcss, flatU8]; exact hq
              exact PH.cell_inW hR' (e8 ad rfl q v this)
            · cases hq
          have hf := run_firstCells_some (P := c.P) w 1 N ad ys.length cap2 ((ys.take N).map vU8) (by rw [hnl, Nat.mul_one]) hnews
          have hq : (Builtin.copy_ #[t, t] o.type #[.slice (some ⟨g, m.toNat * sz, none⟩) sz sz, .slice (some ad) ys.length cap2]).run c.P w = .ok (vI (N : Int)) (w.setRow g (cur.toList.take (m.toNat * sz) ++ ((by_ u').map vU8) ++ cur.toList.drop (m.toNat * sz + sz)).toArray) := by
            generalize cur.toList.take (m.toNat * sz) ++ ((by_ u').map vU8) ++ cur.toList.drop (m.toNat * sz + sz) = nw at *
            generalize (ys.take N).map vU8 = news at *
            simp only [Builtin.copy_]
            simp [hun, Builtin.lenOf, hmin, ht.sz, hf, hst, goInt]
          generalize cur.toList.take (m.toNat * sz) ++ ((by_ u').map vU8) ++ cur.toList.drop (m.toNat * sz + sz) = nw at *
          simp only [execOp, ho, resolve, invoke, builtin, Sem.run_bind, Sem.run_pure, Result.andThen_ok, List.map_toArray, List.map_cons, List.map_nil, ex, ev_eval hs.2.2.1 hy, hq]
      · have hb' := setRow_heap w g cur (cur.toList.take (m.toNat * sz) ++ ((by_ u').map vU8) ++ cur.toList.drop (m.toNat * sz + sz)).toArray tg (0, 0) hb
        refine ⟨R, _, hw.upd i (PH.one g (.cells (cur.toList.take (m.toNat * sz) ++ ((by_ u').map vU8) ++ cur.toList.drop (m.toNat * sz + sz)).toArray tg (0, 0))) ?_ (by simp) ?_ ?_ rfl rfl rfl (own_set ?_)⟩
        · intro b hb1 hb2
          by_cases eq : b = g
          · subst eq; rw [a2] at hb2; cases hb2
          · exact setRow_other w g b _ eq
        · intro b o' h; obtain ⟨e1, e2⟩ := PH.one_some h; subst e1; subst e2; exact hb'
        · intro b o' h; obtain ⟨e1, _⟩ := PH.one_some h; subst e1; left; rw [a2]; simp
        · subst hS
          refine ⟨(xs.set m.toNat u').map (fun x => (by_ x).map vU8), by simp, ?_, .inr ⟨g, cp, _, tg, by simp, PH.one_self _ _, by simpa using a3, a4, ?_, ?_⟩⟩
          · intro j ci z p q
            simp only [List.getElem?_map, q, Option.map_some, Option.some.injEq] at p
            exact p.symm
          · have e5' : cur.toList.length = cp * sz := by simpa using a5
            simp only [List.size_toArray, List.length_append, List.length_take, List.length_drop, hl, e5']
            show _ = cp * sz
            have : xs.length * sz ≤ cp * sz := Nat.mul_le_mul_right sz a3
            omega
          · show List.take ((xs.set m.toNat u').length * sz) _ = _
            rw [List.length_set, List.toList_toArray, take_splice (hl u') hfit (by simpa using hcap), a6, flatten_set hl u' hlt]
  refine main.vs ?_
  rintro x ⟨_, rfl⟩
  exact ⟨_, rfl, fun a w hs => hs⟩

theorem OpT_copyE {t e : TypeId} {x y : Operand} {vx vy : Value} {i j b : Nat} {m : Int} {z : Value} {xs : List Sec} {ys : List UInt8} {u : Sec} (hn : Nat.blt d c.n = true) (hd : o.dst = some d) (ho : o.op = .call { callee := .builtin .copy, args := #[x, y], argTypes := #[t, t] })
    (hx : ev fr x = some (rowSl vx (Int.toNat m * 512) 512)) (hy : ev fr y = some vy) (ht : SlF c.P t e 1 b z) (hi : own[i]? = some (some (rowS secS vx xs))) (hu : ix xs m = some u) (hj : shr[j]? = some (Fact.sl u8S vy ys)) :
    OpT c o ⟨fr, own, shr⟩ (fun s => s = ⟨(d, some (vI ((min ys.length 512 : Nat) : Int))) :: fr, own.set i (some (rowS secS vx (xs.set m.toNat (u.put ys)))), shr⟩) :=
  OpT_copyEG (S := secS) (by_ := Sec.l) (u := u) (u' := u.put ys) rfl rfl hn hd ho hx hy ht hi hu hj

/-! ## maps -/
def mhas {κ ν : Type} [BEq κ] (k : κ) : List (κ × ν) → Bool
  | [] => false
  | p :: r => bif k == p.1 then true else mhas k r
variable {κ ν : Type} [BEq κ] {kk : IntKind} {kf : κ → Int} {V : ν → Value}
theorem find_has (hk : KeyF kk kf) (k : κ) (z : ν) : ∀ (es : List MapEntry) (xs : List (κ × ν)) (n : Nat), es.map entV = xs.map (fun p => (Value.int kk (kf p.1), V p.2)) →
    (Instr.findNow (.int kk) (.int kk (kf k)) es n = some none ∧ mget z k xs = z ∧ mhas k xs = false) ∨
    (∃ (j : Nat) (p : κ × ν), Instr.findNow (.int kk) (.int kk (kf k)) es n = some (some (n + j, V p.2)) ∧ mget z k xs = p.2 ∧ mhas k xs = true)
  | [], [], n, _ => .inl ⟨rfl, rfl, rfl⟩
  | [], _ :: _, _, h => by simp at h
  | _ :: _, [], _, h => by simp at h
  | e :: es, p :: xs, n, h => by
    simp only [List.map_cons, List.cons.injEq] at h
    obtain ⟨h1, h2⟩ := h
    have hkey : e.key = .int kk (kf p.1) := congrArg Prod.fst h1
    have hval : e.val = V p.2 := congrArg Prod.snd h1
    have hs : Instr.sameNow (.int kk) (.int kk (kf k)) e.key = some (kf k == kf p.1) := by rw [hkey]; simp [Instr.sameNow]
    cases hc : k == p.1 with
    | true =>
      refine .inr ⟨0, p, ?_, ?_, ?_⟩
      · simp only [Instr.findNow, hs, hk.eq, hc, hval, Nat.add_zero]
      · simp only [mget, hc, cond_true]
      · simp only [mhas, hc, cond_true]
    | false =>
      rcases find_has hk k z es xs (n + 1) h2 with ⟨a, b, d⟩ | ⟨j, p', a3, a4, a5⟩
      · refine .inl ⟨?_, ?_, ?_⟩
        · simp only [Instr.findNow, hs, hk.eq, hc]; exact a
        · simp only [mget, hc, cond_false]; exact b
        · simp only [mhas, hc, cond_false]; exact d
      · refine .inr ⟨j + 1, p', ?_, ?_, ?_⟩
        · simp only [Instr.findNow, hs, hk.eq, hc]; rw [a3]; congr 3; omega
        · simp only [mget, hc, cond_false]; exact a4
        · simp only [mhas, hc, cond_false]; exact a5
theorem OpT_lookup2 (hk : KeyF kk kf) {t tk te : TypeId} {x y : Operand} {b i : Nat} {kx : κ} {z : ν} {xs : List (κ × ν)} (hn : Nat.blt d c.n = true) (hd : o.dst = some d) (ho : o.op = .lookup t x y true) (hx : ev fr x = some (.map (some b))) (hy : ev fr y = some (.int kk (kf kx)))
    (ht : c.P.underlying t = some (.map tk te)) (htk : c.P.underlying tk = some (.int kk)) (hz : TyZ c.P te (V z)) (hi : own[i]? = some (some (mapR b kk kf V xs))) :
    OpT c o ⟨fr, own, shr⟩ (fun s => s = ⟨(d, some (.tuple #[V (mget z kx xs), .bool (mhas kx xs)])) :: fr, own, shr⟩) :=
  OpT_val hn hd fun a w hs => by
    obtain ⟨R, hs', hw⟩ := hs.2.2.2
    obtain ⟨es, ck, h1, h2⟩ := hw.ow i _ hi
    have hb := hw.hw i b _ h1
    have hik : IsKey (.int kk) (.int kk (kf kx)) := rfl
    rcases find_has hk kx z es.toList xs 0 h2 with ⟨f1, f2, f3⟩ | ⟨j, p, f1, f2, f3⟩
    · rw [f2, f3]
      simp [execOp, ho, ev_eval hs.2.2.1 hx, ev_eval hs.2.2.1 hy, Instr.lookup, run_underlying ht, MapKept.run_getObj_map hb, MapKept.run_checkKey htk hik, MapKept.run_findKey htk f1, hz w]
    · rw [f2, f3]
      simp [execOp, ho, ev_eval hs.2.2.1 hx, ev_eval hs.2.2.1 hy, Instr.lookup, run_underlying ht, MapKept.run_getObj_map hb, MapKept.run_checkKey htk hik, MapKept.run_findKey htk f1]
omit [BEq κ] in
theorem OpT_dropRun {own' : List (Option Res)} (hd : o.dst = none)
    (h : ∀ a w, Sat c ⟨fr, own, shr⟩ a w → ∃ (v : Value) (w' : World), (execOp a.eval o).run c.P w = .ok (.value v) w' ∧ HSat c.R0 c.w0 c.B own' shr w') :
    OpT c o ⟨fr, own, shr⟩ (fun s => s = ⟨fr, own', shr⟩) := by
  intro a w hs K Q hK
  obtain ⟨v, w', hr, hh⟩ := h a w hs
  unfold Oper.wp
  rw [hr, Oper.upon_value, hd]
  exact hK _ rfl _ _ ⟨hs.1, hs.2.1, hs.2.2.1, hh⟩
omit [BEq κ] in
theorem OpT_clearM {t tk te : TypeId} {x : Operand} {b i : Nat} {xs : List (κ × ν)} (hd : o.dst = none) (ho : o.op = .call { callee := .builtin .clear, args := #[x], argTypes := #[t] }) (hx : ev fr x = some (.map (some b)))
    (ht : c.P.underlying t = some (.map tk te)) (hi : own[i]? = some (some (mapR b kk kf V xs))) :
    OpT c o ⟨fr, own, shr⟩ (fun s => s = ⟨fr, own.set i (some (mapR b kk kf V [])), shr⟩) :=
  OpT_dropRun hd fun a w hs => by
    obtain ⟨R, hs', hw⟩ := hs.2.2.2
    obtain ⟨es, ck, h1, h2⟩ := hw.ow i _ hi
    have hb := hw.hw i b _ h1
    have h0 := MapKept.heap_set (o' := Obj.map #[] ck) hb
    refine ⟨.tuple #[], { w with heap := w.heap.setIfInBounds b (.map #[] ck) }, ?_, ?_⟩
    · simp [execOp, ho, resolve, invoke, builtin, ev_eval hs.2.2.1 hx, Builtin.clear_, run_underlying ht, MapKept.run_getObj_map hb, MapKept.run_setObj_map _ hb]
    · refine ⟨R, _, hw.upd i (PH.one b (.map #[] ck)) ?_ (by simp) ?_ ?_ rfl rfl rfl (own_set ?_)⟩
      · intro b' hb1 hb2
        by_cases eq : b' = b
        · subst eq; rw [h1] at hb2; cases hb2
        · exact h0.2 b' eq
      · intro b' o' h; obtain ⟨e1, e2⟩ := PH.one_some h; subst e1; subst e2; exact h0.1
      · intro b' o' h; obtain ⟨e1, _⟩ := PH.one_some h; subst e1; left; rw [h1]; simp
      · exact ⟨#[], ck, PH.one_self _ _, rfl⟩
/-- a map behind its value -/
def mapRV {κ ν : Type} (kk : IntKind) (kf : κ → Int) (V : ν → Value) (v : Value) (xs : List (κ × ν)) : Res :=
  ⟨fun R h => ∃ b, v = .map (some b) ∧ (mapR b kk kf V xs).p R h, fun hl ⟨b, e, p⟩ => ⟨b, e, (mapR b kk kf V xs).mono hl p⟩⟩
omit [BEq κ] in
theorem Tk_openM {i : Nat} {v : Value} {xs : List (κ × ν)} (hi : own[i]? = some (some (mapRV kk kf V v xs))) (hk : ∀ b, v = .map (some b) → Tk c k ⟨fr, own.set i (some (mapR b kk kf V xs)), shr⟩) : Tk c k ⟨fr, own, shr⟩ := fun a w hs => by
  obtain ⟨⟨b, e⟩, hh⟩ := hs.2.2.2.swap1 hi (α := { b : Nat // v = .map (some b) }) (r' := fun y => mapR y.1 kk kf V xs) (fun R h hp => by
    obtain ⟨b, e, q⟩ := hp
    exact ⟨⟨b, e⟩, q⟩)
  exact hk b e a w ⟨hs.1, hs.2.1, hs.2.2.1, hh⟩
omit [BEq κ] in
theorem vs_mapV {i b : Nat} {xs : List (κ × ν)} (hi : own[i]? = some (some (mapR b kk kf V xs))) : VS c ⟨fr, own, shr⟩ ⟨fr, own.set i (some (mapRV kk kf V (.map (some b)) xs)), shr⟩ := fun a w hs => by
  obtain ⟨_, hh⟩ := hs.2.2.2.swap1 hi (α := Unit) (r' := fun _ => mapRV kk kf V (.map (some b)) xs) (fun R h hp => ⟨(), b, rfl, hp⟩)
  exact ⟨hs.1, hs.2.1, hs.2.2.1, hh⟩
end
end Go.Proofs.Ytjfdamiilndgeaa

end

section
namespace Go.Proofs.Ytjfdamiilndgeaa

theorem shr64_bv (x : UInt64) (n : Nat) : (shr64 x n).toBitVec = x.toBitVec >>> n := by
  apply BitVec.eq_of_toNat_eq
  have hx := x.toNat_lt
  simp only [shr64, UInt64.toNat_toBitVec, UInt64.toNat_ofNat', BitVec.toNat_ushiftRight, Nat.shiftRight_eq_div_pow]
  by_cases h : n ≤ 64
  · rw [Nat.min_eq_left h, Nat.mod_eq_of_lt]
    exact Nat.lt_of_le_of_lt (Nat.div_le_self _ _) hx
  · rw [Nat.min_eq_right (by omega)]
    have h1 : x.toNat / 2 ^ 64 = 0 := Nat.div_eq_of_lt hx
    have h2 : x.toNat / 2 ^ n = 0 := Nat.div_eq_of_lt (Nat.lt_of_lt_of_le hx (Nat.pow_le_pow_right (by decide) (by omega)))
    rw [h1, h2]
/-- byte i of a word -/
def byt (v : UInt64) (i : Nat) : UInt8 := (shr64 v (8 * i)).toUInt8
/-! steps; their proofs are laid so that 'simp' writes each step down -/
section
variable {α ρ : Type}
theorem obS {a : α} {k : α → Option ρ} : ob (some a) k = k a := Eq.trans rfl rfl
theorem chkT {k : Option ρ} : chk true k = k := Eq.trans rfl rfl
theorem brT {x y : Option ρ} : br true x y = x := Eq.trans rfl rfl
theorem brF {x y : Option ρ} : br false x y = y := Eq.trans rfl rfl
theorem notT : (!true) = false := Eq.trans rfl rfl
theorem notF : (!false) = true := Eq.trans rfl rfl
theorem beqI {α : Type} [BEq α] [ReflBEq α] (a : α) : (a == a) = true := BEq.rfl
theorem bneI {α : Type} [BEq α] [ReflBEq α] (a : α) : (a != a) = false := by simp [bne]
end

theorem fits_ok {m n b : Nat} (h : (m + n) * b ≤ 140737488355328) : fits m n b = true := by simpa [fits] using h
theorem drop_ix {α : Type} {l : List α} {i : Nat} (h : i < l.length) : l.drop i = l[i] :: l.drop (i + 1) := List.drop_eq_getElem_cons h
theorem wi_nat {n : Nat} (h : n ≤ 9223372036854775807) : wi (n : Int) = n := wi_in (by omega) (by omega)
theorem wi_succ {n : Nat} (h : n < 9223372036854775807) : wi ((n : Int) + 1) = ((n + 1 : Nat) : Int) := by rw [wi_in (by omega) (by omega)]; omega
end Go.Proofs.Ytjfdamiilndgeaa

end

section
namespace Go.Proofs.Ytjfdamiilndgeaa
section
variable {ρ : Type} {p : Prop} [Decidable p] {x y k : Option ρ}
theorem bP (h : p) : br (decide p) x y = x := by rw [decide_eq_true h]; rfl
theorem bN (h : ¬ p) : br (decide p) x y = y := by rw [decide_eq_false h]; rfl
theorem cP (h : p) : chk (decide p) k = k := by rw [decide_eq_true h]; rfl
theorem cN (h : ¬ p) : chk (!(decide p)) k = k := by rw [decide_eq_false h]; rfl
variable {α : Type} [BEq α] [LawfulBEq α] {a b : α}
theorem bE (h : a = b) : br (a == b) x y = x := by subst h; rw [beqI]; rfl
theorem bF (h : a ≠ b) : br (a == b) x y = y := by rw [beq_false_of_ne h]; rfl
theorem nE (h : a = b) : br (a != b) x y = y := by subst h; rw [bneI]; rfl
theorem nF (h : a ≠ b) : br (a != b) x y = x := by
  have : (a != b) = true := by simpa using h
  rw [this]; rfl
theorem cE (h : a = b) : chk (a == b) k = k := by subst h; rw [beqI]; rfl
theorem cnE (h : a = b) : chk (!(a != b)) k = k := by subst h; rw [bneI]; rfl
theorem cF (h : a ≠ b) : chk (a != b) k = k := by
  have : (a != b) = true := by simpa using h
  rw [this]; rfl
theorem bT {c : Bool} (h : c = true) : br c x y = x := by subst h; rfl
theorem bFl {c : Bool} (h : c = false) : br c x y = y := by subst h; rfl
theorem cT {c : Bool} (h : c = true) : chk c k = k := by subst h; rfl
theorem cFits {m n q : Nat} (h : (m + n) * q ≤ 140737488355328) : chk (fits m n q) k = k := by rw [fits_ok h]; rfl
end
theorem oS {α ρ : Type} {x : Option α} {a : α} {k : α → Option ρ} (h : x = some a) : ob x k = k a := by subst h; rfl
theorem ix_nat {α : Type} {l : List α} {i : Nat} {x : α} (h : l[i]? = some x) : ix l (i : Int) = some x := by simp [ix, h]
theorem sub_from {α : Type} (l : List α) (i : Int) : sub l i (len l) = l.drop i.toNat := by
  simp only [sub, len, Int.toNat_natCast]
  rw [List.take_of_length_le]; simp
theorem sub_to {α : Type} (l : List α) (i : Int) : sub l 0 i = l.take i.toNat := by simp [sub]
theorem sub_nat {α : Type} (l : List α) (i j : Nat) : sub l (i : Int) (j : Int) = (l.drop i).take (j - i) := by simp [sub]
theorem len_nat {α : Type} (l : List α) : len l = (l.length : Int) := rfl
theorem remi_nat (m n : Nat) : remi (m : Int) (n : Int) = ((m % n : Nat) : Int) := by simp only [remi]; rw [← Int.ofNat_tmod]
theorem quoi_nat (m n : Nat) (h : m ≤ 9223372036854775807) : quoi (m : Int) (n : Int) = ((m / n : Nat) : Int) := by
  simp only [quoi]; rw [← Int.ofNat_tdiv]
  have : m / n ≤ m := Nat.div_le_self _ _
  exact wi_nat (by omega)
theorem u32_of (n : Nat) : u32 (n : Int) = UInt32.ofNat n := by
  apply UInt32.toNat_inj.1
  simp only [u32, UInt32.toNat_ofNat']; omega
theorem u64_of (n : Nat) : u64 (n : Int) = UInt64.ofNat n := by
  apply UInt64.toNat_inj.1
  simp only [u64, UInt64.toNat_ofNat']; omega
theorem i64_of {x : UInt64} (h : x.toNat ≤ 9223372036854775807) : i64 x = (x.toNat : Int) := wi_nat h
theorem getq {α : Type} {l : List α} {i : Nat} (h : i < l.length) : l[i]? = some l[i] := List.getElem?_eq_getElem h
end Go.Proofs.Ytjfdamiilndgeaa

end
