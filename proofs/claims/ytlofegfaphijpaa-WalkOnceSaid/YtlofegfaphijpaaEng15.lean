/- The engine, part 15: rows in view, windows, pointers that are compared with nil, rows that grow by a row. No statement of the seat is proved here; no condition. -/
import Derived.Test.YtlofegfaphijpaaEng14
import Derived.Laws.Pointers
namespace Go.Proofs.Ytlofegfaphijpaa

/-! ## a value that may be lacking -/
def onO {α β : Type} (o : Option α) (n : Option β) (s : α → Option β) : Option β := match o with | none => n | some m => s m
theorem onO_cases {α β : Type} {o : Option α} {n : Option β} {s : α → Option β} {r : β} (h : onO o n s = some r) : (o = none ∧ n = some r) ∨ ∃ m, o = some m ∧ s m = some r := by
  cases o with
  | none => exact .inl ⟨rfl, h⟩
  | some m => exact .inr ⟨m, rfl, h⟩
theorem onS {α β : Type} {m : α} {n : Option β} {s : α → Option β} : onO (some m) n s = s m := rfl

theorem nbeq {a b : Nat} (h : a ≠ b) : Nat.beq a b = false := by
  cases e : Nat.beq a b with
  | false => rfl
  | true => exact absurd (Nat.eq_of_beq_eq_true e) h
def vsAt (vs : List Value) (j : Nat) : Value := vs.getD j undef
/-- a window: none, or (row, from, to) -/
def winV (sz : Nat) (vs : List Value) (r : Option (Int × Int × Int)) : Value := match r with | none => .slice none 0 0 | some w => subV (vsAt vs w.1.toNat) sz w.2.1.toNat w.2.2.toNat

section
variable {c : Cx} {k : List Item} {s : St} {ops : Array Oper} {rest : List Oper} {o : Oper} {fr : List (Nat × Option Value)} {own : List (Option Res)} {shr : List Fact} {d : Nat} {τ σ : Type} {S : Shape τ} {nn : Bool} {v : Value} {vs : List Value} {bs : List (List τ)} {ex : Option (Nat × Value)}

theorem vs_focus {i : Nat} {j : Int} {xs : List τ} (hi : own[i]? = some (some (rowsX S nn v vs bs none))) (hj : ix bs j = some xs) :
    VS c ⟨fr, own, shr⟩ ⟨fr, own.set i (some (rowsX S nn v vs bs (some (j.toNat, vsAt vs j.toNat)))) ++ [some (rowS S (vsAt vs j.toNat) xs)], shr⟩ := fun a w hs => by
  obtain ⟨u, h⟩ := ex_focus (c := c) (fr := fr) (shr := shr) hi hj a w hs
  have hil : i < own.length := (List.getElem?_eq_some_iff.1 hi).1
  have hu : u = vsAt vs j.toNat := by
    obtain ⟨R, hs', hw⟩ := h.2.2.2
    have hq : (own.set i (some (rowsX S nn v vs bs (some (j.toNat, u)))) ++ [some (rowS S u xs)])[i]? = some (some (rowsX S nn v vs bs (some (j.toNat, u)))) := by
      rw [List.getElem?_append_left (by simpa using hil)]; simp [hil]
    obtain ⟨h0, hh, p⟩ := hw.ow i _ hq
    have := p.hol _ rfl
    simp only at this
    unfold vsAt
    rw [List.getD_eq_getElem?_getD, this]; rfl
  subst hu; exact h
theorem set_ix {j : Int} {xs : List τ} (hj : ix bs j = some xs) : bs.set j.toNat xs = bs := by
  obtain ⟨_, _, hb⟩ := ix_some hj
  apply List.ext_getElem?
  intro q
  by_cases e : q = j.toNat
  · subst e
    rw [List.getElem?_set_self (List.getElem?_eq_some_iff.1 hb).1, hb]
  · rw [List.getElem?_set_ne (fun z => e z.symm)]
theorem vs_unfocus0 {i q : Nat} {j : Int} {u : Value} {xs : List τ} (hi : own[i]? = some (some (rowsX S nn v vs bs (some (j.toNat, u))))) (hq : own[q]? = some (some (rowS S u xs))) (hiq : Nat.beq i q = false) (hj : ix bs j = some xs) :
    VS c ⟨fr, own, shr⟩ ⟨fr, (own.set i (some (rowsX S nn v vs bs none))).set q none, shr⟩ := by
  have h := vs_unfocus (c := c) (fr := fr) (shr := shr) hi hq hiq
  rw [set_ix hj] at h; exact h

/-! a pointer and nil -/
theorem run_ptrNil {P : Program} {t : TypeId} {x y : Operand} {p : Option Addr} {op : BinOp} (hop : op = .eql ∨ op = .neq) (ht : P.underlying t = some (.pointer (P.pointee t))) : Bin P op t x y (.pointer p) (.pointer none) (.bool (nilB op p.isNone)) := fun w => by
  have hg : (eqGuard op t x y (.pointer p) (.pointer none)).run P w = .ok () w := by rcases hop with rfl | rfl <;> rfl
  rw [Sem.run_bind, hg, Result.andThen_ok]
  rcases hop with rfl | rfl
  · rw [run_eql_pointer_nil w t p ht]; rfl
  · rw [run_neq_pointer_nil w t p ht]; cases p <;> rfl
theorem OpT_ptrNil {t : TypeId} {x y : Operand} {t2 : TypeId} {op : BinOp} {p : Option Addr} (hn : Nat.blt d c.n = true) (hd : o.dst = some d) (ho : o.op = .binOp op t x y t2) (hop : op = .eql ∨ op = .neq) (hx : ev fr x = some (.pointer p)) (hy : ev fr y = some (.pointer none)) (ht : c.P.underlying t = some (.pointer (c.P.pointee t))) :
    OpT c o ⟨fr, own, shr⟩ (fun s => s = ⟨(d, some (.bool (nilB op p.isNone))) :: fr, own, shr⟩) := OpT_bin hn hd ho hx hy (run_ptrNil hop ht)

/-! rows that grow by a row -/
theorem vs_nilrows {S : Shape τ} : VS c ⟨fr, own, shr⟩ ⟨fr, own ++ [some (rowsX S false (.slice none 0 0) [] [] none)], shr⟩ := fun a w hs =>
  ⟨hs.1, hs.2.1, hs.2.2.1, hs.2.2.2.free _ fun R => ⟨PH.emp, fun _ => PH.emp, ⟨⟨[], rfl, fun i ci x h => by simp at h, .inl ⟨rfl, rfl⟩⟩, fun h => (by cases h), rfl, fun _ _ h => h, fun _ _ _ _ h => h, fun _ _ _ => .inl rfl, fun _ _ _ _ _ _ => .inl rfl, fun i v' xs _ h => (by simp at h), fun p h => (by cases h)⟩⟩⟩
/-- a row of one value -/
theorem OpT_buildV {t e : TypeId} {ps : Array (Nat × Operand)} {u : Value} {i b : Nat} {z : Value} {xs : List τ} (hn : Nat.blt d c.n = true) (hd : o.dst = some d) (ho : o.op = .buildSlice t 1 ps) (hx : evs fr ps.toList = some [(0, u)]) (ht : SlF c.P t e 1 b z) (hi : own[i]? = some (some (rowS S u xs))) :
    OpT c o ⟨fr, own, shr⟩ (fun s => ∃ w, s = ⟨(d, some w) :: fr, own ++ [some (rowS valS w [u])], shr⟩) := fun a w hs => by
  obtain ⟨base, n, cap, e⟩ := is_row (c := c) (fr := fr) (shr := shr) hi a w hs
  exact OpT_buildSl valS (vs := [u]) (xs := [u]) rfl hn hd ho hx ht (by intro v hv; simp at hv; subst hv; exact is_row hi) rfl rfl rfl (by
    intro R _ q ci x q1 q2
    cases q with
    | zero => simp at q1 q2; subst q1; subst q2; exact ⟨rfl, by subst e; rfl⟩
    | succ q => simp at q1) a w hs
def innR {τ : Type} (S : Shape τ) (vs : List Value) (bs : List (List τ)) : Res :=
  ⟨fun R h => vs.length = bs.length ∧ ∃ hs : Nat → PH, (∀ i, (hs i).le h) ∧ (∀ i j, i ≠ j → (hs i).disj (hs j)) ∧ ∀ (i : Nat) (v' : Value) (xs : List τ), vs[i]? = some v' → bs[i]? = some xs → RowRel S R (hs i) v' xs,
   fun hl ⟨h1, hs, h2, h3, h4⟩ => ⟨h1, hs, h2, h3, fun i v' xs a b => (h4 i v' xs a b).mono hl⟩⟩
/-- append(rows, row): rows of one's own and a row of one's own -/
theorem OpT_appendRows {t e : TypeId} {x y : Operand} {i j q b : Nat} {z : Value} {w0 u : Value} {xs : List τ} (hn : Nat.blt d c.n = true) (hd : o.dst = some d) (ho : o.op = .call { callee := .builtin .append, args := #[x, y], argTypes := #[t, t] })
    (hx : ev fr x = some v) (hy : ev fr y = some w0) (ht : SlF c.P t e 1 b z) (hi : own[i]? = some (some (rowsX S false v vs bs none))) (hj : own[j]? = some (some (rowS valS w0 [u]))) (hq : own[q]? = some (some (rowS S u xs))) (hij : Nat.beq i j = false) (hiq : Nat.beq i q = false) (hjq : Nat.beq j q = false) (hf : fits bs.length 1 b = true) :
    OpT c o ⟨fr, own, shr⟩ (fun s => ∃ p : Value × List Value, s = ⟨(d, some p.1) :: fr, ((own.set i (some (rowsX S false p.1 p.2 (bs ++ [xs]) none))).set j none).set q none, shr⟩) :=
  OpT_run (f := fun p : Value × List Value => ⟨(d, some p.1) :: fr, ((own.set i (some (rowsX S false p.1 p.2 (bs ++ [xs]) none))).set j none).set q none, shr⟩) hn hd fun a w hs => by
    have nij : i ≠ j := Nat.ne_of_beq_eq_false hij
    have niq : i ≠ q := Nat.ne_of_beq_eq_false hiq
    have njq : j ≠ q := Nat.ne_of_beq_eq_false hjq
    have hil : i < own.length := (List.getElem?_eq_some_iff.1 hi).1
    have hjl : j < own.length := (List.getElem?_eq_some_iff.1 hj).1
    have hql : q < own.length := (List.getElem?_eq_some_iff.1 hq).1
    -- the rows, parted
    obtain ⟨_, hsat⟩ := hs.2.2.2.split hi (α := Unit) (r1 := fun _ => rowS valS v vs) (r2 := fun _ => innR S vs bs) (F := fun _ => []) (by
      rintro R h _ ⟨h0, hh, p⟩
      refine ⟨(), h0, h.minus h0, PH.disj_comm PH.minus_disj, p.l0, PH.minus_le, p.out, ⟨p.len, hh, fun i => PH.le_minus (p.ls i (by simp)) (PH.disj_comm (p.d0 i (by simp))), fun i j hij => p.ds i j hij (by simp) (by simp), fun i v' xs a b => p.row i v' xs (by simp) a b⟩, fun G h => by cases h⟩)
    rw [List.append_nil] at hsat
    obtain ⟨R, hs', hw⟩ := hsat
    have g1 : (own.set i (some (rowS valS v vs)) ++ [some (innR S vs bs)])[i]? = some (some (rowS valS v vs)) := by
      rw [List.getElem?_append_left (by simpa using hil)]; simp [hil]
    have g2 : (own.set i (some (rowS valS v vs)) ++ [some (innR S vs bs)])[j]? = some (some (rowS valS w0 [u])) := by
      rw [List.getElem?_append_left (by simpa using hjl), List.getElem?_set_ne nij]; exact hj
    have hlen : vs.length = bs.length := by
      obtain ⟨R, hs', hw⟩ := hs.2.2.2
      obtain ⟨h0, hh, p⟩ := hw.ow i _ hi
      exact p.len
    obtain ⟨v', w', hr, hh⟩ := run_append_S (S := valS) (sz := 0) ht hw g1 (or_inW hw.rw_ (hw.hw j)) (fun cs x h => h) (RowRel.slice (hw.rd j) (hw.ow j _ g2)) (by rw [hlen]; exact Nat.le_of_ble_eq_true hf) o.type
    refine ⟨v', w', (v', vs ++ [u]), ?_, rfl, ?_⟩
    · simp only [execOp, ho, resolve, invoke, builtin, Sem.run_bind, Sem.run_pure, Result.andThen_ok, List.map_toArray, List.map_cons, List.map_nil, ev_eval hs.2.2.1 hx, ev_eval hs.2.2.1 hy, hr]
    · -- the parts joined again
      have e0 : (own.set i (some (rowS valS v vs)) ++ [some (innR S vs bs)]).set i (some (rowS valS v' (vs ++ [u]))) = own.set i (some (rowS valS v' (vs ++ [u]))) ++ [some (innR S vs bs)] := by
        rw [List.set_append_left _ _ (by simpa using hil), List.set_set]
      rw [e0] at hh
      -- the row into the rows
      have m1 := hh.merge (i := own.length) (j := q) (r := innR S (vs ++ [u]) (bs ++ [xs])) (r1 := innR S vs bs) (r2 := rowS S u xs) (nbeq (by omega)) (by rw [List.getElem?_append_right (by simp)]; simp) (by rw [List.getElem?_append_left (by simpa using hql), List.getElem?_set_ne niq]; exact hq) (by
        rintro R h1 h2 _ hd ⟨l1, g, l2, l3, l4⟩ hrow
        refine ⟨by simp [l1], fun z => if z = bs.length then h2 else g z, ?_, ?_, ?_⟩
        · intro z
          show (if z = bs.length then h2 else g z).le _
          by_cases ez : z = bs.length
          · rw [if_pos ez]; exact PH.or_right hd
          · rw [if_neg ez]; exact PH.le_trans (l2 z) PH.or_left
        · intro z z' hz
          show (if z = bs.length then h2 else g z).disj (if z' = bs.length then h2 else g z')
          by_cases ez : z = bs.length
          · rw [if_pos ez, if_neg (by omega)]; exact PH.disj_comm (PH.disj_le (l2 z') hd)
          · rw [if_neg ez]
            by_cases ez' : z' = bs.length
            · rw [if_pos ez']; exact PH.disj_le (l2 z) hd
            · rw [if_neg ez']; exact l3 z z' hz
        · intro z v2 ys a1 a2
          show RowRel S R (if z = bs.length then h2 else g z) v2 ys
          by_cases ez : z = bs.length
          · rw [if_pos ez]; subst ez
            rw [← l1] at a1
            rw [List.getElem?_concat_length] at a1
            rw [List.getElem?_concat_length] at a2
            cases a1; cases a2; exact hrow
          · rw [if_neg ez]
            have hz : z < bs.length := by
              have := (List.getElem?_eq_some_iff.1 a2).1
              simp at this; omega
            rw [List.getElem?_append_left (by omega)] at a1
            rw [List.getElem?_append_left hz] at a2
            exact l4 z v2 ys a1 a2)
      have e1 : ((own.set i (some (rowS valS v' (vs ++ [u]))) ++ [some (innR S vs bs)]).set own.length (some (innR S (vs ++ [u]) (bs ++ [xs])))).set q none = (own.set i (some (rowS valS v' (vs ++ [u])))).set q none ++ [some (innR S (vs ++ [u]) (bs ++ [xs]))] := by
        rw [List.set_append_right _ _ (by simp), List.set_append_left _ _ (by simpa using hql)]
        simp
      rw [e1] at m1
      have m2 := m1.merge (i := i) (j := own.length) (r := rowsX S false v' (vs ++ [u]) (bs ++ [xs]) none) (r1 := rowS valS v' (vs ++ [u])) (r2 := innR S (vs ++ [u]) (bs ++ [xs])) (nbeq (by omega)) (by rw [List.getElem?_append_left (by simpa using hil), List.getElem?_set_ne (fun z => niq z.symm)]; simp [hil]) (by rw [List.getElem?_append_right (by simp)]; simp) (by
        rintro R h1 h2 _ hd hout ⟨l1, g, l2, l3, l4⟩
        exact ⟨h1, g, ⟨hout, fun h => (by cases h), l1, PH.or_left, fun z _ => PH.le_trans (l2 z) (PH.or_right hd), fun z _ => PH.disj_comm (PH.disj_le (l2 z) (PH.disj_comm hd)), fun z z' hz _ _ => l3 z z' hz, fun z v2 ys _ a1 a2 => l4 z v2 ys a1 a2, fun p h => (by cases h)⟩⟩)
      obtain ⟨R2, hs2, hw2⟩ := m2
      refine ⟨R2, hs2, hw2.r0, hw2.rw_, hw2.sh, ?_, hw2.hw, hw2.dj, hw2.rd, hw2.new, hw2.rnew, hw2.size, hw2.keep, hw2.os, hw2.tape, hw2.output⟩
      intro z r hz
      refine hw2.ow z r ?_
      by_cases ezj : z = j
      · subst ezj
        exfalso
        change (((own.set i _).set z none).set q none)[z]? = _ at hz
        rw [List.getElem?_set_ne (fun e => njq e.symm)] at hz
        simp [hjl] at hz
      · have hzl : z < own.length := by
          have := (List.getElem?_eq_some_iff.1 hz).1
          simpa using this
        change (((own.set i _).set j none).set q none)[z]? = _ at hz
        rw [List.set_append_left _ _ (by simpa using hil), List.set_append_right _ _ (by simp), List.getElem?_append_left (by simpa using hzl)]
        by_cases ezq : z = q
        · subst ezq; simp [hql] at hz
        · rw [List.getElem?_set_ne (fun e => ezq e.symm), List.getElem?_set_ne (fun e => ezj e.symm)] at hz
          by_cases ezi : z = i
          · subst ezi
            rw [List.getElem?_set_self (by simpa using hil)]
            rw [List.getElem?_set_self hil] at hz; exact hz
          · rw [List.getElem?_set_ne (fun e => ezi e.symm)] at hz
            rw [List.getElem?_set_ne (fun e => ezi e.symm), List.getElem?_set_ne (fun e => ezq e.symm), List.getElem?_set_ne (fun e => ezi e.symm)]
            exact hz
end
end Go.Proofs.Ytlofegfaphijpaa
