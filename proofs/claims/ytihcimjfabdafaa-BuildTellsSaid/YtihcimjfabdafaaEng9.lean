/- The engine, part 9: rows of one's own, read and written in place. No statement of the seat is proved here; no condition. -/
import Derived.Test.YtihcimjfabdafaaEng8
import Derived.ChangeKeysEq
namespace Go.Proofs.Ytihcimjfabdafaa

/-! cheap weakening -/
/-- the slots ts of a list -/
def sel (fr : List (Nat × Option Value)) : List Nat → List (Nat × Option Value)
  | [] => []
  | t :: ts => (t, lk fr t) :: sel fr ts
theorem sel_sub (fr : List (Nat × Option Value)) : ∀ ts, FrSub fr (sel fr ts)
  | [] => trivial
  | _ :: ts => ⟨fun _ h => h, sel_sub fr ts⟩
/-- the first place of a slot -/
def fidx (d : Nat) : List (Nat × Option Value) → Option Nat
  | [] => none
  | (t, _) :: r => bif Nat.beq d t then some 0 else (fidx d r).map (· + 1)
/-- the place i of a list, laid anew -/
def setF : List (Nat × Option Value) → Nat → Nat × Option Value → List (Nat × Option Value)
  | [], _, _ => []
  | _ :: r, 0, x => x :: r
  | y :: r, i + 1, x => y :: setF r i x
theorem lk_setF {d : Nat} {v : Option Value} : ∀ {fr : List (Nat × Option Value)} {i : Nat}, fidx d fr = some i → ∀ t u, lk (setF fr i (d, v)) t = some u → lk ((d, v) :: fr) t = some u
  | [], i, h, t, u, _ => by simp [fidx] at h
  | (t', o) :: r, i, h, t, u, hl => by
    simp only [fidx] at h
    cases e : Nat.beq d t' with
    | true =>
      rw [e] at h; simp at h; subst h
      have e' := Nat.eq_of_beq_eq_true e
      subst e'
      simp only [setF, lk] at hl ⊢
      by_cases et : t = d
      · subst et; simpa using hl
      · rw [nbeq_ne et] at hl ⊢; exact hl
    | false =>
      rw [e] at h
      cases hq : fidx d r with
      | none => rw [hq] at h; simp at h
      | some j =>
        rw [hq] at h; simp at h; subst h
        have hne : d ≠ t' := fun q => by subst q; simp [Nat.beq_refl] at e
        simp only [setF, lk] at hl ⊢
        by_cases et : t = t'
        · subst et
          simp only [Nat.beq_refl, cond_true] at hl ⊢
          rw [nbeq_ne (fun q => hne q.symm)]; exact hl
        · rw [nbeq_ne et] at hl ⊢
          have := lk_setF hq t u hl
          simp only [lk] at this
          simpa only [cond_false] using this
section
variable {c : Cx} {k : List Item} {s : St} {ops : Array Oper} {rest : List Oper} {a : Act} {w : World}
theorem Sat.wkS {s : St} (h : Sat c s a w) (ts is js : List Nat) {fr' : List (Nat × Option Value)} {own' : List (Option Res)} {shr' : List Fact} (hn : nodupB is = true) (hf : sel s.fr ts = fr') (ho : pick s.own is = own') (hs : pickT s.shr js = shr') : Sat c ⟨fr', own', shr'⟩ a w :=
  h.wk is js hn (hf ▸ sel_sub s.fr ts) ho hs
theorem Tk_wkS (ts is js : List Nat) {fr' : List (Nat × Option Value)} {own' : List (Option Res)} {shr' : List Fact} (hn : nodupB is = true) (hf : sel s.fr ts = fr') (ho : pick s.own is = own') (hs : pickT s.shr js = shr') (h : Tk c k ⟨fr', own', shr'⟩) : Tk c k s :=
  fun a w hh => h a w (hh.wkS ts is js hn hf ho hs)
theorem Tk_jmpS {fr' : List (Nat × Option Value)} {own' : List (Option Res)} {shr' : List Fact} (h : Tk c k ⟨fr', own', shr'⟩) (ts is js : List Nat) (hn : nodupB is = true) (hf : sel s.fr ts = fr') (ho : pick s.own is = own') (hs : pickT s.shr js = shr') : Tk c k s := Tk_wkS ts is js hn hf ho hs h
theorem Tk_backS {σ : Type} {st : σ → St} {f : σ → Prop} (y : σ) (hf : f y) {fr' : List (Nat × Option Value)} (ts is js : List Nat) {own' : List (Option Res)} {shr' : List Fact} (hst : st y = ⟨fr', own', shr'⟩)
    (hn : nodupB is = true) (hfr : sel s.fr ts = fr') (ho : pick s.own is = own') (hs : pickT s.shr js = shr') : Tk c (.back (fun a w => ∃ y, f y ∧ Sat c (st y) a w) :: k) s :=
  Tk_backw y hf is js hst hn (hfr ▸ sel_sub s.fr ts) ho hs
theorem Tk_loopS {σ : Type} {body : Code} (ts is js : List Nat) (st : σ → St) (f : Nat → σ → Prop) (n : Nat) (x : σ) (hx : f n x) {fr' : List (Nat × Option Value)} {own' : List (Option Res)} {shr' : List Fact} (hst : st x = ⟨fr', own', shr'⟩)
    (hn : nodupB is = true) (hfr : sel s.fr ts = fr') (ho : pick s.own is = own') (hs : pickT s.shr js = shr') (h0 : ∀ x, ¬ f 0 x)
    (h : ∀ n x, f (n + 1) x → Tk c (.code body :: .back (fun a w => ∃ y, f n y ∧ Sat c (st y) a w) :: k) (st x)) : Tk c (.code (.loop body) :: k) s := by
  have h1 := Tk_loop (c := c) (k := k) st f h0 h n x hx
  rw [hst] at h1
  exact Tk_wkS ts is js hn hfr ho hs h1
/-- a slot is filled: the list is laid anew at its place -/
theorem Sat.putF {d i : Nat} {v : Value} {fr fr' : List (Nat × Option Value)} {own own' : List (Option Res)} {shr shr' : List Fact} (h : Sat c ⟨(d, some v) :: fr, own, shr⟩ a w) (hi : fidx d fr = some i) (is js : List Nat) (hf : setF fr i (d, some v) = fr') (hn : nodupB is = true) (ho : pick own is = own') (hs : pickT shr js = shr') : Sat c ⟨fr', own', shr'⟩ a w := by
  obtain ⟨h1, h2, h3, R, hs', hw⟩ := h
  refine ⟨h1, h2, ?_, ?_⟩
  · subst hf
    intro t u hl
    exact h3 t u (lk_setF hi t u hl)
  · subst ho; subst hs
    exact ⟨_, _, (hw.pick is hn (fun F hF => hF)).facts (pickT_p hw.sh)⟩
def noneF : List Nat → List (Nat × Option Value)
  | [] => []
  | t :: ts => (t, none) :: noneF ts
theorem lk_noneF : ∀ (ts : List Nat) (t : Nat), lk (noneF ts) t = none
  | [], _ => rfl
  | x :: ts, t => by
    simp only [noneF, lk]
    cases Nat.beq t x with
    | true => rfl
    | false => exact lk_noneF ts t
def appF : List (Nat × Option Value) → List (Nat × Option Value) → List (Nat × Option Value)
  | [], l => l
  | x :: r, l => x :: appF r l
theorem lk_appF (ts : List Nat) : ∀ (fr : List (Nat × Option Value)) (t : Nat) (u : Value), lk (appF fr (noneF ts)) t = some u → lk fr t = some u
  | [], t, u, h => by rw [appF, lk_noneF] at h; cases h
  | (d, v) :: fr, t, u, h => by
    simp only [appF, lk] at h ⊢
    cases e : Nat.beq t d with
    | true => rw [e] at h; exact h
    | false => rw [e] at h; exact lk_appF ts fr t u h
/-- a region that draws: its first state -/
theorem Sat.startF {fr fr' : List (Nat × Option Value)} {own own' : List (Option Res)} {shr shr' : List Fact} (h : Sat c ⟨fr, own, shr⟩ a w) (ts is js : List Nat) (hf : appF fr (noneF ts) = fr') (hn : nodupB is = true) (ho : pick own is = own') (hs : pickT shr js = shr') : Sat c ⟨fr', own', shr'⟩ a w := by
  obtain ⟨h1, h2, h3, R, hs', hw⟩ := h
  refine ⟨h1, h2, ?_, ?_⟩
  · subst hf
    intro t u hl
    exact h3 t u (lk_appF ts fr t u hl)
  · subst ho; subst hs
    exact ⟨_, _, (hw.pick is hn (fun F hF => hF)).facts (pickT_p hw.sh)⟩
end

theorem rel_plainD {τ : Type} {S : Shape τ} {cells : τ → List Value} {sz : Nat} {ag : Bool} {hl : ∀ x, (cells x).length = sz} {hone : ∀ x, (cells x).all (·.oneCell') = true} (hS : S = Shape.plain sz ag cells hl hone) {xs : List τ} {css : List (List Value)} (hc : xs.map cells = css) {shr : List Fact} :
    ∀ R, (∀ F ∈ shr, F.p R) → ∀ (i : Nat) (ci : List Value) (x : τ), css[i]? = some ci → xs[i]? = some x → S.rel R ci x := by
  subst hS; subst hc; exact rel_plain

/-! equality of aggregates -/
section
variable {P : Program} {w : World} {d : Nat} {xs ys : Array Value} {r : Bool} {a b : Value}
theorem eqf_cons {f : Field} {fs : List Field} (hn : f.name ≠ "_") (h1 : (part f.type xs f.offset).run P w = .ok a w) (h2 : (part f.type ys f.offset).run P w = .ok b w) (h3 : (Op.equalIn d f.type a b).run P w = .ok r w) :
    (Op.eqFields d xs ys (f :: fs)).run P w = bif r then (Op.eqFields d xs ys fs).run P w else .ok false w := by
  cases r <;> simp [Op.eqFields, hn, h1, h2, h3]
theorem part_one {t : TypeId} {off : Nat} (ha : ∀ w, (isAgg t).run P w = .ok false w) (h : xs[off]? = some a) : (part t xs off).run P w = .ok a w := by
  simp [part, ha, h]
theorem part_agg {t : TypeId} {off n : Nat} (ha : ∀ w, (isAgg t).run P w = .ok true w) (hs : ∀ w, (sizeOf t).run P w = .ok n w) : (part t xs off).run P w = .ok (.agg (xs.extract off (off + n))) w := by
  simp [part, ha, hs]
theorem eq_step {α : Type} {x y z : α} (hf : r = false → y = z) (ht : r = true → x = z) : (bif r then x else y) = z := by
  cases r
  · exact hf rfl
  · exact ht rfl
theorem eq_ff {τ : Type} [DecidableEq τ] {x y : τ} (h : x = y → False) : (x == y) = false := by simpa using h
theorem eq_tt {τ : Type} [DecidableEq τ] {x y : τ} (h : x = y) : (x == y) = true := by simpa using h
theorem eq_u16 (a b : UInt16) : ((a.toNat : Int) == (b.toNat : Int)) = (a == b) := by rw [Bool.eq_iff_iff]; simp [← UInt16.toNat_inj]; omega
theorem eq_u32 (a b : UInt32) : ((a.toNat : Int) == (b.toNat : Int)) = (a == b) := by rw [Bool.eq_iff_iff]; simp [← UInt32.toNat_inj]; omega
theorem eq_u64 (a b : UInt64) : ((a.toNat : Int) == (b.toNat : Int)) = (a == b) := by rw [Bool.eq_iff_iff]; simp [← UInt64.toNat_inj]; omega
end

section
variable {c : Cx} {k : List Item} {s : St} {o : Oper} {fr : List (Nat × Option Value)} {own : List (Option Res)} {shr : List Fact} {d : Nat} {τ : Type}
theorem OpT_makeD (S : Shape τ) {cells : τ → List Value} {sz : Nat} {ag : Bool} {hl : ∀ x, (cells x).length = sz} {hone : ∀ x, (cells x).all (·.oneCell') = true} (hS : S = Shape.plain sz ag cells hl hone) {t e : TypeId} {x y : Operand} {l m : Int} {b : Nat} {z : Value} {u : τ} (hn : Nat.blt d c.n = true) (hd : o.dst = some d) (ho : o.op = .makeSlice t x y) (hx : ev fr x = some (vI l)) (hy : ev fr y = some (vI m))
    (ht : SlF c.P t e sz b z) (hz : z.cells.toList = cells u) (hok : decide (0 ≤ l ∧ l ≤ m ∧ (b : Int) * m ≤ 140737488355328) = true) :
    OpT c o ⟨fr, own, shr⟩ (fun s => ∃ v, s = ⟨(d, some v) :: fr, own ++ [some (rowS S v (List.replicate l.toNat u))], shr⟩) := by
  subst hS; exact OpT_make hn hd ho hx hy ht hz hok
end

/-- where a place of a row lies -/
def rowPtr (v : Value) (n : Nat) : Value := match v with | .slice (some a) _ _ => .pointer (some (a.add n)) | _ => undef

section
variable {c : Cx} {k : List Item} {s : St} {o : Oper} {fr : List (Nat × Option Value)} {own : List (Option Res)} {shr : List Fact} {d : Nat} {τ : Type}

theorem OpT_idxO {S : Shape τ} {t e : TypeId} {x y : Operand} {vx : Value} {i : Nat} {kk : IntKind} {m : Int} {xs : List τ} {u : τ} {b : Nat} {z : Value} (hn : Nat.blt d c.n = true) (hd : o.dst = some d) (ho : o.op = .indexAddr t x y) (hx : ev fr x = some vx) (hy : ev fr y = some (.int kk m))
    (ht : SlF c.P t e S.sz b z) (hi : own[i]? = some (some (rowS S vx xs))) (hu : ix xs m = some u) : OpT c o ⟨fr, own, shr⟩ (fun s => s = ⟨(d, some (rowPtr vx (Int.toNat m * S.sz))) :: fr, own, shr⟩) :=
  OpT_val hn hd fun a w hs => by
    obtain ⟨h0, h1, h2⟩ := ix_some hu
    obtain ⟨R, hs', hw⟩ := hs.2.2.2
    obtain ⟨css, _, _, h3⟩ := hw.ow i _ hi
    rcases h3 with ⟨_, hx0⟩ | ⟨g, cap, cur, tg, hv, _⟩
    · subst hx0; simp at h2
    · subst hv
      have hun := run_underlying ht.und w
      simp [execOp, ho, ev_eval hs.2.2.1 hx, ev_eval hs.2.2.1 hy, Instr.indexAt, asIntOf, hun, ht.sz, h0, h1, rowPtr]

/-- the block behind a row of plain data -/
theorem row_block {R h : PH} {S : Shape τ} {cells : τ → List Value} {sz : Nat} {ag : Bool} {hl : ∀ x, (cells x).length = sz} {hone : ∀ x, (cells x).all (·.oneCell') = true} (hS : S = Shape.plain sz ag cells hl hone) {v : Value} {xs : List τ} (hr : RowRel S R h v xs) (hne : xs ≠ []) :
    ∃ (g cap : Nat) (cur : Array Value) (tg : TypeId), v = .slice (some ⟨g, 0, none⟩) xs.length cap ∧ h g = some (.cells cur tg (0, 0)) ∧ xs.length ≤ cap ∧ cap ≤ maxLen ∧ cur.size = cap * sz ∧ cur.toList.take (xs.length * sz) = (xs.map cells).flatten := by
  subst hS
  obtain ⟨css, h1, h2, h3⟩ := hr
  have e := flat_map1 (R := R) (hl := hl) (hone := hone) (ag := ag) h1 h2
  subst e
  rcases h3 with ⟨_, hx⟩ | ⟨g, cap, cur, tg, a1, a2, a3, a4, a5, a6⟩
  · exact absurd hx hne
  · exact ⟨g, cap, cur, tg, a1, a2, a3, a4, a5, a6⟩
theorem row_cell {cells : τ → List Value} {sz : Nat} (hl : ∀ x, (cells x).length = sz) {xs : List τ} {cur : Array Value} (h : cur.toList.take (xs.length * sz) = (xs.map cells).flatten) {j : Nat} {u : τ} (hj : xs[j]? = some u) {q : Nat} (hq : q < sz) : cur[j * sz + q]? = (cells u)[q]? := by
  have h1 := flat_get (css := xs.map cells) (sz := sz) (fun ci hc => by obtain ⟨x, _, rfl⟩ := List.mem_map.1 hc; exact hl x) j q (cells u) (by simp [hj]) hq
  rw [← h, List.getElem?_take] at h1
  have hlt : j < xs.length := (List.getElem?_eq_some_iff.1 hj).1
  have : j * sz + q < xs.length * sz := by
    have : (j + 1) * sz ≤ xs.length * sz := Nat.mul_le_mul_right sz hlt
    rw [Nat.add_mul] at this; omega
  rw [if_pos this] at h1
  simpa using h1
theorem OpT_loadO {S : Shape τ} {cells : τ → List Value} {sz : Nat} {ag : Bool} {hl : ∀ x, (cells x).length = sz} {hone : ∀ x, (cells x).all (·.oneCell') = true} (hS : S = Shape.plain sz ag cells hl hone) {t : TypeId} {x : Operand} {i n : Nat} {m : Int} {vx v : Value} {xs : List τ} {u : τ} (hn : Nat.blt d c.n = true) (hd : o.dst = some d) (ho : o.op = .load t x) (hx : ev fr x = some (rowPtr vx (Int.toNat m * 1)))
    (ht : TyF c.P t false n) (hi : own[i]? = some (some (rowS S vx xs))) (hu : ix xs m = some u) (hv : cells u = [v]) (hsz : sz = 1) : OpT c o ⟨fr, own, shr⟩ (fun s => s = ⟨(d, some v) :: fr, own, shr⟩) :=
  OpT_val hn hd fun a w hs => by
    subst hsz
    obtain ⟨h0, h1, h2⟩ := ix_some hu
    obtain ⟨R, hs', hw⟩ := hs.2.2.2
    have hne : xs ≠ [] := by intro e; subst e; simp at h2
    obtain ⟨g, cap, cur, tg, a1, a2, a3, a4, a5, a6⟩ := row_block hS (hw.ow i _ hi) hne
    subst a1
    have hb := hw.hw i g _ a2
    have hc := row_cell hl a6 h2 (q := 0) (by decide)
    rw [hv] at hc
    have hcell : w.cell? ⟨g, m.toNat * 1, none⟩ = some v := by
      rw [cell_of_row w g _ cur tg (0, 0) hb]; simpa using hc
    have e := ev_eval hs.2.2.1 hx
    simp only [rowPtr, Addr.add_lit, Nat.zero_add] at e
    have hcell' : w.cell? ⟨g, m.toNat, none⟩ = some v := by simpa using hcell
    simp [execOp, ho, e, Instr.loadAt, Instr.sureAddr, loadVar, ht.ag, hcell']
theorem OpT_loadOA {S : Shape τ} {cells : τ → List Value} {sz : Nat} {ag : Bool} {hl : ∀ x, (cells x).length = sz} {hone : ∀ x, (cells x).all (·.oneCell') = true} (hS : S = Shape.plain sz ag cells hl hone) {t : TypeId} {x : Operand} {i : Nat} {m : Int} {vx : Value} {vs : List Value} {xs : List τ} {u : τ} (hn : Nat.blt d c.n = true) (hd : o.dst = some d) (ho : o.op = .load t x) (hx : ev fr x = some (rowPtr vx (Int.toNat m * sz)))
    (ht : TyF c.P t true sz) (hi : own[i]? = some (some (rowS S vx xs))) (hu : ix xs m = some u) (hv : cells u = vs) : OpT c o ⟨fr, own, shr⟩ (fun s => s = ⟨(d, some (.agg vs.toArray)) :: fr, own, shr⟩) :=
  OpT_val hn hd fun a w hs => by
    obtain ⟨h0, h1, h2⟩ := ix_some hu
    obtain ⟨R, hs', hw⟩ := hs.2.2.2
    have hne : xs ≠ [] := by intro e; subst e; simp at h2
    obtain ⟨g, cap, cur, tg, a1, a2, a3, a4, a5, a6⟩ := row_block hS (hw.ow i _ hi) hne
    subst a1
    have hb := hw.hw i g _ a2
    have hlen : vs.length = sz := by rw [← hv]; exact hl u
    have h3 : (loadCells ⟨g, m.toNat * sz, none⟩ sz).run c.P w = .ok vs.toArray w := by
      rw [← hlen]
      refine run_loadCells_list w _ vs ?_
      intro q z hq
      have hlt : q < sz := by rw [← hlen]; exact (List.getElem?_eq_some_iff.1 hq).1
      rw [hlen, Addr.add_lit, cell_of_row w g _ cur tg (0, 0) hb, row_cell hl a6 h2 hlt, hv]; exact hq
    have e := ev_eval hs.2.2.1 hx
    simp only [rowPtr, Addr.add_lit, Nat.zero_add] at e
    simp [execOp, ho, e, Instr.loadAt, Instr.sureAddr, loadVar, ht.ag, ht.sz, h3]

end
end Go.Proofs.Ytihcimjfabdafaa
