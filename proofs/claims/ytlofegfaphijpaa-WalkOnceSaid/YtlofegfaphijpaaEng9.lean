/- The engine, part 9: rows of one's own, read and written in place. No statement of the seat is proved here; no condition. -/
import Derived.Test.YtlofegfaphijpaaEng8
import Derived.ChangeKeysEq
namespace Go.Proofs.Ytlofegfaphijpaa

/-! cheap weakening -/
/-- the slots ts of a list -/
def sel (fr : List (Nat × Option Value)) : List Nat → List (Nat × Option Value)
  | [] => []
  | t :: ts => (t, lk fr t) :: sel fr ts
theorem sel_sub (fr : List (Nat × Option Value)) : ∀ ts, FrSub fr (sel fr ts)
  | [] => trivial
  | _ :: ts => ⟨fun _ h => h, sel_sub fr ts⟩
/-- the first place of a slot -/
def fidx (d : Nat) : List (Nat × Option Value) → Option Nat
  | [] => none
  | (t, _) :: r => bif Nat.beq d t then some 0 else (fidx d r).map (· + 1)
/-- the place i of a list, laid anew -/
def setF : List (Nat × Option Value) → Nat → Nat × Option Value → List (Nat × Option Value)
  | [], _, _ => []
  | _ :: r, 0, x => x :: r
  | y :: r, i + 1, x => y :: setF r i x
theorem lk_setF {d : Nat} {v : Option Value} : ∀ {fr : List (Nat × Option Value)} {i : Nat}, fidx d fr = some i → ∀ t u, lk (setF fr i (d, v)) t = some u → lk ((d, v) :: fr) t = some u
  | [], i, h, t, u, _ => by simp [fidx] at h
  | (t', o) :: r, i, h, t, u, hl => by
    simp only [fidx] at h
    cases e : Nat.beq d t' with
    | true =>
      rw [e] at h; simp at h; subst h
      have e' := Nat.eq_of_beq_eq_true e
      subst e'
      simp only [setF, lk] at hl ⊢
      by_cases et : t = d
      · subst et; simpa using hl
      · rw [nbeq_ne et] at hl ⊢; exact hl
    | false =>
      rw [e] at h
      cases hq : fidx d r with
      | none => rw [hq] at h; simp at h
      | some j =>
        rw [hq] at h; simp at h; subst h
        have hne : d ≠ t' := fun q => by subst q; simp [Nat.beq_refl] at e
        simp only [setF, lk] at hl ⊢
        by_cases et : t = t'
        · subst et
          simp only [Nat.beq_refl, cond_true] at hl ⊢
          rw [nbeq_ne (fun q => hne q.symm)]; exact hl
        · rw [nbeq_ne et] at hl ⊢
          have := lk_setF hq t u hl
          simp only [lk] at this
          simpa only [cond_false] using this
section
variable {c : Cx} {k : List Item} {s : St} {ops : Array Oper} {rest : List Oper} {a : Act} {w : World}
theorem Sat.wkS {s : St} (h : Sat c s a w) (ts is js : List Nat) {fr' : List (Nat × Option Value)} {own' : List (Option Res)} {shr' : List Fact} (hn : nodupB is = true) (hf : sel s.fr ts = fr') (ho : pick s.own is = own') (hs : pickT s.shr js = shr') : Sat c ⟨fr', own', shr'⟩ a w :=
  h.wk is js hn (hf ▸ sel_sub s.fr ts) ho hs
theorem Tk_wkS (ts is js : List Nat) {fr' : List (Nat × Option Value)} {own' : List (Option Res)} {shr' : List Fact} (hn : nodupB is = true) (hf : sel s.fr ts = fr') (ho : pick s.own is = own') (hs : pickT s.shr js = shr') (h : Tk c k ⟨fr', own', shr'⟩) : Tk c k s :=
  fun a w hh => h a w (hh.wkS ts is js hn hf ho hs)
theorem Tk_jmpS {fr' : List (Nat × Option Value)} {own' : List (Option Res)} {shr' : List Fact} (h : Tk c k ⟨fr', own', shr'⟩) (ts is js : List Nat) (hn : nodupB is = true) (hf : sel s.fr ts = fr') (ho : pick s.own is = own') (hs : pickT s.shr js = shr') : Tk c k s := Tk_wkS ts is js hn hf ho hs h
theorem Tk_backS {σ : Type} {st : σ → St} {f : σ → Prop} (y : σ) (hf : f y) {fr' : List (Nat × Option Value)} (ts is js : List Nat) {own' : List (Option Res)} {shr' : List Fact} (hst : st y = ⟨fr', own', shr'⟩)
    (hn : nodupB is = true) (hfr : sel s.fr ts = fr') (ho : pick s.own is = own') (hs : pickT s.shr js = shr') : Tk c (.back (fun a w => ∃ y, f y ∧ Sat c (st y) a w) :: k) s :=
  Tk_backw y hf is js hst hn (hfr ▸ sel_sub s.fr ts) ho hs
theorem Tk_loopS {σ : Type} {body : Code} (ts is js : List Nat) (st : σ → St) (f : Nat → σ → Prop) (n : Nat) (x : σ) (hx : f n x) {fr' : List (Nat × Option Value)} {own' : List (Option Res)} {shr' : List Fact} (hst : st x = ⟨fr', own', shr'⟩)
    (hn : nodupB is = true) (hfr : sel s.fr ts = fr') (ho : pick s.own is = own') (hs : pickT s.shr js = shr') (h0 : ∀ x, ¬ f 0 x)
    (h : ∀ n x, f (n + 1) x → Tk c (.code body :: .back (fun a w => ∃ y, f n y ∧ Sat c (st y) a w) :: k) (st x)) : Tk c (.code (.loop body) :: k) s := by
  have h1 := Tk_loop (c := c) (k := k) st f h0 h n x hx
  rw [hst] at h1
  exact Tk_wkS ts is js hn hfr ho hs h1
/-- a slot is filled: the list is laid anew at its place -/
theorem Sat.putF {d i : Nat} {v : Value} {fr fr' : List (Nat × Option Value)} {own own' : List (Option Res)} {shr shr' : List Fact} (h : Sat c ⟨(d, some v) :: fr, own, shr⟩ a w) (hi : fidx d fr = some i) (is js : List Nat) (hf : setF fr i (d, some v) = fr') (hn : nodupB is = true) (ho : pick own is = own') (hs : pickT shr js = shr') : Sat c ⟨fr', own', shr'⟩ a w := by
  obtain ⟨h1, h2, h3, R, hs', hw⟩ := h
  refine ⟨h1, h2, ?_, ?_⟩
  · subst hf
    intro t u hl
    exact h3 t u (lk_setF hi t u hl)
  · subst ho; subst hs
    exact ⟨_, _, (hw.pick is hn (fun F hF => hF)).facts (pickT_p hw.sh)⟩
theorem Sat.sameF {fr fr' : List (Nat × Option Value)} {own own' : List (Option Res)} {shr shr' : List Fact} (h : Sat c ⟨fr, own, shr⟩ a w) (is js : List Nat) (hf : fr = fr') (hn : nodupB is = true) (ho : pick own is = own') (hs : pickT shr js = shr') : Sat c ⟨fr', own', shr'⟩ a w := by
  subst hf
  obtain ⟨h1, h2, h3, R, hs', hw⟩ := h
  subst ho; subst hs
  exact ⟨h1, h2, h3, _, _, (hw.pick is hn (fun F hF => hF)).facts (pickT_p hw.sh)⟩
def noneF : List Nat → List (Nat × Option Value)
  | [] => []
  | t :: ts => (t, none) :: noneF ts
theorem lk_noneF : ∀ (ts : List Nat) (t : Nat), lk (noneF ts) t = none
  | [], _ => rfl
  | x :: ts, t => by
    simp only [noneF, lk]
    cases Nat.beq t x with
    | true => rfl
    | false => exact lk_noneF ts t
def appF : List (Nat × Option Value) → List (Nat × Option Value) → List (Nat × Option Value)
  | [], l => l
  | x :: r, l => x :: appF r l
theorem lk_appF (ts : List Nat) : ∀ (fr : List (Nat × Option Value)) (t : Nat) (u : Value), lk (appF fr (noneF ts)) t = some u → lk fr t = some u
  | [], t, u, h => by rw [appF, lk_noneF] at h; cases h
  | (d, v) :: fr, t, u, h => by
    simp only [appF, lk] at h ⊢
    cases e : Nat.beq t d with
    | true => rw [e] at h; exact h
    | false => rw [e] at h; exact lk_appF ts fr t u h
/-- a region that draws: its first state -/
theorem Sat.startF {fr fr' : List (Nat × Option Value)} {own own' : List (Option Res)} {shr shr' : List Fact} (h : Sat c ⟨fr, own, shr⟩ a w) (ts is js : List Nat) (hf : appF fr (noneF ts) = fr') (hn : nodupB is = true) (ho : pick own is = own') (hs : pickT shr js = shr') : Sat c ⟨fr', own', shr'⟩ a w := by
  obtain ⟨h1, h2, h3, R, hs', hw⟩ := h
  refine ⟨h1, h2, ?_, ?_⟩
  · subst hf
    intro t u hl
    exact h3 t u (lk_appF ts fr t u hl)
  · subst ho; subst hs
    exact ⟨_, _, (hw.pick is hn (fun F hF => hF)).facts (pickT_p hw.sh)⟩
end

theorem rel_plainD {τ : Type} {S : Shape τ} {cells : τ → List Value} {sz : Nat} {ag : Bool} {hl : ∀ x, (cells x).length = sz} {hone : ∀ x, (cells x).all (·.oneCell') = true} (hS : S = Shape.plain sz ag cells hl hone) {xs : List τ} {css : List (List Value)} (hc : xs.map cells = css) {shr : List Fact} :
    ∀ R, (∀ F ∈ shr, F.p R) → ∀ (i : Nat) (ci : List Value) (x : τ), css[i]? = some ci → xs[i]? = some x → S.rel R ci x := by
  subst hS; subst hc; exact rel_plain

/-! equality of aggregates -/
section
variable {P : Program} {w : World} {d : Nat} {xs ys : Array Value} {r : Bool} {a b : Value}
theorem eqf_cons {f : Field} {fs : List Field} (hn : f.name ≠ "_") (h1 : (part f.type xs f.offset).run P w = .ok a w) (h2 : (part f.type ys f.offset).run P w = .ok b w) (h3 : (Op.equalIn d f.type a b).run P w = .ok r w) :
    (Op.eqFields d xs ys (f :: fs)).run P w = bif r then (Op.eqFields d xs ys fs).run P w else .ok false w := by
  cases r <;> simp [Op.eqFields, hn, h1, h2, h3]
theorem part_one {t : TypeId} {off : Nat} (ha : ∀ w, (isAgg t).run P w = .ok false w) (h : xs[off]? = some a) : (part t xs off).run P w = .ok a w := by
  simp [part, ha, h]
theorem eq_step {α : Type} {x y z : α} (hf : r = false → y = z) (ht : r = true → x = z) : (bif r then x else y) = z := by
  cases r
  · exact hf rfl
  · exact ht rfl
theorem eq_ff {τ : Type} [DecidableEq τ] {x y : τ} (h : x = y → False) : (x == y) = false := by simpa using h
theorem eq_tt {τ : Type} [DecidableEq τ] {x y : τ} (h : x = y) : (x == y) = true := by simpa using h
theorem eq_u32 (a b : UInt32) : ((a.toNat : Int) == (b.toNat : Int)) = (a == b) := by rw [Bool.eq_iff_iff]; simp [← UInt32.toNat_inj]; omega
theorem eq_u64 (a b : UInt64) : ((a.toNat : Int) == (b.toNat : Int)) = (a == b) := by rw [Bool.eq_iff_iff]; simp [← UInt64.toNat_inj]; omega
end

section
variable {c : Cx} {k : List Item} {s : St} {o : Oper} {fr : List (Nat × Option Value)} {own : List (Option Res)} {shr : List Fact} {d : Nat} {τ : Type}
theorem OpT_loadArrD (S : Shape τ) {cells : τ → List Value} {sz : Nat} {ag : Bool} {hl : ∀ x, (cells x).length = sz} {hone : ∀ x, (cells x).all (·.oneCell') = true} (hS : S = Shape.plain sz ag cells hl hone) {f : τ → Value} (hf : ∀ x, cells x = [f x]) {t : TypeId} {x : Operand} {p : Value} {i n m : Nat} {xs : List τ} (hn : Nat.blt d c.n = true) (hd : o.dst = some d) (ho : o.op = .load t x) (hx : ev fr x = some p)
    (ht : TyF c.P t true m) (hi : shr[i]? = some (Fact.arr S p n xs)) (hm : m = n * sz) : OpT c o ⟨fr, own, shr⟩ (fun s => s = ⟨(d, some (.agg (xs.map f).toArray)) :: fr, own, shr⟩) := by
  subst hS
  have h := OpT_loadArr hn hd ho hx ht hi hm (c := c) (own := own)
  have e : (xs.map cells).flatten = xs.map f := by
    have : cells = fun x => [f x] := funext hf
    rw [this]; exact flat_one xs
  rw [e] at h; exact h
theorem OpT_storeLAA {t : TypeId} {x y : Operand} {b i n : Nat} {tb : TypeId} {f : τ → Value} {cs : List Value} {xs : List τ} (hd : o.dst = none) (ho : o.op = .store t x y) (hx : ev fr x = some (.pointer (some ⟨b, 0, none⟩))) (hy : ev fr y = some (.agg (xs.map f).toArray))
    (ht : TyF c.P t true n) (hi : own[i]? = some (some (cellsR b tb cs))) (h1 : (xs.length == n) = true) (h2 : (cs.length == n) = true) (hf : ∀ z, (f z).oneCell' = true) :
    OpT c o ⟨fr, own, shr⟩ (fun s => s = ⟨fr, own.set i (some (cellsR b tb (xs.map f))), shr⟩) := by
  have e1 := len_of h1
  have e2 := len_of h2
  refine OpT_storeC hd ho hx hy ht hi ?_ ?_ ?_ ?_
  · simp [Value.cells, e1]
  · simp [e2]
  · intro u hu
    simp [Value.cells] at hu
    obtain ⟨z, _, rfl⟩ := hu
    exact hf z
  · simp [Value.cells, e2]
end

/-- where a place of a row lies -/
def rowPtr (v : Value) (n : Nat) : Value := match v with | .slice (some a) _ _ => .pointer (some (a.add n)) | _ => undef

section
variable {c : Cx} {k : List Item} {s : St} {o : Oper} {fr : List (Nat × Option Value)} {own : List (Option Res)} {shr : List Fact} {d : Nat} {τ : Type}

theorem OpT_idxO {S : Shape τ} {t e : TypeId} {x y : Operand} {vx : Value} {i : Nat} {kk : IntKind} {m : Int} {xs : List τ} {u : τ} {b : Nat} {z : Value} (hn : Nat.blt d c.n = true) (hd : o.dst = some d) (ho : o.op = .indexAddr t x y) (hx : ev fr x = some vx) (hy : ev fr y = some (.int kk m))
    (ht : SlF c.P t e S.sz b z) (hi : own[i]? = some (some (rowS S vx xs))) (hu : ix xs m = some u) : OpT c o ⟨fr, own, shr⟩ (fun s => s = ⟨(d, some (rowPtr vx (Int.toNat m * S.sz))) :: fr, own, shr⟩) :=
  OpT_val hn hd fun a w hs => by
    obtain ⟨h0, h1, h2⟩ := ix_some hu
    obtain ⟨R, hs', hw⟩ := hs.2.2.2
    obtain ⟨css, _, _, h3⟩ := hw.ow i _ hi
    rcases h3 with ⟨_, hx0⟩ | ⟨g, cap, cur, tg, hv, _⟩
    · subst hx0; simp at h2
    · subst hv
      have hun := run_underlying ht.und w
      simp [execOp, ho, ev_eval hs.2.2.1 hx, ev_eval hs.2.2.1 hy, Instr.indexAt, asIntOf, hun, ht.sz, h0, h1, rowPtr]

/-- the block behind a row of plain data -/
theorem row_block {R h : PH} {S : Shape τ} {cells : τ → List Value} {sz : Nat} {ag : Bool} {hl : ∀ x, (cells x).length = sz} {hone : ∀ x, (cells x).all (·.oneCell') = true} (hS : S = Shape.plain sz ag cells hl hone) {v : Value} {xs : List τ} (hr : RowRel S R h v xs) (hne : xs ≠ []) :
    ∃ (g cap : Nat) (cur : Array Value) (tg : TypeId), v = .slice (some ⟨g, 0, none⟩) xs.length cap ∧ h g = some (.cells cur tg (0, 0)) ∧ xs.length ≤ cap ∧ cap ≤ maxLen ∧ cur.size = cap * sz ∧ cur.toList.take (xs.length * sz) = (xs.map cells).flatten := by
  subst hS
  obtain ⟨css, h1, h2, h3⟩ := hr
  have e := flat_map1 (R := R) (hl := hl) (hone := hone) (ag := ag) h1 h2
  subst e
  rcases h3 with ⟨_, hx⟩ | ⟨g, cap, cur, tg, a1, a2, a3, a4, a5, a6⟩
  · exact absurd hx hne
  · exact ⟨g, cap, cur, tg, a1, a2, a3, a4, a5, a6⟩
theorem row_cell {cells : τ → List Value} {sz : Nat} (hl : ∀ x, (cells x).length = sz) {xs : List τ} {cur : Array Value} (h : cur.toList.take (xs.length * sz) = (xs.map cells).flatten) {j : Nat} {u : τ} (hj : xs[j]? = some u) {q : Nat} (hq : q < sz) : cur[j * sz + q]? = (cells u)[q]? := by
  have h1 := flat_get (css := xs.map cells) (sz := sz) (fun ci hc => by obtain ⟨x, _, rfl⟩ := List.mem_map.1 hc; exact hl x) j q (cells u) (by simp [hj]) hq
  rw [← h, List.getElem?_take] at h1
  have hlt : j < xs.length := (List.getElem?_eq_some_iff.1 hj).1
  have : j * sz + q < xs.length * sz := by
    have : (j + 1) * sz ≤ xs.length * sz := Nat.mul_le_mul_right sz hlt
    rw [Nat.add_mul] at this; omega
  rw [if_pos this] at h1
  simpa using h1
theorem OpT_loadO {S : Shape τ} {cells : τ → List Value} {sz : Nat} {ag : Bool} {hl : ∀ x, (cells x).length = sz} {hone : ∀ x, (cells x).all (·.oneCell') = true} (hS : S = Shape.plain sz ag cells hl hone) {t : TypeId} {x : Operand} {i n : Nat} {m : Int} {vx v : Value} {xs : List τ} {u : τ} (hn : Nat.blt d c.n = true) (hd : o.dst = some d) (ho : o.op = .load t x) (hx : ev fr x = some (rowPtr vx (Int.toNat m * 1)))
    (ht : TyF c.P t false n) (hi : own[i]? = some (some (rowS S vx xs))) (hu : ix xs m = some u) (hv : cells u = [v]) (hsz : sz = 1) : OpT c o ⟨fr, own, shr⟩ (fun s => s = ⟨(d, some v) :: fr, own, shr⟩) :=
  OpT_val hn hd fun a w hs => by
    subst hsz
    obtain ⟨h0, h1, h2⟩ := ix_some hu
    obtain ⟨R, hs', hw⟩ := hs.2.2.2
    have hne : xs ≠ [] := by intro e; subst e; simp at h2
    obtain ⟨g, cap, cur, tg, a1, a2, a3, a4, a5, a6⟩ := row_block hS (hw.ow i _ hi) hne
    subst a1
    have hb := hw.hw i g _ a2
    have hc := row_cell hl a6 h2 (q := 0) (by decide)
    rw [hv] at hc
    have hcell : w.cell? ⟨g, m.toNat * 1, none⟩ = some v := by
      rw [cell_of_row w g _ cur tg (0, 0) hb]; simpa using hc
    have e := ev_eval hs.2.2.1 hx
    simp only [rowPtr, Addr.add_lit, Nat.zero_add] at e
    have hcell' : w.cell? ⟨g, m.toNat, none⟩ = some v := by simpa using hcell
    simp [execOp, ho, e, Instr.loadAt, Instr.sureAddr, loadVar, ht.ag, hcell']
theorem flatten_set {cells : τ → List Value} {sz : Nat} (hl : ∀ x, (cells x).length = sz) : ∀ {xs : List τ} {j : Nat} (u : τ), j < xs.length → ((xs.set j u).map cells).flatten = ((xs.map cells).flatten).take (j * sz) ++ cells u ++ ((xs.map cells).flatten).drop (j * sz + sz)
  | [], j, u, h => by simp at h
  | x :: xs, 0, u, _ => by
    simp only [List.set_cons_zero, List.map_cons, List.flatten_cons, Nat.zero_mul, List.take_zero, List.nil_append, Nat.zero_add]
    rw [List.drop_left' (hl x)]
  | x :: xs, j + 1, u, h => by
    have ih := flatten_set hl (xs := xs) (j := j) u (by simpa using h)
    simp only [List.set_cons_succ, List.map_cons, List.flatten_cons, ih]
    have e1 : (j + 1) * sz = (cells x).length + j * sz := by rw [hl x, Nat.add_mul]; omega
    have e2 : (j + 1) * sz + sz = (cells x).length + (j * sz + sz) := by rw [e1]; omega
    rw [e2, e1, List.take_append, List.drop_append, List.take_of_length_le (by omega : (cells x).length ≤ (cells x).length + j * sz), List.drop_of_length_le (by omega : (cells x).length ≤ (cells x).length + (j * sz + sz))]
    simp [List.append_assoc]
theorem take_splice {α : Type} {l mid : List α} {p n m : Nat} (hm : mid.length = n) (hp : p + n ≤ m) (hl : m ≤ l.length) : (l.take p ++ mid ++ l.drop (p + n)).take m = (l.take m).take p ++ mid ++ (l.take m).drop (p + n) := by
  have h1 : (l.take p).length = p := by simp; omega
  rw [List.append_assoc, List.take_append, List.take_append, h1, hm]
  have h2 : List.take m (List.take p l) = List.take p (List.take m l) := by rw [List.take_take, List.take_take, Nat.min_comm]
  rw [h2, List.take_of_length_le (l := mid) (by omega), List.drop_take, List.append_assoc, show m - p - n = m - (p + n) by omega]
theorem OpT_storeO {S : Shape τ} {cells : τ → List Value} {sz : Nat} {ag ag' : Bool} {hl : ∀ x, (cells x).length = sz} {hone : ∀ x, (cells x).all (·.oneCell') = true} (hS : S = Shape.plain sz ag cells hl hone) {t : TypeId} {x y : Operand} {i : Nat} {m : Int} {vx v : Value} {xs : List τ} {u u0 : τ} (hd : o.dst = none) (ho : o.op = .store t x y) (hx : ev fr x = some (rowPtr vx (Int.toNat m * sz))) (hy : ev fr y = some v)
    (ht : TyF c.P t ag' sz) (hi : own[i]? = some (some (rowS S vx xs))) (hu : ix xs m = some u0) (hv : v.cells.toList = cells u) : OpT c o ⟨fr, own, shr⟩ (fun s => s = ⟨fr, own.set i (some (rowS S vx (xs.set m.toNat u))), shr⟩) :=
  OpT_skipRun hd fun a w hs => by
    obtain ⟨h0, h1, h2⟩ := ix_some hu
    obtain ⟨R, hs', hw⟩ := hs.2.2.2
    have hne : xs ≠ [] := by intro e; subst e; simp at h2
    obtain ⟨g, cap, cur, tg, a1, a2, a3, a4, a5, a6⟩ := row_block hS (hw.ow i _ hi) hne
    subst a1
    have hb := hw.hw i g _ a2
    have hlt : m.toNat < xs.length := (List.getElem?_eq_some_iff.1 h2).1
    have hfit : m.toNat * sz + sz ≤ xs.length * sz := by
      have := Nat.mul_le_mul_right sz hlt
      rw [Nat.succ_mul] at this; exact this
    have hcap : xs.length * sz ≤ cur.size := by rw [a5]; exact Nat.mul_le_mul_right sz a3
    have hst := run_storeCells_at c.P g (m.toNat * sz) tg (cells u) 0 cur w hb (by rw [hl u]; omega) (List.all_eq_true.1 (hone u))
    simp only [Nat.add_zero, hl u] at hst
    have hvs : v.cells = (cells u).toArray := by rw [← hv]
    have hsz : v.cells.size = sz := by rw [hvs]; simp [hl u]
    have e := ev_eval hs.2.2.1 hx
    simp only [rowPtr, Addr.add_lit, Nat.zero_add] at e
    refine ⟨w.setRow g (cur.toList.take (m.toNat * sz) ++ cells u ++ cur.toList.drop (m.toNat * sz + sz)).toArray, ?_, ?_⟩
    · rw [← hv] at hst
      rw [← hv]
      simp [execOp, ho, e, ev_eval hs.2.2.1 hy, Instr.storeAt, Instr.sureAddr, storeVar, ht.sz, hsz, hst]
    · have hb' := setRow_heap w g cur (cur.toList.take (m.toNat * sz) ++ cells u ++ cur.toList.drop (m.toNat * sz + sz)).toArray tg (0, 0) hb
      refine ⟨R, _, hw.upd i (PH.one g (.cells (cur.toList.take (m.toNat * sz) ++ cells u ++ cur.toList.drop (m.toNat * sz + sz)).toArray tg (0, 0))) ?_ (by simp) ?_ ?_ rfl rfl rfl (own_set ?_)⟩
      · intro b hb1 hb2
        by_cases eq : b = g
        · subst eq; rw [a2] at hb2; cases hb2
        · exact setRow_other w g b _ eq
      · intro b o' h; obtain ⟨e1, e2⟩ := PH.one_some h; subst e1; subst e2; exact hb'
      · intro b o' h; obtain ⟨e1, _⟩ := PH.one_some h; subst e1; left; rw [a2]; simp
      · subst hS
        refine ⟨(xs.set m.toNat u).map cells, by simp, ?_, .inr ⟨g, cap, _, tg, by simp, PH.one_self _ _, by simpa using a3, a4, ?_, ?_⟩⟩
        · intro j ci z p q
          simp only [List.getElem?_map, q, Option.map_some, Option.some.injEq] at p
          exact p.symm
        · have e5 : cur.toList.length = cap * sz := by simpa using a5
          simp only [List.size_toArray, List.length_append, List.length_take, List.length_drop, hl u, e5]
          show _ = cap * sz
          have : xs.length * sz ≤ cap * sz := Nat.mul_le_mul_right sz a3
          omega
        · show List.take ((xs.set m.toNat u).length * sz) _ = _
          rw [flatten_set hl u hlt, List.length_set, List.toList_toArray, take_splice (hl u) hfit (by simpa using hcap), a6]
end
end Go.Proofs.Ytlofegfaphijpaa
