/- The engine, part 4: what memory reads as; slices that are read; rows of one's own that grow. No statement of the seat is proved here; no condition. -/
import Derived.Test.YtlofegfaphijpaaEng3
namespace Go.Proofs.Ytlofegfaphijpaa

theorem Addr.add_add (a : Addr) (m n : Nat) : (a.add m).add n = a.add (m + n) := by
  unfold Addr.add
  by_cases h : m = 0 <;> by_cases h' : n = 0 <;> simp [h, h'] <;> omega

def CellsAt (h : PH) (a : Addr) (cs : List Value) : Prop := ∀ (j : Nat) (u : Value), cs[j]? = some u → h.cell (a.add j) = some u
theorem CellsAt.mono {h h' : PH} (hl : h.le h') {a : Addr} {cs : List Value} (hc : CellsAt h a cs) : CellsAt h' a cs := fun j u hj => PH.cell_mono hl (hc j u hj)
theorem CellsAt.sub {h : PH} {a : Addr} {cs : List Value} (hc : CellsAt h a cs) (off n : Nat) : CellsAt h (a.add off) ((cs.drop off).take n) := fun j u hj => by
  rw [Addr.add_add]
  rw [List.getElem?_take] at hj
  split at hj
  · exact hc (off + j) u (by simpa using hj)
  · cases hj

/-- how a value of a type reads out of cells -/
structure Shape (τ : Type) where
  sz : Nat
  agg : Bool
  rel : PH → List Value → τ → Prop
  mono : ∀ {h h' : PH} {cs : List Value} {x : τ}, h.le h' → rel h cs x → rel h' cs x
  len : ∀ {h : PH} {cs : List Value} {x : τ}, rel h cs x → cs.length = sz
  one : ∀ {h : PH} {cs : List Value} {x : τ}, rel h cs x → ∀ u ∈ cs, u.oneCell' = true

/-- plain data: no address in it -/
def Shape.plain {τ : Type} (sz : Nat) (agg : Bool) (cells : τ → List Value) (hl : ∀ x, (cells x).length = sz) (ho : ∀ x, (cells x).all (·.oneCell') = true) : Shape τ :=
  ⟨sz, agg, fun _ cs x => cs = cells x, fun _ h => h, fun h => by subst h; exact hl _, fun h => by subst h; exact List.all_eq_true.1 (ho _)⟩

/-- a slice value reads as a list -/
def SliceRel {τ : Type} (S : Shape τ) (h : PH) (v : Value) (xs : List τ) : Prop :=
  ∃ (base : Option Addr) (cap : Nat) (css : List (List Value)), v = .slice base xs.length cap ∧ xs.length ≤ cap ∧ css.length = xs.length ∧
    (∀ (i : Nat) (ci : List Value) (x : τ), css[i]? = some ci → xs[i]? = some x → S.rel h ci x) ∧
    (∀ (i : Nat) (ci : List Value), css[i]? = some ci → ∃ a, base = some a ∧ CellsAt h (a.add (i * S.sz)) ci)
theorem SliceRel.mono {τ : Type} {S : Shape τ} {h h' : PH} (hl : h.le h') {v : Value} {xs : List τ} (hs : SliceRel S h v xs) : SliceRel S h' v xs := by
  obtain ⟨base, cap, css, h1, h2, h3, h4, h5⟩ := hs
  exact ⟨base, cap, css, h1, h2, h3, fun i ci x a b => S.mono hl (h4 i ci x a b), fun i ci a => let ⟨b, e, hc⟩ := h5 i ci a; ⟨b, e, hc.mono hl⟩⟩
def Shape.slice {τ : Type} (S : Shape τ) : Shape (List τ) :=
  ⟨1, false, fun h cs xs => ∃ v, cs = [v] ∧ SliceRel S h v xs, fun hl ⟨v, e, hs⟩ => ⟨v, e, hs.mono hl⟩, fun ⟨v, e, _⟩ => by subst e; rfl,
   fun ⟨v, e, hs⟩ u hu => by
    obtain ⟨base, cap, css, h1, _⟩ := hs
    subst e; simp at hu; subst hu; subst h1; rfl⟩
/-- a struct with one slice in it -/
def Shape.s1 {τ σ : Type} (sz : Nat) (cells : τ → Value → List Value) (S : Shape σ) (proj : τ → List σ) (hl : ∀ x v, (cells x v).length = sz) (ho : ∀ x v, v.oneCell' = true → (cells x v).all (·.oneCell') = true) : Shape τ :=
  ⟨sz, true, fun h cs x => ∃ v, cs = cells x v ∧ SliceRel S h v (proj x), fun hm ⟨v, e, hs⟩ => ⟨v, e, hs.mono hm⟩, fun ⟨v, e, _⟩ => by subst e; exact hl _ _,
   fun ⟨v, e, hs⟩ => by
    subst e; refine List.all_eq_true.1 (ho _ _ ?_)
    obtain ⟨base, cap, css, h1, _⟩ := hs
    subst h1; rfl⟩
/-- a struct with two slices in it -/
def Shape.s2 {τ σ ρ : Type} (sz : Nat) (cells : τ → Value → Value → List Value) (S : Shape σ) (S' : Shape ρ) (proj : τ → List σ) (proj' : τ → List ρ) (hl : ∀ x v v', (cells x v v').length = sz)
    (ho : ∀ x v v', v.oneCell' = true → v'.oneCell' = true → (cells x v v').all (·.oneCell') = true) : Shape τ :=
  ⟨sz, true, fun h cs x => ∃ v v', cs = cells x v v' ∧ SliceRel S h v (proj x) ∧ SliceRel S' h v' (proj' x), fun hm ⟨v, v', e, hs, hs'⟩ => ⟨v, v', e, hs.mono hm, hs'.mono hm⟩, fun ⟨v, v', e, _⟩ => by subst e; exact hl _ _ _,
   fun ⟨v, v', e, hs, hs'⟩ => by
    subst e; refine List.all_eq_true.1 (ho _ _ _ ?_ ?_)
    · obtain ⟨base, cap, css, h1, _⟩ := hs
      subst h1; rfl
    · obtain ⟨base, cap, css, h1, _⟩ := hs'
      subst h1; rfl⟩

/-! facts -/
def Fact.sl {τ : Type} (S : Shape τ) (v : Value) (xs : List τ) : Fact := ⟨fun h => SliceRel S h v xs, fun hl h => h.mono hl⟩
def Fact.pt {τ : Type} (S : Shape τ) (p : Value) (x : τ) : Fact :=
  ⟨fun h => ∃ a cs, p = .pointer (some a) ∧ CellsAt h a cs ∧ S.rel h cs x, fun hl ⟨a, cs, e, hc, hr⟩ => ⟨a, cs, e, hc.mono hl, S.mono hl hr⟩⟩
def Fact.is {τ : Type} (S : Shape τ) (cs : List Value) (x : τ) : Fact := ⟨fun h => S.rel h cs x, fun hl h => S.mono hl h⟩
/-- a plain statement -/
def Fact.so (p : Prop) : Fact := ⟨fun _ => p, fun _ h => h⟩

theorem HSat.fact {R0 : PH} {w0 : World} {B : Nat → Prop} {own : List (Option Res)} {shr : List Fact} {w : World} (h : HSat R0 w0 B own shr w) {i : Nat} {F : Fact} (hi : shr[i]? = some F) : ∃ R, R.inW w ∧ F.p R := by
  obtain ⟨R, hs, hw⟩ := h
  exact ⟨R, hw.rw_, hw.sh F (List.mem_of_getElem? hi)⟩
theorem HSat.add {R0 : PH} {w0 : World} {B : Nat → Prop} {own : List (Option Res)} {shr : List Fact} {w : World} (h : HSat R0 w0 B own shr w) (G : Fact) (hG : ∀ R, R.inW w → (∀ F ∈ shr, F.p R) → G.p R) : HSat R0 w0 B own (shr ++ [G]) w := by
  obtain ⟨R, hs, hw⟩ := h
  exact ⟨R, hs, hw.r0, hw.rw_, fun F hF => by
    rcases List.mem_append.1 hF with h | h
    · exact hw.sh F h
    · simp at h; subst h; exact hG R hw.rw_ hw.sh, hw.ow, hw.hw, hw.dj, hw.rd, hw.new, hw.rnew, hw.size, hw.keep, hw.os, hw.tape, hw.output⟩

theorem flat_get {sz : Nat} : ∀ {css : List (List Value)}, (∀ ci ∈ css, ci.length = sz) → ∀ (i j : Nat) (ci : List Value), css[i]? = some ci → j < sz → css.flatten[i * sz + j]? = ci[j]?
  | [], _, i, j, ci, h, _ => by simp at h
  | d :: css, hl, 0, j, ci, h, hj => by
    simp at h; subst h
    have : d.length = sz := hl d (by simp)
    simp only [List.flatten_cons, Nat.zero_mul, Nat.zero_add]
    rw [List.getElem?_append_left (by omega)]
  | d :: css, hl, i + 1, j, ci, h, hj => by
    have hd : d.length = sz := hl d (by simp)
    simp only [List.flatten_cons]
    rw [List.getElem?_append_right (by rw [hd, Nat.add_mul]; omega)]
    have e : (i + 1) * sz + j - d.length = i * sz + j := by rw [hd, Nat.add_mul]; omega
    rw [e]
    exact flat_get (fun ci h => hl ci (by simp [h])) i j ci (by simpa using h) hj
theorem flat_len {sz : Nat} : ∀ {css : List (List Value)}, (∀ ci ∈ css, ci.length = sz) → css.flatten.length = css.length * sz
  | [], _ => by simp
  | d :: css, hl => by
    have := flat_len (css := css) (sz := sz) (fun ci h => hl ci (by simp [h]))
    simp [this, hl d (by simp), Nat.add_mul]; omega
theorem SliceRel.flat {τ : Type} {S : Shape τ} {h : PH} {v : Value} {xs : List τ} (hs : SliceRel S h v xs) : ∃ (base : Option Addr) (cap : Nat) (css : List (List Value)), v = .slice base xs.length cap ∧ xs.length ≤ cap ∧ css.length = xs.length ∧
    (∀ (i : Nat) (ci : List Value) (x : τ), css[i]? = some ci → xs[i]? = some x → S.rel h ci x) ∧ (∀ ci ∈ css, ci.length = S.sz) ∧ (∀ u ∈ css.flatten, u.oneCell' = true) ∧ (xs ≠ [] → base ≠ none) ∧ (∀ a, base = some a → CellsAt h a css.flatten) := by
  obtain ⟨base, cap, css, h1, h2, h3, h4, h5⟩ := hs
  have hx : ∀ (i : Nat) (ci : List Value), css[i]? = some ci → ∃ x, xs[i]? = some x := fun i ci hi => by
    have : i < css.length := (List.getElem?_eq_some_iff.1 hi).1
    exact ⟨xs[i]'(by omega), List.getElem?_eq_getElem _⟩
  have hlen : ∀ ci ∈ css, ci.length = S.sz := fun ci hci => by
    obtain ⟨i, hi⟩ := List.mem_iff_getElem?.1 hci
    obtain ⟨x, hx⟩ := hx i ci hi
    exact S.len (h4 i ci x hi hx)
  refine ⟨base, cap, css, h1, h2, h3, h4, hlen, ?_, ?_, ?_⟩
  · intro u hu
    obtain ⟨ci, hci, hu⟩ := List.mem_flatten.1 hu
    obtain ⟨i, hi⟩ := List.mem_iff_getElem?.1 hci
    obtain ⟨x, hx⟩ := hx i ci hi
    exact S.one (h4 i ci x hi hx) u hu
  · intro hne hb
    cases css with
    | nil => simp at h3; exact hne (List.eq_nil_of_length_eq_zero h3.symm)
    | cons c0 css => obtain ⟨a, e, _⟩ := h5 0 c0 rfl; rw [hb] at e; cases e
  · intro a hb j u hj
    have hj' : j < css.length * S.sz := by rw [← flat_len hlen]; exact (List.getElem?_eq_some_iff.1 hj).1
    have hpos : 0 < S.sz := by
      rcases Nat.eq_zero_or_pos S.sz with e | e
      · rw [e] at hj'; simp at hj'
      · exact e
    have hi : j / S.sz < css.length := Nat.div_lt_of_lt_mul (by rw [Nat.mul_comm]; exact hj')
    have hjm := Nat.mod_lt j hpos
    have e : j / S.sz * S.sz + j % S.sz = j := by rw [Nat.mul_comm]; exact Nat.div_add_mod j S.sz
    obtain ⟨a', ea, hc⟩ := h5 (j / S.sz) _ (List.getElem?_eq_getElem hi)
    rw [hb] at ea; simp at ea; subst ea
    have := flat_get hlen (j / S.sz) (j % S.sz) _ (List.getElem?_eq_getElem hi) hjm
    rw [e, hj] at this
    have h6 := hc (j % S.sz) u this.symm
    rw [Addr.add_add, e] at h6
    exact h6

/-- what is known of a slice's type: its element's cells, bytes, zero -/
structure SlF (P : Program) (t e : TypeId) (sz bytes : Nat) (z : Value) : Prop where
  und : P.underlying t = some (.slice e)
  info : ∃ i, P.info? e = some i ∧ i.zero = some z ∧ i.size = sz ∧ i.bytes = bytes
  zsz : z.cells.size = sz
  pos : 0 < sz
  bpos : 0 < bytes
theorem SlF.sz {P : Program} {t e : TypeId} {n b : Nat} {z : Value} (h : SlF P t e n b z) (w : World) : (sizeOf e).run P w = .ok n w := by
  obtain ⟨i, hi, _, hs, _⟩ := h.info
  simp [sizeOf, typeInfo, hi, hs]

section
variable {c : Cx} {k : List Item} {o : Oper} {fr : List (Nat × Option Value)} {own : List (Option Res)} {shr : List Fact} {d : Nat} {τ : Type} {S : Shape τ}

/-! reading a slice -/
theorem run_len_sl {P : Program} {ty t e : TypeId} {base : Option Addr} {n cp : Nat} (ht : P.underlying t = some (.slice e)) (w : World) : (Builtin.len_ #[t] ty #[.slice base n cp]).run P w = .ok (vI n) w := by
  simp [Builtin.len_, run_underlying ht, goInt]
theorem OpT_lenV {t e : TypeId} {x : Operand} {vx : Value} {n : Nat} (hn : Nat.blt d c.n = true) (hd : o.dst = some d) (ho : o.op = .call { callee := .builtin .len, args := #[x], argTypes := #[t] }) (hx : ev fr x = some vx) (ht : c.P.underlying t = some (.slice e))
    (hv : ∀ a w, Sat c ⟨fr, own, shr⟩ a w → ∃ base cp, vx = .slice base n cp) : OpT c o ⟨fr, own, shr⟩ (fun s => s = ⟨(d, some (vI n)) :: fr, own, shr⟩) :=
  OpT_val hn hd fun a w hs => by
    obtain ⟨base, cp, e⟩ := hv a w hs
    subst e
    have hl := run_len_sl (ty := o.type) (base := base) (n := n) (cp := cp) ht w
    simp only [execOp, ho, resolve, invoke, builtin, Sem.run_bind, Sem.run_pure, Result.andThen_ok, List.map_toArray, List.map_cons, List.map_nil, ev_eval hs.2.2.1 hx, hl]
theorem OpT_lenS {t e : TypeId} {x : Operand} {vx : Value} {i : Nat} {xs : List τ} (hn : Nat.blt d c.n = true) (hd : o.dst = some d) (ho : o.op = .call { callee := .builtin .len, args := #[x], argTypes := #[t] }) (hx : ev fr x = some vx) (ht : c.P.underlying t = some (.slice e))
    (hi : shr[i]? = some (Fact.sl S vx xs)) : OpT c o ⟨fr, own, shr⟩ (fun s => s = ⟨(d, some (vI (len xs))) :: fr, own, shr⟩) :=
  OpT_lenV hn hd ho hx ht fun a w hs => by
    obtain ⟨R, _, base, cap, css, h1, _⟩ := hs.2.2.2.fact hi
    exact ⟨base, cap, h1⟩
theorem OpT_lenE {t e : TypeId} {x : Operand} {base : Option Addr} {n cp : Nat} (hn : Nat.blt d c.n = true) (hd : o.dst = some d) (ho : o.op = .call { callee := .builtin .len, args := #[x], argTypes := #[t] }) (hx : ev fr x = some (.slice base n cp)) (ht : c.P.underlying t = some (.slice e)) :
    OpT c o ⟨fr, own, shr⟩ (fun s => s = ⟨(d, some (vI n)) :: fr, own, shr⟩) :=
  OpT_lenV hn hd ho hx ht fun _ _ _ => ⟨base, cp, rfl⟩

theorem ix_some {xs : List τ} {i : Int} {x : τ} (h : ix xs i = some x) : 0 ≤ i ∧ i < (xs.length : Int) ∧ xs[i.toNat]? = some x := by
  unfold ix at h
  cases hb : decide (0 ≤ i) with
  | false => rw [hb] at h; cases h
  | true =>
    rw [hb] at h
    have h0 : 0 ≤ i := by simpa using hb
    have := (List.getElem?_eq_some_iff.1 h).1
    exact ⟨h0, by omega, h⟩

theorem OpT_idxS {t e : TypeId} {x y : Operand} {vx : Value} {i : Nat} {kk : IntKind} {m : Int} {xs : List τ} {u : τ} {b : Nat} {z : Value} (hn : Nat.blt d c.n = true) (hd : o.dst = some d) (ho : o.op = .indexAddr t x y) (hx : ev fr x = some vx) (hy : ev fr y = some (.int kk m))
    (ht : SlF c.P t e S.sz b z) (hi : shr[i]? = some (Fact.sl S vx xs)) (hu : ix xs m = some u) :
    OpT c o ⟨fr, own, shr⟩ (fun s => ∃ p, s = ⟨(d, some p) :: fr, own, shr ++ [Fact.pt S p u]⟩) :=
  OpT_run hn hd fun a w hs => by
    obtain ⟨h0, h1, h2⟩ := ix_some hu
    obtain ⟨R, hs', hw⟩ := hs.2.2.2
    obtain ⟨base, cap, css, e1, e2, e3, e4, e5⟩ := hw.sh _ (List.mem_of_getElem? hi)
    have hlt : m.toNat < css.length := by omega
    obtain ⟨ad, eb, hc⟩ := e5 m.toNat _ (List.getElem?_eq_getElem hlt)
    subst eb; subst e1
    have hrun : (execOp a.eval o).run c.P w = .ok (.value (.pointer (some (ad.add (m.toNat * S.sz))))) w := by
      have hu := run_underlying ht.und w
      simp [execOp, ho, ev_eval hs.2.2.1 hx, ev_eval hs.2.2.1 hy, Instr.indexAt, asIntOf, hu, ht.sz, h0, h1]
    refine ⟨_, w, .pointer (some (ad.add (m.toNat * S.sz))), hrun, rfl, ?_⟩
    refine HSat.add ⟨R, hs', hw⟩ _ fun R' _ hF => ?_
    obtain ⟨base', cap', css', f1, f2, f3, f4, f5⟩ := hF _ (List.mem_of_getElem? hi)
    have hlt' : m.toNat < css'.length := by omega
    obtain ⟨ad', eb', hc'⟩ := f5 m.toNat _ (List.getElem?_eq_getElem hlt')
    subst eb'
    simp at f1
    obtain ⟨f1, _⟩ := f1
    subst f1
    exact ⟨_, _, rfl, hc', f4 m.toNat _ _ (List.getElem?_eq_getElem hlt') h2⟩

theorem loadCells_at {P : Program} {w : World} {R : PH} (hR : R.inW w) {a : Addr} {cs : List Value} (h : CellsAt R a cs) : (loadCells a cs.length).run P w = .ok cs.toArray w :=
  run_loadCells_list w a cs fun j v hj => PH.cell_inW hR (h j v hj)
/-- loading plain data of one cell -/
theorem OpT_loadP {t : TypeId} {x : Operand} {p v : Value} {i n : Nat} {u : τ} {cells : τ → List Value} {hl : ∀ x, (cells x).length = 1} {hone : ∀ x, (cells x).all (·.oneCell') = true} (hn : Nat.blt d c.n = true) (hd : o.dst = some d) (ho : o.op = .load t x) (hx : ev fr x = some p)
    (ht : TyF c.P t false n) (hi : shr[i]? = some (Fact.pt (Shape.plain 1 false cells hl hone) p u)) (hv : cells u = [v]) : OpT c o ⟨fr, own, shr⟩ (fun s => s = ⟨(d, some v) :: fr, own, shr⟩) :=
  OpT_val hn hd fun a w hs => by
    obtain ⟨R, hR, ad, cs, e, hc, hr⟩ := hs.2.2.2.fact hi
    subst e
    have : cs = [v] := by rw [← hv]; exact hr
    subst this
    have h1 := PH.cell_inW hR (hc 0 v rfl)
    rw [Addr.add_zero'] at h1
    simp [execOp, ho, ev_eval hs.2.2.1 hx, Instr.loadAt, Instr.sureAddr, loadVar, ht.ag, h1]
/-- loading plain data that is an aggregate -/
theorem OpT_loadPA {t : TypeId} {x : Operand} {p : Value} {i n : Nat} {u : τ} {cells : τ → List Value} {hl : ∀ x, (cells x).length = n} {hone : ∀ x, (cells x).all (·.oneCell') = true} {vs : List Value} (hn : Nat.blt d c.n = true) (hd : o.dst = some d) (ho : o.op = .load t x) (hx : ev fr x = some p)
    (ht : TyF c.P t true n) (hi : shr[i]? = some (Fact.pt (Shape.plain n true cells hl hone) p u)) (hv : cells u = vs) : OpT c o ⟨fr, own, shr⟩ (fun s => s = ⟨(d, some (.agg vs.toArray)) :: fr, own, shr⟩) :=
  OpT_val hn hd fun a w hs => by
    obtain ⟨R, hR, ad, cs, e, hc, hr⟩ := hs.2.2.2.fact hi
    subst e
    have : cs = vs := by rw [← hv]; exact hr
    subst this
    have h1 := loadCells_at (P := c.P) hR hc
    have h2 : cs.length = n := by rw [← hv]; exact hl u
    rw [h2] at h1
    simp [execOp, ho, ev_eval hs.2.2.1 hx, Instr.loadAt, Instr.sureAddr, loadVar, ht.ag, ht.sz, h1]
/-- a part of what is pointed at -/
theorem OpT_fieldP {σ : Type} {S' : Shape σ} {t : TypeId} {x : Operand} {p : Value} {i f off : Nat} {u : τ} {y : σ} (hn : Nat.blt d c.n = true) (hd : o.dst = some d) (ho : o.op = .fieldAddr t x f) (hx : ev fr x = some p) (hf : FldF c.P t f off)
    (hi : shr[i]? = some (Fact.pt S p u)) (hsub : ∀ h cs, S.rel h cs u → S'.rel h ((cs.drop off).take S'.sz) y) :
    OpT c o ⟨fr, own, shr⟩ (fun s => ∃ q, s = ⟨(d, some q) :: fr, own, shr ++ [Fact.pt S' q y]⟩) :=
  OpT_run hn hd fun a w hs => by
    obtain ⟨R, hs', hw⟩ := hs.2.2.2
    obtain ⟨ad, cs, e, hc, hr⟩ := hw.sh _ (List.mem_of_getElem? hi)
    subst e
    have hfr := hf ad w
    refine ⟨_, w, .pointer (some (ad.add off)), by simp [execOp, ho, ev_eval hs.2.2.1 hx, hfr], rfl, ?_⟩
    exact ⟨R, hs', hw.r0, hw.rw_, fun F hF => by
      rcases List.mem_append.1 hF with h | h
      · exact hw.sh F h
      · simp at h; subst h; exact ⟨_, _, rfl, hc.sub off S'.sz, hsub R cs hr⟩, hw.ow, hw.hw, hw.dj, hw.rd, hw.new, hw.rnew, hw.size, hw.keep, hw.os, hw.tape, hw.output⟩

theorem SliceRel.sub {R : PH} {base : Option Addr} {cap l h : Nat} {xs : List τ} (hs : SliceRel S R (.slice base xs.length cap) xs) (hlh : l ≤ h) (hh : h ≤ xs.length) {m : Nat} (hm : h ≤ m) : SliceRel S R (sliced base l h m S.sz) ((xs.drop l).take (h - l)) := by
  obtain ⟨base', cap', css, e1, e2, e3, e4, e5⟩ := hs
  simp at e1
  obtain ⟨e1, e1'⟩ := e1
  subst e1; subst e1'
  have hlen : ((xs.drop l).take (h - l)).length = h - l := by simp; omega
  refine ⟨_, m - l, (css.drop l).take (h - l), by rw [hlen]; rfl, by omega, by simp; omega, ?_, ?_⟩
  · intro i ci x hi hx
    rw [List.getElem?_take] at hi hx
    split at hi
    · rename_i hlt
      rw [if_pos hlt] at hx
      exact e4 (l + i) ci x (by simpa using hi) (by simpa using hx)
    · cases hi
  · intro i ci hi
    rw [List.getElem?_take] at hi
    split at hi
    · rename_i hlt
      obtain ⟨a, ea, hc⟩ := e5 (l + i) ci (by simpa using hi)
      subst ea
      have hml : ¬ m = l := by omega
      refine ⟨a.add (l * S.sz), by simp [hml], ?_⟩
      rw [Addr.add_add, ← Nat.add_mul]; exact hc
    · cases hi
end
end Go.Proofs.Ytlofegfaphijpaa
