/- The engine, part 4: what memory reads as; slices that are read; rows of one's own that grow. No statement of the seat is proved here; no condition. -/
import Derived.Test.YtbeendakebamhaaEng3
namespace Go.Proofs.Ytbeendakebamhaa

theorem Addr.add_add (a : Addr) (m n : Nat) : (a.add m).add n = a.add (m + n) := by
  unfold Addr.add
  by_cases h : m = 0 <;> by_cases h' : n = 0 <;> simp [h, h'] <;> omega

def CellsAt (h : PH) (a : Addr) (cs : List Value) : Prop := ∀ (j : Nat) (u : Value), cs[j]? = some u → h.cell (a.add j) = some u
theorem CellsAt.mono {h h' : PH} (hl : h.le h') {a : Addr} {cs : List Value} (hc : CellsAt h a cs) : CellsAt h' a cs := fun j u hj => PH.cell_mono hl (hc j u hj)
theorem CellsAt.sub {h : PH} {a : Addr} {cs : List Value} (hc : CellsAt h a cs) (off n : Nat) : CellsAt h (a.add off) ((cs.drop off).take n) := fun j u hj => by
  rw [Addr.add_add]
  rw [List.getElem?_take] at hj
  split at hj
  · exact hc (off + j) u (by simpa using hj)
  · cases hj

/-- how a value of a type reads out of cells -/
structure Shape (τ : Type) where
  sz : Nat
  agg : Bool
  rel : PH → List Value → τ → Prop
  mono : ∀ {h h' : PH} {cs : List Value} {x : τ}, h.le h' → rel h cs x → rel h' cs x
  len : ∀ {h : PH} {cs : List Value} {x : τ}, rel h cs x → cs.length = sz
  one : ∀ {h : PH} {cs : List Value} {x : τ}, rel h cs x → ∀ u ∈ cs, u.oneCell' = true

/-- plain data: no address in it -/
def Shape.plain {τ : Type} (sz : Nat) (agg : Bool) (cells : τ → List Value) (hl : ∀ x, (cells x).length = sz) (ho : ∀ x, (cells x).all (·.oneCell') = true) : Shape τ :=
  ⟨sz, agg, fun _ cs x => cs = cells x, fun _ h => h, fun h => by subst h; exact hl _, fun h => by subst h; exact List.all_eq_true.1 (ho _)⟩

/-- a slice value reads as a list -/
def SliceRel {τ : Type} (S : Shape τ) (h : PH) (v : Value) (xs : List τ) : Prop :=
  ∃ (base : Option Addr) (cap : Nat) (css : List (List Value)), v = .slice base xs.length cap ∧ xs.length ≤ cap ∧ css.length = xs.length ∧
    (∀ (i : Nat) (ci : List Value) (x : τ), css[i]? = some ci → xs[i]? = some x → S.rel h ci x) ∧
    (∀ (i : Nat) (ci : List Value), css[i]? = some ci → ∃ a, base = some a ∧ CellsAt h (a.add (i * S.sz)) ci)
theorem SliceRel.mono {τ : Type} {S : Shape τ} {h h' : PH} (hl : h.le h') {v : Value} {xs : List τ} (hs : SliceRel S h v xs) : SliceRel S h' v xs := by
  obtain ⟨base, cap, css, h1, h2, h3, h4, h5⟩ := hs
  exact ⟨base, cap, css, h1, h2, h3, fun i ci x a b => S.mono hl (h4 i ci x a b), fun i ci a => let ⟨b, e, hc⟩ := h5 i ci a; ⟨b, e, hc.mono hl⟩⟩
def Shape.slice {τ : Type} (S : Shape τ) : Shape (List τ) :=
  ⟨1, false, fun h cs xs => ∃ v, cs = [v] ∧ SliceRel S h v xs, fun hl ⟨v, e, hs⟩ => ⟨v, e, hs.mono hl⟩, fun ⟨v, e, _⟩ => by subst e; rfl,
   fun ⟨v, e, hs⟩ u hu => by
    obtain ⟨base, cap, css, h1, _⟩ := hs
    subst e; simp at hu; subst hu; subst h1; rfl⟩
/-! facts -/
def Fact.sl {τ : Type} (S : Shape τ) (v : Value) (xs : List τ) : Fact := ⟨fun h => SliceRel S h v xs, fun hl h => h.mono hl⟩
def Fact.is {τ : Type} (S : Shape τ) (cs : List Value) (x : τ) : Fact := ⟨fun h => S.rel h cs x, fun hl h => S.mono hl h⟩
/-- a plain statement -/
def Fact.so (p : Prop) : Fact := ⟨fun _ => p, fun _ h => h⟩

theorem HSat.fact {R0 : PH} {w0 : World} {B : Nat → Prop} {own : List (Option Res)} {shr : List Fact} {w : World} (h : HSat R0 w0 B own shr w) {i : Nat} {F : Fact} (hi : shr[i]? = some F) : ∃ R, R.inW w ∧ F.p R := by
  obtain ⟨R, hs, hw⟩ := h
  exact ⟨R, hw.rw_, hw.sh F (List.mem_of_getElem? hi)⟩
theorem HSat.add {R0 : PH} {w0 : World} {B : Nat → Prop} {own : List (Option Res)} {shr : List Fact} {w : World} (h : HSat R0 w0 B own shr w) (G : Fact) (hG : ∀ R, R.inW w → (∀ F ∈ shr, F.p R) → G.p R) : HSat R0 w0 B own (shr ++ [G]) w := by
  obtain ⟨R, hs, hw⟩ := h
  exact ⟨R, hs, hw.r0, hw.rw_, fun F hF => by
    rcases List.mem_append.1 hF with h | h
    · exact hw.sh F h
    · simp at h; subst h; exact hG R hw.rw_ hw.sh, hw.ow, hw.hw, hw.dj, hw.rd, hw.new, hw.rnew, hw.size, hw.keep, hw.os, hw.tape, hw.output⟩

theorem flat_get {sz : Nat} : ∀ {css : List (List Value)}, (∀ ci ∈ css, ci.length = sz) → ∀ (i j : Nat) (ci : List Value), css[i]? = some ci → j < sz → css.flatten[i * sz + j]? = ci[j]?
  | [], _, i, j, ci, h, _ => by simp at h
  | d :: css, hl, 0, j, ci, h, hj => by
    simp at h; subst h
    have : d.length = sz := hl d (by simp)
    simp only [List.flatten_cons, Nat.zero_mul, Nat.zero_add]
    rw [List.getElem?_append_left (by omega)]
  | d :: css, hl, i + 1, j, ci, h, hj => by
    have hd : d.length = sz := hl d (by simp)
    simp only [List.flatten_cons]
    rw [List.getElem?_append_right (by rw [hd, Nat.add_mul]; omega)]
    have e : (i + 1) * sz + j - d.length = i * sz + j := by rw [hd, Nat.add_mul]; omega
    rw [e]
    exact flat_get (fun ci h => hl ci (by simp [h])) i j ci (by simpa using h) hj
/-- what is known of a slice's type: its element's cells, bytes, zero -/
structure SlF (P : Program) (t e : TypeId) (sz bytes : Nat) (z : Value) : Prop where
  und : P.underlying t = some (.slice e)
  info : ∃ i, P.info? e = some i ∧ i.zero = some z ∧ i.size = sz ∧ i.bytes = bytes
  zsz : z.cells.size = sz
  pos : 0 < sz
  bpos : 0 < bytes
theorem SlF.sz {P : Program} {t e : TypeId} {n b : Nat} {z : Value} (h : SlF P t e n b z) (w : World) : (sizeOf e).run P w = .ok n w := by
  obtain ⟨i, hi, _, hs, _⟩ := h.info
  simp [sizeOf, typeInfo, hi, hs]

section
variable {c : Cx} {k : List Item} {o : Oper} {fr : List (Nat × Option Value)} {own : List (Option Res)} {shr : List Fact} {d : Nat} {τ : Type} {S : Shape τ}

/-! reading a slice -/
theorem run_len_sl {P : Program} {ty t e : TypeId} {base : Option Addr} {n cp : Nat} (ht : P.underlying t = some (.slice e)) (w : World) : (Builtin.len_ #[t] ty #[.slice base n cp]).run P w = .ok (vI n) w := by
  simp [Builtin.len_, run_underlying ht, goInt]
theorem OpT_lenV {t e : TypeId} {x : Operand} {vx : Value} {n : Nat} (hn : Nat.blt d c.n = true) (hd : o.dst = some d) (ho : o.op = .call { callee := .builtin .len, args := #[x], argTypes := #[t] }) (hx : ev fr x = some vx) (ht : c.P.underlying t = some (.slice e))
    (hv : ∀ a w, Sat c ⟨fr, own, shr⟩ a w → ∃ base cp, vx = .slice base n cp) : OpT c o ⟨fr, own, shr⟩ (fun s => s = ⟨(d, some (vI n)) :: fr, own, shr⟩) :=
  OpT_val hn hd fun a w hs => by
    obtain ⟨base, cp, e⟩ := hv a w hs
    subst e
    have hl := run_len_sl (ty := o.type) (base := base) (n := n) (cp := cp) ht w
    simp only [execOp, ho, resolve, invoke, builtin, Sem.run_bind, Sem.run_pure, Result.andThen_ok, List.map_toArray, List.map_cons, List.map_nil, ev_eval hs.2.2.1 hx, hl]
theorem OpT_lenE {t e : TypeId} {x : Operand} {base : Option Addr} {n cp : Nat} (hn : Nat.blt d c.n = true) (hd : o.dst = some d) (ho : o.op = .call { callee := .builtin .len, args := #[x], argTypes := #[t] }) (hx : ev fr x = some (.slice base n cp)) (ht : c.P.underlying t = some (.slice e)) :
    OpT c o ⟨fr, own, shr⟩ (fun s => s = ⟨(d, some (vI n)) :: fr, own, shr⟩) :=
  OpT_lenV hn hd ho hx ht fun _ _ _ => ⟨base, cp, rfl⟩

theorem SliceRel.sub {R : PH} {base : Option Addr} {cap l h : Nat} {xs : List τ} (hs : SliceRel S R (.slice base xs.length cap) xs) (hlh : l ≤ h) (hh : h ≤ xs.length) {m : Nat} (hm : h ≤ m) : SliceRel S R (sliced base l h m S.sz) ((xs.drop l).take (h - l)) := by
  obtain ⟨base', cap', css, e1, e2, e3, e4, e5⟩ := hs
  simp at e1
  obtain ⟨e1, e1'⟩ := e1
  subst e1; subst e1'
  have hlen : ((xs.drop l).take (h - l)).length = h - l := by simp; omega
  refine ⟨_, m - l, (css.drop l).take (h - l), by rw [hlen]; rfl, by omega, by simp; omega, ?_, ?_⟩
  · intro i ci x hi hx
    rw [List.getElem?_take] at hi hx
    split at hi
    · rename_i hlt
      rw [if_pos hlt] at hx
      exact e4 (l + i) ci x (by simpa using hi) (by simpa using hx)
    · cases hi
  · intro i ci hi
    rw [List.getElem?_take] at hi
    split at hi
    · rename_i hlt
      obtain ⟨a, ea, hc⟩ := e5 (l + i) ci (by simpa using hi)
      subst ea
      have hml : ¬ m = l := by omega
      refine ⟨a.add (l * S.sz), by simp [hml], ?_⟩
      rw [Addr.add_add, ← Nat.add_mul]; exact hc
    · cases hi
end
end Go.Proofs.Ytbeendakebamhaa
