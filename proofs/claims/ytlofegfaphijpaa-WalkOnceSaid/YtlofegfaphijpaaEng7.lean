/- The engine, part 7: joins, results, arrays, built values. No statement of the seat is proved here; no condition. -/
import Derived.Test.YtlofegfaphijpaaEng6
namespace Go.Proofs.Ytlofegfaphijpaa

section
variable {c : Cx} {k : List Item} {s : St} {ops : Array Oper} {rest : List Oper} {o : Oper} {fr : List (Nat × Option Value)} {own : List (Option Res)} {shr : List Fact} {d : Nat} {τ : Type} {S : Shape τ}

/-- what stands behind, once for all ways that lead there -/
theorem Tk_join {α : Type} {i : Item} (st : α → St) (p : α → Prop) (hJ : ∀ x, p x → Tk c k (st x)) (hM : (∀ x, p x → Tk c k (st x)) → Tk c (i :: k) s) : Tk c (i :: k) s := hM hJ
/-- a fact that says nothing -/
def Fact.tt : Fact := ⟨fun _ => True, fun _ _ => trivial⟩
def pickT (shr : List Fact) (js : List Nat) : List Fact := js.map fun j => (shr[j]?).getD Fact.tt
theorem pickT_p {shr : List Fact} {R : PH} (h : ∀ F ∈ shr, F.p R) {js : List Nat} : ∀ F ∈ pickT shr js, F.p R := by
  intro F hF
  obtain ⟨j, _, rfl⟩ := List.mem_map.1 hF
  cases e : shr[j]? with
  | none => trivial
  | some G => exact h G (List.mem_of_getElem? e)
theorem HW.facts {R0 : PH} {w0 : World} {B : Nat → Prop} {own : List (Option Res)} {shr shr' : List Fact} {w : World} {R : PH} {hs : Nat → PH} (h : HW R0 w0 B own shr w R hs) (hf : ∀ F ∈ shr', F.p R) : HW R0 w0 B own shr' w R hs :=
  ⟨h.r0, h.rw_, hf, h.ow, h.hw, h.dj, h.rd, h.new, h.rnew, h.size, h.keep, h.os, h.tape, h.output⟩
theorem Sat.wk {c : Cx} {s : St} {a : Act} {w : World} (h : Sat c s a w) {fr' : List (Nat × Option Value)} (is js : List Nat) {own' : List (Option Res)} {shr' : List Fact}
    (hn : nodupB is = true) (hf : FrSub s.fr fr') (ho : pick s.own is = own') (hs : pickT s.shr js = shr') : Sat c ⟨fr', own', shr'⟩ a w := by
  obtain ⟨h1, h2, h3, R, hs', hw⟩ := h
  refine ⟨h1, h2, h3.sub hf, ?_⟩
  subst ho; subst hs
  exact ⟨_, _, (hw.pick is hn (fun F hF => hF)).facts (pickT_p hw.sh)⟩
def upto : Nat → List Nat
  | 0 => []
  | n + 1 => n :: upto n
theorem mem_upto {n i : Nat} : i ∈ upto n ↔ i < n := by
  induction n with
  | zero => simp [upto]
  | succ n ih => simp [upto, ih]; omega
theorem allTrue {L : Nat → Bool} {n : Nat} (h : ∀ i, i < n → L i = true) : L = ovr L (upto n) [] := by
  funext j
  simp only [ovr]
  cases e : memN j (upto n) with
  | true => exact h j (mem_upto.1 (memN_iff.1 e))
  | false => rfl

/-! results -/
def wrapV : List Value → Value
  | [v] => v
  | vs => .tuple vs.toArray
def ResV (c : Cx) (fr : List (Nat × Option Value)) (own : List (Option Res)) : List ResultVar → List Value → Prop
  | [], [] => True
  | .tmp t :: r, v :: vs => lk fr t = some v ∧ ResV c fr own r vs
  | .cell t ty :: r, v :: vs => (∃ (b i : Nat) (tb : TypeId) (cs : List Value) (m : Nat), lk fr t = some (.pointer (some ⟨b, 0, none⟩)) ∧ own[i]? = some (some (cellsR b tb cs)) ∧ ((TyF c.P ty true m ∧ v = .agg (cs.take m).toArray ∧ Nat.ble m cs.length = true) ∨ (TyF c.P ty false m ∧ cs[0]? = some v))) ∧ ResV c fr own r vs
  | _, _ => False
theorem Array.mapM_toList' {α β : Type} (f : α → Sem β) (xs : Array α) : xs.mapM f = Array.mk <$> xs.toList.mapM f := Array.mapM_eq_mapM_toList
def resOne (tmps : Array Value) (r : ResultVar) : Sem Value :=
  match r with
  | .tmp t => pure (tmps.getD t undef)
  | .cell b t => do loadVar t (← asAddr (tmps.getD b undef))
theorem resOne_tmp {P : Program} {w : World} {tmps : Array Value} {t : Nat} {v : Value} (h : tmps[t]? = some v) : (resOne tmps (.tmp t)).run P w = .ok v w := by simp [resOne, h]
theorem resV_run {a : Act} {w : World} (hs : Sat c ⟨fr, own, shr⟩ a w) : ∀ {rs : List ResultVar} {vs : List Value}, ResV c fr own rs vs → (rs.mapM (resOne a.tmps)).run c.P w = .ok vs w
  | [], [], _ => by simp
  | .tmp t :: r, v :: vs, h => by
    have h1 := resOne_tmp (P := c.P) (w := w) (hs.2.2.1 t v h.1)
    have ih := resV_run hs h.2
    simp only [List.mapM_cons, Sem.run_bind, h1, Result.andThen_ok, ih, Sem.run_pure]
  | .cell t ty :: r, v :: vs, h => by
    obtain ⟨⟨b, i, tb, cs, m, h1, h2, h3⟩, h4⟩ := h
    have e1 := hs.2.2.1 t _ h1
    have ih := resV_run hs h4
    have h5 := hs.2.2.2.lookC h2
    have key : (resOne a.tmps (.cell t ty)).run c.P w = .ok v w := by
      rcases h3 with ⟨ht, rfl, hl⟩ | ⟨ht, hv⟩
      · have hm := Nat.le_of_ble_eq_true hl
        have h6 : (loadCells ⟨b, 0, none⟩ m).run c.P w = .ok (cs.take m).toArray w := by
          have hlen : (cs.take m).length = m := by simp; omega
          have h7 := run_loadCells_list (P := c.P) w ⟨b, 0, none⟩ (cs.take m) (fun j v hj => by
            rw [Addr.add_lit, Nat.zero_add, cellC h5]
            rw [List.getElem?_take] at hj
            split at hj
            · exact hj
            · cases hj)
          rwa [hlen] at h7
        simp [resOne, e1, asAddr, loadVar, ht.ag, ht.sz, h6]
      · have h6 := cellC (off := 0) h5
        rw [hv] at h6
        simp [resOne, e1, asAddr, loadVar, ht.ag, h6]
    simp only [List.mapM_cons, Sem.run_bind, key, Result.andThen_ok, ih, Sem.run_pure]
  | [], _ :: _, h => by cases h
  | .tmp _ :: _, [], h => by cases h
  | .cell _ _ :: _, [], h => by cases h
theorem resA {fn : Func} {rs : List ResultVar} {vs : List Value} (hr : fn.results = rs.toArray) (h : ResV c fr own rs vs) : ∀ a w, Sat c ⟨fr, own, shr⟩ a w → (results fn a.tmps).run c.P w = .ok (wrapV vs) w := fun a w hs => by
  have h1 := resV_run hs h
  have e : results fn a.tmps = (do let vs ← fn.results.mapM (resOne a.tmps); pure (if h : vs.size = 1 then vs[0] else .tuple vs)) := rfl
  rw [e, hr, Array.mapM_toList']
  simp only [Sem.run_bind, Sem.run_map, h1, Result.andThen_ok]
  match vs with
  | [] => rfl
  | [v] => rfl
  | v :: u :: vs => rfl

/-! built values -/
def BldV (P : Program) (t : TypeId) (ps : List (Nat × Value)) (v : Value) : Prop := ∀ w, (Instr.build t ps.toArray).run P w = .ok v w
theorem OpT_build {t : TypeId} {ps : Array (Nat × Operand)} {vs : List (Nat × Value)} {v : Value} (hn : Nat.blt d c.n = true) (hd : o.dst = some d) (ho : o.op = .build t ps) (hx : evs fr ps.toList = some vs) (hb : BldV c.P t vs v) : OpT c o ⟨fr, own, shr⟩ (fun s => s = ⟨(d, some v) :: fr, own, shr⟩) :=
  OpT_val hn hd fun a w hs => by
    have hps : ps.map (fun (i, x) => (i, a.eval x)) = vs.toArray := by
      apply Array.ext'; simpa using evs_eval hs.2.2.1 hx
    have h1 := hb w
    simp only [execOp, ho, hps, Sem.run_bind, h1, Result.andThen_ok, Sem.run_pure]

/-! rows of one's own, read -/
theorem RowRel.val {R h : PH} {v : Value} {xs : List τ} (hr : RowRel S R h v xs) : ∃ base cp, v = .slice base xs.length cp := by
  obtain ⟨css, _, _, h3⟩ := hr
  rcases h3 with ⟨hv, hx⟩ | ⟨g, cap, cur, tg, hv, _⟩
  · subst hx; exact ⟨none, 0, hv⟩
  · exact ⟨_, _, hv⟩
/-! a block that holds an array of scalars -/
theorem OpT_loadLA {t : TypeId} {x : Operand} {b i m : Nat} {j : Int} {tb : TypeId} {f : τ → Value} {xs : List τ} {u : τ} (hn : Nat.blt d c.n = true) (hd : o.dst = some d) (ho : o.op = .load t x) (hx : ev fr x = some (.pointer (some ⟨b, 0 + j.toNat * 1, none⟩)))
    (ht : TyF c.P t false m) (hi : own[i]? = some (some (cellsR b tb (xs.map f)))) (hu : ix xs j = some u) : OpT c o ⟨fr, own, shr⟩ (fun s => s = ⟨(d, some (f u)) :: fr, own, shr⟩) := by
  obtain ⟨_, _, h2⟩ := ix_some hu
  refine OpT_loadC hn hd ho hx ht hi ?_
  simp [h2]
/-! an array out of a slice that is read -/
/-- the first n of a list, as they are pointed at -/
def Fact.arr {τ : Type} (S : Shape τ) (p : Value) (n : Nat) (xs : List τ) : Fact :=
  ⟨fun h => xs.length = n ∧ ∃ (a : Addr) (css : List (List Value)), p = .pointer (some a) ∧ css.length = xs.length ∧ (∀ (i : Nat) (ci : List Value) (x : τ), css[i]? = some ci → xs[i]? = some x → S.rel h ci x) ∧ CellsAt h a css.flatten,
   fun hl ⟨h0, a, css, e, h1, h2, h3⟩ => ⟨h0, a, css, e, h1, fun i ci x p q => S.mono hl (h2 i ci x p q), h3.mono hl⟩⟩
theorem OpT_toArr {t e : TypeId} {x : Operand} {vx : Value} {i n sz : Nat} {xs : List τ} (hn : Nat.blt d c.n = true) (hd : o.dst = some d) (ho : o.op = .sliceToArrayPointer t x) (hx : ev fr x = some vx) (ht : ArrF c.P t n e sz) (hi : shr[i]? = some (Fact.sl S vx xs)) (hl : Nat.ble n xs.length = true) (hpos : Nat.blt 0 n = true) :
    OpT c o ⟨fr, own, shr⟩ (fun s => ∃ p, s = ⟨(d, some p) :: fr, own, shr ++ [Fact.arr S p n (xs.take n)]⟩) :=
  OpT_run hn hd fun a w hs => by
    have hl' := Nat.le_of_ble_eq_true hl
    have hpos' : 0 < n := Nat.blt_eq ▸ hpos
    obtain ⟨R, hs', hw⟩ := hs.2.2.2
    obtain ⟨base, cap, css, e1, e2, e3, e4, e5, e6, e7, e8⟩ := SliceRel.flat (hw.sh _ (List.mem_of_getElem? hi))
    have hne : xs ≠ [] := by intro q; subst q; simp at hl'; omega
    obtain ⟨ad, rfl⟩ : ∃ ad, base = some ad := by
      cases base with
      | none => exact absurd rfl (e7 hne)
      | some ad => exact ⟨ad, rfl⟩
    subst e1
    have hu := run_underlying ht.und w
    have hlt : ¬ xs.length < n := by omega
    refine ⟨.pointer (some ad), w, .pointer (some ad), by simp [execOp, ho, ev_eval hs.2.2.1 hx, Instr.arrayAt, hu, hlt], rfl, ?_⟩
    refine ⟨R, hs', hw.r0, hw.rw_, fun F hF => ?_, hw.ow, hw.hw, hw.dj, hw.rd, hw.new, hw.rnew, hw.size, hw.keep, hw.os, hw.tape, hw.output⟩
    rcases List.mem_append.1 hF with h | h
    · exact hw.sh F h
    · simp at h; subst h
      refine ⟨by simp; omega, ad, css.take n, rfl, by simp; omega, ?_, ?_⟩
      · intro j ci x q1 q2
        rw [List.getElem?_take] at q1 q2
        split at q1
        · rename_i hlt; rw [if_pos hlt] at q2; exact e4 j ci x q1 q2
        · cases q1
      · intro j u hj
        refine e8 ad rfl j u ?_
        have hsplit : css.flatten = (css.take n).flatten ++ (css.drop n).flatten := by rw [← List.flatten_append, List.take_append_drop]
        rw [hsplit, List.getElem?_append_left (List.getElem?_eq_some_iff.1 hj).1]; exact hj
theorem flat_map1 {R : PH} {cells : τ → List Value} {sz : Nat} {ag : Bool} {hl : ∀ x, (cells x).length = sz} {hone : ∀ x, (cells x).all (·.oneCell') = true} : ∀ {css : List (List Value)} {xs : List τ}, css.length = xs.length →
    (∀ (i : Nat) (ci : List Value) (x : τ), css[i]? = some ci → xs[i]? = some x → (Shape.plain sz ag cells hl hone).rel R ci x) → css = xs.map cells
  | [], [], _, _ => rfl
  | ci :: css, x :: xs, hl', h => by
    have h0 : ci = cells x := h 0 ci x rfl rfl
    subst h0
    have := flat_map1 (R := R) (css := css) (xs := xs) (hl := hl) (hone := hone) (ag := ag) (by simpa using hl') (fun i ci x a b => h (i + 1) ci x (by simpa using a) (by simpa using b))
    simp [this]
theorem OpT_loadArr {t : TypeId} {x : Operand} {p : Value} {i n m : Nat} {xs : List τ} {cells : τ → List Value} {sz : Nat} {ag : Bool} {hl : ∀ x, (cells x).length = sz} {hone : ∀ x, (cells x).all (·.oneCell') = true} (hn : Nat.blt d c.n = true) (hd : o.dst = some d) (ho : o.op = .load t x) (hx : ev fr x = some p)
    (ht : TyF c.P t true m) (hi : shr[i]? = some (Fact.arr (Shape.plain sz ag cells hl hone) p n xs)) (hm : m = n * sz) : OpT c o ⟨fr, own, shr⟩ (fun s => s = ⟨(d, some (.agg (xs.map cells).flatten.toArray)) :: fr, own, shr⟩) :=
  OpT_val hn hd fun a w hs => by
    obtain ⟨R, hR, h0, ad, css, e, h1, h2, h3⟩ := hs.2.2.2.fact hi
    subst e
    have e2 := flat_map1 h1 h2
    subst e2
    have hc := loadCells_at (P := c.P) hR h3
    have hlen : (xs.map cells).flatten.length = m := by
      rw [flat_len (sz := sz) (fun ci h => by obtain ⟨x, _, rfl⟩ := List.mem_map.1 h; exact hl x)]; simp [h0, hm]
    rw [hlen] at hc
    simp [execOp, ho, ev_eval hs.2.2.1 hx, Instr.loadAt, Instr.sureAddr, loadVar, ht.ag, ht.sz, hc]
theorem flat_one {f : τ → Value} : ∀ (xs : List τ), (xs.map fun x => [f x]).flatten = xs.map f
  | [] => rfl
  | x :: xs => by simp [flat_one xs]
end
end Go.Proofs.Ytlofegfaphijpaa
