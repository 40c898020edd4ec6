/- The engine, part 20: function values, by what they yield when they are called; values in interfaces. No statement of the seat is proved here; no condition. -/
import Derived.Test.YtihcimjfabdafaaEng19
namespace Go.Proofs.Ytihcimjfabdafaa

/-- a function value: called, it yields what is said, and nothing else is written -/
def FnOk {α β : Type} (P : Program) (av : α → List Value) (rv : β → Value) (v : Value) (φ : α → Option β) (h : PH) : Prop :=
  v.oneCell' = true ∧ ∀ x r, φ x = some r → ∃ (f : FuncId) (cp : List Value) (shr0 : List Fact), v = .func (.func f) #[] cp.toArray ∧ Callee P f ∧ (∀ F ∈ shr0, F.p h) ∧ Ctr P f (av x ++ cp).toArray [] shr0 (fun u own shr => u = rv r ∧ own = [] ∧ shr = [])
theorem FnOk.mono {α β : Type} {P : Program} {av : α → List Value} {rv : β → Value} {v : Value} {φ : α → Option β} {h h' : PH} (hl : h.le h') (hf : FnOk P av rv v φ h) : FnOk P av rv v φ h' :=
  ⟨hf.1, fun x r e => let ⟨f, cp, shr0, a, b, c, d⟩ := hf.2 x r e; ⟨f, cp, shr0, a, b, fun F hF => F.mono hl (c F hF), d⟩⟩
def Fact.fn {α β : Type} (P : Program) (av : α → List Value) (rv : β → Value) (v : Value) (φ : α → Option β) : Fact := ⟨FnOk P av rv v φ, FnOk.mono⟩
def av0 : Unit → List Value := fun _ => []
/-- function values without arguments, in cells -/
def Shape.fn {β : Type} (P : Program) (rv : β → Value) : Shape (Option β) :=
  ⟨1, false, fun h cs o => ∃ v, cs = [v] ∧ FnOk P av0 rv v (fun _ => o) h, fun hl ⟨v, e, h⟩ => ⟨v, e, h.mono hl⟩, fun ⟨v, e, _⟩ => by subst e; rfl, fun ⟨v, e, h⟩ u hu => by subst e; simp at hu; subst hu; exact h.1⟩
theorem fal_nil {R : PH} : ∀ F ∈ ([] : List Fact), F.p R := fun F h => by cases h
theorem fal_cons {R : PH} {G : Fact} {l : List Fact} (h : G.p R) (hs : ∀ F ∈ l, F.p R) : ∀ F ∈ G :: l, F.p R := fun F hF => by
  cases hF with
  | head => exact h
  | tail _ hm => exact hs F hm
section
variable {c : Cx} {k : List Item} {o : Oper} {fr : List (Nat × Option Value)} {own : List (Option Res)} {shr : List Fact} {d : Nat}
/-- a call whose facts follow -/
theorem OpT_callG {f : FuncId} {fx : Operand} {as : Array Operand} {ats : Array TypeId} {vs : List Value} {cp : List Value} {args : Array Value} {shr0 : List Fact} {rv : Value} {dd : Option Nat} (hC : Ctr c.P f args [] shr0 (fun u own shr => u = rv ∧ own = [] ∧ shr = [])) (hn : dstOk dd c.n = true) (hd : o.dst = dd)
    (ho : o.op = .call { callee := .value fx, args := as, argTypes := ats }) (hfx : ev fr fx = some (.func (.func f) #[] cp.toArray)) (hvs : evl fr as.toList = some vs) (hc : Callee c.P f) (ha : args = (vs ++ cp).toArray) {a : Act} {w : World} (hs : Sat c ⟨fr, own, shr⟩ a w) (hF : Sat c ⟨fr, own, shr ++ shr0⟩ a w) {K : Act → World → Prop} {Q : Exit → Act → World → Prop}
    (hK : ∀ a' w', Sat c ⟨putD dd rv fr, own, shr⟩ a' w' → K a' w') : o.wp c.P a w K Q := by
  have hev := hs.2.2.1
  obtain ⟨R, hs', hw⟩ := hF.2.2.2
  unfold Oper.wp
  have hmap : as.map a.eval = vs.toArray := by apply Array.ext'; simpa using evl_eval hev hvs
  have hrun : (execOp a.eval o).run c.P w = .ok (.enter f (vs.toArray ++ cp.toArray)) w := by
    have := hc (vs.toArray ++ cp.toArray) w
    simp only [List.append_toArray] at this
    simp only [execOp, ho, resolve, hmap, ev_eval hev hfx, Deferred.ofValue, Sem.run_bind, Sem.run_pure, Result.andThen_ok, invoke, List.append_toArray, List.nil_append, this]
  rw [hrun, Oper.upon_enter]
  have harg : vs.toArray ++ cp.toArray = args := by rw [ha]; simp
  rw [harg]
  have hw2 := hw.pick [] (shr' := shr0) rfl (fun F h => List.mem_append_right _ h)
  refine (hC R w (fun _ => PH.emp) hw.rw_ (fun F hF => hw.sh F (List.mem_append_right _ hF)) (fun i r hi => by cases hi) (fun i b o hb => by cases hb) (fun i j _ b => .inl rfl) (fun i b => .inr rfl)).mono ?_
  rintro e w1 ⟨rv', own1, shr1, rfl, ⟨rfl, rfl, rfl⟩, hh⟩
  dsimp only
  have hh' : HSat R w (fun b => ∃ i, i < ([] : List Res).length ∧ (match ([] : List Nat)[i]? with | some j => hs' j | none => PH.emp : PH) b ≠ none) (([] : List Res).map some) [] w1 := hh
  have hcall := hw.call [] [] 0 rfl hh'
  have h1 : HSat c.R0 c.w0 c.B own shr w1 := by
    obtain ⟨R2, hs2, hw3⟩ := hcall
    refine ⟨R2, hs2, hw3.r0, hw3.rw_, fun F hF => hw3.sh F (by simp [hF]), fun i r hi => hw3.ow i r (by simpa [clear] using hi), hw3.hw, hw3.dj, hw3.rd, hw3.new, hw3.rnew, hw3.size, hw3.keep, hw3.os, hw3.tape, hw3.output⟩
  rw [hd]
  cases dd with
  | none => exact hK _ _ ⟨hs.1, hs.2.1, hs.2.2.1, h1⟩
  | some d => exact hK _ _ (Sat_put (c := c) hn ⟨hs.1, hs.2.1, hs.2.2.1, h1⟩)
/-- a function value is called -/
theorem OpT_callF {α β : Type} {P : Program} {av : α → List Value} {rv : β → Value} {v u : Value} {φ : α → Option β} (x : α) {r : β} {fx : Operand} {as : Array Operand} {ats : Array TypeId} {i : Nat} {dd : Option Nat} (hn : dstOk dd c.n = true) (hd : o.dst = dd)
    (ho : o.op = .call { callee := .value fx, args := as, argTypes := ats }) (hfx : ev fr fx = some v) (hi : shr[i]? = some (Fact.fn P av rv v φ)) (hP : c.P = P) (hvs : evl fr as.toList = some (av x)) (hx : φ x = some r) (hu : rv r = u) : OpT c o ⟨fr, own, shr⟩ (fun s => s = ⟨putD dd u fr, own, shr⟩) := by
  intro a w hs K Q hK
  subst hP; subst hu
  have hG : ∀ R, (∀ F ∈ shr, F.p R) → ∃ q : FuncId × List Value × List Fact, (v = .func (.func q.1) #[] q.2.1.toArray ∧ Callee c.P q.1 ∧ Ctr c.P q.1 (av x ++ q.2.1).toArray [] q.2.2 (fun u own shr => u = rv r ∧ own = [] ∧ shr = [])) ∧ ∀ G ∈ q.2.2, G.p R := fun R hF => by
    obtain ⟨_, h⟩ := (mem_at hi hF : FnOk c.P av rv v φ R)
    obtain ⟨f, cp, shr0, a1, a2, a3, a4⟩ := h x r hx
    exact ⟨⟨f, cp, shr0⟩, ⟨a1, a2, a4⟩, a3⟩
  obtain ⟨q, ⟨hv, hc, hC⟩, hh⟩ := hs.2.2.2.adds (P := fun q : FuncId × List Value × List Fact => v = .func (.func q.1) #[] q.2.1.toArray ∧ Callee c.P q.1 ∧ Ctr c.P q.1 (av x ++ q.2.1).toArray [] q.2.2 (fun u own shr => u = rv r ∧ own = [] ∧ shr = [])) (Gs := fun q => q.2.2) hG
  subst hv
  exact OpT_callG hC hn hd ho hfx hvs hc rfl hs ⟨hs.1, hs.2.1, hs.2.2.1, hh⟩ (fun a' w' h => hK _ rfl a' w' h)
theorem OpT_loadPF {β : Type} {P : Program} {rv : β → Value} {t : TypeId} {x : Operand} {p : Value} {i n : Nat} {y : Option β} (hn : Nat.blt d c.n = true) (hd : o.dst = some d) (ho : o.op = .load t x) (hx : ev fr x = some p)
    (ht : TyF c.P t false n) (hi : shr[i]? = some (Fact.pt (Shape.fn P rv) p y)) : OpT c o ⟨fr, own, shr⟩ (fun s => ∃ v, s = ⟨(d, some v) :: fr, own, shr ++ [Fact.fn P av0 rv v (fun _ => y)]⟩) :=
  OpT_run hn hd fun a w hs => by
    obtain ⟨R, hs', hw⟩ := hs.2.2.2
    obtain ⟨ad, cs, e, hc, v, e', hsl⟩ := hw.sh _ (List.mem_of_getElem? hi)
    subst e; subst e'
    have h1 := PH.cell_inW hw.rw_ (hc 0 v rfl)
    rw [Addr.add_zero'] at h1
    refine ⟨v, w, v, by simp [execOp, ho, ev_eval hs.2.2.1 hx, Instr.loadAt, Instr.sureAddr, loadVar, ht.ag, h1], rfl, ?_⟩
    exact ⟨R, hs', hw.r0, hw.rw_, fun F hF => by
      rcases List.mem_append.1 hF with h | h
      · exact hw.sh F h
      · simp at h; subst h; exact hsl, hw.ow, hw.hw, hw.dj, hw.rd, hw.new, hw.rnew, hw.size, hw.keep, hw.os, hw.tape, hw.output⟩
theorem rel_fn {β : Type} {P : Program} {rv : β → Value} {v : Value} {y : Option β} {i : Nat} (hi : shr[i]? = some (Fact.fn P av0 rv v (fun _ => y))) : ∀ R, (∀ F ∈ shr, F.p R) → (Shape.fn P rv).rel R [v] y := fun R hF => ⟨v, rfl, mem_at hi hF⟩
/-- values of one cell each -/
theorem one_cells {v : Value} (h : v.oneCell' = true) : v.cells = #[v] := by
  cases v <;> first | rfl | simp [Value.oneCell'] at h
theorem OpT_buildOne {τ : Type} (S : Shape τ) {t e : TypeId} {n : Nat} {ps : Array (Nat × Operand)} {vs : List Value} {xs : List τ} {b : Nat} {z : Value} (hS : S.sz = 1) (hn : Nat.blt d c.n = true) (hd : o.dst = some d) (ho : o.op = .buildSlice t n ps) (hx : evs fr ps.toList = some (numb vs 0)) (ht : SlF c.P t e 1 b z)
    (hnv : vs.length = n) (hl : vs.length = xs.length) (hm : Nat.ble n 65536 = true) (hrel : ∀ R, (∀ F ∈ shr, F.p R) → ∀ (i : Nat) (ci : List Value) (x : τ), (vs.map fun v => [v])[i]? = some ci → xs[i]? = some x → S.rel R ci x) :
    OpT c o ⟨fr, own, shr⟩ (fun s => ∃ v, s = ⟨(d, some v) :: fr, own ++ [some (rowS S v xs)], shr⟩) := fun a w hs => by
  have hm' := Nat.le_of_ble_eq_true hm
  have hcl : ∀ v ∈ vs, v.cells = #[v] := fun v h => by
    obtain ⟨R, hs', hw⟩ := hs.2.2.2
    obtain ⟨i, hi⟩ := List.mem_iff_getElem?.1 h
    have hlt := (List.getElem?_eq_some_iff.1 hi).1
    have hr := hrel R hw.sh i [v] (xs[i]'(by omega)) (by simp [hi]) (List.getElem?_eq_getElem _)
    exact one_cells (S.one hr v (by simp))
  have hb : BldF c.P t n (numb vs 0) e vs := by
    refine bldF ht (by omega) ?_
    have hsz : (if n * 1 = 0 then #[] else (Array.range (n * 1)).map (z.cells[· % z.cells.size]!)).size = n := by
      split
      · simp; omega
      · simp
    have := fill_numb vs 0 (if n * 1 = 0 then #[] else (Array.range (n * 1)).map (z.cells[· % z.cells.size]!)) hcl (by rw [hsz]; omega)
    simpa using this
  exact OpT_buildSlice (S := S) (xs := xs) (css := vs.map fun v => [v]) (cs := vs) hn hd ho hx hb (by simp [← List.flatMap_def]) (by simp [hl]) (by omega) (by simp only [Nat.ble_eq]; omega) hrel a w hs

/-! interfaces -/
def MkIf (P : Program) (t : TypeId) : Prop := ∀ v w, (Instr.makeInterface t v).run P w = .ok (.iface t v) w
def Asrt (P : Program) (u x t : TypeId) : Prop := ∀ v w, (Instr.typeAssert (.iface u v) x t false).run P w = .ok v w
def Meth (P : Program) (t : TypeId) (m : String) (f : FuncId) : Prop := ∀ v w, (method (P.types.size + Made.depth) t v m).run P w = .ok (f, v) w
theorem OpT_mkIf {t : TypeId} {x : Operand} {v : Value} (hn : Nat.blt d c.n = true) (hd : o.dst = some d) (ho : o.op = .makeInterface t x) (hx : ev fr x = some v) (ht : MkIf c.P t) : OpT c o ⟨fr, own, shr⟩ (fun y => y = ⟨(d, some (.iface t v)) :: fr, own, shr⟩) :=
  OpT_val hn hd fun a w hs => by simp [execOp, ho, ev_eval hs.2.2.1 hx, ht v w]
theorem OpT_asrt {u y t : TypeId} {x : Operand} {v : Value} (hn : Nat.blt d c.n = true) (hd : o.dst = some d) (ho : o.op = .typeAssert x y t false) (hx : ev fr x = some (.iface u v)) (ht : Asrt c.P u y t) : OpT c o ⟨fr, own, shr⟩ (fun y => y = ⟨(d, some v) :: fr, own, shr⟩) :=
  OpT_val hn hd fun a w hs => by simp [execOp, ho, ev_eval hs.2.2.1 hx, ht v w]
theorem OpT_invoke {t : TypeId} {m : String} {rc : Value} {f : FuncId} {fx : Operand} {as : Array Operand} {ats : Array TypeId} {vs : List Value} {args : Array Value} {own0 : List Res} {shr0 : List Fact} {Post : Value → List Res → List Fact → Prop} {dd : Option Nat} (hC : Ctr c.P f args own0 shr0 Post) (is js : List Nat) (hn : dstOk dd c.n = true) (hd : o.dst = dd)
    (ho : o.op = .call { callee := .invoke fx m, args := as, argTypes := ats }) (hfx : ev fr fx = some (.iface t rc)) (hvs : evl fr as.toList = some vs) (hc : Meth c.P t m f ∧ Callee c.P f) (ha : args = (rc :: vs).toArray) (hnd : nodupB is = true) (hio : pick own is = own0.map some) (hjs : pickF shr js = some shr0) :
    OpT c o ⟨fr, own, shr⟩ (fun s => ∃ rv own1 shr1, Post rv own1 shr1 ∧ s = ⟨putD dd rv fr, clear own is ++ own1.map some, shr ++ shr1⟩) := by
  intro a w hs K Q hK
  have hev := hs.2.2.1
  obtain ⟨R, hs', hw⟩ := hs.2.2.2
  unfold Oper.wp
  have hmap : as.map a.eval = vs.toArray := by apply Array.ext'; simpa using evl_eval hev hvs
  have hrun : (execOp a.eval o).run c.P w = .ok (.enter f (rc :: vs).toArray) w := by
    have h1 := hc.2 (rc :: vs).toArray w
    have h2 := hc.1 rc w
    have e1 : (#[Value.iface t rc] ++ vs.toArray)[0]? = some (.iface t rc) := by simp
    have e2 : (#[Value.iface t rc] ++ vs.toArray).extract 1 (#[Value.iface t rc] ++ vs.toArray).size = vs.toArray := by
      apply Array.ext'; simp
    have e3 : #[rc] ++ vs.toArray = (rc :: vs).toArray := by simp
    simp only [execOp, ho, resolve, hmap, ev_eval hev hfx, Sem.run_bind, Sem.run_pure, Result.andThen_ok, invoke, e1, e2, callMethod, run_program, h2, e3, h1]
  rw [hrun, Oper.upon_enter]
  have hil : is.length = own0.length := by
    have := congrArg List.length hio
    simpa [pick] using this
  have hall : ∀ (i : Nat), (match is[i]? with | some j => hs' j | none => PH.emp : PH).inW w := fun i => by
    cases e : is[i]? with
    | some j => exact hw.hw j
    | none => intro b o hb; cases hb
  rw [← ha]
  have hw2 := hw.pick is hnd (pickF_mem hjs)
  refine (hC R w (fun (i : Nat) => match is[i]? with | some j => hs' j | none => PH.emp) hw.rw_ (fun F hF => hw.sh F (pickF_mem hjs F hF)) ?_ hall ?_ ?_).mono ?_
  · intro i r hi
    refine hw2.ow i r ?_
    rw [hio]; simp [hi]
  · exact hw2.dj
  · exact hw2.rd
  · rintro e w1 ⟨rv, own1, shr1, rfl, hp, hh⟩
    dsimp only
    have hcall := hw.call is own1 own0.length hil hh
    have hfin : HSat c.R0 c.w0 c.B (clear own is ++ own1.map some) (shr ++ shr1) w1 := hcall
    refine hK _ ⟨rv, own1, shr1, hp, rfl⟩ _ _ ?_
    rw [hd]
    cases dd with
    | none => exact ⟨hs.1, hs.2.1, hs.2.2.1, hfin⟩
    | some d => exact Sat_put (c := c) hn ⟨hs.1, hs.2.1, hs.2.2.1, hfin⟩
end
end Go.Proofs.Ytihcimjfabdafaa
