/- The engine, part 3: operations on memory of one's own: boxes and variables of known cells. No statement of the seat is proved here; no condition. -/
import Derived.Test.YtlofegfaphijpaaEng2
namespace Go.Proofs.Ytlofegfaphijpaa

/-! ## a step that writes into the part i, or lays new memory as part i -/
theorem HW.upd {R0 : PH} {w0 : World} {B : Nat → Prop} {own own' : List (Option Res)} {shr : List Fact} {w w' : World} {R : PH} {hs : Nat → PH} (h : HW R0 w0 B own shr w R hs) (i : Nat) (h' : PH)
    (hk : ∀ b, b < w.heap.size → hs i b = none → w'.heap[b]? = w.heap[b]?) (hsz : w.heap.size ≤ w'.heap.size) (hin : h'.inW w')
    (hdom : ∀ b o, h' b = some o → hs i b ≠ none ∨ w.heap.size ≤ b) (hos : w'.os = w.os) (htape : w'.tape = w.tape) (hout : w'.output = w.output)
    (hown : ∀ (j : Nat) (r : Res), own'[j]? = some (some r) → (j = i ∧ r.p R h') ∨ (j ≠ i ∧ own[j]? = some (some r))) :
    HW R0 w0 B own' shr w' R (fun j => if j = i then h' else hs j) := by
  have lt_of_in : ∀ {x : PH}, x.inW w → ∀ b o, x b = some o → b < w.heap.size := fun hx b o hb => (Array.getElem?_eq_some_iff.1 (hx b o hb)).1
  have keepIn : ∀ {x : PH}, x.inW w → x.disj (hs i) → x.inW w' := fun {x} hx hd b o hb => by
    have h1 : hs i b = none := by
      rcases hd b with h | h
      · rw [h] at hb; cases hb
      · exact h
    rw [hk b (lt_of_in hx b o hb) h1]; exact hx b o hb
  have disj' : ∀ {x : PH}, x.inW w → x.disj (hs i) → x.disj h' := fun {x} hx hd b => by
    cases hb : x b with
    | none => exact .inl rfl
    | some o =>
      right
      cases hb' : h' b with
      | none => rfl
      | some o' =>
        rcases hdom b o' hb' with q | q
        · rcases hd b with q' | q'
          · rw [q'] at hb; cases hb
          · exact absurd q' q
        · have := lt_of_in hx b o hb; omega
  refine ⟨h.r0, keepIn h.rw_ (h.rd i), h.sh, ?_, ?_, ?_, ?_, ?_, h.rnew, Nat.le_trans h.size hsz, ?_, hos.trans h.os, htape.trans h.tape, hout.trans h.output⟩
  · intro j r hj
    rcases hown j r hj with ⟨e, hr⟩ | ⟨e, hr⟩
    · simp only [e, if_true]; exact hr
    · simp only [e, if_false]; exact h.ow j r hr
  · intro j
    by_cases e : j = i
    · simp only [e, if_true]; exact hin
    · simp only [e, if_false]; exact keepIn (h.hw j) (h.dj j i e)
  · intro j l hjl
    by_cases e : j = i
    · have e' : l ≠ i := fun q => hjl (e.trans q.symm)
      simp only [e, e', if_true, if_false]; exact PH.disj_comm (disj' (h.hw l) (h.dj l i e'))
    · by_cases e' : l = i
      · simp only [e, e', if_true, if_false]; exact disj' (h.hw j) (h.dj j i e)
      · simp only [e, e', if_false]; exact h.dj j l hjl
  · intro j
    by_cases e : j = i
    · simp only [e, if_true]; exact disj' h.rw_ (h.rd i)
    · simp only [e, if_false]; exact h.rd j
  · intro j b o hb
    by_cases e : j = i
    · simp only [e, if_true] at hb
      rcases hdom b o hb with q | q
      · cases hb' : hs i b with
        | none => exact absurd hb' q
        | some o' => exact h.new i b o' hb'
      · exact .inr (Nat.le_trans h.size q)
    · simp only [e, if_false] at hb; exact h.new j b o hb
  · intro b hb hB
    have h1 : hs i b = none := by
      cases hb' : hs i b with
      | none => rfl
      | some o' =>
        rcases h.new i b o' hb' with q | q
        · exact absurd q hB
        · omega
    rw [hk b (Nat.lt_of_lt_of_le hb h.size) h1]; exact h.keep b hb hB

/-- the memory changes only as 'drew' changes it -/
theorem HW.drew {R0 : PH} {w0 : World} {B : Nat → Prop} {own : List (Option Res)} {shr : List Fact} {w : World} {R : PH} {hs : Nat → PH} (h : HW R0 w0 B own shr w R hs) : HW R0 w0 B own shr w.drew R hs :=
  ⟨h.r0, h.rw_, h.sh, h.ow, h.hw, h.dj, h.rd, h.new, h.rnew, h.size, h.keep, h.os, h.tape, h.output⟩

theorem HSat.alloc {R0 : PH} {w0 : World} {B : Nat → Prop} {own : List (Option Res)} {shr : List Fact} {w : World} (h : HSat R0 w0 B own shr w) (o : Obj) (r : Res) (hr : ∀ R, R0.le R → (∀ F ∈ shr, F.p R) → r.p R (PH.one w.heap.size o)) : HSat R0 w0 B (own ++ [some r]) shr (w.alloc o) := by
  obtain ⟨R, hs, hw⟩ := h
  refine ⟨R, _, hw.upd own.length (PH.one w.heap.size o) ?_ (by simp) ?_ ?_ rfl rfl rfl ?_⟩
  · intro b hb _; exact heap_alloc_old w o hb
  · intro b o' hb; obtain ⟨e, e'⟩ := PH.one_some hb; subst e; subst e'; exact heap_alloc_new w o'
  · intro b o' hb; obtain ⟨e, _⟩ := PH.one_some hb; right; omega
  · intro j r' hj
    by_cases e : j = own.length
    · subst e; simp at hj; subst hj; exact .inl ⟨rfl, hr R hw.r0 hw.sh⟩
    · right; refine ⟨e, ?_⟩
      rcases Nat.lt_or_ge j own.length with hlt | hge
      · rwa [List.getElem?_append_left hlt] at hj
      · have : j - own.length ≠ 0 := by omega
        rw [List.getElem?_append_right hge] at hj
        cases hq : j - own.length with
        | zero => omega
        | succ q => rw [hq] at hj; simp at hj

/-! ## a block of known cells -/
def cellsR (b : Nat) (t : TypeId) (cs : List Value) : Res := ⟨fun _ h => h b = some (.cells cs.toArray t (0, 0)), fun _ h => h⟩

theorem HSat.lookC {R0 : PH} {w0 : World} {B : Nat → Prop} {own : List (Option Res)} {shr : List Fact} {w : World} (h : HSat R0 w0 B own shr w) {i b : Nat} {t : TypeId} {cs : List Value} (hi : own[i]? = some (some (cellsR b t cs))) :
    w.heap[b]? = some (.cells cs.toArray t (0, 0)) := by
  obtain ⟨R, hs, hw⟩ := h
  exact hw.hw i b _ (hw.ow i _ hi)
theorem own_set {own : List (Option Res)} {i : Nat} {x : Res} {R h' : PH} (hr : x.p R h') : ∀ (j : Nat) (r : Res), (own.set i (some x))[j]? = some (some r) → (j = i ∧ r.p R h') ∨ (j ≠ i ∧ own[j]? = some (some r)) := by
  intro j r hj
  by_cases e : j = i
  · subst e
    rcases Nat.lt_or_ge j own.length with hlt | hge
    · simp [hlt] at hj; subst hj; exact .inl ⟨rfl, hr⟩
    · simp [Nat.not_lt.2 hge] at hj
  · right; refine ⟨e, ?_⟩
    rwa [List.getElem?_set_ne (fun q => e q.symm)] at hj
theorem HSat.setC {R0 : PH} {w0 : World} {B : Nat → Prop} {own : List (Option Res)} {shr : List Fact} {w w' : World} (h : HSat R0 w0 B own shr w) {i b : Nat} {t : TypeId} {cs cs' : List Value} (hi : own[i]? = some (some (cellsR b t cs)))
    (hb : w'.heap[b]? = some (.cells cs'.toArray t (0, 0))) (ho : ∀ k, k ≠ b → w'.heap[k]? = w.heap[k]?) (hsz : w'.heap.size = w.heap.size) (hos : w'.os = w.os) (htape : w'.tape = w.tape) (hout : w'.output = w.output) :
    HSat R0 w0 B (own.set i (some (cellsR b t cs'))) shr w' := by
  obtain ⟨R, hs, hw⟩ := h
  have hib := hw.ow i _ hi
  refine ⟨R, _, hw.upd i (PH.one b (.cells cs'.toArray t (0, 0))) ?_ (by omega) ?_ ?_ hos htape hout (own_set (PH.one_self b _))⟩
  · intro k hk hn
    by_cases e : k = b
    · subst e; rw [show hs i k = _ from hib] at hn; cases hn
    · exact ho k e
  · intro k o hk; obtain ⟨e, e'⟩ := PH.one_some hk; subst e; subst e'; exact hb
  · intro k o hk; obtain ⟨e, _⟩ := PH.one_some hk; subst e; left; rw [show hs i k = _ from hib]; simp

/-! ## types -/
/-- a type's cells, and whether a value of it is an aggregate -/
structure TyF (P : Program) (t : TypeId) (agg : Bool) (n : Nat) : Prop where
  ag : ∀ w, (isAgg t).run P w = .ok agg w
  sz : ∀ w, (sizeOf t).run P w = .ok n w
/-- a type's zero -/
def TyZ (P : Program) (t : TypeId) (z : Value) : Prop := ∀ w, (zeroValue t).run P w = .ok z w

section
variable {c : Cx} {k : List Item} {o : Oper} {fr : List (Nat × Option Value)} {own : List (Option Res)} {shr : List Fact} {d : Nat}

/-- an operation that yields a value in another world -/
theorem OpT_run {α : Type} {f : α → St} {o : Oper} {fr : List (Nat × Option Value)} {own : List (Option Res)} {shr : List Fact} {d : Nat} (hn : Nat.blt d c.n = true) (hd : o.dst = some d)
    (h : ∀ a w, Sat c ⟨fr, own, shr⟩ a w → ∃ (v : Value) (w' : World) (x : α), (execOp a.eval o).run c.P w = .ok (.value v) w' ∧ f x = ⟨(d, some v) :: fr, (f x).own, (f x).shr⟩ ∧ HSat c.R0 c.w0 c.B (f x).own (f x).shr w') :
    OpT c o ⟨fr, own, shr⟩ (fun s => ∃ x, s = f x) := by
  intro a w hs K Q hK
  obtain ⟨v, w', x, hr, he, hh⟩ := h a w hs
  unfold Oper.wp
  rw [hr, Oper.upon_value, hd]
  have := Sat_put (c := c) (shr := (f x).shr) (own := (f x).own) (fr := fr) (v := v) (w := w') (a := a) hn ⟨hs.1, hs.2.1, hs.2.2.1, hh⟩
  refine hK (f x) ⟨x, rfl⟩ _ _ ?_
  rw [he]; exact this

theorem OpT_box {t : TypeId} {x : Operand} {v : Value} (hn : Nat.blt d c.n = true) (hd : o.dst = some d) (ho : o.op = .box t x) (hx : ev fr x = some v) :
    OpT c o ⟨fr, own, shr⟩ (fun s => ∃ b, s = ⟨(d, some (.pointer (some ⟨b, 0, none⟩))) :: fr, own ++ [some (cellsR b t v.cells.toList)], shr⟩) :=
  OpT_run hn hd fun a w hs => ⟨_, w.alloc (.cells v.cells t), w.heap.size, by simp [execOp, ho, ev_eval hs.2.2.1 hx, Instr.box, newVar, newRow], rfl,
    hs.2.2.2.alloc _ _ (fun _ _ _ => by simp [cellsR, PH.one_self])⟩
theorem OpT_alloc {t : TypeId} {z : Value} (hn : Nat.blt d c.n = true) (hd : o.dst = some d) (ho : o.op = .alloc t) (hz : TyZ c.P t z) :
    OpT c o ⟨fr, own, shr⟩ (fun s => ∃ b, s = ⟨(d, some (.pointer (some ⟨b, 0, none⟩))) :: fr, own ++ [some (cellsR b t z.cells.toList)], shr⟩) :=
  OpT_run hn hd fun a w hs => ⟨_, w.alloc (.cells z.cells t), w.heap.size, by simp [execOp, ho, Instr.alloc, newVar, newRow, hz w], rfl,
    hs.2.2.2.alloc _ _ (fun _ _ _ => by simp [cellsR, PH.one_self])⟩

theorem cellC {w : World} {b off : Nat} {cs : List Value} {t : TypeId} (h : w.heap[b]? = some (.cells cs.toArray t (0, 0))) : w.cell? ⟨b, off, none⟩ = cs[off]? := by
  rw [cell_of_row w b off cs.toArray t (0, 0) h]; simp
/-- loading one cell of a block of one's own -/
theorem OpT_loadC {t : TypeId} {x : Operand} {b off i m : Nat} {tb : TypeId} {cs : List Value} {v : Value} (hn : Nat.blt d c.n = true) (hd : o.dst = some d) (ho : o.op = .load t x) (hx : ev fr x = some (.pointer (some ⟨b, off, none⟩)))
    (ht : TyF c.P t false m) (hi : own[i]? = some (some (cellsR b tb cs))) (hv : cs[off]? = some v) : OpT c o ⟨fr, own, shr⟩ (fun s => s = ⟨(d, some v) :: fr, own, shr⟩) :=
  OpT_val hn hd fun a w hs => by
    have h1 := cellC (off := off) (hs.2.2.2.lookC hi)
    rw [hv] at h1
    simp [execOp, ho, ev_eval hs.2.2.1 hx, Instr.loadAt, Instr.sureAddr, loadVar, ht.ag, h1]
/-- loading an aggregate -/
theorem OpT_loadCA {t : TypeId} {x : Operand} {b off i m : Nat} {tb : TypeId} {cs vs : List Value} (hn : Nat.blt d c.n = true) (hd : o.dst = some d) (ho : o.op = .load t x) (hx : ev fr x = some (.pointer (some ⟨b, off, none⟩)))
    (ht : TyF c.P t true m) (hi : own[i]? = some (some (cellsR b tb cs))) (hv : (cs.drop off).take m = vs) (hl : Nat.beq vs.length m = true) : OpT c o ⟨fr, own, shr⟩ (fun s => s = ⟨(d, some (.agg vs.toArray)) :: fr, own, shr⟩) :=
  OpT_val hn hd fun a w hs => by
    have h1 := hs.2.2.2.lookC hi
    have hm : vs.length = m := Nat.eq_of_beq_eq_true hl
    have h2 : (loadCells ⟨b, off, none⟩ m).run c.P w = .ok vs.toArray w := by
      rw [← hm]
      refine run_loadCells_list w _ vs ?_
      intro j v hj
      rw [Addr.add_lit, cellC h1]
      subst hv
      rw [List.getElem?_take] at hj
      split at hj
      · simpa using hj
      · cases hj
    simp [execOp, ho, ev_eval hs.2.2.1 hx, Instr.loadAt, Instr.sureAddr, loadVar, ht.ag, ht.sz, h2]

theorem OpT_skipRun {own' : List (Option Res)} {o : Oper} {fr : List (Nat × Option Value)} {own : List (Option Res)} {shr : List Fact} (hd : o.dst = none)
    (h : ∀ a w, Sat c ⟨fr, own, shr⟩ a w → ∃ w' : World, (execOp a.eval o).run c.P w = .ok .skip w' ∧ HSat c.R0 c.w0 c.B own' shr w') :
    OpT c o ⟨fr, own, shr⟩ (fun s => s = ⟨fr, own', shr⟩) := by
  intro a w hs K Q hK
  obtain ⟨w', hr, hh⟩ := h a w hs
  unfold Oper.wp
  rw [hr, Oper.upon_skip, hd]
  exact hK _ rfl _ _ ⟨hs.1, hs.2.1, hs.2.2.1, hh⟩

/-- storing into a block of one's own -/
theorem OpT_storeC {t : TypeId} {x y : Operand} {b off i m : Nat} {tb : TypeId} {cs cs' : List Value} {v : Value} {ag : Bool} (hd : o.dst = none) (ho : o.op = .store t x y) (hx : ev fr x = some (.pointer (some ⟨b, off, none⟩))) (hy : ev fr y = some v)
    (ht : TyF c.P t ag m) (hi : own[i]? = some (some (cellsR b tb cs))) (hm : Nat.beq v.cells.toList.length m = true) (hl : Nat.ble (off + m) cs.length = true) (h1 : ∀ u ∈ v.cells.toList, u.oneCell' = true)
    (hc : cs.take off ++ v.cells.toList ++ cs.drop (off + m) = cs') :
    OpT c o ⟨fr, own, shr⟩ (fun s => s = ⟨fr, own.set i (some (cellsR b tb cs')), shr⟩) :=
  OpT_skipRun hd fun a w hs => by
    have h0 := hs.2.2.2.lookC hi
    have hm' : v.cells.toList.length = m := Nat.eq_of_beq_eq_true hm
    have hl' : off + m ≤ cs.length := Nat.le_of_ble_eq_true hl
    have hst := run_storeCells_at c.P b off tb v.cells.toList 0 cs.toArray w h0 (by simpa [hm'] using hl') h1
    simp only [Nat.add_zero, hm', hc] at hst
    have hsz : v.cells.size = m := by simpa using hm'
    refine ⟨w.setRow b cs'.toArray, ?_, hs.2.2.2.setC hi (setRow_heap w b cs.toArray cs'.toArray tb (0, 0) h0) (fun k hk => setRow_other w b k _ hk) (by simp) rfl rfl rfl⟩
    simp [execOp, ho, ev_eval hs.2.2.1 hx, ev_eval hs.2.2.1 hy, Instr.storeAt, Instr.sureAddr, storeVar, ht.sz, hsz, hst]
theorem one_of {l : List Value} (h : l.all (·.oneCell') = true) : ∀ u ∈ l, u.oneCell' = true := List.all_eq_true.1 h

/-- where a field lies -/
def FldF (P : Program) (t : TypeId) (f off : Nat) : Prop := ∀ (a : Addr) (w : World), (Instr.fieldAt t (.pointer (some a)) f).run P w = .ok (.pointer (some (a.add off))) w
theorem OpT_fieldC {t : TypeId} {x : Operand} {b off f m : Nat} (hn : Nat.blt d c.n = true) (hd : o.dst = some d) (ho : o.op = .fieldAddr t x f) (hx : ev fr x = some (.pointer (some ⟨b, off, none⟩))) (hf : FldF c.P t f m) :
    OpT c o ⟨fr, own, shr⟩ (fun s => s = ⟨(d, some (.pointer (some ⟨b, off + m, none⟩))) :: fr, own, shr⟩) :=
  OpT_val hn hd fun a w hs => by
    have := hf ⟨b, off, none⟩ w
    rw [Addr.add_lit] at this
    simp [execOp, ho, ev_eval hs.2.2.1 hx, this]
/-- an array's type: how many elements, of how many cells -/
structure ArrF (P : Program) (t : TypeId) (n : Nat) (e : TypeId) (sz : Nat) : Prop where
  und : P.underlying t = some (.array n e)
  ez : ∀ w, (sizeOf e).run P w = .ok sz w
theorem OpT_indexC {t e : TypeId} {x y : Operand} {b off n sz : Nat} {kk : IntKind} {i : Int} (hn : Nat.blt d c.n = true) (hd : o.dst = some d) (ho : o.op = .indexAddr t x y) (hx : ev fr x = some (.pointer (some ⟨b, off, none⟩)))
    (hy : ev fr y = some (.int kk i)) (ht : ArrF c.P t n e sz) (hi : decide (0 ≤ i ∧ i < (n : Int)) = true) :
    OpT c o ⟨fr, own, shr⟩ (fun s => s = ⟨(d, some (.pointer (some ⟨b, off + i.toNat * sz, none⟩))) :: fr, own, shr⟩) :=
  OpT_val hn hd fun a w hs => by
    have hi' : 0 ≤ i ∧ i < (n : Int) := by simpa using hi
    have hu := run_underlying ht.und w
    simp only [execOp, ho, ev_eval hs.2.2.1 hx, ev_eval hs.2.2.1 hy, Instr.indexAt, asIntOf, Sem.run_bind, Sem.run_pure, Result.andThen_ok, hu, Instr.sureAddr, Sem.run_ite, if_pos hi', ht.ez, Addr.add_lit]
end
end Go.Proofs.Ytlofegfaphijpaa
