/- The engine, part 17: rows of constant bytes, maps of one's own. No statement of the seat is proved here; no condition. -/
import Derived.Test.YtlofegfaphijpaaEng16
namespace Go.Proofs.Ytlofegfaphijpaa
open MapKept (IsKey)
/-- a row of one's own becomes one that all read -/
theorem Sat.ret {τ : Type} {S : Shape τ} {c : Cx} {fr : List (Nat × Option Value)} {own : List (Option Res)} {shr : List Fact} {a : Act} {w : World} {i : Nat} {v : Value} {xs : List τ} (hs : Sat c ⟨fr, own, shr⟩ a w) (hi : own[i]? = some (some (rowS S v xs))) : Sat c ⟨fr, own.set i none, shr ++ [Fact.sl S v xs]⟩ a w := by
  obtain ⟨R, hs', hw⟩ := hs.2.2.2
  exact ⟨hs.1, hs.2.1, hs.2.2.1, _, _, hw.retire i _ (RowRel.slice (hw.rd i) (hw.ow i _ hi))⟩
/-! ## maps in plain words -/
def mget {κ ν : Type} [BEq κ] (z : ν) (k : κ) : List (κ × ν) → ν
  | [] => z
  | p :: r => bif k == p.1 then p.2 else mget z k r
def mput {κ ν : Type} [BEq κ] (k : κ) (v : ν) : List (κ × ν) → List (κ × ν)
  | [] => [(k, v)]
  | p :: r => bif k == p.1 then (k, v) :: r else p :: mput k v r
/-- keys as numbers of a kind -/
structure KeyF {κ : Type} [BEq κ] (kk : IntKind) (kf : κ → Int) : Prop where
  eq : ∀ x y, (kf x == kf y) = (x == y)
  inj : ∀ x y, (x == y) = true → kf x = kf y
theorem keyI : KeyF .i64 (fun x : Int => x) := ⟨fun _ _ => rfl, fun _ _ h => by simpa using h⟩
def entV (e : MapEntry) : Value × Value := (e.key, e.val)
def mapR {κ ν : Type} (b : Nat) (kk : IntKind) (kf : κ → Int) (V : ν → Value) (xs : List (κ × ν)) : Res :=
  ⟨fun _ h => ∃ es ck, h b = some (.map es ck) ∧ es.toList.map entV = xs.map (fun p => (Value.int kk (kf p.1), V p.2)), fun _ h => h⟩

section
variable {κ ν : Type} [BEq κ] {kk : IntKind} {kf : κ → Int} {V : ν → Value}
theorem find_map (hk : KeyF kk kf) (k : κ) (z : ν) : ∀ (es : List MapEntry) (xs : List (κ × ν)) (n : Nat), es.map entV = xs.map (fun p => (Value.int kk (kf p.1), V p.2)) →
    (Instr.findNow (.int kk) (.int kk (kf k)) es n = some none ∧ mget z k xs = z ∧ ∀ v, (mput k v xs) = xs ++ [(k, v)]) ∨
    (∃ (j : Nat) (e : MapEntry) (p : κ × ν), es[j]? = some e ∧ xs[j]? = some p ∧ Instr.findNow (.int kk) (.int kk (kf k)) es n = some (some (n + j, V p.2)) ∧ mget z k xs = p.2 ∧ e.key = .int kk (kf k) ∧ ∀ v, mput k v xs = xs.set j (k, v))
  | [], [], n, _ => .inl ⟨rfl, rfl, fun v => rfl⟩
  | [], _ :: _, _, h => by simp at h
  | _ :: _, [], _, h => by simp at h
  | e :: es, p :: xs, n, h => by
    simp only [List.map_cons, List.cons.injEq] at h
    obtain ⟨h1, h2⟩ := h
    have hkey : e.key = .int kk (kf p.1) := congrArg Prod.fst h1
    have hval : e.val = V p.2 := congrArg Prod.snd h1
    have hs : Instr.sameNow (.int kk) (.int kk (kf k)) e.key = some (kf k == kf p.1) := by rw [hkey]; simp [Instr.sameNow]
    cases hc : k == p.1 with
    | true =>
      refine .inr ⟨0, e, p, rfl, rfl, ?_, ?_, ?_, fun v => ?_⟩
      · simp only [Instr.findNow, hs, hk.eq, hc, hval, Nat.add_zero]
      · simp only [mget, hc, cond_true]
      · rw [hkey, hk.inj _ _ hc]
      · simp only [mput, hc, cond_true, List.set_cons_zero]
    | false =>
      rcases find_map hk k z es xs (n + 1) h2 with ⟨a, b, d⟩ | ⟨j, e', p', a1, a2, a3, a4, a5, a6⟩
      · refine .inl ⟨?_, ?_, fun v => ?_⟩
        · simp only [Instr.findNow, hs, hk.eq, hc]; exact a
        · simp only [mget, hc, cond_false]; exact b
        · simp only [mput, hc, cond_false, d v, List.cons_append]
      · refine .inr ⟨j + 1, e', p', by simpa using a1, by simpa using a2, ?_, ?_, a5, fun v => ?_⟩
        · simp only [Instr.findNow, hs, hk.eq, hc]; rw [a3]; congr 3; omega
        · simp only [mget, hc, cond_false]; exact a4
        · simp only [mput, hc, cond_false, a6 v, List.set_cons_succ]
variable {c : Cx} {k : List Item} {s : St} {ops : Array Oper} {rest : List Oper} {o : Oper} {fr : List (Nat × Option Value)} {own : List (Option Res)} {shr : List Fact} {d : Nat}
omit [BEq κ] in
theorem OpT_makeMap (kk : IntKind) (kf : κ → Int) (V : ν → Value) {t : TypeId} (hn : Nat.blt d c.n = true) (hd : o.dst = some d) (ho : o.op = .makeMap t none) :
    OpT c o ⟨fr, own, shr⟩ (fun s => ∃ b, s = ⟨(d, some (.map (some b))) :: fr, own ++ [some (mapR b kk kf V [])], shr⟩) :=
  OpT_run (f := fun b => ⟨(d, some (.map (some b))) :: fr, own ++ [some (mapR b kk kf V [])], shr⟩) hn hd fun a w hs => ⟨.map (some w.heap.size), w.alloc (.map #[] 0), w.heap.size, by
    have e : (Instr.makeMap t none).run c.P w = .ok (.map (some w.heap.size)) (w.alloc (.map #[] 0)) := rfl
    simp only [execOp, ho, Option.map_none, Sem.run_bind, e, Result.andThen_ok, Sem.run_pure], rfl,
    hs.2.2.2.alloc _ _ (fun _ _ _ => ⟨#[], 0, by simp [PH.one_self], rfl⟩)⟩
theorem OpT_lookup (hk : KeyF kk kf) {t tk te : TypeId} {x y : Operand} {b i : Nat} {kx : κ} {z : ν} {xs : List (κ × ν)} (hn : Nat.blt d c.n = true) (hd : o.dst = some d) (ho : o.op = .lookup t x y false) (hx : ev fr x = some (.map (some b))) (hy : ev fr y = some (.int kk (kf kx)))
    (ht : c.P.underlying t = some (.map tk te)) (htk : c.P.underlying tk = some (.int kk)) (hz : TyZ c.P te (V z)) (hi : own[i]? = some (some (mapR b kk kf V xs))) :
    OpT c o ⟨fr, own, shr⟩ (fun s => s = ⟨(d, some (V (mget z kx xs))) :: fr, own, shr⟩) :=
  OpT_val hn hd fun a w hs => by
    obtain ⟨R, hs', hw⟩ := hs.2.2.2
    obtain ⟨es, ck, h1, h2⟩ := hw.ow i _ hi
    have hb := hw.hw i b _ h1
    have hik : IsKey (.int kk) (.int kk (kf kx)) := rfl
    rcases find_map hk kx z es.toList xs 0 h2 with ⟨f1, f2, _⟩ | ⟨j, e, p, _, _, f1, f2, _, _⟩
    · rw [f2]
      simp [execOp, ho, ev_eval hs.2.2.1 hx, ev_eval hs.2.2.1 hy, Instr.lookup, run_underlying ht, MapKept.run_getObj_map hb, MapKept.run_checkKey htk hik, MapKept.run_findKey htk f1, hz w]
    · rw [f2]
      simp [execOp, ho, ev_eval hs.2.2.1 hx, ev_eval hs.2.2.1 hy, Instr.lookup, run_underlying ht, MapKept.run_getObj_map hb, MapKept.run_checkKey htk hik, MapKept.run_findKey htk f1]
theorem OpT_mapUpdate (hk : KeyF kk kf) (kx : κ) (u : ν) {t tk te : TypeId} {x y q : Operand} {b i : Nat} {z : ν} {v : Value} {xs : List (κ × ν)} (hd : o.dst = none) (ho : o.op = .mapUpdate t x y q) (hx : ev fr x = some (.map (some b))) (hy : ev fr y = some (.int kk (kf kx))) (hq : ev fr q = some v) (hv : v = V u)
    (ht : c.P.underlying t = some (.map tk te)) (htk : c.P.underlying tk = some (.int kk)) (hi : own[i]? = some (some (mapR b kk kf V xs))) (_ : z = z) :
    OpT c o ⟨fr, own, shr⟩ (fun s => s = ⟨fr, own.set i (some (mapR b kk kf V (mput kx u xs))), shr⟩) :=
  OpT_skipRun hd fun a w hs => by
    subst hv
    obtain ⟨R, hs', hw⟩ := hs.2.2.2
    obtain ⟨es, ck, h1, h2⟩ := hw.ow i _ hi
    have hb := hw.hw i b _ h1
    have hik : IsKey (.int kk) (.int kk (kf kx)) := rfl
    have fin : ∀ es' ck', es'.toList.map entV = (mput kx u xs).map (fun p => (Value.int kk (kf p.1), V p.2)) → HSat c.R0 c.w0 c.B (own.set i (some (mapR b kk kf V (mput kx u xs)))) shr { w with heap := w.heap.setIfInBounds b (.map es' ck') } := fun es' ck' he => by
      have h0 := MapKept.heap_set (o' := Obj.map es' ck') hb
      refine ⟨R, _, hw.upd i (PH.one b (.map es' ck')) ?_ (by simp) ?_ ?_ rfl rfl rfl (own_set ?_)⟩
      · intro b' hb1 hb2
        by_cases eq : b' = b
        · subst eq; rw [h1] at hb2; cases hb2
        · exact h0.2 b' eq
      · intro b' o' h; obtain ⟨e1, e2⟩ := PH.one_some h; subst e1; subst e2; exact h0.1
      · intro b' o' h; obtain ⟨e1, _⟩ := PH.one_some h; subst e1; left; rw [h1]; simp
      · exact ⟨es', ck', PH.one_self _ _, he⟩
    rcases find_map hk kx z es.toList xs 0 h2 with ⟨f1, _, f3⟩ | ⟨j, e, p, g1, g2, f1, _, f4, f5⟩
    · refine ⟨{ w with heap := w.heap.setIfInBounds b (.map (es.push ⟨.int kk (kf kx), V u, ck⟩) (ck + 1)) }, ?_, fin _ _ ?_⟩
      · simp [execOp, ho, ev_eval hs.2.2.1 hx, ev_eval hs.2.2.1 hy, ev_eval hs.2.2.1 hq, Instr.mapUpdate, run_underlying ht, MapKept.run_getObj_map hb, MapKept.run_checkKey htk hik, MapKept.run_findKey htk f1, MapKept.run_setObj_map _ hb]
      · rw [f3 u, Array.toList_push, List.map_append, List.map_append, h2]; rfl
    · have hj : es[j]? = some e := by simpa using g1
      refine ⟨{ w with heap := w.heap.setIfInBounds b (.map (es.modify j fun e => { e with key := .int kk (kf kx), val := V u }) ck) }, ?_, fin _ _ ?_⟩
      · simp [execOp, ho, ev_eval hs.2.2.1 hx, ev_eval hs.2.2.1 hy, ev_eval hs.2.2.1 hq, Instr.mapUpdate, run_underlying ht, MapKept.run_getObj_map hb, MapKept.run_checkKey htk hik, MapKept.run_findKey htk f1, hj, f4, MapKept.run_keyThatStays hik, MapKept.run_setObj_map _ hb]
      · rw [f5 u]
        apply List.ext_getElem?
        intro q
        simp only [Array.toList_modify, List.getElem?_map, List.getElem?_modify, List.getElem?_set]
        have h3 := congrArg (fun l => l[q]?) h2
        simp only [List.getElem?_map] at h3
        by_cases eq : j = q
        · subst eq
          have hlt : j < xs.length := (List.getElem?_eq_some_iff.1 g2).1
          rw [g1]; simp [hlt, entV]
        · simp only [eq, if_false]
          cases hq' : es.toList[q]? with
          | none => rw [hq'] at h3; simpa using h3
          | some e' => rw [hq'] at h3; simpa using h3
end

section
variable {c : Cx} {k : List Item} {s : St} {ops : Array Oper} {rest : List Oper} {o : Oper} {fr : List (Nat × Option Value)} {own : List (Option Res)} {shr : List Fact} {d : Nat}
theorem OpT_idxKA {t e : TypeId} {x y : Operand} {n sz : Nat} {kk : IntKind} {j : Int} {cs vs : List Value} (hn : Nat.blt d c.n = true) (hd : o.dst = some d) (ho : o.op = .index t x y) (hx : ev fr x = some (.agg cs.toArray)) (hy : ev fr y = some (.int kk j)) (ht : ArrF c.P t n e sz) (he : TyF c.P e true sz) (hj : decide (0 ≤ j ∧ j < (n : Int)) = true) (hv : (cs.drop (j.toNat * sz)).take sz = vs) :
    OpT c o ⟨fr, own, shr⟩ (fun s => s = ⟨(d, some (.agg vs.toArray)) :: fr, own, shr⟩) :=
  OpT_val hn hd fun a w hs => by
    have hj' : 0 ≤ j ∧ j < (n : Int) := by simpa using hj
    have hun := run_underlying ht.und w
    simp only [execOp, ho, ev_eval hs.2.2.1 hx, ev_eval hs.2.2.1 hy, Instr.index, asIntOf, Sem.run_bind, Sem.run_pure, Result.andThen_ok, hun]
    rw [if_pos hj']
    have h4 : cs.toArray.extract (j.toNat * sz) (j.toNat * sz + sz) = vs.toArray := by
      apply Array.ext'
      rw [Array.toList_extract]
      simp only [List.extract]
      rw [show j.toNat * sz + sz - j.toNat * sz = sz by omega, hv]
    simp [ht.ez, part, he.ag, he.sz]
    exact hv
theorem OpT_sliceArrH {t e : TypeId} {x hi : Operand} {b n sz : Nat} {kk : IntKind} {m : Int} (hn : Nat.blt d c.n = true) (hd : o.dst = some d) (ho : o.op = .slice t x none (some hi) none) (hx : ev fr x = some (.pointer (some ⟨b, 0, none⟩))) (hh : ev fr hi = some (.int kk m)) (ht : ArrF c.P t n e sz) (hm : decide (0 ≤ m ∧ m ≤ (n : Int)) = true) (h0 : Nat.blt 0 n = true) :
    OpT c o ⟨fr, own, shr⟩ (fun s => s = ⟨(d, some (.slice (some ⟨b, 0, none⟩) m.toNat n)) :: fr, own, shr⟩) :=
  OpT_val hn hd fun a w hs => by
    have hm' : 0 ≤ m ∧ m ≤ (n : Int) := by simpa using hm
    have h0' : ¬ n = 0 := by have := Nat.blt_eq.mp h0; omega
    have hu := run_underlying ht.und w
    have hez := ht.ez w
    simp [execOp, ho, ev_eval hs.2.2.1 hx, ev_eval hs.2.2.1 hh, Instr.sliceAt, hu, Instr.sureAddr, Instr.sliceBounds, Instr.sliceBound, asIntOf, hm', hez, h0', Addr.add_zero']
theorem OpT_idxSl {t e : TypeId} {x y : Operand} {b off n cap sz bt : Nat} {z : Value} {kk : IntKind} {m : Int} (hn : Nat.blt d c.n = true) (hd : o.dst = some d) (ho : o.op = .indexAddr t x y) (hx : ev fr x = some (.slice (some ⟨b, off, none⟩) n cap)) (hy : ev fr y = some (.int kk m)) (ht : SlF c.P t e sz bt z) (hm : decide (0 ≤ m ∧ m < (n : Int)) = true) :
    OpT c o ⟨fr, own, shr⟩ (fun s => s = ⟨(d, some (.pointer (some ⟨b, off + m.toNat * sz, none⟩))) :: fr, own, shr⟩) :=
  OpT_val hn hd fun a w hs => by
    have hm' : 0 ≤ m ∧ m < (n : Int) := by simpa using hm
    have hun := run_underlying ht.und w
    simp [execOp, ho, ev_eval hs.2.2.1 hx, ev_eval hs.2.2.1 hy, Instr.indexAt, asIntOf, hun, ht.sz, hm', Addr.add_lit]
end
end Go.Proofs.Ytlofegfaphijpaa
