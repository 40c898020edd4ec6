/- The engine, part 14: pointers to objects, nil or not; rows that are read while they are one's own; copies; windows. No statement of the seat is proved here; no condition. -/
import Derived.Test.YtlofegfaphijpaaEng13
namespace Go.Proofs.Ytlofegfaphijpaa

/-- a pointer that is nil, or points at a block [slice that is read, rows of one's own] -/
def optR {σ τ ρ : Type} (t : TypeId) (SL : Shape τ) (S : Shape ρ) (nn : Bool) (fl : σ → List τ) (fb : σ → List (List ρ)) (p : Value) (o : Option σ) : Res :=
  ⟨fun R h => match o with
    | none => p = .pointer none
    | some m => ∃ b vl v vs h1 h2, p = .pointer (some ⟨b, 0, none⟩) ∧ h1.disj h2 ∧ h1.le h ∧ h2.le h ∧ (cellsR b t [vl, v]).p R h1 ∧ (rowsX S nn v vs (fb m) none).p R h2 ∧ SliceRel SL R vl (fl m),
   fun {R R' h} hl hp => by
    cases o with
    | none => exact hp
    | some m =>
      obtain ⟨b, vl, v, vs, h1, h2, e, d, l1, l2, p1, p2, p3⟩ := hp
      exact ⟨b, vl, v, vs, h1, h2, e, d, l1, l2, (cellsR b t [vl, v]).mono hl p1, (rowsX S nn v vs (fb m) none).mono hl p2, p3.mono hl⟩⟩

section
variable {c : Cx} {k : List Item} {s : St} {ops : Array Oper} {rest : List Oper} {o : Oper} {fr : List (Nat × Option Value)} {own : List (Option Res)} {shr : List Fact} {d : Nat} {σ τ ρ : Type} {SL : Shape τ} {S : Shape ρ} {t : TypeId} {nn : Bool} {fl : σ → List τ} {fb : σ → List (List ρ)}

theorem Tk_optS {i : Nat} {p : Value} {x : Option σ} {m : σ} (hi : own[i]? = some (some (optR t SL S nn fl fb p x))) (hx : x = some m)
    (hk : ∀ (b : Nat) (vl v : Value) (vs : List Value), p = .pointer (some ⟨b, 0, none⟩) → Tk c k ⟨fr, own.set i (some (cellsR b t [vl, v])) ++ [some (rowsX S nn v vs (fb m) none)], shr ++ [Fact.sl SL vl (fl m)]⟩) : Tk c k ⟨fr, own, shr⟩ := fun a w hs => by
  subst hx
  obtain ⟨⟨⟨b, vl, v, vs⟩, e⟩, hx⟩ := hs.2.2.2.split hi (α := { y : Nat × Value × Value × List Value // p = .pointer (some ⟨y.1, 0, none⟩) }) (r1 := fun y => cellsR y.1.1 t [y.1.2.1, y.1.2.2.1]) (r2 := fun y => rowsX S nn y.1.2.2.1 y.1.2.2.2 (fb m) none) (F := fun y => [Fact.sl SL y.1.2.1 (fl m)]) (by
    rintro R h _ ⟨b, vl, v, vs, h1, h2, e, d, l1, l2, p1, p2, p3⟩
    refine ⟨⟨(b, vl, v, vs), e⟩, h1, h2, d, l1, l2, p1, p2, ?_⟩
    intro G hG; simp at hG; subst hG; exact p3)
  exact hk b vl v vs e a w ⟨hs.1, hs.2.1, hs.2.2.1, hx⟩
theorem Tk_nilopt (t : TypeId) (SL : Shape τ) (S : Shape ρ) (nn : Bool) (fl : σ → List τ) (fb : σ → List (List ρ)) (h : Tk c k ⟨fr, own ++ [some (optR t SL S nn fl fb (.pointer none) none)], shr⟩) : Tk c k ⟨fr, own, shr⟩ := fun a w hs =>
  h a w ⟨hs.1, hs.2.1, hs.2.2.1, hs.2.2.2.free _ fun _ => rfl⟩
theorem vs_fold (m : σ) {i j q b : Nat} {vl v : Value} {vs : List Value} {ls : List τ} {bs : List (List ρ)} (hi : own[i]? = some (some (cellsR b t [vl, v]))) (hj : own[j]? = some (some (rowsX S nn v vs bs none))) (hij : Nat.beq i j = false) (hq : shr[q]? = some (Fact.sl SL vl ls)) (hl : fl m = ls) (hb : fb m = bs) :
    VS c ⟨fr, own, shr⟩ ⟨fr, (own.set i (some (optR t SL S nn fl fb (.pointer (some ⟨b, 0, none⟩)) (some m)))).set j none, shr⟩ := fun a w hs => by
  refine ⟨hs.1, hs.2.1, hs.2.2.1, hs.2.2.2.merge hij hi hj ?_⟩
  intro R h1 h2 hF hd p1 p2
  exact ⟨b, vl, v, vs, h1, h2, rfl, hd, PH.or_left, PH.or_right hd, p1, by rw [hb]; exact p2, by rw [hl]; exact hF _ (List.mem_of_getElem? hq)⟩

theorem ri_rows {cells : ρ → List Value} {sz : Nat} {ag : Bool} {hl : ∀ x, (cells x).length = sz} {hone : ∀ x, (cells x).all (·.oneCell') = true} (hS : S = Shape.plain sz ag cells hl hone) (nn : Bool) (v : Value) (vs : List Value) (bs : List (List ρ)) (ex : Option (Nat × Value)) : RI (rowsX S nn v vs bs ex) := fun R R' h hr => by
  subst hS
  obtain ⟨h0, hh, p⟩ := hr
  exact ⟨h0, hh, p.out, p.nn, p.len, p.l0, p.ls, p.d0, p.ds, p.row, p.hol⟩

/-! ## copies -/
/-- ys laid into xs from l on, as far as m -/
def copyAt (xs : List ρ) (l m : Int) (ys : List ρ) : List ρ := xs.take l.toNat ++ ys.take (m.toNat - l.toNat) ++ xs.drop (l.toNat + min ys.length (m.toNat - l.toNat))
theorem copyAt_none {xs ys : List ρ} {l m : Int} (h : min ys.length (m.toNat - l.toNat) = 0) : copyAt xs l m ys = xs := by
  unfold copyAt
  rw [h, Nat.add_zero]
  have : ys.take (m.toNat - l.toNat) = [] := by
    apply List.eq_nil_of_length_eq_zero
    rw [List.length_take]; omega
  rw [this]; simp
theorem flat_takeM {cells : ρ → List Value} {sz : Nat} (hl : ∀ x, (cells x).length = sz) : ∀ (xs : List ρ) (k : Nat), ((xs.map cells).flatten).take (k * sz) = ((xs.take k).map cells).flatten
  | [], k => by simp
  | x :: xs, 0 => by simp
  | x :: xs, k + 1 => by
    have ih := flat_takeM hl xs k
    simp only [List.map_cons, List.flatten_cons, List.take_succ_cons]
    rw [← ih, List.take_append, hl x, List.take_of_length_le (by rw [hl x, Nat.add_mul]; omega), show (k + 1) * sz - sz = k * sz by rw [Nat.add_mul]; omega]
theorem flat_dropM {cells : ρ → List Value} {sz : Nat} (hl : ∀ x, (cells x).length = sz) : ∀ (xs : List ρ) (k : Nat), ((xs.map cells).flatten).drop (k * sz) = ((xs.drop k).map cells).flatten
  | [], k => by simp
  | x :: xs, 0 => by simp
  | x :: xs, k + 1 => by
    have ih := flat_dropM hl xs k
    simp only [List.map_cons, List.flatten_cons, List.drop_succ_cons]
    rw [← ih, List.drop_append, hl x, List.drop_of_length_le (by rw [hl x, Nat.add_mul]; omega), List.nil_append, show (k + 1) * sz - sz = k * sz by rw [Nat.add_mul]; omega]
theorem copyAt_len {xs ys : List ρ} {l m : Int} (h0 : 0 ≤ l) (h1 : l ≤ m) (h2 : m ≤ (xs.length : Int)) : (copyAt xs l m ys).length = xs.length := by
  unfold copyAt
  simp only [List.length_append, List.length_take, List.length_drop]; omega
/-- copy(x[l:m], y): x a row of one's own, y a slice that is read, or another part of one's own -/
theorem OpT_copyG {cells : ρ → List Value} {sz : Nat} {ag : Bool} {hl : ∀ x, (cells x).length = sz} {hone : ∀ x, (cells x).all (·.oneCell') = true} (hS : S = Shape.plain sz ag cells hl hone) {ty e : TypeId} {x y : Operand} {u vy : Value} {i b : Nat} {z : Value} {l m : Int} {xs ys : List ρ} (hn : Nat.blt d c.n = true) (hd : o.dst = some d)
    (ho : o.op = .call { callee := .builtin .copy, args := #[x, y], argTypes := #[ty, ty] }) (hx : ev fr x = some (subV u S.sz l.toNat m.toNat)) (hy : ev fr y = some vy) (ht : SlF c.P ty e S.sz b z) (hi : own[i]? = some (some (rowS S u xs)))
    (hys : ∀ (w : World) (R : PH) (hs : Nat → PH), HW c.R0 c.w0 c.B own shr w R hs → ∃ R', R'.inW w ∧ SliceRel S R' vy ys) (hc : decide (0 ≤ l ∧ l ≤ m ∧ m ≤ len xs) = true) :
    OpT c o ⟨fr, own, shr⟩ (fun s => s = ⟨(d, some (vI ((min ys.length (m.toNat - l.toNat) : Nat) : Int))) :: fr, own.set i (some (rowS S u (copyAt xs l m ys))), shr⟩) := by
  have main : OpT c o ⟨fr, own, shr⟩ (fun s => ∃ _ : Unit, s = ⟨(d, some (vI ((min ys.length (m.toNat - l.toNat) : Nat) : Int))) :: fr, own.set i (some (rowS S u (copyAt xs l m ys))), shr⟩) :=
    OpT_run hn hd fun a w hs => by
      obtain ⟨h0, h1, h2⟩ : 0 ≤ l ∧ l ≤ m ∧ m ≤ len xs := by simpa using hc
      unfold len at h2
      obtain ⟨R, hs', hw⟩ := hs.2.2.2
      obtain ⟨R', hR', hsl⟩ := hys w R hs' hw
      obtain ⟨base, cap, css, e1, e2, e3, e4, e5, e6, e7, e8⟩ := hsl.flat
      have hun := run_underlying ht.und w
      have hr := hw.ow i _ hi
      refine ⟨vI ((min ys.length (m.toNat - l.toNat) : Nat) : Int), ?_⟩
      by_cases hn0 : min ys.length (m.toNat - l.toNat) = 0
      · refine ⟨w, (), ?_, rfl, ?_⟩
        · obtain ⟨bu, cu, eu⟩ := RowRel.val hr
          have hmin : Nat.min ys.length (m.toNat - l.toNat) = 0 := hn0
          subst eu; subst e1
          cases hb : (if cu = l.toNat then bu else bu.map (·.add (l.toNat * S.sz))) with
          | none => cases base <;> simp [execOp, ho, resolve, invoke, builtin, ev_eval hs.2.2.1 hx, ev_eval hs.2.2.1 hy, Builtin.copy_, hun, subV, hb, Builtin.lenOf, hmin, hn0, ht.sz, Builtin.firstCells, loadCells, loadCellsFrom, goInt]
          | some ad => cases base <;> simp [execOp, ho, resolve, invoke, builtin, ev_eval hs.2.2.1 hx, ev_eval hs.2.2.1 hy, Builtin.copy_, hun, subV, hb, Builtin.lenOf, hmin, hn0, ht.sz, Builtin.firstCells, loadCells, loadCellsFrom, storeCells, goInt]
        · rw [copyAt_none hn0]
          have : own.set i (some (rowS S u xs)) = own := by
            apply List.ext_getElem?
            intro j
            by_cases ej : j = i
            · subst ej
              have hlt : j < own.length := (List.getElem?_eq_some_iff.1 hi).1
              rw [List.getElem?_set_self hlt, hi]
            · rw [List.getElem?_set_ne (fun q => ej q.symm)]
          show HSat c.R0 c.w0 c.B (own.set i (some (rowS S u xs))) shr w
          rw [this]; exact hs.2.2.2
      · generalize hN : min ys.length (m.toNat - l.toNat) = N at hn0
        have hmin : Nat.min ys.length (m.toNat - l.toNat) = N := hN
        have hyne : ys ≠ [] := by intro q; subst q; simp at hN; omega
        obtain ⟨ad, rfl⟩ : ∃ ad, base = some ad := by
          cases base with
          | none => exact absurd rfl (e7 hyne)
          | some ad => exact ⟨ad, rfl⟩
        have hne : xs ≠ [] := by intro q; subst q; simp at h2; omega
        obtain ⟨g, cp, cur, tg, a1, a2, a3, a4, a5, a6⟩ := row_block hS hr hne
        subst a1; subst e1
        have hb := hw.hw i g _ a2
        have hcss : css = ys.map cells := by subst hS; exact flat_map1 (R := R') (hl := hl) (hone := hone) (ag := ag) e3 e4
        have hSsz : S.sz = sz := by subst hS; rfl
        have hNl : N ≤ ys.length := by omega
        have hNm : l.toNat + N ≤ xs.length := by omega
        have hcl : ¬ cp = l.toNat := by omega
        have hnl : (((ys.take N).map cells).flatten).length = N * sz := by
          rw [flat_len (sz := sz) (fun ci h => by obtain ⟨x, _, rfl⟩ := List.mem_map.1 h; exact hl x), List.length_map, List.length_take, Nat.min_eq_left hNl]
        have hnews : ∀ (j : Nat) (v : Value), (((ys.take N).map cells).flatten)[j]? = some v → w.cell? (ad.add j) = some v := by
          intro j v hj
          rw [← flat_takeM hl, List.getElem?_take] at hj
          split at hj
          · rw [← hcss] at hj; exact PH.cell_inW hR' (e8 ad rfl j v hj)
          · cases hj
        have hf := run_firstCells_some (P := c.P) w sz N ad ys.length cap _ hnl hnews
        have hone1 : ∀ v ∈ (((ys.take N).map cells).flatten), v.oneCell' = true := by
          intro v hv
          obtain ⟨ci, hci, hv⟩ := List.mem_flatten.1 hv
          obtain ⟨x, _, rfl⟩ := List.mem_map.1 hci
          exact List.all_eq_true.1 (hone x) v hv
        have hfit0 : (l.toNat + N) * sz ≤ xs.length * sz := Nat.mul_le_mul_right sz hNm
        have hcap : xs.length * sz ≤ cur.size := by rw [a5]; exact Nat.mul_le_mul_right sz a3
        have hfit : l.toNat * sz + N * sz ≤ xs.length * sz := by rw [← Nat.add_mul]; exact hfit0
        have hst := run_storeCells_at c.P g (l.toNat * sz) tg _ 0 cur w hb (by rw [hnl]; omega) hone1
        simp only [Nat.add_zero, hnl] at hst
        refine ⟨w.setRow g (cur.toList.take (l.toNat * sz) ++ ((ys.take N).map cells).flatten ++ cur.toList.drop (l.toNat * sz + N * sz)).toArray, (), ?_, rfl, ?_⟩
        · generalize ((ys.take N).map cells).flatten = news at hst hf ⊢
          simp [execOp, ho, resolve, invoke, builtin, ev_eval hs.2.2.1 hx, ev_eval hs.2.2.1 hy, Builtin.copy_, hun, subV, hcl, Builtin.lenOf, hmin, hSsz, ht.sz, hf, Addr.add_lit, hst, goInt]
        · have hb' := setRow_heap w g cur (cur.toList.take (l.toNat * sz) ++ ((ys.take N).map cells).flatten ++ cur.toList.drop (l.toNat * sz + N * sz)).toArray tg (0, 0) hb
          refine ⟨R, _, hw.upd i (PH.one g (.cells (cur.toList.take (l.toNat * sz) ++ ((ys.take N).map cells).flatten ++ cur.toList.drop (l.toNat * sz + N * sz)).toArray tg (0, 0))) ?_ (by simp) ?_ ?_ rfl rfl rfl (own_set ?_)⟩
          · intro b hb1 hb2
            by_cases eq : b = g
            · subst eq; rw [a2] at hb2; cases hb2
            · exact setRow_other w g b _ eq
          · intro b o' h; obtain ⟨e1, e2⟩ := PH.one_some h; subst e1; subst e2; exact hb'
          · intro b o' h; obtain ⟨e1, _⟩ := PH.one_some h; subst e1; left; rw [a2]; simp
          · have hlenc := copyAt_len (ys := ys) h0 h1 h2
            subst hS
            refine ⟨(copyAt xs l m ys).map cells, by simp, ?_, .inr ⟨g, cp, _, tg, by rw [hlenc], PH.one_self _ _, by rw [hlenc]; exact a3, a4, ?_, ?_⟩⟩
            · intro j ci z p q
              simp only [List.getElem?_map, q, Option.map_some, Option.some.injEq] at p
              exact p.symm
            · have e5' : cur.toList.length = cp * sz := by simpa using a5
              simp only [List.size_toArray, List.length_append, List.length_take, List.length_drop, hnl, e5']
              show _ = cp * sz
              have : xs.length * sz ≤ cp * sz := Nat.mul_le_mul_right sz a3
              omega
            · show List.take ((copyAt xs l m ys).length * sz) _ = _
              rw [hlenc, List.toList_toArray, take_splice hnl hfit (by simpa using hcap), a6, ← Nat.add_mul, flat_takeM hl, flat_dropM hl]
              unfold copyAt
              rw [hN, List.map_append, List.map_append, List.flatten_append, List.flatten_append]
              have : ys.take (m.toNat - l.toNat) = ys.take N := by
                by_cases q : m.toNat - l.toNat ≤ ys.length
                · rw [← hN, Nat.min_eq_right q]
                · rw [← hN, Nat.min_eq_left (by omega), List.take_of_length_le (by omega), List.take_of_length_le (Nat.le_refl _)]
              rw [this]
  refine main.vs ?_
  rintro x ⟨_, rfl⟩
  exact ⟨_, rfl, fun a w hs => hs⟩
theorem OpT_copyS {cells : ρ → List Value} {sz : Nat} {ag : Bool} {hl : ∀ x, (cells x).length = sz} {hone : ∀ x, (cells x).all (·.oneCell') = true} (hS : S = Shape.plain sz ag cells hl hone) {ty e : TypeId} {x y : Operand} {u vy : Value} {i j b : Nat} {z : Value} {l m : Int} {xs ys : List ρ} (hn : Nat.blt d c.n = true) (hd : o.dst = some d)
    (ho : o.op = .call { callee := .builtin .copy, args := #[x, y], argTypes := #[ty, ty] }) (hx : ev fr x = some (subV u S.sz l.toNat m.toNat)) (hy : ev fr y = some vy) (ht : SlF c.P ty e S.sz b z) (hi : own[i]? = some (some (rowS S u xs))) (hj : shr[j]? = some (Fact.sl S vy ys)) (hc : decide (0 ≤ l ∧ l ≤ m ∧ m ≤ len xs) = true) :
    OpT c o ⟨fr, own, shr⟩ (fun s => s = ⟨(d, some (vI ((min ys.length (m.toNat - l.toNat) : Nat) : Int))) :: fr, own.set i (some (rowS S u (copyAt xs l m ys))), shr⟩) :=
  OpT_copyG hS hn hd ho hx hy ht hi (fun w R hs hw => ⟨R, hw.rw_, hw.sh _ (List.mem_of_getElem? hj)⟩) hc
end
end Go.Proofs.Ytlofegfaphijpaa
