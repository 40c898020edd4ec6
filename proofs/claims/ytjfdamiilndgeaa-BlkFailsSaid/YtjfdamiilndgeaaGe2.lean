/- The engine: rules for stepping through code. No statement of the seat is proved here; no condition. -/
import Derived.Test.YtjfdamiilndgeaaGe1
import Derived.KernelRfl
section
namespace Go.Proofs.Ytjfdamiilndgeaa
open MapKept (IsKey)

/-! ## sectors -/
structure Sec where
  l : List UInt8
  h : l.length = 512
deriving DecidableEq
instance : Inhabited Sec := ⟨⟨List.replicate 512 0, List.length_replicate ..⟩⟩
def Sec.z : Sec := ⟨List.replicate 512 0, List.length_replicate ..⟩
def Sec.of (xs : List UInt8) : Option Sec := if h : xs.length = 512 then some ⟨xs, h⟩ else none
theorem Sec.of_eq {xs : List UInt8} {a : Sec} (h : Sec.of xs = some a) : xs = a.l := by
  unfold Sec.of at h
  split at h
  · cases h; rfl
  · cases h
theorem putLen (x : Sec) (ys : List UInt8) : (ys.take 512 ++ x.l.drop ys.length).length = 512 := by
  rw [List.length_append, List.length_take, List.length_drop, x.h]; omega
def Sec.put (x : Sec) (ys : List UInt8) : Sec := ⟨ys.take 512 ++ x.l.drop ys.length, putLen x ys⟩
def cSec (x : Sec) : List Value := x.l.map vU8
theorem cSec_len (x : Sec) : (cSec x).length = 512 := by unfold cSec; rw [List.length_map]; exact x.h
theorem cSec_one (x : Sec) : (cSec x).all (·.oneCell') = true := by
  unfold cSec
  rw [List.all_eq_true]
  intro v hv
  obtain ⟨y, _, rfl⟩ := List.mem_map.1 hv
  rfl
def secS : Shape Sec := Shape.plain 512 true cSec cSec_len cSec_one
def vSec (x : Sec) : Value := .agg (x.l.map vU8).toArray
theorem secB (x : Sec) : (x.l.length == 512) = true := by rw [x.h]; rfl
theorem secM (x : Sec) : ((x.l.map vU8).length == 512) = true := by rw [List.length_map, x.h]; rfl

theorem tyZ_of {P : Program} {t e : TypeId} {sz b : Nat} {z : Value} (h : SlF P t e sz b z) : TyZ P e z := fun w => by
  obtain ⟨i, hi, hz, _, _⟩ := h.info
  simp [zeroValue, typeInfo, hi, hz]
section
variable {c : Cx} {k : List Item} {s : St} {ops : Array Oper} {rest : List Oper} {o : Oper} {fr : List (Nat × Option Value)} {own : List (Option Res)} {shr : List Fact} {d : Nat}
/-! ## the bytes of a sector of a row, as a slice -/
def rowSl (v : Value) (off n : Nat) : Value := match v with | .slice (some a) _ _ => .slice (some (a.add off)) n n | _ => undef
theorem OpT_sliceEG {τ : Type} {S : Shape τ} {cells : τ → List Value} {sz : Nat} {ag : Bool} {hl : ∀ x, (cells x).length = sz} {hone : ∀ x, (cells x).all (·.oneCell') = true} (hS : S = Shape.plain sz ag cells hl hone) {t e : TypeId} {x : Operand} {vx : Value} {i n : Nat} {m : Int} {xs : List τ} {u : τ} (hn : Nat.blt d c.n = true) (hd : o.dst = some d) (ho : o.op = .slice t x none none none) (hx : ev fr x = some (rowPtr vx (Int.toNat m * sz))) (ht : ArrF c.P t n e 1) (h0 : n ≠ 0)
    (hi : own[i]? = some (some (rowS S vx xs))) (hu : ix xs m = some u) : OpT c o ⟨fr, own, shr⟩ (fun s => s = ⟨(d, some (rowSl vx (Int.toNat m * sz) n)) :: fr, own, shr⟩) :=
  OpT_val hn hd fun a w hs => by
    obtain ⟨_, _, h2⟩ := ix_some hu
    obtain ⟨R, hs', hw⟩ := hs.2.2.2
    have hne : xs ≠ [] := by intro e; subst e; simp at h2
    obtain ⟨g, cap, cur, tg, a1, a2, a3, a4, a5, a6⟩ := row_block hS (hw.ow i _ hi) hne
    subst a1
    have hun := run_underlying ht.und w
    have hez := ht.ez w
    have e := ev_eval hs.2.2.1 hx
    simp only [rowPtr, Addr.add_lit, Nat.zero_add] at e
    simp [execOp, ho, e, Instr.sliceAt, hun, Instr.sureAddr, Instr.sliceBounds, hez, h0, rowSl, Addr.add_lit]
theorem OpT_sliceElt {t e : TypeId} {x : Operand} {vx : Value} {i : Nat} {m : Int} {xs : List Sec} {u : Sec} (hn : Nat.blt d c.n = true) (hd : o.dst = some d) (ho : o.op = .slice t x none none none) (hx : ev fr x = some (rowPtr vx (Int.toNat m * 512))) (ht : ArrF c.P t 512 e 1)
    (hi : own[i]? = some (some (rowS secS vx xs))) (hu : ix xs m = some u) : OpT c o ⟨fr, own, shr⟩ (fun s => s = ⟨(d, some (rowSl vx (Int.toNat m * 512) 512)) :: fr, own, shr⟩) :=
  OpT_sliceEG (S := secS) rfl hn hd ho hx ht (by decide) hi hu
/-- the bytes of a sector, read where they lie -/
theorem elt_rel {R h : PH} {vx : Value} {xs : List Sec} {u : Sec} {m : Int} (hr : RowRel secS R h vx xs) (hu : ix xs m = some u) : SliceRel u8S h (rowSl vx (Int.toNat m * 512) 512) u.l := by
  obtain ⟨_, _, h2⟩ := ix_some hu
  have hne : xs ≠ [] := by intro e; subst e; simp at h2
  obtain ⟨g, cap, cur, tg, a1, a2, a3, a4, a5, a6⟩ := row_block (S := secS) rfl hr hne
  subst a1
  refine ⟨some ⟨g, m.toNat * 512, none⟩, 512, u.l.map cU8, ?_, ?_, by simp, fun j ci x p q => ?_, fun j ci p => ⟨_, rfl, ?_⟩⟩
  · rw [u.h]; simp [rowSl, Addr.add_lit]
  · rw [u.h]; exact Nat.le_refl _
  · simp only [List.getElem?_map, q, Option.map_some, Option.some.injEq] at p
    exact p.symm
  · rw [List.getElem?_map] at p
    obtain ⟨x, hx1, hx2⟩ := Option.map_eq_some_iff.1 p
    subst hx2
    have hj : j < 512 := by rw [← u.h]; exact (List.getElem?_eq_some_iff.1 hx1).1
    intro q z hz
    cases q with
    | zero =>
      obtain rfl : vU8 x = z := Option.some.inj hz
      have hc := row_cell (cells := cSec) (sz := 512) cSec_len a6 h2 (q := j) hj
      rw [show (cSec u)[j]? = some (vU8 x) by unfold cSec; rw [List.getElem?_map, hx1]; rfl] at hc
      show PH.cell _ _ = _
      unfold PH.cell
      simp only [Addr.add_lit, a2]
      have : u8S.sz = 1 := rfl
      rw [this, Nat.mul_one, Nat.add_zero]
      exact hc
    | succ q => cases hz
/-- append(x, s[i][:]...) -/
theorem OpT_appendE {t e : TypeId} {x y : Operand} {vx vy : Value} {i j b : Nat} {m : Int} {z : Value} {xs : List UInt8} {ys : List Sec} {u : Sec} (hn : Nat.blt d c.n = true) (hd : o.dst = some d) (ho : o.op = .call { callee := .builtin .append, args := #[x, y], argTypes := #[t, t] })
    (hx : ev fr x = some vx) (hy : ev fr y = some (rowSl vy (Int.toNat m * 512) 512)) (ht : SlF c.P t e 1 b z) (hi : own[i]? = some (some (rowS u8S vx xs))) (hj : own[j]? = some (some (rowS secS vy ys))) (hu : ix ys m = some u) (hf : fits xs.length u.l.length b = true) :
    OpT c o ⟨fr, own, shr⟩ (fun s => ∃ v, s = ⟨(d, some v) :: fr, own.set i (some (rowS u8S v (xs ++ u.l))), shr⟩) :=
  OpT_run hn hd fun a w hs => by
    obtain ⟨R, hs', hw⟩ := hs.2.2.2
    obtain ⟨v', w', hr, hh⟩ := run_append_S (S := u8S) (sz := 0) ht hw hi (hw.hw j) (fun cs x h => h) (elt_rel (hw.ow j _ hj) hu) (Nat.le_of_ble_eq_true hf) o.type
    refine ⟨v', w', v', ?_, rfl, hh⟩
    simp only [execOp, ho, resolve, invoke, builtin, Sem.run_bind, Sem.run_pure, Result.andThen_ok, List.map_toArray, List.map_cons, List.map_nil, ev_eval hs.2.2.1 hx, ev_eval hs.2.2.1 hy, hr]
/-- copy(s[i][:], y) -/
theorem OpT_copyEG {τ : Type} {S : Shape τ} {by_ : τ → List UInt8} {sz : Nat} {ag : Bool} {hl : ∀ x, ((by_ x).map vU8).length = sz} {hone : ∀ x, ((by_ x).map vU8).all (·.oneCell') = true} (hS : S = Shape.plain sz ag (fun x => (by_ x).map vU8) hl hone) {t e : TypeId} {x y : Operand} {vx vy : Value} {i j b : Nat} {m : Int} {z : Value} {xs : List τ} {ys : List UInt8} {u u' : τ} (hput : by_ u' = ys.take sz ++ (by_ u).drop ys.length) (hn : Nat.blt d c.n = true) (hd : o.dst = some d) (ho : o.op = .call { callee := .builtin .copy, args := #[x, y], argTypes := #[t, t] })
    (hx : ev fr x = some (rowSl vx (Int.toNat m * sz) sz)) (hy : ev fr y = some vy) (ht : SlF c.P t e 1 b z) (hi : own[i]? = some (some (rowS S vx xs))) (hu : ix xs m = some u) (hj : shr[j]? = some (Fact.sl u8S vy ys)) :
    OpT c o ⟨fr, own, shr⟩ (fun s => s = ⟨(d, some (vI ((min ys.length sz : Nat) : Int))) :: fr, own.set i (some (rowS S vx (xs.set m.toNat u'))), shr⟩) := by
  have main : OpT c o ⟨fr, own, shr⟩ (fun s => ∃ _ : Unit, s = ⟨(d, some (vI ((min ys.length sz : Nat) : Int))) :: fr, own.set i (some (rowS S vx (xs.set m.toNat u'))), shr⟩) :=
    OpT_run hn hd fun a w hs => by
      obtain ⟨R, hs', hw⟩ := hs.2.2.2
      have hsl : SliceRel u8S R vy ys := hw.sh _ (List.mem_of_getElem? hj)
      have hR' := hw.rw_
      obtain ⟨base, cap2, css, e1, e2, e3, e4, e5, e6, e7, e8⟩ := hsl.flat
      have hun := run_underlying ht.und w
      have hul : (by_ u).length = sz := by have := hl u; rwa [List.length_map] at this
      obtain ⟨_, _, h2⟩ := ix_some hu
      have hne : xs ≠ [] := by intro e; subst e; simp at h2
      obtain ⟨g, cp, cur, tg, a1, a2, a3, a4, a5, a6⟩ := row_block hS (hw.ow i _ hi) hne
      subst a1
      have hb := hw.hw i g _ a2
      have hlt : m.toNat < xs.length := (List.getElem?_eq_some_iff.1 h2).1
      have hfit : m.toNat * sz + sz ≤ xs.length * sz := by
        have := Nat.mul_le_mul_right sz hlt
        rw [Nat.succ_mul] at this; exact this
      have hcap : xs.length * sz ≤ cur.size := by rw [a5]; exact Nat.mul_le_mul_right sz a3
      have hcss : css = ys.map cU8 := flat_map1 (R := R) (cells := cU8) (sz := 1) (ag := false) (hl := fun _ => rfl) (hone := fun _ => rfl) e3 e4
      generalize hN : min ys.length sz = N
      have hmin : Nat.min ys.length sz = N := hN
      have hNl : N ≤ ys.length := by omega
      have hnl : ((ys.take N).map vU8).length = N := by rw [List.length_map, List.length_take]; omega
      have hone1 : ∀ v ∈ (ys.take N).map vU8, v.oneCell' = true := by
        intro v hv
        obtain ⟨x, _, rfl⟩ := List.mem_map.1 hv
        rfl
      have hst := run_storeCells_at c.P g (m.toNat * sz) tg ((ys.take N).map vU8) 0 cur w hb (by rw [hnl]; omega) hone1
      simp only [Nat.add_zero, hnl] at hst
      have ex := ev_eval hs.2.2.1 hx
      simp only [rowSl, Addr.add_lit, Nat.zero_add] at ex
      -- what is written is the sector anew
      have huc : (cur.toList.drop (m.toNat * sz)).take sz = ((by_ u).map vU8) := by
        apply List.ext_getElem?
        intro q
        by_cases hq : q < sz
        · rw [List.getElem?_take_of_lt hq, List.getElem?_drop]
          have := row_cell (cells := (fun x => (by_ x).map vU8)) (sz := sz) hl a6 h2 (q := q) hq
          rw [← this]; simp
        · rw [List.getElem?_eq_none (by rw [List.length_take]; omega), List.getElem?_eq_none (by rw [hl]; omega)]
      have hnew : cur.toList.take (m.toNat * sz) ++ (ys.take N).map vU8 ++ cur.toList.drop (m.toNat * sz + N) = cur.toList.take (m.toNat * sz) ++ ((by_ u').map vU8) ++ cur.toList.drop (m.toNat * sz + sz) := by
        have hN5 : N ≤ sz := by omega
        have h3 : cur.toList.drop (m.toNat * sz + N) = ((((by_ u).map vU8)).drop N) ++ cur.toList.drop (m.toNat * sz + sz) := by
          have h5 : cur.toList.drop (m.toNat * sz + sz) = (cur.toList.drop (m.toNat * sz + N)).drop (sz - N) := by
            rw [List.drop_drop]; congr 1; omega
          rw [← huc, List.drop_take, List.drop_drop, h5, List.take_append_drop]
        rw [h3]
        have h4 : ((by_ u').map vU8) = (ys.take N).map vU8 ++ (((by_ u).map vU8)).drop N := by
          rw [hput, List.map_append, ← List.map_drop]
          congr 1
          · congr 1
            by_cases q : ys.length ≤ sz
            · rw [← hN, Nat.min_eq_left q, List.take_of_length_le q, List.take_of_length_le (Nat.le_refl _)]
            · rw [← hN, Nat.min_eq_right (by omega)]
          · congr 1
            by_cases q : ys.length ≤ sz
            · rw [← hN, Nat.min_eq_left q]
            · rw [← hN, Nat.min_eq_right (by omega), List.drop_of_length_le (by rw [hul]; omega), List.drop_of_length_le (by rw [hul]; exact Nat.le_refl _)]
        rw [h4]; simp only [List.append_assoc]
      refine ⟨vI (N : Int), w.setRow g (cur.toList.take (m.toNat * sz) ++ ((by_ u').map vU8) ++ cur.toList.drop (m.toNat * sz + sz)).toArray, (), ?_, rfl, ?_⟩
      · rw [hnew] at hst
        cases base with
        | none =>
          have hy0 : ys = [] := by
            cases ys with
            | nil => rfl
            | cons y ys => exact absurd rfl (e7 (by simp))
          subst hy0; subst e1
          have hN0 : N = 0 := by simpa using hN.symm
          subst hN0
          have hq : (Builtin.copy_ #[t, t] o.type #[.slice (some ⟨g, m.toNat * sz, none⟩) sz sz, .slice none ([] : List UInt8).length cap2]).run c.P w = .ok (vI ((0 : Nat) : Int)) (w.setRow g (cur.toList.take (m.toNat * sz) ++ ((by_ u').map vU8) ++ cur.toList.drop (m.toNat * sz + sz)).toArray) := by
            simp only [Builtin.copy_]
            have hst0 : (storeCells ⟨g, m.toNat * sz, none⟩ []).run c.P w = .ok () (w.setRow g (cur.toList.take (m.toNat * sz) ++ ((by_ u').map vU8) ++ cur.toList.drop (m.toNat * sz + sz)).toArray) := by simpa using hst
            simp [hun, Builtin.lenOf, ht.sz, Builtin.firstCells, hst0, goInt]
          simp [execOp, ho, resolve, invoke, builtin, ex, ev_eval hs.2.2.1 hy]
          have hq' := hq
          simp at hq'
          simp [hq']
        | some ad =>
          subst e1
          have hnews : ∀ (q : Nat) (v : Value), ((ys.take N).map vU8)[q]? = some v → w.cell? (ad.add q) = some v := by
            intro q v hq
            rw [List.map_take, List.getElem?_take] at hq
            split at hq
            · have : css.flatten[q]? = some v := by rw [hcss, flatU8]; exact hq
              exact PH.cell_inW hR' (e8 ad rfl q v this)
            · cases hq
          have hf := run_firstCells_some (P := c.P) w 1 N ad ys.length cap2 ((ys.take N).map vU8) (by rw [hnl, Nat.mul_one]) hnews
          have hq : (Builtin.copy_ #[t, t] o.type #[.slice (some ⟨g, m.toNat * sz, none⟩) sz sz, .slice (some ad) ys.length cap2]).run c.P w = .ok (vI (N : Int)) (w.setRow g (cur.toList.take (m.toNat * sz) ++ ((by_ u').map vU8) ++ cur.toList.drop (m.toNat * sz + sz)).toArray) := by
            generalize cur.toList.take (m.toNat * sz) ++ ((by_ u').map vU8) ++ cur.toList.drop (m.toNat * sz + sz) = nw at *
            generalize (ys.take N).map vU8 = news at *
            simp only [Builtin.copy_]
            simp [hun, Builtin.lenOf, hmin, ht.sz, hf, hst, goInt]
          generalize cur.toList.take (m.toNat * sz) ++ ((by_ u').map vU8) ++ cur.toList.drop (m.toNat * sz + sz) = nw at *
          simp only [execOp, ho, resolve, invoke, builtin, Sem.run_bind, Sem.run_pure, Result.andThen_ok, List.map_toArray, List.map_cons, List.map_nil, ex, ev_eval hs.2.2.1 hy, hq]
      · have hb' := setRow_heap w g cur (cur.toList.take (m.toNat * sz) ++ ((by_ u').map vU8) ++ cur.toList.drop (m.toNat * sz + sz)).toArray tg (0, 0) hb
        refine ⟨R, _, hw.upd i (PH.one g (.cells (cur.toList.take (m.toNat * sz) ++ ((by_ u').map vU8) ++ cur.toList.drop (m.toNat * sz + sz)).toArray tg (0, 0))) ?_ (by simp) ?_ ?_ rfl rfl rfl (own_set ?_)⟩
        · intro b hb1 hb2
          by_cases eq : b = g
          · subst eq; rw [a2] at hb2; cases hb2
          · exact setRow_other w g b _ eq
        · intro b o' h; obtain ⟨e1, e2⟩ := PH.one_some h; subst e1; subst e2; exact hb'
        · intro b o' h; obtain ⟨e1, _⟩ := PH.one_some h; subst e1; left; rw [a2]; simp
        · subst hS
          refine ⟨(xs.set m.toNat u').map (fun x => (by_ x).map vU8), by simp, ?_, .inr ⟨g, cp, _, tg, by simp, PH.one_self _ _, by simpa using a3, a4, ?_, ?_⟩⟩
          · intro j ci z p q
            simp only [List.getElem?_map, q, Option.map_some, Option.some.injEq] at p
            exact p.symm
          · have e5' : cur.toList.length = cp * sz := by simpa using a5
            simp only [List.size_toArray, List.length_append, List.length_take, List.length_drop, hl, e5']
            show _ = cp * sz
            have : xs.length * sz ≤ cp * sz := Nat.mul_le_mul_right sz a3
            omega
          · show List.take ((xs.set m.toNat u').length * sz) _ = _
            rw [List.length_set, List.toList_toArray, take_splice (hl u') hfit (by simpa using hcap), a6, flatten_set hl u' hlt]
  refine main.vs ?_
  rintro x ⟨_, rfl⟩
  exact ⟨_, rfl, fun a w hs => hs⟩

theorem OpT_copyE {t e : TypeId} {x y : Operand} {vx vy : Value} {i j b : Nat} {m : Int} {z : Value} {xs : List Sec} {ys : List UInt8} {u : Sec} (hn : Nat.blt d c.n = true) (hd : o.dst = some d) (ho : o.op = .call { callee := .builtin .copy, args := #[x, y], argTypes := #[t, t] })
    (hx : ev fr x = some (rowSl vx (Int.toNat m * 512) 512)) (hy : ev fr y = some vy) (ht : SlF c.P t e 1 b z) (hi : own[i]? = some (some (rowS secS vx xs))) (hu : ix xs m = some u) (hj : shr[j]? = some (Fact.sl u8S vy ys)) :
    OpT c o ⟨fr, own, shr⟩ (fun s => s = ⟨(d, some (vI ((min ys.length 512 : Nat) : Int))) :: fr, own.set i (some (rowS secS vx (xs.set m.toNat (u.put ys)))), shr⟩) :=
  OpT_copyEG (S := secS) (by_ := Sec.l) (u := u) (u' := u.put ys) rfl rfl hn hd ho hx hy ht hi hu hj

/-! ## maps -/
def mhas {κ ν : Type} [BEq κ] (k : κ) : List (κ × ν) → Bool
  | [] => false
  | p :: r => bif k == p.1 then true else mhas k r
variable {κ ν : Type} [BEq κ] {kk : IntKind} {kf : κ → Int} {V : ν → Value}
theorem find_has (hk : KeyF kk kf) (k : κ) (z : ν) : ∀ (es : List MapEntry) (xs : List (κ × ν)) (n : Nat), es.map entV = xs.map (fun p => (Value.int kk (kf p.1), V p.2)) →
    (Instr.findNow (.int kk) (.int kk (kf k)) es n = some none ∧ mget z k xs = z ∧ mhas k xs = false) ∨
    (∃ (j : Nat) (p : κ × ν), Instr.findNow (.int kk) (.int kk (kf k)) es n = some (some (n + j, V p.2)) ∧ mget z k xs = p.2 ∧ mhas k xs = true)
  | [], [], n, _ => .inl ⟨rfl, rfl, rfl⟩
  | [], _ :: _, _, h => by simp at h
  | _ :: _, [], _, h => by simp at h
  | e :: es, p :: xs, n, h => by
    simp only [List.map_cons, List.cons.injEq] at h
    obtain ⟨h1, h2⟩ := h
    have hkey : e.key = .int kk (kf p.1) := congrArg Prod.fst h1
    have hval : e.val = V p.2 := congrArg Prod.snd h1
    have hs : Instr.sameNow (.int kk) (.int kk (kf k)) e.key = some (kf k == kf p.1) := by rw [hkey]; simp [Instr.sameNow]
    cases hc : k == p.1 with
    | true =>
      refine .inr ⟨0, p, ?_, ?_, ?_⟩
      · simp only [Instr.findNow, hs, hk.eq, hc, hval, Nat.add_zero]
      · simp only [mget, hc, cond_true]
      · simp only [mhas, hc, cond_true]
    | false =>
      rcases find_has hk k z es xs (n + 1) h2 with ⟨a, b, d⟩ | ⟨j, p', a3, a4, a5⟩
      · refine .inl ⟨?_, ?_, ?_⟩
        · simp only [Instr.findNow, hs, hk.eq, hc]; exact a
        · simp only [mget, hc, cond_false]; exact b
        · simp only [mhas, hc, cond_false]; exact d
      · refine .inr ⟨j + 1, p', ?_, ?_, ?_⟩
        · simp only [Instr.findNow, hs, hk.eq, hc]; rw [a3]; congr 3; omega
        · simp only [mget, hc, cond_false]; exact a4
        · simp only [mhas, hc, cond_false]; exact a5
theorem OpT_lookup2 (hk : KeyF kk kf) {t tk te : TypeId} {x y : Operand} {b i : Nat} {kx : κ} {z : ν} {xs : List (κ × ν)} (hn : Nat.blt d c.n = true) (hd : o.dst = some d) (ho : o.op = .lookup t x y true) (hx : ev fr x = some (.map (some b))) (hy : ev fr y = some (.int kk (kf kx)))
    (ht : c.P.underlying t = some (.map tk te)) (htk : c.P.underlying tk = some (.int kk)) (hz : TyZ c.P te (V z)) (hi : own[i]? = some (some (mapR b kk kf V xs))) :
    OpT c o ⟨fr, own, shr⟩ (fun s => s = ⟨(d, some (.tuple #[V (mget z kx xs), .bool (mhas kx xs)])) :: fr, own, shr⟩) :=
  OpT_val hn hd fun a w hs => by
    obtain ⟨R, hs', hw⟩ := hs.2.2.2
    obtain ⟨es, ck, h1, h2⟩ := hw.ow i _ hi
    have hb := hw.hw i b _ h1
    have hik : IsKey (.int kk) (.int kk (kf kx)) := rfl
    rcases find_has hk kx z es.toList xs 0 h2 with ⟨f1, f2, f3⟩ | ⟨j, p, f1, f2, f3⟩
    · rw [f2, f3]
      simp [execOp, ho, ev_eval hs.2.2.1 hx, ev_eval hs.2.2.1 hy, Instr.lookup, run_underlying ht, MapKept.run_getObj_map hb, MapKept.run_checkKey htk hik, MapKept.run_findKey htk f1, hz w]
    · rw [f2, f3]
      simp [execOp, ho, ev_eval hs.2.2.1 hx, ev_eval hs.2.2.1 hy, Instr.lookup, run_underlying ht, MapKept.run_getObj_map hb, MapKept.run_checkKey htk hik, MapKept.run_findKey htk f1]
omit [BEq κ] in
theorem OpT_dropRun {own' : List (Option Res)} (hd : o.dst = none)
    (h : ∀ a w, Sat c ⟨fr, own, shr⟩ a w → ∃ (v : Value) (w' : World), (execOp a.eval o).run c.P w = .ok (.value v) w' ∧ HSat c.R0 c.w0 c.B own' shr w') :
    OpT c o ⟨fr, own, shr⟩ (fun s => s = ⟨fr, own', shr⟩) := by
  intro a w hs K Q hK
  obtain ⟨v, w', hr, hh⟩ := h a w hs
  unfold Oper.wp
  rw [hr, Oper.upon_value, hd]
  exact hK _ rfl _ _ ⟨hs.1, hs.2.1, hs.2.2.1, hh⟩
omit [BEq κ] in
theorem OpT_clearM {t tk te : TypeId} {x : Operand} {b i : Nat} {xs : List (κ × ν)} (hd : o.dst = none) (ho : o.op = .call { callee := .builtin .clear, args := #[x], argTypes := #[t] }) (hx : ev fr x = some (.map (some b)))
    (ht : c.P.underlying t = some (.map tk te)) (hi : own[i]? = some (some (mapR b kk kf V xs))) :
    OpT c o ⟨fr, own, shr⟩ (fun s => s = ⟨fr, own.set i (some (mapR b kk kf V [])), shr⟩) :=
  OpT_dropRun hd fun a w hs => by
    obtain ⟨R, hs', hw⟩ := hs.2.2.2
    obtain ⟨es, ck, h1, h2⟩ := hw.ow i _ hi
    have hb := hw.hw i b _ h1
    have h0 := MapKept.heap_set (o' := Obj.map #[] ck) hb
    refine ⟨.tuple #[], { w with heap := w.heap.setIfInBounds b (.map #[] ck) }, ?_, ?_⟩
    · simp [execOp, ho, resolve, invoke, builtin, ev_eval hs.2.2.1 hx, Builtin.clear_, run_underlying ht, MapKept.run_getObj_map hb, MapKept.run_setObj_map _ hb]
    · refine ⟨R, _, hw.upd i (PH.one b (.map #[] ck)) ?_ (by simp) ?_ ?_ rfl rfl rfl (own_set ?_)⟩
      · intro b' hb1 hb2
        by_cases eq : b' = b
        · subst eq; rw [h1] at hb2; cases hb2
        · exact h0.2 b' eq
      · intro b' o' h; obtain ⟨e1, e2⟩ := PH.one_some h; subst e1; subst e2; exact h0.1
      · intro b' o' h; obtain ⟨e1, _⟩ := PH.one_some h; subst e1; left; rw [h1]; simp
      · exact ⟨#[], ck, PH.one_self _ _, rfl⟩
/-- a map behind its value -/
def mapRV {κ ν : Type} (kk : IntKind) (kf : κ → Int) (V : ν → Value) (v : Value) (xs : List (κ × ν)) : Res :=
  ⟨fun R h => ∃ b, v = .map (some b) ∧ (mapR b kk kf V xs).p R h, fun hl ⟨b, e, p⟩ => ⟨b, e, (mapR b kk kf V xs).mono hl p⟩⟩
omit [BEq κ] in
theorem Tk_openM {i : Nat} {v : Value} {xs : List (κ × ν)} (hi : own[i]? = some (some (mapRV kk kf V v xs))) (hk : ∀ b, v = .map (some b) → Tk c k ⟨fr, own.set i (some (mapR b kk kf V xs)), shr⟩) : Tk c k ⟨fr, own, shr⟩ := fun a w hs => by
  obtain ⟨⟨b, e⟩, hh⟩ := hs.2.2.2.swap1 hi (α := { b : Nat // v = .map (some b) }) (r' := fun y => mapR y.1 kk kf V xs) (fun R h hp => by
    obtain ⟨b, e, q⟩ := hp
    exact ⟨⟨b, e⟩, q⟩)
  exact hk b e a w ⟨hs.1, hs.2.1, hs.2.2.1, hh⟩
omit [BEq κ] in
theorem vs_mapV {i b : Nat} {xs : List (κ × ν)} (hi : own[i]? = some (some (mapR b kk kf V xs))) : VS c ⟨fr, own, shr⟩ ⟨fr, own.set i (some (mapRV kk kf V (.map (some b)) xs)), shr⟩ := fun a w hs => by
  obtain ⟨_, hh⟩ := hs.2.2.2.swap1 hi (α := Unit) (r' := fun _ => mapRV kk kf V (.map (some b)) xs) (fun R h hp => ⟨(), b, rfl, hp⟩)
  exact ⟨hs.1, hs.2.1, hs.2.2.1, hh⟩
end
end Go.Proofs.Ytjfdamiilndgeaa

end

section
namespace Go.Proofs.Ytjfdamiilndgeaa

theorem shr64_bv (x : UInt64) (n : Nat) : (shr64 x n).toBitVec = x.toBitVec >>> n := by
  apply BitVec.eq_of_toNat_eq
  have hx := x.toNat_lt
  simp only [shr64, UInt64.toNat_toBitVec, UInt64.toNat_ofNat', BitVec.toNat_ushiftRight, Nat.shiftRight_eq_div_pow]
  by_cases h : n ≤ 64
  · rw [Nat.min_eq_left h, Nat.mod_eq_of_lt]
    exact Nat.lt_of_le_of_lt (Nat.div_le_self _ _) hx
  · rw [Nat.min_eq_right (by omega)]
    have h1 : x.toNat / 2 ^ 64 = 0 := Nat.div_eq_of_lt hx
    have h2 : x.toNat / 2 ^ n = 0 := Nat.div_eq_of_lt (Nat.lt_of_lt_of_le hx (Nat.pow_le_pow_right (by decide) (by omega)))
    rw [h1, h2]
/-- byte i of a word -/
def byt (v : UInt64) (i : Nat) : UInt8 := (shr64 v (8 * i)).toUInt8
/-! steps; their proofs are laid so that 'simp' writes each step down -/
section
variable {α ρ : Type}
theorem obS {a : α} {k : α → Option ρ} : ob (some a) k = k a := Eq.trans rfl rfl
theorem chkT {k : Option ρ} : chk true k = k := Eq.trans rfl rfl
theorem brT {x y : Option ρ} : br true x y = x := Eq.trans rfl rfl
theorem brF {x y : Option ρ} : br false x y = y := Eq.trans rfl rfl
theorem notT : (!true) = false := Eq.trans rfl rfl
theorem notF : (!false) = true := Eq.trans rfl rfl
theorem beqI {α : Type} [BEq α] [ReflBEq α] (a : α) : (a == a) = true := BEq.rfl
theorem bneI {α : Type} [BEq α] [ReflBEq α] (a : α) : (a != a) = false := by simp [bne]
end

theorem fits_ok {m n b : Nat} (h : (m + n) * b ≤ 140737488355328) : fits m n b = true := by simpa [fits] using h
theorem drop_ix {α : Type} {l : List α} {i : Nat} (h : i < l.length) : l.drop i = l[i] :: l.drop (i + 1) := List.drop_eq_getElem_cons h
theorem wi_nat {n : Nat} (h : n ≤ 9223372036854775807) : wi (n : Int) = n := wi_in (by omega) (by omega)
theorem wi_succ {n : Nat} (h : n < 9223372036854775807) : wi ((n : Int) + 1) = ((n + 1 : Nat) : Int) := by rw [wi_in (by omega) (by omega)]; omega
end Go.Proofs.Ytjfdamiilndgeaa

end

section
namespace Go.Proofs.Ytjfdamiilndgeaa
section
variable {ρ : Type} {p : Prop} [Decidable p] {x y k : Option ρ}
theorem bP (h : p) : br (decide p) x y = x := by rw [decide_eq_true h]; rfl
theorem bN (h : ¬ p) : br (decide p) x y = y := by rw [decide_eq_false h]; rfl
variable {α : Type} [BEq α] [LawfulBEq α] {a b : α}
theorem bE (h : a = b) : br (a == b) x y = x := by subst h; rw [beqI]; rfl
theorem bF (h : a ≠ b) : br (a == b) x y = y := by rw [beq_false_of_ne h]; rfl
theorem nE (h : a = b) : br (a != b) x y = y := by subst h; rw [bneI]; rfl
theorem nF (h : a ≠ b) : br (a != b) x y = x := by
  have : (a != b) = true := by simpa using h
  rw [this]; rfl
theorem cE (h : a = b) : chk (a == b) k = k := by subst h; rw [beqI]; rfl
theorem cF (h : a ≠ b) : chk (a != b) k = k := by
  have : (a != b) = true := by simpa using h
  rw [this]; rfl
theorem cT {c : Bool} (h : c = true) : chk c k = k := by subst h; rfl
theorem cFits {m n q : Nat} (h : (m + n) * q ≤ 140737488355328) : chk (fits m n q) k = k := by rw [fits_ok h]; rfl
end
theorem oS {α ρ : Type} {x : Option α} {a : α} {k : α → Option ρ} (h : x = some a) : ob x k = k a := by subst h; rfl
theorem ix_nat {α : Type} {l : List α} {i : Nat} {x : α} (h : l[i]? = some x) : ix l (i : Int) = some x := by simp [ix, h]
theorem sub_from {α : Type} (l : List α) (i : Int) : sub l i (len l) = l.drop i.toNat := by
  simp only [sub, len, Int.toNat_natCast]
  rw [List.take_of_length_le]; simp
theorem sub_to {α : Type} (l : List α) (i : Int) : sub l 0 i = l.take i.toNat := by simp [sub]
theorem sub_nat {α : Type} (l : List α) (i j : Nat) : sub l (i : Int) (j : Int) = (l.drop i).take (j - i) := by simp [sub]
theorem len_nat {α : Type} (l : List α) : len l = (l.length : Int) := rfl
theorem remi_nat (m n : Nat) : remi (m : Int) (n : Int) = ((m % n : Nat) : Int) := by simp only [remi]; rw [← Int.ofNat_tmod]
theorem quoi_nat (m n : Nat) (h : m ≤ 9223372036854775807) : quoi (m : Int) (n : Int) = ((m / n : Nat) : Int) := by
  simp only [quoi]; rw [← Int.ofNat_tdiv]
  have : m / n ≤ m := Nat.div_le_self _ _
  exact wi_nat (by omega)
theorem u64_of (n : Nat) : u64 (n : Int) = UInt64.ofNat n := by
  apply UInt64.toNat_inj.1
  simp only [u64, UInt64.toNat_ofNat']; omega
theorem i64_of {x : UInt64} (h : x.toNat ≤ 9223372036854775807) : i64 x = (x.toNat : Int) := wi_nat h
theorem getq {α : Type} {l : List α} {i : Nat} (h : i < l.length) : l[i]? = some l[i] := List.getElem?_eq_getElem h
end Go.Proofs.Ytjfdamiilndgeaa

end
