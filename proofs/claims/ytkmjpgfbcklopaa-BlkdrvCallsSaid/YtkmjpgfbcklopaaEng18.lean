/- The engine, part 18: made zeros behind a row of one's own; blocks that become rows; slices of whole arrays with a bound. No statement of the seat is proved here; no condition. -/
import Derived.Test.YtkmjpgfbcklopaaEng17
namespace Go.Proofs.Ytkmjpgfbcklopaa

section
variable {c : Cx} {k : List Item} {s : St} {ops : Array Oper} {rest : List Oper} {o : Oper} {fr : List (Nat × Option Value)} {own : List (Option Res)} {shr : List Fact} {d : Nat} {τ σ : Type} {S : Shape τ} {S' : Shape σ}

/-- append(x, make([]T, l)...): x a row of one's own -/
theorem OpT_appendOZ {cells : τ → List Value} {sz : Nat} {ag : Bool} {hl : ∀ x, (cells x).length = sz} {hone : ∀ x, (cells x).all (·.oneCell') = true} (hS : S = Shape.plain sz ag cells hl hone) {t e t2 : TypeId} {x y : Operand} {vx : Value} {l : Int} {i b : Nat} {z : Value} {u : τ} {xs : List τ} (hn : Nat.blt d c.n = true) (hd : o.dst = some d) (ho : o.op = .call { callee := .builtin .append, args := #[x, y], argTypes := #[t, t2] }) (hx : ev fr x = some vx) (hy : ev fr y = some (vI l))
    (ht : SlF c.P t e S.sz b z) (ht2 : c.P.underlying t2 = some (.int .i64)) (hi : own[i]? = some (some (rowS S vx xs))) (hz : z.cells.toList = cells u) (hok : decide (0 ≤ l ∧ ((xs.length : Int) + l) * (b : Int) ≤ 140737488355328) = true) :
    OpT c o ⟨fr, own, shr⟩ (fun s => ∃ v, s = ⟨(d, some v) :: fr, own.set i (some (rowS S v (xs ++ List.replicate l.toNat u))), shr⟩) := by
  subst hS
  refine OpT_run hn hd fun a w hs => ?_
  obtain ⟨h0, h2⟩ : 0 ≤ l ∧ ((xs.length : Int) + l) * (b : Int) ≤ 140737488355328 := by simpa using hok
  obtain ⟨n, rfl⟩ : ∃ n : Nat, l = (n : Int) := ⟨l.toNat, by omega⟩
  obtain ⟨ti, hti, htz, hsz, hb⟩ := ht.info
  have hbp := ht.bpos
  have hfit : (xs.length + n) * b ≤ 140737488355328 := by
    have : (((xs.length + n) * b : Nat) : Int) ≤ 140737488355328 := by rw [Int.natCast_mul, Int.natCast_add]; exact h2
    omega
  have hnb : n * b ≤ 140737488355328 := Nat.le_trans (Nat.mul_le_mul_right _ (Nat.le_add_left _ _)) hfit
  have hmx : xs.length + n ≤ 140737488355328 := Nat.le_trans (Nat.le_mul_of_pos_right _ hbp) hfit
  have hwr : IntKind.i64.wrap (n : Int) = (n : Int) := by rw [wi_wrap, wi_in (by omega) (by omega)]
  have hl0 : ¬ ((n : Int) < 0) := by omega
  have hl2 : ¬ (281474976710656 : Int) < (n : Int) * (b : Int) := by
    have : ((n * b : Nat) : Int) ≤ 140737488355328 := by omega
    rw [Int.natCast_mul] at this; omega
  have hcl : (cells u).length = sz := hl u
  have hzc : z.cells = (cells u).toArray := by rw [← hz]
  have hpos : 0 < sz := ht.pos
  have hsz' : ti.size = sz := hsz
  have hzl : ∀ n, (Builtin.zeroCells z.cells n).toList = (List.replicate n (cells u)).flatten := fun n => by
    have := madeCells_flat (z := cells u) n (by rw [hcl]; exact hpos)
    rw [← this]
    simp only [Builtin.zeroCells, madeCells, hzc, List.size_toArray]
  have hzlen : (List.replicate n (cells u)).flatten.length = n * sz := by rw [flat_len (sz := sz) (fun ci h => by rw [(List.mem_replicate.1 h).2, hcl])]; simp
  obtain ⟨R, hs', hw⟩ := hs.2.2.2
  obtain ⟨ass, a1, a2, a3⟩ := hw.ow i _ hi
  obtain ⟨al, ao⟩ := css_len a1 a2
  have hlt : i < own.length := (List.getElem?_eq_some_iff.1 hi).1
  have hsame : own.set i (some (rowS (Shape.plain sz ag cells hl hone) vx xs)) = own := by
    apply List.ext_getElem?
    intro j
    by_cases hj : i = j
    · subst hj
      simp [hlt]; rw [List.getElem?_eq_getElem hlt] at hi; simpa using hi.symm
    · rw [List.getElem?_set_ne hj]
  by_cases hn0 : n = 0
  · subst hn0
    refine ⟨vx, w, vx, ?_, rfl, ?_⟩
    · rcases a3 with ⟨hv, hx'⟩ | ⟨g, cp, cur, tg, hv, hg, hle, _⟩
      · subst hv
        simp [execOp, ho, resolve, invoke, builtin, ev_eval hs.2.2.1 hx, ev_eval hs.2.2.1 hy, Builtin.append_, run_underlying ht.und, run_underlying ht2, ht.sz, asInt, asIntOf, typeInfo, hti, wi_wrap, wi_in]
      · subst hv
        simp [execOp, ho, resolve, invoke, builtin, ev_eval hs.2.2.1 hx, ev_eval hs.2.2.1 hy, Builtin.append_, run_underlying ht.und, run_underlying ht2, ht.sz, asInt, asIntOf, typeInfo, hti, wi_wrap, wi_in, hle, storeCells]
    · simp only [Int.toNat_natCast, List.replicate_zero, List.append_nil, hsame]
      exact ⟨R, hs', hw⟩
  · have hk : ¬ n * sz = 0 := by rw [Nat.mul_eq_zero]; omega
    have hrel : ∀ (j : Nat) (ci : List Value) (x : τ), (ass ++ List.replicate n (cells u))[j]? = some ci → (xs ++ List.replicate n u)[j]? = some x → (Shape.plain sz ag cells hl hone).rel R ci x := by
      intro j ci x h1 h2
      by_cases hj : j < ass.length
      · rw [List.getElem?_append_left hj] at h1
        rw [List.getElem?_append_left (by omega)] at h2
        exact a2 j ci x h1 h2
      · rw [List.getElem?_append_right (by omega), List.getElem?_replicate] at h1
        rw [List.getElem?_append_right (by omega), ← a1, List.getElem?_replicate] at h2
        split at h1
        · rename_i hlt; rw [if_pos hlt] at h2; simp at h1 h2; subst h1; subst h2; rfl
        · cases h1
    have hcl2 : (ass ++ List.replicate n (cells u)).length = (xs ++ List.replicate n u).length := by simp [a1]
    have grow : ∀ (base : Option Addr) (cp : Nat), vx = .slice base xs.length cp → (∀ (j : Nat) (v : Value), ass.flatten[j]? = some v → ∃ a, base = some a ∧ w.cell? (a.add j) = some v) → cp < xs.length + n →
        ∃ v' w' v2, (execOp a.eval o).run c.P w = .ok (.value v') w' ∧ (⟨(d, some v2) :: fr, own.set i (some (rowS (Shape.plain sz ag cells hl hone) v2 (xs ++ List.replicate n u))), shr⟩ : St) = ⟨(d, some v') :: fr, own.set i (some (rowS (Shape.plain sz ag cells hl hone) v2 (xs ++ List.replicate n u))), shr⟩ ∧ HSat c.R0 c.w0 c.B (own.set i (some (rowS (Shape.plain sz ag cells hl hone) v2 (xs ++ List.replicate n u)))) shr w' := by
      intro base cp hv hcell hcp
      subst hv
      have h63' : ¬ (9223372036854775807 < (((xs.length + n : Nat)) : Int)) := by omega
      have h48' : ¬ (281474976710656 < Builtin.nextslicecap (xs.length + n) cp * b) := by have := growslice_fits (need := xs.length + n) (old := cp) (bytes := b) hcp hfit; omega
      have hroom : ¬ (xs.length + n ≤ cp) := by omega
      have hold : (Builtin.firstCells sz xs.length (.slice base xs.length cp)).run c.P w.drew = .ok ass.flatten.toArray w.drew := by
        by_cases hx0 : base = none
        · subst hx0
          have : ass.flatten = [] := by
            cases hq : ass.flatten with
            | nil => rfl
            | cons q r => obtain ⟨a', h, _⟩ := hcell 0 q (by rw [hq]; rfl); cases h
          rw [this]; exact run_firstCells_none ..
        · obtain ⟨a', rfl⟩ : ∃ a', base = some a' := by cases base with | none => exact absurd rfl hx0 | some a' => exact ⟨a', rfl⟩
          refine run_firstCells_some w.drew sz xs.length a' xs.length cp ass.flatten (by rw [flat_len al, a1]; rfl) (fun j v hj => ?_)
          obtain ⟨a2, h, h'⟩ := hcell j v hj
          cases h; exact h'
      have hrun : (execOp a.eval o).run c.P w = .ok (.value (.slice (some ⟨w.heap.size, 0, none⟩) (xs.length + n) (grownCap w (xs.length + n) cp e))) (w.drew.alloc (.cells (ass.flatten.toArray ++ Builtin.zeroCells z.cells n ++ Builtin.zeroCells z.cells (grownCap w (xs.length + n) cp e - (xs.length + n))) e)) := by
        simp [execOp, ho, resolve, invoke, builtin, ev_eval hs.2.2.1 hx, ev_eval hs.2.2.1 hy, Builtin.append_, run_underlying ht.und, run_underlying ht2, sizeOf, typeInfo, zeroValue, hti, htz, hsz', hb, asInt, asIntOf, hwr, hl0, hl2, hn0, hk, hroom, h63', h48', Question.forced, hold, newRow, grownCap, hpos]
        all_goals first | omega | skip
      have hc1 := grownCap_ge w (xs.length + n) cp e
      have hc2 := grownCap_le_maxLen w (xs.length + n) cp e (by unfold maxLen; omega)
      refine ⟨_, _, .slice (some ⟨w.heap.size, 0, none⟩) (xs.length + n) (grownCap w (xs.length + n) cp e), hrun, rfl, ?_⟩
      refine ⟨R, _, hw.drew.upd i (PH.one w.heap.size (.cells (ass.flatten.toArray ++ Builtin.zeroCells z.cells n ++ Builtin.zeroCells z.cells (grownCap w (xs.length + n) cp e - (xs.length + n))) e)) ?_ (by simp) ?_ ?_ rfl rfl rfl (own_set ?_)⟩
      · intro k hk _
        exact heap_alloc_old w.drew _ hk
      · intro k o' hk; obtain ⟨k1, k2⟩ := PH.one_some hk; subst k1; subst k2
        exact heap_alloc_new w.drew _
      · intro k o' hk; obtain ⟨k1, _⟩ := PH.one_some hk; right; subst k1; exact Nat.le_refl _
      · refine ⟨ass ++ List.replicate n (cells u), hcl2, hrel, .inr ⟨w.heap.size, grownCap w (xs.length + n) cp e, _, e, by simp, PH.one_self _ _, by simpa using hc1, hc2, ?_, ?_⟩⟩
        · simp only [Array.size_append, List.size_toArray, size_zeroCells, ht.zsz, flat_len al, a1, ← Nat.add_mul]
          congr 1; omega
        · simp only [Array.toList_append, List.append_assoc, List.flatten_append, hzl]
          rw [← List.append_assoc, List.take_left']
          simp [flat_len al, hzlen, a1, Nat.add_mul, Shape.plain]
    rcases a3 with ⟨hv, hx'⟩ | ⟨g, cp, cur, tg, hv, hg, hle, hcm, hcs, htk⟩
    · subst hx'
      have hass : ass = [] := List.eq_nil_of_length_eq_zero (by simpa using a1)
      exact grow none 0 hv (fun j v h => by rw [hass] at h; simp at h) (by simp; omega)
    · have hgw := hw.own_in hg
      by_cases hroom : xs.length + n ≤ cp
      · have hfit' : xs.length * sz + n * sz ≤ cur.size := by rw [hcs, ← Nat.add_mul]; exact Nat.mul_le_mul_right _ hroom
        have hst := run_storeCells_at c.P g (xs.length * sz) tg ((List.replicate n (cells u)).flatten) 0 cur w hgw (by rw [hzlen]; simpa using hfit') (fun v hv => by
          obtain ⟨ci, hci, hu⟩ := List.mem_flatten.1 hv
          rw [(List.mem_replicate.1 hci).2] at hu
          exact List.all_eq_true.1 (hone u) v hu)
        simp only [Nat.add_zero] at hst
        subst hv
        have hrun : (execOp a.eval o).run c.P w = .ok (.value (.slice (some ⟨g, 0, none⟩) (xs.length + n) cp)) (w.setRow g (cur.toList.take (xs.length * sz) ++ (List.replicate n (cells u)).flatten ++ cur.toList.drop (xs.length * sz + (List.replicate n (cells u)).flatten.length)).toArray) := by
          simp [execOp, ho, resolve, invoke, builtin, ev_eval hs.2.2.1 hx, ev_eval hs.2.2.1 hy, Builtin.append_, run_underlying ht.und, run_underlying ht2, sizeOf, typeInfo, zeroValue, hti, htz, hsz', hb, asInt, asIntOf, hwr, hl0, hl2, hn0, hk, hroom, Addr.add_lit, hzl, hst]
        refine ⟨_, _, _, hrun, rfl, R, _, hw.upd i (PH.one g (.cells (cur.toList.take (xs.length * sz) ++ (List.replicate n (cells u)).flatten ++ cur.toList.drop (xs.length * sz + (List.replicate n (cells u)).flatten.length)).toArray tg)) ?_ (by simp) ?_ ?_ rfl rfl rfl (own_set ?_)⟩
        · intro k hk hn
          by_cases ek : k = g
          · subst ek; rw [hg] at hn; cases hn
          · exact setRow_other w g k _ ek
        · intro k o' hk; obtain ⟨k1, k2⟩ := PH.one_some hk; subst k1; subst k2
          exact setRow_heap w _ cur _ tg (0, 0) hgw
        · intro k o' hk; obtain ⟨k1, _⟩ := PH.one_some hk; subst k1; left; rw [hg]; simp
        · refine ⟨ass ++ List.replicate n (cells u), hcl2, hrel, .inr ⟨g, cp, _, tg, by simp, PH.one_self _ _, by simpa using hroom, hcm, ?_, ?_⟩⟩
          · simp only [List.size_toArray, List.length_append, List.length_take, List.length_drop, Array.length_toList, hzlen]
            show _ = cp * sz
            have hcs' : cur.size = cp * sz := hcs
            rw [hcs'] at hfit' ⊢
            omega
          · have htk' : cur.toList.take (xs.length * sz) = ass.flatten := htk
            rw [htk']
            simp only [List.flatten_append, List.append_assoc]
            rw [← List.append_assoc, List.take_left']
            simp [flat_len al, hzlen, a1, Nat.add_mul, Shape.plain]
      · refine grow (some ⟨g, 0, none⟩) cp hv (fun j v hj => ⟨_, rfl, ?_⟩) (by omega)
        rw [Addr.add_lit, Nat.zero_add, cell_of_row w g j cur tg (0, 0) hgw]
        rw [← htk, List.getElem?_take] at hj
        split at hj
        · simpa using hj
        · cases hj
end
end Go.Proofs.Ytkmjpgfbcklopaa
