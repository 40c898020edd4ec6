/- The engine, part 5: rows of one's own; what grows; strings of bytes. No statement of the seat is proved here; no condition. -/
import Derived.Test.YtlofegfaphijpaaEng4
namespace Go.Proofs.Ytlofegfaphijpaa

/-- a row of one's own: v is nil, or slices its block from the start on -/
def RowRel {τ : Type} (S : Shape τ) (R h : PH) (v : Value) (xs : List τ) : Prop :=
  ∃ css : List (List Value), css.length = xs.length ∧ (∀ (i : Nat) (ci : List Value) (x : τ), css[i]? = some ci → xs[i]? = some x → S.rel R ci x) ∧
    ((v = .slice none 0 0 ∧ xs = []) ∨
     ∃ (g cap : Nat) (cur : Array Value) (tg : TypeId), v = .slice (some ⟨g, 0, none⟩) xs.length cap ∧ h g = some (.cells cur tg (0, 0)) ∧ xs.length ≤ cap ∧ cap ≤ maxLen ∧ cur.size = cap * S.sz ∧ cur.toList.take (xs.length * S.sz) = css.flatten)
def rowS {τ : Type} (S : Shape τ) (v : Value) (xs : List τ) : Res :=
  ⟨fun R h => RowRel S R h v xs, fun hl ⟨css, h1, h2, h3⟩ => ⟨css, h1, fun i ci x a b => S.mono hl (h2 i ci x a b), h3⟩⟩

theorem css_len {τ : Type} {S : Shape τ} {R : PH} {css : List (List Value)} {xs : List τ} (h1 : css.length = xs.length) (h2 : ∀ (i : Nat) (ci : List Value) (x : τ), css[i]? = some ci → xs[i]? = some x → S.rel R ci x) : (∀ ci ∈ css, ci.length = S.sz) ∧ (∀ u ∈ css.flatten, u.oneCell' = true) := by
  have hx : ∀ (i : Nat) (ci : List Value), css[i]? = some ci → ∃ x, xs[i]? = some x := fun i ci hi => by
    have : i < css.length := (List.getElem?_eq_some_iff.1 hi).1
    exact ⟨xs[i]'(by omega), List.getElem?_eq_getElem _⟩
  refine ⟨fun ci hci => ?_, fun u hu => ?_⟩
  · obtain ⟨i, hi⟩ := List.mem_iff_getElem?.1 hci
    obtain ⟨x, hx⟩ := hx i ci hi
    exact S.len (h2 i ci x hi hx)
  · obtain ⟨ci, hci, hu⟩ := List.mem_flatten.1 hu
    obtain ⟨i, hi⟩ := List.mem_iff_getElem?.1 hci
    obtain ⟨x, hx⟩ := hx i ci hi
    exact S.one (h2 i ci x hi hx) u hu

/-! a run that appends within the capacity, whatever the block's type -/
theorem run_append_room' {P : Program} (w : World) (t ty e : TypeId) (i : TypeInfo) (ht : P.underlying t = some (.slice e)) (hi : P.info? e = some i)
    (g sLen sCap : Nat) (cur : Array Value) (tg : TypeId) (hg : w.heap[g]? = some (.cells cur tg (0, 0)))
    (a : Addr) (m c : Nat) (news : List Value) (hl : news.length = m * i.size) (hnews : ∀ (j : Nat) (u : Value), news[j]? = some u → w.cell? (a.add j) = some u) (h1 : ∀ u ∈ news, u.oneCell' = true)
    (hroom : sLen + m ≤ sCap) (hfit : sLen * i.size + news.length ≤ cur.size) :
    (Builtin.append_ #[t, t] ty #[.slice (some ⟨g, 0, none⟩) sLen sCap, .slice (some a) m c]).run P w =
      .ok (.slice (some ⟨g, 0, none⟩) (sLen + m) sCap) (w.setRow g (cur.toList.take (sLen * i.size) ++ news ++ cur.toList.drop (sLen * i.size + news.length)).toArray) := by
  have hf := run_firstCells_some (P := P) w i.size m a m c news hl hnews
  have hst := run_storeCells_at P g (sLen * i.size) tg news 0 cur w hg (by simpa using hfit) h1
  simp only [Nat.add_zero] at hst
  simp [Builtin.append_, run_underlying ht, sizeOf, typeInfo, hi, Builtin.lenOf, hroom, hf, Addr.add_lit, hst]
theorem run_append_none {P : Program} (w : World) (t ty e : TypeId) (i : TypeInfo) (ht : P.underlying t = some (.slice e)) (hi : P.info? e = some i)
    (base : Option Addr) (sLen sCap : Nat) (b : Option Addr) (c : Nat) (hle : sLen ≤ sCap) :
    (Builtin.append_ #[t, t] ty #[.slice base sLen sCap, .slice b 0 c]).run P w = .ok (.slice base sLen sCap) w := by
  cases b <;> cases base <;> simp [Builtin.append_, run_underlying ht, sizeOf, typeInfo, hi, Builtin.lenOf, hle, Builtin.firstCells, loadCells, loadCellsFrom, storeCells]

theorem HW.own_in {R0 : PH} {w0 : World} {B : Nat → Prop} {own : List (Option Res)} {shr : List Fact} {w : World} {R : PH} {hs : Nat → PH} (h : HW R0 w0 B own shr w R hs) {i g : Nat} {o : Obj} (hi : hs i g = some o) : w.heap[g]? = some o := h.hw i g o hi

/-- append(x, y...): x a row of one's own, y a slice that is read -/
theorem run_append_S {P : Program} {τ : Type} {S : Shape τ} {t e : TypeId} {sz b : Nat} {z : Value} (ht : SlF P t e S.sz b z) {R0 : PH} {w0 : World} {B : Nat → Prop} {own : List (Option Res)} {shr : List Fact} {w : World} {R : PH} {hs : Nat → PH}
    (hw : HW R0 w0 B own shr w R hs) {i : Nat} {vx vy : Value} {xs ys : List τ} (hi : own[i]? = some (some (rowS S vx xs))) {R' : PH} (hR' : R'.inW w) (hRR : ∀ cs x, S.rel R' cs x → S.rel R cs x) (hy : SliceRel S R' vy ys) (hfit : (xs.length + ys.length) * b ≤ 140737488355328) (ty : TypeId) :
    ∃ v' w', (Builtin.append_ #[t, t] ty #[vx, vy]).run P w = .ok v' w' ∧ HSat R0 w0 B (own.set i (some (rowS S v' (xs ++ ys)))) shr w' := by
  obtain ⟨base, cap, css, e1, e2, e3, e4, e5, e6, e7, e8⟩ := hy.flat
  obtain ⟨ass, a1, a2, a3⟩ := hw.ow i _ hi
  obtain ⟨al, ao⟩ := css_len a1 a2
  obtain ⟨ti, hti, hz, hsz, hb⟩ := ht.info
  have hrel : ∀ (j : Nat) (ci : List Value) (x : τ), (ass ++ css)[j]? = some ci → (xs ++ ys)[j]? = some x → S.rel R ci x := by
    intro j ci x h1 h2
    by_cases hj : j < ass.length
    · rw [List.getElem?_append_left hj] at h1
      rw [List.getElem?_append_left (by omega)] at h2
      exact a2 j ci x h1 h2
    · rw [List.getElem?_append_right (by omega)] at h1
      rw [List.getElem?_append_right (by omega), ← a1] at h2
      exact hRR _ _ (e4 _ ci x h1 h2)
  have hcl : (ass ++ css).length = (xs ++ ys).length := by simp [a1, e3]
  have hmax : xs.length + ys.length ≤ maxLen := by
    have := ht.bpos
    have : xs.length + ys.length ≤ (xs.length + ys.length) * b := Nat.le_mul_of_pos_right _ ht.bpos
    unfold maxLen; omega
  subst e1
  by_cases hy0 : ys = []
  · subst hy0
    simp only [List.length_nil] at *
    have hw' : ∀ v n cp, vx = .slice v n cp → n ≤ cp → ∃ v' w', (Builtin.append_ #[t, t] ty #[vx, .slice base 0 cap]).run P w = .ok v' w' ∧ HSat R0 w0 B (own.set i (some (rowS S v' (xs ++ [])))) shr w' := by
      intro v n cp hv hle
      subst hv
      refine ⟨_, w, run_append_none w t ty e ti ht.und hti v n cp base cap hle, R, hs, ?_⟩
      rw [List.append_nil]
      have : own.set i (some (rowS S (Value.slice v n cp) xs)) = own := by
        apply List.ext_getElem?
        intro j
        by_cases hj : i = j
        · subst hj
          have hlt := (List.getElem?_eq_some_iff.1 hi).1
          simp [hlt]; rw [List.getElem?_eq_getElem hlt] at hi; simpa using hi.symm
        · rw [List.getElem?_set_ne hj]
      rw [this]; exact hw
    rcases a3 with ⟨hv, hx⟩ | ⟨g, cp, cur, tg, hv, _, hle, _⟩
    · exact hw' none 0 0 hv (Nat.le_refl _)
    · exact hw' _ _ _ hv hle
  · have hne := e7 hy0
    obtain ⟨a, rfl⟩ : ∃ a, base = some a := by cases base with | none => exact absurd rfl hne | some a => exact ⟨a, rfl⟩
    have hypos : 0 < ys.length := by cases ys with | nil => exact absurd rfl hy0 | cons _ _ => simp
    have hnl : css.flatten.length = ys.length * ti.size := by rw [flat_len e5, e3, hsz]
    have hnews : ∀ (j : Nat) (u : Value), css.flatten[j]? = some u → w.cell? (a.add j) = some u := fun j u hj => PH.cell_inW hR' (e8 a rfl j u hj)
    have hyb : ys.length * b ≤ 140737488355328 := Nat.le_trans (Nat.mul_le_mul_right _ (Nat.le_add_left _ _)) hfit
    have fresh : ∀ (w1 : World) (olds : List Value) (newcap : Nat), w1.heap = w.heap → w1.os = w.os → w1.tape = w.tape → w1.output = w.output → olds = ass.flatten → xs.length + ys.length ≤ newcap → newcap ≤ maxLen →
        HSat R0 w0 B (own.set i (some (rowS S (.slice (some ⟨w.heap.size, 0, none⟩) (xs.length + ys.length) newcap) (xs ++ ys)))) shr
          (w1.alloc (.cells (olds.toArray ++ css.flatten.toArray ++ Builtin.zeroCells z.cells (newcap - (xs.length + ys.length))) e)) := by
      intro w1 olds newcap q1 q2 q3 q4 q5 q6 q7
      subst q5
      have hsize : w1.heap.size = w.heap.size := by rw [q1]
      refine ⟨R, _, hw.upd i (PH.one w.heap.size (.cells (ass.flatten.toArray ++ css.flatten.toArray ++ Builtin.zeroCells z.cells (newcap - (xs.length + ys.length))) e)) ?_ (by simp [hsize]) ?_ ?_ q2 q3 q4 (own_set ?_)⟩
      · intro k hk _
        rw [heap_alloc_old w1 _ (by rw [hsize]; exact hk), q1]
      · intro k o' hk; obtain ⟨k1, k2⟩ := PH.one_some hk; subst k1; subst k2
        have := heap_alloc_new w1 (.cells (ass.flatten.toArray ++ css.flatten.toArray ++ Builtin.zeroCells z.cells (newcap - (xs.length + ys.length))) e)
        rw [hsize] at this; exact this
      · intro k o' hk; obtain ⟨k1, _⟩ := PH.one_some hk; right; omega
      · refine ⟨ass ++ css, hcl, hrel, .inr ⟨w.heap.size, newcap, _, e, by simp, PH.one_self _ _, by simpa using q6, q7, ?_, ?_⟩⟩
        · simp only [Array.size_append, List.size_toArray, size_zeroCells, ht.zsz, flat_len al, flat_len e5, e3, a1, ← Nat.add_mul]
          congr 1; omega
        · simp only [Array.toList_append, List.append_assoc, List.flatten_append, List.length_append]
          rw [← List.append_assoc, List.take_left']
          simp [flat_len al, flat_len e5, e3, a1, Nat.add_mul]
    rcases a3 with ⟨hv, hx⟩ | ⟨g, cp, cur, tg, hv, hg, hle, hcm, hcs, htk⟩
    · subst hv; subst hx
      have hr := run_append_nil (P := P) w t ty e ti z ht.und hti hz a ys.length cap css.flatten hnl hnews hypos (by simp only [List.length_nil, Nat.zero_add] at hmax; unfold maxLen at hmax; omega) (by rw [hb]; omega)
      have hass : ass = [] := List.eq_nil_of_length_eq_zero (by simpa using a1)
      subst hass
      have hc1 := grownCap_ge w ys.length 0 e
      have hc2 := grownCap_le_maxLen w ys.length 0 e (by simpa using hmax)
      refine ⟨_, _, hr, ?_⟩
      have := fresh w.drew [] (grownCap w ys.length 0 e) rfl rfl rfl rfl rfl (by simpa using hc1) hc2
      simpa using this
    · subst hv
      have hgw := hw.own_in hg
      by_cases hroom : xs.length + ys.length ≤ cp
      · have hfit' : xs.length * ti.size + css.flatten.length ≤ cur.size := by rw [hnl, hcs, ← Nat.add_mul, hsz]; exact Nat.mul_le_mul_right _ hroom
        have hr := run_append_room' (P := P) w t ty e ti ht.und hti g xs.length cp cur tg hgw a ys.length cap css.flatten hnl hnews e6 hroom hfit'
        refine ⟨_, _, hr, R, _, hw.upd i (PH.one g (.cells (cur.toList.take (xs.length * ti.size) ++ css.flatten ++ cur.toList.drop (xs.length * ti.size + css.flatten.length)).toArray tg)) ?_ (by simp) ?_ ?_ rfl rfl rfl (own_set ?_)⟩
        · intro k hk hn
          by_cases ek : k = g
          · subst ek; rw [hg] at hn; cases hn
          · exact setRow_other w g k _ ek
        · intro k o' hk; obtain ⟨k1, k2⟩ := PH.one_some hk; subst k1; subst k2
          exact setRow_heap w _ cur _ tg (0, 0) hgw
        · intro k o' hk; obtain ⟨k1, _⟩ := PH.one_some hk; subst k1; left; rw [hg]; simp
        · refine ⟨ass ++ css, hcl, hrel, .inr ⟨g, cp, _, tg, by simp, PH.one_self _ _, by simpa using hroom, hcm, ?_, ?_⟩⟩
          · simp only [List.size_toArray, List.length_append, List.length_take, List.length_drop, Array.length_toList]
            rw [hsz] at hfit' ⊢; rw [hcs] at hfit' ⊢
            omega
          · rw [hsz, htk]
            simp only [List.flatten_append, List.length_append, List.append_assoc]
            rw [← List.append_assoc, List.take_left']
            simp [flat_len al, flat_len e5, e3, a1, Nat.add_mul]
      · have hholds : ∀ (j : Nat) (u : Value), ass.flatten[j]? = some u → w.cell? ((⟨g, 0, none⟩ : Addr).add j) = some u := by
          intro j u hj
          rw [Addr.add_lit, Nat.zero_add, cell_of_row w g j cur tg (0, 0) hgw]
          rw [← htk, List.getElem?_take] at hj
          split at hj
          · simpa using hj
          · cases hj
        have hr := run_append_grow (P := P) w t ty e ti z ht.und hti hz ⟨g, 0, none⟩ xs.length cp ass.flatten (by rw [flat_len al, a1, hsz]) hholds a ys.length cap css.flatten hnl hnews (by omega) (by unfold maxLen at hmax; omega) (growslice_fits (by omega) (by rw [hb]; exact hfit))
        have hc1 := grownCap_ge w (xs.length + ys.length) cp e
        have hc2 := grownCap_le_maxLen w (xs.length + ys.length) cp e hmax
        exact ⟨_, _, hr, fresh w.drew ass.flatten _ rfl rfl rfl rfl rfl hc1 hc2⟩

section
variable {c : Cx} {k : List Item} {o : Oper} {ops : Array Oper} {rest : List Oper} {fr : List (Nat × Option Value)} {own : List (Option Res)} {shr : List Fact} {d : Nat} {τ : Type} {S : Shape τ}

theorem OpT_append {t e : TypeId} {x y : Operand} {vx vy : Value} {i j b : Nat} {z : Value} {xs ys : List τ} (hn : Nat.blt d c.n = true) (hd : o.dst = some d) (ho : o.op = .call { callee := .builtin .append, args := #[x, y], argTypes := #[t, t] })
    (hx : ev fr x = some vx) (hy : ev fr y = some vy) (ht : SlF c.P t e S.sz b z) (hi : own[i]? = some (some (rowS S vx xs))) (hj : shr[j]? = some (Fact.sl S vy ys)) (hf : fits xs.length ys.length b = true) :
    OpT c o ⟨fr, own, shr⟩ (fun s => ∃ v, s = ⟨(d, some v) :: fr, own.set i (some (rowS S v (xs ++ ys))), shr⟩) :=
  OpT_run hn hd fun a w hs => by
    obtain ⟨R, hs', hw⟩ := hs.2.2.2
    obtain ⟨v', w', hr, hh⟩ := run_append_S (sz := 0) ht hw hi hw.rw_ (fun _ _ h => h) (hw.sh _ (List.mem_of_getElem? hj)) (Nat.le_of_ble_eq_true hf) o.type
    refine ⟨v', w', v', ?_, rfl, hh⟩
    simp only [execOp, ho, resolve, invoke, builtin, Sem.run_bind, Sem.run_pure, Result.andThen_ok, List.map_toArray, List.map_cons, List.map_nil, ev_eval hs.2.2.1 hx, ev_eval hs.2.2.1 hy, hr]

/-- a nil slice is a row of one's own -/
theorem HSat.nilrow {R0 : PH} {w0 : World} {B : Nat → Prop} {own : List (Option Res)} {shr : List Fact} {w : World} (S : Shape τ) (h : HSat R0 w0 B own shr w) : HSat R0 w0 B (own ++ [some (rowS S (.slice none 0 0) [])]) shr w := by
  obtain ⟨R, hs, hw⟩ := h
  refine ⟨R, _, hw.upd own.length PH.emp (fun _ _ _ => rfl) (Nat.le_refl _) (fun b o' hb => by cases hb) (fun b o' hb => by cases hb) rfl rfl rfl ?_⟩
  intro j r hj
  by_cases e : j = own.length
  · subst e; simp at hj; subst hj; exact .inl ⟨rfl, [], rfl, fun i ci x h => by simp at h, .inl ⟨rfl, rfl⟩⟩
  · right; refine ⟨e, ?_⟩
    rcases Nat.lt_or_ge j own.length with hlt | hge
    · rwa [List.getElem?_append_left hlt] at hj
    · have : j - own.length ≠ 0 := by omega
      rw [List.getElem?_append_right hge] at hj
      cases hq : j - own.length with
      | zero => omega
      | succ q => rw [hq] at hj; simp at hj
theorem Tops_nilrow (S : Shape τ) (h : Tops c ops k rest ⟨fr, own ++ [some (rowS S (.slice none 0 0) [])], shr⟩) : Tops c ops k rest ⟨fr, own, shr⟩ := fun a w hs => h a w ⟨hs.1, hs.2.1, hs.2.2.1, hs.2.2.2.nilrow S⟩
theorem Tk_nilrow (S : Shape τ) (h : Tk c k ⟨fr, own ++ [some (rowS S (.slice none 0 0) [])], shr⟩) : Tk c k ⟨fr, own, shr⟩ := fun a w hs => h a w ⟨hs.1, hs.2.1, hs.2.2.1, hs.2.2.2.nilrow S⟩

/-- what is owned becomes readable by all; nobody writes it any more -/
theorem HW.retire {R0 : PH} {w0 : World} {B : Nat → Prop} {own : List (Option Res)} {shr : List Fact} {w : World} {R : PH} {hs : Nat → PH} (h : HW R0 w0 B own shr w R hs) (i : Nat) (G : Fact) (hG : G.p (R.or (hs i))) :
    HW R0 w0 B (own.set i none) (shr ++ [G]) w (R.or (hs i)) (fun j => if j = i then PH.emp else hs j) := by
  have hle : R.le (R.or (hs i)) := PH.or_left
  refine ⟨PH.le_trans h.r0 hle, ?_, ?_, ?_, ?_, ?_, ?_, ?_, ?_, h.size, h.keep, h.os, h.tape, h.output⟩
  · intro b o hb
    rcases PH.or_some hb with q | q
    · exact h.rw_ b o q
    · exact h.hw i b o q
  · intro F hF
    rcases List.mem_append.1 hF with q | q
    · exact F.mono hle (h.sh F q)
    · simp at q; subst q; exact hG
  · intro j r hj
    by_cases e : j = i
    · subst e
      rcases Nat.lt_or_ge j own.length with hlt | hge
      · simp [hlt] at hj
      · simp [Nat.not_lt.2 hge] at hj
    · rw [List.getElem?_set_ne (fun q => e q.symm)] at hj
      simp only [e, if_false]
      exact r.mono hle (h.ow j r hj)
  · intro j
    by_cases e : j = i
    · simp only [e, if_true]; intro b o hb; cases hb
    · simp only [e, if_false]; exact h.hw j
  · intro j l hjl
    by_cases e : j = i
    · simp only [e, if_true]; exact fun b => .inl rfl
    · by_cases e' : l = i
      · simp only [e', if_true]; exact fun b => .inr rfl
      · simp only [e, e', if_false]; exact h.dj j l hjl
  · intro j
    by_cases e : j = i
    · simp only [e, if_true]; exact fun b => .inr rfl
    · simp only [e, if_false]
      intro b
      have h1 := h.rd j b
      have h2 := h.dj i j (fun q => e q.symm) b
      rcases h1 with q | q
      · rcases h2 with q' | q'
        · left; simp [PH.or, q, q']
        · right; exact q'
      · right; exact q
  · intro j b o hb
    by_cases e : j = i
    · simp only [e, if_true] at hb; cases hb
    · simp only [e, if_false] at hb; exact h.new j b o hb
  · intro b o hb
    rcases PH.or_some hb with q | q
    · exact h.rnew b o q
    · exact .inr (h.new i b o q)

theorem RowRel.slice {R h : PH} (hd : R.disj h) {v : Value} {xs : List τ} (hr : RowRel S R h v xs) : SliceRel S (R.or h) v xs := by
  obtain ⟨css, h1, h2, h3⟩ := hr
  obtain ⟨hl, _⟩ := css_len h1 h2
  rcases h3 with ⟨hv, hx⟩ | ⟨g, cap, cur, tg, hv, hg, hle, hcm, hcs, htk⟩
  · subst hv; subst hx
    have : css = [] := List.eq_nil_of_length_eq_zero (by simpa using h1)
    subst this
    exact ⟨none, 0, [], rfl, Nat.le_refl _, rfl, fun i ci x a => by simp at a, fun i ci a => by simp at a⟩
  · refine ⟨_, cap, css, hv, hle, h1, fun i ci x a b => S.mono PH.or_left (h2 i ci x a b), fun i ci a => ⟨_, rfl, ?_⟩⟩
    intro j u hj
    have hjl : j < S.sz := by
      rw [← hl ci (List.mem_of_getElem? a)]; exact (List.getElem?_eq_some_iff.1 hj).1
    rw [Addr.add_add, Addr.add_lit, Nat.zero_add]
    have hgg : (R.or h) g = some (.cells cur tg (0, 0)) := PH.or_right hd g _ hg
    have h5 := flat_get hl i j ci a hjl
    rw [hj, ← htk, List.getElem?_take] at h5
    split at h5
    · simp [PH.cell, hgg]; simpa using h5
    · cases h5
theorem Tk_retire {i : Nat} {v : Value} {xs : List τ} (hi : own[i]? = some (some (rowS S v xs))) (h : Tk c k ⟨fr, own.set i none, shr ++ [Fact.sl S v xs]⟩) : Tk c k ⟨fr, own, shr⟩ := fun a w hs => by
  obtain ⟨R, hs', hw⟩ := hs.2.2.2
  exact h a w ⟨hs.1, hs.2.1, hs.2.2.1, _, _, hw.retire i _ (RowRel.slice (hw.rd i) (hw.ow i _ hi))⟩
theorem Tops_retire {i : Nat} {v : Value} {xs : List τ} (hi : own[i]? = some (some (rowS S v xs))) (h : Tops c ops k rest ⟨fr, own.set i none, shr ++ [Fact.sl S v xs]⟩) : Tops c ops k rest ⟨fr, own, shr⟩ := fun a w hs => by
  obtain ⟨R, hs', hw⟩ := hs.2.2.2
  exact h a w ⟨hs.1, hs.2.1, hs.2.2.1, _, _, hw.retire i _ (RowRel.slice (hw.rd i) (hw.ow i _ hi))⟩

/-! new rows -/
theorem HSat.newrow {R0 : PH} {w0 : World} {B : Nat → Prop} {own : List (Option Res)} {shr : List Fact} {w : World} (h : HSat R0 w0 B own shr w) (cur : Array Value) (e : TypeId) (xs : List τ) (css : List (List Value)) (cap : Nat) (h1 : css.length = xs.length)
    (h2 : ∀ R, R0.le R → (∀ F ∈ shr, F.p R) → ∀ (i : Nat) (ci : List Value) (x : τ), css[i]? = some ci → xs[i]? = some x → S.rel R ci x) (hle : xs.length ≤ cap) (hcm : cap ≤ maxLen) (hcs : cur.size = cap * S.sz) (htk : cur.toList.take (xs.length * S.sz) = css.flatten) :
    HSat R0 w0 B (own ++ [some (rowS S (.slice (some ⟨w.heap.size, 0, none⟩) xs.length cap) xs)]) shr (w.alloc (.cells cur e)) :=
  h.alloc _ _ fun R hr hF => ⟨css, h1, h2 R hr hF, .inr ⟨_, cap, cur, e, rfl, PH.one_self _ _, hle, hcm, hcs, htk⟩⟩

/-- what a composite slice literal lays -/
def BldF (P : Program) (t : TypeId) (n : Nat) (ps : List (Nat × Value)) (e : TypeId) (cs : List Value) : Prop :=
  ∀ w, (Instr.buildSlice t n ps.toArray).run P w = .ok (.slice (some ⟨w.heap.size, 0, none⟩) n n) (w.alloc (.cells cs.toArray e))
def evs (fr : List (Nat × Option Value)) : List (Nat × Operand) → Option (List (Nat × Value))
  | [] => some []
  | (i, x) :: r => match ev fr x, evs fr r with | some v, some l => some ((i, v) :: l) | _, _ => none
theorem evs_eval {a : Act} {fr : List (Nat × Option Value)} (hf : Fr a fr) : ∀ {l : List (Nat × Operand)} {r : List (Nat × Value)}, evs fr l = some r → l.map (fun (i, x) => (i, a.eval x)) = r
  | [], r, h => by simp [evs] at h; subst h; rfl
  | (i, x) :: l, r, h => by
    simp only [evs] at h
    split at h
    · rename_i v l' hv hl
      simp at h; subst h
      simp [ev_eval hf hv, evs_eval hf hl]
    · cases h
theorem OpT_buildSlice {t e : TypeId} {n : Nat} {ps : Array (Nat × Operand)} {vs : List (Nat × Value)} {cs : List Value} {xs : List τ} {css : List (List Value)} (hn : Nat.blt d c.n = true) (hd : o.dst = some d) (ho : o.op = .buildSlice t n ps) (hx : evs fr ps.toList = some vs)
    (hb : BldF c.P t n vs e cs) (hf : css.flatten = cs) (hl : css.length = xs.length) (hnl : xs.length = n) (hm : Nat.ble n 140737488355328 = true) (hrel : ∀ R, (∀ F ∈ shr, F.p R) → ∀ (i : Nat) (ci : List Value) (x : τ), css[i]? = some ci → xs[i]? = some x → S.rel R ci x) :
    OpT c o ⟨fr, own, shr⟩ (fun s => ∃ v, s = ⟨(d, some v) :: fr, own ++ [some (rowS S v xs)], shr⟩) :=
  OpT_run hn hd fun a w hs => by
    have hps : ps.map (fun (i, x) => (i, a.eval x)) = vs.toArray := by
      apply Array.ext'; simpa using evs_eval hs.2.2.1 hx
    subst hnl
    refine ⟨_, w.alloc (.cells cs.toArray e), .slice (some ⟨w.heap.size, 0, none⟩) xs.length xs.length, ?_, rfl, ?_⟩
    · have h1 := hb w
      simp only [execOp, ho, hps, Sem.run_bind, h1, Result.andThen_ok, Sem.run_pure]
    · obtain ⟨R, hs', hw⟩ := hs.2.2.2
      obtain ⟨hl', _⟩ := css_len hl (hrel R hw.sh)
      have hfl : cs.length = xs.length * S.sz := by rw [← hf, flat_len hl', hl]
      refine HSat.newrow ⟨R, hs', hw⟩ cs.toArray e xs css xs.length hl (fun R' _ hF => hrel R' hF) (Nat.le_refl _) ?_ ?_ ?_
      · have := Nat.le_of_ble_eq_true hm; unfold maxLen; omega
      · simp [hfl]
      · rw [hf, List.take_of_length_le (by simp [hfl])]
theorem rel_plain {cells : τ → List Value} {sz : Nat} {ag : Bool} {hl : ∀ x, (cells x).length = sz} {hone : ∀ x, (cells x).all (·.oneCell') = true} {xs : List τ} {shr : List Fact} :
    ∀ R, (∀ F ∈ shr, F.p R) → ∀ (i : Nat) (ci : List Value) (x : τ), (xs.map cells)[i]? = some ci → xs[i]? = some x → (Shape.plain sz ag cells hl hone).rel R ci x := by
  intro R _ i ci x h1 h2
  simp only [List.getElem?_map, h2, Option.map_some, Option.some.injEq] at h1
  exact h1.symm
theorem madeCells_flat {z : List Value} (n : Nat) (hz : 0 < z.length) : (madeCells z.toArray (n * z.length)).toList = (List.replicate n z).flatten := by
  apply List.ext_getElem?
  intro i
  have hl : ∀ ci ∈ List.replicate n z, ci.length = z.length := fun ci h => by rw [(List.mem_replicate.1 h).2]
  by_cases hi : i < n * z.length
  · have h1 : i / z.length < n := Nat.div_lt_of_lt_mul (by rw [Nat.mul_comm]; exact hi)
    have h2 := Nat.mod_lt i hz
    have e : i / z.length * z.length + i % z.length = i := by rw [Nat.mul_comm]; exact Nat.div_add_mod i z.length
    have := flat_get hl (i / z.length) (i % z.length) z (by simp [h1]) h2
    rw [e] at this
    rw [this]
    simp [madeCells, hi, List.getElem?_eq_getElem h2]
  · rw [List.getElem?_eq_none (by simp [madeCells]; omega), List.getElem?_eq_none (by rw [flat_len hl]; simp; omega)]
def cU8 (x : UInt8) : List Value := [vU8 x]
def u8S : Shape UInt8 := Shape.plain 1 false cU8 (fun _ => rfl) (fun _ => rfl)
end
end Go.Proofs.Ytlofegfaphijpaa
