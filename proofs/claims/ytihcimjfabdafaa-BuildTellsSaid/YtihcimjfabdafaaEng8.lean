/- The engine, part 8: nil, loops' ends, slice expressions, shapes of numbers. No statement of the seat is proved here; no condition. -/
import Derived.Test.YtihcimjfabdafaaEng7
namespace Go.Proofs.Ytihcimjfabdafaa

section
variable {c : Cx} {k : List Item} {s : St} {ops : Array Oper} {rest : List Oper} {o : Oper} {fr : List (Nat × Option Value)} {own : List (Option Res)} {shr : List Fact} {d : Nat} {τ : Type} {S : Shape τ}

theorem nil_rel (S : Shape τ) (R : PH) : SliceRel S R (.slice none 0 0) [] := ⟨none, 0, [], rfl, Nat.le_refl _, rfl, fun i ci x a => by simp at a, fun i ci a => by simp at a⟩
theorem Tk_backw {σ : Type} {st : σ → St} {f : σ → Prop} (y : σ) (hf : f y) {fr' : List (Nat × Option Value)} (is js : List Nat) {own' : List (Option Res)} {shr' : List Fact} (hst : st y = ⟨fr', own', shr'⟩)
    (hn : nodupB is = true) (hfr : FrSub s.fr fr') (ho : pick s.own is = own') (hs : pickT s.shr js = shr') : Tk c (.back (fun a w => ∃ y, f y ∧ Sat c (st y) a w) :: k) s :=
  fun a w h => ⟨y, hf, by rw [hst]; exact h.wk is js hn hfr ho hs⟩

theorem rel_none {xs : List τ} {css : List (List Value)} (h : xs = []) {shr : List Fact} : ∀ R, (∀ F ∈ shr, F.p R) → ∀ (i : Nat) (ci : List Value) (x : τ), css[i]? = some ci → xs[i]? = some x → S.rel R ci x := by
  intro R _ i ci x _ h2; subst h; simp at h2

/-! a block of one's own, sliced whole -/
theorem len_of {a b : Nat} (h : (a == b) = true) : a = b := by simpa using h
theorem HSat.rowC {R0 : PH} {w0 : World} {B : Nat → Prop} {w : World} {i b n : Nat} {t : TypeId} {cs : List Value} {xs : List τ} {cells : τ → List Value} {sz : Nat} {ag : Bool} {hl : ∀ x, (cells x).length = sz} {hone : ∀ x, (cells x).all (·.oneCell') = true} (h : HSat R0 w0 B own shr w)
    (hi : own[i]? = some (some (cellsR b t cs))) (hc : (xs.map cells).flatten = cs) (hn : xs.length = n) (hm : Nat.ble n 140737488355328 = true) : HSat R0 w0 B (own.set i (some (rowS (Shape.plain sz ag cells hl hone) (.slice (some ⟨b, 0, none⟩) n n) xs))) shr w := by
  obtain ⟨R, hs, hw⟩ := h
  have hb : hs i b = some (.cells cs.toArray t (0, 0)) := hw.ow i _ hi
  refine ⟨R, hs, hw.r0, hw.rw_, hw.sh, ?_, hw.hw, hw.dj, hw.rd, hw.new, hw.rnew, hw.size, hw.keep, hw.os, hw.tape, hw.output⟩
  intro j r hj
  by_cases e : j = i
  · subst e
    have hlt : j < own.length := (List.getElem?_eq_some_iff.1 hi).1
    simp [hlt] at hj
    subst hj
    have hlen : cs.length = n * sz := by
      rw [← hc, flat_len (sz := sz) (fun ci h => by obtain ⟨x, _, rfl⟩ := List.mem_map.1 h; exact hl x)]; simp [hn]
    refine ⟨xs.map cells, by simp, ?_, .inr ⟨b, n, cs.toArray, t, by rw [hn], hb, by omega, ?_, by simpa [Shape.plain] using hlen, ?_⟩⟩
    · intro m ci x h1 h2
      simp only [List.getElem?_map, h2, Option.map_some, Option.some.injEq] at h1
      exact h1.symm
    · have := Nat.le_of_ble_eq_true hm; unfold maxLen; omega
    · rw [hc, hn]; show List.take (n * sz) cs = cs; rw [← hlen, List.take_length]
  · rw [List.getElem?_set_ne (fun q => e q.symm)] at hj
    exact hw.ow j r hj
theorem Tk_rowC {i b n : Nat} {t : TypeId} {cs : List Value} {xs : List τ} {cells : τ → List Value} {sz : Nat} {ag : Bool} {hl : ∀ x, (cells x).length = sz} {hone : ∀ x, (cells x).all (·.oneCell') = true} (hi : own[i]? = some (some (cellsR b t cs))) (hc : (xs.map cells).flatten = cs) (hn : xs.length = n) (hm : Nat.ble n 140737488355328 = true)
    (h : Tk c k ⟨fr, own.set i (some (rowS (Shape.plain sz ag cells hl hone) (.slice (some ⟨b, 0, none⟩) n n) xs)), shr⟩) : Tk c k ⟨fr, own, shr⟩ := fun a w hs =>
  h a w ⟨hs.1, hs.2.1, hs.2.2.1, hs.2.2.2.rowC hi hc hn hm⟩

theorem Tk_rowD (S : Shape τ) {i b n : Nat} {t : TypeId} {cs : List Value} {xs : List τ} {cells : τ → List Value} {sz : Nat} {ag : Bool} {hl : ∀ x, (cells x).length = sz} {hone : ∀ x, (cells x).all (·.oneCell') = true} (hS : S = Shape.plain sz ag cells hl hone) (hi : own[i]? = some (some (cellsR b t cs))) (hc : (xs.map cells).flatten = cs) (hn : xs.length = n) (hm : Nat.ble n 140737488355328 = true)
    (h : Tk c k ⟨fr, own.set i (some (rowS S (.slice (some ⟨b, 0, none⟩) n n) xs)), shr⟩) : Tk c k ⟨fr, own, shr⟩ := by subst hS; exact Tk_rowC hi hc hn hm h

/-! slice expressions -/
theorem bound_ok {P : Program} {w : World} {kk : IntKind} {i : Int} {y : Nat} {code : BoundsCode} (h0 : 0 ≤ i) (h1 : i ≤ (y : Int)) : (Instr.sliceBound (.int kk i) y code).run P w = .ok i.toNat w := by
  simp [Instr.sliceBound, asIntOf, h0, h1]
variable {t e : TypeId} {x : Operand} {vx : Value} {i : Nat} {xs : List τ} {b : Nat} {z : Value} {lo hi mx : Operand} {kl kh km : IntKind} {l m q : Int}
theorem OpT_sliceLH (hn : Nat.blt d c.n = true) (hd : o.dst = some d) (ho : o.op = .slice t x (some lo) (some hi) none) (hx : ev fr x = some vx) (hl : ev fr lo = some (.int kl l)) (hh : ev fr hi = some (.int kh m))
    (ht : SlF c.P t e S.sz b z) (hi' : shr[i]? = some (Fact.sl S vx xs)) (hc : decide (0 ≤ l ∧ l ≤ m ∧ m ≤ len xs) = true) : OpT c o ⟨fr, own, shr⟩ (fun s => ∃ v, s = ⟨(d, some v) :: fr, own, shr ++ [Fact.sl S v (sub xs l m)]⟩) := by
  obtain ⟨h0, h1, h2⟩ : 0 ≤ l ∧ l ≤ m ∧ m ≤ len xs := by simpa using hc
  unfold len at h2
  refine OpT_sliceS hn hd ho hx ht hi' (l := l.toNat) (h := m.toNat) (by omega) (by omega) fun a w cap hf hcap => ⟨cap, by omega, ?_⟩
  have b1 : ∀ code, (Instr.sliceBound (.int kh m) cap code).run c.P w = .ok m.toNat w := fun code => bound_ok (by omega) (by omega)
  have b2 : ∀ code, (Instr.sliceBound (.int kl l) m.toNat code).run c.P w = .ok l.toNat w := fun code => bound_ok (by omega) (by omega)
  simp [Instr.sliceBounds, ev_eval hf hl, ev_eval hf hh, b1, b2]
end

/-! a guard whose own operation was passed over -/
section
variable {c : Cx} {k : List Item} {ops : Array Oper} {rest : List Oper} {o : Oper} {fr : List (Nat × Option Value)} {own : List (Option Res)} {shr : List Fact} {j : Nat} {b : Bool} {d e i : Nat} {K : Act → World → Prop} {Q : Exit → Act → World → Prop} {a : Act} {w : World}
theorem wanted_undef (hf : Fr a fr) (hg : o.guard = some (j, b)) (hd : ((ops[j]?).bind (·.dst)) = some d) (hl : lk fr d = some undef) : Region.wanted o (yielded ops a.tmps) = false := by
  have h := hf d _ hl
  have : yielded ops a.tmps j = none := by
    cases ho : ops[j]? with
    | none => rw [ho] at hd; cases hd
    | some oj => rw [ho] at hd; simp at hd; simp [yielded, ho, hd, h, undef]
  simp [Region.wanted, hg, this]
theorem Tops_noU (hg : o.guard = some (j, b)) (hd : ((ops[j]?).bind (·.dst)) = some d) (hl : lk fr d = some undef)
    (he : o.dst = some e) (hn : Nat.blt e c.n = true) (h : Tops c ops k rest ⟨(e, some undef) :: fr, own, shr⟩) : Tops c ops k (o :: rest) ⟨fr, own, shr⟩ := fun a w hs => by
  have hw := wanted_undef (ops := ops) hs.2.2.1 hg hd hl
  refine wpList_step fun K hK => ?_
  rw [if_neg (by rw [hw]; simp)]
  refine hK _ _ (h _ _ ?_)
  rw [he]; exact Sat_put hn hs
theorem wpOp_noU (hi : ops[i]? = some o) (hg : o.guard = some (j, b)) (hd : ((ops[j]?).bind (·.dst)) = some d) (hs : Sat c ⟨fr, own, shr⟩ a w) (hl : lk fr d = some undef) (he : o.dst = some e) (hn : Nat.blt e c.n = true)
    (hK : ∀ a' w', Sat c ⟨(e, some undef) :: fr, own, shr⟩ a' w' → K a' w') : wpOp c.P ops Q i K a w := by
  have hw := wanted_undef (ops := ops) hs.2.2.1 hg hd hl
  unfold wpOp
  rw [hi]
  simp only [hw]
  rw [if_neg (by simp)]
  refine hK _ _ ?_
  rw [he]; exact Sat_put hn hs
end

theorem steps_nil {c : Cx} {ops : Array Oper} {Iv : (Nat → Bool) → Act → World → Prop} {i : Nat} : StepsL c ops Iv i [] := trivial
theorem steps_cons {c : Cx} {ops : Array Oper} {Iv : (Nat → Bool) → Act → World → Prop} {i : Nat} {p f : List Nat} {r : List (List Nat × List Nat)} (h : Step1 c ops Iv i p f) (hr : StepsL c ops Iv (i + 1) r) : StepsL c ops Iv i ((p, f) :: r) := ⟨h, hr⟩

/-! literals -/
theorem bldV {P : Program} {t : TypeId} {ps : List (Nat × Value)} {cs : Array Value} (h : P.built t ps = some cs) : BldV P t ps (.agg cs) := fun w => run_build w t ps.toArray cs h
theorem bldF {P : Program} {t e : TypeId} {sz b n : Nat} {z : Value} {ps : List (Nat × Value)} {cs : List Value} (ht : SlF P t e sz b z) (hs : n * sz ≤ 16777216)
    (hf : Instr.fill (fun i => some (i * sz, sz)) (if n * sz = 0 then #[] else (Array.range (n * sz)).map (z.cells[· % z.cells.size]!)) ps = some cs.toArray) : BldF P t n ps e cs := fun w => by
  obtain ⟨i, hi, hz, hsz, _⟩ := ht.info
  subst hsz
  have hn : ¬ n * i.size > 2 ^ 24 := by omega
  by_cases h0 : n * i.size = 0
  · rw [if_pos h0] at hf
    have e0 : Array.map (fun _ => (default : Value)) (Array.range 0) = #[] := Array.eq_empty_of_size_eq_zero (by simp)
    simp [Instr.buildSlice, run_underlying ht.und, sizeOf, typeInfo, hi, h0, newRow, e0, hf]
  · rw [if_neg h0] at hf
    simp [Instr.buildSlice, run_underlying ht.und, sizeOf, typeInfo, zeroValue, hi, hz, hn, h0, hf, newRow]

/-! results that are shared -/
theorem Ctr.sh {P : Program} {f : FuncId} {args : Array Value} {own0 : List Res} {shr0 : List Fact} {Post Post' : Value → List Res → List Fact → Prop} (hC : Ctr P f args own0 shr0 Post)
    (h : ∀ rv own shr, Post rv own shr → ∃ (l : List Res) (τ : Type) (S : Shape τ) (v : Value) (xs : List τ), own = l ++ [rowS S v xs] ∧ Post' rv l (shr ++ [Fact.sl S v xs])) : Ctr P f args own0 shr0 Post' := by
  intro R0 w0 hs h1 h2 h3 h4 h5 h6
  refine (hC R0 w0 hs h1 h2 h3 h4 h5 h6).mono ?_
  rintro e w1 ⟨rv, own1, shr1, rfl, hp, R, hs', hw⟩
  obtain ⟨l, τ, S, v, xs, rfl, hp'⟩ := h _ _ _ hp
  have hi : ((l ++ [rowS S v xs]).map some)[l.length]? = some (some (rowS S v xs)) := by simp
  have h7 := hw.retire l.length (Fact.sl S v xs) (RowRel.slice (hw.rd _) (hw.ow _ _ hi))
  refine ⟨rv, l, _, rfl, hp', _, _, h7.r0, h7.rw_, h7.sh, ?_, h7.hw, h7.dj, h7.rd, h7.new, h7.rnew, h7.size, h7.keep, h7.os, h7.tape, h7.output⟩
  intro i r hir
  refine h7.ow i r ?_
  have hlt : i < l.length := by
    have := (List.getElem?_eq_some_iff.1 hir).1
    simpa using this
  rw [List.getElem?_set_ne (by omega)]
  rw [List.map_append, List.getElem?_append_left (by simpa using hlt)]
  exact hir

/-! shapes of numbers -/
def iS : Shape Int := Shape.plain 1 false (fun x => [vI x]) (fun _ => rfl) (fun _ => rfl)
def bS : Shape Bool := Shape.plain 1 false (fun x => [vB x]) (fun _ => rfl) (fun _ => rfl)
def u32S : Shape UInt32 := Shape.plain 1 false (fun x => [vU32 x]) (fun _ => rfl) (fun _ => rfl)
def u64S : Shape UInt64 := Shape.plain 1 false (fun x => [vU64 x]) (fun _ => rfl) (fun _ => rfl)
end Go.Proofs.Ytihcimjfabdafaa
