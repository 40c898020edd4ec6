/- The engine, part 9: rows of one's own, read and written in place. No statement of the seat is proved here; no condition. -/
import Derived.Test.YtbeendakebamhaaEng8
import Derived.ChangeKeysEq
namespace Go.Proofs.Ytbeendakebamhaa

/-! cheap weakening -/
/-- the slots ts of a list -/
def sel (fr : List (Nat × Option Value)) : List Nat → List (Nat × Option Value)
  | [] => []
  | t :: ts => (t, lk fr t) :: sel fr ts
theorem sel_sub (fr : List (Nat × Option Value)) : ∀ ts, FrSub fr (sel fr ts)
  | [] => trivial
  | _ :: ts => ⟨fun _ h => h, sel_sub fr ts⟩
/-- the first place of a slot -/
def fidx (d : Nat) : List (Nat × Option Value) → Option Nat
  | [] => none
  | (t, _) :: r => bif Nat.beq d t then some 0 else (fidx d r).map (· + 1)
/-- the place i of a list, laid anew -/
def setF : List (Nat × Option Value) → Nat → Nat × Option Value → List (Nat × Option Value)
  | [], _, _ => []
  | _ :: r, 0, x => x :: r
  | y :: r, i + 1, x => y :: setF r i x
theorem lk_setF {d : Nat} {v : Option Value} : ∀ {fr : List (Nat × Option Value)} {i : Nat}, fidx d fr = some i → ∀ t u, lk (setF fr i (d, v)) t = some u → lk ((d, v) :: fr) t = some u
  | [], i, h, t, u, _ => by simp [fidx] at h
  | (t', o) :: r, i, h, t, u, hl => by
    simp only [fidx] at h
    cases e : Nat.beq d t' with
    | true =>
      rw [e] at h; simp at h; subst h
      have e' := Nat.eq_of_beq_eq_true e
      subst e'
      simp only [setF, lk] at hl ⊢
      by_cases et : t = d
      · subst et; simpa using hl
      · rw [nbeq_ne et] at hl ⊢; exact hl
    | false =>
      rw [e] at h
      cases hq : fidx d r with
      | none => rw [hq] at h; simp at h
      | some j =>
        rw [hq] at h; simp at h; subst h
        have hne : d ≠ t' := fun q => by subst q; simp [Nat.beq_refl] at e
        simp only [setF, lk] at hl ⊢
        by_cases et : t = t'
        · subst et
          simp only [Nat.beq_refl, cond_true] at hl ⊢
          rw [nbeq_ne (fun q => hne q.symm)]; exact hl
        · rw [nbeq_ne et] at hl ⊢
          have := lk_setF hq t u hl
          simp only [lk] at this
          simpa only [cond_false] using this
section
variable {c : Cx} {k : List Item} {s : St} {ops : Array Oper} {rest : List Oper} {a : Act} {w : World}
theorem Sat.wkS {s : St} (h : Sat c s a w) (ts is js : List Nat) {fr' : List (Nat × Option Value)} {own' : List (Option Res)} {shr' : List Fact} (hn : nodupB is = true) (hf : sel s.fr ts = fr') (ho : pick s.own is = own') (hs : pickT s.shr js = shr') : Sat c ⟨fr', own', shr'⟩ a w :=
  h.wk is js hn (hf ▸ sel_sub s.fr ts) ho hs
theorem Tk_wkS (ts is js : List Nat) {fr' : List (Nat × Option Value)} {own' : List (Option Res)} {shr' : List Fact} (hn : nodupB is = true) (hf : sel s.fr ts = fr') (ho : pick s.own is = own') (hs : pickT s.shr js = shr') (h : Tk c k ⟨fr', own', shr'⟩) : Tk c k s :=
  fun a w hh => h a w (hh.wkS ts is js hn hf ho hs)
theorem Tk_jmpS {fr' : List (Nat × Option Value)} {own' : List (Option Res)} {shr' : List Fact} (h : Tk c k ⟨fr', own', shr'⟩) (ts is js : List Nat) (hn : nodupB is = true) (hf : sel s.fr ts = fr') (ho : pick s.own is = own') (hs : pickT s.shr js = shr') : Tk c k s := Tk_wkS ts is js hn hf ho hs h
/-- a slot is filled: the list is laid anew at its place -/
theorem Sat.putF {d i : Nat} {v : Value} {fr fr' : List (Nat × Option Value)} {own own' : List (Option Res)} {shr shr' : List Fact} (h : Sat c ⟨(d, some v) :: fr, own, shr⟩ a w) (hi : fidx d fr = some i) (is js : List Nat) (hf : setF fr i (d, some v) = fr') (hn : nodupB is = true) (ho : pick own is = own') (hs : pickT shr js = shr') : Sat c ⟨fr', own', shr'⟩ a w := by
  obtain ⟨h1, h2, h3, R, hs', hw⟩ := h
  refine ⟨h1, h2, ?_, ?_⟩
  · subst hf
    intro t u hl
    exact h3 t u (lk_setF hi t u hl)
  · subst ho; subst hs
    exact ⟨_, _, (hw.pick is hn (fun F hF => hF)).facts (pickT_p hw.sh)⟩
def noneF : List Nat → List (Nat × Option Value)
  | [] => []
  | t :: ts => (t, none) :: noneF ts
theorem lk_noneF : ∀ (ts : List Nat) (t : Nat), lk (noneF ts) t = none
  | [], _ => rfl
  | x :: ts, t => by
    simp only [noneF, lk]
    cases Nat.beq t x with
    | true => rfl
    | false => exact lk_noneF ts t
def appF : List (Nat × Option Value) → List (Nat × Option Value) → List (Nat × Option Value)
  | [], l => l
  | x :: r, l => x :: appF r l
theorem lk_appF (ts : List Nat) : ∀ (fr : List (Nat × Option Value)) (t : Nat) (u : Value), lk (appF fr (noneF ts)) t = some u → lk fr t = some u
  | [], t, u, h => by rw [appF, lk_noneF] at h; cases h
  | (d, v) :: fr, t, u, h => by
    simp only [appF, lk] at h ⊢
    cases e : Nat.beq t d with
    | true => rw [e] at h; exact h
    | false => rw [e] at h; exact lk_appF ts fr t u h
/-- a region that draws: its first state -/
theorem Sat.startF {fr fr' : List (Nat × Option Value)} {own own' : List (Option Res)} {shr shr' : List Fact} (h : Sat c ⟨fr, own, shr⟩ a w) (ts is js : List Nat) (hf : appF fr (noneF ts) = fr') (hn : nodupB is = true) (ho : pick own is = own') (hs : pickT shr js = shr') : Sat c ⟨fr', own', shr'⟩ a w := by
  obtain ⟨h1, h2, h3, R, hs', hw⟩ := h
  refine ⟨h1, h2, ?_, ?_⟩
  · subst hf
    intro t u hl
    exact h3 t u (lk_appF ts fr t u hl)
  · subst ho; subst hs
    exact ⟨_, _, (hw.pick is hn (fun F hF => hF)).facts (pickT_p hw.sh)⟩
end

/-! equality of aggregates -/
section
variable {P : Program} {w : World} {d : Nat} {xs ys : Array Value} {r : Bool} {a b : Value}
theorem eqf_cons {f : Field} {fs : List Field} (hn : f.name ≠ "_") (h1 : (part f.type xs f.offset).run P w = .ok a w) (h2 : (part f.type ys f.offset).run P w = .ok b w) (h3 : (Op.equalIn d f.type a b).run P w = .ok r w) :
    (Op.eqFields d xs ys (f :: fs)).run P w = bif r then (Op.eqFields d xs ys fs).run P w else .ok false w := by
  cases r <;> simp [Op.eqFields, hn, h1, h2, h3]
theorem eqi_cons {e : TypeId} {k i : Nat} {is : List Nat} (h1 : (part e xs (i * k)).run P w = .ok a w) (h2 : (part e ys (i * k)).run P w = .ok b w) (h3 : (Op.equalIn d e a b).run P w = .ok r w) :
    (Op.eqItems d e k xs ys (i :: is)).run P w = bif r then (Op.eqItems d e k xs ys is).run P w else .ok false w := by
  cases r <;> simp [Op.eqItems, h1, h2, h3]
theorem part_one {t : TypeId} {off : Nat} (ha : ∀ w, (isAgg t).run P w = .ok false w) (h : xs[off]? = some a) : (part t xs off).run P w = .ok a w := by
  simp [part, ha, h]
theorem eq_step {α : Type} {x y z : α} (hf : r = false → y = z) (ht : r = true → x = z) : (bif r then x else y) = z := by
  cases r
  · exact hf rfl
  · exact ht rfl
theorem eq_ff {τ : Type} [DecidableEq τ] {x y : τ} (h : x = y → False) : (x == y) = false := by simpa using h
theorem eq_tt {τ : Type} [DecidableEq τ] {x y : τ} (h : x = y) : (x == y) = true := by simpa using h
theorem eq_u64 (a b : UInt64) : ((a.toNat : Int) == (b.toNat : Int)) = (a == b) := by rw [Bool.eq_iff_iff]; simp [← UInt64.toNat_inj]; omega
end

section
variable {c : Cx} {k : List Item} {s : St} {o : Oper} {fr : List (Nat × Option Value)} {own : List (Option Res)} {shr : List Fact} {d : Nat} {τ : Type}
end

section
variable {c : Cx} {k : List Item} {s : St} {o : Oper} {fr : List (Nat × Option Value)} {own : List (Option Res)} {shr : List Fact} {d : Nat} {τ : Type}

end
end Go.Proofs.Ytbeendakebamhaa
