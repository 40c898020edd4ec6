/- The engine, part 8: nil, loops' ends, slice expressions, shapes of numbers. No statement of the seat is proved here; no condition. -/
import Derived.Test.YtlofegfaphijpaaEng7
namespace Go.Proofs.Ytlofegfaphijpaa

section
variable {c : Cx} {k : List Item} {s : St} {ops : Array Oper} {rest : List Oper} {o : Oper} {fr : List (Nat × Option Value)} {own : List (Option Res)} {shr : List Fact} {d : Nat} {τ : Type} {S : Shape τ}

theorem nil_rel (S : Shape τ) (R : PH) : SliceRel S R (.slice none 0 0) [] := ⟨none, 0, [], rfl, Nat.le_refl _, rfl, fun i ci x a => by simp at a, fun i ci a => by simp at a⟩
theorem Tk_nilfact (S : Shape τ) (h : Tk c k ⟨fr, own, shr ++ [Fact.sl S (.slice none 0 0) []]⟩) : Tk c k ⟨fr, own, shr⟩ := fun a w hs => h a w ⟨hs.1, hs.2.1, hs.2.2.1, hs.2.2.2.add _ fun R _ _ => nil_rel S R⟩
theorem Tops_nilfact (S : Shape τ) (h : Tops c ops k rest ⟨fr, own, shr ++ [Fact.sl S (.slice none 0 0) []]⟩) : Tops c ops k rest ⟨fr, own, shr⟩ := fun a w hs => h a w ⟨hs.1, hs.2.1, hs.2.2.1, hs.2.2.2.add _ fun R _ _ => nil_rel S R⟩

theorem Tk_backw {σ : Type} {st : σ → St} {f : σ → Prop} (y : σ) (hf : f y) {fr' : List (Nat × Option Value)} (is js : List Nat) {own' : List (Option Res)} {shr' : List Fact} (hst : st y = ⟨fr', own', shr'⟩)
    (hn : nodupB is = true) (hfr : FrSub s.fr fr') (ho : pick s.own is = own') (hs : pickT s.shr js = shr') : Tk c (.back (fun a w => ∃ y, f y ∧ Sat c (st y) a w) :: k) s :=
  fun a w h => ⟨y, hf, by rw [hst]; exact h.wk is js hn hfr ho hs⟩

/-! a block of one's own, sliced whole -/
theorem len_of {a b : Nat} (h : (a == b) = true) : a = b := by simpa using h
/-! slice expressions -/
theorem bound_ok {P : Program} {w : World} {kk : IntKind} {i : Int} {y : Nat} {code : BoundsCode} (h0 : 0 ≤ i) (h1 : i ≤ (y : Int)) : (Instr.sliceBound (.int kk i) y code).run P w = .ok i.toNat w := by
  simp [Instr.sliceBound, asIntOf, h0, h1]
variable {t e : TypeId} {x : Operand} {vx : Value} {i : Nat} {xs : List τ} {b : Nat} {z : Value} {lo hi mx : Operand} {kl kh km : IntKind} {l m q : Int}
/-! min and max -/
theorem OpT_min_i {x y : Operand} {ats : Array TypeId} {u v : Int} (hn : Nat.blt d c.n = true) (hd : o.dst = some d) (ho : o.op = .call { callee := .builtin .min, args := #[x, y], argTypes := ats }) (hx : ev fr x = some (vI u)) (hy : ev fr y = some (vI v)) :
    OpT c o ⟨fr, own, shr⟩ (fun s => s = ⟨(d, some (vI (mini u v))) :: fr, own, shr⟩) :=
  OpT_val hn hd fun a w hs => by
    simp [execOp, ho, resolve, invoke, builtin, ev_eval hs.2.2.1 hx, ev_eval hs.2.2.1 hy, Builtin.min_, Builtin.min2, mini]
end

/-! a guard whose own operation was passed over -/
section
variable {c : Cx} {k : List Item} {ops : Array Oper} {rest : List Oper} {o : Oper} {fr : List (Nat × Option Value)} {own : List (Option Res)} {shr : List Fact} {j : Nat} {b : Bool} {d e i : Nat} {K : Act → World → Prop} {Q : Exit → Act → World → Prop} {a : Act} {w : World}
theorem wanted_undef (hf : Fr a fr) (hg : o.guard = some (j, b)) (hd : ((ops[j]?).bind (·.dst)) = some d) (hl : lk fr d = some undef) : Region.wanted o (yielded ops a.tmps) = false := by
  have h := hf d _ hl
  have : yielded ops a.tmps j = none := by
    cases ho : ops[j]? with
    | none => rw [ho] at hd; cases hd
    | some oj => rw [ho] at hd; simp at hd; simp [yielded, ho, hd, h, undef]
  simp [Region.wanted, hg, this]
theorem Tops_noU (hg : o.guard = some (j, b)) (hd : ((ops[j]?).bind (·.dst)) = some d) (hl : lk fr d = some undef)
    (he : o.dst = some e) (hn : Nat.blt e c.n = true) (h : Tops c ops k rest ⟨(e, some undef) :: fr, own, shr⟩) : Tops c ops k (o :: rest) ⟨fr, own, shr⟩ := fun a w hs => by
  have hw := wanted_undef (ops := ops) hs.2.2.1 hg hd hl
  refine wpList_step fun K hK => ?_
  rw [if_neg (by rw [hw]; simp)]
  refine hK _ _ (h _ _ ?_)
  rw [he]; exact Sat_put hn hs
end

theorem steps_nil {c : Cx} {ops : Array Oper} {Iv : (Nat → Bool) → Act → World → Prop} {i : Nat} : StepsL c ops Iv i [] := trivial
theorem steps_cons {c : Cx} {ops : Array Oper} {Iv : (Nat → Bool) → Act → World → Prop} {i : Nat} {p f : List Nat} {r : List (List Nat × List Nat)} (h : Step1 c ops Iv i p f) (hr : StepsL c ops Iv (i + 1) r) : StepsL c ops Iv i ((p, f) :: r) := ⟨h, hr⟩

/-! literals -/
theorem bldV {P : Program} {t : TypeId} {ps : List (Nat × Value)} {cs : Array Value} (h : P.built t ps = some cs) : BldV P t ps (.agg cs) := fun w => run_build w t ps.toArray cs h
theorem bldF {P : Program} {t e : TypeId} {sz b n : Nat} {z : Value} {ps : List (Nat × Value)} {cs : List Value} (ht : SlF P t e sz b z) (hs : n * sz ≤ 16777216)
    (hf : Instr.fill (fun i => some (i * sz, sz)) (if n * sz = 0 then #[] else (Array.range (n * sz)).map (z.cells[· % z.cells.size]!)) ps = some cs.toArray) : BldF P t n ps e cs := fun w => by
  obtain ⟨i, hi, hz, hsz, _⟩ := ht.info
  subst hsz
  have hn : ¬ n * i.size > 2 ^ 24 := by omega
  by_cases h0 : n * i.size = 0
  · rw [if_pos h0] at hf
    have e0 : Array.map (fun _ => (default : Value)) (Array.range 0) = #[] := Array.eq_empty_of_size_eq_zero (by simp)
    simp [Instr.buildSlice, run_underlying ht.und, sizeOf, typeInfo, hi, h0, newRow, e0, hf]
  · rw [if_neg h0] at hf
    simp [Instr.buildSlice, run_underlying ht.und, sizeOf, typeInfo, zeroValue, hi, hz, hn, h0, hf, newRow]

/-! results that are shared -/
theorem Ctr.sh {P : Program} {f : FuncId} {args : Array Value} {own0 : List Res} {shr0 : List Fact} {Post Post' : Value → List Res → List Fact → Prop} (hC : Ctr P f args own0 shr0 Post)
    (h : ∀ rv own shr, Post rv own shr → ∃ (l : List Res) (τ : Type) (S : Shape τ) (v : Value) (xs : List τ), own = l ++ [rowS S v xs] ∧ Post' rv l (shr ++ [Fact.sl S v xs])) : Ctr P f args own0 shr0 Post' := by
  intro R0 w0 hs h1 h2 h3 h4 h5 h6
  refine (hC R0 w0 hs h1 h2 h3 h4 h5 h6).mono ?_
  rintro e w1 ⟨rv, own1, shr1, rfl, hp, R, hs', hw⟩
  obtain ⟨l, τ, S, v, xs, rfl, hp'⟩ := h _ _ _ hp
  have hi : ((l ++ [rowS S v xs]).map some)[l.length]? = some (some (rowS S v xs)) := by simp
  have h7 := hw.retire l.length (Fact.sl S v xs) (RowRel.slice (hw.rd _) (hw.ow _ _ hi))
  refine ⟨rv, l, _, rfl, hp', _, _, h7.r0, h7.rw_, h7.sh, ?_, h7.hw, h7.dj, h7.rd, h7.new, h7.rnew, h7.size, h7.keep, h7.os, h7.tape, h7.output⟩
  intro i r hir
  refine h7.ow i r ?_
  have hlt : i < l.length := by
    have := (List.getElem?_eq_some_iff.1 hir).1
    simpa using this
  rw [List.getElem?_set_ne (by omega)]
  rw [List.map_append, List.getElem?_append_left (by simpa using hlt)]
  exact hir

/-! shapes of numbers -/
def iS : Shape Int := Shape.plain 1 false (fun x => [vI x]) (fun _ => rfl) (fun _ => rfl)
def bS : Shape Bool := Shape.plain 1 false (fun x => [vB x]) (fun _ => rfl) (fun _ => rfl)
def u64S : Shape UInt64 := Shape.plain 1 false (fun x => [vU64 x]) (fun _ => rfl) (fun _ => rfl)
end Go.Proofs.Ytlofegfaphijpaa
