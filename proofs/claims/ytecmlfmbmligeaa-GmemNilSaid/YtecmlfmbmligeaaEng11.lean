/- The engine, part 11: views of a state, blocks that become readable, arrays at reckoned places, deferred calls, calls that borrow. No statement of the seat is proved here; no condition. -/
import Derived.Test.YtecmlfmbmligeaaEng10
namespace Go.Proofs.Ytecmlfmbmligeaa

/-! a state seen otherwise -/
def VS (c : Cx) (s s' : St) : Prop := ∀ a w, Sat c s a w → Sat c s' a w
section
variable {c : Cx} {k : List Item} {s s' : St} {ops : Array Oper} {rest : List Oper} {lo : Nat}
theorem Tk_vs (h : VS c s s') (hk : Tk c k s') : Tk c k s := fun a w hs => hk a w (h a w hs)
theorem Tops_vs (h : VS c s s') (hk : Tops c ops k rest s') : Tops c ops k rest s := fun a w hs => hk a w (h a w hs)
/-- a value is known by another name -/
theorem Tk_eqv {α : Type} {x y : α} (e : x = y) (f : α → St) (hk : Tk c k (f y)) : Tk c k (f x) := e ▸ hk
end

section
variable {c : Cx} {k : List Item} {s : St} {ops : Array Oper} {rest : List Oper} {o : Oper} {fr : List (Nat × Option Value)} {own : List (Option Res)} {shr : List Fact} {d : Nat} {τ σ : Type} {S : Shape τ} {S' : Shape σ}

/-! slices and nil -/
theorem equal_nil {P : Program} {t e : TypeId} {base : Option Addr} {n cap : Nat} (ht : P.underlying t = some (.slice e)) (w : World) : (Op.equal t (.slice base n cap) (.slice none 0 0)).run P w = .ok base.isNone w := by
  show (Op.equalIn (9999 + 1) t (.slice base n cap) (.slice none 0 0)).run P w = _
  rw [Op.equalIn]
  cases base <;> simp only [Sem.run_bind, run_underlying ht, Result.andThen_ok, Sem.run_pure, Option.isNone]
def nilB (op : BinOp) (q : Bool) : Bool := match op with | .eql => q | _ => !q
theorem run_eqNil {P : Program} {t e : TypeId} {x y : Operand} {base : Option Addr} {n cap : Nat} {op : BinOp} (hop : op = .eql ∨ op = .neq) (ht : P.underlying t = some (.slice e)) : Bin P op t x y (.slice base n cap) (.slice none 0 0) (.bool (nilB op base.isNone)) := fun w => by
  have h := equal_nil (n := n) (cap := cap) (base := base) ht w
  have hg : (eqGuard op t x y (.slice base n cap) (.slice none 0 0)).run P w = .ok () w := by rcases hop with rfl | rfl <;> rfl
  rw [Sem.run_bind, hg, Result.andThen_ok]
  rcases hop with rfl | rfl
  · show (do pure (Value.bool (← Op.equal t (.slice base n cap) (.slice none 0 0))) : Sem Value).run P w = _
    rw [Sem.run_bind, h, Result.andThen_ok]; rfl
  · show (do pure (Value.bool (!(← Op.equal t (.slice base n cap) (.slice none 0 0)))) : Sem Value).run P w = _
    rw [Sem.run_bind, h, Result.andThen_ok]; rfl
theorem OpT_eqNil {t e : TypeId} {x y : Operand} {t2 : TypeId} {vx : Value} {op : BinOp} {i : Nat} {xs : List τ} (hn : Nat.blt d c.n = true) (hd : o.dst = some d) (ho : o.op = .binOp op t x y t2) (hop : op = .eql ∨ op = .neq) (hx : ev fr x = some vx) (hy : ev fr y = some (.slice none 0 0)) (ht : c.P.underlying t = some (.slice e)) (hi : shr[i]? = some (Fact.sl S vx xs)) :
    OpT c o ⟨fr, own, shr⟩ (fun s => ∃ q : Bool, (q = true → xs = []) ∧ s = ⟨(d, some (.bool (nilB op q))) :: fr, own, shr⟩) := by
  intro a w hs K Q hK
  have hu := run_underlying ht w
  obtain ⟨R, hR, base, cap, css, h1, h2, h3, h4, h5⟩ := hs.2.2.2.fact hi
  subst h1
  have hq : base.isNone = true → xs = [] := fun hb => by
    cases base with
    | some _ => simp at hb
    | none =>
      cases css with
      | nil => simp at h3; exact List.eq_nil_of_length_eq_zero h3.symm
      | cons c0 css => obtain ⟨a, e, _⟩ := h5 0 c0 rfl; cases e
  have hrun : (execOp a.eval o).run c.P w = .ok (.value (.bool (nilB op base.isNone))) w := by
    have h9 := run_eqNil (P := c.P) (x := x) (y := y) (base := base) (n := xs.length) (cap := cap) hop ht
    simp only [execOp, ho, ev_eval hs.2.2.1 hx, ev_eval hs.2.2.1 hy]
    simp only [Sem.run_bind, h9 w]; rfl
  unfold Oper.wp
  rw [hrun, Oper.upon_value, hd]
  exact hK _ ⟨base.isNone, hq, rfl⟩ _ _ (Sat_put (c := c) hn hs)
theorem OpT_eqNilN {t e : TypeId} {x y : Operand} {t2 : TypeId} {op : BinOp} (hn : Nat.blt d c.n = true) (hd : o.dst = some d) (ho : o.op = .binOp op t x y t2) (hop : op = .eql ∨ op = .neq) (hx : ev fr x = some (.slice none 0 0)) (hy : ev fr y = some (.slice none 0 0)) (ht : c.P.underlying t = some (.slice e)) :
    OpT c o ⟨fr, own, shr⟩ (fun s => s = ⟨(d, some (.bool (nilB op true))) :: fr, own, shr⟩) :=
  OpT_val hn hd fun a w hs => by
    have h9 := run_eqNil (P := c.P) (x := x) (y := y) (base := none) (n := 0) (cap := 0) hop ht
    simp only [execOp, ho, ev_eval hs.2.2.1 hx, ev_eval hs.2.2.1 hy]
    simp only [Sem.run_bind, h9 w]; rfl
/-- a function value is made -/
theorem OpT_makeFunc {f : FuncId} {cs : Array Operand} {vs : List Value} (hn : Nat.blt d c.n = true) (hd : o.dst = some d) (ho : o.op = .makeFunc (.func f) #[] cs) (hx : evl fr cs.toList = some vs) : OpT c o ⟨fr, own, shr⟩ (fun y => y = ⟨(d, some (.func (.func f) #[] vs.toArray)) :: fr, own, shr⟩) :=
  OpT_val hn hd fun a w hs => by
    have hmap : cs.map a.eval = vs.toArray := by apply Array.ext'; simpa using evl_eval hs.2.2.1 hx
    simp [execOp, ho, hmap, Instr.makeFunc]

/-! calls that put lent parts back where they were -/
theorem OpT.vs {Ks Ks' : St → Prop} {s : St} (h : OpT c o s Ks) (hv : ∀ x, Ks x → ∃ y, Ks' y ∧ VS c x y) : OpT c o s Ks' := fun a w hs K Q hK =>
  h a w hs K Q fun x hx a' w' hs' => by
    obtain ⟨y, hy, hxy⟩ := hv x hx
    exact hK y hy a' w' (hxy a' w' hs')
theorem vs_pick (is : List Nat) {own' : List (Option Res)} (hn : nodupB is = true) (ho : pick own is = own') : VS c ⟨fr, own, shr⟩ ⟨fr, own', shr⟩ := fun a w hs => by
  obtain ⟨R, hs', hw⟩ := hs.2.2.2
  subst ho
  exact ⟨hs.1, hs.2.1, hs.2.2.1, _, _, hw.pick is hn (fun F hF => hF)⟩
theorem OpT_callP (perm : List Nat) {f : FuncId} {fx : Operand} {as : Array Operand} {ats : Array TypeId} {vs : List Value} {cp : List Value} {args : Array Value} {own0 : List Res} {shr0 : List Fact} {Post : Value → List Res → List Fact → Prop} {dd : Option Nat} (hC : Ctr c.P f args own0 shr0 Post) (is js : List Nat) (hn : dstOk dd c.n = true) (hd : o.dst = dd)
    (ho : o.op = .call { callee := .value fx, args := as, argTypes := ats }) (hfx : ev fr fx = some (.func (.func f) #[] cp.toArray)) (hvs : evl fr as.toList = some vs) (hc : Callee c.P f) (ha : args = (vs ++ cp).toArray) (hnd : nodupB is = true) (hio : pick own is = own0.map some) (hjs : pickF shr js = some shr0) (hpm : nodupB perm = true) :
    OpT c o ⟨fr, own, shr⟩ (fun s => ∃ rv own1 shr1, Post rv own1 shr1 ∧ s = ⟨putD dd rv fr, pick (clear own is ++ own1.map some) perm, shr ++ shr1⟩) :=
  (OpT_call hC is js hn hd ho hfx hvs hc ha hnd hio hjs).vs (by
    rintro x ⟨rv, own1, shr1, hp, rfl⟩
    exact ⟨_, ⟨rv, own1, shr1, hp, rfl⟩, vs_pick perm hpm rfl⟩)

end

/-! parts of rows of one's own -/
def subV (v : Value) (sz l h : Nat) : Value := match v with | .slice base _ cap => .slice (if cap = l then base else base.map (·.add (l * sz))) (h - l) (cap - l) | _ => undef
section
variable {c : Cx} {k : List Item} {s : St} {ops : Array Oper} {rest : List Oper} {o : Oper} {fr : List (Nat × Option Value)} {own : List (Option Res)} {shr : List Fact} {d : Nat} {τ σ : Type} {S : Shape τ} {S' : Shape σ}
theorem OpT_subS {t e : TypeId} {x : Operand} {lo hi : Option Operand} {vx : Value} {i : Nat} {l m : Int} {xs : List τ} {b : Nat} {z : Value} (hn : Nat.blt d c.n = true) (hd : o.dst = some d) (ho : o.op = .slice t x lo hi none) (hx : ev fr x = some vx)
    (ht : SlF c.P t e S.sz b z) (hi' : own[i]? = some (some (rowS S vx xs))) (hc : decide (0 ≤ l ∧ l ≤ m ∧ m ≤ len xs) = true)
    (hb : ∀ a w cap, Fr a fr → xs.length ≤ cap → (Instr.sliceBounds true xs.length cap (lo.map a.eval) (hi.map a.eval) none).run c.P w = .ok (l.toNat, m.toNat, cap) w) :
    OpT c o ⟨fr, own, shr⟩ (fun s => s = ⟨(d, some (subV vx S.sz l.toNat m.toNat)) :: fr, own, shr⟩) :=
  OpT_val hn hd fun a w hs => by
    obtain ⟨R, hs', hw⟩ := hs.2.2.2
    have hr := hw.ow i _ hi'
    have hsl := RowRel.slice (hw.rd i) hr
    obtain ⟨base, cp, e⟩ := RowRel.val hr
    subst e
    have hcap : xs.length ≤ cp := by
      obtain ⟨_, cap', css, e1, e2, _⟩ := hsl
      simp at e1; omega
    have hu := run_underlying ht.und w
    have hbb := hb a w cp hs.2.2.1 hcap
    simp [execOp, ho, ev_eval hs.2.2.1 hx, Instr.sliceAt, Instr.slice, hu, hbb, ht.sz, subV]
variable {t e : TypeId} {x : Operand} {vx : Value} {i : Nat} {xs : List τ} {b : Nat} {z : Value} {lo hi : Operand} {kl kh : IntKind} {l m : Int}
theorem OpT_subLH (hn : Nat.blt d c.n = true) (hd : o.dst = some d) (ho : o.op = .slice t x (some lo) (some hi) none) (hx : ev fr x = some vx) (hl : ev fr lo = some (.int kl l)) (hh : ev fr hi = some (.int kh m))
    (ht : SlF c.P t e S.sz b z) (hi' : own[i]? = some (some (rowS S vx xs))) (hc : decide (0 ≤ l ∧ l ≤ m ∧ m ≤ len xs) = true) : OpT c o ⟨fr, own, shr⟩ (fun s => s = ⟨(d, some (subV vx S.sz l.toNat m.toNat)) :: fr, own, shr⟩) := by
  obtain ⟨h0, h1, h2⟩ : 0 ≤ l ∧ l ≤ m ∧ m ≤ len xs := by simpa using hc
  unfold len at h2
  refine OpT_subS hn hd ho hx ht hi' hc fun a w cap hf hcap => ?_
  have b1 : ∀ code, (Instr.sliceBound (.int kh m) cap code).run c.P w = .ok m.toNat w := fun code => bound_ok (by omega) (by omega)
  have b2 : ∀ code, (Instr.sliceBound (.int kl l) m.toNat code).run c.P w = .ok l.toNat w := fun code => bound_ok (by omega) (by omega)
  simp [Instr.sliceBounds, ev_eval hf hl, ev_eval hf hh, b1, b2]
end

section
variable {own : List (Option Res)} {shr : List Fact} {bs : List Nat} {τ : Type} {S : Shape τ}
end
open Classical in
section
variable {c : Cx} {k : List Item} {o : Oper} {fr : List (Nat × Option Value)} {own : List (Option Res)} {shr : List Fact}
end
end Go.Proofs.Ytecmlfmbmligeaa
