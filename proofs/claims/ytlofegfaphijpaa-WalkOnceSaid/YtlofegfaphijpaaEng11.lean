/- The engine, part 11: views of a state, blocks that become readable, arrays at reckoned places, deferred calls, calls that borrow. No statement of the seat is proved here; no condition. -/
import Derived.Test.YtlofegfaphijpaaEng10
namespace Go.Proofs.Ytlofegfaphijpaa

/-! a state seen otherwise -/
def VS (c : Cx) (s s' : St) : Prop := ∀ a w, Sat c s a w → Sat c s' a w
section
variable {c : Cx} {k : List Item} {s s' : St} {ops : Array Oper} {rest : List Oper} {lo : Nat}
theorem Tk_vs (h : VS c s s') (hk : Tk c k s') : Tk c k s := fun a w hs => hk a w (h a w hs)
theorem Tops_vs (h : VS c s s') (hk : Tops c ops k rest s') : Tops c ops k rest s := fun a w hs => hk a w (h a w hs)
/-- a value is known by another name -/
theorem Tk_eqv {α : Type} {x y : α} (e : x = y) (f : α → St) (hk : Tk c k (f y)) : Tk c k (f x) := e ▸ hk
end

section
variable {c : Cx} {k : List Item} {s : St} {ops : Array Oper} {rest : List Oper} {o : Oper} {fr : List (Nat × Option Value)} {own : List (Option Res)} {shr : List Fact} {d : Nat} {τ σ : Type} {S : Shape τ} {S' : Shape σ}

/-! slices and nil -/
theorem equal_nil {P : Program} {t e : TypeId} {base : Option Addr} {n cap : Nat} (ht : P.underlying t = some (.slice e)) (w : World) : (Op.equal t (.slice base n cap) (.slice none 0 0)).run P w = .ok base.isNone w := by
  show (Op.equalIn (9999 + 1) t (.slice base n cap) (.slice none 0 0)).run P w = _
  rw [Op.equalIn]
  cases base <;> simp only [Sem.run_bind, run_underlying ht, Result.andThen_ok, Sem.run_pure, Option.isNone]
def nilB (op : BinOp) (q : Bool) : Bool := match op with | .eql => q | _ => !q
theorem run_eqNil {P : Program} {t e : TypeId} {x y : Operand} {base : Option Addr} {n cap : Nat} {op : BinOp} (hop : op = .eql ∨ op = .neq) (ht : P.underlying t = some (.slice e)) : Bin P op t x y (.slice base n cap) (.slice none 0 0) (.bool (nilB op base.isNone)) := fun w => by
  have h := equal_nil (n := n) (cap := cap) (base := base) ht w
  have hg : (eqGuard op t x y (.slice base n cap) (.slice none 0 0)).run P w = .ok () w := by rcases hop with rfl | rfl <;> rfl
  rw [Sem.run_bind, hg, Result.andThen_ok]
  rcases hop with rfl | rfl
  · show (do pure (Value.bool (← Op.equal t (.slice base n cap) (.slice none 0 0))) : Sem Value).run P w = _
    rw [Sem.run_bind, h, Result.andThen_ok]; rfl
  · show (do pure (Value.bool (!(← Op.equal t (.slice base n cap) (.slice none 0 0)))) : Sem Value).run P w = _
    rw [Sem.run_bind, h, Result.andThen_ok]; rfl
theorem OpT_eqNil {t e : TypeId} {x y : Operand} {t2 : TypeId} {vx : Value} {op : BinOp} {i : Nat} {xs : List τ} (hn : Nat.blt d c.n = true) (hd : o.dst = some d) (ho : o.op = .binOp op t x y t2) (hop : op = .eql ∨ op = .neq) (hx : ev fr x = some vx) (hy : ev fr y = some (.slice none 0 0)) (ht : c.P.underlying t = some (.slice e)) (hi : shr[i]? = some (Fact.sl S vx xs)) :
    OpT c o ⟨fr, own, shr⟩ (fun s => ∃ q : Bool, (q = true → xs = []) ∧ s = ⟨(d, some (.bool (nilB op q))) :: fr, own, shr⟩) := by
  intro a w hs K Q hK
  have hu := run_underlying ht w
  obtain ⟨R, hR, base, cap, css, h1, h2, h3, h4, h5⟩ := hs.2.2.2.fact hi
  subst h1
  have hq : base.isNone = true → xs = [] := fun hb => by
    cases base with
    | some _ => simp at hb
    | none =>
      cases css with
      | nil => simp at h3; exact List.eq_nil_of_length_eq_zero h3.symm
      | cons c0 css => obtain ⟨a, e, _⟩ := h5 0 c0 rfl; cases e
  have hrun : (execOp a.eval o).run c.P w = .ok (.value (.bool (nilB op base.isNone))) w := by
    have h9 := run_eqNil (P := c.P) (x := x) (y := y) (base := base) (n := xs.length) (cap := cap) hop ht
    simp only [execOp, ho, ev_eval hs.2.2.1 hx, ev_eval hs.2.2.1 hy]
    simp only [Sem.run_bind, h9 w]; rfl
  unfold Oper.wp
  rw [hrun, Oper.upon_value, hd]
  exact hK _ ⟨base.isNone, hq, rfl⟩ _ _ (Sat_put (c := c) hn hs)
theorem OpT_eqNilN {t e : TypeId} {x y : Operand} {t2 : TypeId} {op : BinOp} (hn : Nat.blt d c.n = true) (hd : o.dst = some d) (ho : o.op = .binOp op t x y t2) (hop : op = .eql ∨ op = .neq) (hx : ev fr x = some (.slice none 0 0)) (hy : ev fr y = some (.slice none 0 0)) (ht : c.P.underlying t = some (.slice e)) :
    OpT c o ⟨fr, own, shr⟩ (fun s => s = ⟨(d, some (.bool (nilB op true))) :: fr, own, shr⟩) :=
  OpT_val hn hd fun a w hs => by
    have h9 := run_eqNil (P := c.P) (x := x) (y := y) (base := none) (n := 0) (cap := 0) hop ht
    simp only [execOp, ho, ev_eval hs.2.2.1 hx, ev_eval hs.2.2.1 hy]
    simp only [Sem.run_bind, h9 w]; rfl
/-- a function value is made -/
theorem OpT_makeFunc {f : FuncId} {cs : Array Operand} {vs : List Value} (hn : Nat.blt d c.n = true) (hd : o.dst = some d) (ho : o.op = .makeFunc (.func f) #[] cs) (hx : evl fr cs.toList = some vs) : OpT c o ⟨fr, own, shr⟩ (fun y => y = ⟨(d, some (.func (.func f) #[] vs.toArray)) :: fr, own, shr⟩) :=
  OpT_val hn hd fun a w hs => by
    have hmap : cs.map a.eval = vs.toArray := by apply Array.ext'; simpa using evl_eval hs.2.2.1 hx
    simp [execOp, ho, hmap, Instr.makeFunc]

/-! calls that put lent parts back where they were -/
theorem OpT.vs {Ks Ks' : St → Prop} {s : St} (h : OpT c o s Ks) (hv : ∀ x, Ks x → ∃ y, Ks' y ∧ VS c x y) : OpT c o s Ks' := fun a w hs K Q hK =>
  h a w hs K Q fun x hx a' w' hs' => by
    obtain ⟨y, hy, hxy⟩ := hv x hx
    exact hK y hy a' w' (hxy a' w' hs')
theorem vs_pick (is : List Nat) {own' : List (Option Res)} (hn : nodupB is = true) (ho : pick own is = own') : VS c ⟨fr, own, shr⟩ ⟨fr, own', shr⟩ := fun a w hs => by
  obtain ⟨R, hs', hw⟩ := hs.2.2.2
  subst ho
  exact ⟨hs.1, hs.2.1, hs.2.2.1, _, _, hw.pick is hn (fun F hF => hF)⟩
theorem OpT_callP (perm : List Nat) {f : FuncId} {fx : Operand} {as : Array Operand} {ats : Array TypeId} {vs : List Value} {cp : List Value} {args : Array Value} {own0 : List Res} {shr0 : List Fact} {Post : Value → List Res → List Fact → Prop} {dd : Option Nat} (hC : Ctr c.P f args own0 shr0 Post) (is js : List Nat) (hn : dstOk dd c.n = true) (hd : o.dst = dd)
    (ho : o.op = .call { callee := .value fx, args := as, argTypes := ats }) (hfx : ev fr fx = some (.func (.func f) #[] cp.toArray)) (hvs : evl fr as.toList = some vs) (hc : Callee c.P f) (ha : args = (vs ++ cp).toArray) (hnd : nodupB is = true) (hio : pick own is = own0.map some) (hjs : pickF shr js = some shr0) (hpm : nodupB perm = true) :
    OpT c o ⟨fr, own, shr⟩ (fun s => ∃ rv own1 shr1, Post rv own1 shr1 ∧ s = ⟨putD dd rv fr, pick (clear own is ++ own1.map some) perm, shr ++ shr1⟩) :=
  (OpT_call hC is js hn hd ho hfx hvs hc ha hnd hio hjs).vs (by
    rintro x ⟨rv, own1, shr1, hp, rfl⟩
    exact ⟨_, ⟨rv, own1, shr1, hp, rfl⟩, vs_pick perm hpm rfl⟩)

/-! deferred calls -/
theorem contQ_ds (c : Cx) (ds : List Deferred) : ∀ (k : List Item), contQ { c with ds := ds } k = contQ c k
  | [] => rfl
  | .code x :: k => by rw [contQ_code, contQ_code, contQ_ds c ds k]
  | .blk id :: k => by rw [contQ_blk, contQ_blk, contQ_ds c ds k]
  | .back J :: k => by rw [contQ_back, contQ_back, contQ_ds c ds k]
  | .sc :: k => by rw [contQ_sc, contQ_sc, contQ_ds c ds k]
theorem Tops_defer {f : FuncId} {x : Operand} {cp : List Value} (hg : o.guard = none) (hd : o.dst = none) (ho : o.op = .defer { callee := .value x, args := #[], argTypes := #[] }) (hx : ev fr x = some (.func (.func f) #[] cp.toArray))
    (h : Tops { c with ds := ⟨.fn (.func f) cp.toArray, #[]⟩ :: c.ds } ops k rest ⟨fr, own, shr⟩) : Tops c ops k (o :: rest) ⟨fr, own, shr⟩ := fun a w hs =>
  wpList_plain hg fun K hK => by
    unfold Oper.wp
    have hrun : (execOp a.eval o).run c.P w = .ok (.defer ⟨.fn (.func f) cp.toArray, #[]⟩) w := by
      simp [execOp, ho, resolve, ev_eval hs.2.2.1 hx, Deferred.ofValue]
    rw [hrun, Oper.upon_defer, hd]
    refine hK _ _ ?_
    have h1 := h { a with defers := ⟨.fn (.func f) cp.toArray, #[]⟩ :: a.defers } w ⟨hs.1, by simp [hs.2.1], hs.2.2.1, hs.2.2.2⟩
    rw [contQ_ds] at h1
    exact h1
/-- the frame is left: its results -/
def Tleave (c : Cx) (fn : Func) (Post : Value → List Res → List Fact → Prop) (s : St) : Prop :=
  ∀ a w, Sat c s a w → ∃ v own1 shr1, (results fn a.tmps).run c.P w = .ok v w ∧ Post v own1 shr1 ∧ HSat c.R0 c.w0 c.B (own1.map some) shr1 w
theorem Tleave_mk {fn : Func} {Post : Value → List Res → List Fact → Prop} {v : Value} (hv : ∀ a w, Sat c ⟨fr, own, shr⟩ a w → (results fn a.tmps).run c.P w = .ok v w) (is js : List Nat) {own1 : List Res} {shr1 : List Fact} (hnd : nodupB is = true) (ho : pick own is = own1.map some) (hj : pickF shr js = some shr1) (hp : Post v own1 shr1) : Tleave c fn Post ⟨fr, own, shr⟩ :=
  fun a w hs => ⟨v, own1, shr1, hv a w hs, hp, hs.result is js own1 shr1 hnd ho hj (v := v)⟩
theorem leave_core {fn : Func} {Post Post1 : Value → List Res → List Fact → Prop} {f : FuncId} {cp : List Value} {own0 : List Res} {shr0 : List Fact} (hds : c.ds = [⟨.fn (.func f) cp.toArray, #[]⟩]) (hc : Callee c.P f) (hC : CtrD c.P f cp.toArray own0 shr0 Post1) (is js : List Nat) (hnd : nodupB is = true) (hio : pick own is = own0.map some) (hjs : pickF shr js = some shr0)
    (h : ∀ rv own1 shr1, Post1 rv own1 shr1 → Tleave c fn Post ⟨fr, clear own is ++ own1.map some, shr ++ shr1⟩) : ∀ a w, Sat c ⟨fr, own, shr⟩ a w → Leaves c.P fn a.tmps (fun e w1 => ∃ rv own1 shr1, e = .returned rv ∧ Post rv own1 shr1 ∧ HSat c.R0 c.w0 c.B (own1.map some) shr1 w1) a.defers .returning w := fun a w hs => by
  obtain ⟨R, hs', hw⟩ := hs.2.2.2
  rw [hs.2.1, hds]
  have hinv : (invoke (.fn (.func f) cp.toArray) #[]).run c.P w = .ok (.enter f cp.toArray) w := by
    have := hc cp.toArray w
    simp only [invoke, List.append_toArray, List.nil_append, this]
  refine leaves_cons (by simp) hinv ?_
  have hil : is.length = own0.length := by
    have := congrArg List.length hio
    simpa [pick] using this
  have hall : ∀ (i : Nat), (match is[i]? with | some j => hs' j | none => PH.emp : PH).inW w := fun i => by
    cases e : is[i]? with
    | some j => exact hw.hw j
    | none => intro b o hb; cases hb
  have hw2 := hw.pick is hnd (pickF_mem hjs)
  refine (hC R w (fun (i : Nat) => match is[i]? with | some j => hs' j | none => PH.emp) .returning hw.rw_ (fun F hF => hw.sh F (pickF_mem hjs F hF)) ?_ hall hw2.dj hw2.rd).mono ?_
  · intro i r hi
    refine hw2.ow i r ?_
    rw [hio]; simp [hi]
  · rintro e u' w1 ⟨rfl, rv, own1, shr1, rfl, hp, hh⟩
    dsimp only
    have hcall := hw.call is own1 own0.length hil hh
    obtain ⟨v, own2, shr2, h1, h2, h3⟩ := h rv own1 shr1 hp a w1 ⟨hs.1, hs.2.1, hs.2.2.1, hcall⟩
    exact ⟨v, h1, v, own2, shr2, rfl, h2, h3⟩
theorem Tk_retD {fn : Func} {Post Post1 : Value → List Res → List Fact → Prop} (hQ : c.Q = QRD c.P fn c.R0 c.w0 c.B Post) {f : FuncId} {cp : List Value} {own0 : List Res} {shr0 : List Fact} (hds : c.ds = [⟨.fn (.func f) cp.toArray, #[]⟩]) (hc : Callee c.P f) (hC : CtrD c.P f cp.toArray own0 shr0 Post1) (is js : List Nat) (hnd : nodupB is = true) (hio : pick own is = own0.map some) (hjs : pickF shr js = some shr0)
    (h : ∀ rv own1 shr1, Post1 rv own1 shr1 → Tleave c fn Post ⟨fr, clear own is ++ own1.map some, shr ++ shr1⟩) : Tk c (.code .ret :: k) ⟨fr, own, shr⟩ := Tk_ret fun a w hs => by
  rw [hQ]; exact leave_core hds hc hC is js hnd hio hjs h a w hs
/-- a return ahead of any deferred call -/
theorem Tk_retE {fn : Func} {Post : Value → List Res → List Fact → Prop} (hQ : c.Q = QRD c.P fn c.R0 c.w0 c.B Post) (hds : c.ds = []) (h : Tleave c fn Post ⟨fr, own, shr⟩) : Tk c (.code .ret :: k) ⟨fr, own, shr⟩ := Tk_ret fun a w hs => by
  obtain ⟨v, own2, shr2, h1, h2, h3⟩ := h a w hs
  rw [hQ]
  show Leaves c.P fn a.tmps _ a.defers .returning w
  rw [hs.2.1, hds]
  exact ⟨v, h1, v, own2, shr2, rfl, h2, h3⟩
end

/-! parts of rows of one's own -/
def subV (v : Value) (sz l h : Nat) : Value := match v with | .slice base _ cap => .slice (if cap = l then base else base.map (·.add (l * sz))) (h - l) (cap - l) | _ => undef
theorem sub_rel {τ : Type} {S : Shape τ} {R h : PH} (hd : R.disj h) {v : Value} {xs : List τ} (hr : RowRel S R h v xs) {l m : Int} (hc : decide (0 ≤ l ∧ l ≤ m ∧ m ≤ len xs) = true) : SliceRel S (R.or h) (subV v S.sz l.toNat m.toNat) (sub xs l m) := by
  obtain ⟨h0, h1, h2⟩ : 0 ≤ l ∧ l ≤ m ∧ m ≤ len xs := by simpa using hc
  unfold len at h2
  obtain ⟨base, cp, e⟩ := RowRel.val hr
  have hs := RowRel.slice hd hr
  subst e
  have hcap : xs.length ≤ cp := by
    obtain ⟨_, cap', css, e1, e2, _⟩ := hs
    simp at e1; omega
  exact SliceRel.sub hs (by omega) (by omega) (by omega : m.toNat ≤ cp)
section
variable {c : Cx} {k : List Item} {s : St} {ops : Array Oper} {rest : List Oper} {o : Oper} {fr : List (Nat × Option Value)} {own : List (Option Res)} {shr : List Fact} {d : Nat} {τ σ : Type} {S : Shape τ} {S' : Shape σ}
theorem OpT_subS {t e : TypeId} {x : Operand} {lo hi : Option Operand} {vx : Value} {i : Nat} {l m : Int} {xs : List τ} {b : Nat} {z : Value} (hn : Nat.blt d c.n = true) (hd : o.dst = some d) (ho : o.op = .slice t x lo hi none) (hx : ev fr x = some vx)
    (ht : SlF c.P t e S.sz b z) (hi' : own[i]? = some (some (rowS S vx xs))) (hc : decide (0 ≤ l ∧ l ≤ m ∧ m ≤ len xs) = true)
    (hb : ∀ a w cap, Fr a fr → xs.length ≤ cap → (Instr.sliceBounds true xs.length cap (lo.map a.eval) (hi.map a.eval) none).run c.P w = .ok (l.toNat, m.toNat, cap) w) :
    OpT c o ⟨fr, own, shr⟩ (fun s => s = ⟨(d, some (subV vx S.sz l.toNat m.toNat)) :: fr, own, shr⟩) :=
  OpT_val hn hd fun a w hs => by
    obtain ⟨R, hs', hw⟩ := hs.2.2.2
    have hr := hw.ow i _ hi'
    have hsl := RowRel.slice (hw.rd i) hr
    obtain ⟨base, cp, e⟩ := RowRel.val hr
    subst e
    have hcap : xs.length ≤ cp := by
      obtain ⟨_, cap', css, e1, e2, _⟩ := hsl
      simp at e1; omega
    have hu := run_underlying ht.und w
    have hbb := hb a w cp hs.2.2.1 hcap
    simp [execOp, ho, ev_eval hs.2.2.1 hx, Instr.sliceAt, Instr.slice, hu, hbb, ht.sz, subV]
variable {t e : TypeId} {x : Operand} {vx : Value} {i : Nat} {xs : List τ} {b : Nat} {z : Value} {lo hi : Operand} {kl kh : IntKind} {l m : Int}
theorem OpT_subLH (hn : Nat.blt d c.n = true) (hd : o.dst = some d) (ho : o.op = .slice t x (some lo) (some hi) none) (hx : ev fr x = some vx) (hl : ev fr lo = some (.int kl l)) (hh : ev fr hi = some (.int kh m))
    (ht : SlF c.P t e S.sz b z) (hi' : own[i]? = some (some (rowS S vx xs))) (hc : decide (0 ≤ l ∧ l ≤ m ∧ m ≤ len xs) = true) : OpT c o ⟨fr, own, shr⟩ (fun s => s = ⟨(d, some (subV vx S.sz l.toNat m.toNat)) :: fr, own, shr⟩) := by
  obtain ⟨h0, h1, h2⟩ : 0 ≤ l ∧ l ≤ m ∧ m ≤ len xs := by simpa using hc
  unfold len at h2
  refine OpT_subS hn hd ho hx ht hi' hc fun a w cap hf hcap => ?_
  have b1 : ∀ code, (Instr.sliceBound (.int kh m) cap code).run c.P w = .ok m.toNat w := fun code => bound_ok (by omega) (by omega)
  have b2 : ∀ code, (Instr.sliceBound (.int kl l) m.toNat code).run c.P w = .ok l.toNat w := fun code => bound_ok (by omega) (by omega)
  simp [Instr.sliceBounds, ev_eval hf hl, ev_eval hf hh, b1, b2]
theorem OpT_subL (hn : Nat.blt d c.n = true) (hd : o.dst = some d) (ho : o.op = .slice t x (some lo) none none) (hx : ev fr x = some vx) (hl : ev fr lo = some (.int kl l))
    (ht : SlF c.P t e S.sz b z) (hi' : own[i]? = some (some (rowS S vx xs))) (hc : decide (0 ≤ l ∧ l ≤ len xs ∧ len xs ≤ len xs) = true) : OpT c o ⟨fr, own, shr⟩ (fun s => s = ⟨(d, some (subV vx S.sz l.toNat (len xs).toNat)) :: fr, own, shr⟩) := by
  obtain ⟨h0, h1, h2⟩ : 0 ≤ l ∧ l ≤ len xs ∧ len xs ≤ len xs := by simpa using hc
  refine OpT_subS hn hd ho hx ht hi' hc fun a w cap hf hcap => ?_
  unfold len at h1 ⊢
  have b2 : ∀ code, (Instr.sliceBound (.int kl l) xs.length code).run c.P w = .ok l.toNat w := fun code => bound_ok (by omega) (by omega)
  simp [Instr.sliceBounds, ev_eval hf hl, b2]
/-- append(x, y...): both rows of one's own, or a part of such -/
theorem or_inW {R h : PH} {w : World} (h1 : R.inW w) (h2 : h.inW w) : (R.or h).inW w := fun b o hb => by
  rcases PH.or_some hb with q | q
  · exact h1 b o q
  · exact h2 b o q
theorem OpT_appendB {cells : τ → List Value} {sz : Nat} {ag : Bool} {hl : ∀ x, (cells x).length = sz} {hone : ∀ x, (cells x).all (·.oneCell') = true} (hS : S = Shape.plain sz ag cells hl hone) {t e : TypeId} {x y : Operand} {vx vy : Value} {i j b : Nat} {z : Value} {xs ys : List τ} (hn : Nat.blt d c.n = true) (hd : o.dst = some d) (ho : o.op = .call { callee := .builtin .append, args := #[x, y], argTypes := #[t, t] })
    (hx : ev fr x = some vx) (hy : ev fr y = some vy) (ht : SlF c.P t e S.sz b z) (hi : own[i]? = some (some (rowS S vx xs))) (hj : own[j]? = some (some (rowS S vy ys))) (hf : fits xs.length ys.length b = true) :
    OpT c o ⟨fr, own, shr⟩ (fun s => ∃ v, s = ⟨(d, some v) :: fr, own.set i (some (rowS S v (xs ++ ys))), shr⟩) :=
  OpT_run hn hd fun a w hs => by
    obtain ⟨R, hs', hw⟩ := hs.2.2.2
    obtain ⟨v', w', hr, hh⟩ := run_append_S (sz := 0) ht hw hi (or_inW hw.rw_ (hw.hw j)) (fun cs x h => by subst hS; exact h) (RowRel.slice (hw.rd j) (hw.ow j _ hj)) (Nat.le_of_ble_eq_true hf) o.type
    refine ⟨v', w', v', ?_, rfl, hh⟩
    simp only [execOp, ho, resolve, invoke, builtin, Sem.run_bind, Sem.run_pure, Result.andThen_ok, List.map_toArray, List.map_cons, List.map_nil, ev_eval hs.2.2.1 hx, ev_eval hs.2.2.1 hy, hr]
end

/-! calls that borrow -/
def RBof (R : PH) (hs : Nat → PH) : List Nat → PH
  | [] => R
  | j :: r => (RBof R hs r).or (hs j)
theorem RBof_le {R : PH} {hs : Nat → PH} : ∀ {bs : List Nat}, R.le (RBof R hs bs)
  | [] => PH.le_refl _
  | _ :: r => PH.le_trans (RBof_le (bs := r)) PH.or_left
theorem RBof_some {R : PH} {hs : Nat → PH} {b : Nat} {o : Obj} : ∀ {bs : List Nat}, RBof R hs bs b = some o → R b = some o ∨ ∃ j, j ∈ bs ∧ hs j b = some o
  | [], h => .inl h
  | j :: r, h => by
    rcases PH.or_some h with q | q
    · rcases RBof_some (bs := r) q with q | ⟨j', h1, h2⟩
      · exact .inl q
      · exact .inr ⟨j', by simp [h1], h2⟩
    · exact .inr ⟨j, by simp, q⟩
theorem RBof_disj {R : PH} {hs : Nat → PH} (hd : ∀ i j, i ≠ j → (hs i).disj (hs j)) (hr : ∀ i, R.disj (hs i)) {bs : List Nat} {i : Nat} (hi : i ∉ bs) : (RBof R hs bs).disj (hs i) := fun b => by
  cases e : RBof R hs bs b with
  | none => exact .inl rfl
  | some o =>
    right
    rcases RBof_some e with q | ⟨j, h1, h2⟩
    · rcases hr i b with q' | q'
      · rw [q] at q'; cases q'
      · exact q'
    · rcases hd j i (fun e => hi (e ▸ h1)) b with q' | q'
      · rw [h2] at q'; cases q'
      · exact q'
theorem RBof_has {R : PH} {hs : Nat → PH} (hd : ∀ i j, i ≠ j → (hs i).disj (hs j)) (hr : ∀ i, R.disj (hs i)) : ∀ {bs : List Nat}, nodupB bs = true → ∀ j, j ∈ bs → (hs j).le (RBof R hs bs)
  | [], _, j, h => by cases h
  | i :: r, hn, j, h => by
    simp only [nodupB] at hn
    cases e : notin i r with
    | false => rw [e] at hn; cases hn
    | true =>
      rw [e] at hn
      have hni : i ∉ r := fun hm => by
        obtain ⟨q, hq⟩ := List.mem_iff_getElem?.1 hm
        exact notin_ne e q hq
      rcases List.mem_cons.1 h with q | q
      · subst q; exact PH.or_right (RBof_disj hd hr hni)
      · exact PH.le_trans (RBof_has hd hr hn j q) PH.or_left
/-- a fact that holds where parts are borrowed -/
def BorP (own : List (Option Res)) (shr : List Fact) (bs : List Nat) (F : Fact) : Prop :=
  ∀ (R : PH) (hs : Nat → PH) (RB : PH), (∀ G ∈ shr, G.p R) → (∀ (i : Nat) (r : Res), own[i]? = some (some r) → r.p R (hs i)) → (∀ i, R.disj (hs i)) → R.le RB → (∀ j, j ∈ bs → (hs j).le RB) → F.p RB
def RI (r : Res) : Prop := ∀ (R R' h : PH), r.p R h → r.p R' h
section
variable {own : List (Option Res)} {shr : List Fact} {bs : List Nat} {τ : Type} {S : Shape τ}
theorem or_le {R h RB : PH} (h1 : R.le RB) (h2 : h.le RB) : (R.or h).le RB := fun b o hb => by
  rcases PH.or_some hb with q | q
  · exact h1 b o q
  · exact h2 b o q
theorem bor_shr {F : Fact} (i : Nat) (hi : shr[i]? = some F) : BorP own shr bs F := fun _ _ _ hF _ _ hl _ => F.mono hl (hF F (List.mem_of_getElem? hi))
theorem bor_row {v : Value} {xs : List τ} (j : Nat) (hj : own[j]? = some (some (rowS S v xs))) (hm : memN j bs = true) : BorP own shr bs (Fact.sl S v xs) := fun R hs RB _ ho hd hl hb =>
  (RowRel.slice (hd j) (ho j _ hj)).mono (or_le hl (hb j (memN_iff.1 hm)))
theorem bor_sub {v : Value} {xs : List τ} {l m : Int} (j : Nat) (hj : own[j]? = some (some (rowS S v xs))) (hm : memN j bs = true) (hc : decide (0 ≤ l ∧ l ≤ m ∧ m ≤ len xs) = true) : BorP own shr bs (Fact.sl S (subV v S.sz l.toNat m.toNat) (sub xs l m)) := fun R hs RB _ ho hd hl hb =>
  (sub_rel (hd j) (ho j _ hj) hc).mono (or_le hl (hb j (memN_iff.1 hm)))
theorem bor_nil : ∀ F ∈ ([] : List Fact), BorP own shr bs F := fun F h => by cases h
theorem bor_cons {F : Fact} {l : List Fact} (h : BorP own shr bs F) (hs : ∀ G ∈ l, BorP own shr bs G) : ∀ G ∈ F :: l, BorP own shr bs G := fun G hG => by
  cases hG with
  | head => exact h
  | tail _ hm => exact hs G hm
theorem ri_row {cells : τ → List Value} {sz : Nat} {ag : Bool} {hl : ∀ x, (cells x).length = sz} {hone : ∀ x, (cells x).all (·.oneCell') = true} (hS : S = Shape.plain sz ag cells hl hone) (v : Value) (xs : List τ) : RI (rowS S v xs) := fun R R' h hr => by
  subst hS; exact hr
theorem ri_cells (b : Nat) (t : TypeId) (cs : List Value) : RI (cellsR b t cs) := fun R R' h hr => hr
theorem ri_nil : ∀ r ∈ ([] : List Res), RI r := fun F h => by cases h
theorem ri_cons {r : Res} {l : List Res} (h : RI r) (hs : ∀ G ∈ l, RI G) : ∀ G ∈ r :: l, RI G := fun G hG => by
  cases hG with
  | head => exact h
  | tail _ hm => exact hs G hm
end
open Classical in
theorem HW.callB {R0 : PH} {w0 : World} {B : Nat → Prop} {own : List (Option Res)} {shr : List Fact} {w w1 : World} {R : PH} {hs : Nat → PH} (h : HW R0 w0 B own shr w R hs) (bs is : List Nat) (hbi : ∀ j, j ∈ bs → j ∉ is) (own1 : List Res) (hri : ∀ r ∈ own1, RI r) (m : Nat) 
    (h1 : HSat (RBof R hs bs) w (fun b => ∃ i, i < m ∧ (match is[i]? with | some j => hs j | none => PH.emp) b ≠ none) (own1.map some) [] w1) : HSat R0 w0 B (clear own is ++ own1.map some) shr w1 := by
  obtain ⟨R1, g, hg⟩ := h1
  have hB1 : ∀ b, (∃ i, i < m ∧ (match is[i]? with | some j => hs j | none => PH.emp) b ≠ none) → ∃ j, j ∈ is ∧ ∃ o, hs j b = some o := by
    rintro b ⟨i, hi, hb⟩
    cases e : is[i]? with
    | none => rw [e] at hb; exact absurd rfl hb
    | some j =>
      rw [e] at hb
      refine ⟨j, List.mem_of_getElem? e, ?_⟩
      cases q : hs j b with
      | none => exact absurd q hb
      | some o => exact ⟨o, rfl⟩
  have lt_of : ∀ j b o, hs j b = some o → b < w.heap.size := fun j b o hb => (Array.getElem?_eq_some_iff.1 (h.hw j b o hb)).1
  have kept : ∀ j b o, j ∉ is → hs j b = some o → ¬ (∃ i, i < m ∧ (match is[i]? with | some j => hs j | none => PH.emp) b ≠ none) := by
    intro j b o hj hb hB
    obtain ⟨j', hj', o', ho'⟩ := hB1 b hB
    rcases h.dj j j' (fun e => hj (e ▸ hj')) b with q | q
    · rw [hb] at q; cases q
    · rw [ho'] at q; cases q
  -- what all may read afterwards: without what was borrowed
  let Rf : PH := fun b => if (∃ j, j ∈ bs ∧ hs j b ≠ none) then none else R1 b
  have Rf_le : Rf.le R1 := fun b o hb => by
    simp only [Rf] at hb
    split at hb
    · cases hb
    · exact hb
  have Rf_of : ∀ b o, R1 b = some o → (∀ j, j ∈ bs → hs j b = none) → Rf b = some o := fun b o hb hn => by
    simp only [Rf]
    rw [if_neg]
    · exact hb
    · rintro ⟨j, hj, q⟩; exact q (hn j hj)
  have R_le : R.le Rf := fun b o hb => Rf_of b o (hg.r0 b o (RBof_le b o hb)) fun j _ => by
    rcases h.rd j b with q | q
    · rw [hb] at q; cases q
    · exact q
  have Rf_no : ∀ j b, j ∈ bs → Rf b = none ∨ hs j b = none := fun j b hj => by
    by_cases q : hs j b = none
    · exact .inr q
    · left; simp only [Rf]; rw [if_pos ⟨j, hj, q⟩]
  refine ⟨Rf, fun j => if j < own.length then (if j ∈ is then PH.emp else hs j) else g (j - own.length), PH.le_trans h.r0 R_le, fun b o hb => hg.rw_ b o (Rf_le b o hb), fun F hF => F.mono R_le (h.sh F hF), ?_, ?_, ?_, ?_, ?_, ?_, Nat.le_trans h.size hg.size, ?_, hg.os.trans h.os, hg.tape.trans h.tape, hg.output.trans h.output⟩
  · intro j r hj
    by_cases hlt : j < own.length
    · rw [List.getElem?_append_left (by rw [clear_len]; exact hlt)] at hj
      obtain ⟨q1, q2⟩ := clear_at hj
      simp only [hlt, q2, if_true, if_false]
      exact r.mono R_le (h.ow j r q1)
    · rw [List.getElem?_append_right (by rw [clear_len]; omega), clear_len] at hj
      simp only [hlt, if_false]
      have := hg.ow _ r hj
      refine hri r ?_ _ _ _ this
      rw [List.getElem?_map] at hj
      cases q : own1[j - own.length]? with
      | none => rw [q] at hj; simp at hj
      | some r' => rw [q] at hj; simp at hj; subst hj; exact List.mem_of_getElem? q
  · intro j
    by_cases hlt : j < own.length
    · by_cases hj : j ∈ is
      · simp only [hlt, hj, if_true]; intro b o hb; cases hb
      · simp only [hlt, hj, if_true, if_false]
        intro b o hb
        rw [hg.keep b (lt_of j b o hb) (kept j b o hj hb)]; exact h.hw j b o hb
    · simp only [hlt, if_false]; exact hg.hw _
  · intro j l hjl
    have mixed : ∀ j l, j < own.length → j ∉ is → (hs j).disj (g l) := by
      intro j l hlt hj b
      cases hb : hs j b with
      | none => exact .inl rfl
      | some o =>
        right
        cases hb' : g l b with
        | none => rfl
        | some o' =>
          rcases hg.new l b o' hb' with q | q
          · exact absurd q (kept j b o hj hb)
          · have := lt_of j b o hb; omega
    by_cases h1 : j < own.length <;> by_cases h2 : l < own.length <;> by_cases h3 : j ∈ is <;> by_cases h4 : l ∈ is <;> simp only [h1, h2, h3, h4, if_true, if_false] <;>
      first
      | exact fun b => .inl rfl
      | exact fun b => .inr rfl
      | exact h.dj j l hjl
      | exact mixed j _ h1 h3
      | exact PH.disj_comm (mixed l _ h2 h4)
      | exact hg.dj _ _ (by omega)
  · intro j
    by_cases hlt : j < own.length
    · by_cases hj : j ∈ is
      · simp only [hlt, hj, if_true]; exact fun b => .inr rfl
      · simp only [hlt, hj, if_true, if_false]
        intro b
        by_cases hjb : j ∈ bs
        · exact Rf_no j b hjb
        · cases hb : hs j b with
          | none => exact .inr rfl
          | some o =>
            left
            cases hb' : Rf b with
            | none => rfl
            | some o' =>
              rcases hg.rnew b o' (Rf_le b o' hb') with q | q | q
              · rcases RBof_some q with q | ⟨j', hj', q⟩
                · rcases h.rd j b with q' | q'
                  · rw [q] at q'; cases q'
                  · rw [hb] at q'; cases q'
                · rcases h.dj j j' (fun e => hjb (e ▸ hj')) b with q' | q'
                  · rw [hb] at q'; cases q'
                  · rw [q] at q'; cases q'
              · exact absurd q (kept j b o hj hb)
              · have := lt_of j b o hb; omega
    · simp only [hlt, if_false]
      intro b
      rcases hg.rd (j - own.length) b with q | q
      · left
        cases hb' : Rf b with
        | none => rfl
        | some o' => rw [Rf_le b o' hb'] at q; cases q
      · exact .inr q
  · intro j b o hb
    by_cases hlt : j < own.length
    · by_cases hj : j ∈ is
      · simp only [hlt, hj, if_true] at hb; cases hb
      · simp only [hlt, hj, if_true, if_false] at hb; exact h.new j b o hb
    · simp only [hlt, if_false] at hb
      rcases hg.new _ b o hb with q | q
      · obtain ⟨j', _, o', ho'⟩ := hB1 b q
        exact h.new j' b o' ho'
      · exact .inr (Nat.le_trans h.size q)
  · intro b o hb
    rcases hg.rnew b o (Rf_le b o hb) with q | q | q
    · rcases RBof_some q with q | ⟨j', hj', q⟩
      · exact h.rnew b o q
      · exact .inr (h.new j' b o q)
    · obtain ⟨j', _, o', ho'⟩ := hB1 b q
      exact .inr (h.new j' b o' ho')
    · exact .inr (.inr (Nat.le_trans h.size q))
  · intro b hb hnB
    rw [hg.keep b (Nat.lt_of_lt_of_le hb h.size) (fun q => by
      obtain ⟨j', _, o', ho'⟩ := hB1 b q
      rcases h.new j' b o' ho' with q' | q'
      · exact hnB q'
      · omega)]
    exact h.keep b hb hnB
section
variable {c : Cx} {k : List Item} {o : Oper} {fr : List (Nat × Option Value)} {own : List (Option Res)} {shr : List Fact}
def apartB (bs is : List Nat) : Bool := bs.all fun j => notin j is
theorem apart_of {bs is : List Nat} (h : apartB bs is = true) : ∀ j, j ∈ bs → j ∉ is := fun j hj hm => by
  have := List.all_eq_true.1 h j hj
  obtain ⟨q, hq⟩ := List.mem_iff_getElem?.1 hm
  exact notin_ne this q hq
theorem OpT_callB (bs perm : List Nat) {f : FuncId} {fx : Operand} {as : Array Operand} {ats : Array TypeId} {vs : List Value} {cp : List Value} {args : Array Value} {own0 : List Res} {shr0 : List Fact} {Post : Value → List Res → List Fact → Prop} {dd : Option Nat} (hC : Ctr c.P f args own0 shr0 Post) (is : List Nat) (hn : dstOk dd c.n = true) (hd : o.dst = dd)
    (ho : o.op = .call { callee := .value fx, args := as, argTypes := ats }) (hfx : ev fr fx = some (.func (.func f) #[] cp.toArray)) (hvs : evl fr as.toList = some vs) (hc : Callee c.P f) (ha : args = (vs ++ cp).toArray) (hnd : nodupB is = true) (hio : pick own is = own0.map some) (hbs : nodupB bs = true) (hap : apartB bs is = true) (hpm : nodupB perm = true)
    (hF : ∀ F ∈ shr0, BorP own shr bs F) (hri : ∀ rv own1 shr1, Post rv own1 shr1 → shr1 = [] ∧ ∀ r ∈ own1, RI r) :
    OpT c o ⟨fr, own, shr⟩ (fun s => ∃ rv own1 shr1, Post rv own1 shr1 ∧ s = ⟨putD dd rv fr, pick (clear own is ++ own1.map some) perm, shr⟩) := by
  intro a w hs K Q hK
  have hev := hs.2.2.1
  obtain ⟨R, hs', hw⟩ := hs.2.2.2
  unfold Oper.wp
  have hmap : as.map a.eval = vs.toArray := by apply Array.ext'; simpa using evl_eval hev hvs
  have hrun : (execOp a.eval o).run c.P w = .ok (.enter f (vs.toArray ++ cp.toArray)) w := by
    have := hc (vs.toArray ++ cp.toArray) w
    simp only [List.append_toArray] at this
    simp only [execOp, ho, resolve, hmap, ev_eval hev hfx, Deferred.ofValue, Sem.run_bind, Sem.run_pure, Result.andThen_ok, invoke, List.append_toArray, List.nil_append, this]
  rw [hrun, Oper.upon_enter]
  have hall : ∀ (i : Nat), (match is[i]? with | some j => hs' j | none => PH.emp : PH).inW w := fun i => by
    cases e : is[i]? with
    | some j => exact hw.hw j
    | none => intro b o hb; cases hb
  have harg : vs.toArray ++ cp.toArray = args := by rw [ha]; simp
  rw [harg]
  have hbi := apart_of hap
  have hw2 := hw.pick is hnd (shr' := []) (fun F h => by cases h)
  have hbin : (RBof R hs' bs).inW w := fun b o hb => by
    rcases RBof_some hb with q | ⟨j, _, q⟩
    · exact hw.rw_ b o q
    · exact hw.hw j b o q
  refine (hC (RBof R hs' bs) w (fun (i : Nat) => match is[i]? with | some j => hs' j | none => PH.emp) hbin (fun F h => hF F h R hs' _ hw.sh hw.ow hw.rd RBof_le (RBof_has hw.dj hw.rd hbs)) ?_ hall hw2.dj ?_).mono ?_
  · intro i r hi
    have h3 := hw2.ow i r (by rw [hio]; simp [hi])
    exact r.mono RBof_le h3
  · intro i
    cases e : is[i]? with
    | none => exact fun b => .inr rfl
    | some j => exact RBof_disj hw.dj hw.rd (fun hm => hbi j hm (List.mem_of_getElem? e))
  · rintro e w1 ⟨rv, own1, shr1, rfl, hp, hh⟩
    dsimp only
    obtain ⟨rfl, hri'⟩ := hri _ _ _ hp
    obtain ⟨R2, hs2, hcall⟩ := hw.callB bs is hbi own1 hri' own0.length hh
    have hfin : HSat c.R0 c.w0 c.B (pick (clear own is ++ own1.map some) perm) shr w1 := ⟨_, _, hcall.pick perm hpm (fun F hF => hF)⟩
    refine hK _ ⟨rv, own1, [], hp, rfl⟩ _ _ ?_
    rw [hd]
    cases dd with
    | none => exact ⟨hs.1, hs.2.1, hs.2.2.1, hfin⟩
    | some d => exact Sat_put (c := c) hn ⟨hs.1, hs.2.1, hs.2.2.1, hfin⟩
end
end Go.Proofs.Ytlofegfaphijpaa
