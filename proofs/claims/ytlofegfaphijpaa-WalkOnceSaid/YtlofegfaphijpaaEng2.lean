/- The engine, part 2: one operation at a time; the operations that touch no memory. No statement of the seat is proved here; no condition. -/
import Derived.Test.YtlofegfaphijpaaEng1
import Derived.Test.YtlofegfaphijpaaPure
namespace Go.Proofs.Ytlofegfaphijpaa

/-- In every state that fits, the operation leads to a state of 'Ks'. -/
def OpT (c : Cx) (o : Oper) (s : St) (Ks : St → Prop) : Prop :=
  ∀ a w, Sat c s a w → ∀ (K : Act → World → Prop) (Q : Exit → Act → World → Prop), (∀ s', Ks s' → ∀ a' w', Sat c s' a' w' → K a' w') → o.wp c.P a w K Q

section
variable {c : Cx} {k : List Item} {s : St} {ops : Array Oper} {rest : List Oper} {o : Oper}
theorem Tops_step {s' : St} (hg : o.guard = none) (ho : OpT c o s (fun x => x = s')) (h : Tops c ops k rest s') : Tops c ops k (o :: rest) s := fun a w hs =>
  wpList_plain hg fun _ hK => ho a w hs _ _ fun _ e a' w' hs' => hK a' w' (h a' w' (e ▸ hs'))
theorem Tops_ex {α : Type} {f : α → St} (hg : o.guard = none) (ho : OpT c o s (fun x => ∃ y, x = f y)) (h : ∀ y, Tops c ops k rest (f y)) : Tops c ops k (o :: rest) s := fun a w hs =>
  wpList_plain hg fun _ hK => ho a w hs _ _ fun _ ⟨y, e⟩ a' w' hs' => hK a' w' (h y a' w' (e ▸ hs'))
theorem Tops_exP {Ks : St → Prop} (hg : o.guard = none) (ho : OpT c o s Ks) (h : ∀ s', Ks s' → Tops c ops k rest s') : Tops c ops k (o :: rest) s := fun a w hs =>
  wpList_plain hg fun _ hK => ho a w hs _ _ fun s' e a' w' hs' => hK a' w' (h s' e a' w' hs')
theorem OpT.mono {Ks Ks' : St → Prop} (h : OpT c o s Ks) (hk : ∀ x, Ks x → Ks' x) : OpT c o s Ks' := fun a w hs K Q hK => h a w hs K Q fun s' e => hK s' (hk s' e)

/-! guards -/
theorem wanted_of {j : Nat} {b t : Bool} {d : Nat} {a : Act} {fr : List (Nat × Option Value)} (hf : Fr a fr) (hg : o.guard = some (j, b)) (hd : ((ops[j]?).bind (·.dst)) = some d) (hl : lk fr d = some (.bool t)) :
    Region.wanted o (yielded ops a.tmps) = (t == b) := by
  have h := hf d _ hl
  have : yielded ops a.tmps j = some t := by
    cases ho : ops[j]? with
    | none => rw [ho] at hd; cases hd
    | some oj => rw [ho] at hd; simp at hd; simp [yielded, ho, hd, h]
  simp [Region.wanted, hg, this]
theorem Tops_yes {j : Nat} {b : Bool} {d : Nat} (hg : o.guard = some (j, b)) (hd : ((ops[j]?).bind (·.dst)) = some d) (hl : lk s.fr d = some (.bool b)) {Ks : St → Prop} (ho : OpT c o s Ks) (h : ∀ s', Ks s' → Tops c ops k rest s') : Tops c ops k (o :: rest) s := fun a w hs => by
  have hw := wanted_of (ops := ops) hs.2.2.1 hg hd hl
  refine wpList_step fun K hK => ?_
  rw [if_pos (by simpa using hw)]
  exact ho a w hs _ _ fun s' e a' w' hs' => hK a' w' (h s' e a' w' hs')
theorem Sat_put {fr : List (Nat × Option Value)} {own : List (Option Res)} {shr : List Fact} {d : Nat} {v : Value} {a : Act} {w : World} (hn : Nat.blt d c.n = true) (h : Sat c ⟨fr, own, shr⟩ a w) : Sat c ⟨(d, some v) :: fr, own, shr⟩ (a.put (some d) v) w := by
  obtain ⟨h1, h2, h3, h4⟩ := h
  have hd : d < a.tmps.size := by rw [h1]; exact Nat.blt_eq ▸ hn
  refine ⟨by simpa [Act.put] using h1, by simpa [Act.put] using h2, ?_, h4⟩
  intro t u hl
  simp only [lk] at hl
  by_cases e : t = d
  · subst e; simp at hl; subst hl
    simp [Act.put, Array.getElem?_setIfInBounds, hd]
  · rw [nbeq_ne e] at hl
    have := h3 t u hl
    simp only [Act.put, Array.getElem?_setIfInBounds]
    rw [if_neg (fun q => e q.symm)]; exact this
/-- a guarded operation that is passed over; its place holds nothing that is known -/
theorem Tops_no {j : Nat} {b : Bool} {d : Nat} {e : Nat} {fr : List (Nat × Option Value)} {own : List (Option Res)} {shr : List Fact} (hg : o.guard = some (j, b)) (hd : ((ops[j]?).bind (·.dst)) = some d) (hl : lk fr d = some (.bool (!b)))
    (he : o.dst = some e) (hn : Nat.blt e c.n = true) (h : Tops c ops k rest ⟨(e, some undef) :: fr, own, shr⟩) : Tops c ops k (o :: rest) ⟨fr, own, shr⟩ := fun a w hs => by
  have hw := wanted_of (ops := ops) hs.2.2.1 hg hd hl
  refine wpList_step fun K hK => ?_
  rw [if_neg (by rw [hw]; cases b <;> simp)]
  refine hK _ _ (h _ _ ?_)
  rw [he]; exact Sat_put hn hs

/-! an operation that yields a value and leaves memory as it is -/
theorem OpT_val {fr : List (Nat × Option Value)} {own : List (Option Res)} {shr : List Fact} {d : Nat} {v : Value} (hn : Nat.blt d c.n = true) (hd : o.dst = some d)
    (h : ∀ a w, Sat c ⟨fr, own, shr⟩ a w → (execOp a.eval o).run c.P w = .ok (.value v) w) : OpT c o ⟨fr, own, shr⟩ (fun x => x = ⟨(d, some v) :: fr, own, shr⟩) := by
  intro a w hs K Q hK
  unfold Oper.wp
  rw [h a w hs, Oper.upon_value, hd]
  exact hK _ rfl _ _ (Sat_put hn hs)

variable {fr : List (Nat × Option Value)} {own : List (Option Res)} {shr : List Fact} {d : Nat}
theorem OpT_move {x : Operand} {v : Value} (hn : Nat.blt d c.n = true) (hd : o.dst = some d) (ho : o.op = .move x) (hx : ev fr x = some v) : OpT c o ⟨fr, own, shr⟩ (fun y => y = ⟨(d, some v) :: fr, own, shr⟩) :=
  OpT_val hn hd fun a w hs => by simp [execOp, ho, ev_eval hs.2.2.1 hx]
theorem OpT_assign {x : Operand} {v : Value} (hn : Nat.blt d c.n = true) (hd : o.dst = some d) (ho : o.op = .assign x) (hx : ev fr x = some v) : OpT c o ⟨fr, own, shr⟩ (fun y => y = ⟨(d, some v) :: fr, own, shr⟩) :=
  OpT_val hn hd fun a w hs => by simp [execOp, ho, ev_eval hs.2.2.1 hx]
theorem OpT_pickT {x y z : Operand} {v : Value} (hn : Nat.blt d c.n = true) (hd : o.dst = some d) (ho : o.op = .pick x y z) (hx : ev fr x = some (.bool true)) (hy : ev fr y = some v) : OpT c o ⟨fr, own, shr⟩ (fun y => y = ⟨(d, some v) :: fr, own, shr⟩) :=
  OpT_val hn hd fun a w hs => by simp [execOp, ho, ev_eval hs.2.2.1 hx, ev_eval hs.2.2.1 hy, asBool]
theorem OpT_pickF {x y z : Operand} {v : Value} (hn : Nat.blt d c.n = true) (hd : o.dst = some d) (ho : o.op = .pick x y z) (hx : ev fr x = some (.bool false)) (hz : ev fr z = some v) : OpT c o ⟨fr, own, shr⟩ (fun y => y = ⟨(d, some v) :: fr, own, shr⟩) :=
  OpT_val hn hd fun a w hs => by simp [execOp, ho, ev_eval hs.2.2.1 hx, ev_eval hs.2.2.1 hz, asBool]
theorem OpT_extract {x : Operand} {i : Nat} {vs : Array Value} {v : Value} (hn : Nat.blt d c.n = true) (hd : o.dst = some d) (ho : o.op = .extract x i) (hx : ev fr x = some (.tuple vs)) (hv : vs[i]? = some v) : OpT c o ⟨fr, own, shr⟩ (fun y => y = ⟨(d, some v) :: fr, own, shr⟩) :=
  OpT_val hn hd fun a w hs => by simp [execOp, ho, ev_eval hs.2.2.1 hx, Instr.extract, hv]
theorem OpT_nilCheckP {x : Operand} {p : Addr} (hn : Nat.blt d c.n = true) (hd : o.dst = some d) (ho : o.op = .nilCheck x) (hx : ev fr x = some (.pointer (some p))) : OpT c o ⟨fr, own, shr⟩ (fun y => y = ⟨(d, some (.pointer (some p))) :: fr, own, shr⟩) :=
  OpT_val hn hd fun a w hs => by simp [execOp, ho, ev_eval hs.2.2.1 hx]
theorem OpT_not {x : Operand} {t : TypeId} {b : Bool} (hn : Nat.blt d c.n = true) (hd : o.dst = some d) (ho : o.op = .unOp .not t x) (hx : ev fr x = some (.bool b)) : OpT c o ⟨fr, own, shr⟩ (fun y => y = ⟨(d, some (.bool (!b))) :: fr, own, shr⟩) :=
  OpT_val hn hd fun a w hs => by simp [execOp, ho, ev_eval hs.2.2.1 hx, Op.unary]

/-- what a binary operation comes to, in any world -/
def Bin (P : Program) (op : BinOp) (t : TypeId) (x y : Operand) (vx vy v : Value) : Prop :=
  ∀ w, (do eqGuard op t x y vx vy; binOp op t vx vy : Sem Value).run P w = .ok v w
theorem OpT_bin {op : BinOp} {t t2 : TypeId} {x y : Operand} {vx vy v : Value} (hn : Nat.blt d c.n = true) (hd : o.dst = some d) (ho : o.op = .binOp op t x y t2) (hx : ev fr x = some vx) (hy : ev fr y = some vy) (hb : Bin c.P op t x y vx vy v) :
    OpT c o ⟨fr, own, shr⟩ (fun y => y = ⟨(d, some v) :: fr, own, shr⟩) :=
  OpT_val hn hd fun a w hs => by
    have := hb w
    simp only [execOp, ho, ev_eval hs.2.2.1 hx, ev_eval hs.2.2.1 hy]
    simp only [Sem.run_bind, this]; rfl
/-- what a conversion comes to, in any world -/
def Cnv (P : Program) (s d : TypeId) (v v' : Value) : Prop := ∀ w, (convert s d v).run P w = .ok v' w
theorem OpT_cnv {t t2 : TypeId} {x : Operand} {vx v : Value} (hn : Nat.blt d c.n = true) (hd : o.dst = some d) (ho : o.op = .convert t t2 x) (hx : ev fr x = some vx) (hb : Cnv c.P t t2 vx v) :
    OpT c o ⟨fr, own, shr⟩ (fun y => y = ⟨(d, some v) :: fr, own, shr⟩) :=
  OpT_val hn hd fun a w hs => by
    have := hb w
    simp only [execOp, ho, ev_eval hs.2.2.1 hx]
    simp only [Sem.run_bind, this]; rfl
end

theorem wrap_u16' (n : Int) : IntKind.u16.wrap n = n % 65536 := by simp [IntKind.wrap, IntKind.bits, IntKind.signed]
theorem wrap_u64' (n : Int) : IntKind.u64.wrap n = n % 18446744073709551616 := by simp [IntKind.wrap, IntKind.bits, IntKind.signed]
theorem Bin_int {P : Program} {op : BinOp} {t : TypeId} {x y : Operand} {k : IntKind} {a b : Int} {v : Value} (hs : op ≠ .shl) (hs' : op ≠ .shr) (h : ∀ w, (match op with
    | .add | .sub | .mul => Op.intArith op k a b
    | .quo | .rem => Op.intDiv op k a b
    | .and | .or | .xor | .andNot => Op.intBits op k a b
    | _ => Op.intCmp op a b).run P w = .ok v w) : Bin P op t x y (.int k a) (.int k b) v := by
  intro w
  have hg : (eqGuard op t x y (.int k a) (.int k b)).run P w = .ok () w := by
    unfold eqGuard; cases op <;> simp
  rw [Sem.run_bind, hg]
  simp only [Result.andThen_ok]
  have := h w
  cases op <;> first | exact absurd rfl hs | exact absurd rfl hs' | (simp only [binOp, ne_eq, not_true_eq_false, if_false]; exact this)
section
variable {P : Program} {t : TypeId} {x y : Operand}

theorem bin_and_u16 {a b : UInt16} : Bin P .and t x y (vU16 a) (vU16 b) (vU16 (a &&& b)) :=
  Bin_int (by simp) (by simp) fun w => by
    simp only [Op.intBits, Sem.run_pure, wrap_u16']
    congr 2
    have e : ∀ z : UInt16, BitVec.ofInt (IntKind.bits .u16) (z.toNat : Int) = z.toBitVec := fun z => by
      apply BitVec.eq_of_toNat_eq; have := z.toNat_lt; simp [IntKind.bits, BitVec.toNat_ofInt]
    rw [e, e]
    have := (a &&& b).toNat_lt
    have e2 : (((a &&& b).toNat : Nat) : Int) % 65536 = ((a &&& b).toNat : Int) := by omega
    exact e2
theorem bin_eql_u16 {a b : UInt16} : Bin P .eql t x y (vU16 a) (vU16 b) (.bool (a == b)) :=
  Bin_int (by simp) (by simp) fun w => by
    simp only [Op.intCmp, Sem.run_pure]
    congr 2
    by_cases h : a = b
    · subst h; simp
    · have h' : ¬ (a.toNat : Int) = (b.toNat : Int) := fun q => h (UInt16.toNat_inj.1 (by omega))
      simp [h, h', bne, beq_eq_false_iff_ne.2 h, beq_eq_false_iff_ne.2 h']
theorem bin_neq_u16 {a b : UInt16} : Bin P .neq t x y (vU16 a) (vU16 b) (.bool (a != b)) :=
  Bin_int (by simp) (by simp) fun w => by
    simp only [Op.intCmp, Sem.run_pure]
    congr 2
    by_cases h : a = b
    · subst h; simp
    · have h' : ¬ (a.toNat : Int) = (b.toNat : Int) := fun q => h (UInt16.toNat_inj.1 (by omega))
      simp [h, h', bne, beq_eq_false_iff_ne.2 h, beq_eq_false_iff_ne.2 h']
theorem bin_eql_u32 {a b : UInt32} : Bin P .eql t x y (vU32 a) (vU32 b) (.bool (a == b)) :=
  Bin_int (by simp) (by simp) fun w => by
    simp only [Op.intCmp, Sem.run_pure]
    congr 2
    by_cases h : a = b
    · subst h; simp
    · have h' : ¬ (a.toNat : Int) = (b.toNat : Int) := fun q => h (UInt32.toNat_inj.1 (by omega))
      simp [h, h', bne, beq_eq_false_iff_ne.2 h, beq_eq_false_iff_ne.2 h']
theorem bin_neq_u32 {a b : UInt32} : Bin P .neq t x y (vU32 a) (vU32 b) (.bool (a != b)) :=
  Bin_int (by simp) (by simp) fun w => by
    simp only [Op.intCmp, Sem.run_pure]
    congr 2
    by_cases h : a = b
    · subst h; simp
    · have h' : ¬ (a.toNat : Int) = (b.toNat : Int) := fun q => h (UInt32.toNat_inj.1 (by omega))
      simp [h, h', bne, beq_eq_false_iff_ne.2 h, beq_eq_false_iff_ne.2 h']
theorem bin_lss_u32 {a b : UInt32} : Bin P .lss t x y (vU32 a) (vU32 b) (.bool (decide (a < b))) :=
  Bin_int (by simp) (by simp) fun w => by
    simp only [Op.intCmp, Sem.run_pure]
    congr 2
    simp only [decide_eq_decide, GT.gt, GE.ge, UInt32.lt_iff_toNat_lt]; omega
theorem bin_gtr_u32 {a b : UInt32} : Bin P .gtr t x y (vU32 a) (vU32 b) (.bool (decide (a > b))) :=
  Bin_int (by simp) (by simp) fun w => by
    simp only [Op.intCmp, Sem.run_pure]
    congr 2
    simp only [decide_eq_decide, GT.gt, GE.ge, UInt32.lt_iff_toNat_lt]; omega
theorem bin_quo_u32 {a b : UInt32} (hb : (b == 0) = false) : Bin P .quo t x y (vU32 a) (vU32 b) (vU32 (a / b)) :=
  Bin_int (by simp) (by simp) fun w => by
    have h0 : ¬ (b.toNat : Int) = 0 := fun q => by
      have : b = 0 := UInt32.toNat_inj.1 (by simpa using q)
      simp [this] at hb
    have ha := a.toNat_lt
    have h1 : a.toNat / b.toNat ≤ a.toNat := Nat.div_le_self _ _
    have e : ((a.toNat : Int).tdiv (b.toNat : Int)) % 4294967296 = ((a / b).toNat : Int) := by
      rw [UInt32.toNat_div]
      have e1 : ((a.toNat : Int) / (b.toNat : Int)) = ((a.toNat / b.toNat : Nat) : Int) := (Int.natCast_ediv _ _).symm
      rw [Int.tdiv_eq_ediv_of_nonneg (by omega), e1]; have h5 := Int.natCast_nonneg (a.toNat / b.toNat)
      have h6 : ((a.toNat / b.toNat : Nat) : Int) ≤ (a.toNat : Int) := Int.ofNat_le.2 h1
      exact Int.emod_eq_of_lt h5 (Int.lt_of_le_of_lt h6 (by omega))
    simp only [Op.intDiv, if_neg h0, Sem.run_pure, IntKind.wrap_u32, e]
theorem bin_rem_u32 {a b : UInt32} (hb : (b == 0) = false) : Bin P .rem t x y (vU32 a) (vU32 b) (vU32 (a % b)) :=
  Bin_int (by simp) (by simp) fun w => by
    have h0 : ¬ (b.toNat : Int) = 0 := fun q => by
      have : b = 0 := UInt32.toNat_inj.1 (by simpa using q)
      simp [this] at hb
    have ha := a.toNat_lt
    have h1 : a.toNat / b.toNat ≤ a.toNat := Nat.div_le_self _ _
    have e : (a.toNat : Int).tmod (b.toNat : Int) = ((a % b).toNat : Int) := by
      rw [UInt32.toNat_mod]
      rw [Int.tmod_eq_emod_of_nonneg (by omega), Int.natCast_emod]
    simp only [Op.intDiv, if_neg h0, Sem.run_pure, e]
theorem bin_add_u64 {a b : UInt64} : Bin P .add t x y (vU64 a) (vU64 b) (vU64 (a + b)) :=
  Bin_int (by simp) (by simp) fun w => by
    have ha := a.toNat_lt; have hb := b.toNat_lt
    have e : ((a.toNat : Int) + (b.toNat : Int)) % 18446744073709551616 = ((a + b).toNat : Int) := by
      rw [UInt64.toNat_add]; omega
    simp only [Op.intArith, Sem.run_pure, wrap_u64', e]
theorem bin_sub_u64 {a b : UInt64} : Bin P .sub t x y (vU64 a) (vU64 b) (vU64 (a - b)) :=
  Bin_int (by simp) (by simp) fun w => by
    have ha := a.toNat_lt; have hb := b.toNat_lt
    have e : ((a.toNat : Int) - (b.toNat : Int)) % 18446744073709551616 = ((a - b).toNat : Int) := by
      rw [UInt64.toNat_sub]; omega
    simp only [Op.intArith, Sem.run_pure, wrap_u64', e]
theorem bin_mul_u64 {a b : UInt64} : Bin P .mul t x y (vU64 a) (vU64 b) (vU64 (a * b)) :=
  Bin_int (by simp) (by simp) fun w => by
    have ha := a.toNat_lt; have hb := b.toNat_lt
    have e : ((a.toNat : Int) * (b.toNat : Int)) % 18446744073709551616 = ((a * b).toNat : Int) := by
      rw [UInt64.toNat_mul]; rw [Int.natCast_emod, Int.natCast_mul]; rfl
    simp only [Op.intArith, Sem.run_pure, wrap_u64', e]
theorem bin_and_u64 {a b : UInt64} : Bin P .and t x y (vU64 a) (vU64 b) (vU64 (a &&& b)) :=
  Bin_int (by simp) (by simp) fun w => by
    simp only [Op.intBits, Sem.run_pure, wrap_u64']
    congr 2
    have e : ∀ z : UInt64, BitVec.ofInt (IntKind.bits .u64) (z.toNat : Int) = z.toBitVec := fun z => by
      apply BitVec.eq_of_toNat_eq; have := z.toNat_lt; simp [IntKind.bits, BitVec.toNat_ofInt]
    rw [e, e]
    have := (a &&& b).toNat_lt
    have e2 : (((a &&& b).toNat : Nat) : Int) % 18446744073709551616 = ((a &&& b).toNat : Int) := by omega
    exact e2
theorem bin_or_u64 {a b : UInt64} : Bin P .or t x y (vU64 a) (vU64 b) (vU64 (a ||| b)) :=
  Bin_int (by simp) (by simp) fun w => by
    simp only [Op.intBits, Sem.run_pure, wrap_u64']
    congr 2
    have e : ∀ z : UInt64, BitVec.ofInt (IntKind.bits .u64) (z.toNat : Int) = z.toBitVec := fun z => by
      apply BitVec.eq_of_toNat_eq; have := z.toNat_lt; simp [IntKind.bits, BitVec.toNat_ofInt]
    rw [e, e]
    have := (a ||| b).toNat_lt
    have e2 : (((a ||| b).toNat : Nat) : Int) % 18446744073709551616 = ((a ||| b).toNat : Int) := by omega
    exact e2
theorem bin_eql_u64 {a b : UInt64} : Bin P .eql t x y (vU64 a) (vU64 b) (.bool (a == b)) :=
  Bin_int (by simp) (by simp) fun w => by
    simp only [Op.intCmp, Sem.run_pure]
    congr 2
    by_cases h : a = b
    · subst h; simp
    · have h' : ¬ (a.toNat : Int) = (b.toNat : Int) := fun q => h (UInt64.toNat_inj.1 (by omega))
      simp [h, h', bne, beq_eq_false_iff_ne.2 h, beq_eq_false_iff_ne.2 h']
theorem bin_neq_u64 {a b : UInt64} : Bin P .neq t x y (vU64 a) (vU64 b) (.bool (a != b)) :=
  Bin_int (by simp) (by simp) fun w => by
    simp only [Op.intCmp, Sem.run_pure]
    congr 2
    by_cases h : a = b
    · subst h; simp
    · have h' : ¬ (a.toNat : Int) = (b.toNat : Int) := fun q => h (UInt64.toNat_inj.1 (by omega))
      simp [h, h', bne, beq_eq_false_iff_ne.2 h, beq_eq_false_iff_ne.2 h']
theorem bin_lss_u64 {a b : UInt64} : Bin P .lss t x y (vU64 a) (vU64 b) (.bool (decide (a < b))) :=
  Bin_int (by simp) (by simp) fun w => by
    simp only [Op.intCmp, Sem.run_pure]
    congr 2
    simp only [decide_eq_decide, GT.gt, GE.ge, UInt64.lt_iff_toNat_lt]; omega
theorem bin_leq_u64 {a b : UInt64} : Bin P .leq t x y (vU64 a) (vU64 b) (.bool (decide (a ≤ b))) :=
  Bin_int (by simp) (by simp) fun w => by
    simp only [Op.intCmp, Sem.run_pure]
    congr 2
    simp only [decide_eq_decide, GT.gt, GE.ge, UInt64.le_iff_toNat_le]; omega
theorem bin_gtr_u64 {a b : UInt64} : Bin P .gtr t x y (vU64 a) (vU64 b) (.bool (decide (a > b))) :=
  Bin_int (by simp) (by simp) fun w => by
    simp only [Op.intCmp, Sem.run_pure]
    congr 2
    simp only [decide_eq_decide, GT.gt, GE.ge, UInt64.lt_iff_toNat_lt]; omega
theorem bin_geq_u64 {a b : UInt64} : Bin P .geq t x y (vU64 a) (vU64 b) (.bool (decide (a ≥ b))) :=
  Bin_int (by simp) (by simp) fun w => by
    simp only [Op.intCmp, Sem.run_pure]
    congr 2
    simp only [decide_eq_decide, GT.gt, GE.ge, UInt64.le_iff_toNat_le]; omega
theorem bin_rem_u64 {a b : UInt64} (hb : (b == 0) = false) : Bin P .rem t x y (vU64 a) (vU64 b) (vU64 (a % b)) :=
  Bin_int (by simp) (by simp) fun w => by
    have h0 : ¬ (b.toNat : Int) = 0 := fun q => by
      have : b = 0 := UInt64.toNat_inj.1 (by simpa using q)
      simp [this] at hb
    have ha := a.toNat_lt
    have h1 : a.toNat / b.toNat ≤ a.toNat := Nat.div_le_self _ _
    have e : (a.toNat : Int).tmod (b.toNat : Int) = ((a % b).toNat : Int) := by
      rw [UInt64.toNat_mod]
      rw [Int.tmod_eq_emod_of_nonneg (by omega), Int.natCast_emod]
    simp only [Op.intDiv, if_neg h0, Sem.run_pure, e]
theorem bin_shr_u64_u64 {a : UInt64} {n : UInt64} : Bin P .shr t x y (vU64 a) (vU64 n) (vU64 (shr64 a n.toNat)) := by
  intro w
  have h0 : ¬ ((n.toNat : Int) < 0) := by omega
  simp only [eqGuard, binOp, Op.shift, if_neg h0, Sem.run_pure, Sem.run_bind, Result.andThen_ok]
  have ha := a.toNat_lt
  have h1 := Nat.div_le_self a.toNat (2 ^ (min n.toNat 64))
  have e : ((a.toNat : Int)).fdiv (2 ^ (min n.toNat 64)) = ((shr64 a n.toNat).toNat : Int) := by
    simp only [shr64, UInt64.toNat_ofNat']
    rw [Nat.mod_eq_of_lt (by omega), Int.fdiv_eq_ediv_of_nonneg _ (Int.pow_nonneg (by decide)), Int.natCast_ediv, Int.natCast_pow]; rfl
  simp only [Bool.not_false, if_true, Sem.run_pure, Result.andThen_ok, IntKind.bits, Int.toNat_natCast, e]
theorem bin_shl_u64_i64 {a : UInt64} {n : Int} (hn : decide (0 ≤ n) = true) : Bin P .shl t x y (vU64 a) (vI n) (vU64 (shl64 a n.toNat)) := by
  intro w
  have h0 : ¬ (n < 0) := by simpa using hn
  simp only [eqGuard, binOp, Op.shift, if_neg h0, Sem.run_pure, Sem.run_bind, Result.andThen_ok]
  have e : ((a.toNat : Int) * 2 ^ (min n.toNat 64)) % 18446744073709551616 = ((shl64 a n.toNat).toNat : Int) := by
    simp only [shl64, UInt64.toNat_ofNat']; rw [Int.natCast_emod, Int.natCast_mul, Int.natCast_pow]; rfl
  simp only [Bool.not_false, if_true, Sem.run_pure, Result.andThen_ok, wrap_u64', IntKind.bits, Int.toNat_natCast, e]
theorem bin_add_i {a b : Int} : Bin P .add t x y (vI a) (vI b) (vI (wi (a + b))) := Bin_int (by simp) (by simp) fun w => by simp only [Op.intArith, Sem.run_pure, wi_wrap]
theorem bin_sub_i {a b : Int} : Bin P .sub t x y (vI a) (vI b) (vI (wi (a - b))) := Bin_int (by simp) (by simp) fun w => by simp only [Op.intArith, Sem.run_pure, wi_wrap]
theorem bin_mul_i {a b : Int} : Bin P .mul t x y (vI a) (vI b) (vI (wi (a * b))) := Bin_int (by simp) (by simp) fun w => by simp only [Op.intArith, Sem.run_pure, wi_wrap]
theorem bin_and_i {a b : Int} : Bin P .and t x y (vI a) (vI b) (vI (andi a b)) := Bin_int (by simp) (by simp) fun w => by simp only [Op.intBits, Sem.run_pure, wi_wrap]; rfl
theorem bin_eql_i {a b : Int} : Bin P .eql t x y (vI a) (vI b) (.bool (a == b)) := Bin_int (by simp) (by simp) fun w => by simp only [Op.intCmp, Sem.run_pure]
theorem bin_neq_i {a b : Int} : Bin P .neq t x y (vI a) (vI b) (.bool (a != b)) := Bin_int (by simp) (by simp) fun w => by simp only [Op.intCmp, Sem.run_pure]
theorem bin_lss_i {a b : Int} : Bin P .lss t x y (vI a) (vI b) (.bool (decide (a < b))) := Bin_int (by simp) (by simp) fun w => by simp only [Op.intCmp, Sem.run_pure]
theorem bin_leq_i {a b : Int} : Bin P .leq t x y (vI a) (vI b) (.bool (decide (a ≤ b))) := Bin_int (by simp) (by simp) fun w => by simp only [Op.intCmp, Sem.run_pure]
theorem bin_gtr_i {a b : Int} : Bin P .gtr t x y (vI a) (vI b) (.bool (decide (a > b))) := Bin_int (by simp) (by simp) fun w => by simp only [Op.intCmp, Sem.run_pure]
theorem bin_geq_i {a b : Int} : Bin P .geq t x y (vI a) (vI b) (.bool (decide (a ≥ b))) := Bin_int (by simp) (by simp) fun w => by simp only [Op.intCmp, Sem.run_pure]
theorem bin_rem_i {a b : Int} (hb : (b == 0) = false) : Bin P .rem t x y (vI a) (vI b) (vI (remi a b)) := Bin_int (by simp) (by simp) fun w => by
  have h0 : ¬ b = 0 := by simpa using hb
  simp only [Op.intDiv, if_neg h0, Sem.run_pure, remi]
theorem bin_shl_i_u64 {a : Int} {n : UInt64} : Bin P .shl t x y (vI a) (vU64 n) (vI (shli a n.toNat)) := by
  intro w
  have h0 : ¬ ((n.toNat : Int) < 0) := by omega
  simp only [eqGuard, binOp, Op.shift, if_neg h0, Sem.run_pure, Sem.run_bind, Result.andThen_ok]
  simp only [Bool.not_false, if_true, Sem.run_pure, Result.andThen_ok, IntKind.bits, shli, wi_wrap, Int.toNat_natCast]
  congr 2
theorem bin_neq_b (ht : P.underlying t = some .bool) {a b : Bool} : Bin P .neq t x y (vB a) (vB b) (.bool (a != b)) := by
  intro w
  have hm : Op.maxDepth = 9999 + 1 := rfl
  simp only [eqGuard, binOp, Op.equal, hm, Sem.run_bind]
  rw [Op.equalIn]
  simp [run_underlying ht, bne]

theorem Cnv_int {s d : TypeId} {ds : TypeDesc} {k k' : IntKind} {n : Int} (hs : P.underlying s = some ds) (hd : P.underlying d = some (.int k')) : Cnv P s d (.int k n) (.int k' (k'.wrap n)) := by
  intro w; simp [convert, run_underlying hs, run_underlying hd, Conv.intToInt]
theorem cnv_u8_u64 {s d : TypeId} {ds : TypeDesc} {n : UInt8} (hs : P.underlying s = some ds) (hd : P.underlying d = some (.int .u64)) : Cnv P s d (vU8 n) (vU64 n.toUInt64) := by have h := Cnv_int (k := .u8) (n := (n.toNat : Int)) hs hd; have hn := n.toNat_lt; rw [wrap_u64', Int.emod_eq_of_lt (by omega) (by omega)] at h; show Cnv P s d _ (.int .u64 (n.toUInt64.toNat : Int)); rw [UInt8.toNat_toUInt64]; exact h
theorem cnv_u16_u64 {s d : TypeId} {ds : TypeDesc} {n : UInt16} (hs : P.underlying s = some ds) (hd : P.underlying d = some (.int .u64)) : Cnv P s d (vU16 n) (vU64 n.toUInt64) := by have h := Cnv_int (k := .u16) (n := (n.toNat : Int)) hs hd; have hn := n.toNat_lt; rw [wrap_u64', Int.emod_eq_of_lt (by omega) (by omega)] at h; show Cnv P s d _ (.int .u64 (n.toUInt64.toNat : Int)); rw [UInt16.toNat_toUInt64]; exact h
theorem cnv_u16_i {s d : TypeId} {ds : TypeDesc} {n : UInt16} (hs : P.underlying s = some ds) (hd : P.underlying d = some (.int .i64)) : Cnv P s d (vU16 n) (vI (i16 n)) := by have h := Cnv_int (k := .u16) (n := (n.toNat : Int)) hs hd; have hn := n.toNat_lt; rw [wi_wrap, wi_in (by omega) (by omega)] at h; exact h
theorem cnv_u32_u64 {s d : TypeId} {ds : TypeDesc} {n : UInt32} (hs : P.underlying s = some ds) (hd : P.underlying d = some (.int .u64)) : Cnv P s d (vU32 n) (vU64 n.toUInt64) := by have h := Cnv_int (k := .u32) (n := (n.toNat : Int)) hs hd; have hn := n.toNat_lt; rw [wrap_u64', Int.emod_eq_of_lt (by omega) (by omega)] at h; show Cnv P s d _ (.int .u64 (n.toUInt64.toNat : Int)); rw [UInt32.toNat_toUInt64]; exact h
theorem cnv_u32_i {s d : TypeId} {ds : TypeDesc} {n : UInt32} (hs : P.underlying s = some ds) (hd : P.underlying d = some (.int .i64)) : Cnv P s d (vU32 n) (vI (i32 n)) := by have h := Cnv_int (k := .u32) (n := (n.toNat : Int)) hs hd; have hn := n.toNat_lt; rw [wi_wrap, wi_in (by omega) (by omega)] at h; exact h
theorem cnv_u64_u8 {s d : TypeId} {ds : TypeDesc} {n : UInt64} (hs : P.underlying s = some ds) (hd : P.underlying d = some (.int .u8)) : Cnv P s d (vU64 n) (vU8 n.toUInt8) := by have h := Cnv_int (k := .u64) (n := (n.toNat : Int)) hs hd; have e : (n.toNat : Int) % 256 = (n.toUInt8.toNat : Int) := (by rw [UInt64.toNat_toUInt8, Int.natCast_emod]; try rfl); rw [IntKind.wrap_u8, e] at h; exact h
theorem cnv_u64_u16 {s d : TypeId} {ds : TypeDesc} {n : UInt64} (hs : P.underlying s = some ds) (hd : P.underlying d = some (.int .u16)) : Cnv P s d (vU64 n) (vU16 n.toUInt16) := by have h := Cnv_int (k := .u64) (n := (n.toNat : Int)) hs hd; have e : (n.toNat : Int) % 65536 = (n.toUInt16.toNat : Int) := (by rw [UInt64.toNat_toUInt16, Int.natCast_emod]; try rfl); rw [wrap_u16', e] at h; exact h
theorem cnv_u64_u32 {s d : TypeId} {ds : TypeDesc} {n : UInt64} (hs : P.underlying s = some ds) (hd : P.underlying d = some (.int .u32)) : Cnv P s d (vU64 n) (vU32 n.toUInt32) := by have h := Cnv_int (k := .u64) (n := (n.toNat : Int)) hs hd; have e : (n.toNat : Int) % 4294967296 = (n.toUInt32.toNat : Int) := (by rw [UInt64.toNat_toUInt32, Int.natCast_emod]; try rfl); rw [IntKind.wrap_u32, e] at h; exact h
theorem cnv_u64_i {s d : TypeId} {ds : TypeDesc} {n : UInt64} (hs : P.underlying s = some ds) (hd : P.underlying d = some (.int .i64)) : Cnv P s d (vU64 n) (vI (i64 n)) := by have h := Cnv_int (k := .u64) (n := (n.toNat : Int)) hs hd; rw [wi_wrap] at h; exact h
theorem cnv_i_u16 {s d : TypeId} {ds : TypeDesc} {n : Int} (hs : P.underlying s = some ds) (hd : P.underlying d = some (.int .u16)) : Cnv P s d (vI n) (vU16 (u16 n)) := by have h := Cnv_int (k := .i64) (n := n) hs hd; rw [wrap_u16', ← u16_nat] at h; exact h
theorem cnv_i_u64 {s d : TypeId} {ds : TypeDesc} {n : Int} (hs : P.underlying s = some ds) (hd : P.underlying d = some (.int .u64)) : Cnv P s d (vI n) (vU64 (u64 n)) := by have h := Cnv_int (k := .i64) (n := n) hs hd; rw [wrap_u64', ← u64_nat] at h; exact h
end
end Go.Proofs.Ytlofegfaphijpaa
