/- The engine, part 17: rows of constant bytes, maps of one's own. No statement of the seat is proved here; no condition. -/
import Derived.Test.YtbeendakebamhaaEng16
namespace Go.Proofs.Ytbeendakebamhaa
open MapKept (IsKey)
/-- what stands behind two pieces of code -/
theorem Tk_join2 {α : Type} {c : Cx} {k : List Item} {s : St} {i i2 : Item} (st : α → St) (p : α → Prop) (hJ : ∀ x, p x → Tk c k (st x)) (hM : (∀ x, p x → Tk c k (st x)) → Tk c (i :: i2 :: k) s) : Tk c (i :: i2 :: k) s := hM hJ

section
variable {κ ν : Type} [BEq κ] {kk : IntKind} {kf : κ → Int} {V : ν → Value}
variable {c : Cx} {k : List Item} {s : St} {ops : Array Oper} {rest : List Oper} {o : Oper} {fr : List (Nat × Option Value)} {own : List (Option Res)} {shr : List Fact} {d : Nat}
omit [BEq κ] in
end

section
variable {c : Cx} {k : List Item} {s : St} {ops : Array Oper} {rest : List Oper} {o : Oper} {fr : List (Nat × Option Value)} {own : List (Option Res)} {shr : List Fact} {d : Nat}
/-! arrays at known places -/
theorem OpT_idxK1 {t e : TypeId} {x y : Operand} {n : Nat} {kk : IntKind} {j : Int} {v : Value} {cs : List Value} (hn : Nat.blt d c.n = true) (hd : o.dst = some d) (ho : o.op = .index t x y) (hx : ev fr x = some (.agg cs.toArray)) (hy : ev fr y = some (.int kk j)) (ht : ArrF c.P t n e 1) (he : TyF c.P e false 1) (hj : decide (0 ≤ j ∧ j < (n : Int)) = true) (hv : cs[j.toNat]? = some v) :
    OpT c o ⟨fr, own, shr⟩ (fun s => s = ⟨(d, some v) :: fr, own, shr⟩) :=
  OpT_val hn hd fun a w hs => by
    have hj' : 0 ≤ j ∧ j < (n : Int) := by simpa using hj
    have hun := run_underlying ht.und w
    simp only [execOp, ho, ev_eval hs.2.2.1 hx, ev_eval hs.2.2.1 hy, Instr.index, asIntOf, Sem.run_bind, Sem.run_pure, Result.andThen_ok, hun]
    rw [if_pos hj']
    simp [ht.ez, part, he.ag, hv]
theorem OpT_idxKA {t e : TypeId} {x y : Operand} {n sz : Nat} {kk : IntKind} {j : Int} {cs vs : List Value} (hn : Nat.blt d c.n = true) (hd : o.dst = some d) (ho : o.op = .index t x y) (hx : ev fr x = some (.agg cs.toArray)) (hy : ev fr y = some (.int kk j)) (ht : ArrF c.P t n e sz) (he : TyF c.P e true sz) (hj : decide (0 ≤ j ∧ j < (n : Int)) = true) (hv : (cs.drop (j.toNat * sz)).take sz = vs) :
    OpT c o ⟨fr, own, shr⟩ (fun s => s = ⟨(d, some (.agg vs.toArray)) :: fr, own, shr⟩) :=
  OpT_val hn hd fun a w hs => by
    have hj' : 0 ≤ j ∧ j < (n : Int) := by simpa using hj
    have hun := run_underlying ht.und w
    simp only [execOp, ho, ev_eval hs.2.2.1 hx, ev_eval hs.2.2.1 hy, Instr.index, asIntOf, Sem.run_bind, Sem.run_pure, Result.andThen_ok, hun]
    rw [if_pos hj']
    have h4 : cs.toArray.extract (j.toNat * sz) (j.toNat * sz + sz) = vs.toArray := by
      apply Array.ext'
      rw [Array.toList_extract]
      simp only [List.extract]
      rw [show j.toNat * sz + sz - j.toNat * sz = sz by omega, hv]
    simp [ht.ez, part, he.ag, he.sz]
    exact hv
theorem OpT_sliceArrH {t e : TypeId} {x hi : Operand} {b n sz : Nat} {kk : IntKind} {m : Int} (hn : Nat.blt d c.n = true) (hd : o.dst = some d) (ho : o.op = .slice t x none (some hi) none) (hx : ev fr x = some (.pointer (some ⟨b, 0, none⟩))) (hh : ev fr hi = some (.int kk m)) (ht : ArrF c.P t n e sz) (hm : decide (0 ≤ m ∧ m ≤ (n : Int)) = true) (h0 : Nat.blt 0 n = true) :
    OpT c o ⟨fr, own, shr⟩ (fun s => s = ⟨(d, some (.slice (some ⟨b, 0, none⟩) m.toNat n)) :: fr, own, shr⟩) :=
  OpT_val hn hd fun a w hs => by
    have hm' : 0 ≤ m ∧ m ≤ (n : Int) := by simpa using hm
    have h0' : ¬ n = 0 := by have := Nat.blt_eq.mp h0; omega
    have hu := run_underlying ht.und w
    have hez := ht.ez w
    simp [execOp, ho, ev_eval hs.2.2.1 hx, ev_eval hs.2.2.1 hh, Instr.sliceAt, hu, Instr.sureAddr, Instr.sliceBounds, Instr.sliceBound, asIntOf, hm', hez, h0', Addr.add_zero']
theorem OpT_idxSl {t e : TypeId} {x y : Operand} {b off n cap sz bt : Nat} {z : Value} {kk : IntKind} {m : Int} (hn : Nat.blt d c.n = true) (hd : o.dst = some d) (ho : o.op = .indexAddr t x y) (hx : ev fr x = some (.slice (some ⟨b, off, none⟩) n cap)) (hy : ev fr y = some (.int kk m)) (ht : SlF c.P t e sz bt z) (hm : decide (0 ≤ m ∧ m < (n : Int)) = true) :
    OpT c o ⟨fr, own, shr⟩ (fun s => s = ⟨(d, some (.pointer (some ⟨b, off + m.toNat * sz, none⟩))) :: fr, own, shr⟩) :=
  OpT_val hn hd fun a w hs => by
    have hm' : 0 ≤ m ∧ m < (n : Int) := by simpa using hm
    have hun := run_underlying ht.und w
    simp [execOp, ho, ev_eval hs.2.2.1 hx, ev_eval hs.2.2.1 hy, Instr.indexAt, asIntOf, hun, ht.sz, hm', Addr.add_lit]
end
end Go.Proofs.Ytbeendakebamhaa
