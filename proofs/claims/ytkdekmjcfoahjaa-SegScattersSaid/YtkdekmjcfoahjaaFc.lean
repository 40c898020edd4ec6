/- Facts on the program: types, places, callees. No statement of the seat is proved here; no condition. -/
import Derived.Test.YtkdekmjcfoahjaaTy
import Derived.Test.YtkdekmjcfoahjaaProg
namespace Go.Proofs.Ytkdekmjcfoahjaa

theorem tyZ25 : TyZ Try.prog 25 (.int .i64 0) := Try.zeroValue25
theorem tyF25 : TyF Try.prog 25 false 1 := ⟨Try.isAgg25, Try.sizeOf25⟩
theorem tyZ23 : TyZ Try.prog 23 (.int .u64 0) := Try.zeroValue23
theorem tyF23 : TyF Try.prog 23 false 1 := ⟨Try.isAgg23, Try.sizeOf23⟩
theorem slF22 : SlF Try.prog 22 47 3 16 (.agg #[.int .u64 0, .int .u32 0, .bool false]) := ⟨Try.underlying22, ⟨Try.t47, Try.type47, rfl, rfl, rfl⟩, rfl, by decide, by decide⟩
theorem tyF47 : TyF Try.prog 47 true 3 := ⟨Try.isAgg47, Try.sizeOf47⟩
theorem tyZ47 : TyZ Try.prog 47 (.agg #[.int .u64 0, .int .u32 0, .bool false]) := Try.zeroValue47
theorem fldF47x1 : FldF Try.prog 47 1 1 := fun a w => by simp [Instr.fieldAt, Instr.sureAddr, fieldPlace, Try.runUnderlying47, Try.sizeOf45]
theorem tyF45 : TyF Try.prog 45 false 1 := ⟨Try.isAgg45, Try.sizeOf45⟩
theorem callee35 : Callee Try.prog 35 := Try.call35
theorem fldF47x0 : FldF Try.prog 47 0 0 := fun a w => by simp [Instr.fieldAt, Instr.sureAddr, fieldPlace, Try.runUnderlying47, Try.sizeOf23]
theorem fldF47x2 : FldF Try.prog 47 2 2 := fun a w => by simp [Instr.fieldAt, Instr.sureAddr, fieldPlace, Try.runUnderlying47, Try.sizeOf4]
theorem tyF4 : TyF Try.prog 4 false 1 := ⟨Try.isAgg4, Try.sizeOf4⟩
theorem slF39 : SlF Try.prog 39 38 2 16 (.agg #[.int .u64 0, .int .u64 0]) := ⟨Try.underlying39, ⟨Try.t38, Try.type38, rfl, rfl, rfl⟩, rfl, by decide, by decide⟩
theorem tyF38 : TyF Try.prog 38 true 2 := ⟨Try.isAgg38, Try.sizeOf38⟩
theorem tyZ38 : TyZ Try.prog 38 (.agg #[.int .u64 0, .int .u64 0]) := Try.zeroValue38
theorem fldF38x1 : FldF Try.prog 38 1 1 := fun a w => by simp [Instr.fieldAt, Instr.sureAddr, fieldPlace, Try.runUnderlying38, Try.sizeOf23]
theorem fldF38x0 : FldF Try.prog 38 0 0 := fun a w => by simp [Instr.fieldAt, Instr.sureAddr, fieldPlace, Try.runUnderlying38, Try.sizeOf23]
theorem callee39 : Callee Try.prog 39 := Try.call39
theorem callee40 : Callee Try.prog 40 := Try.call40
theorem slF69 : SlF Try.prog 69 33 1 24 (.slice none 0 0) := ⟨Try.underlying69, ⟨Try.t33, Try.type33, rfl, rfl, rfl⟩, rfl, by decide, by decide⟩
theorem fldF71x1 : FldF Try.prog 71 1 1 := fun a w => by simp [Instr.fieldAt, Instr.sureAddr, fieldPlace, Try.runUnderlying71, Try.sizeOf69]
theorem tyF69 : TyF Try.prog 69 false 1 := ⟨Try.isAgg69, Try.sizeOf69⟩
theorem slF33 : SlF Try.prog 33 5 1 1 (.int .u8 0) := ⟨Try.underlying33, ⟨Try.t5, Try.type5, rfl, rfl, rfl⟩, rfl, by decide, by decide⟩
theorem tyF33 : TyF Try.prog 33 false 1 := ⟨Try.isAgg33, Try.sizeOf33⟩
theorem ptrF34 : Try.prog.underlying 34 = some (.pointer (Try.prog.pointee 34)) := by simp [Program.pointee, Try.underlying34]
theorem callee42 : Callee Try.prog 42 := Try.call42
theorem tyF34 : TyF Try.prog 34 false 1 := ⟨Try.isAgg34, Try.sizeOf34⟩
theorem fldF71x0 : FldF Try.prog 71 0 0 := fun a w => by simp [Instr.fieldAt, Instr.sureAddr, fieldPlace, Try.runUnderlying71, Try.sizeOf39]
theorem tyF39 : TyF Try.prog 39 false 1 := ⟨Try.isAgg39, Try.sizeOf39⟩
theorem callee51 : Callee Try.prog 51 := Try.call51
theorem callee50 : Callee Try.prog 50 := Try.call50
theorem callee43 : Callee Try.prog 43 := Try.call43
theorem callee45 : Callee Try.prog 45 := Try.call45
theorem callee21 : Callee Try.prog 21 := Try.call21
theorem callee9 : Callee Try.prog 9 := Try.call9
theorem callee41 : Callee Try.prog 41 := Try.call41
theorem callee15 : Callee Try.prog 15 := Try.call15
theorem callee13 : Callee Try.prog 13 := Try.call13
theorem tyZ66 : TyZ Try.prog 66 (.slice none 0 0) := Try.zeroValue66
theorem tyF66 : TyF Try.prog 66 false 1 := ⟨Try.isAgg66, Try.sizeOf66⟩
theorem slF66 : SlF Try.prog 66 47 3 16 (.agg #[.int .u64 0, .int .u32 0, .bool false]) := ⟨Try.underlying66, ⟨Try.t47, Try.type47, rfl, rfl, rfl⟩, rfl, by decide, by decide⟩
theorem callee37 : Callee Try.prog 37 := Try.call37
theorem callee16 : Callee Try.prog 16 := Try.call16
theorem callee52 : Callee Try.prog 52 := Try.call52
theorem callee44 : Callee Try.prog 44 := Try.call44
theorem callee36 : Callee Try.prog 36 := Try.call36
theorem callee11 : Callee Try.prog 11 := Try.call11
theorem eqIn47 (d : Nat) (w : World) (x y : Seg) : (Op.equalIn (d + 2) 47 (.agg #[vU64 x.At, vU32 x.Len, vB x.Write]) (.agg #[vU64 y.At, vU32 y.Len, vB y.Write])).run Try.prog w = .ok (x == y) w := by
  rw [run_equalIn_agg w (d + 1) 47 _ _ (by rw [Program.fieldsOf, Try.underlying47]) Try.stoodInHeld47]
  simp only [Program.fieldsOf, Try.underlying47]
  refine (eqf_cons (r := x.At == y.At) (by decide) (part_one Try.isAgg23 rfl) (part_one Try.isAgg23 rfl) ((run_equalIn_int w (d + 0) 23 .u64 .u64 _ _ Try.underlying23).trans (congrArg (fun b => Result.ok b w) (eq_u64 _ _)))).trans ?_
  refine eq_step (fun hq => ?_) (fun hq => ?_)
  · rw [eq_ff (x := x) (y := y) (fun e => by rw [e] at hq; simp at hq)]
  refine (eqf_cons (r := x.Len == y.Len) (by decide) (part_one Try.isAgg45 rfl) (part_one Try.isAgg45 rfl) ((run_equalIn_int w (d + 0) 45 .u32 .u32 _ _ Try.underlying45).trans (congrArg (fun b => Result.ok b w) (eq_u32 _ _)))).trans ?_
  refine eq_step (fun hq => ?_) (fun hq => ?_)
  · rw [eq_ff (x := x) (y := y) (fun e => by rw [e] at hq; simp at hq)]
  refine (eqf_cons (r := x.Write == y.Write) (by decide) (part_one Try.isAgg4 rfl) (part_one Try.isAgg4 rfl) (run_equalIn_bool w (d + 0) 4 _ _ Try.underlying4)).trans ?_
  refine eq_step (fun hq => ?_) (fun hq => ?_)
  · rw [eq_ff (x := x) (y := y) (fun e => by rw [e] at hq; simp at hq)]
  rw [eq_tt (x := x) (y := y) (by rcases x; rcases y; simp_all)]
  rfl
theorem eqT47_neq {X Y : Operand} (x y : Seg) : Bin Try.prog .neq 47 X Y (.agg #[vU64 x.At, vU32 x.Len, vB x.Write]) (.agg #[vU64 y.At, vU32 y.Len, vB y.Write]) (.bool (x != y)) := fun w => by
  simp only [Sem.run_bind, run_eqGuard_agg w .neq 47 X Y _ _ Try.eqGuardType47, Result.andThen_ok]
  rw [run_neq_struct, show (10000 : Nat) = 9998 + 2 from rfl, eqIn47]; rfl
theorem callee28 : Callee Try.prog 28 := Try.call28
theorem callee8 : Callee Try.prog 8 := Try.call8
theorem callee14 : Callee Try.prog 14 := Try.call14
theorem tyF5 : TyF Try.prog 5 false 1 := ⟨Try.isAgg5, Try.sizeOf5⟩
theorem callee17 : Callee Try.prog 17 := Try.call17
theorem tyZ4 : TyZ Try.prog 4 (.bool false) := Try.zeroValue4
theorem slF44 : SlF Try.prog 44 23 1 8 (.int .u64 0) := ⟨Try.underlying44, ⟨Try.t23, Try.type23, rfl, rfl, rfl⟩, rfl, by decide, by decide⟩
theorem callee18 : Callee Try.prog 18 := Try.call18
theorem callee19 : Callee Try.prog 19 := Try.call19
theorem callee20 : Callee Try.prog 20 := Try.call20
end Go.Proofs.Ytkdekmjcfoahjaa
