/- Facts on the program: types, places, callees. No statement of the seat is proved here; no condition. -/
import Derived.Test.YtbeendakebamhaaTy
import Derived.Test.YtbeendakebamhaaProg
namespace Go.Proofs.Ytbeendakebamhaa

theorem tyZ27 : TyZ Try.prog 27 (.agg #[.bool false, .int .i64 0, .int .u64 0, .int .u64 0, .int .u64 0]) := Try.zeroValue27
theorem tyF27 : TyF Try.prog 27 true 5 := ⟨Try.isAgg27, Try.sizeOf27⟩
theorem fldF27x0 : FldF Try.prog 27 0 0 := fun a w => by simp [Instr.fieldAt, Instr.sureAddr, fieldPlace, Try.runUnderlying27, Try.sizeOf4]
theorem tyF4 : TyF Try.prog 4 false 1 := ⟨Try.isAgg4, Try.sizeOf4⟩
theorem fldF27x1 : FldF Try.prog 27 1 1 := fun a w => by simp [Instr.fieldAt, Instr.sureAddr, fieldPlace, Try.runUnderlying27, Try.sizeOf3]
theorem tyF3 : TyF Try.prog 3 false 1 := ⟨Try.isAgg3, Try.sizeOf3⟩
theorem callee48 : Callee Try.prog 48 := Try.call48
theorem callee42 : Callee Try.prog 42 := Try.call42
theorem callee27 : Callee Try.prog 27 := Try.call27
theorem tyZ56 : TyZ Try.prog 56 (.agg #[.int .u64 0, .int .u64 0, .int .u64 0]) := Try.zeroValue56
theorem tyF56 : TyF Try.prog 56 true 3 := ⟨Try.isAgg56, Try.sizeOf56⟩
theorem callee28 : Callee Try.prog 28 := Try.call28
theorem tyZ59 : TyZ Try.prog 59 (.agg #[.int .u64 0, .int .u64 0, .int .u64 0, .int .u64 0, .int .u64 0, .int .u64 0]) := Try.zeroValue59
theorem callee11 : Callee Try.prog 11 := Try.call11
theorem fldF27x2 : FldF Try.prog 27 2 2 := fun a w => by simp [Instr.fieldAt, Instr.sureAddr, fieldPlace, Try.runUnderlying27, Try.sizeOf22]
theorem tyF22 : TyF Try.prog 22 false 1 := ⟨Try.isAgg22, Try.sizeOf22⟩
theorem fldF27x3 : FldF Try.prog 27 3 3 := fun a w => by simp [Instr.fieldAt, Instr.sureAddr, fieldPlace, Try.runUnderlying27, Try.sizeOf22]
theorem fldF27x4 : FldF Try.prog 27 4 4 := fun a w => by simp [Instr.fieldAt, Instr.sureAddr, fieldPlace, Try.runUnderlying27, Try.sizeOf22]
theorem tyF59 : TyF Try.prog 59 true 6 := ⟨Try.isAgg59, Try.sizeOf59⟩
theorem callee29 : Callee Try.prog 29 := Try.call29
theorem arrF59 : ArrF Try.prog 59 3 58 2 := ⟨Try.underlying59, Try.sizeOf58⟩
theorem tyF58 : TyF Try.prog 58 true 2 := ⟨Try.isAgg58, Try.sizeOf58⟩
theorem tyZ58 : TyZ Try.prog 58 (.agg #[.int .u64 0, .int .u64 0]) := Try.zeroValue58
theorem arrF56 : ArrF Try.prog 56 3 22 1 := ⟨Try.underlying56, Try.sizeOf22⟩
theorem callee30 : Callee Try.prog 30 := Try.call30
theorem arrF58 : ArrF Try.prog 58 2 22 1 := ⟨Try.underlying58, Try.sizeOf22⟩
theorem callee31 : Callee Try.prog 31 := Try.call31
theorem arrF65 : ArrF Try.prog 65 3 64 1 := ⟨Try.underlying65, Try.sizeOf64⟩
theorem tyF64 : TyF Try.prog 64 false 1 := ⟨Try.isAgg64, Try.sizeOf64⟩
theorem callee10 : Callee Try.prog 10 := Try.call10
theorem slF67 : SlF Try.prog 67 58 2 16 (.agg #[.int .u64 0, .int .u64 0]) := ⟨Try.underlying67, ⟨Try.t58, Try.type58, rfl, rfl, rfl⟩, rfl, by decide, by decide⟩
theorem callee32 : Callee Try.prog 32 := Try.call32
theorem callee13 : Callee Try.prog 13 := Try.call13
theorem eqIn66 (d : Nat) (w : World) (x y : A2 Int) : (Op.equalIn (d + 2) 66 (.agg #[vI x.a0, vI x.a1]) (.agg #[vI y.a0, vI y.a1])).run Try.prog w = .ok (x == y) w := by
  rw [run_equalIn_array w (d + 1) _ _ Try.underlying66 Try.type3]
  rw [show Try.prog.cellsOf 3 = 1 from by kernel_rfl]
  refine (eqi_cons (r := x.a0 == y.a0) (part_one Try.isAgg3 rfl) (part_one Try.isAgg3 rfl) (run_equalIn_int w (d + 0) 3 .i64 .i64 _ _ Try.underlying3)).trans ?_
  refine eq_step (fun hq => ?_) (fun hq => ?_)
  · rw [eq_ff (x := x) (y := y) (fun e => by rw [e] at hq; simp at hq)]
  refine (eqi_cons (r := x.a1 == y.a1) (part_one Try.isAgg3 rfl) (part_one Try.isAgg3 rfl) (run_equalIn_int w (d + 0) 3 .i64 .i64 _ _ Try.underlying3)).trans ?_
  refine eq_step (fun hq => ?_) (fun hq => ?_)
  · rw [eq_ff (x := x) (y := y) (fun e => by rw [e] at hq; simp at hq)]
  rw [eq_tt (x := x) (y := y) (by rcases x; rcases y; simp_all)]
  rfl
theorem eqT66_eql {X Y : Operand} (x y : A2 Int) : Bin Try.prog .eql 66 X Y (.agg #[vI x.a0, vI x.a1]) (.agg #[vI y.a0, vI y.a1]) (.bool (x == y)) := fun w => by
  simp only [Sem.run_bind, run_eqGuard_agg w .eql 66 X Y _ _ Try.eqGuardType66, Result.andThen_ok]
  rw [run_eql_struct, show (10000 : Nat) = 9998 + 2 from rfl, eqIn66]; rfl
theorem callee12 : Callee Try.prog 12 := Try.call12
theorem eqIn27 (d : Nat) (w : World) (x y : Rings) : (Op.equalIn (d + 2) 27 (.agg #[vB x.Packed, vI x.Size, vU64 x.Desc, vU64 x.Driver, vU64 x.Device]) (.agg #[vB y.Packed, vI y.Size, vU64 y.Desc, vU64 y.Driver, vU64 y.Device])).run Try.prog w = .ok (x == y) w := by
  rw [run_equalIn_agg w (d + 1) 27 _ _ (by rw [Program.fieldsOf, Try.underlying27]) Try.stoodInHeld27]
  simp only [Program.fieldsOf, Try.underlying27]
  refine (eqf_cons (r := x.Packed == y.Packed) (by decide) (part_one Try.isAgg4 rfl) (part_one Try.isAgg4 rfl) (run_equalIn_bool w (d + 0) 4 _ _ Try.underlying4)).trans ?_
  refine eq_step (fun hq => ?_) (fun hq => ?_)
  · rw [eq_ff (x := x) (y := y) (fun e => by rw [e] at hq; simp at hq)]
  refine (eqf_cons (r := x.Size == y.Size) (by decide) (part_one Try.isAgg3 rfl) (part_one Try.isAgg3 rfl) (run_equalIn_int w (d + 0) 3 .i64 .i64 _ _ Try.underlying3)).trans ?_
  refine eq_step (fun hq => ?_) (fun hq => ?_)
  · rw [eq_ff (x := x) (y := y) (fun e => by rw [e] at hq; simp at hq)]
  refine (eqf_cons (r := x.Desc == y.Desc) (by decide) (part_one Try.isAgg22 rfl) (part_one Try.isAgg22 rfl) ((run_equalIn_int w (d + 0) 22 .u64 .u64 _ _ Try.underlying22).trans (congrArg (fun b => Result.ok b w) (eq_u64 _ _)))).trans ?_
  refine eq_step (fun hq => ?_) (fun hq => ?_)
  · rw [eq_ff (x := x) (y := y) (fun e => by rw [e] at hq; simp at hq)]
  refine (eqf_cons (r := x.Driver == y.Driver) (by decide) (part_one Try.isAgg22 rfl) (part_one Try.isAgg22 rfl) ((run_equalIn_int w (d + 0) 22 .u64 .u64 _ _ Try.underlying22).trans (congrArg (fun b => Result.ok b w) (eq_u64 _ _)))).trans ?_
  refine eq_step (fun hq => ?_) (fun hq => ?_)
  · rw [eq_ff (x := x) (y := y) (fun e => by rw [e] at hq; simp at hq)]
  refine (eqf_cons (r := x.Device == y.Device) (by decide) (part_one Try.isAgg22 rfl) (part_one Try.isAgg22 rfl) ((run_equalIn_int w (d + 0) 22 .u64 .u64 _ _ Try.underlying22).trans (congrArg (fun b => Result.ok b w) (eq_u64 _ _)))).trans ?_
  refine eq_step (fun hq => ?_) (fun hq => ?_)
  · rw [eq_ff (x := x) (y := y) (fun e => by rw [e] at hq; simp at hq)]
  rw [eq_tt (x := x) (y := y) (by rcases x; rcases y; simp_all)]
  rfl
theorem eqT27_eql {X Y : Operand} (x y : Rings) : Bin Try.prog .eql 27 X Y (.agg #[vB x.Packed, vI x.Size, vU64 x.Desc, vU64 x.Driver, vU64 x.Device]) (.agg #[vB y.Packed, vI y.Size, vU64 y.Desc, vU64 y.Driver, vU64 y.Device]) (.bool (x == y)) := fun w => by
  simp only [Sem.run_bind, run_eqGuard_agg w .eql 27 X Y _ _ Try.eqGuardType27, Result.andThen_ok]
  rw [run_eql_struct, show (10000 : Nat) = 9998 + 2 from rfl, eqIn27]; rfl
theorem callee8 : Callee Try.prog 8 := Try.call8
theorem callee9 : Callee Try.prog 9 := Try.call9
theorem callee15 : Callee Try.prog 15 := Try.call15
theorem callee14 : Callee Try.prog 14 := Try.call14
end Go.Proofs.Ytbeendakebamhaa
