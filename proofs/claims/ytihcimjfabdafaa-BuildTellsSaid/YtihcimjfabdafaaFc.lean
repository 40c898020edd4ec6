/- Facts on the program: types, places, callees. No statement of the seat is proved here; no condition. -/
import Derived.Test.YtihcimjfabdafaaTy
import Derived.Test.YtihcimjfabdafaaProg
set_option maxRecDepth 100000
namespace Go.Proofs.Ytihcimjfabdafaa

theorem slF26 : SlF Try.prog 26 3 1 8 (.int .i64 0) := ⟨Try.underlying26, ⟨Try.t3, Try.type3, rfl, rfl, rfl⟩, rfl, by decide, by decide⟩
theorem slF27 : SlF Try.prog 27 59 3 16 (.agg #[.int .u64 0, .int .u32 0, .bool false]) := ⟨Try.underlying27, ⟨Try.t59, Try.type59, rfl, rfl, rfl⟩, rfl, by decide, by decide⟩
theorem callee8 : Callee Try.prog 8 := Try.call8
theorem tyF27 : TyF Try.prog 27 false 1 := ⟨Try.isAgg27, Try.sizeOf27⟩
theorem tyZ23 : TyZ Try.prog 23 (.int .i64 0) := Try.zeroValue23
theorem tyF23 : TyF Try.prog 23 false 1 := ⟨Try.isAgg23, Try.sizeOf23⟩
theorem tyZ34 : TyZ Try.prog 34 (.int .u64 0) := Try.zeroValue34
theorem tyF34 : TyF Try.prog 34 false 1 := ⟨Try.isAgg34, Try.sizeOf34⟩
theorem tyF59 : TyF Try.prog 59 true 3 := ⟨Try.isAgg59, Try.sizeOf59⟩
theorem tyZ59 : TyZ Try.prog 59 (.agg #[.int .u64 0, .int .u32 0, .bool false]) := Try.zeroValue59
theorem fldF59x1 : FldF Try.prog 59 1 1 := fun a w => by simp [Instr.fieldAt, Instr.sureAddr, fieldPlace, Try.runUnderlying59, Try.sizeOf35]
theorem tyF35 : TyF Try.prog 35 false 1 := ⟨Try.isAgg35, Try.sizeOf35⟩
theorem callee60 : Callee Try.prog 60 := Try.call60
theorem fldF59x0 : FldF Try.prog 59 0 0 := fun a w => by simp [Instr.fieldAt, Instr.sureAddr, fieldPlace, Try.runUnderlying59, Try.sizeOf34]
theorem fldF59x2 : FldF Try.prog 59 2 2 := fun a w => by simp [Instr.fieldAt, Instr.sureAddr, fieldPlace, Try.runUnderlying59, Try.sizeOf4]
theorem tyF4 : TyF Try.prog 4 false 1 := ⟨Try.isAgg4, Try.sizeOf4⟩
theorem callee46 : Callee Try.prog 46 := Try.call46
noncomputable def fnS71 : Shape (Option Int) := Shape.fn Try.prog vI
theorem callee57 : Callee Try.prog 57 := Try.call57
theorem callee33 : Callee Try.prog 33 := Try.call33
theorem callee56 : Callee Try.prog 56 := Try.call56
theorem tyF3 : TyF Try.prog 3 false 1 := ⟨Try.isAgg3, Try.sizeOf3⟩
theorem callee41 : Callee Try.prog 41 := Try.call41
theorem tyZ4 : TyZ Try.prog 4 (.bool false) := Try.zeroValue4
theorem slF98 : SlF Try.prog 98 71 1 8 (.nilFunc) := ⟨Try.underlying98, ⟨Try.t71, Try.type71, rfl, rfl, rfl⟩, rfl, by decide, by decide⟩
theorem tyF71 : TyF Try.prog 71 false 1 := ⟨Try.isAgg71, Try.sizeOf71⟩
theorem slF75 : SlF Try.prog 75 78 5 24 (.agg #[.int .u64 0, .int .u32 0, .int .u16 0, .int .u16 0, .int .i64 0]) := ⟨Try.underlying75, ⟨Try.t78, Try.type78, rfl, rfl, rfl⟩, rfl, by decide, by decide⟩
theorem mkif78 : MkIf Try.prog 78 := fun v w => by kernel_rfl
theorem fldF78x0 : FldF Try.prog 78 0 0 := fun a w => by simp [Instr.fieldAt, Instr.sureAddr, fieldPlace, Try.runUnderlying78, Try.sizeOf38]
theorem tyF38 : TyF Try.prog 38 true 4 := ⟨Try.isAgg38, Try.sizeOf38⟩
theorem fldF38x2 : FldF Try.prog 38 2 2 := fun a w => by simp [Instr.fieldAt, Instr.sureAddr, fieldPlace, Try.runUnderlying38, Try.sizeOf36]
theorem tyF36 : TyF Try.prog 36 false 1 := ⟨Try.isAgg36, Try.sizeOf36⟩
theorem fldF78x1 : FldF Try.prog 78 1 4 := fun a w => by simp [Instr.fieldAt, Instr.sureAddr, fieldPlace, Try.runUnderlying78, Try.sizeOf3]
theorem fldF38x3 : FldF Try.prog 38 3 3 := fun a w => by simp [Instr.fieldAt, Instr.sureAddr, fieldPlace, Try.runUnderlying38, Try.sizeOf36]
theorem tyF78 : TyF Try.prog 78 true 5 := ⟨Try.isAgg78, Try.sizeOf78⟩
theorem callee80 : Callee Try.prog 80 := Try.call80
theorem meth78x80 : Meth Try.prog 78 "dumbwaiter/build.made" 80 := fun v w => by kernel_rfl
theorem asrt101x78 : Asrt Try.prog 78 101 78 := fun v w => by kernel_rfl
theorem callee32 : Callee Try.prog 32 := Try.call32
theorem tyF26 : TyF Try.prog 26 false 1 := ⟨Try.isAgg26, Try.sizeOf26⟩
theorem callee31 : Callee Try.prog 31 := Try.call31
theorem tyZ78 : TyZ Try.prog 78 (.agg #[.int .u64 0, .int .u32 0, .int .u16 0, .int .u16 0, .int .i64 0]) := Try.zeroValue78
theorem callee36 : Callee Try.prog 36 := Try.call36
theorem callee35 : Callee Try.prog 35 := Try.call35
theorem slF22 : SlF Try.prog 22 40 5 24 (.agg #[.int .i64 0, .int .u64 0, .int .u32 0, .int .u16 0, .int .u16 0]) := ⟨Try.underlying22, ⟨Try.t40, Try.type40, rfl, rfl, rfl⟩, rfl, by decide, by decide⟩
theorem callee34 : Callee Try.prog 34 := Try.call34
theorem callee7 : Callee Try.prog 7 := Try.call7
theorem slF84 : SlF Try.prog 84 87 6 32 (.agg #[.int .u64 0, .int .u32 0, .int .u16 0, .int .u16 0, .int .i64 0, .bool false]) := ⟨Try.underlying84, ⟨Try.t87, Try.type87, rfl, rfl, rfl⟩, rfl, by decide, by decide⟩
theorem mkif87 : MkIf Try.prog 87 := fun v w => by kernel_rfl
theorem fldF87x1 : FldF Try.prog 87 1 4 := fun a w => by simp [Instr.fieldAt, Instr.sureAddr, fieldPlace, Try.runUnderlying87, Try.sizeOf3]
theorem fldF87x0 : FldF Try.prog 87 0 0 := fun a w => by simp [Instr.fieldAt, Instr.sureAddr, fieldPlace, Try.runUnderlying87, Try.sizeOf44]
theorem tyF44 : TyF Try.prog 44 true 4 := ⟨Try.isAgg44, Try.sizeOf44⟩
theorem fldF44x3 : FldF Try.prog 44 3 3 := fun a w => by simp [Instr.fieldAt, Instr.sureAddr, fieldPlace, Try.runUnderlying44, Try.sizeOf36]
theorem fldF87x2 : FldF Try.prog 87 2 5 := fun a w => by simp [Instr.fieldAt, Instr.sureAddr, fieldPlace, Try.runUnderlying87, Try.sizeOf4]
theorem callee43 : Callee Try.prog 43 := Try.call43
theorem tyF87 : TyF Try.prog 87 true 6 := ⟨Try.isAgg87, Try.sizeOf87⟩
theorem callee81 : Callee Try.prog 81 := Try.call81
theorem meth87x81 : Meth Try.prog 87 "dumbwaiter/build.made" 81 := fun v w => by kernel_rfl
theorem asrt101x87 : Asrt Try.prog 87 101 87 := fun v w => by kernel_rfl
theorem tyF33 : TyF Try.prog 33 true 2 := ⟨Try.isAgg33, Try.sizeOf33⟩
theorem callee58 : Callee Try.prog 58 := Try.call58
theorem fldF33x0 : FldF Try.prog 33 0 0 := fun a w => by simp [Instr.fieldAt, Instr.sureAddr, fieldPlace, Try.runUnderlying33, Try.sizeOf3]
theorem callee37 : Callee Try.prog 37 := Try.call37
theorem tyZ81 : TyZ Try.prog 81 (.slice none 0 0) := Try.zeroValue81
theorem tyF81 : TyF Try.prog 81 false 1 := ⟨Try.isAgg81, Try.sizeOf81⟩
theorem slF81 : SlF Try.prog 81 33 2 16 (.agg #[.int .i64 0, .bool false]) := ⟨Try.underlying81, ⟨Try.t33, Try.type33, rfl, rfl, rfl⟩, rfl, by decide, by decide⟩
theorem tyZ33 : TyZ Try.prog 33 (.agg #[.int .i64 0, .bool false]) := Try.zeroValue33
theorem fldF33x1 : FldF Try.prog 33 1 1 := fun a w => by simp [Instr.fieldAt, Instr.sureAddr, fieldPlace, Try.runUnderlying33, Try.sizeOf4]
theorem callee38 : Callee Try.prog 38 := Try.call38
theorem tyZ87 : TyZ Try.prog 87 (.agg #[.int .u64 0, .int .u32 0, .int .u16 0, .int .u16 0, .int .i64 0, .bool false]) := Try.zeroValue87
theorem callee40 : Callee Try.prog 40 := Try.call40
theorem callee39 : Callee Try.prog 39 := Try.call39
theorem slF29 : SlF Try.prog 29 46 5 24 (.agg #[.int .i64 0, .int .u64 0, .int .u32 0, .int .u16 0, .int .u16 0]) := ⟨Try.underlying29, ⟨Try.t46, Try.type46, rfl, rfl, rfl⟩, rfl, by decide, by decide⟩
theorem callee9 : Callee Try.prog 9 := Try.call9
theorem tyF40 : TyF Try.prog 40 true 5 := ⟨Try.isAgg40, Try.sizeOf40⟩
theorem tyF46 : TyF Try.prog 46 true 5 := ⟨Try.isAgg46, Try.sizeOf46⟩
theorem slF55 : SlF Try.prog 55 38 4 16 (.agg #[.int .u64 0, .int .u32 0, .int .u16 0, .int .u16 0]) := ⟨Try.underlying55, ⟨Try.t38, Try.type38, rfl, rfl, rfl⟩, rfl, by decide, by decide⟩
theorem tyZ38 : TyZ Try.prog 38 (.agg #[.int .u64 0, .int .u32 0, .int .u16 0, .int .u16 0]) := Try.zeroValue38
theorem tyZ104 : TyZ Try.prog 104 (.agg #[.int .u8 0, .int .u8 0, .int .u8 0, .int .u8 0, .int .u8 0, .int .u8 0, .int .u8 0, .int .u8 0, .int .u8 0, .int .u8 0, .int .u8 0, .int .u8 0, .int .u8 0, .int .u8 0, .int .u8 0, .int .u8 0]) := Try.zeroValue104
theorem fldF38x0 : FldF Try.prog 38 0 0 := fun a w => by simp [Instr.fieldAt, Instr.sureAddr, fieldPlace, Try.runUnderlying38, Try.sizeOf34]
theorem arrF104 : ArrF Try.prog 104 16 5 1 := ⟨Try.underlying104, Try.sizeOf5⟩
theorem tyF5 : TyF Try.prog 5 false 1 := ⟨Try.isAgg5, Try.sizeOf5⟩
theorem callee61 : Callee Try.prog 61 := Try.call61
theorem fldF38x1 : FldF Try.prog 38 1 1 := fun a w => by simp [Instr.fieldAt, Instr.sureAddr, fieldPlace, Try.runUnderlying38, Try.sizeOf35]
theorem callee59 : Callee Try.prog 59 := Try.call59
theorem slF49 : SlF Try.prog 49 5 1 1 (.int .u8 0) := ⟨Try.underlying49, ⟨Try.t5, Try.type5, rfl, rfl, rfl⟩, rfl, by decide, by decide⟩
theorem callee44 : Callee Try.prog 44 := Try.call44
theorem callee45 : Callee Try.prog 45 := Try.call45
theorem callee12 : Callee Try.prog 12 := Try.call12
theorem eqIn38 (d : Nat) (w : World) (x y : Desc) : (Op.equalIn (d + 2) 38 (.agg #[vU64 x.Addr, vU32 x.Len, vU16 x.Flags, vU16 x.Next]) (.agg #[vU64 y.Addr, vU32 y.Len, vU16 y.Flags, vU16 y.Next])).run Try.prog w = .ok (x == y) w := by
  rw [run_equalIn_agg w (d + 1) 38 _ _ (by rw [Program.fieldsOf, Try.underlying38]) Try.stoodInHeld38]
  simp only [Program.fieldsOf, Try.underlying38]
  refine (eqf_cons (r := x.Addr == y.Addr) (by decide) (part_one Try.isAgg34 rfl) (part_one Try.isAgg34 rfl) ((run_equalIn_int w (d + 0) 34 .u64 .u64 _ _ Try.underlying34).trans (congrArg (fun b => Result.ok b w) (eq_u64 _ _)))).trans ?_
  refine eq_step (fun hq => ?_) (fun hq => ?_)
  · rw [eq_ff (x := x) (y := y) (fun e => by rw [e] at hq; simp at hq)]
  refine (eqf_cons (r := x.Len == y.Len) (by decide) (part_one Try.isAgg35 rfl) (part_one Try.isAgg35 rfl) ((run_equalIn_int w (d + 0) 35 .u32 .u32 _ _ Try.underlying35).trans (congrArg (fun b => Result.ok b w) (eq_u32 _ _)))).trans ?_
  refine eq_step (fun hq => ?_) (fun hq => ?_)
  · rw [eq_ff (x := x) (y := y) (fun e => by rw [e] at hq; simp at hq)]
  refine (eqf_cons (r := x.Flags == y.Flags) (by decide) (part_one Try.isAgg36 rfl) (part_one Try.isAgg36 rfl) ((run_equalIn_int w (d + 0) 36 .u16 .u16 _ _ Try.underlying36).trans (congrArg (fun b => Result.ok b w) (eq_u16 _ _)))).trans ?_
  refine eq_step (fun hq => ?_) (fun hq => ?_)
  · rw [eq_ff (x := x) (y := y) (fun e => by rw [e] at hq; simp at hq)]
  refine (eqf_cons (r := x.Next == y.Next) (by decide) (part_one Try.isAgg36 rfl) (part_one Try.isAgg36 rfl) ((run_equalIn_int w (d + 0) 36 .u16 .u16 _ _ Try.underlying36).trans (congrArg (fun b => Result.ok b w) (eq_u16 _ _)))).trans ?_
  refine eq_step (fun hq => ?_) (fun hq => ?_)
  · rw [eq_ff (x := x) (y := y) (fun e => by rw [e] at hq; simp at hq)]
  rw [eq_tt (x := x) (y := y) (by rcases x; rcases y; simp_all)]
  rfl
theorem eqIn40 (d : Nat) (w : World) (x y : Put) : (Op.equalIn (d + 3) 40 (.agg #[vI x.At, vU64 x.Desc.Addr, vU32 x.Desc.Len, vU16 x.Desc.Flags, vU16 x.Desc.Next]) (.agg #[vI y.At, vU64 y.Desc.Addr, vU32 y.Desc.Len, vU16 y.Desc.Flags, vU16 y.Desc.Next])).run Try.prog w = .ok (x == y) w := by
  rw [run_equalIn_agg w (d + 2) 40 _ _ (by rw [Program.fieldsOf, Try.underlying40]) Try.stoodInHeld40]
  simp only [Program.fieldsOf, Try.underlying40]
  refine (eqf_cons (r := x.At == y.At) (by decide) (part_one Try.isAgg3 rfl) (part_one Try.isAgg3 rfl) (run_equalIn_int w (d + 1) 3 .i64 .i64 _ _ Try.underlying3)).trans ?_
  refine eq_step (fun hq => ?_) (fun hq => ?_)
  · rw [eq_ff (x := x) (y := y) (fun e => by rw [e] at hq; simp at hq)]
  refine (eqf_cons (r := x.Desc == y.Desc) (by decide) (part_agg Try.isAgg38 Try.sizeOf38) (part_agg Try.isAgg38 Try.sizeOf38) (eqIn38 (d + 0) w _ _)).trans ?_
  refine eq_step (fun hq => ?_) (fun hq => ?_)
  · rw [eq_ff (x := x) (y := y) (fun e => by rw [e] at hq; simp at hq)]
  rw [eq_tt (x := x) (y := y) (by rcases x; rcases y; simp_all)]
  rfl
theorem eqT40_neq {X Y : Operand} (x y : Put) : Bin Try.prog .neq 40 X Y (.agg #[vI x.At, vU64 x.Desc.Addr, vU32 x.Desc.Len, vU16 x.Desc.Flags, vU16 x.Desc.Next]) (.agg #[vI y.At, vU64 y.Desc.Addr, vU32 y.Desc.Len, vU16 y.Desc.Flags, vU16 y.Desc.Next]) (.bool (x != y)) := fun w => by
  simp only [Sem.run_bind, run_eqGuard_agg w .neq 40 X Y _ _ Try.eqGuardType40, Result.andThen_ok]
  rw [run_neq_struct, show (10000 : Nat) = 9997 + 3 from rfl, eqIn40]; rfl
theorem callee24 : Callee Try.prog 24 := Try.call24
theorem eqIn44 (d : Nat) (w : World) (x y : Packed) : (Op.equalIn (d + 2) 44 (.agg #[vU64 x.Addr, vU32 x.Len, vU16 x.ID, vU16 x.Flags]) (.agg #[vU64 y.Addr, vU32 y.Len, vU16 y.ID, vU16 y.Flags])).run Try.prog w = .ok (x == y) w := by
  rw [run_equalIn_agg w (d + 1) 44 _ _ (by rw [Program.fieldsOf, Try.underlying44]) Try.stoodInHeld44]
  simp only [Program.fieldsOf, Try.underlying44]
  refine (eqf_cons (r := x.Addr == y.Addr) (by decide) (part_one Try.isAgg34 rfl) (part_one Try.isAgg34 rfl) ((run_equalIn_int w (d + 0) 34 .u64 .u64 _ _ Try.underlying34).trans (congrArg (fun b => Result.ok b w) (eq_u64 _ _)))).trans ?_
  refine eq_step (fun hq => ?_) (fun hq => ?_)
  · rw [eq_ff (x := x) (y := y) (fun e => by rw [e] at hq; simp at hq)]
  refine (eqf_cons (r := x.Len == y.Len) (by decide) (part_one Try.isAgg35 rfl) (part_one Try.isAgg35 rfl) ((run_equalIn_int w (d + 0) 35 .u32 .u32 _ _ Try.underlying35).trans (congrArg (fun b => Result.ok b w) (eq_u32 _ _)))).trans ?_
  refine eq_step (fun hq => ?_) (fun hq => ?_)
  · rw [eq_ff (x := x) (y := y) (fun e => by rw [e] at hq; simp at hq)]
  refine (eqf_cons (r := x.ID == y.ID) (by decide) (part_one Try.isAgg36 rfl) (part_one Try.isAgg36 rfl) ((run_equalIn_int w (d + 0) 36 .u16 .u16 _ _ Try.underlying36).trans (congrArg (fun b => Result.ok b w) (eq_u16 _ _)))).trans ?_
  refine eq_step (fun hq => ?_) (fun hq => ?_)
  · rw [eq_ff (x := x) (y := y) (fun e => by rw [e] at hq; simp at hq)]
  refine (eqf_cons (r := x.Flags == y.Flags) (by decide) (part_one Try.isAgg36 rfl) (part_one Try.isAgg36 rfl) ((run_equalIn_int w (d + 0) 36 .u16 .u16 _ _ Try.underlying36).trans (congrArg (fun b => Result.ok b w) (eq_u16 _ _)))).trans ?_
  refine eq_step (fun hq => ?_) (fun hq => ?_)
  · rw [eq_ff (x := x) (y := y) (fun e => by rw [e] at hq; simp at hq)]
  rw [eq_tt (x := x) (y := y) (by rcases x; rcases y; simp_all)]
  rfl
theorem eqIn46 (d : Nat) (w : World) (x y : PutPacked) : (Op.equalIn (d + 3) 46 (.agg #[vI x.At, vU64 x.Desc.Addr, vU32 x.Desc.Len, vU16 x.Desc.ID, vU16 x.Desc.Flags]) (.agg #[vI y.At, vU64 y.Desc.Addr, vU32 y.Desc.Len, vU16 y.Desc.ID, vU16 y.Desc.Flags])).run Try.prog w = .ok (x == y) w := by
  rw [run_equalIn_agg w (d + 2) 46 _ _ (by rw [Program.fieldsOf, Try.underlying46]) Try.stoodInHeld46]
  simp only [Program.fieldsOf, Try.underlying46]
  refine (eqf_cons (r := x.At == y.At) (by decide) (part_one Try.isAgg3 rfl) (part_one Try.isAgg3 rfl) (run_equalIn_int w (d + 1) 3 .i64 .i64 _ _ Try.underlying3)).trans ?_
  refine eq_step (fun hq => ?_) (fun hq => ?_)
  · rw [eq_ff (x := x) (y := y) (fun e => by rw [e] at hq; simp at hq)]
  refine (eqf_cons (r := x.Desc == y.Desc) (by decide) (part_agg Try.isAgg44 Try.sizeOf44) (part_agg Try.isAgg44 Try.sizeOf44) (eqIn44 (d + 0) w _ _)).trans ?_
  refine eq_step (fun hq => ?_) (fun hq => ?_)
  · rw [eq_ff (x := x) (y := y) (fun e => by rw [e] at hq; simp at hq)]
  rw [eq_tt (x := x) (y := y) (by rcases x; rcases y; simp_all)]
  rfl
theorem eqT46_neq {X Y : Operand} (x y : PutPacked) : Bin Try.prog .neq 46 X Y (.agg #[vI x.At, vU64 x.Desc.Addr, vU32 x.Desc.Len, vU16 x.Desc.ID, vU16 x.Desc.Flags]) (.agg #[vI y.At, vU64 y.Desc.Addr, vU32 y.Desc.Len, vU16 y.Desc.ID, vU16 y.Desc.Flags]) (.bool (x != y)) := fun w => by
  simp only [Sem.run_bind, run_eqGuard_agg w .neq 46 X Y _ _ Try.eqGuardType46, Result.andThen_ok]
  rw [run_neq_struct, show (10000 : Nat) = 9997 + 3 from rfl, eqIn46]; rfl
theorem callee25 : Callee Try.prog 25 := Try.call25
theorem callee13 : Callee Try.prog 13 := Try.call13
theorem callee14 : Callee Try.prog 14 := Try.call14
theorem callee49 : Callee Try.prog 49 := Try.call49
theorem callee47 : Callee Try.prog 47 := Try.call47
theorem tyZ44 : TyZ Try.prog 44 (.agg #[.int .u64 0, .int .u32 0, .int .u16 0, .int .u16 0]) := Try.zeroValue44
theorem fldF44x0 : FldF Try.prog 44 0 0 := fun a w => by simp [Instr.fieldAt, Instr.sureAddr, fieldPlace, Try.runUnderlying44, Try.sizeOf34]
theorem fldF44x1 : FldF Try.prog 44 1 1 := fun a w => by simp [Instr.fieldAt, Instr.sureAddr, fieldPlace, Try.runUnderlying44, Try.sizeOf35]
theorem fldF44x2 : FldF Try.prog 44 2 2 := fun a w => by simp [Instr.fieldAt, Instr.sureAddr, fieldPlace, Try.runUnderlying44, Try.sizeOf36]
theorem callee48 : Callee Try.prog 48 := Try.call48
theorem callee15 : Callee Try.prog 15 := Try.call15
theorem callee16 : Callee Try.prog 16 := Try.call16
theorem fldF40x1 : FldF Try.prog 40 1 1 := fun a w => by simp [Instr.fieldAt, Instr.sureAddr, fieldPlace, Try.runUnderlying40, Try.sizeOf38]
theorem fldF40x0 : FldF Try.prog 40 0 0 := fun a w => by simp [Instr.fieldAt, Instr.sureAddr, fieldPlace, Try.runUnderlying40, Try.sizeOf3]
theorem callee17 : Callee Try.prog 17 := Try.call17
theorem callee18 : Callee Try.prog 18 := Try.call18
theorem fldF46x1 : FldF Try.prog 46 1 1 := fun a w => by simp [Instr.fieldAt, Instr.sureAddr, fieldPlace, Try.runUnderlying46, Try.sizeOf44]
theorem fldF46x0 : FldF Try.prog 46 0 0 := fun a w => by simp [Instr.fieldAt, Instr.sureAddr, fieldPlace, Try.runUnderlying46, Try.sizeOf3]
theorem callee19 : Callee Try.prog 19 := Try.call19
theorem callee20 : Callee Try.prog 20 := Try.call20
theorem eqT44_neq {X Y : Operand} (x y : Packed) : Bin Try.prog .neq 44 X Y (.agg #[vU64 x.Addr, vU32 x.Len, vU16 x.ID, vU16 x.Flags]) (.agg #[vU64 y.Addr, vU32 y.Len, vU16 y.ID, vU16 y.Flags]) (.bool (x != y)) := fun w => by
  simp only [Sem.run_bind, run_eqGuard_agg w .neq 44 X Y _ _ Try.eqGuardType44, Result.andThen_ok]
  rw [run_neq_struct, show (10000 : Nat) = 9998 + 2 from rfl, eqIn44]; rfl
end Go.Proofs.Ytihcimjfabdafaa
