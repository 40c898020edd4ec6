/- Facts on the program: types, places, callees. No statement of the seat is proved here; no condition. -/
import Derived.Test.YtkmjpgfbcklopaaTy
import Derived.Test.YtkmjpgfbcklopaaProg
set_option maxRecDepth 100000
namespace Go.Proofs.Ytkmjpgfbcklopaa

theorem slF45 : SlF Try.prog 45 57 2 16 (.agg #[.int .u64 0, .int .u64 0]) := ⟨Try.underlying45, ⟨Try.t57, Try.type57, rfl, rfl, rfl⟩, rfl, by decide, by decide⟩
theorem fldF57x1 : FldF Try.prog 57 1 1 := fun a w => by simp [Instr.fieldAt, Instr.sureAddr, fieldPlace, Try.runUnderlying57, Try.sizeOf29]
theorem tyF29 : TyF Try.prog 29 false 1 := ⟨Try.isAgg29, Try.sizeOf29⟩
theorem fldF57x0 : FldF Try.prog 57 0 0 := fun a w => by simp [Instr.fieldAt, Instr.sureAddr, fieldPlace, Try.runUnderlying57, Try.sizeOf29]
theorem callee55 : Callee Try.prog 55 := Try.call55
theorem fldF97x1 : FldF Try.prog 97 1 1 := fun a w => by simp [Instr.fieldAt, Instr.sureAddr, fieldPlace, Try.runUnderlying97, Try.sizeOf81]
theorem tyF81 : TyF Try.prog 81 false 1 := ⟨Try.isAgg81, Try.sizeOf81⟩
theorem slF35 : SlF Try.prog 35 5 1 1 (.int .u8 0) := ⟨Try.underlying35, ⟨Try.t5, Try.type5, rfl, rfl, rfl⟩, rfl, by decide, by decide⟩
theorem slF81 : SlF Try.prog 81 35 1 24 (.slice none 0 0) := ⟨Try.underlying81, ⟨Try.t35, Try.type35, rfl, rfl, rfl⟩, rfl, by decide, by decide⟩
theorem tyF57 : TyF Try.prog 57 true 2 := ⟨Try.isAgg57, Try.sizeOf57⟩
theorem tyZ57 : TyZ Try.prog 57 (.agg #[.int .u64 0, .int .u64 0]) := Try.zeroValue57
theorem callee43 : Callee Try.prog 43 := Try.call43
theorem callee44 : Callee Try.prog 44 := Try.call44
theorem fldF83x1 : FldF Try.prog 83 1 1 := fun a w => by simp [Instr.fieldAt, Instr.sureAddr, fieldPlace, Try.runUnderlying83, Try.sizeOf81]
theorem tyF35 : TyF Try.prog 35 false 1 := ⟨Try.isAgg35, Try.sizeOf35⟩
theorem tyZ27 : TyZ Try.prog 27 (.int .i64 0) := Try.zeroValue27
theorem tyF27 : TyF Try.prog 27 false 1 := ⟨Try.isAgg27, Try.sizeOf27⟩
theorem tyZ29 : TyZ Try.prog 29 (.int .u64 0) := Try.zeroValue29
theorem slF22 : SlF Try.prog 22 32 3 16 (.agg #[.int .u64 0, .int .u32 0, .bool false]) := ⟨Try.underlying22, ⟨Try.t32, Try.type32, rfl, rfl, rfl⟩, rfl, by decide, by decide⟩
theorem tyF32 : TyF Try.prog 32 true 3 := ⟨Try.isAgg32, Try.sizeOf32⟩
theorem tyZ32 : TyZ Try.prog 32 (.agg #[.int .u64 0, .int .u32 0, .bool false]) := Try.zeroValue32
theorem fldF32x1 : FldF Try.prog 32 1 1 := fun a w => by simp [Instr.fieldAt, Instr.sureAddr, fieldPlace, Try.runUnderlying32, Try.sizeOf30]
theorem tyF30 : TyF Try.prog 30 false 1 := ⟨Try.isAgg30, Try.sizeOf30⟩
theorem callee70 : Callee Try.prog 70 := Try.call70
theorem fldF32x0 : FldF Try.prog 32 0 0 := fun a w => by simp [Instr.fieldAt, Instr.sureAddr, fieldPlace, Try.runUnderlying32, Try.sizeOf29]
theorem fldF32x2 : FldF Try.prog 32 2 2 := fun a w => by simp [Instr.fieldAt, Instr.sureAddr, fieldPlace, Try.runUnderlying32, Try.sizeOf4]
theorem tyF4 : TyF Try.prog 4 false 1 := ⟨Try.isAgg4, Try.sizeOf4⟩
theorem callee39 : Callee Try.prog 39 := Try.call39
theorem callee84 : Callee Try.prog 84 := Try.call84
theorem tyZ120 : TyZ Try.prog 120 (.slice none 0 0) := Try.zeroValue120
theorem tyF120 : TyF Try.prog 120 false 1 := ⟨Try.isAgg120, Try.sizeOf120⟩
theorem slF120 : SlF Try.prog 120 32 3 16 (.agg #[.int .u64 0, .int .u32 0, .bool false]) := ⟨Try.underlying120, ⟨Try.t32, Try.type32, rfl, rfl, rfl⟩, rfl, by decide, by decide⟩
theorem callee85 : Callee Try.prog 85 := Try.call85
theorem callee53 : Callee Try.prog 53 := Try.call53
theorem slF23 : SlF Try.prog 23 3 1 8 (.int .i64 0) := ⟨Try.underlying23, ⟨Try.t3, Try.type3, rfl, rfl, rfl⟩, rfl, by decide, by decide⟩
theorem tyF3 : TyF Try.prog 3 false 1 := ⟨Try.isAgg3, Try.sizeOf3⟩
theorem callee71 : Callee Try.prog 71 := Try.call71
theorem callee40 : Callee Try.prog 40 := Try.call40
theorem callee41 : Callee Try.prog 41 := Try.call41
theorem tyF42 : TyF Try.prog 42 false 1 := ⟨Try.isAgg42, Try.sizeOf42⟩
theorem ptrF42 : Try.prog.underlying 42 = some (.pointer (Try.prog.pointee 42)) := by simp [Program.pointee, Try.underlying42]
theorem tyF38 : TyF Try.prog 38 true 5 := ⟨Try.isAgg38, Try.sizeOf38⟩
theorem fldF38x4 : FldF Try.prog 38 4 4 := fun a w => by simp [Instr.fieldAt, Instr.sureAddr, fieldPlace, Try.runUnderlying38, Try.sizeOf36]
theorem tyF36 : TyF Try.prog 36 false 1 := ⟨Try.isAgg36, Try.sizeOf36⟩
theorem fldF38x0 : FldF Try.prog 38 0 0 := fun a w => by simp [Instr.fieldAt, Instr.sureAddr, fieldPlace, Try.runUnderlying38, Try.sizeOf30]
theorem callee86 : Callee Try.prog 86 := Try.call86
theorem fldF38x2 : FldF Try.prog 38 2 2 := fun a w => by simp [Instr.fieldAt, Instr.sureAddr, fieldPlace, Try.runUnderlying38, Try.sizeOf35]
theorem fldF38x3 : FldF Try.prog 38 3 3 := fun a w => by simp [Instr.fieldAt, Instr.sureAddr, fieldPlace, Try.runUnderlying38, Try.sizeOf3]
theorem callee72 : Callee Try.prog 72 := Try.call72
theorem callee73 : Callee Try.prog 73 := Try.call73
theorem fldF38x1 : FldF Try.prog 38 1 1 := fun a w => by simp [Instr.fieldAt, Instr.sureAddr, fieldPlace, Try.runUnderlying38, Try.sizeOf29]
theorem slF36 : SlF Try.prog 36 90 3 16 (.agg #[.int .u64 0, .int .u32 0, .int .u32 0]) := ⟨Try.underlying36, ⟨Try.t90, Try.type90, rfl, rfl, rfl⟩, rfl, by decide, by decide⟩
theorem tyF90 : TyF Try.prog 90 true 3 := ⟨Try.isAgg90, Try.sizeOf90⟩
theorem tyZ90 : TyZ Try.prog 90 (.agg #[.int .u64 0, .int .u32 0, .int .u32 0]) := Try.zeroValue90
theorem fldF90x0 : FldF Try.prog 90 0 0 := fun a w => by simp [Instr.fieldAt, Instr.sureAddr, fieldPlace, Try.runUnderlying90, Try.sizeOf29]
theorem fldF90x1 : FldF Try.prog 90 1 1 := fun a w => by simp [Instr.fieldAt, Instr.sureAddr, fieldPlace, Try.runUnderlying90, Try.sizeOf30]
theorem fldF90x2 : FldF Try.prog 90 2 2 := fun a w => by simp [Instr.fieldAt, Instr.sureAddr, fieldPlace, Try.runUnderlying90, Try.sizeOf30]
theorem callee42 : Callee Try.prog 42 := Try.call42
theorem tyZ35 : TyZ Try.prog 35 (.slice none 0 0) := Try.zeroValue35
theorem callee45 : Callee Try.prog 45 := Try.call45
theorem fldF83x0 : FldF Try.prog 83 0 0 := fun a w => by simp [Instr.fieldAt, Instr.sureAddr, fieldPlace, Try.runUnderlying83, Try.sizeOf45]
theorem tyF45 : TyF Try.prog 45 false 1 := ⟨Try.isAgg45, Try.sizeOf45⟩
theorem callee75 : Callee Try.prog 75 := Try.call75
theorem callee74 : Callee Try.prog 74 := Try.call74
theorem callee46 : Callee Try.prog 46 := Try.call46
theorem callee48 : Callee Try.prog 48 := Try.call48
theorem callee17 : Callee Try.prog 17 := Try.call17
theorem callee47 : Callee Try.prog 47 := Try.call47
theorem callee9 : Callee Try.prog 9 := Try.call9
theorem slF103 : SlF Try.prog 103 4 1 1 (.bool false) := ⟨Try.underlying103, ⟨Try.t4, Try.type4, rfl, rfl, rfl⟩, rfl, by decide, by decide⟩
theorem fldF97x0 : FldF Try.prog 97 0 0 := fun a w => by simp [Instr.fieldAt, Instr.sureAddr, fieldPlace, Try.runUnderlying97, Try.sizeOf45]
theorem callee56 : Callee Try.prog 56 := Try.call56
theorem ptrF62 : Try.prog.underlying 62 = some (.pointer (Try.prog.pointee 62)) := by simp [Program.pointee, Try.underlying62]
theorem callee11 : Callee Try.prog 11 := Try.call11
theorem callee57 : Callee Try.prog 57 := Try.call57
theorem callee60 : Callee Try.prog 60 := Try.call60
theorem callee62 : Callee Try.prog 62 := Try.call62
theorem tyF5 : TyF Try.prog 5 false 1 := ⟨Try.isAgg5, Try.sizeOf5⟩
theorem tyZ38 : TyZ Try.prog 38 (.agg #[.int .u32 0, .int .u64 0, .slice none 0 0, .int .i64 0, .slice none 0 0]) := Try.zeroValue38
theorem callee78 : Callee Try.prog 78 := Try.call78
theorem fldF105x2 : FldF Try.prog 105 2 2 := fun a w => by simp [Instr.fieldAt, Instr.sureAddr, fieldPlace, Try.runUnderlying105, Try.sizeOf103]
theorem tyF103 : TyF Try.prog 103 false 1 := ⟨Try.isAgg103, Try.sizeOf103⟩
theorem callee88 : Callee Try.prog 88 := Try.call88
theorem fldF105x1 : FldF Try.prog 105 1 1 := fun a w => by simp [Instr.fieldAt, Instr.sureAddr, fieldPlace, Try.runUnderlying105, Try.sizeOf35]
theorem callee79 : Callee Try.prog 79 := Try.call79
theorem callee81 : Callee Try.prog 81 := Try.call81
theorem callee89 : Callee Try.prog 89 := Try.call89
theorem callee80 : Callee Try.prog 80 := Try.call80
theorem fldF105x0 : FldF Try.prog 105 0 0 := fun a w => by simp [Instr.fieldAt, Instr.sureAddr, fieldPlace, Try.runUnderlying105, Try.sizeOf35]
theorem callee82 : Callee Try.prog 82 := Try.call82
theorem callee83 : Callee Try.prog 83 := Try.call83
theorem callee27 : Callee Try.prog 27 := Try.call27
theorem ptrF70 : Try.prog.underlying 70 = some (.pointer (Try.prog.pointee 70)) := by simp [Program.pointee, Try.underlying70]
theorem callee61 : Callee Try.prog 61 := Try.call61
theorem callee64 : Callee Try.prog 64 := Try.call64
theorem callee65 : Callee Try.prog 65 := Try.call65
theorem callee66 : Callee Try.prog 66 := Try.call66
theorem callee58 : Callee Try.prog 58 := Try.call58
theorem callee67 : Callee Try.prog 67 := Try.call67
theorem callee68 : Callee Try.prog 68 := Try.call68
theorem callee87 : Callee Try.prog 87 := Try.call87
theorem callee77 : Callee Try.prog 77 := Try.call77
theorem callee76 : Callee Try.prog 76 := Try.call76
theorem callee52 : Callee Try.prog 52 := Try.call52
theorem callee50 : Callee Try.prog 50 := Try.call50
theorem callee54 : Callee Try.prog 54 := Try.call54
theorem callee15 : Callee Try.prog 15 := Try.call15
theorem callee19 : Callee Try.prog 19 := Try.call19
theorem callee14 : Callee Try.prog 14 := Try.call14
theorem callee25 : Callee Try.prog 25 := Try.call25
theorem callee24 : Callee Try.prog 24 := Try.call24
theorem eqIn32 (d : Nat) (w : World) (x y : Seg) : (Op.equalIn (d + 2) 32 (.agg #[vU64 x.At, vU32 x.Len, vB x.Write]) (.agg #[vU64 y.At, vU32 y.Len, vB y.Write])).run Try.prog w = .ok (x == y) w := by
  rw [run_equalIn_agg w (d + 1) 32 _ _ (by rw [Program.fieldsOf, Try.underlying32]) Try.stoodInHeld32]
  simp only [Program.fieldsOf, Try.underlying32]
  refine (eqf_cons (r := x.At == y.At) (by decide) (part_one Try.isAgg29 rfl) (part_one Try.isAgg29 rfl) ((run_equalIn_int w (d + 0) 29 .u64 .u64 _ _ Try.underlying29).trans (congrArg (fun b => Result.ok b w) (eq_u64 _ _)))).trans ?_
  refine eq_step (fun hq => ?_) (fun hq => ?_)
  · rw [eq_ff (x := x) (y := y) (fun e => by rw [e] at hq; simp at hq)]
  refine (eqf_cons (r := x.Len == y.Len) (by decide) (part_one Try.isAgg30 rfl) (part_one Try.isAgg30 rfl) ((run_equalIn_int w (d + 0) 30 .u32 .u32 _ _ Try.underlying30).trans (congrArg (fun b => Result.ok b w) (eq_u32 _ _)))).trans ?_
  refine eq_step (fun hq => ?_) (fun hq => ?_)
  · rw [eq_ff (x := x) (y := y) (fun e => by rw [e] at hq; simp at hq)]
  refine (eqf_cons (r := x.Write == y.Write) (by decide) (part_one Try.isAgg4 rfl) (part_one Try.isAgg4 rfl) (run_equalIn_bool w (d + 0) 4 _ _ Try.underlying4)).trans ?_
  refine eq_step (fun hq => ?_) (fun hq => ?_)
  · rw [eq_ff (x := x) (y := y) (fun e => by rw [e] at hq; simp at hq)]
  rw [eq_tt (x := x) (y := y) (by rcases x; rcases y; simp_all)]
  rfl
theorem eqT32_neq {X Y : Operand} (x y : Seg) : Bin Try.prog .neq 32 X Y (.agg #[vU64 x.At, vU32 x.Len, vB x.Write]) (.agg #[vU64 y.At, vU32 y.Len, vB y.Write]) (.bool (x != y)) := fun w => by
  simp only [Sem.run_bind, run_eqGuard_agg w .neq 32 X Y _ _ Try.eqGuardType32, Result.andThen_ok]
  rw [run_neq_struct, show (10000 : Nat) = 9998 + 2 from rfl, eqIn32]; rfl
theorem callee12 : Callee Try.prog 12 := Try.call12
theorem callee8 : Callee Try.prog 8 := Try.call8
theorem callee13 : Callee Try.prog 13 := Try.call13
theorem callee63 : Callee Try.prog 63 := Try.call63
theorem callee35 : Callee Try.prog 35 := Try.call35
theorem callee16 : Callee Try.prog 16 := Try.call16
theorem callee26 : Callee Try.prog 26 := Try.call26
theorem callee18 : Callee Try.prog 18 := Try.call18
theorem callee49 : Callee Try.prog 49 := Try.call49
theorem callee20 : Callee Try.prog 20 := Try.call20
theorem callee36 : Callee Try.prog 36 := Try.call36
theorem callee21 : Callee Try.prog 21 := Try.call21
theorem callee37 : Callee Try.prog 37 := Try.call37
theorem callee30 : Callee Try.prog 30 := Try.call30
theorem callee23 : Callee Try.prog 23 := Try.call23
theorem callee51 : Callee Try.prog 51 := Try.call51
theorem callee22 : Callee Try.prog 22 := Try.call22
theorem callee69 : Callee Try.prog 69 := Try.call69
theorem callee38 : Callee Try.prog 38 := Try.call38
end Go.Proofs.Ytkmjpgfbcklopaa
