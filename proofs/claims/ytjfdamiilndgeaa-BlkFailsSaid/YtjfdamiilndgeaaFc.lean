/- Facts on the program: types, places, callees. No statement of the seat is proved here; no condition. -/
import Derived.Test.YtjfdamiilndgeaaTy
import Derived.Test.YtjfdamiilndgeaaProg
set_option maxRecDepth 100000
namespace Go.Proofs.Ytjfdamiilndgeaa

theorem slF68 : SlF Try.prog 68 83 512 512 (.agg (Sec.z.l.map vU8).toArray) := ⟨Try.underlying68, ⟨Try.t83, Try.type83, by kernel_rfl, rfl, rfl⟩, by kernel_rfl, by decide, by decide⟩
theorem callee7 : Callee Try.prog 7 := Try.call7
theorem slF33 : SlF Try.prog 33 32 3 16 (.agg #[.int .u64 0, .int .u32 0, .int .u32 0]) := ⟨Try.underlying33, ⟨Try.t32, Try.type32, rfl, rfl, rfl⟩, rfl, by decide, by decide⟩
theorem tyF35 : TyF Try.prog 35 true 5 := ⟨Try.isAgg35, Try.sizeOf35⟩
theorem fldF35x4 : FldF Try.prog 35 4 4 := fun a w => by simp [Instr.fieldAt, Instr.sureAddr, fieldPlace, Try.runUnderlying35, Try.sizeOf33]
theorem tyF33 : TyF Try.prog 33 false 1 := ⟨Try.isAgg33, Try.sizeOf33⟩
theorem fldF35x0 : FldF Try.prog 35 0 0 := fun a w => by simp [Instr.fieldAt, Instr.sureAddr, fieldPlace, Try.runUnderlying35, Try.sizeOf29]
theorem tyF29 : TyF Try.prog 29 false 1 := ⟨Try.isAgg29, Try.sizeOf29⟩
theorem callee27 : Callee Try.prog 27 := Try.call27
theorem fldF35x2 : FldF Try.prog 35 2 2 := fun a w => by simp [Instr.fieldAt, Instr.sureAddr, fieldPlace, Try.runUnderlying35, Try.sizeOf26]
theorem tyF26 : TyF Try.prog 26 false 1 := ⟨Try.isAgg26, Try.sizeOf26⟩
theorem fldF35x3 : FldF Try.prog 35 3 3 := fun a w => by simp [Instr.fieldAt, Instr.sureAddr, fieldPlace, Try.runUnderlying35, Try.sizeOf3]
theorem tyF3 : TyF Try.prog 3 false 1 := ⟨Try.isAgg3, Try.sizeOf3⟩
theorem callee13 : Callee Try.prog 13 := Try.call13
theorem slF26 : SlF Try.prog 26 5 1 1 (.int .u8 0) := ⟨Try.underlying26, ⟨Try.t5, Try.type5, rfl, rfl, rfl⟩, rfl, by decide, by decide⟩
theorem callee24 : Callee Try.prog 24 := Try.call24
theorem fldF35x1 : FldF Try.prog 35 1 1 := fun a w => by simp [Instr.fieldAt, Instr.sureAddr, fieldPlace, Try.runUnderlying35, Try.sizeOf30]
theorem tyF30 : TyF Try.prog 30 false 1 := ⟨Try.isAgg30, Try.sizeOf30⟩
theorem tyF32 : TyF Try.prog 32 true 3 := ⟨Try.isAgg32, Try.sizeOf32⟩
theorem tyZ32 : TyZ Try.prog 32 (.agg #[.int .u64 0, .int .u32 0, .int .u32 0]) := Try.zeroValue32
theorem fldF32x0 : FldF Try.prog 32 0 0 := fun a w => by simp [Instr.fieldAt, Instr.sureAddr, fieldPlace, Try.runUnderlying32, Try.sizeOf30]
theorem fldF32x1 : FldF Try.prog 32 1 1 := fun a w => by simp [Instr.fieldAt, Instr.sureAddr, fieldPlace, Try.runUnderlying32, Try.sizeOf29]
theorem fldF32x2 : FldF Try.prog 32 2 2 := fun a w => by simp [Instr.fieldAt, Instr.sureAddr, fieldPlace, Try.runUnderlying32, Try.sizeOf29]
theorem callee8 : Callee Try.prog 8 := Try.call8
theorem tyF5 : TyF Try.prog 5 false 1 := ⟨Try.isAgg5, Try.sizeOf5⟩
theorem tyZ35 : TyZ Try.prog 35 (.agg #[.int .u32 0, .int .u64 0, .slice none 0 0, .int .i64 0, .slice none 0 0]) := Try.zeroValue35
theorem callee25 : Callee Try.prog 25 := Try.call25
theorem ptrF22 : Try.prog.underlying 22 = some (.pointer (Try.prog.pointee 22)) := by simp [Program.pointee, Try.underlying22]
theorem callee26 : Callee Try.prog 26 := Try.call26
theorem fldF80x5 : FldF Try.prog 80 5 5 := fun a w => by simp [Instr.fieldAt, Instr.sureAddr, fieldPlace, Try.runUnderlying80, Try.sizeOf30]
theorem fldF80x0 : FldF Try.prog 80 0 0 := fun a w => by simp [Instr.fieldAt, Instr.sureAddr, fieldPlace, Try.runUnderlying80, Try.sizeOf22]
theorem tyF22 : TyF Try.prog 22 false 1 := ⟨Try.isAgg22, Try.sizeOf22⟩
theorem fldF80x4 : FldF Try.prog 80 4 4 := fun a w => by simp [Instr.fieldAt, Instr.sureAddr, fieldPlace, Try.runUnderlying80, Try.sizeOf30]
theorem fldF71x0 : FldF Try.prog 71 0 0 := fun a w => by simp [Instr.fieldAt, Instr.sureAddr, fieldPlace, Try.runUnderlying71, Try.sizeOf68]
theorem tyF68 : TyF Try.prog 68 false 1 := ⟨Try.isAgg68, Try.sizeOf68⟩
theorem callee46 : Callee Try.prog 46 := Try.call46
theorem arrF83 : ArrF Try.prog 83 512 5 1 := ⟨Try.underlying83, Try.sizeOf5⟩
theorem callee28 : Callee Try.prog 28 := Try.call28
theorem callee38 : Callee Try.prog 38 := Try.call38
theorem fldF80x1 : FldF Try.prog 80 1 1 := fun a w => by simp [Instr.fieldAt, Instr.sureAddr, fieldPlace, Try.runUnderlying80, Try.sizeOf30]
theorem callee54 : Callee Try.prog 54 := Try.call54
theorem fldF80x3 : FldF Try.prog 80 3 3 := fun a w => by simp [Instr.fieldAt, Instr.sureAddr, fieldPlace, Try.runUnderlying80, Try.sizeOf26]
theorem fldF71x1 : FldF Try.prog 71 1 1 := fun a w => by simp [Instr.fieldAt, Instr.sureAddr, fieldPlace, Try.runUnderlying71, Try.sizeOf69]
theorem tyF69 : TyF Try.prog 69 false 1 := ⟨Try.isAgg69, Try.sizeOf69⟩
theorem tyZ83 : TyZ Try.prog 83 (.agg (Sec.z.l.map vU8).toArray) := tyZ_of slF68
theorem tyF83 : TyF Try.prog 83 true 512 := ⟨Try.isAgg83, Try.sizeOf83⟩
theorem callee62 : Callee Try.prog 62 := Try.call62
theorem callee55 : Callee Try.prog 55 := Try.call55
theorem callee39 : Callee Try.prog 39 := Try.call39
theorem callee56 : Callee Try.prog 56 := Try.call56
theorem callee40 : Callee Try.prog 40 := Try.call40
theorem fldF80x2 : FldF Try.prog 80 2 2 := fun a w => by simp [Instr.fieldAt, Instr.sureAddr, fieldPlace, Try.runUnderlying80, Try.sizeOf9]
theorem tyF9 : TyF Try.prog 9 false 1 := ⟨Try.isAgg9, Try.sizeOf9⟩
theorem callee41 : Callee Try.prog 41 := Try.call41
theorem tyZ26 : TyZ Try.prog 26 (.slice none 0 0) := Try.zeroValue26
theorem callee57 : Callee Try.prog 57 := Try.call57
theorem callee58 : Callee Try.prog 58 := Try.call58
theorem callee43 : Callee Try.prog 43 := Try.call43
theorem callee42 : Callee Try.prog 42 := Try.call42
theorem callee44 : Callee Try.prog 44 := Try.call44
theorem callee45 : Callee Try.prog 45 := Try.call45
theorem callee10 : Callee Try.prog 10 := Try.call10
theorem callee11 : Callee Try.prog 11 := Try.call11
theorem callee12 : Callee Try.prog 12 := Try.call12
theorem callee14 : Callee Try.prog 14 := Try.call14
theorem callee15 : Callee Try.prog 15 := Try.call15
theorem callee16 : Callee Try.prog 16 := Try.call16
theorem callee29 : Callee Try.prog 29 := Try.call29
theorem callee17 : Callee Try.prog 17 := Try.call17
end Go.Proofs.Ytjfdamiilndgeaa
