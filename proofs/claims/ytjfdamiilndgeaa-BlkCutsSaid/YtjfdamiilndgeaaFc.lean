/- Facts on the program: types, places, callees. No statement of the seat is proved here; no condition. -/
import Derived.Test.YtjfdamiilndgeaaTy
import Derived.Test.YtjfdamiilndgeaaProg
set_option maxRecDepth 100000
namespace Go.Proofs.Ytjfdamiilndgeaa

theorem slF68 : SlF Try.prog 68 83 512 512 (.agg (Sec.z.l.map vU8).toArray) := ⟨Try.underlying68, ⟨Try.t83, Try.type83, by kernel_rfl, rfl, rfl⟩, by kernel_rfl, by decide, by decide⟩
theorem callee7 : Callee Try.prog 7 := Try.call7
theorem slF33 : SlF Try.prog 33 32 3 16 (.agg #[.int .u64 0, .int .u32 0, .int .u32 0]) := ⟨Try.underlying33, ⟨Try.t32, Try.type32, rfl, rfl, rfl⟩, rfl, by decide, by decide⟩
theorem tyF35 : TyF Try.prog 35 true 5 := ⟨Try.isAgg35, Try.sizeOf35⟩
theorem fldF35x4 : FldF Try.prog 35 4 4 := fun a w => by simp [Instr.fieldAt, Instr.sureAddr, fieldPlace, Try.runUnderlying35, Try.sizeOf33]
theorem tyF33 : TyF Try.prog 33 false 1 := ⟨Try.isAgg33, Try.sizeOf33⟩
theorem fldF35x0 : FldF Try.prog 35 0 0 := fun a w => by simp [Instr.fieldAt, Instr.sureAddr, fieldPlace, Try.runUnderlying35, Try.sizeOf29]
theorem tyF29 : TyF Try.prog 29 false 1 := ⟨Try.isAgg29, Try.sizeOf29⟩
theorem callee27 : Callee Try.prog 27 := Try.call27
theorem fldF35x2 : FldF Try.prog 35 2 2 := fun a w => by simp [Instr.fieldAt, Instr.sureAddr, fieldPlace, Try.runUnderlying35, Try.sizeOf26]
theorem tyF26 : TyF Try.prog 26 false 1 := ⟨Try.isAgg26, Try.sizeOf26⟩
theorem fldF35x3 : FldF Try.prog 35 3 3 := fun a w => by simp [Instr.fieldAt, Instr.sureAddr, fieldPlace, Try.runUnderlying35, Try.sizeOf3]
theorem tyF3 : TyF Try.prog 3 false 1 := ⟨Try.isAgg3, Try.sizeOf3⟩
theorem callee13 : Callee Try.prog 13 := Try.call13
theorem slF26 : SlF Try.prog 26 5 1 1 (.int .u8 0) := ⟨Try.underlying26, ⟨Try.t5, Try.type5, rfl, rfl, rfl⟩, rfl, by decide, by decide⟩
theorem callee24 : Callee Try.prog 24 := Try.call24
theorem fldF35x1 : FldF Try.prog 35 1 1 := fun a w => by simp [Instr.fieldAt, Instr.sureAddr, fieldPlace, Try.runUnderlying35, Try.sizeOf30]
theorem tyF30 : TyF Try.prog 30 false 1 := ⟨Try.isAgg30, Try.sizeOf30⟩
theorem tyF32 : TyF Try.prog 32 true 3 := ⟨Try.isAgg32, Try.sizeOf32⟩
theorem tyZ32 : TyZ Try.prog 32 (.agg #[.int .u64 0, .int .u32 0, .int .u32 0]) := Try.zeroValue32
theorem fldF32x0 : FldF Try.prog 32 0 0 := fun a w => by simp [Instr.fieldAt, Instr.sureAddr, fieldPlace, Try.runUnderlying32, Try.sizeOf30]
theorem fldF32x1 : FldF Try.prog 32 1 1 := fun a w => by simp [Instr.fieldAt, Instr.sureAddr, fieldPlace, Try.runUnderlying32, Try.sizeOf29]
theorem fldF32x2 : FldF Try.prog 32 2 2 := fun a w => by simp [Instr.fieldAt, Instr.sureAddr, fieldPlace, Try.runUnderlying32, Try.sizeOf29]
theorem callee8 : Callee Try.prog 8 := Try.call8
theorem tyF5 : TyF Try.prog 5 false 1 := ⟨Try.isAgg5, Try.sizeOf5⟩
theorem tyZ35 : TyZ Try.prog 35 (.agg #[.int .u32 0, .int .u64 0, .slice none 0 0, .int .i64 0, .slice none 0 0]) := Try.zeroValue35
theorem callee25 : Callee Try.prog 25 := Try.call25
theorem callee9 : Callee Try.prog 9 := Try.call9
theorem ptrF22 : Try.prog.underlying 22 = some (.pointer (Try.prog.pointee 22)) := by simp [Program.pointee, Try.underlying22]
theorem callee26 : Callee Try.prog 26 := Try.call26
theorem fldF80x5 : FldF Try.prog 80 5 5 := fun a w => by simp [Instr.fieldAt, Instr.sureAddr, fieldPlace, Try.runUnderlying80, Try.sizeOf30]
theorem fldF80x0 : FldF Try.prog 80 0 0 := fun a w => by simp [Instr.fieldAt, Instr.sureAddr, fieldPlace, Try.runUnderlying80, Try.sizeOf22]
theorem tyF22 : TyF Try.prog 22 false 1 := ⟨Try.isAgg22, Try.sizeOf22⟩
theorem fldF80x4 : FldF Try.prog 80 4 4 := fun a w => by simp [Instr.fieldAt, Instr.sureAddr, fieldPlace, Try.runUnderlying80, Try.sizeOf30]
theorem fldF71x0 : FldF Try.prog 71 0 0 := fun a w => by simp [Instr.fieldAt, Instr.sureAddr, fieldPlace, Try.runUnderlying71, Try.sizeOf68]
theorem tyF68 : TyF Try.prog 68 false 1 := ⟨Try.isAgg68, Try.sizeOf68⟩
theorem callee46 : Callee Try.prog 46 := Try.call46
theorem arrF83 : ArrF Try.prog 83 512 5 1 := ⟨Try.underlying83, Try.sizeOf5⟩
theorem callee28 : Callee Try.prog 28 := Try.call28
theorem callee38 : Callee Try.prog 38 := Try.call38
theorem fldF80x1 : FldF Try.prog 80 1 1 := fun a w => by simp [Instr.fieldAt, Instr.sureAddr, fieldPlace, Try.runUnderlying80, Try.sizeOf30]
theorem callee54 : Callee Try.prog 54 := Try.call54
theorem fldF80x3 : FldF Try.prog 80 3 3 := fun a w => by simp [Instr.fieldAt, Instr.sureAddr, fieldPlace, Try.runUnderlying80, Try.sizeOf26]
theorem fldF71x1 : FldF Try.prog 71 1 1 := fun a w => by simp [Instr.fieldAt, Instr.sureAddr, fieldPlace, Try.runUnderlying71, Try.sizeOf69]
theorem tyF69 : TyF Try.prog 69 false 1 := ⟨Try.isAgg69, Try.sizeOf69⟩
theorem tyZ83 : TyZ Try.prog 83 (.agg (Sec.z.l.map vU8).toArray) := tyZ_of slF68
theorem tyF83 : TyF Try.prog 83 true 512 := ⟨Try.isAgg83, Try.sizeOf83⟩
theorem callee62 : Callee Try.prog 62 := Try.call62
theorem callee55 : Callee Try.prog 55 := Try.call55
theorem callee39 : Callee Try.prog 39 := Try.call39
theorem callee56 : Callee Try.prog 56 := Try.call56
theorem callee40 : Callee Try.prog 40 := Try.call40
theorem fldF80x2 : FldF Try.prog 80 2 2 := fun a w => by simp [Instr.fieldAt, Instr.sureAddr, fieldPlace, Try.runUnderlying80, Try.sizeOf9]
theorem tyF9 : TyF Try.prog 9 false 1 := ⟨Try.isAgg9, Try.sizeOf9⟩
theorem callee41 : Callee Try.prog 41 := Try.call41
theorem tyZ26 : TyZ Try.prog 26 (.slice none 0 0) := Try.zeroValue26
theorem callee57 : Callee Try.prog 57 := Try.call57
theorem callee58 : Callee Try.prog 58 := Try.call58
theorem callee43 : Callee Try.prog 43 := Try.call43
theorem callee42 : Callee Try.prog 42 := Try.call42
theorem callee44 : Callee Try.prog 44 := Try.call44
theorem callee45 : Callee Try.prog 45 := Try.call45
theorem callee10 : Callee Try.prog 10 := Try.call10
theorem callee11 : Callee Try.prog 11 := Try.call11
theorem callee12 : Callee Try.prog 12 := Try.call12
theorem callee14 : Callee Try.prog 14 := Try.call14
theorem callee15 : Callee Try.prog 15 := Try.call15
theorem callee29 : Callee Try.prog 29 := Try.call29
theorem callee17 : Callee Try.prog 17 := Try.call17
theorem slF49 : SlF Try.prog 49 3 1 8 (.int .i64 0) := ⟨Try.underlying49, ⟨Try.t3, Try.type3, rfl, rfl, rfl⟩, rfl, by decide, by decide⟩
theorem fldF51x1 : FldF Try.prog 51 1 1 := fun a w => by simp [Instr.fieldAt, Instr.sureAddr, fieldPlace, Try.runUnderlying51, Try.sizeOf29]
theorem fldF51x0 : FldF Try.prog 51 0 0 := fun a w => by simp [Instr.fieldAt, Instr.sureAddr, fieldPlace, Try.runUnderlying51, Try.sizeOf30]
theorem fldF51x2 : FldF Try.prog 51 2 2 := fun a w => by simp [Instr.fieldAt, Instr.sureAddr, fieldPlace, Try.runUnderlying51, Try.sizeOf4]
theorem tyF4 : TyF Try.prog 4 false 1 := ⟨Try.isAgg4, Try.sizeOf4⟩
theorem slF52 : SlF Try.prog 52 51 3 16 (.agg #[.int .u64 0, .int .u32 0, .bool false]) := ⟨Try.underlying52, ⟨Try.t51, Try.type51, rfl, rfl, rfl⟩, rfl, by decide, by decide⟩
theorem tyF51 : TyF Try.prog 51 true 3 := ⟨Try.isAgg51, Try.sizeOf51⟩
theorem slF61 : SlF Try.prog 61 60 2 16 (.agg #[.int .u64 0, .int .u64 0]) := ⟨Try.underlying61, ⟨Try.t60, Try.type60, rfl, rfl, rfl⟩, rfl, by decide, by decide⟩
theorem tyF60 : TyF Try.prog 60 true 2 := ⟨Try.isAgg60, Try.sizeOf60⟩
theorem tyZ60 : TyZ Try.prog 60 (.agg #[.int .u64 0, .int .u64 0]) := Try.zeroValue60
theorem fldF60x1 : FldF Try.prog 60 1 1 := fun a w => by simp [Instr.fieldAt, Instr.sureAddr, fieldPlace, Try.runUnderlying60, Try.sizeOf30]
theorem fldF60x0 : FldF Try.prog 60 0 0 := fun a w => by simp [Instr.fieldAt, Instr.sureAddr, fieldPlace, Try.runUnderlying60, Try.sizeOf30]
theorem callee30 : Callee Try.prog 30 := Try.call30
theorem callee31 : Callee Try.prog 31 := Try.call31
theorem slF87 : SlF Try.prog 87 26 1 24 (.slice none 0 0) := ⟨Try.underlying87, ⟨Try.t26, Try.type26, rfl, rfl, rfl⟩, rfl, by decide, by decide⟩
theorem fldF89x1 : FldF Try.prog 89 1 1 := fun a w => by simp [Instr.fieldAt, Instr.sureAddr, fieldPlace, Try.runUnderlying89, Try.sizeOf87]
theorem tyF87 : TyF Try.prog 87 false 1 := ⟨Try.isAgg87, Try.sizeOf87⟩
theorem ptrF56 : Try.prog.underlying 56 = some (.pointer (Try.prog.pointee 56)) := by simp [Program.pointee, Try.underlying56]
theorem callee32 : Callee Try.prog 32 := Try.call32
theorem tyF56 : TyF Try.prog 56 false 1 := ⟨Try.isAgg56, Try.sizeOf56⟩
theorem fldF89x0 : FldF Try.prog 89 0 0 := fun a w => by simp [Instr.fieldAt, Instr.sureAddr, fieldPlace, Try.runUnderlying89, Try.sizeOf61]
theorem tyF61 : TyF Try.prog 61 false 1 := ⟨Try.isAgg61, Try.sizeOf61⟩
theorem callee48 : Callee Try.prog 48 := Try.call48
theorem callee47 : Callee Try.prog 47 := Try.call47
theorem callee33 : Callee Try.prog 33 := Try.call33
theorem tyZ23 : TyZ Try.prog 23 (.int .i64 0) := Try.zeroValue23
theorem tyF23 : TyF Try.prog 23 false 1 := ⟨Try.isAgg23, Try.sizeOf23⟩
theorem tyZ30 : TyZ Try.prog 30 (.int .u64 0) := Try.zeroValue30
theorem tyZ51 : TyZ Try.prog 51 (.agg #[.int .u64 0, .int .u32 0, .bool false]) := Try.zeroValue51
theorem callee61 : Callee Try.prog 61 := Try.call61
theorem callee37 : Callee Try.prog 37 := Try.call37
theorem callee22 : Callee Try.prog 22 := Try.call22
theorem callee52 : Callee Try.prog 52 := Try.call52
theorem callee59 : Callee Try.prog 59 := Try.call59
theorem callee60 : Callee Try.prog 60 := Try.call60
theorem callee49 : Callee Try.prog 49 := Try.call49
theorem callee50 : Callee Try.prog 50 := Try.call50
theorem callee51 : Callee Try.prog 51 := Try.call51
theorem tyZ105 : TyZ Try.prog 105 (.slice none 0 0) := Try.zeroValue105
theorem tyF105 : TyF Try.prog 105 false 1 := ⟨Try.isAgg105, Try.sizeOf105⟩
theorem slF105 : SlF Try.prog 105 51 3 16 (.agg #[.int .u64 0, .int .u32 0, .bool false]) := ⟨Try.underlying105, ⟨Try.t51, Try.type51, rfl, rfl, rfl⟩, rfl, by decide, by decide⟩
theorem callee53 : Callee Try.prog 53 := Try.call53
theorem callee20 : Callee Try.prog 20 := Try.call20
theorem callee34 : Callee Try.prog 34 := Try.call34
theorem callee35 : Callee Try.prog 35 := Try.call35
theorem callee36 : Callee Try.prog 36 := Try.call36
theorem callee18 : Callee Try.prog 18 := Try.call18
theorem tyZ54 : TyZ Try.prog 54 (.agg #[.string ⟨#[]⟩, .string ⟨#[]⟩]) := Try.zeroValue54
theorem slF55 : SlF Try.prog 55 52 1 24 (.slice none 0 0) := ⟨Try.underlying55, ⟨Try.t52, Try.type52, rfl, rfl, rfl⟩, rfl, by decide, by decide⟩
theorem tyF52 : TyF Try.prog 52 false 1 := ⟨Try.isAgg52, Try.sizeOf52⟩
theorem callee19 : Callee Try.prog 19 := Try.call19
theorem callee21 : Callee Try.prog 21 := Try.call21
theorem arrF54 : ArrF Try.prog 54 2 9 1 := ⟨Try.underlying54, Try.sizeOf9⟩
theorem callee23 : Callee Try.prog 23 := Try.call23
end Go.Proofs.Ytjfdamiilndgeaa
