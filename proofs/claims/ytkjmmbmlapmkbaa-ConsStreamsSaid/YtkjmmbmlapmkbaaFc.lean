/- Facts on the program: types, places, callees. No statement of the seat is proved here; no condition. -/
import Derived.Test.YtkjmmbmlapmkbaaTy
import Derived.Test.YtkjmmbmlapmkbaaProg
namespace Go.Proofs.Ytkjmmbmlapmkbaa

theorem slF35 : SlF Try.prog 35 74 2 16 (.agg #[.int .u64 0, .int .u64 0]) := ⟨Try.underlying35, ⟨Try.t74, Try.type74, rfl, rfl, rfl⟩, rfl, by decide, by decide⟩
theorem callee13 : Callee Try.prog 13 := Try.call13
theorem tyF74 : TyF Try.prog 74 true 2 := ⟨Try.isAgg74, Try.sizeOf74⟩
theorem tyZ74 : TyZ Try.prog 74 (.agg #[.int .u64 0, .int .u64 0]) := Try.zeroValue74
theorem fldF74x1 : FldF Try.prog 74 1 1 := fun a w => by simp [Instr.fieldAt, Instr.sureAddr, fieldPlace, Try.runUnderlying74, Try.sizeOf38]
theorem tyF38 : TyF Try.prog 38 false 1 := ⟨Try.isAgg38, Try.sizeOf38⟩
theorem fldF74x0 : FldF Try.prog 74 0 0 := fun a w => by simp [Instr.fieldAt, Instr.sureAddr, fieldPlace, Try.runUnderlying74, Try.sizeOf38]
theorem callee27 : Callee Try.prog 27 := Try.call27
theorem callee28 : Callee Try.prog 28 := Try.call28
theorem slF55 : SlF Try.prog 55 30 1 24 (.slice none 0 0) := ⟨Try.underlying55, ⟨Try.t30, Try.type30, rfl, rfl, rfl⟩, rfl, by decide, by decide⟩
theorem fldF76x1 : FldF Try.prog 76 1 1 := fun a w => by simp [Instr.fieldAt, Instr.sureAddr, fieldPlace, Try.runUnderlying76, Try.sizeOf55]
theorem tyF55 : TyF Try.prog 55 false 1 := ⟨Try.isAgg55, Try.sizeOf55⟩
theorem slF30 : SlF Try.prog 30 5 1 1 (.int .u8 0) := ⟨Try.underlying30, ⟨Try.t5, Try.type5, rfl, rfl, rfl⟩, rfl, by decide, by decide⟩
theorem tyF30 : TyF Try.prog 30 false 1 := ⟨Try.isAgg30, Try.sizeOf30⟩
theorem callee12 : Callee Try.prog 12 := Try.call12
theorem tyZ67 : TyZ Try.prog 67 (.agg #[.int .i64 0, .bool false, .slice none 0 0]) := Try.zeroValue67
theorem tyF67 : TyF Try.prog 67 true 3 := ⟨Try.isAgg67, Try.sizeOf67⟩
theorem callee26 : Callee Try.prog 26 := Try.call26
theorem callee10 : Callee Try.prog 10 := Try.call10
theorem tyZ40 : TyZ Try.prog 40 (.agg #[.slice none 0 0]) := Try.zeroValue40
theorem fldF40x0 : FldF Try.prog 40 0 0 := fun a w => by simp [Instr.fieldAt, Instr.sureAddr, fieldPlace, Try.runUnderlying40, Try.sizeOf30]
theorem tyF40 : TyF Try.prog 40 true 1 := ⟨Try.isAgg40, Try.sizeOf40⟩
theorem callee21 : Callee Try.prog 21 := Try.call21
theorem slF31 : SlF Try.prog 31 3 1 8 (.int .i64 0) := ⟨Try.underlying31, ⟨Try.t3, Try.type3, rfl, rfl, rfl⟩, rfl, by decide, by decide⟩
theorem tyF3 : TyF Try.prog 3 false 1 := ⟨Try.isAgg3, Try.sizeOf3⟩
theorem slF49 : SlF Try.prog 49 81 3 16 (.agg #[.int .u64 0, .int .u32 0, .bool false]) := ⟨Try.underlying49, ⟨Try.t81, Try.type81, rfl, rfl, rfl⟩, rfl, by decide, by decide⟩
theorem slF45 : SlF Try.prog 45 49 1 24 (.slice none 0 0) := ⟨Try.underlying45, ⟨Try.t49, Try.type49, rfl, rfl, rfl⟩, rfl, by decide, by decide⟩
theorem tyZ24 : TyZ Try.prog 24 (.int .i64 0) := Try.zeroValue24
theorem tyF24 : TyF Try.prog 24 false 1 := ⟨Try.isAgg24, Try.sizeOf24⟩
theorem tyZ38 : TyZ Try.prog 38 (.int .u64 0) := Try.zeroValue38
theorem tyF81 : TyF Try.prog 81 true 3 := ⟨Try.isAgg81, Try.sizeOf81⟩
theorem tyZ81 : TyZ Try.prog 81 (.agg #[.int .u64 0, .int .u32 0, .bool false]) := Try.zeroValue81
theorem fldF81x1 : FldF Try.prog 81 1 1 := fun a w => by simp [Instr.fieldAt, Instr.sureAddr, fieldPlace, Try.runUnderlying81, Try.sizeOf50]
theorem tyF50 : TyF Try.prog 50 false 1 := ⟨Try.isAgg50, Try.sizeOf50⟩
theorem callee48 : Callee Try.prog 48 := Try.call48
theorem fldF81x0 : FldF Try.prog 81 0 0 := fun a w => by simp [Instr.fieldAt, Instr.sureAddr, fieldPlace, Try.runUnderlying81, Try.sizeOf38]
theorem fldF81x2 : FldF Try.prog 81 2 2 := fun a w => by simp [Instr.fieldAt, Instr.sureAddr, fieldPlace, Try.runUnderlying81, Try.sizeOf4]
theorem tyF4 : TyF Try.prog 4 false 1 := ⟨Try.isAgg4, Try.sizeOf4⟩
theorem callee42 : Callee Try.prog 42 := Try.call42
theorem ptrF32 : Try.prog.underlying 32 = some (.pointer (Try.prog.pointee 32)) := by simp [Program.pointee, Try.underlying32]
theorem callee29 : Callee Try.prog 29 := Try.call29
theorem tyF32 : TyF Try.prog 32 false 1 := ⟨Try.isAgg32, Try.sizeOf32⟩
theorem fldF76x0 : FldF Try.prog 76 0 0 := fun a w => by simp [Instr.fieldAt, Instr.sureAddr, fieldPlace, Try.runUnderlying76, Try.sizeOf35]
theorem tyF35 : TyF Try.prog 35 false 1 := ⟨Try.isAgg35, Try.sizeOf35⟩
theorem callee41 : Callee Try.prog 41 := Try.call41
theorem callee40 : Callee Try.prog 40 := Try.call40
theorem callee30 : Callee Try.prog 30 := Try.call30
theorem callee49 : Callee Try.prog 49 := Try.call49
theorem callee43 : Callee Try.prog 43 := Try.call43
theorem callee44 : Callee Try.prog 44 := Try.call44
theorem callee32 : Callee Try.prog 32 := Try.call32
theorem callee36 : Callee Try.prog 36 := Try.call36
theorem tyZ91 : TyZ Try.prog 91 (.slice none 0 0) := Try.zeroValue91
theorem tyF91 : TyF Try.prog 91 false 1 := ⟨Try.isAgg91, Try.sizeOf91⟩
theorem slF91 : SlF Try.prog 91 81 3 16 (.agg #[.int .u64 0, .int .u32 0, .bool false]) := ⟨Try.underlying91, ⟨Try.t81, Try.type81, rfl, rfl, rfl⟩, rfl, by decide, by decide⟩
theorem callee45 : Callee Try.prog 45 := Try.call45
theorem callee14 : Callee Try.prog 14 := Try.call14
theorem slF41 : SlF Try.prog 41 50 1 4 (.int .u32 0) := ⟨Try.underlying41, ⟨Try.t50, Try.type50, rfl, rfl, rfl⟩, rfl, by decide, by decide⟩
theorem tyF49 : TyF Try.prog 49 false 1 := ⟨Try.isAgg49, Try.sizeOf49⟩
theorem callee33 : Callee Try.prog 33 := Try.call33
theorem callee31 : Callee Try.prog 31 := Try.call31
theorem callee17 : Callee Try.prog 17 := Try.call17
theorem callee15 : Callee Try.prog 15 := Try.call15
theorem callee20 : Callee Try.prog 20 := Try.call20
theorem callee8 : Callee Try.prog 8 := Try.call8
theorem callee9 : Callee Try.prog 9 := Try.call9
theorem callee16 : Callee Try.prog 16 := Try.call16
theorem callee46 : Callee Try.prog 46 := Try.call46
theorem callee35 : Callee Try.prog 35 := Try.call35
theorem callee47 : Callee Try.prog 47 := Try.call47
theorem callee38 : Callee Try.prog 38 := Try.call38
theorem callee37 : Callee Try.prog 37 := Try.call37
theorem callee22 : Callee Try.prog 22 := Try.call22
end Go.Proofs.Ytkjmmbmlapmkbaa
