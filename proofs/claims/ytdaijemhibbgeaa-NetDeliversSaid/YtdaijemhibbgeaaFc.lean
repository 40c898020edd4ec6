/- Facts on the program: types, places, callees. No statement of the seat is proved here; no condition. -/
import Derived.Test.YtdaijemhibbgeaaTy
import Derived.Test.YtdaijemhibbgeaaProg
set_option maxRecDepth 100000
namespace Go.Proofs.Ytdaijemhibbgeaa

theorem slF27 : SlF Try.prog 27 3 1 8 (.int .i64 0) := ⟨Try.underlying27, ⟨Try.t3, Try.type3, rfl, rfl, rfl⟩, rfl, by decide, by decide⟩
theorem tyF3 : TyF Try.prog 3 false 1 := ⟨Try.isAgg3, Try.sizeOf3⟩
theorem slF58 : SlF Try.prog 58 57 3 16 (.agg #[.int .u64 0, .int .u32 0, .bool false]) := ⟨Try.underlying58, ⟨Try.t57, Try.type57, rfl, rfl, rfl⟩, rfl, by decide, by decide⟩
theorem slF33 : SlF Try.prog 33 58 1 24 (.slice none 0 0) := ⟨Try.underlying33, ⟨Try.t58, Try.type58, rfl, rfl, rfl⟩, rfl, by decide, by decide⟩
theorem slF38 : SlF Try.prog 38 75 2 16 (.agg #[.int .u64 0, .int .u64 0]) := ⟨Try.underlying38, ⟨Try.t75, Try.type75, rfl, rfl, rfl⟩, rfl, by decide, by decide⟩
theorem tyF75 : TyF Try.prog 75 true 2 := ⟨Try.isAgg75, Try.sizeOf75⟩
theorem tyZ75 : TyZ Try.prog 75 (.agg #[.int .u64 0, .int .u64 0]) := Try.zeroValue75
theorem fldF75x1 : FldF Try.prog 75 1 1 := fun a w => by simp [Instr.fieldAt, Instr.sureAddr, fieldPlace, Try.runUnderlying75, Try.sizeOf28]
theorem tyF28 : TyF Try.prog 28 false 1 := ⟨Try.isAgg28, Try.sizeOf28⟩
theorem fldF75x0 : FldF Try.prog 75 0 0 := fun a w => by simp [Instr.fieldAt, Instr.sureAddr, fieldPlace, Try.runUnderlying75, Try.sizeOf28]
theorem callee29 : Callee Try.prog 29 := Try.call29
theorem callee30 : Callee Try.prog 30 := Try.call30
theorem slF76 : SlF Try.prog 76 24 1 24 (.slice none 0 0) := ⟨Try.underlying76, ⟨Try.t24, Try.type24, rfl, rfl, rfl⟩, rfl, by decide, by decide⟩
theorem fldF78x1 : FldF Try.prog 78 1 1 := fun a w => by simp [Instr.fieldAt, Instr.sureAddr, fieldPlace, Try.runUnderlying78, Try.sizeOf76]
theorem tyF76 : TyF Try.prog 76 false 1 := ⟨Try.isAgg76, Try.sizeOf76⟩
theorem slF24 : SlF Try.prog 24 5 1 1 (.int .u8 0) := ⟨Try.underlying24, ⟨Try.t5, Try.type5, rfl, rfl, rfl⟩, rfl, by decide, by decide⟩
theorem tyF24 : TyF Try.prog 24 false 1 := ⟨Try.isAgg24, Try.sizeOf24⟩
theorem ptrF35 : Try.prog.underlying 35 = some (.pointer (Try.prog.pointee 35)) := by simp [Program.pointee, Try.underlying35]
theorem callee31 : Callee Try.prog 31 := Try.call31
theorem tyF35 : TyF Try.prog 35 false 1 := ⟨Try.isAgg35, Try.sizeOf35⟩
theorem fldF78x0 : FldF Try.prog 78 0 0 := fun a w => by simp [Instr.fieldAt, Instr.sureAddr, fieldPlace, Try.runUnderlying78, Try.sizeOf38]
theorem tyF38 : TyF Try.prog 38 false 1 := ⟨Try.isAgg38, Try.sizeOf38⟩
theorem callee46 : Callee Try.prog 46 := Try.call46
theorem callee45 : Callee Try.prog 45 := Try.call45
theorem callee32 : Callee Try.prog 32 := Try.call32
theorem tyZ30 : TyZ Try.prog 30 (.int .i64 0) := Try.zeroValue30
theorem tyF30 : TyF Try.prog 30 false 1 := ⟨Try.isAgg30, Try.sizeOf30⟩
theorem tyZ28 : TyZ Try.prog 28 (.int .u64 0) := Try.zeroValue28
theorem tyF57 : TyF Try.prog 57 true 3 := ⟨Try.isAgg57, Try.sizeOf57⟩
theorem tyZ57 : TyZ Try.prog 57 (.agg #[.int .u64 0, .int .u32 0, .bool false]) := Try.zeroValue57
theorem fldF57x1 : FldF Try.prog 57 1 1 := fun a w => by simp [Instr.fieldAt, Instr.sureAddr, fieldPlace, Try.runUnderlying57, Try.sizeOf48]
theorem tyF48 : TyF Try.prog 48 false 1 := ⟨Try.isAgg48, Try.sizeOf48⟩
theorem callee57 : Callee Try.prog 57 := Try.call57
theorem fldF57x0 : FldF Try.prog 57 0 0 := fun a w => by simp [Instr.fieldAt, Instr.sureAddr, fieldPlace, Try.runUnderlying57, Try.sizeOf28]
theorem fldF57x2 : FldF Try.prog 57 2 2 := fun a w => by simp [Instr.fieldAt, Instr.sureAddr, fieldPlace, Try.runUnderlying57, Try.sizeOf4]
theorem tyF4 : TyF Try.prog 4 false 1 := ⟨Try.isAgg4, Try.sizeOf4⟩
theorem callee48 : Callee Try.prog 48 := Try.call48
theorem callee50 : Callee Try.prog 50 := Try.call50
theorem callee35 : Callee Try.prog 35 := Try.call35
theorem tyF58 : TyF Try.prog 58 false 1 := ⟨Try.isAgg58, Try.sizeOf58⟩
theorem callee37 : Callee Try.prog 37 := Try.call37
theorem callee44 : Callee Try.prog 44 := Try.call44
theorem callee26 : Callee Try.prog 26 := Try.call26
theorem callee49 : Callee Try.prog 49 := Try.call49
theorem callee34 : Callee Try.prog 34 := Try.call34
theorem callee51 : Callee Try.prog 51 := Try.call51
theorem tyZ96 : TyZ Try.prog 96 (.slice none 0 0) := Try.zeroValue96
theorem tyF96 : TyF Try.prog 96 false 1 := ⟨Try.isAgg96, Try.sizeOf96⟩
theorem slF96 : SlF Try.prog 96 57 3 16 (.agg #[.int .u64 0, .int .u32 0, .bool false]) := ⟨Try.underlying96, ⟨Try.t57, Try.type57, rfl, rfl, rfl⟩, rfl, by decide, by decide⟩
theorem callee52 : Callee Try.prog 52 := Try.call52
theorem callee13 : Callee Try.prog 13 := Try.call13
theorem tyF26 : TyF Try.prog 26 true 15 := ⟨Try.isAgg26, Try.sizeOf26⟩
theorem fldF26x2 : FldF Try.prog 26 2 12 := fun a w => by simp [Instr.fieldAt, Instr.sureAddr, fieldPlace, Try.runUnderlying26, Try.sizeOf3]
theorem fldF26x3 : FldF Try.prog 26 3 13 := fun a w => by simp [Instr.fieldAt, Instr.sureAddr, fieldPlace, Try.runUnderlying26, Try.sizeOf23]
theorem tyF23 : TyF Try.prog 23 false 1 := ⟨Try.isAgg23, Try.sizeOf23⟩
theorem fldF26x4 : FldF Try.prog 26 4 14 := fun a w => by simp [Instr.fieldAt, Instr.sureAddr, fieldPlace, Try.runUnderlying26, Try.sizeOf24]
theorem callee47 : Callee Try.prog 47 := Try.call47
theorem fldF26x0 : FldF Try.prog 26 0 0 := fun a w => by simp [Instr.fieldAt, Instr.sureAddr, fieldPlace, Try.runUnderlying26, Try.sizeOf22]
theorem arrF22 : ArrF Try.prog 22 6 5 1 := ⟨Try.underlying22, Try.sizeOf5⟩
theorem fldF26x1 : FldF Try.prog 26 1 6 := fun a w => by simp [Instr.fieldAt, Instr.sureAddr, fieldPlace, Try.runUnderlying26, Try.sizeOf22]
theorem callee53 : Callee Try.prog 53 := Try.call53
theorem callee39 : Callee Try.prog 39 := Try.call39
theorem callee33 : Callee Try.prog 33 := Try.call33
theorem callee28 : Callee Try.prog 28 := Try.call28
theorem tyZ50 : TyZ Try.prog 50 (.agg #[.int .u8 0, .int .u16 0, .int .u16 0, .int .u16 0]) := Try.zeroValue50
theorem tyF50 : TyF Try.prog 50 true 4 := ⟨Try.isAgg50, Try.sizeOf50⟩
theorem fldF50x0 : FldF Try.prog 50 0 0 := fun a w => by simp [Instr.fieldAt, Instr.sureAddr, fieldPlace, Try.runUnderlying50, Try.sizeOf5]
theorem tyF5 : TyF Try.prog 5 false 1 := ⟨Try.isAgg5, Try.sizeOf5⟩
theorem fldF50x1 : FldF Try.prog 50 1 1 := fun a w => by simp [Instr.fieldAt, Instr.sureAddr, fieldPlace, Try.runUnderlying50, Try.sizeOf23]
theorem fldF50x2 : FldF Try.prog 50 2 2 := fun a w => by simp [Instr.fieldAt, Instr.sureAddr, fieldPlace, Try.runUnderlying50, Try.sizeOf23]
theorem fldF50x3 : FldF Try.prog 50 3 3 := fun a w => by simp [Instr.fieldAt, Instr.sureAddr, fieldPlace, Try.runUnderlying50, Try.sizeOf23]
theorem arrF93 : ArrF Try.prog 93 3 23 1 := ⟨Try.underlying93, Try.sizeOf23⟩
theorem callee36 : Callee Try.prog 36 := Try.call36
theorem callee38 : Callee Try.prog 38 := Try.call38
theorem slF43 : SlF Try.prog 43 48 1 4 (.int .u32 0) := ⟨Try.underlying43, ⟨Try.t48, Try.type48, rfl, rfl, rfl⟩, rfl, by decide, by decide⟩
theorem callee10 : Callee Try.prog 10 := Try.call10
theorem callee7 : Callee Try.prog 7 := Try.call7
theorem callee8 : Callee Try.prog 8 := Try.call8
theorem callee9 : Callee Try.prog 9 := Try.call9
theorem callee12 : Callee Try.prog 12 := Try.call12
theorem callee11 : Callee Try.prog 11 := Try.call11
theorem callee14 : Callee Try.prog 14 := Try.call14
theorem callee15 : Callee Try.prog 15 := Try.call15
theorem callee16 : Callee Try.prog 16 := Try.call16
theorem callee17 : Callee Try.prog 17 := Try.call17
end Go.Proofs.Ytdaijemhibbgeaa
