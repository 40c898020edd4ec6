/- Facts on the program: types, places, callees. No statement of the seat is proved here; no condition. -/
import Derived.Test.YtamdpkddehhocaaTy
import Derived.Test.YtamdpkddehhocaaProg
namespace Go.Proofs.Ytamdpkddehhocaa

theorem tyZ60 : TyZ Try.prog 60 (.agg #[.int .u8 0, .int .u8 0, .int .u8 0, .int .u8 0, .int .u8 0, .int .u8 0, .int .u8 0, .int .u8 0, .int .u8 0, .int .u8 0, .int .u8 0, .int .u8 0, .int .u8 0, .int .u8 0, .int .u8 0, .int .u8 0]) := Try.zeroValue60
theorem fldF29_0 : FldF Try.prog 29 0 0 := fun a w => by simp [Instr.fieldAt, Instr.sureAddr, fieldPlace, Try.runUnderlying29, Try.sizeOf26]
theorem tyF26 : TyF Try.prog 26 false 1 := ⟨Try.isAgg26, Try.sizeOf26⟩
theorem arrF60 : ArrF Try.prog 60 16 5 1 := ⟨Try.underlying60, Try.sizeOf5⟩
theorem tyF5 : TyF Try.prog 5 false 1 := ⟨Try.isAgg5, Try.sizeOf5⟩
theorem callee38 : Callee Try.prog 38 := Try.call38
theorem fldF29_1 : FldF Try.prog 29 1 1 := fun a w => by simp [Instr.fieldAt, Instr.sureAddr, fieldPlace, Try.runUnderlying29, Try.sizeOf27]
theorem tyF27 : TyF Try.prog 27 false 1 := ⟨Try.isAgg27, Try.sizeOf27⟩
theorem fldF29_2 : FldF Try.prog 29 2 2 := fun a w => by simp [Instr.fieldAt, Instr.sureAddr, fieldPlace, Try.runUnderlying29, Try.sizeOf22]
theorem tyF22 : TyF Try.prog 22 false 1 := ⟨Try.isAgg22, Try.sizeOf22⟩
theorem fldF29_3 : FldF Try.prog 29 3 3 := fun a w => by simp [Instr.fieldAt, Instr.sureAddr, fieldPlace, Try.runUnderlying29, Try.sizeOf22]
theorem callee13 : Callee Try.prog 13 := Try.call13
theorem callee9 : Callee Try.prog 9 := Try.call9
theorem callee8 : Callee Try.prog 8 := Try.call8
theorem callee10 : Callee Try.prog 10 := Try.call10
theorem callee11 : Callee Try.prog 11 := Try.call11
end Go.Proofs.Ytamdpkddehhocaa
