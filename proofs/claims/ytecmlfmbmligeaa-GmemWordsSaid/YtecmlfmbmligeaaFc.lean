/- Facts on the program: types, places, callees. No statement of the seat is proved here; no condition. -/
import Derived.Test.YtecmlfmbmligeaaTy
import Derived.Test.YtecmlfmbmligeaaProg
namespace Go.Proofs.Ytecmlfmbmligeaa

theorem slF22 : SlF Try.prog 22 36 2 16 (.agg #[.int .u64 0, .int .u64 0]) := ⟨Try.underlying22, ⟨Try.t36, Try.type36, rfl, rfl, rfl⟩, rfl, by decide, by decide⟩
theorem callee32 : Callee Try.prog 32 := Try.call32
theorem tyF36 : TyF Try.prog 36 true 2 := ⟨Try.isAgg36, Try.sizeOf36⟩
theorem tyZ36 : TyZ Try.prog 36 (.agg #[.int .u64 0, .int .u64 0]) := Try.zeroValue36
theorem fldF36x1 : FldF Try.prog 36 1 1 := fun a w => by simp [Instr.fieldAt, Instr.sureAddr, fieldPlace, Try.runUnderlying36, Try.sizeOf26]
theorem tyF26 : TyF Try.prog 26 false 1 := ⟨Try.isAgg26, Try.sizeOf26⟩
theorem fldF36x0 : FldF Try.prog 36 0 0 := fun a w => by simp [Instr.fieldAt, Instr.sureAddr, fieldPlace, Try.runUnderlying36, Try.sizeOf26]
theorem callee11 : Callee Try.prog 11 := Try.call11
theorem callee33 : Callee Try.prog 33 := Try.call33
theorem slF60 : SlF Try.prog 60 38 1 24 (.slice none 0 0) := ⟨Try.underlying60, ⟨Try.t38, Try.type38, rfl, rfl, rfl⟩, rfl, by decide, by decide⟩
theorem fldF62x1 : FldF Try.prog 62 1 1 := fun a w => by simp [Instr.fieldAt, Instr.sureAddr, fieldPlace, Try.runUnderlying62, Try.sizeOf60]
theorem tyF60 : TyF Try.prog 60 false 1 := ⟨Try.isAgg60, Try.sizeOf60⟩
theorem slF38 : SlF Try.prog 38 5 1 1 (.int .u8 0) := ⟨Try.underlying38, ⟨Try.t5, Try.type5, rfl, rfl, rfl⟩, rfl, by decide, by decide⟩
theorem tyF38 : TyF Try.prog 38 false 1 := ⟨Try.isAgg38, Try.sizeOf38⟩
theorem callee12 : Callee Try.prog 12 := Try.call12
theorem ptrF30 : Try.prog.underlying 30 = some (.pointer (Try.prog.pointee 30)) := by simp [Program.pointee, Try.underlying30]
theorem callee34 : Callee Try.prog 34 := Try.call34
theorem callee35 : Callee Try.prog 35 := Try.call35
theorem tyF30 : TyF Try.prog 30 false 1 := ⟨Try.isAgg30, Try.sizeOf30⟩
theorem fldF62x0 : FldF Try.prog 62 0 0 := fun a w => by simp [Instr.fieldAt, Instr.sureAddr, fieldPlace, Try.runUnderlying62, Try.sizeOf22]
theorem tyF22 : TyF Try.prog 22 false 1 := ⟨Try.isAgg22, Try.sizeOf22⟩
theorem callee42 : Callee Try.prog 42 := Try.call42
theorem callee41 : Callee Try.prog 41 := Try.call41
theorem callee36 : Callee Try.prog 36 := Try.call36
theorem tyF5 : TyF Try.prog 5 false 1 := ⟨Try.isAgg5, Try.sizeOf5⟩
theorem callee17 : Callee Try.prog 17 := Try.call17
theorem callee16 : Callee Try.prog 16 := Try.call16
theorem callee20 : Callee Try.prog 20 := Try.call20
theorem callee8 : Callee Try.prog 8 := Try.call8
theorem callee15 : Callee Try.prog 15 := Try.call15
theorem slF41 : SlF Try.prog 41 3 1 8 (.int .i64 0) := ⟨Try.underlying41, ⟨Try.t3, Try.type3, rfl, rfl, rfl⟩, rfl, by decide, by decide⟩
theorem tyF3 : TyF Try.prog 3 false 1 := ⟨Try.isAgg3, Try.sizeOf3⟩
theorem callee38 : Callee Try.prog 38 := Try.call38
theorem callee22 : Callee Try.prog 22 := Try.call22
theorem callee18 : Callee Try.prog 18 := Try.call18
theorem callee43 : Callee Try.prog 43 := Try.call43
theorem callee37 : Callee Try.prog 37 := Try.call37
theorem callee21 : Callee Try.prog 21 := Try.call21
end Go.Proofs.Ytecmlfmbmligeaa
