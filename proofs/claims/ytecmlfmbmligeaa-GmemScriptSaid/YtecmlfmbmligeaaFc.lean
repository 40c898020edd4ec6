/- Facts on the program: types, places, callees. No statement of the seat is proved here; no condition. -/
import Derived.Test.YtecmlfmbmligeaaTy
import Derived.Test.YtecmlfmbmligeaaProg
namespace Go.Proofs.Ytecmlfmbmligeaa

theorem slF22 : SlF Try.prog 22 36 2 16 (.agg #[.int .u64 0, .int .u64 0]) := ⟨Try.underlying22, ⟨Try.t36, Try.type36, rfl, rfl, rfl⟩, rfl, by decide, by decide⟩
theorem fldF36x1 : FldF Try.prog 36 1 1 := fun a w => by simp [Instr.fieldAt, Instr.sureAddr, fieldPlace, Try.runUnderlying36, Try.sizeOf26]
theorem tyF26 : TyF Try.prog 26 false 1 := ⟨Try.isAgg26, Try.sizeOf26⟩
theorem slF23 : SlF Try.prog 23 40 5 56 (.agg #[.int .i64 0, .int .u64 0, .int .i64 0, .int .u64 0, .slice none 0 0]) := ⟨Try.underlying23, ⟨Try.t40, Try.type40, rfl, rfl, rfl⟩, rfl, by decide, by decide⟩
theorem fldF40x4 : FldF Try.prog 40 4 4 := fun a w => by simp [Instr.fieldAt, Instr.sureAddr, fieldPlace, Try.runUnderlying40, Try.sizeOf38]
theorem tyF38 : TyF Try.prog 38 false 1 := ⟨Try.isAgg38, Try.sizeOf38⟩
theorem tyF36 : TyF Try.prog 36 true 2 := ⟨Try.isAgg36, Try.sizeOf36⟩
theorem tyZ36 : TyZ Try.prog 36 (.agg #[.int .u64 0, .int .u64 0]) := Try.zeroValue36
theorem fldF36x0 : FldF Try.prog 36 0 0 := fun a w => by simp [Instr.fieldAt, Instr.sureAddr, fieldPlace, Try.runUnderlying36, Try.sizeOf26]
theorem callee11 : Callee Try.prog 11 := Try.call11
theorem callee33 : Callee Try.prog 33 := Try.call33
theorem slF60 : SlF Try.prog 60 38 1 24 (.slice none 0 0) := ⟨Try.underlying60, ⟨Try.t38, Try.type38, rfl, rfl, rfl⟩, rfl, by decide, by decide⟩
theorem fldF62x1 : FldF Try.prog 62 1 1 := fun a w => by simp [Instr.fieldAt, Instr.sureAddr, fieldPlace, Try.runUnderlying62, Try.sizeOf60]
theorem tyF60 : TyF Try.prog 60 false 1 := ⟨Try.isAgg60, Try.sizeOf60⟩
theorem slF38 : SlF Try.prog 38 5 1 1 (.int .u8 0) := ⟨Try.underlying38, ⟨Try.t5, Try.type5, rfl, rfl, rfl⟩, rfl, by decide, by decide⟩
theorem ptrF30 : Try.prog.underlying 30 = some (.pointer (Try.prog.pointee 30)) := by simp [Program.pointee, Try.underlying30]
theorem callee34 : Callee Try.prog 34 := Try.call34
theorem tyF30 : TyF Try.prog 30 false 1 := ⟨Try.isAgg30, Try.sizeOf30⟩
theorem fldF62x0 : FldF Try.prog 62 0 0 := fun a w => by simp [Instr.fieldAt, Instr.sureAddr, fieldPlace, Try.runUnderlying62, Try.sizeOf22]
theorem tyF22 : TyF Try.prog 22 false 1 := ⟨Try.isAgg22, Try.sizeOf22⟩
theorem callee42 : Callee Try.prog 42 := Try.call42
theorem callee41 : Callee Try.prog 41 := Try.call41
theorem callee36 : Callee Try.prog 36 := Try.call36
theorem callee32 : Callee Try.prog 32 := Try.call32
theorem callee12 : Callee Try.prog 12 := Try.call12
theorem callee35 : Callee Try.prog 35 := Try.call35
theorem tyF5 : TyF Try.prog 5 false 1 := ⟨Try.isAgg5, Try.sizeOf5⟩
theorem callee17 : Callee Try.prog 17 := Try.call17
theorem callee16 : Callee Try.prog 16 := Try.call16
theorem callee20 : Callee Try.prog 20 := Try.call20
theorem callee8 : Callee Try.prog 8 := Try.call8
theorem callee9 : Callee Try.prog 9 := Try.call9
theorem callee10 : Callee Try.prog 10 := Try.call10
theorem callee13 : Callee Try.prog 13 := Try.call13
theorem tyF40 : TyF Try.prog 40 true 5 := ⟨Try.isAgg40, Try.sizeOf40⟩
theorem tyZ40 : TyZ Try.prog 40 (.agg #[.int .i64 0, .int .u64 0, .int .i64 0, .int .u64 0, .slice none 0 0]) := Try.zeroValue40
theorem fldF40x2 : FldF Try.prog 40 2 2 := fun a w => by simp [Instr.fieldAt, Instr.sureAddr, fieldPlace, Try.runUnderlying40, Try.sizeOf3]
theorem tyF3 : TyF Try.prog 3 false 1 := ⟨Try.isAgg3, Try.sizeOf3⟩
theorem callee15 : Callee Try.prog 15 := Try.call15
theorem fldF40x0 : FldF Try.prog 40 0 0 := fun a w => by simp [Instr.fieldAt, Instr.sureAddr, fieldPlace, Try.runUnderlying40, Try.sizeOf3]
theorem fldF40x1 : FldF Try.prog 40 1 1 := fun a w => by simp [Instr.fieldAt, Instr.sureAddr, fieldPlace, Try.runUnderlying40, Try.sizeOf26]
theorem fldF40x3 : FldF Try.prog 40 3 3 := fun a w => by simp [Instr.fieldAt, Instr.sureAddr, fieldPlace, Try.runUnderlying40, Try.sizeOf26]
theorem callee19 : Callee Try.prog 19 := Try.call19
theorem callee18 : Callee Try.prog 18 := Try.call18
theorem callee43 : Callee Try.prog 43 := Try.call43
theorem callee37 : Callee Try.prog 37 := Try.call37
theorem callee21 : Callee Try.prog 21 := Try.call21
theorem callee38 : Callee Try.prog 38 := Try.call38
theorem callee22 : Callee Try.prog 22 := Try.call22
theorem callee39 : Callee Try.prog 39 := Try.call39
theorem fldF67x1 : FldF Try.prog 67 1 1 := fun a w => by simp [Instr.fieldAt, Instr.sureAddr, fieldPlace, Try.runUnderlying67, Try.sizeOf60]
theorem fldF67x0 : FldF Try.prog 67 0 0 := fun a w => by simp [Instr.fieldAt, Instr.sureAddr, fieldPlace, Try.runUnderlying67, Try.sizeOf22]
theorem callee40 : Callee Try.prog 40 := Try.call40
theorem eqIn36 (d : Nat) (w : World) (x y : Region) : (Op.equalIn (d + 2) 36 (.agg #[vU64 x.At, vU64 x.Len]) (.agg #[vU64 y.At, vU64 y.Len])).run Try.prog w = .ok (x == y) w := by
  rw [run_equalIn_agg w (d + 1) 36 _ _ (by rw [Program.fieldsOf, Try.underlying36]) Try.stoodInHeld36]
  simp only [Program.fieldsOf, Try.underlying36]
  refine (eqf_cons (r := x.At == y.At) (by decide) (part_one Try.isAgg26 rfl) (part_one Try.isAgg26 rfl) ((run_equalIn_int w (d + 0) 26 .u64 .u64 _ _ Try.underlying26).trans (congrArg (fun b => Result.ok b w) (eq_u64 _ _)))).trans ?_
  refine eq_step (fun hq => ?_) (fun hq => ?_)
  · rw [eq_ff (x := x) (y := y) (fun e => by rw [e] at hq; simp at hq)]
  refine (eqf_cons (r := x.Len == y.Len) (by decide) (part_one Try.isAgg26 rfl) (part_one Try.isAgg26 rfl) ((run_equalIn_int w (d + 0) 26 .u64 .u64 _ _ Try.underlying26).trans (congrArg (fun b => Result.ok b w) (eq_u64 _ _)))).trans ?_
  refine eq_step (fun hq => ?_) (fun hq => ?_)
  · rw [eq_ff (x := x) (y := y) (fun e => by rw [e] at hq; simp at hq)]
  rw [eq_tt (x := x) (y := y) (by rcases x; rcases y; simp_all)]
  rfl
theorem eqT36_neq {X Y : Operand} (x y : Region) : Bin Try.prog .neq 36 X Y (.agg #[vU64 x.At, vU64 x.Len]) (.agg #[vU64 y.At, vU64 y.Len]) (.bool (x != y)) := fun w => by
  simp only [Sem.run_bind, run_eqGuard_agg w .neq 36 X Y _ _ Try.eqGuardType36, Result.andThen_ok]
  rw [run_neq_struct, show (10000 : Nat) = 9998 + 2 from rfl, eqIn36]; rfl
theorem callee23 : Callee Try.prog 23 := Try.call23
theorem callee24 : Callee Try.prog 24 := Try.call24
theorem callee25 : Callee Try.prog 25 := Try.call25
theorem callee26 : Callee Try.prog 26 := Try.call26
theorem callee27 : Callee Try.prog 27 := Try.call27
theorem callee28 : Callee Try.prog 28 := Try.call28
theorem callee29 : Callee Try.prog 29 := Try.call29
theorem callee31 : Callee Try.prog 31 := Try.call31
theorem callee30 : Callee Try.prog 30 := Try.call30
end Go.Proofs.Ytecmlfmbmligeaa
