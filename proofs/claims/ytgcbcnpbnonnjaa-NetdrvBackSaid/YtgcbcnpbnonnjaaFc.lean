/- Facts on the program: types, places, callees. No statement of the seat is proved here; no condition. -/
import Derived.Test.YtgcbcnpbnonnjaaTy
import Derived.Test.YtgcbcnpbnonnjaaProg
set_option maxRecDepth 100000
namespace Go.Proofs.Ytgcbcnpbnonnjaa

theorem tyZ30 : TyZ Try.prog 30 (.int .i64 0) := Try.zeroValue30
theorem tyF30 : TyF Try.prog 30 false 1 := ⟨Try.isAgg30, Try.sizeOf30⟩
theorem tyZ22 : TyZ Try.prog 22 (.int .u64 0) := Try.zeroValue22
theorem Xc : TyF Try.prog 22 false 1 := ⟨Try.isAgg22, Try.sizeOf22⟩
theorem XS : SlF Try.prog 25 29 3 16 (.agg #[.int .u64 0, .int .u32 0, .bool false]) := ⟨Try.underlying25, ⟨Try.t29, Try.type29, rfl, rfl, rfl⟩, rfl, by decide, by decide⟩
theorem tyF29 : TyF Try.prog 29 true 3 := ⟨Try.isAgg29, Try.sizeOf29⟩
theorem tyZ29 : TyZ Try.prog 29 (.agg #[.int .u64 0, .int .u32 0, .bool false]) := Try.zeroValue29
theorem ZV : FldF Try.prog 29 1 1 := fun a w => by simp [Instr.fieldAt, Instr.sureAddr, fieldPlace, Try.runUnderlying29, Try.sizeOf27]
theorem tyF27 : TyF Try.prog 27 false 1 := ⟨Try.isAgg27, Try.sizeOf27⟩
theorem callee71 : QX Try.prog 71 := Try.call71
theorem fldF29x0 : FldF Try.prog 29 0 0 := fun a w => by simp [Instr.fieldAt, Instr.sureAddr, fieldPlace, Try.runUnderlying29, Try.sizeOf22]
theorem Km : FldF Try.prog 29 2 2 := fun a w => by simp [Instr.fieldAt, Instr.sureAddr, fieldPlace, Try.runUnderlying29, Try.sizeOf4]
theorem tyF4 : TyF Try.prog 4 false 1 := ⟨Try.isAgg4, Try.sizeOf4⟩
theorem callee57 : QX Try.prog 57 := Try.call57
theorem callee76 : QX Try.prog 76 := Try.call76
theorem tyZ124 : TyZ Try.prog 124 (.slice none 0 0) := Try.zeroValue124
theorem tyF124 : TyF Try.prog 124 false 1 := ⟨Try.isAgg124, Try.sizeOf124⟩
theorem slF124 : SlF Try.prog 124 29 3 16 (.agg #[.int .u64 0, .int .u32 0, .bool false]) := ⟨Try.underlying124, ⟨Try.t29, Try.type29, rfl, rfl, rfl⟩, rfl, by decide, by decide⟩
theorem callee77 : QX Try.prog 77 := Try.call77
theorem callee72 : QX Try.prog 72 := Try.call72
theorem slF23 : SlF Try.prog 23 3 1 8 (.int .i64 0) := ⟨Try.underlying23, ⟨Try.t3, Try.type3, rfl, rfl, rfl⟩, rfl, by decide, by decide⟩
theorem tyF3 : TyF Try.prog 3 false 1 := ⟨Try.isAgg3, Try.sizeOf3⟩
theorem callee73 : QX Try.prog 73 := Try.call73
theorem callee58 : QX Try.prog 58 := Try.call58
theorem callee59 : QX Try.prog 59 := Try.call59
theorem callee32 : QX Try.prog 32 := Try.call32
theorem slF42 : SlF Try.prog 42 75 2 16 (.agg #[.int .u64 0, .int .u64 0]) := ⟨Try.underlying42, ⟨Try.t75, Try.type75, rfl, rfl, rfl⟩, rfl, by decide, by decide⟩
theorem tyF75 : TyF Try.prog 75 true 2 := ⟨Try.isAgg75, Try.sizeOf75⟩
theorem tyZ75 : TyZ Try.prog 75 (.agg #[.int .u64 0, .int .u64 0]) := Try.zeroValue75
theorem XK : FldF Try.prog 75 1 1 := fun a w => by simp [Instr.fieldAt, Instr.sureAddr, fieldPlace, Try.runUnderlying75, Try.sizeOf22]
theorem Yc : FldF Try.prog 75 0 0 := fun a w => by simp [Instr.fieldAt, Instr.sureAddr, fieldPlace, Try.runUnderlying75, Try.sizeOf22]
theorem callee33 : QX Try.prog 33 := Try.call33
theorem callee34 : QX Try.prog 34 := Try.call34
theorem slF80 : SlF Try.prog 80 35 1 24 (.slice none 0 0) := ⟨Try.underlying80, ⟨Try.t35, Try.type35, rfl, rfl, rfl⟩, rfl, by decide, by decide⟩
theorem fldF82x1 : FldF Try.prog 82 1 1 := fun a w => by simp [Instr.fieldAt, Instr.sureAddr, fieldPlace, Try.runUnderlying82, Try.sizeOf80]
theorem tyF80 : TyF Try.prog 80 false 1 := ⟨Try.isAgg80, Try.sizeOf80⟩
theorem Xg : SlF Try.prog 35 5 1 1 (.int .u8 0) := ⟨Try.underlying35, ⟨Try.t5, Try.type5, rfl, rfl, rfl⟩, rfl, by decide, by decide⟩
theorem tyF35 : TyF Try.prog 35 false 1 := ⟨Try.isAgg35, Try.sizeOf35⟩
theorem callee11 : QX Try.prog 11 := Try.call11
theorem callee35 : QX Try.prog 35 := Try.call35
theorem fldF84x1 : FldF Try.prog 84 1 1 := fun a w => by simp [Instr.fieldAt, Instr.sureAddr, fieldPlace, Try.runUnderlying84, Try.sizeOf80]
theorem callee13 : QX Try.prog 13 := Try.call13
theorem tyZ37 : TyZ Try.prog 37 (.agg #[.int .u8 0, .int .u8 0, .int .u8 0, .int .u8 0, .int .u8 0, .int .u8 0, .int .u8 0, .int .u8 0, .int .u8 0, .int .u8 0, .int .u8 0, .int .u8 0, .int .i64 0, .int .u16 0, .slice none 0 0]) := Try.zeroValue37
theorem Xo : TyF Try.prog 37 true 15 := ⟨Try.isAgg37, Try.sizeOf37⟩
theorem ptrF39 : Try.prog.underlying 39 = some (.pointer (Try.prog.pointee 39)) := by simp [Program.pointee, Try.underlying39]
theorem callee39 : QX Try.prog 39 := Try.call39
theorem tyF39 : TyF Try.prog 39 false 1 := ⟨Try.isAgg39, Try.sizeOf39⟩
theorem fldF82x0 : FldF Try.prog 82 0 0 := fun a w => by simp [Instr.fieldAt, Instr.sureAddr, fieldPlace, Try.runUnderlying82, Try.sizeOf42]
theorem tyF42 : TyF Try.prog 42 false 1 := ⟨Try.isAgg42, Try.sizeOf42⟩
theorem callee65 : QX Try.prog 65 := Try.call65
theorem callee64 : QX Try.prog 64 := Try.call64
theorem callee51 : QX Try.prog 51 := Try.call51
theorem YE : FldF Try.prog 37 2 12 := fun a w => by simp [Instr.fieldAt, Instr.sureAddr, fieldPlace, Try.runUnderlying37, Try.sizeOf3]
theorem fldF37x3 : FldF Try.prog 37 3 13 := fun a w => by simp [Instr.fieldAt, Instr.sureAddr, fieldPlace, Try.runUnderlying37, Try.sizeOf34]
theorem tyF34 : TyF Try.prog 34 false 1 := ⟨Try.isAgg34, Try.sizeOf34⟩
theorem fldF37x4 : FldF Try.prog 37 4 14 := fun a w => by simp [Instr.fieldAt, Instr.sureAddr, fieldPlace, Try.runUnderlying37, Try.sizeOf35]
theorem callee60 : QX Try.prog 60 := Try.call60
theorem fldF37x0 : FldF Try.prog 37 0 0 := fun a w => by simp [Instr.fieldAt, Instr.sureAddr, fieldPlace, Try.runUnderlying37, Try.sizeOf33]
theorem arrF33 : ArrF Try.prog 33 6 5 1 := ⟨Try.underlying33, Try.sizeOf5⟩
theorem fldF37x1 : FldF Try.prog 37 1 6 := fun a w => by simp [Instr.fieldAt, Instr.sureAddr, fieldPlace, Try.runUnderlying37, Try.sizeOf33]
theorem callee61 : QX Try.prog 61 := Try.call61
theorem callee40 : QX Try.prog 40 := Try.call40
theorem callee36 : QX Try.prog 36 := Try.call36
theorem tyZ88 : TyZ Try.prog 88 (.agg #[.int .u8 0, .int .u16 0, .int .u16 0, .int .u16 0]) := Try.zeroValue88
theorem tyF88 : TyF Try.prog 88 true 4 := ⟨Try.isAgg88, Try.sizeOf88⟩
theorem fldF88x0 : FldF Try.prog 88 0 0 := fun a w => by simp [Instr.fieldAt, Instr.sureAddr, fieldPlace, Try.runUnderlying88, Try.sizeOf5]
theorem tyF5 : TyF Try.prog 5 false 1 := ⟨Try.isAgg5, Try.sizeOf5⟩
theorem fldF88x1 : FldF Try.prog 88 1 1 := fun a w => by simp [Instr.fieldAt, Instr.sureAddr, fieldPlace, Try.runUnderlying88, Try.sizeOf34]
theorem fldF88x2 : FldF Try.prog 88 2 2 := fun a w => by simp [Instr.fieldAt, Instr.sureAddr, fieldPlace, Try.runUnderlying88, Try.sizeOf34]
theorem fldF88x3 : FldF Try.prog 88 3 3 := fun a w => by simp [Instr.fieldAt, Instr.sureAddr, fieldPlace, Try.runUnderlying88, Try.sizeOf34]
theorem arrF113 : ArrF Try.prog 113 3 34 1 := ⟨Try.underlying113, Try.sizeOf34⟩
theorem callee37 : QX Try.prog 37 := Try.call37
theorem callee24 : QX Try.prog 24 := Try.call24
theorem callee15 : QX Try.prog 15 := Try.call15
theorem callee8 : QX Try.prog 8 := Try.call8
theorem slF59 : SlF Try.prog 59 25 1 24 (.slice none 0 0) := ⟨Try.underlying59, ⟨Try.t25, Try.type25, rfl, rfl, rfl⟩, rfl, by decide, by decide⟩
theorem callee9 : QX Try.prog 9 := Try.call9
theorem tyF25 : TyF Try.prog 25 false 1 := ⟨Try.isAgg25, Try.sizeOf25⟩
theorem callee22 : QX Try.prog 22 := Try.call22
theorem callee43 : QX Try.prog 43 := Try.call43
theorem ptrF44 : Try.prog.underlying 44 = some (.pointer (Try.prog.pointee 44)) := by simp [Program.pointee, Try.underlying44]
theorem fldF84x0 : FldF Try.prog 84 0 0 := fun a w => by simp [Instr.fieldAt, Instr.sureAddr, fieldPlace, Try.runUnderlying84, Try.sizeOf42]
theorem callee38 : QX Try.prog 38 := Try.call38
theorem callee63 : QX Try.prog 63 := Try.call63
theorem callee48 : QX Try.prog 48 := Try.call48
theorem callee16 : QX Try.prog 16 := Try.call16
theorem callee10 : QX Try.prog 10 := Try.call10
theorem callee46 : QX Try.prog 46 := Try.call46
theorem callee47 : QX Try.prog 47 := Try.call47
theorem callee49 : QX Try.prog 49 := Try.call49
theorem callee50 : QX Try.prog 50 := Try.call50
theorem slF62 : SlF Try.prog 62 27 1 4 (.int .u32 0) := ⟨Try.underlying62, ⟨Try.t27, Try.type27, rfl, rfl, rfl⟩, rfl, by decide, by decide⟩
theorem callee23 : QX Try.prog 23 := Try.call23
theorem callee25 : QX Try.prog 25 := Try.call25
theorem callee68 : QX Try.prog 68 := Try.call68
theorem tyF33 : TyF Try.prog 33 true 6 := ⟨Try.isAgg33, Try.sizeOf33⟩
theorem callee69 : QX Try.prog 69 := Try.call69
theorem callee70 : QX Try.prog 70 := Try.call70
theorem callee53 : QX Try.prog 53 := Try.call53
theorem tyF59 : TyF Try.prog 59 false 1 := ⟨Try.isAgg59, Try.sizeOf59⟩
theorem tyF62 : TyF Try.prog 62 false 1 := ⟨Try.isAgg62, Try.sizeOf62⟩
theorem callee78 : QX Try.prog 78 := Try.call78
theorem callee79 : QX Try.prog 79 := Try.call79
theorem callee74 : QX Try.prog 74 := Try.call74
theorem callee75 : QX Try.prog 75 := Try.call75
theorem callee67 : QX Try.prog 67 := Try.call67
theorem callee66 : QX Try.prog 66 := Try.call66
theorem callee54 : QX Try.prog 54 := Try.call54
theorem callee55 : QX Try.prog 55 := Try.call55
theorem callee56 : QX Try.prog 56 := Try.call56
theorem callee30 : QX Try.prog 30 := Try.call30
theorem eqIn33 (d : Nat) (w : World) (x y : A6 UInt8) : (Op.equalIn (d + 2) 33 (.agg #[vU8 x.a0, vU8 x.a1, vU8 x.a2, vU8 x.a3, vU8 x.a4, vU8 x.a5]) (.agg #[vU8 y.a0, vU8 y.a1, vU8 y.a2, vU8 y.a3, vU8 y.a4, vU8 y.a5])).run Try.prog w = .ok (x == y) w := by
  rw [run_equalIn_array w (d + 1) _ _ Try.underlying33 Try.type5]
  rw [show Try.prog.cellsOf 5 = 1 from by kernel_rfl]
  refine (eqi_cons (r := x.a0 == y.a0) (Xv Try.isAgg5 rfl) (Xv Try.isAgg5 rfl) ((run_equalIn_int w (d + 0) 5 .u8 .u8 _ _ Try.underlying5).trans (congrArg (fun b => Result.ok b w) (eq_u8 _ _)))).trans ?_
  refine eq_step (fun hq => ?_) (fun hq => ?_)
  · rw [eq_ff (x := x) (y := y) (fun e => by rw [e] at hq; simp at hq)]
  refine (eqi_cons (r := x.a1 == y.a1) (Xv Try.isAgg5 rfl) (Xv Try.isAgg5 rfl) ((run_equalIn_int w (d + 0) 5 .u8 .u8 _ _ Try.underlying5).trans (congrArg (fun b => Result.ok b w) (eq_u8 _ _)))).trans ?_
  refine eq_step (fun hq => ?_) (fun hq => ?_)
  · rw [eq_ff (x := x) (y := y) (fun e => by rw [e] at hq; simp at hq)]
  refine (eqi_cons (r := x.a2 == y.a2) (Xv Try.isAgg5 rfl) (Xv Try.isAgg5 rfl) ((run_equalIn_int w (d + 0) 5 .u8 .u8 _ _ Try.underlying5).trans (congrArg (fun b => Result.ok b w) (eq_u8 _ _)))).trans ?_
  refine eq_step (fun hq => ?_) (fun hq => ?_)
  · rw [eq_ff (x := x) (y := y) (fun e => by rw [e] at hq; simp at hq)]
  refine (eqi_cons (r := x.a3 == y.a3) (Xv Try.isAgg5 rfl) (Xv Try.isAgg5 rfl) ((run_equalIn_int w (d + 0) 5 .u8 .u8 _ _ Try.underlying5).trans (congrArg (fun b => Result.ok b w) (eq_u8 _ _)))).trans ?_
  refine eq_step (fun hq => ?_) (fun hq => ?_)
  · rw [eq_ff (x := x) (y := y) (fun e => by rw [e] at hq; simp at hq)]
  refine (eqi_cons (r := x.a4 == y.a4) (Xv Try.isAgg5 rfl) (Xv Try.isAgg5 rfl) ((run_equalIn_int w (d + 0) 5 .u8 .u8 _ _ Try.underlying5).trans (congrArg (fun b => Result.ok b w) (eq_u8 _ _)))).trans ?_
  refine eq_step (fun hq => ?_) (fun hq => ?_)
  · rw [eq_ff (x := x) (y := y) (fun e => by rw [e] at hq; simp at hq)]
  refine (eqi_cons (r := x.a5 == y.a5) (Xv Try.isAgg5 rfl) (Xv Try.isAgg5 rfl) ((run_equalIn_int w (d + 0) 5 .u8 .u8 _ _ Try.underlying5).trans (congrArg (fun b => Result.ok b w) (eq_u8 _ _)))).trans ?_
  refine eq_step (fun hq => ?_) (fun hq => ?_)
  · rw [eq_ff (x := x) (y := y) (fun e => by rw [e] at hq; simp at hq)]
  rw [eq_tt (x := x) (y := y) (by rcases x; rcases y; simp_all)]
  rfl
theorem eqT33_eql {X Y : Operand} (x y : A6 UInt8) : Bin Try.prog .eql 33 X Y (.agg #[vU8 x.a0, vU8 x.a1, vU8 x.a2, vU8 x.a3, vU8 x.a4, vU8 x.a5]) (.agg #[vU8 y.a0, vU8 y.a1, vU8 y.a2, vU8 y.a3, vU8 y.a4, vU8 y.a5]) (.bool (x == y)) := fun w => by
  simp only [Sem.run_bind, run_eqGuard_agg w .eql 33 X Y _ _ Try.eqGuardType33, Result.andThen_ok]
  rw [run_eql_struct, show (10000 : Nat) = 9998 + 2 from rfl, eqIn33]; rfl
theorem callee19 : QX Try.prog 19 := Try.call19
theorem eqIn29 (d : Nat) (w : World) (x y : Seg) : (Op.equalIn (d + 2) 29 (.agg #[vU64 x.At, vU32 x.Len, vB x.Write]) (.agg #[vU64 y.At, vU32 y.Len, vB y.Write])).run Try.prog w = .ok (x == y) w := by
  rw [run_equalIn_agg w (d + 1) 29 _ _ (by rw [Program.fieldsOf, Try.underlying29]) Try.stoodInHeld29]
  simp only [Program.fieldsOf, Try.underlying29]
  refine (eqf_cons (r := x.At == y.At) (by decide) (Xv Try.isAgg22 rfl) (Xv Try.isAgg22 rfl) ((run_equalIn_int w (d + 0) 22 .u64 .u64 _ _ Try.underlying22).trans (congrArg (fun b => Result.ok b w) (eq_u64 _ _)))).trans ?_
  refine eq_step (fun hq => ?_) (fun hq => ?_)
  · rw [eq_ff (x := x) (y := y) (fun e => by rw [e] at hq; simp at hq)]
  refine (eqf_cons (r := x.Len == y.Len) (by decide) (Xv Try.isAgg27 rfl) (Xv Try.isAgg27 rfl) ((run_equalIn_int w (d + 0) 27 .u32 .u32 _ _ Try.underlying27).trans (congrArg (fun b => Result.ok b w) (eq_u32 _ _)))).trans ?_
  refine eq_step (fun hq => ?_) (fun hq => ?_)
  · rw [eq_ff (x := x) (y := y) (fun e => by rw [e] at hq; simp at hq)]
  refine (eqf_cons (r := x.Write == y.Write) (by decide) (Xv Try.isAgg4 rfl) (Xv Try.isAgg4 rfl) (run_equalIn_bool w (d + 0) 4 _ _ Try.underlying4)).trans ?_
  refine eq_step (fun hq => ?_) (fun hq => ?_)
  · rw [eq_ff (x := x) (y := y) (fun e => by rw [e] at hq; simp at hq)]
  rw [eq_tt (x := x) (y := y) (by rcases x; rcases y; simp_all)]
  rfl
theorem eqT29_neq {X Y : Operand} (x y : Seg) : Bin Try.prog .neq 29 X Y (.agg #[vU64 x.At, vU32 x.Len, vB x.Write]) (.agg #[vU64 y.At, vU32 y.Len, vB y.Write]) (.bool (x != y)) := fun w => by
  simp only [Sem.run_bind, run_eqGuard_agg w .neq 29 X Y _ _ Try.eqGuardType29, Result.andThen_ok]
  rw [run_neq_struct, show (10000 : Nat) = 9998 + 2 from rfl, eqIn29]; rfl
theorem callee31 : QX Try.prog 31 := Try.call31
theorem callee7 : QX Try.prog 7 := Try.call7
theorem callee12 : QX Try.prog 12 := Try.call12
theorem callee14 : QX Try.prog 14 := Try.call14
theorem callee52 : QX Try.prog 52 := Try.call52
theorem slF58 : SlF Try.prog 58 37 15 56 (.agg #[.int .u8 0, .int .u8 0, .int .u8 0, .int .u8 0, .int .u8 0, .int .u8 0, .int .u8 0, .int .u8 0, .int .u8 0, .int .u8 0, .int .u8 0, .int .u8 0, .int .i64 0, .int .u16 0, .slice none 0 0]) := ⟨Try.underlying58, ⟨Try.t37, Try.type37, rfl, rfl, rfl⟩, rfl, by decide, by decide⟩
theorem callee27 : QX Try.prog 27 := Try.call27
theorem callee26 : QX Try.prog 26 := Try.call26
theorem callee28 : QX Try.prog 28 := Try.call28
end Go.Proofs.Ytgcbcnpbnonnjaa
