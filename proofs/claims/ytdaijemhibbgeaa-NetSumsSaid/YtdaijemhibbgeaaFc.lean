/- Facts on the program: types, places, callees. No statement of the seat is proved here; no condition. -/
import Derived.Test.YtdaijemhibbgeaaTy
import Derived.Test.YtdaijemhibbgeaaProg
set_option maxRecDepth 100000
namespace Go.Proofs.Ytdaijemhibbgeaa

theorem slF27 : SlF Try.prog 27 3 1 8 (.int .i64 0) := ⟨Try.underlying27, ⟨Try.t3, Try.type3, rfl, rfl, rfl⟩, rfl, by decide, by decide⟩
theorem tyF3 : TyF Try.prog 3 false 1 := ⟨Try.isAgg3, Try.sizeOf3⟩
theorem slF58 : SlF Try.prog 58 57 3 16 (.agg #[.int .u64 0, .int .u32 0, .bool false]) := ⟨Try.underlying58, ⟨Try.t57, Try.type57, rfl, rfl, rfl⟩, rfl, by decide, by decide⟩
theorem slF33 : SlF Try.prog 33 58 1 24 (.slice none 0 0) := ⟨Try.underlying33, ⟨Try.t58, Try.type58, rfl, rfl, rfl⟩, rfl, by decide, by decide⟩
theorem slF38 : SlF Try.prog 38 75 2 16 (.agg #[.int .u64 0, .int .u64 0]) := ⟨Try.underlying38, ⟨Try.t75, Try.type75, rfl, rfl, rfl⟩, rfl, by decide, by decide⟩
theorem tyF75 : TyF Try.prog 75 true 2 := ⟨Try.isAgg75, Try.sizeOf75⟩
theorem tyZ75 : TyZ Try.prog 75 (.agg #[.int .u64 0, .int .u64 0]) := Try.zeroValue75
theorem fldF75x1 : FldF Try.prog 75 1 1 := fun a w => by simp [Instr.fieldAt, Instr.sureAddr, fieldPlace, Try.runUnderlying75, Try.sizeOf28]
theorem tyF28 : TyF Try.prog 28 false 1 := ⟨Try.isAgg28, Try.sizeOf28⟩
theorem fldF75x0 : FldF Try.prog 75 0 0 := fun a w => by simp [Instr.fieldAt, Instr.sureAddr, fieldPlace, Try.runUnderlying75, Try.sizeOf28]
theorem callee29 : Callee Try.prog 29 := Try.call29
theorem callee30 : Callee Try.prog 30 := Try.call30
theorem slF76 : SlF Try.prog 76 24 1 24 (.slice none 0 0) := ⟨Try.underlying76, ⟨Try.t24, Try.type24, rfl, rfl, rfl⟩, rfl, by decide, by decide⟩
theorem fldF78x1 : FldF Try.prog 78 1 1 := fun a w => by simp [Instr.fieldAt, Instr.sureAddr, fieldPlace, Try.runUnderlying78, Try.sizeOf76]
theorem tyF76 : TyF Try.prog 76 false 1 := ⟨Try.isAgg76, Try.sizeOf76⟩
theorem slF24 : SlF Try.prog 24 5 1 1 (.int .u8 0) := ⟨Try.underlying24, ⟨Try.t5, Try.type5, rfl, rfl, rfl⟩, rfl, by decide, by decide⟩
theorem tyF24 : TyF Try.prog 24 false 1 := ⟨Try.isAgg24, Try.sizeOf24⟩
theorem ptrF35 : Try.prog.underlying 35 = some (.pointer (Try.prog.pointee 35)) := by simp [Program.pointee, Try.underlying35]
theorem callee31 : Callee Try.prog 31 := Try.call31
theorem tyF35 : TyF Try.prog 35 false 1 := ⟨Try.isAgg35, Try.sizeOf35⟩
theorem fldF78x0 : FldF Try.prog 78 0 0 := fun a w => by simp [Instr.fieldAt, Instr.sureAddr, fieldPlace, Try.runUnderlying78, Try.sizeOf38]
theorem tyF38 : TyF Try.prog 38 false 1 := ⟨Try.isAgg38, Try.sizeOf38⟩
theorem callee46 : Callee Try.prog 46 := Try.call46
theorem callee45 : Callee Try.prog 45 := Try.call45
theorem callee32 : Callee Try.prog 32 := Try.call32
theorem tyZ30 : TyZ Try.prog 30 (.int .i64 0) := Try.zeroValue30
theorem tyF30 : TyF Try.prog 30 false 1 := ⟨Try.isAgg30, Try.sizeOf30⟩
theorem tyZ28 : TyZ Try.prog 28 (.int .u64 0) := Try.zeroValue28
theorem tyF57 : TyF Try.prog 57 true 3 := ⟨Try.isAgg57, Try.sizeOf57⟩
theorem tyZ57 : TyZ Try.prog 57 (.agg #[.int .u64 0, .int .u32 0, .bool false]) := Try.zeroValue57
theorem fldF57x1 : FldF Try.prog 57 1 1 := fun a w => by simp [Instr.fieldAt, Instr.sureAddr, fieldPlace, Try.runUnderlying57, Try.sizeOf48]
theorem tyF48 : TyF Try.prog 48 false 1 := ⟨Try.isAgg48, Try.sizeOf48⟩
theorem callee57 : Callee Try.prog 57 := Try.call57
theorem fldF57x0 : FldF Try.prog 57 0 0 := fun a w => by simp [Instr.fieldAt, Instr.sureAddr, fieldPlace, Try.runUnderlying57, Try.sizeOf28]
theorem fldF57x2 : FldF Try.prog 57 2 2 := fun a w => by simp [Instr.fieldAt, Instr.sureAddr, fieldPlace, Try.runUnderlying57, Try.sizeOf4]
theorem tyF4 : TyF Try.prog 4 false 1 := ⟨Try.isAgg4, Try.sizeOf4⟩
theorem callee48 : Callee Try.prog 48 := Try.call48
theorem callee50 : Callee Try.prog 50 := Try.call50
theorem callee35 : Callee Try.prog 35 := Try.call35
theorem tyF58 : TyF Try.prog 58 false 1 := ⟨Try.isAgg58, Try.sizeOf58⟩
theorem callee37 : Callee Try.prog 37 := Try.call37
theorem callee44 : Callee Try.prog 44 := Try.call44
theorem callee26 : Callee Try.prog 26 := Try.call26
theorem callee49 : Callee Try.prog 49 := Try.call49
theorem callee34 : Callee Try.prog 34 := Try.call34
theorem callee51 : Callee Try.prog 51 := Try.call51
theorem callee13 : Callee Try.prog 13 := Try.call13
theorem tyF26 : TyF Try.prog 26 true 15 := ⟨Try.isAgg26, Try.sizeOf26⟩
theorem fldF26x2 : FldF Try.prog 26 2 12 := fun a w => by simp [Instr.fieldAt, Instr.sureAddr, fieldPlace, Try.runUnderlying26, Try.sizeOf3]
theorem fldF26x3 : FldF Try.prog 26 3 13 := fun a w => by simp [Instr.fieldAt, Instr.sureAddr, fieldPlace, Try.runUnderlying26, Try.sizeOf23]
theorem tyF23 : TyF Try.prog 23 false 1 := ⟨Try.isAgg23, Try.sizeOf23⟩
theorem fldF26x4 : FldF Try.prog 26 4 14 := fun a w => by simp [Instr.fieldAt, Instr.sureAddr, fieldPlace, Try.runUnderlying26, Try.sizeOf24]
theorem callee47 : Callee Try.prog 47 := Try.call47
theorem fldF26x0 : FldF Try.prog 26 0 0 := fun a w => by simp [Instr.fieldAt, Instr.sureAddr, fieldPlace, Try.runUnderlying26, Try.sizeOf22]
theorem arrF22 : ArrF Try.prog 22 6 5 1 := ⟨Try.underlying22, Try.sizeOf5⟩
theorem fldF26x1 : FldF Try.prog 26 1 6 := fun a w => by simp [Instr.fieldAt, Instr.sureAddr, fieldPlace, Try.runUnderlying26, Try.sizeOf22]
theorem callee53 : Callee Try.prog 53 := Try.call53
theorem callee39 : Callee Try.prog 39 := Try.call39
theorem callee28 : Callee Try.prog 28 := Try.call28
theorem tyZ50 : TyZ Try.prog 50 (.agg #[.int .u8 0, .int .u16 0, .int .u16 0, .int .u16 0]) := Try.zeroValue50
theorem tyF50 : TyF Try.prog 50 true 4 := ⟨Try.isAgg50, Try.sizeOf50⟩
theorem fldF50x0 : FldF Try.prog 50 0 0 := fun a w => by simp [Instr.fieldAt, Instr.sureAddr, fieldPlace, Try.runUnderlying50, Try.sizeOf5]
theorem tyF5 : TyF Try.prog 5 false 1 := ⟨Try.isAgg5, Try.sizeOf5⟩
theorem fldF50x1 : FldF Try.prog 50 1 1 := fun a w => by simp [Instr.fieldAt, Instr.sureAddr, fieldPlace, Try.runUnderlying50, Try.sizeOf23]
theorem fldF50x2 : FldF Try.prog 50 2 2 := fun a w => by simp [Instr.fieldAt, Instr.sureAddr, fieldPlace, Try.runUnderlying50, Try.sizeOf23]
theorem fldF50x3 : FldF Try.prog 50 3 3 := fun a w => by simp [Instr.fieldAt, Instr.sureAddr, fieldPlace, Try.runUnderlying50, Try.sizeOf23]
theorem callee10 : Callee Try.prog 10 := Try.call10
theorem callee7 : Callee Try.prog 7 := Try.call7
theorem callee8 : Callee Try.prog 8 := Try.call8
theorem callee9 : Callee Try.prog 9 := Try.call9
theorem callee12 : Callee Try.prog 12 := Try.call12
theorem callee11 : Callee Try.prog 11 := Try.call11
theorem callee14 : Callee Try.prog 14 := Try.call14
theorem callee18 : Callee Try.prog 18 := Try.call18
theorem callee19 : Callee Try.prog 19 := Try.call19
theorem callee54 : Callee Try.prog 54 := Try.call54
theorem callee56 : Callee Try.prog 56 := Try.call56
theorem callee55 : Callee Try.prog 55 := Try.call55
theorem tyZ26 : TyZ Try.prog 26 (.agg #[.int .u8 0, .int .u8 0, .int .u8 0, .int .u8 0, .int .u8 0, .int .u8 0, .int .u8 0, .int .u8 0, .int .u8 0, .int .u8 0, .int .u8 0, .int .u8 0, .int .i64 0, .int .u16 0, .slice none 0 0]) := Try.zeroValue26
theorem tyF22 : TyF Try.prog 22 true 6 := ⟨Try.isAgg22, Try.sizeOf22⟩
theorem callee40 : Callee Try.prog 40 := Try.call40
theorem callee41 : Callee Try.prog 41 := Try.call41
theorem callee42 : Callee Try.prog 42 := Try.call42
theorem callee43 : Callee Try.prog 43 := Try.call43
theorem callee20 : Callee Try.prog 20 := Try.call20
theorem eqIn22 (d : Nat) (w : World) (x y : A6 UInt8) : (Op.equalIn (d + 2) 22 (.agg #[vU8 x.a0, vU8 x.a1, vU8 x.a2, vU8 x.a3, vU8 x.a4, vU8 x.a5]) (.agg #[vU8 y.a0, vU8 y.a1, vU8 y.a2, vU8 y.a3, vU8 y.a4, vU8 y.a5])).run Try.prog w = .ok (x == y) w := by
  rw [run_equalIn_array w (d + 1) _ _ Try.underlying22 Try.type5]
  rw [show Try.prog.cellsOf 5 = 1 from by kernel_rfl]
  refine (eqi_cons (r := x.a0 == y.a0) (part_one Try.isAgg5 rfl) (part_one Try.isAgg5 rfl) ((run_equalIn_int w (d + 0) 5 .u8 .u8 _ _ Try.underlying5).trans (congrArg (fun b => Result.ok b w) (eq_u8 _ _)))).trans ?_
  refine eq_step (fun hq => ?_) (fun hq => ?_)
  · rw [eq_ff (x := x) (y := y) (fun e => by rw [e] at hq; simp at hq)]
  refine (eqi_cons (r := x.a1 == y.a1) (part_one Try.isAgg5 rfl) (part_one Try.isAgg5 rfl) ((run_equalIn_int w (d + 0) 5 .u8 .u8 _ _ Try.underlying5).trans (congrArg (fun b => Result.ok b w) (eq_u8 _ _)))).trans ?_
  refine eq_step (fun hq => ?_) (fun hq => ?_)
  · rw [eq_ff (x := x) (y := y) (fun e => by rw [e] at hq; simp at hq)]
  refine (eqi_cons (r := x.a2 == y.a2) (part_one Try.isAgg5 rfl) (part_one Try.isAgg5 rfl) ((run_equalIn_int w (d + 0) 5 .u8 .u8 _ _ Try.underlying5).trans (congrArg (fun b => Result.ok b w) (eq_u8 _ _)))).trans ?_
  refine eq_step (fun hq => ?_) (fun hq => ?_)
  · rw [eq_ff (x := x) (y := y) (fun e => by rw [e] at hq; simp at hq)]
  refine (eqi_cons (r := x.a3 == y.a3) (part_one Try.isAgg5 rfl) (part_one Try.isAgg5 rfl) ((run_equalIn_int w (d + 0) 5 .u8 .u8 _ _ Try.underlying5).trans (congrArg (fun b => Result.ok b w) (eq_u8 _ _)))).trans ?_
  refine eq_step (fun hq => ?_) (fun hq => ?_)
  · rw [eq_ff (x := x) (y := y) (fun e => by rw [e] at hq; simp at hq)]
  refine (eqi_cons (r := x.a4 == y.a4) (part_one Try.isAgg5 rfl) (part_one Try.isAgg5 rfl) ((run_equalIn_int w (d + 0) 5 .u8 .u8 _ _ Try.underlying5).trans (congrArg (fun b => Result.ok b w) (eq_u8 _ _)))).trans ?_
  refine eq_step (fun hq => ?_) (fun hq => ?_)
  · rw [eq_ff (x := x) (y := y) (fun e => by rw [e] at hq; simp at hq)]
  refine (eqi_cons (r := x.a5 == y.a5) (part_one Try.isAgg5 rfl) (part_one Try.isAgg5 rfl) ((run_equalIn_int w (d + 0) 5 .u8 .u8 _ _ Try.underlying5).trans (congrArg (fun b => Result.ok b w) (eq_u8 _ _)))).trans ?_
  refine eq_step (fun hq => ?_) (fun hq => ?_)
  · rw [eq_ff (x := x) (y := y) (fun e => by rw [e] at hq; simp at hq)]
  rw [eq_tt (x := x) (y := y) (by rcases x; rcases y; simp_all)]
  rfl
theorem eqT22_eql {X Y : Operand} (x y : A6 UInt8) : Bin Try.prog .eql 22 X Y (.agg #[vU8 x.a0, vU8 x.a1, vU8 x.a2, vU8 x.a3, vU8 x.a4, vU8 x.a5]) (.agg #[vU8 y.a0, vU8 y.a1, vU8 y.a2, vU8 y.a3, vU8 y.a4, vU8 y.a5]) (.bool (x == y)) := fun w => by
  simp only [Sem.run_bind, run_eqGuard_agg w .eql 22 X Y _ _ Try.eqGuardType22, Result.andThen_ok]
  rw [run_eql_struct, show (10000 : Nat) = 9998 + 2 from rfl, eqIn22]; rfl
theorem callee21 : Callee Try.prog 21 := Try.call21
theorem callee22 : Callee Try.prog 22 := Try.call22
end Go.Proofs.Ytdaijemhibbgeaa
