/- Facts on the program: types, places, callees. No statement of the seat is proved here; no condition. -/
import Derived.Test.YtgpggnhifkkfbaaTy
import Derived.Test.YtgpggnhifkkfbaaProg
namespace Go.Proofs.Ytgpggnhifkkfbaa

theorem slF22 : SlF Try.prog 22 5 1 1 (.int .u8 0) := ⟨Try.underlying22, ⟨Try.t5, Try.type5, rfl, rfl, rfl⟩, rfl, by decide, by decide⟩
theorem tyF5 : TyF Try.prog 5 false 1 := ⟨Try.isAgg5, Try.sizeOf5⟩
theorem callee40 : Callee Try.prog 40 := Try.call40
theorem tyZ38 : TyZ Try.prog 38 (.agg #[.int .u8 0, .int .u8 0, .int .u8 0, .int .u8 0, .int .u8 0, .int .u8 0, .int .u8 0, .int .u8 0, .int .u8 0, .int .u8 0, .int .u8 0, .int .u8 0, .int .i64 0, .int .u16 0, .slice none 0 0]) := Try.zeroValue38
theorem tyF38 : TyF Try.prog 38 true 15 := ⟨Try.isAgg38, Try.sizeOf38⟩
theorem fldF38x0 : FldF Try.prog 38 0 0 := fun a w => by simp [Instr.fieldAt, Instr.sureAddr, fieldPlace, Try.runUnderlying38, Try.sizeOf36]
theorem arrF36 : ArrF Try.prog 36 6 5 1 := ⟨Try.underlying36, Try.sizeOf5⟩
theorem fldF38x2 : FldF Try.prog 38 2 12 := fun a w => by simp [Instr.fieldAt, Instr.sureAddr, fieldPlace, Try.runUnderlying38, Try.sizeOf3]
theorem tyF3 : TyF Try.prog 3 false 1 := ⟨Try.isAgg3, Try.sizeOf3⟩
theorem fldF38x3 : FldF Try.prog 38 3 13 := fun a w => by simp [Instr.fieldAt, Instr.sureAddr, fieldPlace, Try.runUnderlying38, Try.sizeOf24]
theorem tyF24 : TyF Try.prog 24 false 1 := ⟨Try.isAgg24, Try.sizeOf24⟩
theorem fldF38x4 : FldF Try.prog 38 4 14 := fun a w => by simp [Instr.fieldAt, Instr.sureAddr, fieldPlace, Try.runUnderlying38, Try.sizeOf22]
theorem tyF22 : TyF Try.prog 22 false 1 := ⟨Try.isAgg22, Try.sizeOf22⟩
theorem callee20 : Callee Try.prog 20 := Try.call20
theorem fldF38x1 : FldF Try.prog 38 1 6 := fun a w => by simp [Instr.fieldAt, Instr.sureAddr, fieldPlace, Try.runUnderlying38, Try.sizeOf36]
theorem slF74 : SlF Try.prog 74 22 1 24 (.slice none 0 0) := ⟨Try.underlying74, ⟨Try.t22, Try.type22, rfl, rfl, rfl⟩, rfl, by decide, by decide⟩
theorem callee49 : Callee Try.prog 49 := Try.call49
theorem callee42 : Callee Try.prog 42 := Try.call42
theorem callee16 : Callee Try.prog 16 := Try.call16
theorem callee12 : Callee Try.prog 12 := Try.call12
theorem callee11 : Callee Try.prog 11 := Try.call11
theorem callee13 : Callee Try.prog 13 := Try.call13
theorem callee14 : Callee Try.prog 14 := Try.call14
theorem fldF34x0 : FldF Try.prog 34 0 0 := fun a w => by simp [Instr.fieldAt, Instr.sureAddr, fieldPlace, Try.runUnderlying34, Try.sizeOf5]
theorem callee41 : Callee Try.prog 41 := Try.call41
theorem fldF34x1 : FldF Try.prog 34 1 1 := fun a w => by simp [Instr.fieldAt, Instr.sureAddr, fieldPlace, Try.runUnderlying34, Try.sizeOf24]
theorem fldF34x2 : FldF Try.prog 34 2 2 := fun a w => by simp [Instr.fieldAt, Instr.sureAddr, fieldPlace, Try.runUnderlying34, Try.sizeOf24]
theorem callee15 : Callee Try.prog 15 := Try.call15
theorem tyZ34 : TyZ Try.prog 34 (.agg #[.int .u8 0, .int .u16 0, .int .u16 0, .int .u16 0]) := Try.zeroValue34
theorem tyF34 : TyF Try.prog 34 true 4 := ⟨Try.isAgg34, Try.sizeOf34⟩
theorem fldF34x3 : FldF Try.prog 34 3 3 := fun a w => by simp [Instr.fieldAt, Instr.sureAddr, fieldPlace, Try.runUnderlying34, Try.sizeOf24]
theorem arrF64 : ArrF Try.prog 64 3 24 1 := ⟨Try.underlying64, Try.sizeOf24⟩
theorem callee17 : Callee Try.prog 17 := Try.call17
theorem eqIn34 (d : Nat) (w : World) (x y : Hdr) : (Op.equalIn (d + 2) 34 (.agg #[vU8 x.Flags, vU16 x.Start, vU16 x.Off, vU16 x.Buffers]) (.agg #[vU8 y.Flags, vU16 y.Start, vU16 y.Off, vU16 y.Buffers])).run Try.prog w = .ok (x == y) w := by
  rw [run_equalIn_agg w (d + 1) 34 _ _ (by rw [Program.fieldsOf, Try.underlying34]) Try.stoodInHeld34]
  simp only [Program.fieldsOf, Try.underlying34]
  refine (eqf_cons (r := x.Flags == y.Flags) (by decide) (part_one Try.isAgg5 rfl) (part_one Try.isAgg5 rfl) ((run_equalIn_int w (d + 0) 5 .u8 .u8 _ _ Try.underlying5).trans (congrArg (fun b => Result.ok b w) (eq_u8 _ _)))).trans ?_
  refine eq_step (fun hq => ?_) (fun hq => ?_)
  · rw [eq_ff (x := x) (y := y) (fun e => by rw [e] at hq; simp at hq)]
  refine (eqf_cons (r := x.Start == y.Start) (by decide) (part_one Try.isAgg24 rfl) (part_one Try.isAgg24 rfl) ((run_equalIn_int w (d + 0) 24 .u16 .u16 _ _ Try.underlying24).trans (congrArg (fun b => Result.ok b w) (eq_u16 _ _)))).trans ?_
  refine eq_step (fun hq => ?_) (fun hq => ?_)
  · rw [eq_ff (x := x) (y := y) (fun e => by rw [e] at hq; simp at hq)]
  refine (eqf_cons (r := x.Off == y.Off) (by decide) (part_one Try.isAgg24 rfl) (part_one Try.isAgg24 rfl) ((run_equalIn_int w (d + 0) 24 .u16 .u16 _ _ Try.underlying24).trans (congrArg (fun b => Result.ok b w) (eq_u16 _ _)))).trans ?_
  refine eq_step (fun hq => ?_) (fun hq => ?_)
  · rw [eq_ff (x := x) (y := y) (fun e => by rw [e] at hq; simp at hq)]
  refine (eqf_cons (r := x.Buffers == y.Buffers) (by decide) (part_one Try.isAgg24 rfl) (part_one Try.isAgg24 rfl) ((run_equalIn_int w (d + 0) 24 .u16 .u16 _ _ Try.underlying24).trans (congrArg (fun b => Result.ok b w) (eq_u16 _ _)))).trans ?_
  refine eq_step (fun hq => ?_) (fun hq => ?_)
  · rw [eq_ff (x := x) (y := y) (fun e => by rw [e] at hq; simp at hq)]
  rw [eq_tt (x := x) (y := y) (by rcases x; rcases y; simp_all)]
  rfl
theorem eqT34_eql {X Y : Operand} (x y : Hdr) : Bin Try.prog .eql 34 X Y (.agg #[vU8 x.Flags, vU16 x.Start, vU16 x.Off, vU16 x.Buffers]) (.agg #[vU8 y.Flags, vU16 y.Start, vU16 y.Off, vU16 y.Buffers]) (.bool (x == y)) := fun w => by
  simp only [Sem.run_bind, run_eqGuard_agg w .eql 34 X Y _ _ Try.eqGuardType34, Result.andThen_ok]
  rw [run_eql_struct, show (10000 : Nat) = 9998 + 2 from rfl, eqIn34]; rfl
theorem eqT34_neq {X Y : Operand} (x y : Hdr) : Bin Try.prog .neq 34 X Y (.agg #[vU8 x.Flags, vU16 x.Start, vU16 x.Off, vU16 x.Buffers]) (.agg #[vU8 y.Flags, vU16 y.Start, vU16 y.Off, vU16 y.Buffers]) (.bool (x != y)) := fun w => by
  simp only [Sem.run_bind, run_eqGuard_agg w .neq 34 X Y _ _ Try.eqGuardType34, Result.andThen_ok]
  rw [run_neq_struct, show (10000 : Nat) = 9998 + 2 from rfl, eqIn34]; rfl
theorem tyF36 : TyF Try.prog 36 true 6 := ⟨Try.isAgg36, Try.sizeOf36⟩
theorem eqIn36 (d : Nat) (w : World) (x y : A6 UInt8) : (Op.equalIn (d + 2) 36 (.agg #[vU8 x.a0, vU8 x.a1, vU8 x.a2, vU8 x.a3, vU8 x.a4, vU8 x.a5]) (.agg #[vU8 y.a0, vU8 y.a1, vU8 y.a2, vU8 y.a3, vU8 y.a4, vU8 y.a5])).run Try.prog w = .ok (x == y) w := by
  rw [run_equalIn_array w (d + 1) _ _ Try.underlying36 Try.type5]
  rw [show Try.prog.cellsOf 5 = 1 from by kernel_rfl]
  refine (eqi_cons (r := x.a0 == y.a0) (part_one Try.isAgg5 rfl) (part_one Try.isAgg5 rfl) ((run_equalIn_int w (d + 0) 5 .u8 .u8 _ _ Try.underlying5).trans (congrArg (fun b => Result.ok b w) (eq_u8 _ _)))).trans ?_
  refine eq_step (fun hq => ?_) (fun hq => ?_)
  · rw [eq_ff (x := x) (y := y) (fun e => by rw [e] at hq; simp at hq)]
  refine (eqi_cons (r := x.a1 == y.a1) (part_one Try.isAgg5 rfl) (part_one Try.isAgg5 rfl) ((run_equalIn_int w (d + 0) 5 .u8 .u8 _ _ Try.underlying5).trans (congrArg (fun b => Result.ok b w) (eq_u8 _ _)))).trans ?_
  refine eq_step (fun hq => ?_) (fun hq => ?_)
  · rw [eq_ff (x := x) (y := y) (fun e => by rw [e] at hq; simp at hq)]
  refine (eqi_cons (r := x.a2 == y.a2) (part_one Try.isAgg5 rfl) (part_one Try.isAgg5 rfl) ((run_equalIn_int w (d + 0) 5 .u8 .u8 _ _ Try.underlying5).trans (congrArg (fun b => Result.ok b w) (eq_u8 _ _)))).trans ?_
  refine eq_step (fun hq => ?_) (fun hq => ?_)
  · rw [eq_ff (x := x) (y := y) (fun e => by rw [e] at hq; simp at hq)]
  refine (eqi_cons (r := x.a3 == y.a3) (part_one Try.isAgg5 rfl) (part_one Try.isAgg5 rfl) ((run_equalIn_int w (d + 0) 5 .u8 .u8 _ _ Try.underlying5).trans (congrArg (fun b => Result.ok b w) (eq_u8 _ _)))).trans ?_
  refine eq_step (fun hq => ?_) (fun hq => ?_)
  · rw [eq_ff (x := x) (y := y) (fun e => by rw [e] at hq; simp at hq)]
  refine (eqi_cons (r := x.a4 == y.a4) (part_one Try.isAgg5 rfl) (part_one Try.isAgg5 rfl) ((run_equalIn_int w (d + 0) 5 .u8 .u8 _ _ Try.underlying5).trans (congrArg (fun b => Result.ok b w) (eq_u8 _ _)))).trans ?_
  refine eq_step (fun hq => ?_) (fun hq => ?_)
  · rw [eq_ff (x := x) (y := y) (fun e => by rw [e] at hq; simp at hq)]
  refine (eqi_cons (r := x.a5 == y.a5) (part_one Try.isAgg5 rfl) (part_one Try.isAgg5 rfl) ((run_equalIn_int w (d + 0) 5 .u8 .u8 _ _ Try.underlying5).trans (congrArg (fun b => Result.ok b w) (eq_u8 _ _)))).trans ?_
  refine eq_step (fun hq => ?_) (fun hq => ?_)
  · rw [eq_ff (x := x) (y := y) (fun e => by rw [e] at hq; simp at hq)]
  rw [eq_tt (x := x) (y := y) (by rcases x; rcases y; simp_all)]
  rfl
theorem eqT36_eql {X Y : Operand} (x y : A6 UInt8) : Bin Try.prog .eql 36 X Y (.agg #[vU8 x.a0, vU8 x.a1, vU8 x.a2, vU8 x.a3, vU8 x.a4, vU8 x.a5]) (.agg #[vU8 y.a0, vU8 y.a1, vU8 y.a2, vU8 y.a3, vU8 y.a4, vU8 y.a5]) (.bool (x == y)) := fun w => by
  simp only [Sem.run_bind, run_eqGuard_agg w .eql 36 X Y _ _ Try.eqGuardType36, Result.andThen_ok]
  rw [run_eql_struct, show (10000 : Nat) = 9998 + 2 from rfl, eqIn36]; rfl
theorem eqT36_neq {X Y : Operand} (x y : A6 UInt8) : Bin Try.prog .neq 36 X Y (.agg #[vU8 x.a0, vU8 x.a1, vU8 x.a2, vU8 x.a3, vU8 x.a4, vU8 x.a5]) (.agg #[vU8 y.a0, vU8 y.a1, vU8 y.a2, vU8 y.a3, vU8 y.a4, vU8 y.a5]) (.bool (x != y)) := fun w => by
  simp only [Sem.run_bind, run_eqGuard_agg w .neq 36 X Y _ _ Try.eqGuardType36, Result.andThen_ok]
  rw [run_neq_struct, show (10000 : Nat) = 9998 + 2 from rfl, eqIn36]; rfl
theorem callee18 : Callee Try.prog 18 := Try.call18
theorem callee19 : Callee Try.prog 19 := Try.call19
theorem callee43 : Callee Try.prog 43 := Try.call43
theorem callee21 : Callee Try.prog 21 := Try.call21
theorem callee22 : Callee Try.prog 22 := Try.call22
theorem callee44 : Callee Try.prog 44 := Try.call44
theorem callee23 : Callee Try.prog 23 := Try.call23
theorem callee27 : Callee Try.prog 27 := Try.call27
theorem callee33 : Callee Try.prog 33 := Try.call33
theorem callee24 : Callee Try.prog 24 := Try.call24
theorem callee25 : Callee Try.prog 25 := Try.call25
theorem callee26 : Callee Try.prog 26 := Try.call26
theorem callee28 : Callee Try.prog 28 := Try.call28
theorem callee29 : Callee Try.prog 29 := Try.call29
theorem callee30 : Callee Try.prog 30 := Try.call30
theorem callee31 : Callee Try.prog 31 := Try.call31
theorem callee32 : Callee Try.prog 32 := Try.call32
theorem slF52 : SlF Try.prog 52 54 1 24 (.slice none 0 0) := ⟨Try.underlying52, ⟨Try.t54, Try.type54, rfl, rfl, rfl⟩, rfl, by decide, by decide⟩
theorem tyF54 : TyF Try.prog 54 false 1 := ⟨Try.isAgg54, Try.sizeOf54⟩
theorem slF54 : SlF Try.prog 54 73 3 16 (.agg #[.int .u64 0, .int .u32 0, .bool false]) := ⟨Try.underlying54, ⟨Try.t73, Try.type73, rfl, rfl, rfl⟩, rfl, by decide, by decide⟩
theorem callee38 : Callee Try.prog 38 := Try.call38
theorem tyZ30 : TyZ Try.prog 30 (.int .i64 0) := Try.zeroValue30
theorem tyF30 : TyF Try.prog 30 false 1 := ⟨Try.isAgg30, Try.sizeOf30⟩
theorem tyZ53 : TyZ Try.prog 53 (.int .u64 0) := Try.zeroValue53
theorem tyF53 : TyF Try.prog 53 false 1 := ⟨Try.isAgg53, Try.sizeOf53⟩
theorem tyF73 : TyF Try.prog 73 true 3 := ⟨Try.isAgg73, Try.sizeOf73⟩
theorem tyZ73 : TyZ Try.prog 73 (.agg #[.int .u64 0, .int .u32 0, .bool false]) := Try.zeroValue73
theorem fldF73x1 : FldF Try.prog 73 1 1 := fun a w => by simp [Instr.fieldAt, Instr.sureAddr, fieldPlace, Try.runUnderlying73, Try.sizeOf71]
theorem tyF71 : TyF Try.prog 71 false 1 := ⟨Try.isAgg71, Try.sizeOf71⟩
theorem callee52 : Callee Try.prog 52 := Try.call52
theorem fldF73x0 : FldF Try.prog 73 0 0 := fun a w => by simp [Instr.fieldAt, Instr.sureAddr, fieldPlace, Try.runUnderlying73, Try.sizeOf53]
theorem fldF73x2 : FldF Try.prog 73 2 2 := fun a w => by simp [Instr.fieldAt, Instr.sureAddr, fieldPlace, Try.runUnderlying73, Try.sizeOf4]
theorem tyF4 : TyF Try.prog 4 false 1 := ⟨Try.isAgg4, Try.sizeOf4⟩
theorem callee51 : Callee Try.prog 51 := Try.call51
theorem callee50 : Callee Try.prog 50 := Try.call50
theorem callee46 : Callee Try.prog 46 := Try.call46
theorem callee47 : Callee Try.prog 47 := Try.call47
theorem callee48 : Callee Try.prog 48 := Try.call48
theorem slF76 : SlF Try.prog 76 3 1 8 (.int .i64 0) := ⟨Try.underlying76, ⟨Try.t3, Try.type3, rfl, rfl, rfl⟩, rfl, by decide, by decide⟩
theorem callee45 : Callee Try.prog 45 := Try.call45
theorem callee36 : Callee Try.prog 36 := Try.call36
theorem callee34 : Callee Try.prog 34 := Try.call34
theorem callee35 : Callee Try.prog 35 := Try.call35
theorem callee37 : Callee Try.prog 37 := Try.call37
theorem callee39 : Callee Try.prog 39 := Try.call39
end Go.Proofs.Ytgpggnhifkkfbaa
