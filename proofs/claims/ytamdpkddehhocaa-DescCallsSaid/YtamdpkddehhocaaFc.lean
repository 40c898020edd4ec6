/- Facts on the program: types, places, callees. No statement of the seat is proved here; no condition. -/
import Derived.Test.YtamdpkddehhocaaTy
import Derived.Test.YtamdpkddehhocaaProg
namespace Go.Proofs.Ytamdpkddehhocaa

theorem tyZ60 : TyZ Try.prog 60 (.agg #[.int .u8 0, .int .u8 0, .int .u8 0, .int .u8 0, .int .u8 0, .int .u8 0, .int .u8 0, .int .u8 0, .int .u8 0, .int .u8 0, .int .u8 0, .int .u8 0, .int .u8 0, .int .u8 0, .int .u8 0, .int .u8 0]) := Try.zeroValue60
theorem fldF29x0 : FldF Try.prog 29 0 0 := fun a w => by simp [Instr.fieldAt, Instr.sureAddr, fieldPlace, Try.runUnderlying29, Try.sizeOf26]
theorem tyF26 : TyF Try.prog 26 false 1 := ⟨Try.isAgg26, Try.sizeOf26⟩
theorem arrF60 : ArrF Try.prog 60 16 5 1 := ⟨Try.underlying60, Try.sizeOf5⟩
theorem tyF5 : TyF Try.prog 5 false 1 := ⟨Try.isAgg5, Try.sizeOf5⟩
theorem callee38 : Callee Try.prog 38 := Try.call38
theorem fldF29x1 : FldF Try.prog 29 1 1 := fun a w => by simp [Instr.fieldAt, Instr.sureAddr, fieldPlace, Try.runUnderlying29, Try.sizeOf27]
theorem tyF27 : TyF Try.prog 27 false 1 := ⟨Try.isAgg27, Try.sizeOf27⟩
theorem fldF29x2 : FldF Try.prog 29 2 2 := fun a w => by simp [Instr.fieldAt, Instr.sureAddr, fieldPlace, Try.runUnderlying29, Try.sizeOf22]
theorem tyF22 : TyF Try.prog 22 false 1 := ⟨Try.isAgg22, Try.sizeOf22⟩
theorem fldF29x3 : FldF Try.prog 29 3 3 := fun a w => by simp [Instr.fieldAt, Instr.sureAddr, fieldPlace, Try.runUnderlying29, Try.sizeOf22]
theorem callee13 : Callee Try.prog 13 := Try.call13
theorem callee9 : Callee Try.prog 9 := Try.call9
theorem callee8 : Callee Try.prog 8 := Try.call8
theorem callee10 : Callee Try.prog 10 := Try.call10
theorem callee11 : Callee Try.prog 11 := Try.call11
theorem tyZ29 : TyZ Try.prog 29 (.agg #[.int .u64 0, .int .u32 0, .int .u16 0, .int .u16 0]) := Try.zeroValue29
theorem tyF29 : TyF Try.prog 29 true 4 := ⟨Try.isAgg29, Try.sizeOf29⟩
theorem tyF60 : TyF Try.prog 60 true 16 := ⟨Try.isAgg60, Try.sizeOf60⟩
theorem callee39 : Callee Try.prog 39 := Try.call39
theorem tyZ31 : TyZ Try.prog 31 (.agg #[.int .u64 0, .int .u32 0, .int .u16 0, .int .u16 0]) := Try.zeroValue31
theorem tyF31 : TyF Try.prog 31 true 4 := ⟨Try.isAgg31, Try.sizeOf31⟩
theorem slF32 : SlF Try.prog 32 29 4 16 (.agg #[.int .u64 0, .int .u32 0, .int .u16 0, .int .u16 0]) := ⟨Try.underlying32, ⟨Try.t29, Try.type29, rfl, rfl, rfl⟩, rfl, by decide, by decide⟩
theorem slF34 : SlF Try.prog 34 5 1 1 (.int .u8 0) := ⟨Try.underlying34, ⟨Try.t5, Try.type5, rfl, rfl, rfl⟩, rfl, by decide, by decide⟩
theorem callee12 : Callee Try.prog 12 := Try.call12
theorem fldF31x0 : FldF Try.prog 31 0 0 := fun a w => by simp [Instr.fieldAt, Instr.sureAddr, fieldPlace, Try.runUnderlying31, Try.sizeOf26]
theorem fldF31x1 : FldF Try.prog 31 1 1 := fun a w => by simp [Instr.fieldAt, Instr.sureAddr, fieldPlace, Try.runUnderlying31, Try.sizeOf27]
theorem fldF31x2 : FldF Try.prog 31 2 2 := fun a w => by simp [Instr.fieldAt, Instr.sureAddr, fieldPlace, Try.runUnderlying31, Try.sizeOf22]
theorem fldF31x3 : FldF Try.prog 31 3 3 := fun a w => by simp [Instr.fieldAt, Instr.sureAddr, fieldPlace, Try.runUnderlying31, Try.sizeOf22]
theorem callee14 : Callee Try.prog 14 := Try.call14
theorem callee15 : Callee Try.prog 15 := Try.call15
theorem callee16 : Callee Try.prog 16 := Try.call16
theorem callee17 : Callee Try.prog 17 := Try.call17
theorem eqIn29 (d : Nat) (w : World) (x y : Desc) : (Op.equalIn (d + 2) 29 (.agg #[vU64 x.Addr, vU32 x.Len, vU16 x.Flags, vU16 x.Next]) (.agg #[vU64 y.Addr, vU32 y.Len, vU16 y.Flags, vU16 y.Next])).run Try.prog w = .ok (x == y) w := by
  rw [run_equalIn_agg w (d + 1) 29 _ _ (by rw [Program.fieldsOf, Try.underlying29]) Try.stoodInHeld29]
  simp only [Program.fieldsOf, Try.underlying29]
  refine (eqf_cons (r := x.Addr == y.Addr) (by decide) (part_one Try.isAgg26 rfl) (part_one Try.isAgg26 rfl) ((run_equalIn_int w (d + 0) 26 .u64 .u64 _ _ Try.underlying26).trans (congrArg (fun b => Result.ok b w) (eq_u64 _ _)))).trans ?_
  refine eq_step (fun hq => ?_) (fun hq => ?_)
  · rw [eq_ff (x := x) (y := y) (fun e => by rw [e] at hq; simp at hq)]
  refine (eqf_cons (r := x.Len == y.Len) (by decide) (part_one Try.isAgg27 rfl) (part_one Try.isAgg27 rfl) ((run_equalIn_int w (d + 0) 27 .u32 .u32 _ _ Try.underlying27).trans (congrArg (fun b => Result.ok b w) (eq_u32 _ _)))).trans ?_
  refine eq_step (fun hq => ?_) (fun hq => ?_)
  · rw [eq_ff (x := x) (y := y) (fun e => by rw [e] at hq; simp at hq)]
  refine (eqf_cons (r := x.Flags == y.Flags) (by decide) (part_one Try.isAgg22 rfl) (part_one Try.isAgg22 rfl) ((run_equalIn_int w (d + 0) 22 .u16 .u16 _ _ Try.underlying22).trans (congrArg (fun b => Result.ok b w) (eq_u16 _ _)))).trans ?_
  refine eq_step (fun hq => ?_) (fun hq => ?_)
  · rw [eq_ff (x := x) (y := y) (fun e => by rw [e] at hq; simp at hq)]
  refine (eqf_cons (r := x.Next == y.Next) (by decide) (part_one Try.isAgg22 rfl) (part_one Try.isAgg22 rfl) ((run_equalIn_int w (d + 0) 22 .u16 .u16 _ _ Try.underlying22).trans (congrArg (fun b => Result.ok b w) (eq_u16 _ _)))).trans ?_
  refine eq_step (fun hq => ?_) (fun hq => ?_)
  · rw [eq_ff (x := x) (y := y) (fun e => by rw [e] at hq; simp at hq)]
  rw [eq_tt (x := x) (y := y) (by rcases x; rcases y; simp_all)]
  rfl
theorem eqT29_eql {X Y : Operand} (x y : Desc) : Bin Try.prog .eql 29 X Y (.agg #[vU64 x.Addr, vU32 x.Len, vU16 x.Flags, vU16 x.Next]) (.agg #[vU64 y.Addr, vU32 y.Len, vU16 y.Flags, vU16 y.Next]) (.bool (x == y)) := fun w => by
  simp only [Sem.run_bind, run_eqGuard_agg w .eql 29 X Y _ _ Try.eqGuardType29, Result.andThen_ok]
  rw [run_eql_struct, show (10000 : Nat) = 9998 + 2 from rfl, eqIn29]; rfl
theorem eqT29_neq {X Y : Operand} (x y : Desc) : Bin Try.prog .neq 29 X Y (.agg #[vU64 x.Addr, vU32 x.Len, vU16 x.Flags, vU16 x.Next]) (.agg #[vU64 y.Addr, vU32 y.Len, vU16 y.Flags, vU16 y.Next]) (.bool (x != y)) := fun w => by
  simp only [Sem.run_bind, run_eqGuard_agg w .neq 29 X Y _ _ Try.eqGuardType29, Result.andThen_ok]
  rw [run_neq_struct, show (10000 : Nat) = 9998 + 2 from rfl, eqIn29]; rfl
theorem eqIn31 (d : Nat) (w : World) (x y : Packed) : (Op.equalIn (d + 2) 31 (.agg #[vU64 x.Addr, vU32 x.Len, vU16 x.ID, vU16 x.Flags]) (.agg #[vU64 y.Addr, vU32 y.Len, vU16 y.ID, vU16 y.Flags])).run Try.prog w = .ok (x == y) w := by
  rw [run_equalIn_agg w (d + 1) 31 _ _ (by rw [Program.fieldsOf, Try.underlying31]) Try.stoodInHeld31]
  simp only [Program.fieldsOf, Try.underlying31]
  refine (eqf_cons (r := x.Addr == y.Addr) (by decide) (part_one Try.isAgg26 rfl) (part_one Try.isAgg26 rfl) ((run_equalIn_int w (d + 0) 26 .u64 .u64 _ _ Try.underlying26).trans (congrArg (fun b => Result.ok b w) (eq_u64 _ _)))).trans ?_
  refine eq_step (fun hq => ?_) (fun hq => ?_)
  · rw [eq_ff (x := x) (y := y) (fun e => by rw [e] at hq; simp at hq)]
  refine (eqf_cons (r := x.Len == y.Len) (by decide) (part_one Try.isAgg27 rfl) (part_one Try.isAgg27 rfl) ((run_equalIn_int w (d + 0) 27 .u32 .u32 _ _ Try.underlying27).trans (congrArg (fun b => Result.ok b w) (eq_u32 _ _)))).trans ?_
  refine eq_step (fun hq => ?_) (fun hq => ?_)
  · rw [eq_ff (x := x) (y := y) (fun e => by rw [e] at hq; simp at hq)]
  refine (eqf_cons (r := x.ID == y.ID) (by decide) (part_one Try.isAgg22 rfl) (part_one Try.isAgg22 rfl) ((run_equalIn_int w (d + 0) 22 .u16 .u16 _ _ Try.underlying22).trans (congrArg (fun b => Result.ok b w) (eq_u16 _ _)))).trans ?_
  refine eq_step (fun hq => ?_) (fun hq => ?_)
  · rw [eq_ff (x := x) (y := y) (fun e => by rw [e] at hq; simp at hq)]
  refine (eqf_cons (r := x.Flags == y.Flags) (by decide) (part_one Try.isAgg22 rfl) (part_one Try.isAgg22 rfl) ((run_equalIn_int w (d + 0) 22 .u16 .u16 _ _ Try.underlying22).trans (congrArg (fun b => Result.ok b w) (eq_u16 _ _)))).trans ?_
  refine eq_step (fun hq => ?_) (fun hq => ?_)
  · rw [eq_ff (x := x) (y := y) (fun e => by rw [e] at hq; simp at hq)]
  rw [eq_tt (x := x) (y := y) (by rcases x; rcases y; simp_all)]
  rfl
theorem eqT31_eql {X Y : Operand} (x y : Packed) : Bin Try.prog .eql 31 X Y (.agg #[vU64 x.Addr, vU32 x.Len, vU16 x.ID, vU16 x.Flags]) (.agg #[vU64 y.Addr, vU32 y.Len, vU16 y.ID, vU16 y.Flags]) (.bool (x == y)) := fun w => by
  simp only [Sem.run_bind, run_eqGuard_agg w .eql 31 X Y _ _ Try.eqGuardType31, Result.andThen_ok]
  rw [run_eql_struct, show (10000 : Nat) = 9998 + 2 from rfl, eqIn31]; rfl
theorem eqT31_neq {X Y : Operand} (x y : Packed) : Bin Try.prog .neq 31 X Y (.agg #[vU64 x.Addr, vU32 x.Len, vU16 x.ID, vU16 x.Flags]) (.agg #[vU64 y.Addr, vU32 y.Len, vU16 y.ID, vU16 y.Flags]) (.bool (x != y)) := fun w => by
  simp only [Sem.run_bind, run_eqGuard_agg w .neq 31 X Y _ _ Try.eqGuardType31, Result.andThen_ok]
  rw [run_neq_struct, show (10000 : Nat) = 9998 + 2 from rfl, eqIn31]; rfl
theorem callee18 : Callee Try.prog 18 := Try.call18
theorem fldF49x0 : FldF Try.prog 49 0 0 := fun a w => by simp [Instr.fieldAt, Instr.sureAddr, fieldPlace, Try.runUnderlying49, Try.sizeOf27]
theorem fldF49x1 : FldF Try.prog 49 1 1 := fun a w => by simp [Instr.fieldAt, Instr.sureAddr, fieldPlace, Try.runUnderlying49, Try.sizeOf27]
theorem callee19 : Callee Try.prog 19 := Try.call19
theorem fldF52x0 : FldF Try.prog 52 0 0 := fun a w => by simp [Instr.fieldAt, Instr.sureAddr, fieldPlace, Try.runUnderlying52, Try.sizeOf22]
theorem fldF52x1 : FldF Try.prog 52 1 1 := fun a w => by simp [Instr.fieldAt, Instr.sureAddr, fieldPlace, Try.runUnderlying52, Try.sizeOf22]
theorem callee20 : Callee Try.prog 20 := Try.call20
theorem tyF49 : TyF Try.prog 49 true 2 := ⟨Try.isAgg49, Try.sizeOf49⟩
theorem tyZ49 : TyZ Try.prog 49 (.agg #[.int .u32 0, .int .u32 0]) := Try.zeroValue49
theorem callee21 : Callee Try.prog 21 := Try.call21
theorem eqIn49 (d : Nat) (w : World) (x y : Used) : (Op.equalIn (d + 2) 49 (.agg #[vU32 x.ID, vU32 x.Len]) (.agg #[vU32 y.ID, vU32 y.Len])).run Try.prog w = .ok (x == y) w := by
  rw [run_equalIn_agg w (d + 1) 49 _ _ (by rw [Program.fieldsOf, Try.underlying49]) Try.stoodInHeld49]
  simp only [Program.fieldsOf, Try.underlying49]
  refine (eqf_cons (r := x.ID == y.ID) (by decide) (part_one Try.isAgg27 rfl) (part_one Try.isAgg27 rfl) ((run_equalIn_int w (d + 0) 27 .u32 .u32 _ _ Try.underlying27).trans (congrArg (fun b => Result.ok b w) (eq_u32 _ _)))).trans ?_
  refine eq_step (fun hq => ?_) (fun hq => ?_)
  · rw [eq_ff (x := x) (y := y) (fun e => by rw [e] at hq; simp at hq)]
  refine (eqf_cons (r := x.Len == y.Len) (by decide) (part_one Try.isAgg27 rfl) (part_one Try.isAgg27 rfl) ((run_equalIn_int w (d + 0) 27 .u32 .u32 _ _ Try.underlying27).trans (congrArg (fun b => Result.ok b w) (eq_u32 _ _)))).trans ?_
  refine eq_step (fun hq => ?_) (fun hq => ?_)
  · rw [eq_ff (x := x) (y := y) (fun e => by rw [e] at hq; simp at hq)]
  rw [eq_tt (x := x) (y := y) (by rcases x; rcases y; simp_all)]
  rfl
theorem eqT49_eql {X Y : Operand} (x y : Used) : Bin Try.prog .eql 49 X Y (.agg #[vU32 x.ID, vU32 x.Len]) (.agg #[vU32 y.ID, vU32 y.Len]) (.bool (x == y)) := fun w => by
  simp only [Sem.run_bind, run_eqGuard_agg w .eql 49 X Y _ _ Try.eqGuardType49, Result.andThen_ok]
  rw [run_eql_struct, show (10000 : Nat) = 9998 + 2 from rfl, eqIn49]; rfl
theorem eqT49_neq {X Y : Operand} (x y : Used) : Bin Try.prog .neq 49 X Y (.agg #[vU32 x.ID, vU32 x.Len]) (.agg #[vU32 y.ID, vU32 y.Len]) (.bool (x != y)) := fun w => by
  simp only [Sem.run_bind, run_eqGuard_agg w .neq 49 X Y _ _ Try.eqGuardType49, Result.andThen_ok]
  rw [run_neq_struct, show (10000 : Nat) = 9998 + 2 from rfl, eqIn49]; rfl
theorem tyF52 : TyF Try.prog 52 true 2 := ⟨Try.isAgg52, Try.sizeOf52⟩
theorem tyZ52 : TyZ Try.prog 52 (.agg #[.int .u16 0, .int .u16 0]) := Try.zeroValue52
theorem callee22 : Callee Try.prog 22 := Try.call22
theorem eqIn52 (d : Nat) (w : World) (x y : Event) : (Op.equalIn (d + 2) 52 (.agg #[vU16 x.Off, vU16 x.Flags]) (.agg #[vU16 y.Off, vU16 y.Flags])).run Try.prog w = .ok (x == y) w := by
  rw [run_equalIn_agg w (d + 1) 52 _ _ (by rw [Program.fieldsOf, Try.underlying52]) Try.stoodInHeld52]
  simp only [Program.fieldsOf, Try.underlying52]
  refine (eqf_cons (r := x.Off == y.Off) (by decide) (part_one Try.isAgg22 rfl) (part_one Try.isAgg22 rfl) ((run_equalIn_int w (d + 0) 22 .u16 .u16 _ _ Try.underlying22).trans (congrArg (fun b => Result.ok b w) (eq_u16 _ _)))).trans ?_
  refine eq_step (fun hq => ?_) (fun hq => ?_)
  · rw [eq_ff (x := x) (y := y) (fun e => by rw [e] at hq; simp at hq)]
  refine (eqf_cons (r := x.Flags == y.Flags) (by decide) (part_one Try.isAgg22 rfl) (part_one Try.isAgg22 rfl) ((run_equalIn_int w (d + 0) 22 .u16 .u16 _ _ Try.underlying22).trans (congrArg (fun b => Result.ok b w) (eq_u16 _ _)))).trans ?_
  refine eq_step (fun hq => ?_) (fun hq => ?_)
  · rw [eq_ff (x := x) (y := y) (fun e => by rw [e] at hq; simp at hq)]
  rw [eq_tt (x := x) (y := y) (by rcases x; rcases y; simp_all)]
  rfl
theorem eqT52_eql {X Y : Operand} (x y : Event) : Bin Try.prog .eql 52 X Y (.agg #[vU16 x.Off, vU16 x.Flags]) (.agg #[vU16 y.Off, vU16 y.Flags]) (.bool (x == y)) := fun w => by
  simp only [Sem.run_bind, run_eqGuard_agg w .eql 52 X Y _ _ Try.eqGuardType52, Result.andThen_ok]
  rw [run_eql_struct, show (10000 : Nat) = 9998 + 2 from rfl, eqIn52]; rfl
theorem eqT52_neq {X Y : Operand} (x y : Event) : Bin Try.prog .neq 52 X Y (.agg #[vU16 x.Off, vU16 x.Flags]) (.agg #[vU16 y.Off, vU16 y.Flags]) (.bool (x != y)) := fun w => by
  simp only [Sem.run_bind, run_eqGuard_agg w .neq 52 X Y _ _ Try.eqGuardType52, Result.andThen_ok]
  rw [run_neq_struct, show (10000 : Nat) = 9998 + 2 from rfl, eqIn52]; rfl
theorem callee23 : Callee Try.prog 23 := Try.call23
theorem callee40 : Callee Try.prog 40 := Try.call40
theorem callee25 : Callee Try.prog 25 := Try.call25
theorem callee41 : Callee Try.prog 41 := Try.call41
theorem callee30 : Callee Try.prog 30 := Try.call30
theorem callee24 : Callee Try.prog 24 := Try.call24
theorem callee26 : Callee Try.prog 26 := Try.call26
theorem callee27 : Callee Try.prog 27 := Try.call27
theorem callee28 : Callee Try.prog 28 := Try.call28
theorem callee29 : Callee Try.prog 29 := Try.call29
theorem callee31 : Callee Try.prog 31 := Try.call31
theorem callee32 : Callee Try.prog 32 := Try.call32
theorem callee33 : Callee Try.prog 33 := Try.call33
theorem callee34 : Callee Try.prog 34 := Try.call34
theorem callee35 : Callee Try.prog 35 := Try.call35
theorem callee36 : Callee Try.prog 36 := Try.call36
theorem callee37 : Callee Try.prog 37 := Try.call37
end Go.Proofs.Ytamdpkddehhocaa
