/- Facts on the program: types, places, callees. No statement of the seat is proved here; no condition. -/
import Derived.Test.YtlofegfaphijpaaTy
import Derived.Test.YtlofegfaphijpaaProg
set_option maxRecDepth 100000
namespace Go.Proofs.Ytlofegfaphijpaa

theorem tyZ29 : TyZ Try.prog 29 (.agg #[.bool false, .int .i64 0, .int .u64 0, .int .u64 0, .int .u64 0]) := Try.zeroValue29
theorem tyF29 : TyF Try.prog 29 true 5 := ⟨Try.isAgg29, Try.sizeOf29⟩
theorem fldF29x0 : FldF Try.prog 29 0 0 := fun a w => by simp [Instr.fieldAt, Instr.sureAddr, fieldPlace, Try.runUnderlying29, Try.sizeOf4]
theorem tyF4 : TyF Try.prog 4 false 1 := ⟨Try.isAgg4, Try.sizeOf4⟩
theorem fldF29x1 : FldF Try.prog 29 1 1 := fun a w => by simp [Instr.fieldAt, Instr.sureAddr, fieldPlace, Try.runUnderlying29, Try.sizeOf3]
theorem tyF3 : TyF Try.prog 3 false 1 := ⟨Try.isAgg3, Try.sizeOf3⟩
theorem callee114 : Callee Try.prog 114 := Try.call114
theorem callee89 : Callee Try.prog 89 := Try.call89
theorem callee43 : Callee Try.prog 43 := Try.call43
theorem callee44 : Callee Try.prog 44 := Try.call44
theorem fldF29x2 : FldF Try.prog 29 2 2 := fun a w => by simp [Instr.fieldAt, Instr.sureAddr, fieldPlace, Try.runUnderlying29, Try.sizeOf27]
theorem tyF27 : TyF Try.prog 27 false 1 := ⟨Try.isAgg27, Try.sizeOf27⟩
theorem fldF29x3 : FldF Try.prog 29 3 3 := fun a w => by simp [Instr.fieldAt, Instr.sureAddr, fieldPlace, Try.runUnderlying29, Try.sizeOf27]
theorem fldF29x4 : FldF Try.prog 29 4 4 := fun a w => by simp [Instr.fieldAt, Instr.sureAddr, fieldPlace, Try.runUnderlying29, Try.sizeOf27]
theorem slF165 : SlF Try.prog 165 27 1 8 (.int .u64 0) := ⟨Try.underlying165, ⟨Try.t27, Try.type27, rfl, rfl, rfl⟩, rfl, by decide, by decide⟩
theorem callee90 : Callee Try.prog 90 := Try.call90
theorem callee45 : Callee Try.prog 45 := Try.call45
theorem callee15 : Callee Try.prog 15 := Try.call15
theorem slF54 : SlF Try.prog 54 53 2 16 (.agg #[.int .u64 0, .int .u64 0]) := ⟨Try.underlying54, ⟨Try.t53, Try.type53, rfl, rfl, rfl⟩, rfl, by decide, by decide⟩
theorem tyF53 : TyF Try.prog 53 true 2 := ⟨Try.isAgg53, Try.sizeOf53⟩
theorem tyZ53 : TyZ Try.prog 53 (.agg #[.int .u64 0, .int .u64 0]) := Try.zeroValue53
theorem fldF53x1 : FldF Try.prog 53 1 1 := fun a w => by simp [Instr.fieldAt, Instr.sureAddr, fieldPlace, Try.runUnderlying53, Try.sizeOf27]
theorem fldF53x0 : FldF Try.prog 53 0 0 := fun a w => by simp [Instr.fieldAt, Instr.sureAddr, fieldPlace, Try.runUnderlying53, Try.sizeOf27]
theorem callee46 : Callee Try.prog 46 := Try.call46
theorem callee47 : Callee Try.prog 47 := Try.call47
theorem slF111 : SlF Try.prog 111 39 1 24 (.slice none 0 0) := ⟨Try.underlying111, ⟨Try.t39, Try.type39, rfl, rfl, rfl⟩, rfl, by decide, by decide⟩
theorem fldF113x1 : FldF Try.prog 113 1 1 := fun a w => by simp [Instr.fieldAt, Instr.sureAddr, fieldPlace, Try.runUnderlying113, Try.sizeOf111]
theorem tyF111 : TyF Try.prog 111 false 1 := ⟨Try.isAgg111, Try.sizeOf111⟩
theorem slF39 : SlF Try.prog 39 5 1 1 (.int .u8 0) := ⟨Try.underlying39, ⟨Try.t5, Try.type5, rfl, rfl, rfl⟩, rfl, by decide, by decide⟩
theorem tyF39 : TyF Try.prog 39 false 1 := ⟨Try.isAgg39, Try.sizeOf39⟩
theorem callee16 : Callee Try.prog 16 := Try.call16
theorem fldF36x0 : FldF Try.prog 36 0 0 := fun a w => by simp [Instr.fieldAt, Instr.sureAddr, fieldPlace, Try.runUnderlying36, Try.sizeOf27]
theorem callee39 : Callee Try.prog 39 := Try.call39
theorem fldF36x1 : FldF Try.prog 36 1 1 := fun a w => by simp [Instr.fieldAt, Instr.sureAddr, fieldPlace, Try.runUnderlying36, Try.sizeOf33]
theorem tyF33 : TyF Try.prog 33 false 1 := ⟨Try.isAgg33, Try.sizeOf33⟩
theorem fldF36x2 : FldF Try.prog 36 2 2 := fun a w => by simp [Instr.fieldAt, Instr.sureAddr, fieldPlace, Try.runUnderlying36, Try.sizeOf34]
theorem tyF34 : TyF Try.prog 34 false 1 := ⟨Try.isAgg34, Try.sizeOf34⟩
theorem fldF36x3 : FldF Try.prog 36 3 3 := fun a w => by simp [Instr.fieldAt, Instr.sureAddr, fieldPlace, Try.runUnderlying36, Try.sizeOf34]
theorem callee12 : Callee Try.prog 12 := Try.call12
theorem ptrF25 : Try.prog.underlying 25 = some (.pointer (Try.prog.pointee 25)) := by simp [Program.pointee, Try.underlying25]
theorem callee37 : Callee Try.prog 37 := Try.call37
theorem tyF25 : TyF Try.prog 25 false 1 := ⟨Try.isAgg25, Try.sizeOf25⟩
theorem fldF113x0 : FldF Try.prog 113 0 0 := fun a w => by simp [Instr.fieldAt, Instr.sureAddr, fieldPlace, Try.runUnderlying113, Try.sizeOf54]
theorem tyF54 : TyF Try.prog 54 false 1 := ⟨Try.isAgg54, Try.sizeOf54⟩
theorem callee81 : Callee Try.prog 81 := Try.call81
theorem callee80 : Callee Try.prog 80 := Try.call80
theorem callee38 : Callee Try.prog 38 := Try.call38
theorem callee11 : Callee Try.prog 11 := Try.call11
theorem callee107 : Callee Try.prog 107 := Try.call107
theorem callee82 : Callee Try.prog 82 := Try.call82
theorem callee91 : Callee Try.prog 91 := Try.call91
theorem callee117 : Callee Try.prog 117 := Try.call117
theorem callee108 : Callee Try.prog 108 := Try.call108
theorem tyZ184 : TyZ Try.prog 184 (.agg #[.int .u64 0, .int .u64 0, .int .u64 0, .int .u64 0, .int .u64 0, .int .u64 0]) := Try.zeroValue184
theorem callee118 : Callee Try.prog 118 := Try.call118
theorem tyF184 : TyF Try.prog 184 true 6 := ⟨Try.isAgg184, Try.sizeOf184⟩
theorem callee109 : Callee Try.prog 109 := Try.call109
theorem tyZ186 : TyZ Try.prog 186 (.agg #[.int .u64 0, .int .u64 0, .int .u64 0]) := Try.zeroValue186
theorem tyF186 : TyF Try.prog 186 true 3 := ⟨Try.isAgg186, Try.sizeOf186⟩
theorem callee110 : Callee Try.prog 110 := Try.call110
theorem arrF184 : ArrF Try.prog 184 3 183 2 := ⟨Try.underlying184, Try.sizeOf183⟩
theorem tyF183 : TyF Try.prog 183 true 2 := ⟨Try.isAgg183, Try.sizeOf183⟩
theorem tyZ183 : TyZ Try.prog 183 (.agg #[.int .u64 0, .int .u64 0]) := Try.zeroValue183
theorem arrF183 : ArrF Try.prog 183 2 27 1 := ⟨Try.underlying183, Try.sizeOf27⟩
theorem arrF186 : ArrF Try.prog 186 3 27 1 := ⟨Try.underlying186, Try.sizeOf27⟩
theorem callee111 : Callee Try.prog 111 := Try.call111
theorem slF188 : SlF Try.prog 188 183 2 16 (.agg #[.int .u64 0, .int .u64 0]) := ⟨Try.underlying188, ⟨Try.t183, Try.type183, rfl, rfl, rfl⟩, rfl, by decide, by decide⟩
theorem callee112 : Callee Try.prog 112 := Try.call112
theorem callee83 : Callee Try.prog 83 := Try.call83
theorem callee40 : Callee Try.prog 40 := Try.call40
theorem tyZ41 : TyZ Try.prog 41 (.slice none 0 0) := Try.zeroValue41
theorem tyZ3 : TyZ Try.prog 3 (.int .i64 0) := Try.zeroValue3
theorem tyZ37 : TyZ Try.prog 37 (.int .i64 0) := Try.zeroValue37
theorem tyZ156 : TyZ Try.prog 156 (.nilFunc) := Try.zeroValue156
theorem tyF156 : TyF Try.prog 156 false 1 := ⟨Try.isAgg156, Try.sizeOf156⟩
theorem tyZ36 : TyZ Try.prog 36 (.agg #[.int .u64 0, .int .u32 0, .int .u16 0, .int .u16 0]) := Try.zeroValue36
theorem tyF36 : TyF Try.prog 36 true 4 := ⟨Try.isAgg36, Try.sizeOf36⟩
theorem arrF180 : ArrF Try.prog 180 16 5 1 := ⟨Try.underlying180, Try.sizeOf5⟩
theorem tyF180 : TyF Try.prog 180 true 16 := ⟨Try.isAgg180, Try.sizeOf180⟩
theorem tyZ180 : TyZ Try.prog 180 (.agg #[.int .u8 0, .int .u8 0, .int .u8 0, .int .u8 0, .int .u8 0, .int .u8 0, .int .u8 0, .int .u8 0, .int .u8 0, .int .u8 0, .int .u8 0, .int .u8 0, .int .u8 0, .int .u8 0, .int .u8 0, .int .u8 0]) := Try.zeroValue180
theorem tyF5 : TyF Try.prog 5 false 1 := ⟨Try.isAgg5, Try.sizeOf5⟩
theorem callee113 : Callee Try.prog 113 := Try.call113
theorem tyZ4 : TyZ Try.prog 4 (.bool false) := Try.zeroValue4
theorem tyF37 : TyF Try.prog 37 false 1 := ⟨Try.isAgg37, Try.sizeOf37⟩
theorem callee85 : Callee Try.prog 85 := Try.call85
theorem callee26 : Callee Try.prog 26 := Try.call26
theorem callee86 : Callee Try.prog 86 := Try.call86
theorem tyF41 : TyF Try.prog 41 false 1 := ⟨Try.isAgg41, Try.sizeOf41⟩
theorem tyZ46 : TyZ Try.prog 46 (.agg #[.int .u64 0, .int .u32 0, .bool false]) := Try.zeroValue46
theorem tyF46 : TyF Try.prog 46 true 3 := ⟨Try.isAgg46, Try.sizeOf46⟩
theorem callee87 : Callee Try.prog 87 := Try.call87
theorem slF41 : SlF Try.prog 41 46 3 16 (.agg #[.int .u64 0, .int .u32 0, .bool false]) := ⟨Try.underlying41, ⟨Try.t46, Try.type46, rfl, rfl, rfl⟩, rfl, by decide, by decide⟩
theorem callee84 : Callee Try.prog 84 := Try.call84
theorem callee41 : Callee Try.prog 41 := Try.call41
theorem tyZ27 : TyZ Try.prog 27 (.int .u64 0) := Try.zeroValue27
theorem fldF46x1 : FldF Try.prog 46 1 1 := fun a w => by simp [Instr.fieldAt, Instr.sureAddr, fieldPlace, Try.runUnderlying46, Try.sizeOf33]
theorem callee102 : Callee Try.prog 102 := Try.call102
theorem fldF46x0 : FldF Try.prog 46 0 0 := fun a w => by simp [Instr.fieldAt, Instr.sureAddr, fieldPlace, Try.runUnderlying46, Try.sizeOf27]
theorem fldF46x2 : FldF Try.prog 46 2 2 := fun a w => by simp [Instr.fieldAt, Instr.sureAddr, fieldPlace, Try.runUnderlying46, Try.sizeOf4]
theorem callee62 : Callee Try.prog 62 := Try.call62
theorem callee88 : Callee Try.prog 88 := Try.call88
theorem callee42 : Callee Try.prog 42 := Try.call42
theorem callee13 : Callee Try.prog 13 := Try.call13
theorem eqIn46 (d : Nat) (w : World) (x y : Seg) : (Op.equalIn (d + 2) 46 (.agg #[vU64 x.At, vU32 x.Len, vB x.Write]) (.agg #[vU64 y.At, vU32 y.Len, vB y.Write])).run Try.prog w = .ok (x == y) w := by
  rw [run_equalIn_agg w (d + 1) 46 _ _ (by rw [Program.fieldsOf, Try.underlying46]) Try.stoodInHeld46]
  simp only [Program.fieldsOf, Try.underlying46]
  refine (eqf_cons (r := x.At == y.At) (by decide) (part_one Try.isAgg27 rfl) (part_one Try.isAgg27 rfl) ((run_equalIn_int w (d + 0) 27 .u64 .u64 _ _ Try.underlying27).trans (congrArg (fun b => Result.ok b w) (eq_u64 _ _)))).trans ?_
  refine eq_step (fun hq => ?_) (fun hq => ?_)
  · rw [eq_ff (x := x) (y := y) (fun e => by rw [e] at hq; simp at hq)]
  refine (eqf_cons (r := x.Len == y.Len) (by decide) (part_one Try.isAgg33 rfl) (part_one Try.isAgg33 rfl) ((run_equalIn_int w (d + 0) 33 .u32 .u32 _ _ Try.underlying33).trans (congrArg (fun b => Result.ok b w) (eq_u32 _ _)))).trans ?_
  refine eq_step (fun hq => ?_) (fun hq => ?_)
  · rw [eq_ff (x := x) (y := y) (fun e => by rw [e] at hq; simp at hq)]
  refine (eqf_cons (r := x.Write == y.Write) (by decide) (part_one Try.isAgg4 rfl) (part_one Try.isAgg4 rfl) (run_equalIn_bool w (d + 0) 4 _ _ Try.underlying4)).trans ?_
  refine eq_step (fun hq => ?_) (fun hq => ?_)
  · rw [eq_ff (x := x) (y := y) (fun e => by rw [e] at hq; simp at hq)]
  rw [eq_tt (x := x) (y := y) (by rcases x; rcases y; simp_all)]
  rfl
theorem eqT46_neq {X Y : Operand} (x y : Seg) : Bin Try.prog .neq 46 X Y (.agg #[vU64 x.At, vU32 x.Len, vB x.Write]) (.agg #[vU64 y.At, vU32 y.Len, vB y.Write]) (.bool (x != y)) := fun w => by
  simp only [Sem.run_bind, run_eqGuard_agg w .neq 46 X Y _ _ Try.eqGuardType46, Result.andThen_ok]
  rw [run_neq_struct, show (10000 : Nat) = 9998 + 2 from rfl, eqIn46]; rfl
theorem callee18 : Callee Try.prog 18 := Try.call18
theorem callee8 : Callee Try.prog 8 := Try.call8
theorem callee9 : Callee Try.prog 9 := Try.call9
theorem callee78 : Callee Try.prog 78 := Try.call78
theorem fldF152x1 : FldF Try.prog 152 1 1 := fun a w => by simp [Instr.fieldAt, Instr.sureAddr, fieldPlace, Try.runUnderlying152, Try.sizeOf111]
theorem fldF152x0 : FldF Try.prog 152 0 0 := fun a w => by simp [Instr.fieldAt, Instr.sureAddr, fieldPlace, Try.runUnderlying152, Try.sizeOf54]
theorem callee79 : Callee Try.prog 79 := Try.call79
theorem callee35 : Callee Try.prog 35 := Try.call35
theorem fldF87x0 : FldF Try.prog 87 0 0 := fun a w => by simp [Instr.fieldAt, Instr.sureAddr, fieldPlace, Try.runUnderlying87, Try.sizeOf27]
theorem fldF87x1 : FldF Try.prog 87 1 1 := fun a w => by simp [Instr.fieldAt, Instr.sureAddr, fieldPlace, Try.runUnderlying87, Try.sizeOf33]
theorem fldF87x2 : FldF Try.prog 87 2 2 := fun a w => by simp [Instr.fieldAt, Instr.sureAddr, fieldPlace, Try.runUnderlying87, Try.sizeOf34]
theorem fldF87x3 : FldF Try.prog 87 3 3 := fun a w => by simp [Instr.fieldAt, Instr.sureAddr, fieldPlace, Try.runUnderlying87, Try.sizeOf34]
theorem slF62 : SlF Try.prog 62 97 9 40 (.agg #[.int .i64 0, .int .u64 0, .int .u32 0, .int .u16 0, .int .u16 0, .int .u64 0, .int .u32 0, .int .u16 0, .int .u16 0]) := ⟨Try.underlying62, ⟨Try.t97, Try.type97, rfl, rfl, rfl⟩, rfl, by decide, by decide⟩
theorem fldF97x1 : FldF Try.prog 97 1 1 := fun a w => by simp [Instr.fieldAt, Instr.sureAddr, fieldPlace, Try.runUnderlying97, Try.sizeOf36]
theorem fldF97x0 : FldF Try.prog 97 0 0 := fun a w => by simp [Instr.fieldAt, Instr.sureAddr, fieldPlace, Try.runUnderlying97, Try.sizeOf3]
theorem callee36 : Callee Try.prog 36 := Try.call36
theorem fldF97x2 : FldF Try.prog 97 2 5 := fun a w => by simp [Instr.fieldAt, Instr.sureAddr, fieldPlace, Try.runUnderlying97, Try.sizeOf87]
theorem tyF87 : TyF Try.prog 87 true 4 := ⟨Try.isAgg87, Try.sizeOf87⟩
theorem callee32 : Callee Try.prog 32 := Try.call32
theorem callee10 : Callee Try.prog 10 := Try.call10
theorem callee14 : Callee Try.prog 14 := Try.call14
theorem tyZ56 : TyZ Try.prog 56 (.agg #[.int .i64 0, .int .i64 0, .slice none 0 0]) := Try.zeroValue56
theorem tyF60 : TyF Try.prog 60 true 2 := ⟨Try.isAgg60, Try.sizeOf60⟩
theorem fldF60x0 : FldF Try.prog 60 0 0 := fun a w => by simp [Instr.fieldAt, Instr.sureAddr, fieldPlace, Try.runUnderlying60, Try.sizeOf3]
theorem callee48 : Callee Try.prog 48 := Try.call48
theorem tyF56 : TyF Try.prog 56 true 3 := ⟨Try.isAgg56, Try.sizeOf56⟩
theorem tyZ87 : TyZ Try.prog 87 (.agg #[.int .u64 0, .int .u32 0, .int .u16 0, .int .u16 0]) := Try.zeroValue87
theorem fldF56x1 : FldF Try.prog 56 1 1 := fun a w => by simp [Instr.fieldAt, Instr.sureAddr, fieldPlace, Try.runUnderlying56, Try.sizeOf3]
theorem callee92 : Callee Try.prog 92 := Try.call92
theorem fldF56x0 : FldF Try.prog 56 0 0 := fun a w => by simp [Instr.fieldAt, Instr.sureAddr, fieldPlace, Try.runUnderlying56, Try.sizeOf3]
theorem tyZ60 : TyZ Try.prog 60 (.agg #[.int .i64 0, .bool false]) := Try.zeroValue60
theorem fldF60x1 : FldF Try.prog 60 1 1 := fun a w => by simp [Instr.fieldAt, Instr.sureAddr, fieldPlace, Try.runUnderlying60, Try.sizeOf4]
theorem callee73 : Callee Try.prog 73 := Try.call73
theorem callee93 : Callee Try.prog 93 := Try.call93
theorem fldF56x2 : FldF Try.prog 56 2 2 := fun a w => by simp [Instr.fieldAt, Instr.sureAddr, fieldPlace, Try.runUnderlying56, Try.sizeOf41]
theorem callee49 : Callee Try.prog 49 := Try.call49
theorem callee17 : Callee Try.prog 17 := Try.call17
theorem callee96 : Callee Try.prog 96 := Try.call96
theorem callee61 : Callee Try.prog 61 := Try.call61
theorem slF68 : SlF Try.prog 68 4 1 1 (.bool false) := ⟨Try.underlying68, ⟨Try.t4, Try.type4, rfl, rfl, rfl⟩, rfl, by decide, by decide⟩
theorem callee23 : Callee Try.prog 23 := Try.call23
theorem callee101 : Callee Try.prog 101 := Try.call101
theorem callee60 : Callee Try.prog 60 := Try.call60
theorem callee24 : Callee Try.prog 24 := Try.call24
theorem callee25 : Callee Try.prog 25 := Try.call25
end Go.Proofs.Ytlofegfaphijpaa
