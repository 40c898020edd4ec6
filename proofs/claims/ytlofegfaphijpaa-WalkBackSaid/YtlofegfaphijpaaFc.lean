/- Facts on the program: types, places, callees. No statement of the seat is proved here; no condition. -/
import Derived.Test.YtlofegfaphijpaaTy
import Derived.Test.YtlofegfaphijpaaProg
set_option maxRecDepth 100000
namespace Go.Proofs.Ytlofegfaphijpaa

theorem tyZ29 : TyZ Try.prog 29 (.agg #[.bool false, .int .i64 0, .int .u64 0, .int .u64 0, .int .u64 0]) := Try.zeroValue29
theorem ZX : TyF Try.prog 29 true 5 := ⟨Try.isAgg29, Try.sizeOf29⟩
theorem fldF29x0 : FldF Try.prog 29 0 0 := fun a w => by simp [Instr.fieldAt, Instr.sureAddr, fieldPlace, Try.runUnderlying29, Try.sizeOf4]
theorem tyF4 : TyF Try.prog 4 false 1 := ⟨Try.isAgg4, Try.sizeOf4⟩
theorem Jg : FldF Try.prog 29 1 1 := fun a w => by simp [Instr.fieldAt, Instr.sureAddr, fieldPlace, Try.runUnderlying29, Try.sizeOf3]
theorem tyF3 : TyF Try.prog 3 false 1 := ⟨Try.isAgg3, Try.sizeOf3⟩
theorem callee114 : QQ Try.prog 114 := Try.call114
theorem callee89 : QQ Try.prog 89 := Try.call89
theorem callee43 : QQ Try.prog 43 := Try.call43
theorem callee44 : QQ Try.prog 44 := Try.call44
theorem KC : FldF Try.prog 29 2 2 := fun a w => by simp [Instr.fieldAt, Instr.sureAddr, fieldPlace, Try.runUnderlying29, Try.sizeOf27]
theorem QZ : TyF Try.prog 27 false 1 := ⟨Try.isAgg27, Try.sizeOf27⟩
theorem fldF29x3 : FldF Try.prog 29 3 3 := fun a w => by simp [Instr.fieldAt, Instr.sureAddr, fieldPlace, Try.runUnderlying29, Try.sizeOf27]
theorem fldF29x4 : FldF Try.prog 29 4 4 := fun a w => by simp [Instr.fieldAt, Instr.sureAddr, fieldPlace, Try.runUnderlying29, Try.sizeOf27]
theorem slF165 : SlF Try.prog 165 27 1 8 (.int .u64 0) := ⟨Try.underlying165, ⟨Try.t27, Try.type27, rfl, rfl, rfl⟩, rfl, by decide, by decide⟩
theorem callee90 : QQ Try.prog 90 := Try.call90
theorem callee45 : QQ Try.prog 45 := Try.call45
theorem callee15 : QQ Try.prog 15 := Try.call15
theorem slF54 : SlF Try.prog 54 53 2 16 (.agg #[.int .u64 0, .int .u64 0]) := ⟨Try.underlying54, ⟨Try.t53, Try.type53, rfl, rfl, rfl⟩, rfl, by decide, by decide⟩
theorem tyF53 : TyF Try.prog 53 true 2 := ⟨Try.isAgg53, Try.sizeOf53⟩
theorem tyZ53 : TyZ Try.prog 53 (.agg #[.int .u64 0, .int .u64 0]) := Try.zeroValue53
theorem Yd : FldF Try.prog 53 1 1 := fun a w => by simp [Instr.fieldAt, Instr.sureAddr, fieldPlace, Try.runUnderlying53, Try.sizeOf27]
theorem Yy : FldF Try.prog 53 0 0 := fun a w => by simp [Instr.fieldAt, Instr.sureAddr, fieldPlace, Try.runUnderlying53, Try.sizeOf27]
theorem callee46 : QQ Try.prog 46 := Try.call46
theorem callee47 : QQ Try.prog 47 := Try.call47
theorem slF111 : SlF Try.prog 111 39 1 24 (.slice none 0 0) := ⟨Try.underlying111, ⟨Try.t39, Try.type39, rfl, rfl, rfl⟩, rfl, by decide, by decide⟩
theorem fldF113x1 : FldF Try.prog 113 1 1 := fun a w => by simp [Instr.fieldAt, Instr.sureAddr, fieldPlace, Try.runUnderlying113, Try.sizeOf111]
theorem tyF111 : TyF Try.prog 111 false 1 := ⟨Try.isAgg111, Try.sizeOf111⟩
theorem slF39 : SlF Try.prog 39 5 1 1 (.int .u8 0) := ⟨Try.underlying39, ⟨Try.t5, Try.type5, rfl, rfl, rfl⟩, rfl, by decide, by decide⟩
theorem tyF39 : TyF Try.prog 39 false 1 := ⟨Try.isAgg39, Try.sizeOf39⟩
theorem callee16 : QQ Try.prog 16 := Try.call16
theorem fldF36x0 : FldF Try.prog 36 0 0 := fun a w => by simp [Instr.fieldAt, Instr.sureAddr, fieldPlace, Try.runUnderlying36, Try.sizeOf27]
theorem callee39 : QQ Try.prog 39 := Try.call39
theorem fldF36x1 : FldF Try.prog 36 1 1 := fun a w => by simp [Instr.fieldAt, Instr.sureAddr, fieldPlace, Try.runUnderlying36, Try.sizeOf33]
theorem tyF33 : TyF Try.prog 33 false 1 := ⟨Try.isAgg33, Try.sizeOf33⟩
theorem Ki : FldF Try.prog 36 2 2 := fun a w => by simp [Instr.fieldAt, Instr.sureAddr, fieldPlace, Try.runUnderlying36, Try.sizeOf34]
theorem YP : TyF Try.prog 34 false 1 := ⟨Try.isAgg34, Try.sizeOf34⟩
theorem fldF36x3 : FldF Try.prog 36 3 3 := fun a w => by simp [Instr.fieldAt, Instr.sureAddr, fieldPlace, Try.runUnderlying36, Try.sizeOf34]
theorem callee12 : QQ Try.prog 12 := Try.call12
theorem ptrF25 : Try.prog.underlying 25 = some (.pointer (Try.prog.pointee 25)) := by simp [Program.pointee, Try.underlying25]
theorem callee37 : QQ Try.prog 37 := Try.call37
theorem tyF25 : TyF Try.prog 25 false 1 := ⟨Try.isAgg25, Try.sizeOf25⟩
theorem fldF113x0 : FldF Try.prog 113 0 0 := fun a w => by simp [Instr.fieldAt, Instr.sureAddr, fieldPlace, Try.runUnderlying113, Try.sizeOf54]
theorem tyF54 : TyF Try.prog 54 false 1 := ⟨Try.isAgg54, Try.sizeOf54⟩
theorem callee81 : QQ Try.prog 81 := Try.call81
theorem callee80 : QQ Try.prog 80 := Try.call80
theorem callee38 : QQ Try.prog 38 := Try.call38
theorem callee11 : QQ Try.prog 11 := Try.call11
theorem callee107 : QQ Try.prog 107 := Try.call107
theorem callee82 : QQ Try.prog 82 := Try.call82
theorem callee91 : QQ Try.prog 91 := Try.call91
theorem callee117 : QQ Try.prog 117 := Try.call117
theorem callee108 : QQ Try.prog 108 := Try.call108
theorem tyZ184 : TyZ Try.prog 184 (.agg #[.int .u64 0, .int .u64 0, .int .u64 0, .int .u64 0, .int .u64 0, .int .u64 0]) := Try.zeroValue184
theorem callee118 : QQ Try.prog 118 := Try.call118
theorem tyF184 : TyF Try.prog 184 true 6 := ⟨Try.isAgg184, Try.sizeOf184⟩
theorem callee109 : QQ Try.prog 109 := Try.call109
theorem tyZ186 : TyZ Try.prog 186 (.agg #[.int .u64 0, .int .u64 0, .int .u64 0]) := Try.zeroValue186
theorem tyF186 : TyF Try.prog 186 true 3 := ⟨Try.isAgg186, Try.sizeOf186⟩
theorem callee110 : QQ Try.prog 110 := Try.call110
theorem arrF184 : ArrF Try.prog 184 3 183 2 := ⟨Try.underlying184, Try.sizeOf183⟩
theorem tyF183 : TyF Try.prog 183 true 2 := ⟨Try.isAgg183, Try.sizeOf183⟩
theorem tyZ183 : TyZ Try.prog 183 (.agg #[.int .u64 0, .int .u64 0]) := Try.zeroValue183
theorem Ya : ArrF Try.prog 183 2 27 1 := ⟨Try.underlying183, Try.sizeOf27⟩
theorem arrF186 : ArrF Try.prog 186 3 27 1 := ⟨Try.underlying186, Try.sizeOf27⟩
theorem callee111 : QQ Try.prog 111 := Try.call111
theorem slF188 : SlF Try.prog 188 183 2 16 (.agg #[.int .u64 0, .int .u64 0]) := ⟨Try.underlying188, ⟨Try.t183, Try.type183, rfl, rfl, rfl⟩, rfl, by decide, by decide⟩
theorem callee112 : QQ Try.prog 112 := Try.call112
theorem callee83 : QQ Try.prog 83 := Try.call83
theorem callee40 : QQ Try.prog 40 := Try.call40
theorem tyZ41 : TyZ Try.prog 41 (.slice none 0 0) := Try.zeroValue41
theorem tyZ3 : TyZ Try.prog 3 (.int .i64 0) := Try.zeroValue3
theorem tyZ37 : TyZ Try.prog 37 (.int .i64 0) := Try.zeroValue37
theorem tyZ156 : TyZ Try.prog 156 (.nilFunc) := Try.zeroValue156
theorem tyF156 : TyF Try.prog 156 false 1 := ⟨Try.isAgg156, Try.sizeOf156⟩
theorem tyZ36 : TyZ Try.prog 36 (.agg #[.int .u64 0, .int .u32 0, .int .u16 0, .int .u16 0]) := Try.zeroValue36
theorem tyF36 : TyF Try.prog 36 true 4 := ⟨Try.isAgg36, Try.sizeOf36⟩
theorem arrF180 : ArrF Try.prog 180 16 5 1 := ⟨Try.underlying180, Try.sizeOf5⟩
theorem tyF180 : TyF Try.prog 180 true 16 := ⟨Try.isAgg180, Try.sizeOf180⟩
theorem tyZ180 : TyZ Try.prog 180 (.agg #[.int .u8 0, .int .u8 0, .int .u8 0, .int .u8 0, .int .u8 0, .int .u8 0, .int .u8 0, .int .u8 0, .int .u8 0, .int .u8 0, .int .u8 0, .int .u8 0, .int .u8 0, .int .u8 0, .int .u8 0, .int .u8 0]) := Try.zeroValue180
theorem tyF5 : TyF Try.prog 5 false 1 := ⟨Try.isAgg5, Try.sizeOf5⟩
theorem callee113 : QQ Try.prog 113 := Try.call113
theorem tyZ4 : TyZ Try.prog 4 (.bool false) := Try.zeroValue4
theorem tyF37 : TyF Try.prog 37 false 1 := ⟨Try.isAgg37, Try.sizeOf37⟩
theorem callee85 : QQ Try.prog 85 := Try.call85
theorem callee26 : QQ Try.prog 26 := Try.call26
theorem callee86 : QQ Try.prog 86 := Try.call86
theorem tyF41 : TyF Try.prog 41 false 1 := ⟨Try.isAgg41, Try.sizeOf41⟩
theorem tyZ46 : TyZ Try.prog 46 (.agg #[.int .u64 0, .int .u32 0, .bool false]) := Try.zeroValue46
theorem tyF46 : TyF Try.prog 46 true 3 := ⟨Try.isAgg46, Try.sizeOf46⟩
theorem callee87 : QQ Try.prog 87 := Try.call87
theorem slF41 : SlF Try.prog 41 46 3 16 (.agg #[.int .u64 0, .int .u32 0, .bool false]) := ⟨Try.underlying41, ⟨Try.t46, Try.type46, rfl, rfl, rfl⟩, rfl, by decide, by decide⟩
theorem callee84 : QQ Try.prog 84 := Try.call84
theorem callee41 : QQ Try.prog 41 := Try.call41
theorem tyZ27 : TyZ Try.prog 27 (.int .u64 0) := Try.zeroValue27
theorem fldF46x1 : FldF Try.prog 46 1 1 := fun a w => by simp [Instr.fieldAt, Instr.sureAddr, fieldPlace, Try.runUnderlying46, Try.sizeOf33]
theorem callee102 : QQ Try.prog 102 := Try.call102
theorem fldF46x0 : FldF Try.prog 46 0 0 := fun a w => by simp [Instr.fieldAt, Instr.sureAddr, fieldPlace, Try.runUnderlying46, Try.sizeOf27]
theorem fldF46x2 : FldF Try.prog 46 2 2 := fun a w => by simp [Instr.fieldAt, Instr.sureAddr, fieldPlace, Try.runUnderlying46, Try.sizeOf4]
theorem callee62 : QQ Try.prog 62 := Try.call62
theorem callee88 : QQ Try.prog 88 := Try.call88
theorem callee42 : QQ Try.prog 42 := Try.call42
theorem callee13 : QQ Try.prog 13 := Try.call13
theorem eqIn46 (d : Nat) (w : World) (x y : Seg) : (Op.equalIn (d + 2) 46 (.agg #[vU64 x.At, vU32 x.Len, vB x.Write]) (.agg #[vU64 y.At, vU32 y.Len, vB y.Write])).run Try.prog w = .ok (x == y) w := by
  rw [run_equalIn_agg w (d + 1) 46 _ _ (by rw [Program.fieldsOf, Try.underlying46]) Try.stoodInHeld46]
  simp only [Program.fieldsOf, Try.underlying46]
  refine (eqf_cons (r := x.At == y.At) (by decide) (part_one Try.isAgg27 rfl) (part_one Try.isAgg27 rfl) ((run_equalIn_int w (d + 0) 27 .u64 .u64 _ _ Try.underlying27).trans (congrArg (fun b => Result.ok b w) (eq_u64 _ _)))).trans ?_
  refine eq_step (fun hq => ?_) (fun hq => ?_)
  · rw [eq_ff (x := x) (y := y) (fun e => by rw [e] at hq; simp at hq)]
  refine (eqf_cons (r := x.Len == y.Len) (by decide) (part_one Try.isAgg33 rfl) (part_one Try.isAgg33 rfl) ((run_equalIn_int w (d + 0) 33 .u32 .u32 _ _ Try.underlying33).trans (congrArg (fun b => Result.ok b w) (eq_u32 _ _)))).trans ?_
  refine eq_step (fun hq => ?_) (fun hq => ?_)
  · rw [eq_ff (x := x) (y := y) (fun e => by rw [e] at hq; simp at hq)]
  refine (eqf_cons (r := x.Write == y.Write) (by decide) (part_one Try.isAgg4 rfl) (part_one Try.isAgg4 rfl) (run_equalIn_bool w (d + 0) 4 _ _ Try.underlying4)).trans ?_
  refine eq_step (fun hq => ?_) (fun hq => ?_)
  · rw [eq_ff (x := x) (y := y) (fun e => by rw [e] at hq; simp at hq)]
  rw [eq_tt (x := x) (y := y) (by rcases x; rcases y; simp_all)]
  rfl
theorem eqT46_neq {X Y : Operand} (x y : Seg) : Bin Try.prog .neq 46 X Y (.agg #[vU64 x.At, vU32 x.Len, vB x.Write]) (.agg #[vU64 y.At, vU32 y.Len, vB y.Write]) (.bool (x != y)) := fun w => by
  simp only [Sem.run_bind, run_eqGuard_agg w .neq 46 X Y _ _ Try.eqGuardType46, Result.andThen_ok]
  rw [run_neq_struct, show (10000 : Nat) = 9998 + 2 from rfl, eqIn46]; rfl
theorem callee18 : QQ Try.prog 18 := Try.call18
theorem callee8 : QQ Try.prog 8 := Try.call8
theorem callee9 : QQ Try.prog 9 := Try.call9
theorem callee78 : QQ Try.prog 78 := Try.call78
theorem fldF152x1 : FldF Try.prog 152 1 1 := fun a w => by simp [Instr.fieldAt, Instr.sureAddr, fieldPlace, Try.runUnderlying152, Try.sizeOf111]
theorem fldF152x0 : FldF Try.prog 152 0 0 := fun a w => by simp [Instr.fieldAt, Instr.sureAddr, fieldPlace, Try.runUnderlying152, Try.sizeOf54]
theorem callee79 : QQ Try.prog 79 := Try.call79
theorem callee35 : QQ Try.prog 35 := Try.call35
theorem fldF87x0 : FldF Try.prog 87 0 0 := fun a w => by simp [Instr.fieldAt, Instr.sureAddr, fieldPlace, Try.runUnderlying87, Try.sizeOf27]
theorem fldF87x1 : FldF Try.prog 87 1 1 := fun a w => by simp [Instr.fieldAt, Instr.sureAddr, fieldPlace, Try.runUnderlying87, Try.sizeOf33]
theorem fldF87x2 : FldF Try.prog 87 2 2 := fun a w => by simp [Instr.fieldAt, Instr.sureAddr, fieldPlace, Try.runUnderlying87, Try.sizeOf34]
theorem Yx : FldF Try.prog 87 3 3 := fun a w => by simp [Instr.fieldAt, Instr.sureAddr, fieldPlace, Try.runUnderlying87, Try.sizeOf34]
theorem slF62 : SlF Try.prog 62 97 9 40 (.agg #[.int .i64 0, .int .u64 0, .int .u32 0, .int .u16 0, .int .u16 0, .int .u64 0, .int .u32 0, .int .u16 0, .int .u16 0]) := ⟨Try.underlying62, ⟨Try.t97, Try.type97, rfl, rfl, rfl⟩, rfl, by decide, by decide⟩
theorem fldF97x1 : FldF Try.prog 97 1 1 := fun a w => by simp [Instr.fieldAt, Instr.sureAddr, fieldPlace, Try.runUnderlying97, Try.sizeOf36]
theorem fldF97x0 : FldF Try.prog 97 0 0 := fun a w => by simp [Instr.fieldAt, Instr.sureAddr, fieldPlace, Try.runUnderlying97, Try.sizeOf3]
theorem callee36 : QQ Try.prog 36 := Try.call36
theorem fldF97x2 : FldF Try.prog 97 2 5 := fun a w => by simp [Instr.fieldAt, Instr.sureAddr, fieldPlace, Try.runUnderlying97, Try.sizeOf87]
theorem tyF87 : TyF Try.prog 87 true 4 := ⟨Try.isAgg87, Try.sizeOf87⟩
theorem callee32 : QQ Try.prog 32 := Try.call32
theorem callee10 : QQ Try.prog 10 := Try.call10
theorem slF32 : SlF Try.prog 32 3 1 8 (.int .i64 0) := ⟨Try.underlying32, ⟨Try.t3, Try.type3, rfl, rfl, rfl⟩, rfl, by decide, by decide⟩
theorem callee14 : QQ Try.prog 14 := Try.call14
theorem tyZ56 : TyZ Try.prog 56 (.agg #[.int .i64 0, .int .i64 0, .slice none 0 0]) := Try.zeroValue56
theorem YK : TyF Try.prog 60 true 2 := ⟨Try.isAgg60, Try.sizeOf60⟩
theorem Yc : FldF Try.prog 60 0 0 := fun a w => by simp [Instr.fieldAt, Instr.sureAddr, fieldPlace, Try.runUnderlying60, Try.sizeOf3]
theorem callee48 : QQ Try.prog 48 := Try.call48
theorem YL : TyF Try.prog 56 true 3 := ⟨Try.isAgg56, Try.sizeOf56⟩
theorem tyZ87 : TyZ Try.prog 87 (.agg #[.int .u64 0, .int .u32 0, .int .u16 0, .int .u16 0]) := Try.zeroValue87
theorem fldF56x1 : FldF Try.prog 56 1 1 := fun a w => by simp [Instr.fieldAt, Instr.sureAddr, fieldPlace, Try.runUnderlying56, Try.sizeOf3]
theorem callee92 : QQ Try.prog 92 := Try.call92
theorem fldF56x0 : FldF Try.prog 56 0 0 := fun a w => by simp [Instr.fieldAt, Instr.sureAddr, fieldPlace, Try.runUnderlying56, Try.sizeOf3]
theorem tyZ60 : TyZ Try.prog 60 (.agg #[.int .i64 0, .bool false]) := Try.zeroValue60
theorem fldF60x1 : FldF Try.prog 60 1 1 := fun a w => by simp [Instr.fieldAt, Instr.sureAddr, fieldPlace, Try.runUnderlying60, Try.sizeOf4]
theorem callee73 : QQ Try.prog 73 := Try.call73
theorem callee93 : QQ Try.prog 93 := Try.call93
theorem fldF56x2 : FldF Try.prog 56 2 2 := fun a w => by simp [Instr.fieldAt, Instr.sureAddr, fieldPlace, Try.runUnderlying56, Try.sizeOf41]
theorem callee49 : QQ Try.prog 49 := Try.call49
theorem callee17 : QQ Try.prog 17 := Try.call17
theorem callee22 : QQ Try.prog 22 := Try.call22
noncomputable def fnS132 : Shape (Option Int) := Shape.fn Try.prog vI
theorem callee104 : QQ Try.prog 104 := Try.call104
theorem Kj : QQ Try.prog 65 := Try.call65
theorem callee103 : QQ Try.prog 103 := Try.call103
theorem callee71 : QQ Try.prog 71 := Try.call71
theorem slF175 : SlF Try.prog 175 132 1 8 (.nilFunc) := ⟨Try.underlying175, ⟨Try.t132, Try.type132, rfl, rfl, rfl⟩, rfl, by decide, by decide⟩
theorem tyF132 : TyF Try.prog 132 false 1 := ⟨Try.isAgg132, Try.sizeOf132⟩
theorem slF136 : SlF Try.prog 136 139 5 24 (.agg #[.int .u64 0, .int .u32 0, .int .u16 0, .int .u16 0, .int .i64 0]) := ⟨Try.underlying136, ⟨Try.t139, Try.type139, rfl, rfl, rfl⟩, rfl, by decide, by decide⟩
theorem mkif139 : MkIf Try.prog 139 := fun v w => by kernel_rfl
theorem Jh : FldF Try.prog 139 0 0 := fun a w => by simp [Instr.fieldAt, Instr.sureAddr, fieldPlace, Try.runUnderlying139, Try.sizeOf36]
theorem fldF139x1 : FldF Try.prog 139 1 4 := fun a w => by simp [Instr.fieldAt, Instr.sureAddr, fieldPlace, Try.runUnderlying139, Try.sizeOf3]
theorem tyF139 : TyF Try.prog 139 true 5 := ⟨Try.isAgg139, Try.sizeOf139⟩
theorem callee134 : QQ Try.prog 134 := Try.call134
theorem meth139x134 : Meth Try.prog 139 "dumbwaiter/build.made" 134 := fun v w => by kernel_rfl
theorem asrt177x139 : Asrt Try.prog 139 177 139 := fun v w => by kernel_rfl
theorem callee64 : QQ Try.prog 64 := Try.call64
theorem tyF32 : TyF Try.prog 32 false 1 := ⟨Try.isAgg32, Try.sizeOf32⟩
theorem YO : QQ Try.prog 63 := Try.call63
theorem tyZ139 : TyZ Try.prog 139 (.agg #[.int .u64 0, .int .u32 0, .int .u16 0, .int .u16 0, .int .i64 0]) := Try.zeroValue139
theorem callee68 : QQ Try.prog 68 := Try.call68
theorem callee67 : QQ Try.prog 67 := Try.call67
theorem slF74 : SlF Try.prog 74 78 5 24 (.agg #[.int .i64 0, .int .u64 0, .int .u32 0, .int .u16 0, .int .u16 0]) := ⟨Try.underlying74, ⟨Try.t78, Try.type78, rfl, rfl, rfl⟩, rfl, by decide, by decide⟩
theorem callee66 : QQ Try.prog 66 := Try.call66
theorem slF141 : SlF Try.prog 141 36 4 16 (.agg #[.int .u64 0, .int .u32 0, .int .u16 0, .int .u16 0]) := ⟨Try.underlying141, ⟨Try.t36, Try.type36, rfl, rfl, rfl⟩, rfl, by decide, by decide⟩
theorem callee106 : QQ Try.prog 106 := Try.call106
theorem callee105 : QQ Try.prog 105 := Try.call105
theorem callee69 : QQ Try.prog 69 := Try.call69
theorem callee70 : QQ Try.prog 70 := Try.call70
theorem slF145 : SlF Try.prog 145 148 6 32 (.agg #[.int .u64 0, .int .u32 0, .int .u16 0, .int .u16 0, .int .i64 0, .bool false]) := ⟨Try.underlying145, ⟨Try.t148, Try.type148, rfl, rfl, rfl⟩, rfl, by decide, by decide⟩
theorem mkif148 : MkIf Try.prog 148 := fun v w => by kernel_rfl
theorem fldF148x1 : FldF Try.prog 148 1 4 := fun a w => by simp [Instr.fieldAt, Instr.sureAddr, fieldPlace, Try.runUnderlying148, Try.sizeOf3]
theorem YW : FldF Try.prog 148 0 0 := fun a w => by simp [Instr.fieldAt, Instr.sureAddr, fieldPlace, Try.runUnderlying148, Try.sizeOf87]
theorem fldF148x2 : FldF Try.prog 148 2 5 := fun a w => by simp [Instr.fieldAt, Instr.sureAddr, fieldPlace, Try.runUnderlying148, Try.sizeOf4]
theorem callee77 : QQ Try.prog 77 := Try.call77
theorem tyF148 : TyF Try.prog 148 true 6 := ⟨Try.isAgg148, Try.sizeOf148⟩
theorem callee135 : QQ Try.prog 135 := Try.call135
theorem meth148x135 : Meth Try.prog 148 "dumbwaiter/build.made" 135 := fun v w => by kernel_rfl
theorem asrt177x148 : Asrt Try.prog 148 177 148 := fun v w => by kernel_rfl
theorem tyZ144 : TyZ Try.prog 144 (.slice none 0 0) := Try.zeroValue144
theorem tyF144 : TyF Try.prog 144 false 1 := ⟨Try.isAgg144, Try.sizeOf144⟩
theorem slF144 : SlF Try.prog 144 60 2 16 (.agg #[.int .i64 0, .bool false]) := ⟨Try.underlying144, ⟨Try.t60, Try.type60, rfl, rfl, rfl⟩, rfl, by decide, by decide⟩
theorem tyZ148 : TyZ Try.prog 148 (.agg #[.int .u64 0, .int .u32 0, .int .u16 0, .int .u16 0, .int .i64 0, .bool false]) := Try.zeroValue148
theorem callee75 : QQ Try.prog 75 := Try.call75
theorem callee74 : QQ Try.prog 74 := Try.call74
theorem slF83 : SlF Try.prog 83 89 5 24 (.agg #[.int .i64 0, .int .u64 0, .int .u32 0, .int .u16 0, .int .u16 0]) := ⟨Try.underlying83, ⟨Try.t89, Try.type89, rfl, rfl, rfl⟩, rfl, by decide, by decide⟩
theorem callee76 : QQ Try.prog 76 := Try.call76
theorem callee27 : QQ Try.prog 27 := Try.call27
theorem callee28 : QQ Try.prog 28 := Try.call28
theorem fldF78x0 : FldF Try.prog 78 0 0 := fun a w => by simp [Instr.fieldAt, Instr.sureAddr, fieldPlace, Try.runUnderlying78, Try.sizeOf3]
theorem fldF78x1 : FldF Try.prog 78 1 1 := fun a w => by simp [Instr.fieldAt, Instr.sureAddr, fieldPlace, Try.runUnderlying78, Try.sizeOf36]
theorem callee29 : QQ Try.prog 29 := Try.call29
theorem tyZ78 : TyZ Try.prog 78 (.agg #[.int .i64 0, .int .u64 0, .int .u32 0, .int .u16 0, .int .u16 0]) := Try.zeroValue78
theorem tyF78 : TyF Try.prog 78 true 5 := ⟨Try.isAgg78, Try.sizeOf78⟩
theorem callee72 : QQ Try.prog 72 := Try.call72
theorem callee30 : QQ Try.prog 30 := Try.call30
theorem callee31 : QQ Try.prog 31 := Try.call31
theorem fldF89x0 : FldF Try.prog 89 0 0 := fun a w => by simp [Instr.fieldAt, Instr.sureAddr, fieldPlace, Try.runUnderlying89, Try.sizeOf3]
theorem fldF89x1 : FldF Try.prog 89 1 1 := fun a w => by simp [Instr.fieldAt, Instr.sureAddr, fieldPlace, Try.runUnderlying89, Try.sizeOf87]
theorem callee33 : QQ Try.prog 33 := Try.call33
theorem tyZ89 : TyZ Try.prog 89 (.agg #[.int .i64 0, .int .u64 0, .int .u32 0, .int .u16 0, .int .u16 0]) := Try.zeroValue89
theorem tyF89 : TyF Try.prog 89 true 5 := ⟨Try.isAgg89, Try.sizeOf89⟩
theorem callee34 : QQ Try.prog 34 := Try.call34
end Go.Proofs.Ytlofegfaphijpaa
