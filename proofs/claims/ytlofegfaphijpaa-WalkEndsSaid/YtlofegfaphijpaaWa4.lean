/- The functions do what the plain words say: each is walked once. No statement of the seat is proved here; no condition. -/
import Derived.Test.YtlofegfaphijpaaWa3
namespace Go.Proofs.Ytlofegfaphijpaa
attribute [local irreducible] sub
set_option maxRecDepth 100000 in
set_option maxHeartbeats 4000000 in
theorem w_walk_Reads {m : gmem_Mem} {rp1 : Rings} {head : Int} {table : Bool} {b_m : Nat} {vm1 : Value} {vm2 : Value} {vsm1 : List Value} {r : Int} (h : walk_Reads m rp1 head table = some r) :
  Ctr Try.prog 14 #[.pointer (some ⟨b_m, 0, none⟩), .agg #[vB rp1.Packed, vI rp1.Size, vU64 rp1.Desc, vU64 rp1.Driver, vU64 rp1.Device], vI head, vB table] [(cellsR b_m 113 [vm1, vm2]), (rowsX u8S true vm2 vsm1 m.b none)] [Fact.sl RegionS vm1 m.l]
   (fun rv own shr => rv = vI r ∧ own = [(cellsR b_m 113 [vm1, vm2]), (rowsX u8S true vm2 vsm1 m.b none)] ∧ shr = []) := by
 unfold walk_Reads at h
 refine Ctr.mk (args := [.pointer (some ⟨b_m, 0, none⟩), .agg #[vB rp1.Packed, vI rp1.Size, vU64 rp1.Desc, vU64 rp1.Driver, vU64 rp1.Device], vI head, vB table]) Try.func14 rfl rfl (fun R0 w0 B => ?_)
 refine Tk_seq (Tk_region (Tops_ex rfl (OpT_box rfl rfl rfl rfl) fun b1 => ?_))
 refine Tops_step rfl (OpT_assign rfl rfl rfl rfl) ?_
 refine Tops_nil (tZ [0, 2, 3, 5] [0, 1, 2] [0] rfl rfl rfl rfl ?_)
 refine Tk_seq (Tk_seq (Tk_region (Tops_step rfl (OpT_move rfl rfl rfl rfl) ?_)))
 refine Tops_step rfl (OpT_loadCA (vs := [vB rp1.Packed, vI rp1.Size, vU64 rp1.Desc, vU64 rp1.Driver, vU64 rp1.Device]) rfl rfl rfl rfl tyF29 (i := 2) rfl rfl rfl) ?_
 obtain ⟨refuse1, hx1, h⟩ := ob_e h
 refine Tops_exP rfl (OpT_callP [3, 4, 2] (w_walk_refuse hx1) [0, 1] [0] rfl rfl rfl rfl rfl callee40 rfl rfl rfl rfl rfl) ?_
 rintro _ ⟨_, _, _, ⟨rfl, rfl, rfl⟩, rfl⟩
 refine Tops_step rfl (OpT_bin rfl rfl rfl rfl rfl (bin_neq_i (a := refuse1) (b := (0 : Int)))) ?_
 refine Tops_nil (tZ [0, 2, 3, 5, 15] [0, 1, 2] [0] rfl rfl rfl rfl ?_)
 rcases Bool.eq_false_or_eq_true (refuse1 != (0 : Int)) with hg1 | hg1
 ·replace h := br_t hg1 h
  refine Tk_condT (congrArg (fun b => some (Value.bool b)) hg1) ?_
  refine Tk_seq (Tk_region (Tops_step rfl (OpT_assign rfl rfl rfl rfl) ?_))
  refine Tops_nil (tZ [8] [0, 1] [0] rfl rfl rfl rfl ?_)
  obtain rfl := Option.some.inj h
  exact Tk_retV rfl rfl (resA (vs := [vI (0 : Int)]) rfl ⟨rfl, trivial⟩) [0, 1] [] rfl rfl rfl ⟨rfl, rfl, rfl⟩
 ·replace h := br_f hg1 h
  refine Tk_condF (congrArg (fun b => some (Value.bool b)) hg1) ?_
  refine Tk_skip (Tk_seq (Tk_region (Tops_step rfl (OpT_move rfl rfl rfl rfl) ?_)))
  refine Tops_step rfl (OpT_loadCA (vs := [vB rp1.Packed, vI rp1.Size, vU64 rp1.Desc, vU64 rp1.Driver, vU64 rp1.Device]) rfl rfl rfl rfl tyF29 (i := 2) rfl rfl rfl) ?_
  refine Tops_step rfl (OpT_move rfl rfl rfl rfl) ?_
  refine Tops_step rfl (OpT_move rfl rfl rfl rfl) ?_
  obtain ⟨split1, hx2, h⟩ := ob_e h
  refine Tops_exP rfl (OpT_callP [3, 4, 2, 5] (w_walk_split hx2) [0, 1] [0] rfl rfl rfl rfl rfl callee41 rfl rfl rfl rfl rfl) ?_
  rintro _ ⟨_, _, _, ⟨v1, rfl, rfl, rfl⟩, rfl⟩
  refine Tops_step rfl (OpT_move rfl rfl rfl rfl) ?_
  refine Tops_step rfl (OpT_extract rfl rfl rfl rfl rfl) ?_
  refine Tops_step rfl (OpT_extract rfl rfl rfl rfl rfl) ?_
  refine Tops_step rfl (OpT_extract rfl rfl rfl rfl rfl) ?_
  refine Tops_step rfl (OpT_assign rfl rfl rfl rfl) ?_
  refine Tops_step rfl (OpT_assign rfl rfl rfl rfl) ?_
  refine Tops_step rfl (OpT_assign rfl rfl rfl rfl) ?_
  refine Tops_nil (tZ [10] [0, 1] [0] rfl rfl rfl rfl ?_)
  refine Tk_seq (Tk_region (Tops_step rfl (OpT_move rfl rfl rfl rfl) ?_))
  refine Tops_step rfl (OpT_assign rfl rfl rfl rfl) ?_
  refine Tops_nil (tZ [8] [0, 1] [0] rfl rfl rfl rfl ?_)
  obtain rfl := Option.some.inj h
  exact Tk_retV rfl rfl (resA (vs := [vI split1.2.1]) rfl ⟨rfl, trivial⟩) [0, 1] [] rfl rfl rfl ⟨rfl, rfl, rfl⟩

set_option maxRecDepth 100000 in
set_option maxHeartbeats 4000000 in
theorem w_serial_Check {pp0 : Pos} {size : Int} {r : Int} (h : serial_Check pp0 size = some r) :
  Ctr Try.prog 48 #[.agg #[vI pp0.At, vB pp0.Wrap], vI size] [] []
   (fun rv own shr => rv = vI r ∧ own = [] ∧ shr = []) := by
 unfold serial_Check at h
 refine Ctr.mk (args := [.agg #[vI pp0.At, vB pp0.Wrap], vI size]) Try.func48 rfl rfl (fun R0 w0 B => ?_)
 refine Tk_seq (Tk_region (Tops_ex rfl (OpT_box rfl rfl rfl rfl) fun b1 => ?_))
 refine Tops_step rfl (OpT_assign rfl rfl rfl rfl) ?_
 refine Tops_nil (tZ [1, 2] [0] [] rfl rfl rfl rfl ?_)
 refine Tk_seq (Tk_seq (Tk_region (Tops_step rfl (OpT_move rfl rfl rfl rfl) ?_)))
 obtain ⟨issize1, hx1, h⟩ := ob_e h
 refine Tops_exP rfl (OpT_call (w_serial_isSize hx1) [] [] rfl rfl rfl rfl rfl callee91 rfl rfl rfl rfl) ?_
 rintro _ ⟨_, _, _, ⟨rfl, rfl, rfl⟩, rfl⟩
 refine Tops_step rfl (OpT_not rfl rfl rfl rfl) ?_
 refine Tops_step rfl (OpT_move rfl rfl rfl rfl) ?_
 rcases Bool.eq_false_or_eq_true ((!issize1)) with hg1 | hg1
 ·replace h := br_t hg1 h
  refine Tops_no rfl rfl (congrArg (fun b => some (Value.bool b)) hg1) rfl rfl ?_
  refine Tops_no rfl rfl (congrArg (fun b => some (Value.bool b)) hg1) rfl rfl ?_
  refine Tops_no rfl rfl (congrArg (fun b => some (Value.bool b)) hg1) rfl rfl ?_
  refine Tops_step rfl (OpT_pickT rfl rfl rfl (congrArg (fun b => some (Value.bool b)) hg1) rfl) ?_
  refine Tops_step rfl (OpT_move rfl rfl rfl rfl) ?_
  refine Tops_no rfl rfl rfl rfl rfl ?_
  refine Tops_no rfl rfl rfl rfl rfl ?_
  refine Tops_no rfl rfl rfl rfl rfl ?_
  refine Tops_no rfl rfl rfl rfl rfl ?_
  refine Tops_step rfl (OpT_pickT rfl rfl rfl rfl rfl) ?_
  refine Tops_nil (tZ [18] [] [] rfl rfl rfl rfl ?_)
  refine Tk_condT rfl ?_
  refine Tk_seq (Tk_region (Tops_step rfl (OpT_assign rfl rfl rfl rfl) ?_))
  refine Tops_nil (tZ [4] [] [] rfl rfl rfl rfl ?_)
  obtain rfl := Option.some.inj h
  exact Tk_retV rfl rfl (resA (vs := [vI (2 : Int)]) rfl ⟨rfl, trivial⟩) [] [] rfl rfl rfl ⟨rfl, rfl, rfl⟩
 ·replace h := br_f hg1 h
  refine Tops_yes rfl rfl (congrArg (fun b => some (Value.bool b)) hg1) (OpT_fieldC rfl rfl rfl rfl fldF60x0) ?_
  rintro _ rfl
  refine Tops_yes rfl rfl (congrArg (fun b => some (Value.bool b)) hg1) (OpT_loadC rfl rfl rfl rfl tyF3 (i := 0) rfl rfl) ?_
  rintro _ rfl
  refine Tops_yes rfl rfl (congrArg (fun b => some (Value.bool b)) hg1) (OpT_bin rfl rfl rfl rfl rfl (bin_lss_i (a := pp0.At) (b := (0 : Int)))) ?_
  rintro _ rfl
  refine Tops_step rfl (OpT_pickF rfl rfl rfl (congrArg (fun b => some (Value.bool b)) hg1) rfl) ?_
  refine Tops_step rfl (OpT_move rfl rfl rfl rfl) ?_
  rcases Bool.eq_false_or_eq_true (decide (pp0.At < (0 : Int))) with hg2 | hg2
  ·replace h := br_t hg2 h
   refine Tops_no rfl rfl (congrArg (fun b => some (Value.bool b)) hg2) rfl rfl ?_
   refine Tops_no rfl rfl (congrArg (fun b => some (Value.bool b)) hg2) rfl rfl ?_
   refine Tops_no rfl rfl (congrArg (fun b => some (Value.bool b)) hg2) rfl rfl ?_
   refine Tops_no rfl rfl (congrArg (fun b => some (Value.bool b)) hg2) rfl rfl ?_
   refine Tops_step rfl (OpT_pickT rfl rfl rfl (congrArg (fun b => some (Value.bool b)) hg2) rfl) ?_
   refine Tops_nil (tZ [18] [] [] rfl rfl rfl rfl ?_)
   refine Tk_condT rfl ?_
   refine Tk_seq (Tk_region (Tops_step rfl (OpT_assign rfl rfl rfl rfl) ?_))
   refine Tops_nil (tZ [4] [] [] rfl rfl rfl rfl ?_)
   obtain rfl := Option.some.inj h
   exact Tk_retV rfl rfl (resA (vs := [vI (2 : Int)]) rfl ⟨rfl, trivial⟩) [] [] rfl rfl rfl ⟨rfl, rfl, rfl⟩
  ·replace h := br_f hg2 h
   refine Tops_yes rfl rfl (congrArg (fun b => some (Value.bool b)) hg2) (OpT_fieldC rfl rfl rfl rfl fldF60x0) ?_
   rintro _ rfl
   refine Tops_yes rfl rfl (congrArg (fun b => some (Value.bool b)) hg2) (OpT_loadC rfl rfl rfl rfl tyF3 (i := 0) rfl rfl) ?_
   rintro _ rfl
   refine Tops_yes rfl rfl (congrArg (fun b => some (Value.bool b)) hg2) (OpT_move rfl rfl rfl rfl) ?_
   rintro _ rfl
   refine Tops_yes rfl rfl (congrArg (fun b => some (Value.bool b)) hg2) (OpT_bin rfl rfl rfl rfl rfl (bin_geq_i (a := pp0.At) (b := size))) ?_
   rintro _ rfl
   refine Tops_step rfl (OpT_pickF rfl rfl rfl (congrArg (fun b => some (Value.bool b)) hg2) rfl) ?_
   refine Tops_nil (tZ [18] [] [] rfl rfl rfl rfl ?_)
   rcases Bool.eq_false_or_eq_true (decide (pp0.At ≥ size)) with hg3 | hg3
   ·replace h := br_t hg3 h
    refine Tk_condT (congrArg (fun b => some (Value.bool b)) hg3) ?_
    refine Tk_seq (Tk_region (Tops_step rfl (OpT_assign rfl rfl rfl rfl) ?_))
    refine Tops_nil (tZ [4] [] [] rfl rfl rfl rfl ?_)
    obtain rfl := Option.some.inj h
    exact Tk_retV rfl rfl (resA (vs := [vI (2 : Int)]) rfl ⟨rfl, trivial⟩) [] [] rfl rfl rfl ⟨rfl, rfl, rfl⟩
   ·replace h := br_f hg3 h
    refine Tk_condF (congrArg (fun b => some (Value.bool b)) hg3) ?_
    refine Tk_skip (Tk_seq (Tk_region (Tops_step rfl (OpT_assign rfl rfl rfl rfl) ?_)))
    refine Tops_nil (tZ [4] [] [] rfl rfl rfl rfl ?_)
    obtain rfl := Option.some.inj h
    exact Tk_retV rfl rfl (resA (vs := [vI (0 : Int)]) rfl ⟨rfl, trivial⟩) [] [] rfl rfl rfl ⟨rfl, rfl, rfl⟩

set_option maxRecDepth 100000 in
set_option maxHeartbeats 4000000 in
theorem w_desc_ReadPacked {b : List UInt8} {vb1 : Value} {r : (Packed × Int)} (h : desc_ReadPacked b = some r) :
  Ctr Try.prog 92 #[vb1] [] [Fact.sl u8S vb1 b]
   (fun rv own shr => rv = .tuple #[.agg #[vU64 r.1.Addr, vU32 r.1.Len, vU16 r.1.ID, vU16 r.1.Flags], vI r.2] ∧ own = [] ∧ shr = []) := by
 unfold desc_ReadPacked at h
 refine Ctr.mk (args := [vb1]) Try.func92 rfl rfl (fun R0 w0 B => ?_)
 refine Tk_seq (Tk_region (Tops_ex rfl (OpT_alloc rfl rfl rfl tyZ87) fun b1 => ?_))
 refine Tops_step rfl (OpT_assign rfl rfl rfl rfl) ?_
 refine Tops_nil (tZ [0, 2] [0] [0] rfl rfl rfl rfl ?_)
 refine Tk_seq (Tk_seq (Tk_region (Tops_step rfl (OpT_move rfl rfl rfl rfl) ?_)))
 refine Tops_step rfl (OpT_lenS rfl rfl rfl rfl Try.underlying39 (i := 0) rfl) ?_
 refine Tops_step rfl (OpT_bin rfl rfl rfl rfl rfl (bin_neq_i (a := len b) (b := (16 : Int)))) ?_
 refine Tops_nil (tZ [0, 2, 7] [0] [0] rfl rfl rfl rfl ?_)
 rcases Bool.eq_false_or_eq_true ((len b) != (16 : Int)) with hg1 | hg1
 ·replace h := br_t hg1 h
  refine Tk_condT (congrArg (fun b => some (Value.bool b)) hg1) ?_
  refine Tk_seq (Tk_region (Tops_step rfl (OpT_build (v := .agg #[vU64 (0 : UInt64), vU32 (0 : UInt32), vU16 (0 : UInt16), vU16 (0 : UInt16)]) rfl rfl rfl rfl (bldV (by kernel_rfl))) ?_))
  refine Tops_step rfl (OpT_storeC (cs' := [vU64 (0 : UInt64), vU32 (0 : UInt32), vU16 (0 : UInt16), vU16 (0 : UInt16)]) rfl rfl rfl rfl tyF87 (i := 0) rfl rfl rfl (one_of rfl) rfl) ?_
  refine Tops_step rfl (OpT_assign rfl rfl rfl rfl) ?_
  refine Tops_nil (tZ [2, 3] [0] [] rfl rfl rfl rfl ?_)
  obtain rfl := Option.some.inj h
  exact Tk_retV rfl rfl (resA (vs := [.agg #[vU64 (0 : UInt64), vU32 (0 : UInt32), vU16 (0 : UInt16), vU16 (0 : UInt16)], vI (4 : Int)]) rfl ⟨⟨_, 0, _, _, _, rfl, rfl, .inl ⟨tyF87, rfl, rfl⟩⟩, rfl, trivial⟩) [] [] rfl rfl rfl ⟨rfl, rfl, rfl⟩
 ·replace h := br_f hg1 h
  refine Tk_condF (congrArg (fun b => some (Value.bool b)) hg1) ?_
  refine Tk_skip (Tk_seq (Tk_region (Tops_step rfl (OpT_move rfl rfl rfl rfl) ?_)))
  obtain ⟨hc1, h⟩ := chk_e h
  refine Tops_ex rfl (OpT_toArr rfl rfl rfl rfl arrF180 (i := 0) rfl hc1 rfl) fun p1 => ?_
  refine Tops_step rfl (OpT_loadArrD u8S rfl (f := vU8) (fun _ => rfl) rfl rfl rfl rfl tyF180 (i := 1) rfl rfl) ?_
  refine Tops_ex rfl (OpT_alloc rfl rfl rfl tyZ180) fun b2 => ?_
  obtain ⟨hc2, h⟩ := chk_e h
  refine Tops_step rfl (OpT_storeLAA (f := vU8) (xs := b.take 16) rfl rfl rfl rfl tyF180 (i := 1) rfl hc2 rfl (fun _ => rfl)) ?_
  refine Tops_nil (tZ [2, 4] [0, 1] [] rfl rfl rfl rfl ?_)
  refine Tk_seq (Tk_region ?_)
  obtain ⟨get1, hx1, h⟩ := ob_e h
  refine Tops_exP rfl (OpT_callP [0, 2] (w_desc_raw_get hx1) [1] [] rfl rfl rfl rfl rfl callee113 rfl rfl rfl rfl rfl) ?_
  rintro _ ⟨_, _, _, ⟨rfl, rfl, rfl⟩, rfl⟩
  obtain ⟨get2, hx2, h⟩ := ob_e h
  refine Tops_exP rfl (OpT_callP [0, 2] (w_desc_raw_get hx2) [1] [] rfl rfl rfl rfl rfl callee113 rfl rfl rfl rfl rfl) ?_
  rintro _ ⟨_, _, _, ⟨rfl, rfl, rfl⟩, rfl⟩
  refine Tops_step rfl (OpT_cnv rfl rfl rfl rfl (cnv_u64_u32 (n := get2) Try.underlying27 Try.underlying33)) ?_
  obtain ⟨get3, hx3, h⟩ := ob_e h
  refine Tops_exP rfl (OpT_callP [0, 2] (w_desc_raw_get hx3) [1] [] rfl rfl rfl rfl rfl callee113 rfl rfl rfl rfl rfl) ?_
  rintro _ ⟨_, _, _, ⟨rfl, rfl, rfl⟩, rfl⟩
  refine Tops_step rfl (OpT_cnv rfl rfl rfl rfl (cnv_u64_u16 (n := get3) Try.underlying27 Try.underlying34)) ?_
  obtain ⟨get4, hx4, h⟩ := ob_e h
  refine Tops_exP rfl (OpT_callP [0, 2] (w_desc_raw_get hx4) [1] [] rfl rfl rfl rfl rfl callee113 rfl rfl rfl rfl rfl) ?_
  rintro _ ⟨_, _, _, ⟨rfl, rfl, rfl⟩, rfl⟩
  refine Tops_step rfl (OpT_cnv rfl rfl rfl rfl (cnv_u64_u16 (n := get4) Try.underlying27 Try.underlying34)) ?_
  refine Tops_step rfl (OpT_build (v := .agg #[vU64 get1, vU32 get2.toUInt32, vU16 get3.toUInt16, vU16 get4.toUInt16]) rfl rfl rfl rfl (bldV (by kernel_rfl))) ?_
  refine Tops_step rfl (OpT_storeC (cs' := [vU64 get1, vU32 get2.toUInt32, vU16 get3.toUInt16, vU16 get4.toUInt16]) rfl rfl rfl rfl tyF87 (i := 0) rfl rfl rfl (one_of rfl) rfl) ?_
  refine Tops_step rfl (OpT_assign rfl rfl rfl rfl) ?_
  refine Tops_nil (tZ [2, 3] [0] [] rfl rfl rfl rfl ?_)
  obtain rfl := Option.some.inj h
  exact Tk_retV rfl rfl (resA (vs := [.agg #[vU64 get1, vU32 get2.toUInt32, vU16 get3.toUInt16, vU16 get4.toUInt16], vI (0 : Int)]) rfl ⟨⟨_, 0, _, _, _, rfl, rfl, .inl ⟨tyF87, rfl, rfl⟩⟩, rfl, trivial⟩) [] [] rfl rfl rfl ⟨rfl, rfl, rfl⟩

set_option maxRecDepth 100000 in
set_option maxHeartbeats 4000000 in
theorem w_serial_Go {pp0 : Pos} {byp1 : Int} {size : Int} {r : (Pos × Int)} (h : serial_Go pp0 byp1 size = some r) :
  Ctr Try.prog 73 #[.agg #[vI pp0.At, vB pp0.Wrap], vI byp1, vI size] [] []
   (fun rv own shr => rv = .tuple #[.agg #[vI r.1.At, vB r.1.Wrap], vI r.2] ∧ own = [] ∧ shr = []) := by
 unfold serial_Go at h
 refine Ctr.mk (args := [.agg #[vI pp0.At, vB pp0.Wrap], vI byp1, vI size]) Try.func73 rfl rfl (fun R0 w0 B => ?_)
 refine Tk_seq (Tk_region (Tops_ex rfl (OpT_box rfl rfl rfl rfl) fun b1 => ?_))
 refine Tops_ex rfl (OpT_alloc rfl rfl rfl tyZ60) fun b2 => ?_
 refine Tops_step rfl (OpT_assign rfl rfl rfl rfl) ?_
 refine Tops_nil (tZ [1, 2, 3, 6] [0, 1] [] rfl rfl rfl rfl ?_)
 refine Tk_seq (Tk_seq (Tk_region (Tops_step rfl (OpT_loadCA (vs := [vI pp0.At, vB pp0.Wrap]) rfl rfl rfl rfl tyF60 (i := 0) rfl rfl rfl) ?_)))
 refine Tops_step rfl (OpT_move rfl rfl rfl rfl) ?_
 obtain ⟨check1, hx1, h⟩ := ob_e h
 refine Tops_exP rfl (OpT_call (w_serial_Check hx1) [] [] rfl rfl rfl rfl rfl callee48 rfl rfl rfl rfl) ?_
 rintro _ ⟨_, _, _, ⟨rfl, rfl, rfl⟩, rfl⟩
 refine Tops_step rfl (OpT_bin rfl rfl rfl rfl rfl (bin_neq_i (a := check1) (b := (0 : Int)))) ?_
 refine Tops_step rfl (OpT_move rfl rfl rfl rfl) ?_
 rcases Bool.eq_false_or_eq_true (check1 != (0 : Int)) with hg1 | hg1
 ·replace h := br_t hg1 h
  refine Tops_no rfl rfl (congrArg (fun b => some (Value.bool b)) hg1) rfl rfl ?_
  refine Tops_no rfl rfl (congrArg (fun b => some (Value.bool b)) hg1) rfl rfl ?_
  refine Tops_step rfl (OpT_pickT rfl rfl rfl (congrArg (fun b => some (Value.bool b)) hg1) rfl) ?_
  refine Tops_step rfl (OpT_move rfl rfl rfl rfl) ?_
  refine Tops_no rfl rfl rfl rfl rfl ?_
  refine Tops_no rfl rfl rfl rfl rfl ?_
  refine Tops_no rfl rfl rfl rfl rfl ?_
  refine Tops_step rfl (OpT_pickT rfl rfl rfl rfl rfl) ?_
  refine Tops_nil (tZ [1, 2, 3, 6, 20] [0, 1] [] rfl rfl rfl rfl ?_)
  refine Tk_condT rfl ?_
  refine Tk_seq (Tk_region (Tops_step rfl (OpT_build (v := .agg #[vI (0 : Int), vB false]) rfl rfl rfl rfl (bldV (by kernel_rfl))) ?_))
  refine Tops_step rfl (OpT_storeC (cs' := [vI (0 : Int), vB false]) rfl rfl rfl rfl tyF60 (i := 1) rfl rfl rfl (one_of rfl) rfl) ?_
  refine Tops_step rfl (OpT_assign rfl rfl rfl rfl) ?_
  refine Tops_nil (tZ [6, 7] [1] [] rfl rfl rfl rfl ?_)
  obtain rfl := Option.some.inj h
  exact Tk_retV rfl rfl (resA (vs := [.agg #[vI (0 : Int), vB false], vI (2 : Int)]) rfl ⟨⟨_, 0, _, _, _, rfl, rfl, .inl ⟨tyF60, rfl, rfl⟩⟩, rfl, trivial⟩) [] [] rfl rfl rfl ⟨rfl, rfl, rfl⟩
 ·replace h := br_f hg1 h
  refine Tops_yes rfl rfl (congrArg (fun b => some (Value.bool b)) hg1) (OpT_move rfl rfl rfl rfl) ?_
  rintro _ rfl
  refine Tops_yes rfl rfl (congrArg (fun b => some (Value.bool b)) hg1) (OpT_bin rfl rfl rfl rfl rfl (bin_lss_i (a := byp1) (b := (0 : Int)))) ?_
  rintro _ rfl
  refine Tops_step rfl (OpT_pickF rfl rfl rfl (congrArg (fun b => some (Value.bool b)) hg1) rfl) ?_
  refine Tops_step rfl (OpT_move rfl rfl rfl rfl) ?_
  rcases Bool.eq_false_or_eq_true (decide (byp1 < (0 : Int))) with hg2 | hg2
  ·replace h := br_t hg2 h
   refine Tops_no rfl rfl (congrArg (fun b => some (Value.bool b)) hg2) rfl rfl ?_
   refine Tops_no rfl rfl (congrArg (fun b => some (Value.bool b)) hg2) rfl rfl ?_
   refine Tops_no rfl rfl (congrArg (fun b => some (Value.bool b)) hg2) rfl rfl ?_
   refine Tops_step rfl (OpT_pickT rfl rfl rfl (congrArg (fun b => some (Value.bool b)) hg2) rfl) ?_
   refine Tops_nil (tZ [1, 2, 3, 6, 20] [0, 1] [] rfl rfl rfl rfl ?_)
   refine Tk_condT rfl ?_
   refine Tk_seq (Tk_region (Tops_step rfl (OpT_build (v := .agg #[vI (0 : Int), vB false]) rfl rfl rfl rfl (bldV (by kernel_rfl))) ?_))
   refine Tops_step rfl (OpT_storeC (cs' := [vI (0 : Int), vB false]) rfl rfl rfl rfl tyF60 (i := 1) rfl rfl rfl (one_of rfl) rfl) ?_
   refine Tops_step rfl (OpT_assign rfl rfl rfl rfl) ?_
   refine Tops_nil (tZ [6, 7] [1] [] rfl rfl rfl rfl ?_)
   obtain rfl := Option.some.inj h
   exact Tk_retV rfl rfl (resA (vs := [.agg #[vI (0 : Int), vB false], vI (2 : Int)]) rfl ⟨⟨_, 0, _, _, _, rfl, rfl, .inl ⟨tyF60, rfl, rfl⟩⟩, rfl, trivial⟩) [] [] rfl rfl rfl ⟨rfl, rfl, rfl⟩
  ·replace h := br_f hg2 h
   refine Tops_yes rfl rfl (congrArg (fun b => some (Value.bool b)) hg2) (OpT_move rfl rfl rfl rfl) ?_
   rintro _ rfl
   refine Tops_yes rfl rfl (congrArg (fun b => some (Value.bool b)) hg2) (OpT_move rfl rfl rfl rfl) ?_
   rintro _ rfl
   refine Tops_yes rfl rfl (congrArg (fun b => some (Value.bool b)) hg2) (OpT_bin rfl rfl rfl rfl rfl (bin_gtr_i (a := byp1) (b := size))) ?_
   rintro _ rfl
   refine Tops_step rfl (OpT_pickF rfl rfl rfl (congrArg (fun b => some (Value.bool b)) hg2) rfl) ?_
   refine Tops_nil (tZ [1, 2, 3, 6, 20] [0, 1] [] rfl rfl rfl rfl ?_)
   rcases Bool.eq_false_or_eq_true (decide (byp1 > size)) with hg3 | hg3
   ·replace h := br_t hg3 h
    refine Tk_condT (congrArg (fun b => some (Value.bool b)) hg3) ?_
    refine Tk_seq (Tk_region (Tops_step rfl (OpT_build (v := .agg #[vI (0 : Int), vB false]) rfl rfl rfl rfl (bldV (by kernel_rfl))) ?_))
    refine Tops_step rfl (OpT_storeC (cs' := [vI (0 : Int), vB false]) rfl rfl rfl rfl tyF60 (i := 1) rfl rfl rfl (one_of rfl) rfl) ?_
    refine Tops_step rfl (OpT_assign rfl rfl rfl rfl) ?_
    refine Tops_nil (tZ [6, 7] [1] [] rfl rfl rfl rfl ?_)
    obtain rfl := Option.some.inj h
    exact Tk_retV rfl rfl (resA (vs := [.agg #[vI (0 : Int), vB false], vI (2 : Int)]) rfl ⟨⟨_, 0, _, _, _, rfl, rfl, .inl ⟨tyF60, rfl, rfl⟩⟩, rfl, trivial⟩) [] [] rfl rfl rfl ⟨rfl, rfl, rfl⟩
   ·replace h := br_f hg3 h
    refine Tk_condF (congrArg (fun b => some (Value.bool b)) hg3) ?_
    refine Tk_skip (Tk_seq (Tk_region (Tops_step rfl (OpT_fieldC rfl rfl rfl rfl fldF60x0) ?_)))
    refine Tops_step rfl (OpT_loadC rfl rfl rfl rfl tyF3 (i := 0) rfl rfl) ?_
    refine Tops_step rfl (OpT_move rfl rfl rfl rfl) ?_
    refine Tops_step rfl (OpT_bin rfl rfl rfl rfl rfl (bin_add_i (a := pp0.At) (b := byp1))) ?_
    refine Tops_step rfl (OpT_fieldC rfl rfl rfl rfl fldF60x0) ?_
    refine Tops_step rfl (OpT_storeC (cs' := [vI (wi (pp0.At + byp1)), vB pp0.Wrap]) rfl rfl rfl rfl tyF3 (i := 0) rfl rfl rfl (one_of rfl) rfl) ?_
    refine Tops_nil (tZ [2, 3, 6] [0, 1] [] rfl rfl rfl rfl ?_)
    refine Tk_seq (Tk_seq (Tk_region (Tops_step rfl (OpT_fieldC rfl rfl rfl rfl fldF60x0) ?_)))
    refine Tops_step rfl (OpT_loadC rfl rfl rfl rfl tyF3 (i := 0) rfl rfl) ?_
    refine Tops_step rfl (OpT_move rfl rfl rfl rfl) ?_
    refine Tops_step rfl (OpT_bin rfl rfl rfl rfl rfl (bin_geq_i (a := wi (pp0.At + byp1)) (b := size))) ?_
    refine Tops_nil (tZ [2, 3, 6, 30] [0, 1] [] rfl rfl rfl rfl ?_)
    rcases Bool.eq_false_or_eq_true (decide ((wi (pp0.At + byp1)) ≥ size)) with hg4 | hg4
    ·replace h := br_t hg4 h
     refine Tk_condT (congrArg (fun b => some (Value.bool b)) hg4) ?_
     refine Tk_seq (Tk_region (Tops_step rfl (OpT_fieldC rfl rfl rfl rfl fldF60x0) ?_))
     refine Tops_step rfl (OpT_loadC rfl rfl rfl rfl tyF3 (i := 0) rfl rfl) ?_
     refine Tops_step rfl (OpT_move rfl rfl rfl rfl) ?_
     refine Tops_step rfl (OpT_bin rfl rfl rfl rfl rfl (bin_sub_i (a := wi (pp0.At + byp1)) (b := size))) ?_
     refine Tops_step rfl (OpT_fieldC rfl rfl rfl rfl fldF60x0) ?_
     refine Tops_step rfl (OpT_storeC (cs' := [vI (wi ((wi (pp0.At + byp1)) - size)), vB pp0.Wrap]) rfl rfl rfl rfl tyF3 (i := 0) rfl rfl rfl (one_of rfl) rfl) ?_
     refine Tops_nil (tZ [3, 6] [0, 1] [] rfl rfl rfl rfl ?_)
     refine Tk_region (Tops_step rfl (OpT_fieldC rfl rfl rfl rfl fldF60x1) ?_)
     refine Tops_step rfl (OpT_loadC rfl rfl rfl rfl tyF4 (i := 0) rfl rfl) ?_
     refine Tops_step rfl (OpT_not rfl rfl rfl rfl) ?_
     refine Tops_step rfl (OpT_fieldC rfl rfl rfl rfl fldF60x1) ?_
     refine Tops_step rfl (OpT_storeC (cs' := [vI (wi ((wi (pp0.At + byp1)) - size)), vB (!pp0.Wrap)]) rfl rfl rfl rfl tyF4 (i := 0) rfl rfl rfl (one_of rfl) rfl) ?_
     refine Tops_nil (tZ [3, 6] [0, 1] [] rfl rfl rfl rfl ?_)
     refine Tk_seq (Tk_region (Tops_step rfl (OpT_loadCA (vs := [vI (wi ((wi (pp0.At + byp1)) - size)), vB (!pp0.Wrap)]) rfl rfl rfl rfl tyF60 (i := 0) rfl rfl rfl) ?_))
     refine Tops_step rfl (OpT_storeC (cs' := [vI (wi ((wi (pp0.At + byp1)) - size)), vB (!pp0.Wrap)]) rfl rfl rfl rfl tyF60 (i := 1) rfl rfl rfl (one_of rfl) rfl) ?_
     refine Tops_step rfl (OpT_assign rfl rfl rfl rfl) ?_
     refine Tops_nil (tZ [6, 7] [1] [] rfl rfl rfl rfl ?_)
     obtain rfl := Option.some.inj h
     exact Tk_retV rfl rfl (resA (vs := [.agg #[vI (wi ((wi (pp0.At + byp1)) - size)), vB (!pp0.Wrap)], vI (0 : Int)]) rfl ⟨⟨_, 0, _, _, _, rfl, rfl, .inl ⟨tyF60, rfl, rfl⟩⟩, rfl, trivial⟩) [] [] rfl rfl rfl ⟨rfl, rfl, rfl⟩
    ·replace h := br_f hg4 h
     refine Tk_condF (congrArg (fun b => some (Value.bool b)) hg4) ?_
     refine Tk_skip (Tk_seq (Tk_region (Tops_step rfl (OpT_loadCA (vs := [vI (wi (pp0.At + byp1)), vB pp0.Wrap]) rfl rfl rfl rfl tyF60 (i := 0) rfl rfl rfl) ?_)))
     refine Tops_step rfl (OpT_storeC (cs' := [vI (wi (pp0.At + byp1)), vB pp0.Wrap]) rfl rfl rfl rfl tyF60 (i := 1) rfl rfl rfl (one_of rfl) rfl) ?_
     refine Tops_step rfl (OpT_assign rfl rfl rfl rfl) ?_
     refine Tops_nil (tZ [6, 7] [1] [] rfl rfl rfl rfl ?_)
     obtain rfl := Option.some.inj h
     exact Tk_retV rfl rfl (resA (vs := [.agg #[vI (wi (pp0.At + byp1)), vB pp0.Wrap], vI (0 : Int)]) rfl ⟨⟨_, 0, _, _, _, rfl, rfl, .inl ⟨tyF60, rfl, rfl⟩⟩, rfl, trivial⟩) [] [] rfl rfl rfl ⟨rfl, rfl, rfl⟩

set_option maxRecDepth 100000 in
set_option maxHeartbeats 4000000 in
theorem w_walk_within {m : gmem_Mem} {atp1 : UInt64} {np2 : UInt32} {b_m : Nat} {vm1 : Value} {vm2 : Value} {vsm1 : List Value} {r : ((List Seg) × Int)} (h : walk_within m atp1 np2 = some r) :
  Ctr Try.prog 93 #[.pointer (some ⟨b_m, 0, none⟩), vU64 atp1, vU32 np2] [(cellsR b_m 113 [vm1, vm2]), (rowsX u8S true vm2 vsm1 m.b none)] [Fact.sl RegionS vm1 m.l]
   (fun rv own shr => ∃ (w1 : Value), rv = .tuple #[w1, vI r.2] ∧ own = [(cellsR b_m 113 [vm1, vm2]), (rowsX u8S true vm2 vsm1 m.b none), (rowS SegS w1 r.1)] ∧ shr = []) := by
 unfold walk_within at h
 refine Ctr.mk (args := [.pointer (some ⟨b_m, 0, none⟩), vU64 atp1, vU32 np2]) Try.func93 rfl rfl (fun R0 w0 B => ?_)
 refine Tk_seq (Tk_region (Tops_step rfl (OpT_assign rfl rfl rfl rfl) ?_))
 refine Tops_step rfl (OpT_assign rfl rfl rfl rfl) ?_
 refine Tops_nil (tZ [0, 1, 2, 6] [0, 1] [0] rfl rfl rfl rfl ?_)
 refine Tk_seq (Tk_region (Tops_step rfl (OpT_move rfl rfl rfl rfl) ?_))
 refine Tops_step rfl (OpT_move rfl rfl rfl rfl) ?_
 refine Tops_step rfl (OpT_move rfl rfl rfl rfl) ?_
 obtain ⟨entrie1, hx1, h⟩ := ob_e h
 refine Tops_exP rfl (OpT_callP [2, 3] (w_walk_entries hx1) [0, 1] [0] rfl rfl rfl rfl rfl callee86 rfl rfl rfl rfl rfl) ?_
 rintro _ ⟨_, _, _, ⟨rfl, rfl, rfl⟩, rfl⟩
 refine Tops_step rfl (OpT_move rfl rfl rfl rfl) ?_
 refine Tops_step rfl (OpT_extract rfl rfl rfl rfl rfl) ?_
 refine Tops_step rfl (OpT_extract rfl rfl rfl rfl rfl) ?_
 refine Tops_step rfl (OpT_assign rfl rfl rfl rfl) ?_
 refine Tops_step rfl (OpT_assign rfl rfl rfl rfl) ?_
 refine Tops_nil (tZ [0, 1, 6, 8, 7] [0, 1] [0] rfl rfl rfl rfl ?_)
 refine Tk_seq (Tk_seq (Tk_region (Tops_step rfl (OpT_move rfl rfl rfl rfl) ?_)))
 refine Tops_step rfl (OpT_move rfl rfl rfl rfl) ?_
 refine Tops_nil (tZ [0, 1, 6, 7, 21, 22] [0, 1] [0] rfl rfl rfl rfl ?_)
 refine Tk_block (Tk_nilrow SegS ?_)
 refine Tk_loopS (σ := (List Seg) × Int × Int × Value) [0, 1, 6, 7, 21, 22] [0, 1, 2] [0] (fun s => ⟨[(0, some (.pointer (some ⟨b_m, 0, none⟩))), (1, some (vU64 atp1)), (6, some (s.2.2.2)), (7, some (vI s.2.1)), (21, some (vI entrie1.1)), (22, some (vI s.2.2.1))], [some (cellsR b_m 113 [vm1, vm2]), some (rowsX u8S true vm2 vsm1 m.b none), some (rowS SegS s.2.2.2 s.1)], [Fact.sl RegionS vm1 m.l]⟩) (fun nf1 s => walk_withinL1 m atp1 entrie1 nf1 s.1 s.2.1 s.2.2.1 = some r) fuel ([], entrie1.2, (0 : Int), (.slice none 0 0)) h rfl rfl rfl rfl rfl (fun s h => by cases h) ?_
 rintro nf1 ⟨l1, e1, x1, v1⟩ h
 replace h : walk_withinL1B m atp1 entrie1 (walk_withinL1 m atp1 entrie1 nf1) l1 e1 x1 = some r := h
 unfold walk_withinL1B at h
 refine Tk_seq (Tk_region (Tops_step rfl (OpT_bin rfl rfl rfl rfl rfl (bin_lss_i (a := x1) (b := entrie1.1))) ?_))
 refine Tops_nil (Tk_seq ?_)
 rcases Bool.eq_false_or_eq_true (decide (x1 < entrie1.1)) with hg1 | hg1
 ·replace h := br_t hg1 h
  refine Tk_condT (congrArg (fun b => some (Value.bool b)) hg1) ?_
  refine Tk_skip (Tk_seq (Tk_block (Tk_seq (Tk_region (Tops_step rfl (OpT_move rfl rfl rfl rfl) ?_)))))
  refine Tops_step rfl (OpT_assign rfl rfl rfl rfl) ?_
  refine Tops_nil (tZ [0, 1, 6, 7, 21, 22, 9] [0, 1, 2] [0] rfl rfl rfl rfl ?_)
  refine Tk_seq (Tk_region (Tops_step rfl (OpT_move rfl rfl rfl rfl) ?_))
  refine Tops_step rfl (OpT_move rfl rfl rfl rfl) ?_
  refine Tops_step rfl (OpT_move rfl rfl rfl rfl) ?_
  refine Tops_step rfl (OpT_cnv rfl rfl rfl rfl (cnv_i_u64 (n := x1) Try.underlying3 Try.underlying27)) ?_
  refine Tops_step rfl (OpT_bin rfl rfl rfl rfl rfl (bin_mul_u64 (a := (16 : UInt64)) (b := u64 x1))) ?_
  refine Tops_step rfl (OpT_bin rfl rfl rfl rfl rfl (bin_add_u64 (a := atp1) (b := (16 : UInt64) * (u64 x1)))) ?_
  obtain ⟨read1, hx2, h⟩ := ob_e h
  refine Tops_exP rfl (OpT_callP [3, 4, 2, 5] (w_gmem_Mem_Read hx2) [0, 1] [0] rfl rfl rfl rfl rfl callee82 rfl rfl rfl rfl rfl) ?_
  rintro _ ⟨_, _, _, ⟨v2, rfl, rfl, rfl⟩, rfl⟩
  refine Tops_step rfl (OpT_move rfl rfl rfl rfl) ?_
  refine Tops_step rfl (OpT_extract rfl rfl rfl rfl rfl) ?_
  refine Tops_step rfl (OpT_extract rfl rfl rfl rfl rfl) ?_
  refine Tops_step rfl (OpT_assign rfl rfl rfl rfl) ?_
  refine Tops_step rfl (OpT_assign rfl rfl rfl rfl) ?_
  refine Tops_nil (tZ [0, 1, 6, 7, 21, 22, 10] [0, 1, 2, 3] [0] rfl rfl rfl rfl ?_)
  refine Tk_seq (Tk_region (Tops_step rfl (OpT_move rfl rfl rfl rfl) ?_))
  obtain ⟨readpa1, hx3, h⟩ := ob_e h
  refine Tops_exP rfl (OpT_callB [3] [0, 1, 2, 3] (w_desc_ReadPacked hx3) [] rfl rfl rfl rfl rfl callee92 rfl rfl rfl rfl rfl rfl (bor_cons (bor_row 3 rfl rfl) bor_nil) (by rintro _ _ _ ⟨rfl, rfl, rfl⟩; exact ⟨rfl, ri_nil⟩)) ?_
  rintro _ ⟨_, _, _, ⟨rfl, rfl, rfl⟩, rfl⟩
  refine Tops_step rfl (OpT_move rfl rfl rfl rfl) ?_
  refine Tops_step rfl (OpT_extract rfl rfl rfl rfl rfl) ?_
  refine Tops_step rfl (OpT_extract rfl rfl rfl rfl rfl) ?_
  refine Tops_ex rfl (OpT_alloc rfl rfl rfl tyZ87) fun b1 => ?_
  refine Tops_step rfl (OpT_storeC (cs' := [vU64 readpa1.1.Addr, vU32 readpa1.1.Len, vU16 readpa1.1.ID, vU16 readpa1.1.Flags]) rfl rfl rfl rfl tyF87 (i := 4) rfl rfl rfl (one_of rfl) rfl) ?_
  refine Tops_step rfl (OpT_assign rfl rfl rfl rfl) ?_
  refine Tops_nil (tZ [0, 1, 6, 7, 21, 22, 12] [0, 1, 2, 4] [0] rfl rfl rfl rfl ?_)
  refine Tk_seq (Tk_seq (Tk_region (Tops_step rfl (OpT_fieldC rfl rfl rfl rfl fldF87x3) ?_)))
  refine Tops_step rfl (OpT_loadC rfl rfl rfl rfl tyF34 (i := 3) rfl rfl) ?_
  refine Tops_step rfl (OpT_bin rfl rfl rfl rfl rfl (bin_and_u16 (a := readpa1.1.Flags) (b := (4 : UInt16)))) ?_
  refine Tops_step rfl (OpT_bin rfl rfl rfl rfl rfl (bin_neq_u16 (a := readpa1.1.Flags &&& (4 : UInt16)) (b := (0 : UInt16)))) ?_
  refine Tops_nil (tZ [0, 1, 6, 7, 21, 22, 12, 43] [0, 1, 2, 3] [0] rfl rfl rfl rfl ?_)
  rcases Bool.eq_false_or_eq_true ((readpa1.1.Flags &&& (4 : UInt16)) != (0 : UInt16)) with hg2 | hg2
  ·replace h := br_t hg2 h
   refine Tk_condT (congrArg (fun b => some (Value.bool b)) hg2) ?_
   refine Tk_seq (Tk_region (Tops_step rfl (OpT_assign rfl rfl rfl rfl) ?_))
   refine Tops_step rfl (OpT_assign rfl rfl rfl rfl) ?_
   refine Tops_nil (tZ [6, 7] [0, 1] [0] rfl rfl rfl rfl ?_)
   refine Tk_nilrow SegS ?_
   obtain rfl := Option.some.inj h
   exact Tk_retV rfl rfl (resA (vs := [.slice none 0 0, vI (4 : Int)]) rfl ⟨rfl, rfl, trivial⟩) [0, 1, 2] [] rfl rfl rfl ⟨(.slice none 0 0), rfl, rfl, rfl⟩
  ·replace h := br_f hg2 h
   refine Tk_condF (congrArg (fun b => some (Value.bool b)) hg2) ?_
   refine Tk_skip (Tk_region (Tops_step rfl (OpT_move rfl rfl rfl rfl) ?_))
   refine Tops_step rfl (OpT_fieldC rfl rfl rfl rfl fldF87x0) ?_
   refine Tops_step rfl (OpT_loadC rfl rfl rfl rfl tyF27 (i := 3) rfl rfl) ?_
   refine Tops_step rfl (OpT_fieldC rfl rfl rfl rfl fldF87x1) ?_
   refine Tops_step rfl (OpT_loadC rfl rfl rfl rfl tyF33 (i := 3) rfl rfl) ?_
   refine Tops_step rfl (OpT_fieldC rfl rfl rfl rfl fldF87x3) ?_
   refine Tops_step rfl (OpT_loadC rfl rfl rfl rfl tyF34 (i := 3) rfl rfl) ?_
   obtain ⟨made1, hx4, h⟩ := ob_e h
   refine Tops_exP rfl (OpT_call (w_walk_made hx4) [] [] rfl rfl rfl rfl rfl callee87 rfl rfl rfl rfl) ?_
   rintro _ ⟨_, _, _, ⟨rfl, rfl, rfl⟩, rfl⟩
   refine Tops_ex rfl (OpT_buildSlice (S := SegS) (xs := [made1]) (css := [[vU64 made1.At, vU32 made1.Len, vB made1.Write]]) (cs := [vU64 made1.At, vU32 made1.Len, vB made1.Write]) (e := 46) rfl rfl rfl rfl (bldF slF41 (by decide) (by kernel_rfl)) rfl rfl rfl rfl (rel_plainD (S := SegS) (xs := [made1]) (css := [[vU64 made1.At, vU32 made1.Len, vB made1.Write]]) rfl rfl)) fun v3 => ?_
   obtain ⟨hc1, h⟩ := chk_e h
   refine Tops_ex rfl (OpT_appendB (S := SegS) rfl rfl rfl rfl rfl rfl slF41 (i := 2) (j := 4) rfl rfl hc1) fun v4 => ?_
   refine Tops_step rfl (OpT_assign rfl rfl rfl rfl) ?_
   refine Tops_nil (tZ [0, 1, 6, 7, 21, 22] [0, 1, 2] [0] rfl rfl rfl rfl ?_)
   refine Tk_blk (Tk_region (Tops_step rfl (OpT_bin rfl rfl rfl rfl rfl (bin_add_i (a := x1) (b := (1 : Int)))) ?_))
   refine Tops_step rfl (OpT_move rfl rfl rfl rfl) ?_
   refine Tops_nil (tZ [0, 1, 6, 7, 21, 22] [0, 1, 2] [0] rfl rfl rfl rfl ?_)
   exact Tk_backS (l1 ++ [made1], e1, wi (x1 + (1 : Int)), v4) h [0, 1, 6, 7, 21, 22] [0, 1, 2] [0] rfl rfl rfl rfl rfl
 ·replace h := br_f hg1 h
  refine Tk_condF (congrArg (fun b => some (Value.bool b)) hg1) ?_
  refine Tk_exit _ rfl ?_
  refine Tk_seq (Tk_region (Tops_step rfl (OpT_move rfl rfl rfl rfl) ?_))
  refine Tops_step rfl (OpT_move rfl rfl rfl rfl) ?_
  refine Tops_step rfl (OpT_assign rfl rfl rfl rfl) ?_
  refine Tops_step rfl (OpT_assign rfl rfl rfl rfl) ?_
  refine Tops_nil (tZ [6, 7] [0, 1, 2] [0] rfl rfl rfl rfl ?_)
  obtain rfl := Option.some.inj h
  exact Tk_retV rfl rfl (resA (vs := [v1, vI e1]) rfl ⟨rfl, rfl, trivial⟩) [0, 1, 2] [] rfl rfl rfl ⟨v1, rfl, rfl, rfl⟩

set_option maxRecDepth 100000 in
set_option maxHeartbeats 4000000 in
theorem w_walk_packed {m : gmem_Mem} {rp1 : Rings} {pp2 : Pos} {table : Bool} {b_m : Nat} {vm1 : Value} {vm2 : Value} {vsm1 : List Value} {r : (Taken × Int)} (h : walk_packed m rp1 pp2 table = some r) :
  Ctr Try.prog 49 #[.pointer (some ⟨b_m, 0, none⟩), .agg #[vB rp1.Packed, vI rp1.Size, vU64 rp1.Desc, vU64 rp1.Driver, vU64 rp1.Device], .agg #[vI pp2.At, vB pp2.Wrap], vB table] [(cellsR b_m 113 [vm1, vm2]), (rowsX u8S true vm2 vsm1 m.b none)] [Fact.sl RegionS vm1 m.l]
   (fun rv own shr => ∃ (w1 : Value), rv = .tuple #[.agg #[vI r.1.ID, vI r.1.Count, w1], vI r.2] ∧ own = [(cellsR b_m 113 [vm1, vm2]), (rowsX u8S true vm2 vsm1 m.b none)] ∧ shr = [Fact.sl SegS w1 r.1.Segs]) := by
 unfold walk_packed at h
 refine Ctr.mk (args := [.pointer (some ⟨b_m, 0, none⟩), .agg #[vB rp1.Packed, vI rp1.Size, vU64 rp1.Desc, vU64 rp1.Driver, vU64 rp1.Device], .agg #[vI pp2.At, vB pp2.Wrap], vB table]) Try.func49 rfl rfl (fun R0 w0 B => ?_)
 refine Tk_seq (Tk_region (Tops_ex rfl (OpT_box rfl rfl rfl rfl) fun b1 => ?_))
 refine Tops_ex rfl (OpT_box rfl rfl rfl rfl) fun b2 => ?_
 refine Tops_ex rfl (OpT_alloc rfl rfl rfl tyZ56) fun b3 => ?_
 refine Tops_step rfl (OpT_assign rfl rfl rfl rfl) ?_
 refine Tops_nil (tZ [0, 3, 5, 6, 8] [0, 1, 2, 3, 4] [0] rfl rfl rfl rfl ?_)
 refine Tk_seq (Tk_block (Tk_nilrow SegS ?_))
 refine Tk_loopS (σ := Rings × Pos × Int × Int × (List Seg) × Value) [0, 3, 5, 6, 8] [0, 1, 2, 3, 4, 5] [0] (fun s => ⟨[(0, some (.pointer (some ⟨b_m, 0, none⟩))), (3, some (vB table)), (5, some (.pointer (some ⟨b1, 0, none⟩))), (6, some (.pointer (some ⟨b2, 0, none⟩))), (8, some (.pointer (some ⟨b3, 0, none⟩)))], [some (cellsR b_m 113 [vm1, vm2]), some (rowsX u8S true vm2 vsm1 m.b none), some (cellsR b1 29 [vB s.1.Packed, vI s.1.Size, vU64 s.1.Desc, vU64 s.1.Driver, vU64 s.1.Device]), some (cellsR b2 60 [vI s.2.1.At, vB s.2.1.Wrap]), some (cellsR b3 56 [vI s.2.2.1, vI s.2.2.2.1, s.2.2.2.2.2]), some (rowS SegS s.2.2.2.2.2 s.2.2.2.2.1)], [Fact.sl RegionS vm1 m.l]⟩) (fun nf1 s => walk_packedL1 m table nf1 s.1 s.2.1 s.2.2.1 s.2.2.2.1 s.2.2.2.2.1 = some r) fuel (rp1, pp2, (0 : Int), (0 : Int), ([] : List Seg), .slice none 0 0) h rfl rfl rfl rfl rfl (fun s h => by cases h) ?_
 rintro nf1 ⟨m1, m2, ID1, Count1, Segs1, v1⟩ h
 replace h : walk_packedL1B m table (walk_packedL1 m table nf1) m1 m2 ID1 Count1 Segs1 = some r := h
 unfold walk_packedL1B at h
 refine Tk_seq (Tk_seq (Tk_region (Tops_step rfl (OpT_fieldC rfl rfl rfl rfl fldF56x1) ?_)))
 refine Tops_step rfl (OpT_loadC rfl rfl rfl rfl tyF3 (i := 4) rfl rfl) ?_
 refine Tops_step rfl (OpT_fieldC rfl rfl rfl rfl fldF29x1) ?_
 refine Tops_step rfl (OpT_loadC rfl rfl rfl rfl tyF3 (i := 2) rfl rfl) ?_
 refine Tops_step rfl (OpT_bin rfl rfl rfl rfl rfl (bin_lss_i (a := Count1) (b := m1.Size))) ?_
 refine Tops_nil (tZ [0, 3, 5, 6, 8, 18] [0, 1, 2, 3, 4, 5] [0] rfl rfl rfl rfl ?_)
 rcases Bool.eq_false_or_eq_true (decide (Count1 < m1.Size)) with hg1 | hg1
 ·replace h := br_t hg1 h
  refine Tk_condT (congrArg (fun b => some (Value.bool b)) hg1) ?_
  refine Tk_skip (Tk_block (Tk_seq (Tk_region (Tops_step rfl (OpT_move rfl rfl rfl rfl) ?_))))
  refine Tops_step rfl (OpT_fieldC rfl rfl rfl rfl fldF29x2) ?_
  refine Tops_step rfl (OpT_loadC rfl rfl rfl rfl tyF27 (i := 2) rfl rfl) ?_
  refine Tops_step rfl (OpT_fieldC rfl rfl rfl rfl fldF60x0) ?_
  refine Tops_step rfl (OpT_loadC rfl rfl rfl rfl tyF3 (i := 3) rfl rfl) ?_
  refine Tops_step rfl (OpT_cnv rfl rfl rfl rfl (cnv_i_u64 (n := m2.At) Try.underlying3 Try.underlying27)) ?_
  refine Tops_step rfl (OpT_bin rfl rfl rfl rfl rfl (bin_mul_u64 (a := (16 : UInt64)) (b := u64 m2.At))) ?_
  refine Tops_step rfl (OpT_bin rfl rfl rfl rfl rfl (bin_add_u64 (a := m1.Desc) (b := (16 : UInt64) * (u64 m2.At)))) ?_
  obtain ⟨read1, hx1, h⟩ := ob_e h
  refine Tops_exP rfl (OpT_callP [6, 7, 2, 3, 4, 5, 8] (w_gmem_Mem_Read hx1) [0, 1] [0] rfl rfl rfl rfl rfl callee82 rfl rfl rfl rfl rfl) ?_
  rintro _ ⟨_, _, _, ⟨v2, rfl, rfl, rfl⟩, rfl⟩
  refine Tops_step rfl (OpT_move rfl rfl rfl rfl) ?_
  refine Tops_step rfl (OpT_extract rfl rfl rfl rfl rfl) ?_
  refine Tops_step rfl (OpT_extract rfl rfl rfl rfl rfl) ?_
  refine Tops_step rfl (OpT_assign rfl rfl rfl rfl) ?_
  refine Tops_step rfl (OpT_assign rfl rfl rfl rfl) ?_
  refine Tops_nil (tZ [0, 3, 5, 6, 8, 10, 11] [0, 1, 2, 3, 4, 5, 6] [0] rfl rfl rfl rfl ?_)
  refine Tk_seq (Tk_seq (Tk_region (Tops_step rfl (OpT_move rfl rfl rfl rfl) ?_)))
  refine Tops_step rfl (OpT_bin rfl rfl rfl rfl rfl (bin_neq_i (a := read1.2) (b := (0 : Int)))) ?_
  refine Tops_nil (tZ [0, 3, 5, 6, 8, 10, 32] [0, 1, 2, 3, 4, 5, 6] [0] rfl rfl rfl rfl ?_)
  rcases Bool.eq_false_or_eq_true (read1.2 != (0 : Int)) with hg2 | hg2
  ·replace h := br_t hg2 h
   refine Tk_condT (congrArg (fun b => some (Value.bool b)) hg2) ?_
   refine Tk_seq (Tk_region (Tops_step rfl (OpT_loadCA (vs := [vI ID1, vI Count1, v1]) rfl rfl rfl rfl tyF56 (i := 4) rfl rfl rfl) ?_))
   refine Tops_step rfl (OpT_storeA1 (fun z0 => [vI ID1, vI Count1, z0]) (cs' := [vI ID1, vI Count1, v1]) rfl rfl rfl rfl tyF56 (i := 4) rfl (is_row (i := 5) rfl) (fun _ _ _ => rfl) rfl rfl rfl) ?_
   refine Tops_step rfl (OpT_assign rfl rfl rfl rfl) ?_
   refine Tops_nil (tZ [8, 9] [0, 1, 4, 5] [0] rfl rfl rfl rfl ?_)
   refine Tk_retire (i := 3) rfl ?_
   obtain rfl := Option.some.inj h
   exact Tk_retV rfl rfl (resA (vs := [.agg #[vI ID1, vI Count1, v1], vI (5 : Int)]) rfl ⟨⟨_, 2, _, _, _, rfl, rfl, .inl ⟨tyF56, rfl, rfl⟩⟩, rfl, trivial⟩) [0, 1] [1] rfl rfl rfl ⟨v1, rfl, rfl, rfl⟩
  ·replace h := br_f hg2 h
   refine Tk_condF (congrArg (fun b => some (Value.bool b)) hg2) ?_
   refine Tk_skip (Tk_seq (Tk_region (Tops_step rfl (OpT_move rfl rfl rfl rfl) ?_)))
   obtain ⟨readpa1, hx2, h⟩ := ob_e h
   refine Tops_exP rfl (OpT_callB [6] [0, 1, 2, 3, 4, 5, 6] (w_desc_ReadPacked hx2) [] rfl rfl rfl rfl rfl callee92 rfl rfl rfl rfl rfl rfl (bor_cons (bor_row 6 rfl rfl) bor_nil) (by rintro _ _ _ ⟨rfl, rfl, rfl⟩; exact ⟨rfl, ri_nil⟩)) ?_
   rintro _ ⟨_, _, _, ⟨rfl, rfl, rfl⟩, rfl⟩
   refine Tops_step rfl (OpT_move rfl rfl rfl rfl) ?_
   refine Tops_step rfl (OpT_extract rfl rfl rfl rfl rfl) ?_
   refine Tops_step rfl (OpT_extract rfl rfl rfl rfl rfl) ?_
   refine Tops_ex rfl (OpT_alloc rfl rfl rfl tyZ87) fun b4 => ?_
   refine Tops_step rfl (OpT_storeC (cs' := [vU64 readpa1.1.Addr, vU32 readpa1.1.Len, vU16 readpa1.1.ID, vU16 readpa1.1.Flags]) rfl rfl rfl rfl tyF87 (i := 7) rfl rfl rfl (one_of rfl) rfl) ?_
   refine Tops_step rfl (OpT_assign rfl rfl rfl rfl) ?_
   refine Tops_nil (tZ [0, 3, 5, 6, 8, 12] [0, 1, 2, 3, 4, 5, 7] [0] rfl rfl rfl rfl ?_)
   refine Tk_seq (Tk_region (Tops_step rfl (OpT_fieldC rfl rfl rfl rfl fldF87x2) ?_))
   refine Tops_step rfl (OpT_loadC rfl rfl rfl rfl tyF34 (i := 6) rfl rfl) ?_
   refine Tops_step rfl (OpT_cnv rfl rfl rfl rfl (cnv_u16_i (n := readpa1.1.ID) Try.underlying34 Try.underlying3)) ?_
   refine Tops_step rfl (OpT_fieldC rfl rfl rfl rfl fldF56x0) ?_
   refine Tops_step rfl (OpT_storeC (cs' := [vI (i16 readpa1.1.ID), vI Count1, v1]) rfl rfl rfl rfl tyF3 (i := 4) rfl rfl rfl (one_of rfl) rfl) ?_
   refine Tops_nil (tZ [0, 3, 5, 6, 8, 12] [0, 1, 2, 3, 4, 5, 6] [0] rfl rfl rfl rfl ?_)
   refine Tk_seq (Tk_region (Tops_step rfl (OpT_fieldC rfl rfl rfl rfl fldF56x1) ?_))
   refine Tops_step rfl (OpT_loadC rfl rfl rfl rfl tyF3 (i := 4) rfl rfl) ?_
   refine Tops_step rfl (OpT_bin rfl rfl rfl rfl rfl (bin_add_i (a := Count1) (b := (1 : Int)))) ?_
   refine Tops_step rfl (OpT_fieldC rfl rfl rfl rfl fldF56x1) ?_
   refine Tops_step rfl (OpT_storeC (cs' := [vI (i16 readpa1.1.ID), vI (wi (Count1 + (1 : Int))), v1]) rfl rfl rfl rfl tyF3 (i := 4) rfl rfl rfl (one_of rfl) rfl) ?_
   refine Tops_nil (tZ [0, 3, 5, 6, 8, 12] [0, 1, 2, 3, 4, 5, 6] [0] rfl rfl rfl rfl ?_)
   refine Tk_seq (Tk_region (Tops_step rfl (OpT_loadCA (vs := [vI m2.At, vB m2.Wrap]) rfl rfl rfl rfl tyF60 (i := 3) rfl rfl rfl) ?_))
   refine Tops_step rfl (OpT_fieldC rfl rfl rfl rfl fldF29x1) ?_
   refine Tops_step rfl (OpT_loadC rfl rfl rfl rfl tyF3 (i := 2) rfl rfl) ?_
   obtain ⟨go1, hx3, h⟩ := ob_e h
   refine Tops_exP rfl (OpT_call (w_serial_Go hx3) [] [] rfl rfl rfl rfl rfl callee73 rfl rfl rfl rfl) ?_
   rintro _ ⟨_, _, _, ⟨rfl, rfl, rfl⟩, rfl⟩
   refine Tops_step rfl (OpT_move rfl rfl rfl rfl) ?_
   refine Tops_step rfl (OpT_extract rfl rfl rfl rfl rfl) ?_
   refine Tops_step rfl (OpT_extract rfl rfl rfl rfl rfl) ?_
   refine Tops_step rfl (OpT_storeC (cs' := [vI go1.1.At, vB go1.1.Wrap]) rfl rfl rfl rfl tyF60 (i := 3) rfl rfl rfl (one_of rfl) rfl) ?_
   refine Tops_nil (tZ [0, 3, 5, 6, 8, 12] [0, 1, 2, 3, 4, 5, 6] [0] rfl rfl rfl rfl ?_)
   refine Tk_seq (Tk_seq (Tk_region (Tops_step rfl (OpT_fieldC rfl rfl rfl rfl fldF87x3) ?_)))
   refine Tops_step rfl (OpT_loadC rfl rfl rfl rfl tyF34 (i := 6) rfl rfl) ?_
   refine Tops_step rfl (OpT_bin rfl rfl rfl rfl rfl (bin_and_u16 (a := readpa1.1.Flags) (b := (4 : UInt16)))) ?_
   refine Tops_step rfl (OpT_bin rfl rfl rfl rfl rfl (bin_neq_u16 (a := readpa1.1.Flags &&& (4 : UInt16)) (b := (0 : UInt16)))) ?_
   refine Tops_nil (tZ [0, 3, 5, 6, 8, 12, 57] [0, 1, 2, 3, 4, 5, 6] [0] rfl rfl rfl rfl ?_)
   rcases Bool.eq_false_or_eq_true ((readpa1.1.Flags &&& (4 : UInt16)) != (0 : UInt16)) with hg3 | hg3
   ·replace h := br_t hg3 h
    refine Tk_condT (congrArg (fun b => some (Value.bool b)) hg3) ?_
    refine Tk_seq (Tk_seq (Tk_region (Tops_step rfl (OpT_move rfl rfl rfl rfl) ?_)))
    refine Tops_step rfl (OpT_not rfl rfl rfl rfl) ?_
    refine Tops_step rfl (OpT_move rfl rfl rfl rfl) ?_
    rcases Bool.eq_false_or_eq_true ((!table)) with hg4 | hg4
    ·replace h := br_t hg4 h
     refine Tops_no rfl rfl (congrArg (fun b => some (Value.bool b)) hg4) rfl rfl ?_
     refine Tops_no rfl rfl (congrArg (fun b => some (Value.bool b)) hg4) rfl rfl ?_
     refine Tops_no rfl rfl (congrArg (fun b => some (Value.bool b)) hg4) rfl rfl ?_
     refine Tops_step rfl (OpT_pickT rfl rfl rfl (congrArg (fun b => some (Value.bool b)) hg4) rfl) ?_
     refine Tops_step rfl (OpT_move rfl rfl rfl rfl) ?_
     refine Tops_no rfl rfl rfl rfl rfl ?_
     refine Tops_no rfl rfl rfl rfl rfl ?_
     refine Tops_no rfl rfl rfl rfl rfl ?_
     refine Tops_no rfl rfl rfl rfl rfl ?_
     refine Tops_step rfl (OpT_pickT rfl rfl rfl rfl rfl) ?_
     refine Tops_nil (tZ [0, 8, 12, 70] [0, 1, 4, 5, 6] [0] rfl rfl rfl rfl ?_)
     refine Tk_condT rfl ?_
     refine Tk_seq (Tk_region (Tops_step rfl (OpT_loadCA (vs := [vI (i16 readpa1.1.ID), vI (wi (Count1 + (1 : Int))), v1]) rfl rfl rfl rfl tyF56 (i := 2) rfl rfl rfl) ?_))
     refine Tops_step rfl (OpT_storeA1 (fun z0 => [vI (i16 readpa1.1.ID), vI (wi (Count1 + (1 : Int))), z0]) (cs' := [vI (i16 readpa1.1.ID), vI (wi (Count1 + (1 : Int))), v1]) rfl rfl rfl rfl tyF56 (i := 2) rfl (is_row (i := 3) rfl) (fun _ _ _ => rfl) rfl rfl rfl) ?_
     refine Tops_step rfl (OpT_assign rfl rfl rfl rfl) ?_
     refine Tops_nil (tZ [8, 9] [0, 1, 2, 3] [0] rfl rfl rfl rfl ?_)
     refine Tk_retire (i := 3) rfl ?_
     obtain rfl := Option.some.inj h
     exact Tk_retV rfl rfl (resA (vs := [.agg #[vI (i16 readpa1.1.ID), vI (wi (Count1 + (1 : Int))), v1], vI (4 : Int)]) rfl ⟨⟨_, 2, _, _, _, rfl, rfl, .inl ⟨tyF56, rfl, rfl⟩⟩, rfl, trivial⟩) [0, 1] [1] rfl rfl rfl ⟨v1, rfl, rfl, rfl⟩
    ·replace h := br_f hg4 h
     refine Tops_yes rfl rfl (congrArg (fun b => some (Value.bool b)) hg4) (OpT_fieldC rfl rfl rfl rfl fldF56x1) ?_
     rintro _ rfl
     refine Tops_yes rfl rfl (congrArg (fun b => some (Value.bool b)) hg4) (OpT_loadC rfl rfl rfl rfl tyF3 (i := 4) rfl rfl) ?_
     rintro _ rfl
     refine Tops_yes rfl rfl (congrArg (fun b => some (Value.bool b)) hg4) (OpT_bin rfl rfl rfl rfl rfl (bin_gtr_i (a := wi (Count1 + (1 : Int))) (b := (1 : Int)))) ?_
     rintro _ rfl
     refine Tops_step rfl (OpT_pickF rfl rfl rfl (congrArg (fun b => some (Value.bool b)) hg4) rfl) ?_
     refine Tops_step rfl (OpT_move rfl rfl rfl rfl) ?_
     rcases Bool.eq_false_or_eq_true (decide ((wi (Count1 + (1 : Int))) > (1 : Int))) with hg5 | hg5
     ·replace h := br_t hg5 h
      refine Tops_no rfl rfl (congrArg (fun b => some (Value.bool b)) hg5) rfl rfl ?_
      refine Tops_no rfl rfl (congrArg (fun b => some (Value.bool b)) hg5) rfl rfl ?_
      refine Tops_no rfl rfl (congrArg (fun b => some (Value.bool b)) hg5) rfl rfl ?_
      refine Tops_no rfl rfl (congrArg (fun b => some (Value.bool b)) hg5) rfl rfl ?_
      refine Tops_step rfl (OpT_pickT rfl rfl rfl (congrArg (fun b => some (Value.bool b)) hg5) rfl) ?_
      refine Tops_nil (tZ [0, 8, 12, 70] [0, 1, 4, 5, 6] [0] rfl rfl rfl rfl ?_)
      refine Tk_condT rfl ?_
      refine Tk_seq (Tk_region (Tops_step rfl (OpT_loadCA (vs := [vI (i16 readpa1.1.ID), vI (wi (Count1 + (1 : Int))), v1]) rfl rfl rfl rfl tyF56 (i := 2) rfl rfl rfl) ?_))
      refine Tops_step rfl (OpT_storeA1 (fun z0 => [vI (i16 readpa1.1.ID), vI (wi (Count1 + (1 : Int))), z0]) (cs' := [vI (i16 readpa1.1.ID), vI (wi (Count1 + (1 : Int))), v1]) rfl rfl rfl rfl tyF56 (i := 2) rfl (is_row (i := 3) rfl) (fun _ _ _ => rfl) rfl rfl rfl) ?_
      refine Tops_step rfl (OpT_assign rfl rfl rfl rfl) ?_
      refine Tops_nil (tZ [8, 9] [0, 1, 2, 3] [0] rfl rfl rfl rfl ?_)
      refine Tk_retire (i := 3) rfl ?_
      obtain rfl := Option.some.inj h
      exact Tk_retV rfl rfl (resA (vs := [.agg #[vI (i16 readpa1.1.ID), vI (wi (Count1 + (1 : Int))), v1], vI (4 : Int)]) rfl ⟨⟨_, 2, _, _, _, rfl, rfl, .inl ⟨tyF56, rfl, rfl⟩⟩, rfl, trivial⟩) [0, 1] [1] rfl rfl rfl ⟨v1, rfl, rfl, rfl⟩
     ·replace h := br_f hg5 h
      refine Tops_yes rfl rfl (congrArg (fun b => some (Value.bool b)) hg5) (OpT_fieldC rfl rfl rfl rfl fldF87x3) ?_
      rintro _ rfl
      refine Tops_yes rfl rfl (congrArg (fun b => some (Value.bool b)) hg5) (OpT_loadC rfl rfl rfl rfl tyF34 (i := 6) rfl rfl) ?_
      rintro _ rfl
      refine Tops_yes rfl rfl (congrArg (fun b => some (Value.bool b)) hg5) (OpT_bin rfl rfl rfl rfl rfl (bin_and_u16 (a := readpa1.1.Flags) (b := (1 : UInt16)))) ?_
      rintro _ rfl
      refine Tops_yes rfl rfl (congrArg (fun b => some (Value.bool b)) hg5) (OpT_bin rfl rfl rfl rfl rfl (bin_neq_u16 (a := readpa1.1.Flags &&& (1 : UInt16)) (b := (0 : UInt16)))) ?_
      rintro _ rfl
      refine Tops_step rfl (OpT_pickF rfl rfl rfl (congrArg (fun b => some (Value.bool b)) hg5) rfl) ?_
      refine Tops_nil (tZ [0, 8, 12, 70] [0, 1, 4, 5, 6] [0] rfl rfl rfl rfl ?_)
      rcases Bool.eq_false_or_eq_true ((readpa1.1.Flags &&& (1 : UInt16)) != (0 : UInt16)) with hg6 | hg6
      ·replace h := br_t hg6 h
       refine Tk_condT (congrArg (fun b => some (Value.bool b)) hg6) ?_
       refine Tk_seq (Tk_region (Tops_step rfl (OpT_loadCA (vs := [vI (i16 readpa1.1.ID), vI (wi (Count1 + (1 : Int))), v1]) rfl rfl rfl rfl tyF56 (i := 2) rfl rfl rfl) ?_))
       refine Tops_step rfl (OpT_storeA1 (fun z0 => [vI (i16 readpa1.1.ID), vI (wi (Count1 + (1 : Int))), z0]) (cs' := [vI (i16 readpa1.1.ID), vI (wi (Count1 + (1 : Int))), v1]) rfl rfl rfl rfl tyF56 (i := 2) rfl (is_row (i := 3) rfl) (fun _ _ _ => rfl) rfl rfl rfl) ?_
       refine Tops_step rfl (OpT_assign rfl rfl rfl rfl) ?_
       refine Tops_nil (tZ [8, 9] [0, 1, 2, 3] [0] rfl rfl rfl rfl ?_)
       refine Tk_retire (i := 3) rfl ?_
       obtain rfl := Option.some.inj h
       exact Tk_retV rfl rfl (resA (vs := [.agg #[vI (i16 readpa1.1.ID), vI (wi (Count1 + (1 : Int))), v1], vI (4 : Int)]) rfl ⟨⟨_, 2, _, _, _, rfl, rfl, .inl ⟨tyF56, rfl, rfl⟩⟩, rfl, trivial⟩) [0, 1] [1] rfl rfl rfl ⟨v1, rfl, rfl, rfl⟩
      ·replace h := br_f hg6 h
       refine Tk_condF (congrArg (fun b => some (Value.bool b)) hg6) ?_
       refine Tk_skip (Tk_seq (Tk_region (Tops_step rfl (OpT_move rfl rfl rfl rfl) ?_)))
       refine Tops_step rfl (OpT_fieldC rfl rfl rfl rfl fldF87x0) ?_
       refine Tops_step rfl (OpT_loadC rfl rfl rfl rfl tyF27 (i := 4) rfl rfl) ?_
       refine Tops_step rfl (OpT_fieldC rfl rfl rfl rfl fldF87x1) ?_
       refine Tops_step rfl (OpT_loadC rfl rfl rfl rfl tyF33 (i := 4) rfl rfl) ?_
       obtain ⟨within1, hx4, h⟩ := ob_e h
       refine Tops_exP rfl (OpT_callP [5, 6, 2, 3, 4, 7] (w_walk_within hx4) [0, 1] [0] rfl rfl rfl rfl rfl callee93 rfl rfl rfl rfl rfl) ?_
       rintro _ ⟨_, _, _, ⟨v3, rfl, rfl, rfl⟩, rfl⟩
       refine Tops_step rfl (OpT_move rfl rfl rfl rfl) ?_
       refine Tops_step rfl (OpT_extract rfl rfl rfl rfl rfl) ?_
       refine Tops_step rfl (OpT_extract rfl rfl rfl rfl rfl) ?_
       refine Tops_step rfl (OpT_fieldC rfl rfl rfl rfl fldF56x2) ?_
       refine Tops_step rfl (OpT_storeV (cs' := [vI (i16 readpa1.1.ID), vI (wi (Count1 + (1 : Int))), v3]) rfl rfl rfl rfl tyF41 (i := 2) rfl (is_row (i := 5) rfl) rfl rfl) ?_
       refine Tops_step rfl (OpT_assign rfl rfl rfl rfl) ?_
       refine Tops_nil (tZ [8, 9] [0, 1, 2, 5] [0] rfl rfl rfl rfl ?_)
       refine Tk_seq (Tk_region (Tops_step rfl (OpT_loadCA (vs := [vI (i16 readpa1.1.ID), vI (wi (Count1 + (1 : Int))), v3]) rfl rfl rfl rfl tyF56 (i := 2) rfl rfl rfl) ?_))
       refine Tops_step rfl (OpT_move rfl rfl rfl rfl) ?_
       refine Tops_step rfl (OpT_storeA1 (fun z0 => [vI (i16 readpa1.1.ID), vI (wi (Count1 + (1 : Int))), z0]) (cs' := [vI (i16 readpa1.1.ID), vI (wi (Count1 + (1 : Int))), v3]) rfl rfl rfl rfl tyF56 (i := 2) rfl (is_row (i := 3) rfl) (fun _ _ _ => rfl) rfl rfl rfl) ?_
       refine Tops_step rfl (OpT_assign rfl rfl rfl rfl) ?_
       refine Tops_nil (tZ [8, 9] [0, 1, 2, 3] [0] rfl rfl rfl rfl ?_)
       refine Tk_retire (i := 3) rfl ?_
       obtain rfl := Option.some.inj h
       exact Tk_retV rfl rfl (resA (vs := [.agg #[vI (i16 readpa1.1.ID), vI (wi (Count1 + (1 : Int))), v3], vI within1.2]) rfl ⟨⟨_, 2, _, _, _, rfl, rfl, .inl ⟨tyF56, rfl, rfl⟩⟩, rfl, trivial⟩) [0, 1] [1] rfl rfl rfl ⟨v3, rfl, rfl, rfl⟩
   ·replace h := br_f hg3 h
    refine Tk_condF (congrArg (fun b => some (Value.bool b)) hg3) ?_
    refine Tk_skip (Tk_seq (Tk_drawT (by kernel_rfl) ?_))
    refine TA_tb [0, 1, 0, 4, 0, 16, 0, 64, 252, 508, 1023, 2047, 4095] (by kernel_rfl) fun htb => ?_
    refine aZ [0, 3, 5, 6, 8, 12] [0, 1, 2, 3, 4, 5, 6] [0] rfl rfl rfl rfl ?_
    obtain ⟨made1, hx5, h⟩ := ob_e h
    refine TA_seg (lo := 0) (hi := 10) htb rfl rfl (by kernel_rfl) (fun c L a w => ∃ (v4 : Value), Sat c ⟨[(0, some (.pointer (some ⟨b_m, 0, none⟩))), (3, some (vB table)), (5, some (.pointer (some ⟨b1, 0, none⟩))), (6, some (.pointer (some ⟨b2, 0, none⟩))), (8, some (.pointer (some ⟨b3, 0, none⟩))), (12, some (.pointer (some ⟨b4, 0, none⟩))), (84, bif L 0 then some (.pointer (some ⟨b3, 2, none⟩)) else none), (85, bif L 1 then some (v1) else none), (86, bif L 2 then some (.pointer (some ⟨b4, 0, none⟩)) else none), (87, bif L 3 then some (vU64 readpa1.1.Addr) else none), (88, bif L 4 then some (.pointer (some ⟨b4, 1, none⟩)) else none), (89, bif L 5 then some (vU32 readpa1.1.Len) else none), (90, bif L 6 then some (.pointer (some ⟨b4, 3, none⟩)) else none), (91, bif L 7 then some (vU16 readpa1.1.Flags) else none), (92, bif L 8 then some (.agg #[vU64 made1.At, vU32 made1.Len, vB made1.Write]) else none), (93, bif L 9 then some (v4) else none)], [(some (cellsR b_m 113 [vm1, vm2]) : Option Res), (some (rowsX u8S true vm2 vsm1 m.b none) : Option Res), (some (cellsR b1 29 [vB m1.Packed, vI m1.Size, vU64 m1.Desc, vU64 m1.Driver, vU64 m1.Device]) : Option Res), (some (cellsR b2 60 [vI go1.1.At, vB go1.1.Wrap]) : Option Res), (some (cellsR b3 56 [vI (i16 readpa1.1.ID), vI (wi (Count1 + (1 : Int))), v1]) : Option Res), (some (rowS SegS v1 Segs1) : Option Res), (some (cellsR b4 87 [vU64 readpa1.1.Addr, vU32 readpa1.1.Len, vU16 readpa1.1.ID, vU16 readpa1.1.Flags]) : Option Res), (bif L 9 then some (rowS SegS v4 [made1]) else none : Option Res)], [Fact.sl RegionS vm1 m.l]⟩ a w) [([], [1]), ([0], []), ([], [3, 8, 9]), ([2], [8, 9]), ([], [5, 8, 9]), ([4], [8, 9]), ([], [7, 8, 9]), ([6], [8, 9]), ([2, 3, 4, 5, 6, 7], [9]), ([2, 3, 4, 5, 6, 7, 8], [])] rfl (by kernel_rfl) ?_ (steps_cons ?_ (steps_cons ?_ (steps_cons ?_ (steps_cons ?_ (steps_cons ?_ (steps_cons ?_ (steps_cons ?_ (steps_cons ?_ (steps_cons ?_ (steps_cons ?_ (steps_nil))))))))))) ?_
    ·intro a w hs
     exact ⟨undef, hs.startF [84, 85, 86, 87, 88, 89, 90, 91, 92, 93] [0, 1, 2, 3, 4, 5, 6, 7] [0] rfl rfl rfl rfl⟩
    ·intro L a w hv K Q hK
     obtain ⟨v4, hs⟩ := hv
     refine wpOp_go rfl rfl hs (OpT_fieldC rfl rfl rfl rfl fldF56x2) ?_
     rintro _ rfl a' w' hs'
     exact hK a' w' ⟨v4, hs'.putF (i := 6) rfl [0, 1, 2, 3, 4, 5, 6, 7] [0] rfl rfl rfl rfl⟩
    ·intro L a w hv K Q hK
     obtain ⟨v4, hs⟩ := hv
     refine wpOp_go rfl rfl hs (OpT_loadC rfl rfl rfl rfl tyF41 (i := 4) rfl rfl) ?_
     rintro _ rfl a' w' hs'
     exact hK a' w' ⟨v4, hs'.putF (i := 7) rfl [0, 1, 2, 3, 4, 5, 6, 7] [0] rfl rfl rfl rfl⟩
    ·intro L a w hv K Q hK
     obtain ⟨v4, hs⟩ := hv
     refine wpOp_go rfl rfl hs (OpT_fieldC rfl rfl rfl rfl fldF87x0) ?_
     rintro _ rfl a' w' hs'
     exact hK a' w' ⟨v4, hs'.putF (i := 8) rfl [0, 1, 2, 3, 4, 5, 6, 7] [0] rfl rfl rfl rfl⟩
    ·intro L a w hv K Q hK
     obtain ⟨v4, hs⟩ := hv
     refine wpOp_go rfl rfl hs (OpT_loadC rfl rfl rfl rfl tyF27 (i := 6) rfl rfl) ?_
     rintro _ rfl a' w' hs'
     exact hK a' w' ⟨v4, hs'.putF (i := 9) rfl [0, 1, 2, 3, 4, 5, 6, 7] [0] rfl rfl rfl rfl⟩
    ·intro L a w hv K Q hK
     obtain ⟨v4, hs⟩ := hv
     refine wpOp_go rfl rfl hs (OpT_fieldC rfl rfl rfl rfl fldF87x1) ?_
     rintro _ rfl a' w' hs'
     exact hK a' w' ⟨v4, hs'.putF (i := 10) rfl [0, 1, 2, 3, 4, 5, 6, 7] [0] rfl rfl rfl rfl⟩
    ·intro L a w hv K Q hK
     obtain ⟨v4, hs⟩ := hv
     refine wpOp_go rfl rfl hs (OpT_loadC rfl rfl rfl rfl tyF33 (i := 6) rfl rfl) ?_
     rintro _ rfl a' w' hs'
     exact hK a' w' ⟨v4, hs'.putF (i := 11) rfl [0, 1, 2, 3, 4, 5, 6, 7] [0] rfl rfl rfl rfl⟩
    ·intro L a w hv K Q hK
     obtain ⟨v4, hs⟩ := hv
     refine wpOp_go rfl rfl hs (OpT_fieldC rfl rfl rfl rfl fldF87x3) ?_
     rintro _ rfl a' w' hs'
     exact hK a' w' ⟨v4, hs'.putF (i := 12) rfl [0, 1, 2, 3, 4, 5, 6, 7] [0] rfl rfl rfl rfl⟩
    ·intro L a w hv K Q hK
     obtain ⟨v4, hs⟩ := hv
     refine wpOp_go rfl rfl hs (OpT_loadC rfl rfl rfl rfl tyF34 (i := 6) rfl rfl) ?_
     rintro _ rfl a' w' hs'
     exact hK a' w' ⟨v4, hs'.putF (i := 13) rfl [0, 1, 2, 3, 4, 5, 6, 7] [0] rfl rfl rfl rfl⟩
    ·intro L a w hv K Q hK
     obtain ⟨v4, hs⟩ := hv
     refine wpOp_go rfl rfl hs (OpT_call (w_walk_made hx5) [] [] rfl rfl rfl rfl rfl callee87 rfl rfl rfl rfl) ?_
     rintro _ ⟨_, _, _, ⟨rfl, rfl, rfl⟩, rfl⟩ a' w' hs'
     exact hK a' w' ⟨v4, hs'.putF (i := 14) rfl [0, 1, 2, 3, 4, 5, 6, 7] [0] rfl rfl rfl rfl⟩
    ·intro L a w hv K Q hK
     obtain ⟨v4, hs⟩ := hv
     refine wpOp_go rfl rfl hs (OpT_buildSlice (S := SegS) (xs := [made1]) (css := [[vU64 made1.At, vU32 made1.Len, vB made1.Write]]) (cs := [vU64 made1.At, vU32 made1.Len, vB made1.Write]) (e := 46) rfl rfl rfl rfl (bldF slF41 (by decide) (by kernel_rfl)) rfl rfl rfl rfl (rel_plainD (S := SegS) (xs := [made1]) (css := [[vU64 made1.At, vU32 made1.Len, vB made1.Write]]) rfl rfl)) ?_
     rintro _ ⟨v4', rfl⟩ a' w' hs'
     exact hK a' w' ⟨v4', hs'.putF (i := 15) rfl [0, 1, 2, 3, 4, 5, 6, 8] [0] rfl rfl rfl rfl⟩
    ·intro L a w hL hv
     rw [allTrue hL] at hv
     obtain ⟨v4, hs⟩ := hv
     refine gZ hs [0, 3, 5, 6, 8, 12, 85, 93] [0, 1, 2, 3, 4, 5, 6, 7] [0] rfl rfl rfl rfl ?_
     clear hs hL
     obtain ⟨hc1, h⟩ := chk_e h
     refine TA_ex htb (by kernel_rfl) rfl rfl (OpT_appendB (S := SegS) rfl rfl rfl rfl rfl rfl slF41 (i := 5) (j := 7) rfl rfl hc1) fun v5 => ?_
     refine TA_step htb (by kernel_rfl) rfl rfl (OpT_fieldC rfl rfl rfl rfl fldF56x2) ?_
     refine TA_step htb (by kernel_rfl) rfl rfl (OpT_storeV (cs' := [vI (i16 readpa1.1.ID), vI (wi (Count1 + (1 : Int))), v5]) rfl rfl rfl rfl tyF41 (i := 4) rfl (is_row (i := 5) rfl) rfl rfl) ?_
     refine TA_end rfl ?_
     refine tZ [0, 3, 5, 6, 8, 12] [0, 1, 2, 3, 4, 5, 6] [0] rfl rfl rfl rfl ?_
     refine Tk_seq (Tk_region (Tops_step rfl (OpT_fieldC rfl rfl rfl rfl fldF87x3) ?_))
     refine Tops_step rfl (OpT_loadC rfl rfl rfl rfl tyF34 (i := 6) rfl rfl) ?_
     refine Tops_step rfl (OpT_bin rfl rfl rfl rfl rfl (bin_and_u16 (a := readpa1.1.Flags) (b := (1 : UInt16)))) ?_
     refine Tops_step rfl (OpT_bin rfl rfl rfl rfl rfl (bin_eql_u16 (a := readpa1.1.Flags &&& (1 : UInt16)) (b := (0 : UInt16)))) ?_
     refine Tops_nil (tZ [0, 3, 5, 6, 8, 99] [0, 1, 2, 3, 4, 5] [0] rfl rfl rfl rfl ?_)
     rcases Bool.eq_false_or_eq_true ((readpa1.1.Flags &&& (1 : UInt16)) == (0 : UInt16)) with hg7 | hg7
     ·replace h := br_t hg7 h
      refine Tk_condT (congrArg (fun b => some (Value.bool b)) hg7) ?_
      refine Tk_seq (Tk_region (Tops_step rfl (OpT_loadCA (vs := [vI (i16 readpa1.1.ID), vI (wi (Count1 + (1 : Int))), v5]) rfl rfl rfl rfl tyF56 (i := 4) rfl rfl rfl) ?_))
      refine Tops_step rfl (OpT_storeA1 (fun z0 => [vI (i16 readpa1.1.ID), vI (wi (Count1 + (1 : Int))), z0]) (cs' := [vI (i16 readpa1.1.ID), vI (wi (Count1 + (1 : Int))), v5]) rfl rfl rfl rfl tyF56 (i := 4) rfl (is_row (i := 5) rfl) (fun _ _ _ => rfl) rfl rfl rfl) ?_
      refine Tops_step rfl (OpT_assign rfl rfl rfl rfl) ?_
      refine Tops_nil (tZ [8, 9] [0, 1, 4, 5] [0] rfl rfl rfl rfl ?_)
      refine Tk_retire (i := 3) rfl ?_
      obtain rfl := Option.some.inj h
      exact Tk_retV rfl rfl (resA (vs := [.agg #[vI (i16 readpa1.1.ID), vI (wi (Count1 + (1 : Int))), v5], vI (0 : Int)]) rfl ⟨⟨_, 2, _, _, _, rfl, rfl, .inl ⟨tyF56, rfl, rfl⟩⟩, rfl, trivial⟩) [0, 1] [1] rfl rfl rfl ⟨v5, rfl, rfl, rfl⟩
     ·replace h := br_f hg7 h
      refine Tk_condF (congrArg (fun b => some (Value.bool b)) hg7) ?_
      refine Tk_skip (Tk_blk ?_)
      exact Tk_backS (m1, go1.1, i16 readpa1.1.ID, wi (Count1 + (1 : Int)), Segs1 ++ [made1], v5) h [0, 3, 5, 6, 8] [0, 1, 2, 3, 4, 5] [0] rfl rfl rfl rfl rfl
 ·replace h := br_f hg1 h
  refine Tk_condF (congrArg (fun b => some (Value.bool b)) hg1) ?_
  refine Tk_exit _ rfl ?_
  refine Tk_seq (Tk_region (Tops_step rfl (OpT_loadCA (vs := [vI ID1, vI Count1, v1]) rfl rfl rfl rfl tyF56 (i := 4) rfl rfl rfl) ?_))
  refine Tops_step rfl (OpT_storeA1 (fun z0 => [vI ID1, vI Count1, z0]) (cs' := [vI ID1, vI Count1, v1]) rfl rfl rfl rfl tyF56 (i := 4) rfl (is_row (i := 5) rfl) (fun _ _ _ => rfl) rfl rfl rfl) ?_
  refine Tops_step rfl (OpT_assign rfl rfl rfl rfl) ?_
  refine Tops_nil (tZ [8, 9] [0, 1, 4, 5] [0] rfl rfl rfl rfl ?_)
  refine Tk_retire (i := 3) rfl ?_
  obtain rfl := Option.some.inj h
  exact Tk_retV rfl rfl (resA (vs := [.agg #[vI ID1, vI Count1, v1], vI (4 : Int)]) rfl ⟨⟨_, 2, _, _, _, rfl, rfl, .inl ⟨tyF56, rfl, rfl⟩⟩, rfl, trivial⟩) [0, 1] [1] rfl rfl rfl ⟨v1, rfl, rfl, rfl⟩

set_option maxRecDepth 100000 in
set_option maxHeartbeats 4000000 in
theorem w_walk_Packed {m : gmem_Mem} {rp1 : Rings} {pp2 : Pos} {table : Bool} {b_m : Nat} {vm1 : Value} {vm2 : Value} {vsm1 : List Value} {r : (Taken × Int)} (h : walk_Packed m rp1 pp2 table = some r) :
  Ctr Try.prog 17 #[.pointer (some ⟨b_m, 0, none⟩), .agg #[vB rp1.Packed, vI rp1.Size, vU64 rp1.Desc, vU64 rp1.Driver, vU64 rp1.Device], .agg #[vI pp2.At, vB pp2.Wrap], vB table] [(cellsR b_m 113 [vm1, vm2]), (rowsX u8S true vm2 vsm1 m.b none)] [Fact.sl RegionS vm1 m.l]
   (fun rv own shr => ∃ (w1 : Value), rv = .tuple #[.agg #[vI r.1.ID, vI r.1.Count, w1], vI r.2] ∧ own = [(cellsR b_m 113 [vm1, vm2]), (rowsX u8S true vm2 vsm1 m.b none)] ∧ shr = [Fact.sl SegS w1 r.1.Segs]) := by
 unfold walk_Packed at h
 refine Ctr.mk (args := [.pointer (some ⟨b_m, 0, none⟩), .agg #[vB rp1.Packed, vI rp1.Size, vU64 rp1.Desc, vU64 rp1.Driver, vU64 rp1.Device], .agg #[vI pp2.At, vB pp2.Wrap], vB table]) Try.func17 rfl rfl (fun R0 w0 B => ?_)
 refine Tk_seq (Tk_region (Tops_ex rfl (OpT_box rfl rfl rfl rfl) fun b1 => ?_))
 refine Tops_ex rfl (OpT_box rfl rfl rfl rfl) fun b2 => ?_
 refine Tops_ex rfl (OpT_alloc rfl rfl rfl tyZ56) fun b3 => ?_
 refine Tops_step rfl (OpT_assign rfl rfl rfl rfl) ?_
 refine Tops_nil (tZ [0, 3, 5, 6, 8] [0, 1, 2, 3, 4] [0] rfl rfl rfl rfl ?_)
 refine Tk_seq (Tk_region (Tops_step rfl (OpT_move rfl rfl rfl rfl) ?_))
 refine Tops_step rfl (OpT_loadCA (vs := [vB rp1.Packed, vI rp1.Size, vU64 rp1.Desc, vU64 rp1.Driver, vU64 rp1.Device]) rfl rfl rfl rfl tyF29 (i := 2) rfl rfl rfl) ?_
 obtain ⟨refuse1, hx1, h⟩ := ob_e h
 refine Tops_exP rfl (OpT_callP [5, 6, 2, 3, 4] (w_walk_refuse hx1) [0, 1] [0] rfl rfl rfl rfl rfl callee40 rfl rfl rfl rfl rfl) ?_
 rintro _ ⟨_, _, _, ⟨rfl, rfl, rfl⟩, rfl⟩
 refine Tops_step rfl (OpT_assign rfl rfl rfl rfl) ?_
 refine Tops_nil (tZ [0, 3, 5, 6, 8, 10] [0, 1, 2, 3, 4] [0] rfl rfl rfl rfl ?_)
 refine Tk_seq (Tk_seq (Tk_region (Tops_step rfl (OpT_move rfl rfl rfl rfl) ?_)))
 refine Tops_step rfl (OpT_bin rfl rfl rfl rfl rfl (bin_eql_i (a := refuse1) (b := (0 : Int)))) ?_
 refine Tops_step rfl (OpT_move rfl rfl rfl rfl) ?_
 rcases Bool.eq_false_or_eq_true (refuse1 == (0 : Int)) with hg1 | hg1
 ·replace h := br_t hg1 h
  refine Tops_yes rfl rfl (congrArg (fun b => some (Value.bool b)) hg1) (OpT_loadCA (vs := [vI pp2.At, vB pp2.Wrap]) rfl rfl rfl rfl tyF60 (i := 3) rfl rfl rfl) ?_
  rintro _ rfl
  refine Tops_yes rfl rfl (congrArg (fun b => some (Value.bool b)) hg1) (OpT_fieldC rfl rfl rfl rfl fldF29x1) ?_
  rintro _ rfl
  refine Tops_yes rfl rfl (congrArg (fun b => some (Value.bool b)) hg1) (OpT_loadC rfl rfl rfl rfl tyF3 (i := 2) rfl rfl) ?_
  rintro _ rfl
  obtain ⟨check1, hx2, h⟩ := ob_e h
  refine Tops_yes rfl rfl (congrArg (fun b => some (Value.bool b)) hg1) (OpT_call (w_serial_Check hx2) [] [] rfl rfl rfl rfl rfl callee48 rfl rfl rfl rfl) ?_
  rintro _ ⟨_, _, _, ⟨rfl, rfl, rfl⟩, rfl⟩
  refine Tops_yes rfl rfl (congrArg (fun b => some (Value.bool b)) hg1) (OpT_bin rfl rfl rfl rfl rfl (bin_neq_i (a := check1) (b := (0 : Int)))) ?_
  rintro _ rfl
  refine Tops_step rfl (OpT_pickT rfl rfl rfl (congrArg (fun b => some (Value.bool b)) hg1) rfl) ?_
  refine Tops_nil (tZ [0, 3, 5, 6, 8, 10, 23] [0, 1, 2, 3, 4] [0] rfl rfl rfl rfl ?_)
  refine Tk_join (α := Int) (fun s => ⟨[(0, some (.pointer (some ⟨b_m, 0, none⟩))), (3, some (vB table)), (5, some (.pointer (some ⟨b1, 0, none⟩))), (6, some (.pointer (some ⟨b2, 0, none⟩))), (8, some (.pointer (some ⟨b3, 0, none⟩))), (10, some (vI s))], [some (cellsR b_m 113 [vm1, vm2]), some (rowsX u8S true vm2 vsm1 m.b none), some (cellsR b1 29 [vB rp1.Packed, vI rp1.Size, vU64 rp1.Desc, vU64 rp1.Driver, vU64 rp1.Device]), some (cellsR b2 60 [vI pp2.At, vB pp2.Wrap]), some (cellsR b3 56 [vI (0 : Int), vI (0 : Int), .slice none 0 0])], [Fact.sl RegionS vm1 m.l]⟩) (fun s => walk_PackedJ1 m rp1 pp2 table s = some r) ?_ ?_
  ·rintro e1 h
   replace h : walk_PackedJ1 m rp1 pp2 table e1 = some r := h
   unfold walk_PackedJ1 at h
   refine Tk_seq (Tk_seq (Tk_region (Tops_step rfl (OpT_move rfl rfl rfl rfl) ?_)))
   refine Tops_step rfl (OpT_bin rfl rfl rfl rfl rfl (bin_neq_i (a := e1) (b := (0 : Int)))) ?_
   refine Tops_nil (tZ [0, 3, 5, 6, 8, 10, 25] [0, 1, 2, 3, 4] [0] rfl rfl rfl rfl ?_)
   rcases Bool.eq_false_or_eq_true (e1 != (0 : Int)) with hg2 | hg2
   ·replace h := br_t hg2 h
    refine Tk_condT (congrArg (fun b => some (Value.bool b)) hg2) ?_
    refine Tk_seq (Tk_region (Tops_step rfl (OpT_build (v := .agg #[vI (0 : Int), vI (0 : Int), .slice none 0 0]) rfl rfl rfl rfl (bldV (by kernel_rfl))) ?_))
    refine Tops_step rfl (OpT_move rfl rfl rfl rfl) ?_
    refine Tops_step rfl (OpT_storeC (cs' := [vI (0 : Int), vI (0 : Int), .slice none 0 0]) rfl rfl rfl rfl tyF56 (i := 4) rfl rfl rfl (one_of rfl) rfl) ?_
    refine Tops_step rfl (OpT_assign rfl rfl rfl rfl) ?_
    refine Tops_nil (tZ [8, 9] [0, 1, 4] [0] rfl rfl rfl rfl ?_)
    refine Tk_nilfact SegS ?_
    obtain rfl := Option.some.inj h
    exact Tk_retV rfl rfl (resA (vs := [.agg #[vI (0 : Int), vI (0 : Int), .slice none 0 0], vI e1]) rfl ⟨⟨_, 2, _, _, _, rfl, rfl, .inl ⟨tyF56, rfl, rfl⟩⟩, rfl, trivial⟩) [0, 1] [1] rfl rfl rfl ⟨(.slice none 0 0), rfl, rfl, rfl⟩
   ·replace h := br_f hg2 h
    refine Tk_condF (congrArg (fun b => some (Value.bool b)) hg2) ?_
    refine Tk_skip (Tk_seq (Tk_region (Tops_step rfl (OpT_move rfl rfl rfl rfl) ?_)))
    refine Tops_step rfl (OpT_loadCA (vs := [vB rp1.Packed, vI rp1.Size, vU64 rp1.Desc, vU64 rp1.Driver, vU64 rp1.Device]) rfl rfl rfl rfl tyF29 (i := 2) rfl rfl rfl) ?_
    refine Tops_step rfl (OpT_loadCA (vs := [vI pp2.At, vB pp2.Wrap]) rfl rfl rfl rfl tyF60 (i := 3) rfl rfl rfl) ?_
    refine Tops_step rfl (OpT_move rfl rfl rfl rfl) ?_
    obtain ⟨packed1, hx3, h⟩ := ob_e h
    refine Tops_exP rfl (OpT_callP [5, 6, 2, 3, 4] (w_walk_packed hx3) [0, 1] [0] rfl rfl rfl rfl rfl callee49 rfl rfl rfl rfl rfl) ?_
    rintro _ ⟨_, _, _, ⟨v1, rfl, rfl, rfl⟩, rfl⟩
    refine Tops_step rfl (OpT_move rfl rfl rfl rfl) ?_
    refine Tops_step rfl (OpT_extract rfl rfl rfl rfl rfl) ?_
    refine Tops_step rfl (OpT_extract rfl rfl rfl rfl rfl) ?_
    refine Tops_ex rfl (OpT_alloc rfl rfl rfl tyZ56) fun b4 => ?_
    refine Tops_step rfl (OpT_storeA1 (fun z0 => [vI packed1.1.ID, vI packed1.1.Count, z0]) (cs' := [vI packed1.1.ID, vI packed1.1.Count, v1]) rfl rfl rfl rfl tyF56 (i := 5) rfl (is_sl (i := 1) rfl) (fun _ _ _ => rfl) rfl rfl rfl) ?_
    refine Tops_step rfl (OpT_assign rfl rfl rfl rfl) ?_
    refine Tops_nil (tZ [0, 5, 8, 10, 11] [0, 1, 2, 4, 5] [0, 1] rfl rfl rfl rfl ?_)
    refine Tk_seq (Tk_seq (Tk_region (Tops_step rfl (OpT_move rfl rfl rfl rfl) ?_)))
    refine Tops_step rfl (OpT_bin rfl rfl rfl rfl rfl (bin_eql_i (a := packed1.2) (b := (0 : Int)))) ?_
    refine Tops_step rfl (OpT_move rfl rfl rfl rfl) ?_
    rcases Bool.eq_false_or_eq_true (packed1.2 == (0 : Int)) with hg3 | hg3
    ·replace h := br_t hg3 h
     refine Tops_yes rfl rfl (congrArg (fun b => some (Value.bool b)) hg3) (OpT_fieldC rfl rfl rfl rfl fldF56x0) ?_
     rintro _ rfl
     refine Tops_yes rfl rfl (congrArg (fun b => some (Value.bool b)) hg3) (OpT_loadC rfl rfl rfl rfl tyF3 (i := 4) rfl rfl) ?_
     rintro _ rfl
     refine Tops_yes rfl rfl (congrArg (fun b => some (Value.bool b)) hg3) (OpT_fieldC rfl rfl rfl rfl fldF29x1) ?_
     rintro _ rfl
     refine Tops_yes rfl rfl (congrArg (fun b => some (Value.bool b)) hg3) (OpT_loadC rfl rfl rfl rfl tyF3 (i := 2) rfl rfl) ?_
     rintro _ rfl
     refine Tops_yes rfl rfl (congrArg (fun b => some (Value.bool b)) hg3) (OpT_bin rfl rfl rfl rfl rfl (bin_geq_i (a := packed1.1.ID) (b := rp1.Size))) ?_
     rintro _ rfl
     refine Tops_step rfl (OpT_pickT rfl rfl rfl (congrArg (fun b => some (Value.bool b)) hg3) rfl) ?_
     refine Tops_nil (tZ [0, 8, 10, 11, 44] [0, 1, 3, 4] [0, 1] rfl rfl rfl rfl ?_)
     refine Tk_join (α := Int) (fun s => ⟨[(0, some (.pointer (some ⟨b_m, 0, none⟩))), (8, some (.pointer (some ⟨b3, 0, none⟩))), (10, some (vI s)), (11, some (.pointer (some ⟨b4, 0, none⟩)))], [some (cellsR b_m 113 [vm1, vm2]), some (rowsX u8S true vm2 vsm1 m.b none), some (cellsR b3 56 [vI (0 : Int), vI (0 : Int), .slice none 0 0]), some (cellsR b4 56 [vI packed1.1.ID, vI packed1.1.Count, v1])], [Fact.sl RegionS vm1 m.l, Fact.sl SegS v1 packed1.1.Segs]⟩) (fun s => walk_PackedJ2 m packed1 s = some r) ?_ ?_
     ·rintro e2 h
      replace h : walk_PackedJ2 m packed1 e2 = some r := h
      unfold walk_PackedJ2 at h
      refine Tk_seq (Tk_seq (Tk_region (Tops_step rfl (OpT_move rfl rfl rfl rfl) ?_)))
      refine Tops_step rfl (OpT_bin rfl rfl rfl rfl rfl (bin_eql_i (a := e2) (b := (0 : Int)))) ?_
      refine Tops_nil (tZ [0, 8, 10, 11, 46] [0, 1, 2, 3] [0, 1] rfl rfl rfl rfl ?_)
      refine Tk_join (α := Int × Int × (List Seg) × Int × Int × Int × (List Seg) × Value × Value) (fun s => ⟨[(8, some (.pointer (some ⟨b3, 0, none⟩))), (10, some (vI s.2.2.2.1)), (11, some (.pointer (some ⟨b4, 0, none⟩)))], [some (cellsR b3 56 [vI s.1, vI s.2.1, s.2.2.2.2.2.2.2.1]), some (cellsR b4 56 [vI s.2.2.2.2.1, vI s.2.2.2.2.2.1, s.2.2.2.2.2.2.2.2]), some (cellsR b_m 113 [vm1, vm2]), some (rowsX u8S true vm2 vsm1 m.b none)], [Fact.sl SegS s.2.2.2.2.2.2.2.1 s.2.2.1, Fact.sl SegS s.2.2.2.2.2.2.2.2 s.2.2.2.2.2.2.1, Fact.sl RegionS vm1 m.l]⟩) (fun s => walk_PackedJ3 s.1 s.2.1 s.2.2.1 s.2.2.2.1 s.2.2.2.2.1 s.2.2.2.2.2.1 s.2.2.2.2.2.2.1 = some r) ?_ ?_
      ·rintro ⟨ID1, Count1, Segs1, e3, ID2, Count2, Segs2, v2, v3⟩ h
       replace h : walk_PackedJ3 ID1 Count1 Segs1 e3 ID2 Count2 Segs2 = some r := h
       unfold walk_PackedJ3 at h
       refine Tk_seq (Tk_seq (Tk_region (Tops_step rfl (OpT_move rfl rfl rfl rfl) ?_)))
       refine Tops_step rfl (OpT_bin rfl rfl rfl rfl rfl (bin_neq_i (a := e3) (b := (0 : Int)))) ?_
       refine Tops_nil (tZ [8, 10, 11, 56] [0, 1, 2, 3] [0, 1, 2] rfl rfl rfl rfl ?_)
       rcases Bool.eq_false_or_eq_true (e3 != (0 : Int)) with hg4 | hg4
       ·replace h := br_t hg4 h
        refine Tk_condT (congrArg (fun b => some (Value.bool b)) hg4) ?_
        refine Tk_seq (Tk_region (Tops_step rfl (OpT_build (v := .agg #[vI (0 : Int), vI (0 : Int), .slice none 0 0]) rfl rfl rfl rfl (bldV (by kernel_rfl))) ?_))
        refine Tops_step rfl (OpT_move rfl rfl rfl rfl) ?_
        refine Tops_step rfl (OpT_storeC (cs' := [vI (0 : Int), vI (0 : Int), .slice none 0 0]) rfl rfl rfl rfl tyF56 (i := 0) rfl rfl rfl (one_of rfl) rfl) ?_
        refine Tops_step rfl (OpT_assign rfl rfl rfl rfl) ?_
        refine Tops_nil (tZ [8, 9] [0, 2, 3] [2] rfl rfl rfl rfl ?_)
        refine Tk_nilfact SegS ?_
        obtain rfl := Option.some.inj h
        exact Tk_retV rfl rfl (resA (vs := [.agg #[vI (0 : Int), vI (0 : Int), .slice none 0 0], vI e3]) rfl ⟨⟨_, 0, _, _, _, rfl, rfl, .inl ⟨tyF56, rfl, rfl⟩⟩, rfl, trivial⟩) [1, 2] [1] rfl rfl rfl ⟨(.slice none 0 0), rfl, rfl, rfl⟩
       ·replace h := br_f hg4 h
        refine Tk_condF (congrArg (fun b => some (Value.bool b)) hg4) ?_
        refine Tk_skip (Tk_seq (Tk_region (Tops_step rfl (OpT_loadCA (vs := [vI ID2, vI Count2, v3]) rfl rfl rfl rfl tyF56 (i := 1) rfl rfl rfl) ?_)))
        refine Tops_step rfl (OpT_storeA1 (fun z0 => [vI ID2, vI Count2, z0]) (cs' := [vI ID2, vI Count2, v3]) rfl rfl rfl rfl tyF56 (i := 0) rfl (is_sl (i := 1) rfl) (fun _ _ _ => rfl) rfl rfl rfl) ?_
        refine Tops_step rfl (OpT_assign rfl rfl rfl rfl) ?_
        refine Tops_nil (tZ [8, 9] [0, 2, 3] [1, 2] rfl rfl rfl rfl ?_)
        obtain rfl := Option.some.inj h
        exact Tk_retV rfl rfl (resA (vs := [.agg #[vI ID2, vI Count2, v3], vI (0 : Int)]) rfl ⟨⟨_, 0, _, _, _, rfl, rfl, .inl ⟨tyF56, rfl, rfl⟩⟩, rfl, trivial⟩) [1, 2] [0] rfl rfl rfl ⟨v3, rfl, rfl, rfl⟩
      ·intro HJ1
       rcases Bool.eq_false_or_eq_true (e2 == (0 : Int)) with hg5 | hg5
       ·replace h := br_t hg5 h
        refine Tk_condT (congrArg (fun b => some (Value.bool b)) hg5) ?_
        refine Tk_region (Tops_step rfl (OpT_move rfl rfl rfl rfl) ?_)
        refine Tops_step rfl (OpT_fieldC rfl rfl rfl rfl fldF56x2) ?_
        refine Tops_step rfl (OpT_loadC rfl rfl rfl rfl tyF41 (i := 3) rfl rfl) ?_
        obtain ⟨looked1, hx4, h⟩ := ob_e h
        refine Tops_exP rfl (OpT_callP [4, 5, 2, 3] (w_walk_looked hx4) [0, 1] [0, 1] rfl rfl rfl rfl rfl callee42 rfl rfl rfl rfl rfl) ?_
        rintro _ ⟨_, _, _, ⟨v4, rfl, rfl, rfl⟩, rfl⟩
        refine Tops_step rfl (OpT_move rfl rfl rfl rfl) ?_
        refine Tops_step rfl (OpT_extract rfl rfl rfl rfl rfl) ?_
        refine Tops_step rfl (OpT_extract rfl rfl rfl rfl rfl) ?_
        refine Tops_step rfl (OpT_fieldC rfl rfl rfl rfl fldF56x2) ?_
        refine Tops_step rfl (OpT_storeV (cs' := [vI packed1.1.ID, vI packed1.1.Count, v4]) rfl rfl rfl rfl tyF41 (i := 3) rfl (is_sl (i := 2) rfl) rfl rfl) ?_
        refine Tops_step rfl (OpT_assign rfl rfl rfl rfl) ?_
        refine Tops_nil (tZ [8, 10, 11] [0, 1, 2, 3] [0, 2] rfl rfl rfl rfl ?_)
        refine Tk_nilfact SegS ?_
        exact Tk_jmpS (HJ1 ((0 : Int), (0 : Int), ([] : List Seg), looked1.2, packed1.1.ID, packed1.1.Count, looked1.1, .slice none 0 0, v4) h) [8, 10, 11] [2, 3, 0, 1] [2, 1, 0] rfl rfl rfl rfl
       ·replace h := br_f hg5 h
        refine Tk_condF (congrArg (fun b => some (Value.bool b)) hg5) ?_
        refine Tk_skip (Tk_nilfact SegS ?_)
        exact Tk_jmpS (HJ1 ((0 : Int), (0 : Int), ([] : List Seg), e2, packed1.1.ID, packed1.1.Count, packed1.1.Segs, .slice none 0 0, v1) h) [8, 10, 11] [2, 3, 0, 1] [2, 1, 0] rfl rfl rfl rfl
     ·intro HJ2
      rcases Bool.eq_false_or_eq_true (decide (packed1.1.ID ≥ rp1.Size)) with hg6 | hg6
      ·replace h := br_t hg6 h
       refine Tk_condT (congrArg (fun b => some (Value.bool b)) hg6) ?_
       refine Tk_region (Tops_step rfl (OpT_assign rfl rfl rfl rfl) ?_)
       refine Tops_nil (tZ [0, 8, 10, 11] [0, 1, 2, 3] [0, 1] rfl rfl rfl rfl ?_)
       exact Tk_jmpS (HJ2 (4 : Int) h) [0, 8, 10, 11] [0, 1, 2, 3] [0, 1] rfl rfl rfl rfl
      ·replace h := br_f hg6 h
       refine Tk_condF (congrArg (fun b => some (Value.bool b)) hg6) ?_
       refine Tk_skip ?_
       exact Tk_jmpS (HJ2 packed1.2 h) [0, 8, 10, 11] [0, 1, 2, 3] [0, 1] rfl rfl rfl rfl
    ·replace h := br_f hg3 h
     refine Tops_no rfl rfl (congrArg (fun b => some (Value.bool b)) hg3) rfl rfl ?_
     refine Tops_no rfl rfl (congrArg (fun b => some (Value.bool b)) hg3) rfl rfl ?_
     refine Tops_no rfl rfl (congrArg (fun b => some (Value.bool b)) hg3) rfl rfl ?_
     refine Tops_no rfl rfl (congrArg (fun b => some (Value.bool b)) hg3) rfl rfl ?_
     refine Tops_no rfl rfl (congrArg (fun b => some (Value.bool b)) hg3) rfl rfl ?_
     refine Tops_step rfl (OpT_pickF rfl rfl rfl (congrArg (fun b => some (Value.bool b)) hg3) rfl) ?_
     refine Tops_nil (tZ [0, 8, 10, 11, 44] [0, 1, 3, 4] [0, 1] rfl rfl rfl rfl ?_)
     refine Tk_condF rfl ?_
     refine Tk_skip (Tk_seq (Tk_seq (Tk_region (Tops_step rfl (OpT_move rfl rfl rfl rfl) ?_))))
     refine Tops_step rfl (OpT_bin rfl rfl rfl rfl rfl (bin_eql_i (a := packed1.2) (b := (0 : Int)))) ?_
     refine Tops_nil (tZ [0, 8, 10, 11, 46] [0, 1, 2, 3] [0, 1] rfl rfl rfl rfl ?_)
     refine Tk_condF (congrArg (fun b => some (Value.bool b)) hg3) ?_
     refine Tk_skip (Tk_seq (Tk_seq (Tk_region (Tops_step rfl (OpT_move rfl rfl rfl rfl) ?_))))
     refine Tops_step rfl (OpT_bin rfl rfl rfl rfl rfl (bin_neq_i (a := packed1.2) (b := (0 : Int)))) ?_
     refine Tops_nil (tZ [8, 10, 11, 56] [0, 1, 2, 3] [0, 1] rfl rfl rfl rfl ?_)
     refine Tk_condT (congrArg (fun b => some (Value.bool (!b))) hg3) ?_
     refine Tk_seq (Tk_region (Tops_step rfl (OpT_build (v := .agg #[vI (0 : Int), vI (0 : Int), .slice none 0 0]) rfl rfl rfl rfl (bldV (by kernel_rfl))) ?_))
     refine Tops_step rfl (OpT_move rfl rfl rfl rfl) ?_
     refine Tops_step rfl (OpT_storeC (cs' := [vI (0 : Int), vI (0 : Int), .slice none 0 0]) rfl rfl rfl rfl tyF56 (i := 2) rfl rfl rfl (one_of rfl) rfl) ?_
     refine Tops_step rfl (OpT_assign rfl rfl rfl rfl) ?_
     refine Tops_nil (tZ [8, 9] [0, 1, 2] [0] rfl rfl rfl rfl ?_)
     refine Tk_nilfact SegS ?_
     obtain rfl := Option.some.inj h
     exact Tk_retV rfl rfl (resA (vs := [.agg #[vI (0 : Int), vI (0 : Int), .slice none 0 0], vI packed1.2]) rfl ⟨⟨_, 2, _, _, _, rfl, rfl, .inl ⟨tyF56, rfl, rfl⟩⟩, rfl, trivial⟩) [0, 1] [1] rfl rfl rfl ⟨(.slice none 0 0), rfl, rfl, rfl⟩
  ·intro HJ3
   rcases Bool.eq_false_or_eq_true (check1 != (0 : Int)) with hg7 | hg7
   ·replace h := br_t hg7 h
    refine Tk_condT (congrArg (fun b => some (Value.bool b)) hg7) ?_
    refine Tk_region (Tops_step rfl (OpT_assign rfl rfl rfl rfl) ?_)
    refine Tops_nil (tZ [0, 3, 5, 6, 8, 10] [0, 1, 2, 3, 4] [0] rfl rfl rfl rfl ?_)
    exact Tk_jmpS (HJ3 (2 : Int) h) [0, 3, 5, 6, 8, 10] [0, 1, 2, 3, 4] [0] rfl rfl rfl rfl
   ·replace h := br_f hg7 h
    refine Tk_condF (congrArg (fun b => some (Value.bool b)) hg7) ?_
    refine Tk_skip ?_
    exact Tk_jmpS (HJ3 refuse1 h) [0, 3, 5, 6, 8, 10] [0, 1, 2, 3, 4] [0] rfl rfl rfl rfl
 ·replace h := br_f hg1 h
  refine Tops_no rfl rfl (congrArg (fun b => some (Value.bool b)) hg1) rfl rfl ?_
  refine Tops_no rfl rfl (congrArg (fun b => some (Value.bool b)) hg1) rfl rfl ?_
  refine Tops_no rfl rfl (congrArg (fun b => some (Value.bool b)) hg1) rfl rfl ?_
  refine Tops_no rfl rfl (congrArg (fun b => some (Value.bool b)) hg1) rfl rfl ?_
  refine Tops_no rfl rfl (congrArg (fun b => some (Value.bool b)) hg1) rfl rfl ?_
  refine Tops_step rfl (OpT_pickF rfl rfl rfl (congrArg (fun b => some (Value.bool b)) hg1) rfl) ?_
  refine Tops_nil (tZ [0, 3, 5, 6, 8, 10, 23] [0, 1, 2, 3, 4] [0] rfl rfl rfl rfl ?_)
  refine Tk_condF rfl ?_
  refine Tk_skip (Tk_seq (Tk_seq (Tk_region (Tops_step rfl (OpT_move rfl rfl rfl rfl) ?_))))
  refine Tops_step rfl (OpT_bin rfl rfl rfl rfl rfl (bin_neq_i (a := refuse1) (b := (0 : Int)))) ?_
  refine Tops_nil (tZ [0, 3, 5, 6, 8, 10, 25] [0, 1, 2, 3, 4] [0] rfl rfl rfl rfl ?_)
  refine Tk_condT (congrArg (fun b => some (Value.bool (!b))) hg1) ?_
  refine Tk_seq (Tk_region (Tops_step rfl (OpT_build (v := .agg #[vI (0 : Int), vI (0 : Int), .slice none 0 0]) rfl rfl rfl rfl (bldV (by kernel_rfl))) ?_))
  refine Tops_step rfl (OpT_move rfl rfl rfl rfl) ?_
  refine Tops_step rfl (OpT_storeC (cs' := [vI (0 : Int), vI (0 : Int), .slice none 0 0]) rfl rfl rfl rfl tyF56 (i := 4) rfl rfl rfl (one_of rfl) rfl) ?_
  refine Tops_step rfl (OpT_assign rfl rfl rfl rfl) ?_
  refine Tops_nil (tZ [8, 9] [0, 1, 4] [0] rfl rfl rfl rfl ?_)
  refine Tk_nilfact SegS ?_
  obtain rfl := Option.some.inj h
  exact Tk_retV rfl rfl (resA (vs := [.agg #[vI (0 : Int), vI (0 : Int), .slice none 0 0], vI refuse1]) rfl ⟨⟨_, 2, _, _, _, rfl, rfl, .inl ⟨tyF56, rfl, rfl⟩⟩, rfl, trivial⟩) [0, 1] [1] rfl rfl rfl ⟨(.slice none 0 0), rfl, rfl, rfl⟩

end Go.Proofs.Ytlofegfaphijpaa
