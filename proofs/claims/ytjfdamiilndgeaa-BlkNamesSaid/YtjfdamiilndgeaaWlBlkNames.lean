/- The law BlkNames is walked: it returns what its plain words say. No condition. -/
import Derived.Test.YtjfdamiilndgeaaWa4
namespace Go.Proofs.Ytjfdamiilndgeaa
attribute [local irreducible] sub

set_option maxRecDepth 100000 in
set_option maxHeartbeats 4000000 in
theorem w_law21zBlkNames   (h : law21zBlkNames = some true) :
  Ctr Try.prog 3 #[] [] []
   (fun rv own shr => rv = .bool true ∧ own = [] ∧ shr = []) := by
 unfold law21zBlkNames at h
 refine Ctr.mk (args := []) Try.func3 rfl rfl (fun R0 w0 B => ?_)
 refine Tk_seq (Tk_region (Tops_step rfl (OpT_assign rfl rfl rfl rfl) ?_))
 refine Tops_nil (tZ [] [] [] rfl rfl rfl rfl ?_)
 refine Tk_seq (Tk_region ?_)
 obtain ⟨new1, hx1, h⟩ := ob_e h
 refine Tops_exP rfl (OpT_call (w_sectors_New hx1) [] [] rfl rfl rfl rfl rfl callee7 rfl rfl rfl rfl) ?_
 rintro _ ⟨_, _, _, ⟨v1, rfl, rfl, rfl⟩, rfl⟩
 refine Tops_step rfl (OpT_move rfl rfl rfl rfl) ?_
 refine Tops_step rfl (OpT_extract rfl rfl rfl rfl rfl) ?_
 refine Tops_step rfl (OpT_extract rfl rfl rfl rfl rfl) ?_
 refine Tops_step rfl (OpT_assign rfl rfl rfl rfl) ?_
 refine Tops_step rfl (OpT_assign rfl rfl rfl rfl) ?_
 refine Tops_nil (tZ [1, 2] [0] [] rfl rfl rfl rfl ?_)
 rcases onO_cases h with ⟨ho1, h⟩ | ⟨store1, ho1, h⟩
 ·cases h
 ·refine Tk_optTS (i := 0) rfl ho1 ?_
  rintro b1 vs1 rfl
  refine Tk_vs (vs_star (i := 0) rfl) ?_
  refine Tk_vs (vs_star (i := 1) rfl) ?_
  refine (show Tk _ _ ⟨[(1, some (.pointer (some ⟨b1, 0, none⟩))), (2, some (vI new1.2))], [some (cellsR b1 71 [(vsAt vs1 0), (vsAt vs1 1)]), some (rowS secS (vsAt vs1 0) store1.l), some (mapRV .i64 (fun x : Int => x) vSec (vsAt vs1 1) store1.fresh)], []⟩ from ?_)
  refine Tk_openM (i := 2) rfl ?_
  rintro mb1 he1
  rw [he1]
  refine Tk_seq (Tk_seq (Tk_region (Tops_step rfl (OpT_move rfl rfl rfl rfl) ?_)))
  refine Tops_step rfl (OpT_bin rfl rfl rfl rfl rfl (bin_neq_i (a := new1.2) (b := (0 : Int)))) ?_
  refine Tops_nil (tZ [1, 26] [0, 1, 2] [] rfl rfl rfl rfl ?_)
  obtain ⟨hg1, h⟩ := chk_e h
  replace hg1 := not_t hg1
  refine Tk_condF (congrArg (fun b => some (Value.bool b)) hg1) ?_
  refine Tk_skip (Tk_seq (Tk_region (Tops_step rfl (OpT_build (v := .agg #[vU64 (2 : UInt64), vU32 (3 : UInt32), vU32 (1 : UInt32)]) rfl rfl rfl rfl (bldV (by kernel_rfl))) ?_)))
  refine Tops_ex rfl (OpT_buildSlice (S := RangeS) (xs := [(Range.mk (2 : UInt64) (3 : UInt32) (1 : UInt32))]) (css := [[vU64 (2 : UInt64), vU32 (3 : UInt32), vU32 (1 : UInt32)]]) (cs := [vU64 (2 : UInt64), vU32 (3 : UInt32), vU32 (1 : UInt32)]) (e := 32) rfl rfl rfl rfl (bldF slF33 (by decide) (by kernel_rfl)) rfl rfl rfl rfl (rel_plainD (S := RangeS) (xs := [(Range.mk (2 : UInt64) (3 : UInt32) (1 : UInt32))]) (css := [[vU64 (2 : UInt64), vU32 (3 : UInt32), vU32 (1 : UInt32)]]) rfl rfl)) fun v2 => ?_
  refine Tops_step rfl (OpT_build1 (fun z0 => [(0, vU32 (11 : UInt32)), (1, vU64 (1 : UInt64)), (4, z0)]) (fun z0 => [vU32 (11 : UInt32), vU64 (1 : UInt64), .slice none 0 0, vI (0 : Int), z0]) rfl rfl rfl rfl (is_row (i := 3) rfl) (by intros; kernel_rfl)) ?_
  refine Tops_nilfact u8S ?_
  obtain ⟨bytes1, hx2, h⟩ := ob_e h
  refine Tops_exP rfl (OpT_callB [3] [0, 1, 2, 3, 4] (w_blk_Bytes hx2) [] rfl rfl rfl rfl rfl callee8 rfl rfl rfl rfl rfl rfl (bor_cons (bor_shr 0 rfl) (bor_cons (bor_row 3 rfl rfl) bor_nil)) (by rintro _ _ _ ⟨_, rfl, rfl, rfl⟩; exact ⟨rfl, (ri_cons (ri_row (S := u8S) rfl _ _) ri_nil)⟩)) ?_
  rintro _ ⟨_, _, _, ⟨v3, rfl, rfl, rfl⟩, rfl⟩
  refine Tops_step rfl (OpT_move rfl rfl rfl rfl) ?_
  refine Tops_step rfl (OpT_extract rfl rfl rfl rfl rfl) ?_
  refine Tops_step rfl (OpT_extract rfl rfl rfl rfl rfl) ?_
  refine Tops_step rfl (OpT_assign rfl rfl rfl rfl) ?_
  refine Tops_step rfl (OpT_assign rfl rfl rfl rfl) ?_
  refine Tops_nil (tZ [1, 3, 4] [0, 1, 2, 4] [] rfl rfl rfl rfl ?_)
  refine Tk_seq (Tk_region (Tops_step rfl (OpT_build (v := .agg #[vU64 (0 : UInt64), vU32 (0 : UInt32), vU32 (0 : UInt32)]) rfl rfl rfl rfl (bldV (by kernel_rfl))) ?_))
  refine Tops_ex rfl (OpT_buildSlice (S := RangeS) (xs := [(Range.mk (0 : UInt64) (0 : UInt32) (0 : UInt32))]) (css := [[vU64 (0 : UInt64), vU32 (0 : UInt32), vU32 (0 : UInt32)]]) (cs := [vU64 (0 : UInt64), vU32 (0 : UInt32), vU32 (0 : UInt32)]) (e := 32) rfl rfl rfl rfl (bldF slF33 (by decide) (by kernel_rfl)) rfl rfl rfl rfl (rel_plainD (S := RangeS) (xs := [(Range.mk (0 : UInt64) (0 : UInt32) (0 : UInt32))]) (css := [[vU64 (0 : UInt64), vU32 (0 : UInt32), vU32 (0 : UInt32)]]) rfl rfl)) fun v4 => ?_
  refine Tops_step rfl (OpT_build1 (fun z0 => [(0, vU32 (0 : UInt32)), (4, z0)]) (fun z0 => [vU32 (0 : UInt32), vU64 (0 : UInt64), .slice none 0 0, vI (0 : Int), z0]) rfl rfl rfl rfl (is_row (i := 4) rfl) (by intros; kernel_rfl)) ?_
  refine Tops_nilfact u8S ?_
  obtain ⟨bytes2, hx3, h⟩ := ob_e h
  refine Tops_exP rfl (OpT_callB [4] [0, 1, 2, 3, 4, 5] (w_blk_Bytes hx3) [] rfl rfl rfl rfl rfl callee8 rfl rfl rfl rfl rfl rfl (bor_cons (bor_shr 0 rfl) (bor_cons (bor_row 4 rfl rfl) bor_nil)) (by rintro _ _ _ ⟨_, rfl, rfl, rfl⟩; exact ⟨rfl, (ri_cons (ri_row (S := u8S) rfl _ _) ri_nil)⟩)) ?_
  rintro _ ⟨_, _, _, ⟨v5, rfl, rfl, rfl⟩, rfl⟩
  refine Tops_step rfl (OpT_move rfl rfl rfl rfl) ?_
  refine Tops_step rfl (OpT_extract rfl rfl rfl rfl rfl) ?_
  refine Tops_step rfl (OpT_extract rfl rfl rfl rfl rfl) ?_
  refine Tops_step rfl (OpT_assign rfl rfl rfl rfl) ?_
  refine Tops_step rfl (OpT_assign rfl rfl rfl rfl) ?_
  refine Tops_nil (tZ [1, 3, 4, 6] [0, 1, 2, 3] [] rfl rfl rfl rfl ?_)
  refine Tk_seq (Tk_region ?_)
  obtain ⟨hc1, h⟩ := chk_e h
  refine Tops_ex rfl (OpT_makeD u8S rfl (u := (0 : UInt8)) rfl rfl rfl rfl rfl slF26 rfl hc1) fun v6 => ?_
  obtain ⟨read1, hx4, h⟩ := ob_e h
  refine Tops_exP rfl (OpT_callB [4] [0, 1, 2, 3, 4, 5, 6] (w_blk_Read hx4) [] rfl rfl rfl rfl rfl callee9 rfl rfl rfl rfl rfl rfl (bor_cons (bor_row 4 rfl rfl) bor_nil) (by rintro _ _ _ ⟨_, _, rfl, rfl, rfl⟩; exact ⟨rfl, (ri_cons (ri_row (S := u8S) rfl _ _) (ri_cons (ri_row (S := RangeS) rfl _ _) ri_nil))⟩)) ?_
  rintro _ ⟨_, _, _, ⟨v7, v8, rfl, rfl, rfl⟩, rfl⟩
  refine Tops_step rfl (OpT_move rfl rfl rfl rfl) ?_
  refine Tops_step rfl (OpT_extract rfl rfl rfl rfl rfl) ?_
  refine Tops_step rfl (OpT_extract rfl rfl rfl rfl rfl) ?_
  refine Tops_ex rfl (OpT_alloc rfl rfl rfl tyZ35) fun b2 => ?_
  refine Tops_step rfl (OpT_storeA2 (fun z0 z1 => [vU32 read1.1.Type_, vU64 read1.1.Sector, z0, vI read1.1.Room, z1]) (cs' := [vU32 read1.1.Type_, vU64 read1.1.Sector, v7, vI read1.1.Room, v8]) rfl rfl rfl rfl tyF35 (i := 7) rfl (is_row (i := 5) rfl) (is_row (i := 6) rfl) (fun _ _ _ _ _ _ => rfl) rfl rfl rfl) ?_
  refine Tops_step rfl (OpT_assign rfl rfl rfl rfl) ?_
  refine Tops_nil (tZ [1, 3, 4, 6, 8] [0, 1, 2, 3] [] rfl rfl rfl rfl ?_)
  refine Tk_seq (Tk_region (Tops_step rfl (OpT_move rfl rfl rfl rfl) ?_))
  refine Tops_step rfl (OpT_build (v := .agg #[vU32 (8 : UInt32), vU64 (0 : UInt64), .slice none 0 0, vI (30 : Int), .slice none 0 0]) rfl rfl rfl rfl (bldV (by kernel_rfl))) ?_
  refine Tops_nilfact u8S ?_
  refine Tops_nilfact RangeS ?_
  obtain ⟨apply1, hx5, h⟩ := ob_e h
  refine Tops_exP rfl (OpT_callP [4, 5, 6, 3, 7] (w_blk_Apply hx5) [0, 1, 2] [0, 1] rfl rfl rfl rfl rfl callee10 rfl rfl rfl rfl rfl) ?_
  rintro _ ⟨_, _, _, ⟨v9, v10, rfl, rfl, rfl⟩, rfl⟩
  refine Tops_step rfl (OpT_move rfl rfl rfl rfl) ?_
  refine Tops_step rfl (OpT_extract rfl rfl rfl rfl rfl) ?_
  refine Tops_step rfl (OpT_extract rfl rfl rfl rfl rfl) ?_
  refine Tops_step rfl (OpT_extract rfl rfl rfl rfl rfl) ?_
  refine Tops_step rfl (OpT_assign rfl rfl rfl rfl) ?_
  refine Tops_step rfl (OpT_assign rfl rfl rfl rfl) ?_
  refine Tops_step rfl (OpT_assign rfl rfl rfl rfl) ?_
  refine Tops_nil (tZ [1, 3, 4, 6, 8, 9, 10] [0, 1, 2, 3, 4] [] rfl rfl rfl rfl ?_)
  refine Tk_seq (Tk_region (Tops_step rfl (OpT_move rfl rfl rfl rfl) ?_))
  refine Tops_step rfl (OpT_build (v := .agg #[vU32 (4 : UInt32), vU64 (0 : UInt64), .slice none 0 0, vI (0 : Int), .slice none 0 0]) rfl rfl rfl rfl (bldV (by kernel_rfl))) ?_
  refine Tops_nilfact u8S ?_
  refine Tops_nilfact RangeS ?_
  obtain ⟨apply2, hx6, h⟩ := ob_e h
  refine Tops_exP rfl (OpT_callP [5, 6, 7, 3, 4, 8] (w_blk_Apply hx6) [0, 1, 2] [0, 1] rfl rfl rfl rfl rfl callee10 rfl rfl rfl rfl rfl) ?_
  rintro _ ⟨_, _, _, ⟨v11, v12, rfl, rfl, rfl⟩, rfl⟩
  refine Tops_step rfl (OpT_move rfl rfl rfl rfl) ?_
  refine Tops_step rfl (OpT_extract rfl rfl rfl rfl rfl) ?_
  refine Tops_step rfl (OpT_extract rfl rfl rfl rfl rfl) ?_
  refine Tops_step rfl (OpT_extract rfl rfl rfl rfl rfl) ?_
  refine Tops_step rfl (OpT_assign rfl rfl rfl rfl) ?_
  refine Tops_step rfl (OpT_assign rfl rfl rfl rfl) ?_
  refine Tops_step rfl (OpT_assign rfl rfl rfl rfl) ?_
  refine Tops_nil (tZ [1, 3, 4, 6, 8, 9, 10, 13] [0, 1, 2, 3, 4] [] rfl rfl rfl rfl ?_)
  refine Tk_seq (Tk_region (Tops_step rfl (OpT_move rfl rfl rfl rfl) ?_))
  refine Tops_step rfl (OpT_build (v := .agg #[vU32 (1 : UInt32), vU64 (0 : UInt64), .slice none 0 0, vI (0 : Int), .slice none 0 0]) rfl rfl rfl rfl (bldV (by kernel_rfl))) ?_
  refine Tops_nilfact u8S ?_
  refine Tops_nilfact RangeS ?_
  obtain ⟨apply3, hx7, h⟩ := ob_e h
  refine Tops_exP rfl (OpT_callP [5, 6, 7, 3, 4, 8] (w_blk_Apply hx7) [0, 1, 2] [0, 1] rfl rfl rfl rfl rfl callee10 rfl rfl rfl rfl rfl) ?_
  rintro _ ⟨_, _, _, ⟨v13, v14, rfl, rfl, rfl⟩, rfl⟩
  refine Tops_step rfl (OpT_move rfl rfl rfl rfl) ?_
  refine Tops_step rfl (OpT_extract rfl rfl rfl rfl rfl) ?_
  refine Tops_step rfl (OpT_extract rfl rfl rfl rfl rfl) ?_
  refine Tops_step rfl (OpT_extract rfl rfl rfl rfl rfl) ?_
  refine Tops_step rfl (OpT_assign rfl rfl rfl rfl) ?_
  refine Tops_step rfl (OpT_assign rfl rfl rfl rfl) ?_
  refine Tops_step rfl (OpT_assign rfl rfl rfl rfl) ?_
  refine Tops_nil (tZ [3, 4, 6, 8, 9, 10, 13, 16] [3, 4] [] rfl rfl rfl rfl ?_)
  refine Tk_seq (Tk_region (Tops_step rfl (OpT_build (v := .agg #[vU32 (0 : UInt32), vU64 (0 : UInt64), .slice none 0 0, vI (0 : Int), .slice none 0 0]) rfl rfl rfl rfl (bldV (by kernel_rfl))) ?_))
  refine Tops_nilfact u8S ?_
  refine Tops_nilfact RangeS ?_
  obtain ⟨apply4, hx8, h⟩ := ob_e h
  refine Tops_exP rfl (OpT_call (w_blk_Applyn0 hx8) [] [0, 1] rfl rfl rfl rfl rfl callee10 rfl rfl rfl rfl) ?_
  rintro _ ⟨_, _, _, ⟨v15, rfl, rfl, rfl⟩, rfl⟩
  refine Tops_step rfl (OpT_move rfl rfl rfl rfl) ?_
  refine Tops_step rfl (OpT_extract rfl rfl rfl rfl rfl) ?_
  refine Tops_step rfl (OpT_extract rfl rfl rfl rfl rfl) ?_
  refine Tops_step rfl (OpT_extract rfl rfl rfl rfl rfl) ?_
  refine Tops_step rfl (OpT_assign rfl rfl rfl rfl) ?_
  refine Tops_step rfl (OpT_assign rfl rfl rfl rfl) ?_
  refine Tops_step rfl (OpT_assign rfl rfl rfl rfl) ?_
  refine Tops_nil (tZ [3, 4, 6, 8, 9, 10, 13, 16, 20] [0, 1] [] rfl rfl rfl rfl ?_)
  refine Tk_seq (Tk_drawT (by kernel_rfl) ?_)
  refine TA_tb [0, 1, 3, 7, 15, 31, 63, 127, 255, 511, 1023, 2047, 4095, 8191, 16383, 32767, 65535, 131071, 262143, 524287, 1048575, 2097151, 4194303, 8388607, 16777215, 33554431, 67108863, 134217727, 268435455, 536870911, 1073741823, 2147483647, 4294967295, 8589934591, 17179869183, 34359738367, 68719476735, 137438953471, 274877906943, 549755813887, 1099511627775, 2199023255551, 4398046511103, 8796093022207, 17592186044415, 35184372088831, 70368744177663, 140737488355327, 281474976710655, 562949953421311, 1125899906842623, 562949953421311, 2814749767106559, 7318349394477055, 18014398509481983, 36028797018963967, 72057594037927935, 144115188075855871, 288230376151711743, 576460752303423487, 1152921504606846975, 2305843009213693951, 4611686018427387903, 9223372036854775807, 18446744073709551615, 36893488147419103231, 73786976294838206463, 147573952589676412927, 295147905179352825855, 590295810358705651711, 1180591620717411303423, 2361183241434822606847, 4722366482869645213695, 9444732965739290427391, 18889465931478580854783] (by kernel_rfl) fun htb => ?_
  obtain ⟨lives1, hx9, h⟩ := ob_e h
  refine TA_exP htb (by kernel_rfl) rfl rfl (OpT_call (w_law21zlives hx9) [] [] rfl rfl rfl rfl rfl callee11 rfl rfl rfl rfl) ?_
  rintro _ ⟨_, _, _, ⟨rfl, rfl, rfl⟩, rfl⟩
  refine TA_step htb (by kernel_rfl) rfl rfl (OpT_move rfl rfl rfl rfl) ?_
  obtain ⟨hg2, h⟩ := chk_e h
  refine TA_yes htb (by kernel_rfl) rfl rfl rfl (congrArg (fun b => some (Value.bool b)) hg2) (OpT_move rfl rfl rfl rfl) ?_
  rintro _ rfl
  refine TA_yes htb (by kernel_rfl) rfl rfl rfl (congrArg (fun b => some (Value.bool b)) hg2) (OpT_bin rfl rfl rfl rfl rfl (bin_eql_i (a := bytes1.2) (b := (0 : Int)))) ?_
  rintro _ rfl
  refine TA_step htb (by kernel_rfl) rfl rfl (OpT_pickT rfl rfl rfl (congrArg (fun b => some (Value.bool b)) hg2) rfl) ?_
  refine TA_step htb (by kernel_rfl) rfl rfl (OpT_move rfl rfl rfl rfl) ?_
  obtain ⟨hg3, h⟩ := chk_e h
  refine TA_yes htb (by kernel_rfl) rfl rfl rfl (congrArg (fun b => some (Value.bool b)) hg3) (OpT_move rfl rfl rfl rfl) ?_
  rintro _ rfl
  refine TA_yes htb (by kernel_rfl) rfl rfl rfl (congrArg (fun b => some (Value.bool b)) hg3) (OpT_lenO rfl rfl rfl rfl Try.underlying26 (i := 0) rfl) ?_
  rintro _ rfl
  refine TA_yes htb (by kernel_rfl) rfl rfl rfl (congrArg (fun b => some (Value.bool b)) hg3) (OpT_bin rfl rfl rfl rfl rfl (bin_eql_i (a := len bytes1.1) (b := (32 : Int)))) ?_
  rintro _ rfl
  refine aZ [3, 6, 8, 9, 10, 13, 16, 20, 78, 81] [0, 1] [] rfl rfl rfl rfl ?_
  refine TA_step htb (by kernel_rfl) rfl rfl (OpT_pickT rfl rfl rfl (congrArg (fun b => some (Value.bool b)) hg3) rfl) ?_
  refine TA_step htb (by kernel_rfl) rfl rfl (OpT_move rfl rfl rfl rfl) ?_
  obtain ⟨hg4, h⟩ := chk_e h
  refine TA_yes htb (by kernel_rfl) rfl rfl rfl (congrArg (fun b => some (Value.bool b)) hg4) (OpT_move rfl rfl rfl rfl) ?_
  rintro _ rfl
  obtain ⟨y1, hx10, h⟩ := ob_e h
  refine TA_yes htb (by kernel_rfl) rfl rfl rfl (congrArg (fun b => some (Value.bool b)) hg4) (OpT_idxO rfl rfl rfl rfl rfl slF26 (i := 0) rfl hx10) ?_
  rintro _ rfl
  refine TA_yes htb (by kernel_rfl) rfl rfl rfl (congrArg (fun b => some (Value.bool b)) hg4) (OpT_loadO (S := u8S) rfl rfl rfl rfl rfl tyF5 (i := 0) rfl hx10 rfl rfl) ?_
  rintro _ rfl
  refine TA_yes htb (by kernel_rfl) rfl rfl rfl (congrArg (fun b => some (Value.bool b)) hg4) (OpT_bin rfl rfl rfl rfl rfl (bin_eql_u8 (a := y1) (b := (11 : UInt8)))) ?_
  rintro _ rfl
  refine TA_step htb (by kernel_rfl) rfl rfl (OpT_pickT rfl rfl rfl (congrArg (fun b => some (Value.bool b)) hg4) rfl) ?_
  refine aZ [3, 6, 8, 9, 10, 13, 16, 20, 88] [0, 1] [] rfl rfl rfl rfl ?_
  refine TA_step htb (by kernel_rfl) rfl rfl (OpT_move rfl rfl rfl rfl) ?_
  obtain ⟨hg5, h⟩ := chk_e h
  refine TA_yes htb (by kernel_rfl) rfl rfl rfl (congrArg (fun b => some (Value.bool b)) hg5) (OpT_move rfl rfl rfl rfl) ?_
  rintro _ rfl
  obtain ⟨y2, hx11, h⟩ := ob_e h
  refine TA_yes htb (by kernel_rfl) rfl rfl rfl (congrArg (fun b => some (Value.bool b)) hg5) (OpT_idxO rfl rfl rfl rfl rfl slF26 (i := 0) rfl hx11) ?_
  rintro _ rfl
  refine TA_yes htb (by kernel_rfl) rfl rfl rfl (congrArg (fun b => some (Value.bool b)) hg5) (OpT_loadO (S := u8S) rfl rfl rfl rfl rfl tyF5 (i := 0) rfl hx11 rfl rfl) ?_
  rintro _ rfl
  refine TA_yes htb (by kernel_rfl) rfl rfl rfl (congrArg (fun b => some (Value.bool b)) hg5) (OpT_bin rfl rfl rfl rfl rfl (bin_eql_u8 (a := y2) (b := (1 : UInt8)))) ?_
  rintro _ rfl
  refine TA_step htb (by kernel_rfl) rfl rfl (OpT_pickT rfl rfl rfl (congrArg (fun b => some (Value.bool b)) hg5) rfl) ?_
  refine TA_step htb (by kernel_rfl) rfl rfl (OpT_move rfl rfl rfl rfl) ?_
  obtain ⟨hg6, h⟩ := chk_e h
  refine TA_yes htb (by kernel_rfl) rfl rfl rfl (congrArg (fun b => some (Value.bool b)) hg6) (OpT_move rfl rfl rfl rfl) ?_
  rintro _ rfl
  obtain ⟨y3, hx12, h⟩ := ob_e h
  refine TA_yes htb (by kernel_rfl) rfl rfl rfl (congrArg (fun b => some (Value.bool b)) hg6) (OpT_idxO rfl rfl rfl rfl rfl slF26 (i := 0) rfl hx12) ?_
  rintro _ rfl
  refine aZ [3, 6, 8, 9, 10, 13, 16, 20, 95, 97] [0, 1] [] rfl rfl rfl rfl ?_
  refine TA_yes htb (by kernel_rfl) rfl rfl rfl (congrArg (fun b => some (Value.bool b)) hg6) (OpT_loadO (S := u8S) rfl rfl rfl rfl rfl tyF5 (i := 0) rfl hx12 rfl rfl) ?_
  rintro _ rfl
  refine TA_yes htb (by kernel_rfl) rfl rfl rfl (congrArg (fun b => some (Value.bool b)) hg6) (OpT_bin rfl rfl rfl rfl rfl (bin_eql_u8 (a := y3) (b := (2 : UInt8)))) ?_
  rintro _ rfl
  refine TA_step htb (by kernel_rfl) rfl rfl (OpT_pickT rfl rfl rfl (congrArg (fun b => some (Value.bool b)) hg6) rfl) ?_
  refine TA_step htb (by kernel_rfl) rfl rfl (OpT_move rfl rfl rfl rfl) ?_
  obtain ⟨hg7, h⟩ := chk_e h
  refine TA_yes htb (by kernel_rfl) rfl rfl rfl (congrArg (fun b => some (Value.bool b)) hg7) (OpT_move rfl rfl rfl rfl) ?_
  rintro _ rfl
  obtain ⟨y4, hx13, h⟩ := ob_e h
  refine TA_yes htb (by kernel_rfl) rfl rfl rfl (congrArg (fun b => some (Value.bool b)) hg7) (OpT_idxO rfl rfl rfl rfl rfl slF26 (i := 0) rfl hx13) ?_
  rintro _ rfl
  refine TA_yes htb (by kernel_rfl) rfl rfl rfl (congrArg (fun b => some (Value.bool b)) hg7) (OpT_loadO (S := u8S) rfl rfl rfl rfl rfl tyF5 (i := 0) rfl hx13 rfl rfl) ?_
  rintro _ rfl
  refine TA_yes htb (by kernel_rfl) rfl rfl rfl (congrArg (fun b => some (Value.bool b)) hg7) (OpT_bin rfl rfl rfl rfl rfl (bin_eql_u8 (a := y4) (b := (3 : UInt8)))) ?_
  rintro _ rfl
  refine aZ [3, 6, 8, 9, 10, 13, 16, 20, 101, 105] [0, 1] [] rfl rfl rfl rfl ?_
  refine TA_step htb (by kernel_rfl) rfl rfl (OpT_pickT rfl rfl rfl (congrArg (fun b => some (Value.bool b)) hg7) rfl) ?_
  refine TA_step htb (by kernel_rfl) rfl rfl (OpT_move rfl rfl rfl rfl) ?_
  obtain ⟨hg8, h⟩ := chk_e h
  refine TA_yes htb (by kernel_rfl) rfl rfl rfl (congrArg (fun b => some (Value.bool b)) hg8) (OpT_move rfl rfl rfl rfl) ?_
  rintro _ rfl
  obtain ⟨y5, hx14, h⟩ := ob_e h
  refine TA_yes htb (by kernel_rfl) rfl rfl rfl (congrArg (fun b => some (Value.bool b)) hg8) (OpT_idxO rfl rfl rfl rfl rfl slF26 (i := 0) rfl hx14) ?_
  rintro _ rfl
  refine TA_yes htb (by kernel_rfl) rfl rfl rfl (congrArg (fun b => some (Value.bool b)) hg8) (OpT_loadO (S := u8S) rfl rfl rfl rfl rfl tyF5 (i := 0) rfl hx14 rfl rfl) ?_
  rintro _ rfl
  refine TA_yes htb (by kernel_rfl) rfl rfl rfl (congrArg (fun b => some (Value.bool b)) hg8) (OpT_bin rfl rfl rfl rfl rfl (bin_eql_u8 (a := y5) (b := (1 : UInt8)))) ?_
  rintro _ rfl
  refine TA_step htb (by kernel_rfl) rfl rfl (OpT_pickT rfl rfl rfl (congrArg (fun b => some (Value.bool b)) hg8) rfl) ?_
  refine aZ [6, 8, 9, 10, 13, 16, 20, 112] [1] [] rfl rfl rfl rfl ?_
  refine TA_step htb (by kernel_rfl) rfl rfl (OpT_move rfl rfl rfl rfl) ?_
  obtain ⟨hg9, h⟩ := chk_e h
  refine TA_yes htb (by kernel_rfl) rfl rfl rfl (congrArg (fun b => some (Value.bool b)) hg9) (OpT_move rfl rfl rfl rfl) ?_
  rintro _ rfl
  refine TA_yes htb (by kernel_rfl) rfl rfl rfl (congrArg (fun b => some (Value.bool b)) hg9) (OpT_bin rfl rfl rfl rfl rfl (bin_eql_i (a := bytes2.2) (b := (2 : Int)))) ?_
  rintro _ rfl
  refine TA_step htb (by kernel_rfl) rfl rfl (OpT_pickT rfl rfl rfl (congrArg (fun b => some (Value.bool b)) hg9) rfl) ?_
  refine TA_step htb (by kernel_rfl) rfl rfl (OpT_move rfl rfl rfl rfl) ?_
  obtain ⟨hg10, h⟩ := chk_e h
  refine TA_yes htb (by kernel_rfl) rfl rfl rfl (congrArg (fun b => some (Value.bool b)) hg10) (OpT_move rfl rfl rfl rfl) ?_
  rintro _ rfl
  refine TA_yes htb (by kernel_rfl) rfl rfl rfl (congrArg (fun b => some (Value.bool b)) hg10) (OpT_bin rfl rfl rfl rfl rfl (bin_eql_i (a := read1.2) (b := (2 : Int)))) ?_
  rintro _ rfl
  refine aZ [9, 10, 13, 16, 20, 117, 119] [0] [] rfl rfl rfl rfl ?_
  refine TA_step htb (by kernel_rfl) rfl rfl (OpT_pickT rfl rfl rfl (congrArg (fun b => some (Value.bool b)) hg10) rfl) ?_
  refine TA_step htb (by kernel_rfl) rfl rfl (OpT_move rfl rfl rfl rfl) ?_
  refine aZ [9, 10, 13, 16, 20, 121] [0] [] rfl rfl rfl rfl ?_
  refine TA_retire (i := 0) rfl ?_
  obtain ⟨hg11, h⟩ := chk_e h
  obtain ⟨hc2, h⟩ := chk_e h
  obtain ⟨hc3, h⟩ := chk_e h
  refine TA_seg (lo := 49) (hi := 54) htb rfl rfl (by kernel_rfl) (fun c L a w => ∃ (v16 : Value), Sat c ⟨[(9, some (v9)), (10, some (vU8 apply1.2.1)), (13, some (vU8 apply2.2.1)), (16, some (vU8 apply3.2.1)), (20, some (vI apply4.2.2)), (121, some (vB (read1.2 == (2 : Int)))), (122, bif L 49 then some (v9) else none), (123, bif L 50 then some (vS apply1.1) else none), (124, bif L 51 then some (v16) else none), (125, bif L 52 then some (vS (List.replicate (16 : Int).toNat (0 : UInt8))) else none), (126, bif L 53 then some (vS (([110, 97, 109, 101] : List UInt8) ++ (List.replicate (16 : Int).toNat (0 : UInt8)))) else none)], [(none : Option Res), (none : Option Res)], [Fact.sl u8S v9 apply1.1, (bif L 51 then Fact.sl u8S v16 (List.replicate (16 : Int).toNat (0 : UInt8)) else Fact.tt)]⟩ a w) [([], [50]), ([49], []), ([], [52, 53]), ([51], [53]), ([51, 52], [])] rfl (by kernel_rfl) ?_ (steps_cons ?_ (steps_cons ?_ (steps_cons ?_ (steps_cons ?_ (steps_cons ?_ (steps_nil)))))) ?_
  ·intro a w hs
   exact ⟨undef, hs.startF [122, 123, 124, 125, 126] [0, 1] [0, 1] rfl rfl rfl rfl⟩
  ·intro L a w hv K Q hK
   obtain ⟨v16, hs⟩ := hv
   refine wpOp_yes rfl rfl rfl hs (congrArg (fun b => some (Value.bool b)) hg11) (OpT_move rfl rfl rfl rfl) ?_
   rintro _ rfl a' w' hs'
   exact hK a' w' ⟨v16, hs'.putF (i := 6) rfl [0, 1] [0, 1] rfl rfl rfl rfl⟩
  ·intro L a w hv K Q hK
   obtain ⟨v16, hs⟩ := hv
   refine wpOp_yes rfl rfl rfl hs (congrArg (fun b => some (Value.bool b)) hg11) (OpT_strS rfl rfl rfl rfl Try.underlying26 Try.underlying5 Try.underlying9 (i := 0) rfl) ?_
   rintro _ rfl a' w' hs'
   exact hK a' w' ⟨v16, hs'.putF (i := 7) rfl [0, 1] [0, 1] rfl rfl rfl rfl⟩
  ·intro L a w hv K Q hK
   obtain ⟨v16, hs⟩ := hv
   refine wpOp_yes rfl rfl rfl hs (congrArg (fun b => some (Value.bool b)) hg11) (OpT_makeD u8S rfl (u := (0 : UInt8)) rfl rfl rfl rfl rfl slF26 rfl hc2) ?_
   rintro _ ⟨v16', rfl⟩ a' w' hs'
   replace hs' := hs'.ret (i := 2) rfl
   exact hK a' w' ⟨v16', hs'.putF (i := 8) rfl [0, 2] [0, 2] rfl rfl rfl rfl⟩
  ·intro L a w hv K Q hK
   obtain ⟨v16, hs⟩ := hv
   refine wpOp_yes rfl rfl rfl hs (congrArg (fun b => some (Value.bool b)) hg11) (OpT_strS rfl rfl rfl rfl Try.underlying26 Try.underlying5 Try.underlying9 (i := 1) rfl) ?_
   rintro _ rfl a' w' hs'
   exact hK a' w' ⟨v16, hs'.putF (i := 9) rfl [0, 1] [0, 1] rfl rfl rfl rfl⟩
  ·intro L a w hv K Q hK
   obtain ⟨v16, hs⟩ := hv
   refine wpOp_yes rfl rfl rfl hs (congrArg (fun b => some (Value.bool b)) hg11) (OpT_bin rfl rfl rfl rfl rfl (bin_add_s (a := ([110, 97, 109, 101] : List UInt8)) (b := List.replicate (16 : Int).toNat (0 : UInt8)) hc3)) ?_
   rintro _ rfl a' w' hs'
   exact hK a' w' ⟨v16, hs'.putF (i := 10) rfl [0, 1] [0, 1] rfl rfl rfl rfl⟩
  ·intro L a w hL hv
   rw [allTrue hL] at hv
   obtain ⟨v16, hs⟩ := hv
   refine gZ hs [10, 13, 16, 20, 121, 123, 126] [] [] rfl rfl rfl rfl ?_
   clear hs hL
   refine TA_yes htb (by kernel_rfl) rfl rfl rfl (congrArg (fun b => some (Value.bool b)) hg11) (OpT_bin rfl rfl rfl rfl rfl (bin_eql_s (a := apply1.1) (b := ([110, 97, 109, 101] : List UInt8) ++ (List.replicate (16 : Int).toNat (0 : UInt8))))) ?_
   rintro _ rfl
   refine TA_step htb (by kernel_rfl) rfl rfl (OpT_pickT rfl rfl rfl (congrArg (fun b => some (Value.bool b)) hg11) rfl) ?_
   refine TA_step htb (by kernel_rfl) rfl rfl (OpT_move rfl rfl rfl rfl) ?_
   obtain ⟨hg12, h⟩ := chk_e h
   refine TA_yes htb (by kernel_rfl) rfl rfl rfl (congrArg (fun b => some (Value.bool b)) hg12) (OpT_move rfl rfl rfl rfl) ?_
   rintro _ rfl
   refine TA_yes htb (by kernel_rfl) rfl rfl rfl (congrArg (fun b => some (Value.bool b)) hg12) (OpT_bin rfl rfl rfl rfl rfl (bin_eql_u8 (a := apply1.2.1) (b := (0 : UInt8)))) ?_
   rintro _ rfl
   refine TA_step htb (by kernel_rfl) rfl rfl (OpT_pickT rfl rfl rfl (congrArg (fun b => some (Value.bool b)) hg12) rfl) ?_
   refine aZ [13, 16, 20, 132] [] [] rfl rfl rfl rfl ?_
   refine TA_step htb (by kernel_rfl) rfl rfl (OpT_move rfl rfl rfl rfl) ?_
   obtain ⟨hg13, h⟩ := chk_e h
   refine TA_yes htb (by kernel_rfl) rfl rfl rfl (congrArg (fun b => some (Value.bool b)) hg13) (OpT_move rfl rfl rfl rfl) ?_
   rintro _ rfl
   refine TA_yes htb (by kernel_rfl) rfl rfl rfl (congrArg (fun b => some (Value.bool b)) hg13) (OpT_bin rfl rfl rfl rfl rfl (bin_eql_u8 (a := apply2.2.1) (b := (2 : UInt8)))) ?_
   rintro _ rfl
   refine TA_step htb (by kernel_rfl) rfl rfl (OpT_pickT rfl rfl rfl (congrArg (fun b => some (Value.bool b)) hg13) rfl) ?_
   refine TA_step htb (by kernel_rfl) rfl rfl (OpT_move rfl rfl rfl rfl) ?_
   obtain ⟨hg14, h⟩ := chk_e h
   refine TA_yes htb (by kernel_rfl) rfl rfl rfl (congrArg (fun b => some (Value.bool b)) hg14) (OpT_move rfl rfl rfl rfl) ?_
   rintro _ rfl
   refine TA_yes htb (by kernel_rfl) rfl rfl rfl (congrArg (fun b => some (Value.bool b)) hg14) (OpT_bin rfl rfl rfl rfl rfl (bin_eql_u8 (a := apply3.2.1) (b := (1 : UInt8)))) ?_
   rintro _ rfl
   refine aZ [20, 137, 139] [] [] rfl rfl rfl rfl ?_
   refine TA_step htb (by kernel_rfl) rfl rfl (OpT_pickT rfl rfl rfl (congrArg (fun b => some (Value.bool b)) hg14) rfl) ?_
   refine TA_step htb (by kernel_rfl) rfl rfl (OpT_move rfl rfl rfl rfl) ?_
   obtain ⟨hg15, h⟩ := chk_e h
   refine TA_yes htb (by kernel_rfl) rfl rfl rfl (congrArg (fun b => some (Value.bool b)) hg15) (OpT_move rfl rfl rfl rfl) ?_
   rintro _ rfl
   refine TA_yes htb (by kernel_rfl) rfl rfl rfl (congrArg (fun b => some (Value.bool b)) hg15) (OpT_bin rfl rfl rfl rfl rfl (bin_eql_i (a := apply4.2.2) (b := (1 : Int)))) ?_
   rintro _ rfl
   refine TA_step htb (by kernel_rfl) rfl rfl (OpT_pickT rfl rfl rfl (congrArg (fun b => some (Value.bool b)) hg15) rfl) ?_
   refine TA_step htb (by kernel_rfl) rfl rfl (OpT_move rfl rfl rfl rfl) ?_
   refine aZ [145] [] [] rfl rfl rfl rfl ?_
   obtain ⟨hg16, h⟩ := chk_e h
   refine TA_step htb (by kernel_rfl) rfl rfl (OpT_pickT rfl rfl rfl (congrArg (fun b => some (Value.bool b)) hg16) rfl) ?_
   refine TA_step htb (by kernel_rfl) rfl rfl (OpT_assign rfl rfl rfl rfl) ?_
   refine TA_end rfl ?_
   refine tZ [0] [] [] rfl rfl rfl rfl ?_
   exact Tk_retV rfl rfl (resA (vs := [.bool true]) rfl ⟨rfl, trivial⟩) [] [] rfl rfl rfl ⟨rfl, rfl, rfl⟩
end Go.Proofs.Ytjfdamiilndgeaa
