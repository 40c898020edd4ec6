/- The law BlkdrvNames is walked: it returns what its plain words say. No condition. -/
import Derived.Test.YtkmjpgfbcklopaaWa5
namespace Go.Proofs.Ytkmjpgfbcklopaa
attribute [local irreducible] sub

set_option maxRecDepth 100000 in
set_option maxHeartbeats 4000000 in
theorem w_law22zBlkdrvNames   (h : law22zBlkdrvNames = some true) :
  Ctr Try.prog 5 #[] [] []
   (fun rv own shr => rv = .bool true ∧ own = [] ∧ shr = []) := by
 unfold law22zBlkdrvNames at h
 refine Ctr.mk (args := []) Try.func5 rfl rfl (fun R0 w0 B => ?_)
 refine Tk_seq (Tk_region (Tops_step rfl (OpT_assign rfl rfl rfl rfl) ?_))
 refine Tops_nil (Tk_wkS (fr' := []) (own' := []) (shr' := []) [] [] [] rfl rfl rfl rfl ?_)
 refine Tk_seq (Tk_region (Tops_step rfl (OpT_build (v := .agg #[vU64 (0 : UInt64), vU64 (4096 : UInt64)]) rfl rfl rfl rfl (bldV (by kernel_rfl))) ?_))
 refine Tops_ex rfl (OpT_buildSlice (S := RegionS) (xs := [(Region.mk (0 : UInt64) (4096 : UInt64))]) (css := [[vU64 (0 : UInt64), vU64 (4096 : UInt64)]]) (cs := [vU64 (0 : UInt64), vU64 (4096 : UInt64)]) (e := 57) rfl rfl rfl rfl (bldF slF45 (by decide) (by kernel_rfl)) rfl rfl rfl rfl (rel_plainD (S := RegionS) (xs := [(Region.mk (0 : UInt64) (4096 : UInt64))]) (css := [[vU64 (0 : UInt64), vU64 (4096 : UInt64)]]) rfl rfl)) fun v1 => ?_
 refine Tops_retire (i := 0) rfl ?_
 obtain ⟨new1, hx1, h⟩ := ob_e h
 refine Tops_exP rfl (OpT_call (w_gmem_New hx1) [] [0] rfl rfl rfl rfl rfl callee15 rfl rfl rfl rfl) ?_
 rintro _ ⟨_, _, _, ⟨v2, rfl, rfl, rfl⟩, rfl⟩
 refine Tops_step rfl (OpT_move rfl rfl rfl rfl) ?_
 refine Tops_step rfl (OpT_extract rfl rfl rfl rfl rfl) ?_
 refine Tops_step rfl (OpT_extract rfl rfl rfl rfl rfl) ?_
 refine Tops_step rfl (OpT_assign rfl rfl rfl rfl) ?_
 refine Tops_step rfl (OpT_assign rfl rfl rfl rfl) ?_
 refine Tops_nil (Tk_wkS (fr' := [(1, some (v2)), (2, some (vI new1.2))]) (own' := [some (optR 83 RegionS u8S true gmem_Mem.l gmem_Mem.b v2 new1.1)]) (shr' := []) [1, 2] [1] [] rfl rfl rfl rfl ?_)
 rcases onO_cases h with ⟨ho1, h⟩ | ⟨mem1, ho1, h⟩
 ·cases h
 ·refine Tk_optS (i := 0) rfl ho1 ?_
  rintro b1 v3 v4 vs1 rfl
  refine Tk_seq (Tk_seq (Tk_region (Tops_step rfl (OpT_move rfl rfl rfl rfl) ?_)))
  refine Tops_step rfl (OpT_bin rfl rfl rfl rfl rfl (bin_neq_i (a := new1.2) (b := (0 : Int)))) ?_
  refine Tops_nil (Tk_wkS (fr' := [(1, some (.pointer (some ⟨b1, 0, none⟩))), (25, some (vB (new1.2 != (0 : Int))))]) (own' := [some (cellsR b1 83 [v3, v4]), some (rowsX u8S true v4 vs1 mem1.b none)]) (shr' := [Fact.sl RegionS v3 mem1.l]) [1, 25] [0, 1] [0] rfl rfl rfl rfl ?_)
  obtain ⟨hg1, h⟩ := chk_e h
  replace hg1 := not_t hg1
  refine Tk_condF (congrArg (fun b => some (Value.bool b)) hg1) ?_
  refine Tk_skip (Tk_seq (Tk_region (Tops_step rfl (OpT_move rfl rfl rfl rfl) ?_)))
  refine Tops_step rfl (OpT_build (v := .agg #[vU32 (0 : UInt32), vU64 (0 : UInt64), .slice none 0 0, vI (512 : Int), .slice none 0 0]) rfl rfl rfl rfl (bldV (by kernel_rfl))) ?_
  refine Tops_nilfact u8S ?_
  refine Tops_nilfact RangeS ?_
  refine Tops_nilfact iS ?_
  obtain ⟨lay1, hx2, h⟩ := ob_e h
  refine Tops_exP rfl (OpT_callP [2, 3, 4] (w_blkdrv_Lay hx2) [0, 1] [0, 1, 2, 3] rfl rfl rfl rfl rfl callee19 rfl rfl rfl rfl rfl) ?_
  rintro _ ⟨_, _, _, ⟨v5, rfl, rfl, rfl⟩, rfl⟩
  refine Tops_step rfl (OpT_move rfl rfl rfl rfl) ?_
  refine Tops_step rfl (OpT_extract rfl rfl rfl rfl rfl) ?_
  refine Tops_step rfl (OpT_extract rfl rfl rfl rfl rfl) ?_
  refine Tops_step rfl (OpT_assign rfl rfl rfl rfl) ?_
  refine Tops_step rfl (OpT_assign rfl rfl rfl rfl) ?_
  refine Tops_nil (Tk_wkS (fr' := [(1, some (.pointer (some ⟨b1, 0, none⟩))), (4, some (vI lay1.2.1))]) (own' := [some (cellsR b1 83 [v3, v4]), some (rowsX u8S true v4 vs1 lay1.2.2 none)]) (shr' := [Fact.sl RegionS v3 mem1.l]) [1, 4] [0, 1] [0] rfl rfl rfl rfl ?_)
  refine Tk_seq (Tk_region (Tops_step rfl (OpT_build (v := .agg #[vU32 (0 : UInt32), vU64 (0 : UInt64), .slice none 0 0, vI ((-1) : Int), .slice none 0 0]) rfl rfl rfl rfl (bldV (by kernel_rfl))) ?_))
  refine Tops_nilfact u8S ?_
  refine Tops_nilfact RangeS ?_
  obtain ⟨size1, hx3, h⟩ := ob_e h
  refine Tops_exP rfl (OpT_call (w_blkdrv_Size hx3) [] [1, 2] rfl rfl rfl rfl rfl callee14 rfl rfl rfl rfl) ?_
  rintro _ ⟨_, _, _, ⟨rfl, rfl, rfl⟩, rfl⟩
  refine Tops_step rfl (OpT_move rfl rfl rfl rfl) ?_
  refine Tops_step rfl (OpT_extract rfl rfl rfl rfl rfl) ?_
  refine Tops_step rfl (OpT_extract rfl rfl rfl rfl rfl) ?_
  refine Tops_step rfl (OpT_assign rfl rfl rfl rfl) ?_
  refine Tops_step rfl (OpT_assign rfl rfl rfl rfl) ?_
  refine Tops_nil (Tk_wkS (fr' := [(1, some (.pointer (some ⟨b1, 0, none⟩))), (4, some (vI lay1.2.1)), (6, some (vI size1.2))]) (own' := [some (cellsR b1 83 [v3, v4]), some (rowsX u8S true v4 vs1 lay1.2.2 none)]) (shr' := [Fact.sl RegionS v3 mem1.l]) [1, 4, 6] [0, 1] [0] rfl rfl rfl rfl ?_)
  refine Tk_seq (Tk_region (Tops_step rfl (OpT_build (v := .agg #[vU32 (0 : UInt32), vU64 (0 : UInt64), .slice none 0 0, vI (0 : Int), .slice none 0 0]) rfl rfl rfl rfl (bldV (by kernel_rfl))) ?_))
  refine Tops_nilfact u8S ?_
  refine Tops_nilfact RangeS ?_
  refine Tops_nilfact iS ?_
  obtain ⟨lay2, hx4, h⟩ := ob_e h
  refine Tops_exP rfl (OpT_call (w_blkdrv_Layn0 hx4) [] [1, 2, 3] rfl rfl rfl rfl rfl callee19 rfl rfl rfl rfl) ?_
  rintro _ ⟨_, _, _, ⟨v6, rfl, rfl, rfl⟩, rfl⟩
  refine Tops_step rfl (OpT_move rfl rfl rfl rfl) ?_
  refine Tops_step rfl (OpT_extract rfl rfl rfl rfl rfl) ?_
  refine Tops_step rfl (OpT_extract rfl rfl rfl rfl rfl) ?_
  refine Tops_step rfl (OpT_assign rfl rfl rfl rfl) ?_
  refine Tops_step rfl (OpT_assign rfl rfl rfl rfl) ?_
  refine Tops_nil (Tk_wkS (fr' := [(1, some (.pointer (some ⟨b1, 0, none⟩))), (4, some (vI lay1.2.1)), (6, some (vI size1.2)), (8, some (vI lay2.2))]) (own' := [some (cellsR b1 83 [v3, v4]), some (rowsX u8S true v4 vs1 lay1.2.2 none)]) (shr' := [Fact.sl RegionS v3 mem1.l]) [1, 4, 6, 8] [0, 1] [0] rfl rfl rfl rfl ?_)
  refine Tk_seq (Tk_region (Tops_step rfl (OpT_move rfl rfl rfl rfl) ?_))
  refine Tops_step rfl (OpT_build (v := .agg #[vU64 (0 : UInt64), vU32 (5 : UInt32), vB false]) rfl rfl rfl rfl (bldV (by kernel_rfl))) ?_
  refine Tops_ex rfl (OpT_buildSlice (S := SegS) (xs := [(Seg.mk (0 : UInt64) (5 : UInt32) false)]) (css := [[vU64 (0 : UInt64), vU32 (5 : UInt32), vB false]]) (cs := [vU64 (0 : UInt64), vU32 (5 : UInt32), vB false]) (e := 32) rfl rfl rfl rfl (bldF slF22 (by decide) (by kernel_rfl)) rfl rfl rfl rfl (rel_plainD (S := SegS) (xs := [(Seg.mk (0 : UInt64) (5 : UInt32) false)]) (css := [[vU64 (0 : UInt64), vU32 (5 : UInt32), vB false]]) rfl rfl)) fun v7 => ?_
  refine Tops_retire (i := 2) rfl ?_
  obtain ⟨result1, hx5, h⟩ := ob_e h
  refine Tops_exP rfl (OpT_callP [3, 4, 2] (w_blkdrv_Result hx5) [0, 1] [0, 1] rfl rfl rfl rfl rfl callee23 rfl rfl rfl rfl rfl) ?_
  rintro _ ⟨_, _, _, ⟨v8, rfl, rfl, rfl⟩, rfl⟩
  refine Tops_step rfl (OpT_move rfl rfl rfl rfl) ?_
  refine Tops_step rfl (OpT_extract rfl rfl rfl rfl rfl) ?_
  refine Tops_step rfl (OpT_extract rfl rfl rfl rfl rfl) ?_
  refine Tops_step rfl (OpT_extract rfl rfl rfl rfl rfl) ?_
  refine Tops_step rfl (OpT_assign rfl rfl rfl rfl) ?_
  refine Tops_step rfl (OpT_assign rfl rfl rfl rfl) ?_
  refine Tops_step rfl (OpT_assign rfl rfl rfl rfl) ?_
  refine Tops_nil (Tk_wkS (fr' := [(1, some (.pointer (some ⟨b1, 0, none⟩))), (4, some (vI lay1.2.1)), (6, some (vI size1.2)), (8, some (vI lay2.2)), (11, some (vI result1.2.2))]) (own' := [some (cellsR b1 83 [v3, v4]), some (rowsX u8S true v4 vs1 lay1.2.2 none)]) (shr' := [Fact.sl RegionS v3 mem1.l]) [1, 4, 6, 8, 11] [0, 1] [0] rfl rfl rfl rfl ?_)
  refine Tk_seq (Tk_region (Tops_step rfl (OpT_move rfl rfl rfl rfl) ?_))
  refine Tops_step rfl (OpT_build (v := .agg #[vU64 (0 : UInt64), vU32 (5 : UInt32), vB true]) rfl rfl rfl rfl (bldV (by kernel_rfl))) ?_
  refine Tops_ex rfl (OpT_buildSlice (S := SegS) (xs := [(Seg.mk (0 : UInt64) (5 : UInt32) true)]) (css := [[vU64 (0 : UInt64), vU32 (5 : UInt32), vB true]]) (cs := [vU64 (0 : UInt64), vU32 (5 : UInt32), vB true]) (e := 32) rfl rfl rfl rfl (bldF slF22 (by decide) (by kernel_rfl)) rfl rfl rfl rfl (rel_plainD (S := SegS) (xs := [(Seg.mk (0 : UInt64) (5 : UInt32) true)]) (css := [[vU64 (0 : UInt64), vU32 (5 : UInt32), vB true]]) rfl rfl)) fun v9 => ?_
  refine Tops_retire (i := 2) rfl ?_
  obtain ⟨result2, hx6, h⟩ := ob_e h
  refine Tops_exP rfl (OpT_callP [3, 4, 2] (w_blkdrv_Result hx6) [0, 1] [0, 1] rfl rfl rfl rfl rfl callee23 rfl rfl rfl rfl rfl) ?_
  rintro _ ⟨_, _, _, ⟨v10, rfl, rfl, rfl⟩, rfl⟩
  refine Tops_step rfl (OpT_move rfl rfl rfl rfl) ?_
  refine Tops_step rfl (OpT_extract rfl rfl rfl rfl rfl) ?_
  refine Tops_step rfl (OpT_extract rfl rfl rfl rfl rfl) ?_
  refine Tops_step rfl (OpT_extract rfl rfl rfl rfl rfl) ?_
  refine Tops_step rfl (OpT_assign rfl rfl rfl rfl) ?_
  refine Tops_step rfl (OpT_assign rfl rfl rfl rfl) ?_
  refine Tops_step rfl (OpT_assign rfl rfl rfl rfl) ?_
  refine Tops_nil (Tk_wkS (fr' := [(1, some (.pointer (some ⟨b1, 0, none⟩))), (4, some (vI lay1.2.1)), (6, some (vI size1.2)), (8, some (vI lay2.2)), (11, some (vI result1.2.2)), (14, some (vI result2.2.2))]) (own' := [some (cellsR b1 83 [v3, v4]), some (rowsX u8S true v4 vs1 lay1.2.2 none)]) (shr' := [Fact.sl RegionS v3 mem1.l]) [1, 4, 6, 8, 11, 14] [0, 1] [0] rfl rfl rfl rfl ?_)
  refine Tk_seq (Tk_region (Tops_step rfl (OpT_move rfl rfl rfl rfl) ?_))
  refine Tops_step rfl (OpT_build (v := .agg #[vU64 (0 : UInt64), vU32 (5 : UInt32), vB true]) rfl rfl rfl rfl (bldV (by kernel_rfl))) ?_
  refine Tops_ex rfl (OpT_buildSlice (S := SegS) (xs := [(Seg.mk (0 : UInt64) (5 : UInt32) true)]) (css := [[vU64 (0 : UInt64), vU32 (5 : UInt32), vB true]]) (cs := [vU64 (0 : UInt64), vU32 (5 : UInt32), vB true]) (e := 32) rfl rfl rfl rfl (bldF slF22 (by decide) (by kernel_rfl)) rfl rfl rfl rfl (rel_plainD (S := SegS) (xs := [(Seg.mk (0 : UInt64) (5 : UInt32) true)]) (css := [[vU64 (0 : UInt64), vU32 (5 : UInt32), vB true]]) rfl rfl)) fun v11 => ?_
  refine Tops_retire (i := 2) rfl ?_
  obtain ⟨result3, hx7, h⟩ := ob_e h
  refine Tops_exP rfl (OpT_callP [3, 4, 2] (w_blkdrv_Result hx7) [0, 1] [0, 1] rfl rfl rfl rfl rfl callee23 rfl rfl rfl rfl rfl) ?_
  rintro _ ⟨_, _, _, ⟨v12, rfl, rfl, rfl⟩, rfl⟩
  refine Tops_step rfl (OpT_move rfl rfl rfl rfl) ?_
  refine Tops_step rfl (OpT_extract rfl rfl rfl rfl rfl) ?_
  refine Tops_step rfl (OpT_extract rfl rfl rfl rfl rfl) ?_
  refine Tops_step rfl (OpT_extract rfl rfl rfl rfl rfl) ?_
  refine Tops_step rfl (OpT_assign rfl rfl rfl rfl) ?_
  refine Tops_step rfl (OpT_assign rfl rfl rfl rfl) ?_
  refine Tops_step rfl (OpT_assign rfl rfl rfl rfl) ?_
  refine Tops_nil (Tk_wkS (fr' := [(4, some (vI lay1.2.1)), (6, some (vI size1.2)), (8, some (vI lay2.2)), (11, some (vI result1.2.2)), (14, some (vI result2.2.2)), (15, some (v12)), (16, some (vU8 result3.2.1)), (17, some (vI result3.2.2))]) (own' := []) (shr' := [Fact.sl u8S v12 result3.1]) [4, 6, 8, 11, 14, 15, 16, 17] [] [2] rfl rfl rfl rfl ?_)
  refine Tk_seq (Tk_region ?_)
  obtain ⟨lives1, hx8, h⟩ := ob_e h
  refine Tops_exP rfl (OpT_call (w_law22zlives hx8) [] [] rfl rfl rfl rfl rfl callee8 rfl rfl rfl rfl) ?_
  rintro _ ⟨_, _, _, ⟨rfl, rfl, rfl⟩, rfl⟩
  refine Tops_step rfl (OpT_move rfl rfl rfl rfl) ?_
  obtain ⟨hg2, h⟩ := chk_e h
  refine Tops_yes rfl rfl (congrArg (fun b => some (Value.bool b)) hg2) (OpT_move rfl rfl rfl rfl) ?_
  rintro _ rfl
  refine Tops_yes rfl rfl (congrArg (fun b => some (Value.bool b)) hg2) (OpT_bin rfl rfl rfl rfl rfl (bin_eql_i (a := lay1.2.1) (b := (5 : Int)))) ?_
  rintro _ rfl
  refine Tops_step rfl (OpT_pickT rfl rfl rfl (congrArg (fun b => some (Value.bool b)) hg2) rfl) ?_
  refine Tops_step rfl (OpT_move rfl rfl rfl rfl) ?_
  obtain ⟨hg3, h⟩ := chk_e h
  refine Tops_yes rfl rfl (congrArg (fun b => some (Value.bool b)) hg3) (OpT_move rfl rfl rfl rfl) ?_
  rintro _ rfl
  refine Tops_yes rfl rfl (congrArg (fun b => some (Value.bool b)) hg3) (OpT_bin rfl rfl rfl rfl rfl (bin_eql_i (a := size1.2) (b := (2 : Int)))) ?_
  rintro _ rfl
  refine Tops_step rfl (OpT_pickT rfl rfl rfl (congrArg (fun b => some (Value.bool b)) hg3) rfl) ?_
  refine Tops_step rfl (OpT_move rfl rfl rfl rfl) ?_
  obtain ⟨hg4, h⟩ := chk_e h
  refine Tops_yes rfl rfl (congrArg (fun b => some (Value.bool b)) hg4) (OpT_move rfl rfl rfl rfl) ?_
  rintro _ rfl
  refine Tops_yes rfl rfl (congrArg (fun b => some (Value.bool b)) hg4) (OpT_bin rfl rfl rfl rfl rfl (bin_eql_i (a := lay2.2) (b := (1 : Int)))) ?_
  rintro _ rfl
  refine Tops_step rfl (OpT_pickT rfl rfl rfl (congrArg (fun b => some (Value.bool b)) hg4) rfl) ?_
  refine Tops_step rfl (OpT_move rfl rfl rfl rfl) ?_
  obtain ⟨hg5, h⟩ := chk_e h
  refine Tops_yes rfl rfl (congrArg (fun b => some (Value.bool b)) hg5) (OpT_move rfl rfl rfl rfl) ?_
  rintro _ rfl
  refine Tops_yes rfl rfl (congrArg (fun b => some (Value.bool b)) hg5) (OpT_bin rfl rfl rfl rfl rfl (bin_eql_i (a := result1.2.2) (b := (2 : Int)))) ?_
  rintro _ rfl
  refine Tops_step rfl (OpT_pickT rfl rfl rfl (congrArg (fun b => some (Value.bool b)) hg5) rfl) ?_
  refine Tops_step rfl (OpT_move rfl rfl rfl rfl) ?_
  obtain ⟨hg6, h⟩ := chk_e h
  refine Tops_yes rfl rfl (congrArg (fun b => some (Value.bool b)) hg6) (OpT_move rfl rfl rfl rfl) ?_
  rintro _ rfl
  refine Tops_yes rfl rfl (congrArg (fun b => some (Value.bool b)) hg6) (OpT_bin rfl rfl rfl rfl rfl (bin_eql_i (a := result2.2.2) (b := (4 : Int)))) ?_
  rintro _ rfl
  refine Tops_step rfl (OpT_pickT rfl rfl rfl (congrArg (fun b => some (Value.bool b)) hg6) rfl) ?_
  refine Tops_step rfl (OpT_move rfl rfl rfl rfl) ?_
  obtain ⟨hg7, h⟩ := chk_e h
  refine Tops_yes rfl rfl (congrArg (fun b => some (Value.bool b)) hg7) (OpT_move rfl rfl rfl rfl) ?_
  rintro _ rfl
  refine Tops_yes rfl rfl (congrArg (fun b => some (Value.bool b)) hg7) (OpT_lenS rfl rfl rfl rfl Try.underlying35 (i := 0) rfl) ?_
  rintro _ rfl
  refine Tops_yes rfl rfl (congrArg (fun b => some (Value.bool b)) hg7) (OpT_bin rfl rfl rfl rfl rfl (bin_eql_i (a := len result3.1) (b := (2 : Int)))) ?_
  rintro _ rfl
  refine Tops_step rfl (OpT_pickT rfl rfl rfl (congrArg (fun b => some (Value.bool b)) hg7) rfl) ?_
  refine Tops_step rfl (OpT_move rfl rfl rfl rfl) ?_
  obtain ⟨hg8, h⟩ := chk_e h
  refine Tops_yes rfl rfl (congrArg (fun b => some (Value.bool b)) hg8) (OpT_move rfl rfl rfl rfl) ?_
  rintro _ rfl
  refine Tops_yes rfl rfl (congrArg (fun b => some (Value.bool b)) hg8) (OpT_bin rfl rfl rfl rfl rfl (bin_eql_u8 (a := result3.2.1) (b := (0 : UInt8)))) ?_
  rintro _ rfl
  refine Tops_step rfl (OpT_pickT rfl rfl rfl (congrArg (fun b => some (Value.bool b)) hg8) rfl) ?_
  refine Tops_step rfl (OpT_move rfl rfl rfl rfl) ?_
  obtain ⟨hg9, h⟩ := chk_e h
  refine Tops_yes rfl rfl (congrArg (fun b => some (Value.bool b)) hg9) (OpT_move rfl rfl rfl rfl) ?_
  rintro _ rfl
  refine Tops_yes rfl rfl (congrArg (fun b => some (Value.bool b)) hg9) (OpT_bin rfl rfl rfl rfl rfl (bin_eql_i (a := result3.2.2) (b := (0 : Int)))) ?_
  rintro _ rfl
  refine Tops_step rfl (OpT_pickT rfl rfl rfl (congrArg (fun b => some (Value.bool b)) hg9) rfl) ?_
  refine Tops_step rfl (OpT_move rfl rfl rfl rfl) ?_
  obtain ⟨hg10, h⟩ := chk_e h
  refine Tops_nilfact u8S ?_
  obtain ⟨capaci1, hx9, h⟩ := ob_e h
  refine Tops_yes rfl rfl (congrArg (fun b => some (Value.bool b)) hg10) (OpT_call (w_blkdrv_Capacity hx9) [] [1] rfl rfl rfl rfl rfl callee24 rfl rfl rfl rfl) ?_
  rintro _ ⟨_, _, _, ⟨rfl, rfl, rfl⟩, rfl⟩
  refine Tops_yes rfl rfl (congrArg (fun b => some (Value.bool b)) hg10) (OpT_bin rfl rfl rfl rfl rfl (bin_eql_u64 (a := capaci1) (b := (0 : UInt64)))) ?_
  rintro _ rfl
  refine Tops_step rfl (OpT_pickT rfl rfl rfl (congrArg (fun b => some (Value.bool b)) hg10) rfl) ?_
  refine Tops_step rfl (OpT_move rfl rfl rfl rfl) ?_
  obtain ⟨hg11, h⟩ := chk_e h
  obtain ⟨config1, hx10, h⟩ := ob_e h
  refine Tops_yes rfl rfl (congrArg (fun b => some (Value.bool b)) hg11) (OpT_call (w_blkdrv_Config hx10) [] [] rfl rfl rfl rfl rfl callee25 rfl rfl rfl rfl) ?_
  rintro _ ⟨v13, _, _, ⟨_, rfl, rfl, rfl⟩, rfl⟩
  refine Tops_yes rfl rfl (congrArg (fun b => some (Value.bool b)) hg11) (OpT_lenO rfl rfl rfl rfl Try.underlying35 (i := 0) rfl) ?_
  rintro _ rfl
  refine Tops_yes rfl rfl (congrArg (fun b => some (Value.bool b)) hg11) (OpT_bin rfl rfl rfl rfl rfl (bin_eql_i (a := len config1) (b := (8 : Int)))) ?_
  rintro _ rfl
  refine Tops_step rfl (OpT_pickT rfl rfl rfl (congrArg (fun b => some (Value.bool b)) hg11) rfl) ?_
  refine Tops_step rfl (OpT_move rfl rfl rfl rfl) ?_
  obtain ⟨hg12, h⟩ := chk_e h
  refine Tops_yes rfl rfl (congrArg (fun b => some (Value.bool b)) hg12) (OpT_buildSlice (S := iS) (xs := [(1 : Int)]) (css := [[vI (1 : Int)]]) (cs := [vI (1 : Int)]) (e := 3) rfl rfl rfl rfl (bldF slF23 (by decide) (by kernel_rfl)) rfl rfl rfl rfl (rel_plainD (S := iS) (xs := [(1 : Int)]) (css := [[vI (1 : Int)]]) rfl rfl)) ?_
  rintro _ ⟨v14, rfl⟩
  refine Tops_nilfact SegS ?_
  obtain ⟨cut1, hx11, h⟩ := ob_e h
  refine Tops_yes rfl rfl (congrArg (fun b => some (Value.bool b)) hg12) (OpT_callB [1] [0, 1, 2] (w_blkdrv_Cut hx11) [] rfl rfl rfl rfl rfl callee9 rfl rfl rfl rfl rfl rfl (bor_cons (bor_shr 2 rfl) (bor_cons (bor_row 1 rfl rfl) bor_nil)) (by rintro _ _ _ ⟨_, rfl, rfl, rfl⟩; exact ⟨rfl, (ri_cons (ri_row (S := SegS) rfl _ _) ri_nil)⟩)) ?_
  rintro _ ⟨v15, _, _, ⟨_, rfl, rfl, rfl⟩, rfl⟩
  refine Tops_yes rfl rfl (congrArg (fun b => some (Value.bool b)) hg12) (OpT_lenO rfl rfl rfl rfl Try.underlying22 (i := 2) rfl) ?_
  rintro _ rfl
  refine Tops_yes rfl rfl (congrArg (fun b => some (Value.bool b)) hg12) (OpT_bin rfl rfl rfl rfl rfl (bin_eql_i (a := len cut1) (b := (0 : Int)))) ?_
  rintro _ rfl
  refine Tops_step rfl (OpT_pickT rfl rfl rfl (congrArg (fun b => some (Value.bool b)) hg12) rfl) ?_
  refine Tops_step rfl (OpT_assign rfl rfl rfl rfl) ?_
  refine Tops_nil (Tk_wkS (fr' := [(0, some (vB ((len cut1) == (0 : Int))))]) (own' := []) (shr' := []) [0] [] [] rfl rfl rfl rfl ?_)
  obtain ⟨hg13, h⟩ := chk_e h
  exact Tk_retV rfl rfl (resA (vs := [.bool true]) rfl ⟨(congrArg (fun b => some (Value.bool b)) hg13), trivial⟩) [] [] rfl rfl rfl ⟨rfl, rfl, rfl⟩
end Go.Proofs.Ytkmjpgfbcklopaa
