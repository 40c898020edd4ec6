/- The law LayoutNames is walked: it returns what its plain words say. No condition. -/
import Derived.Test.YtbeendakebamhaaWa5
namespace Go.Proofs.Ytbeendakebamhaa

set_option maxRecDepth 100000 in
set_option maxHeartbeats 4000000 in
theorem w_law04zLayoutNames   (h : law04zLayoutNames = some true) :
  Ctr Try.prog 6 #[] [] []
   (fun rv own shr => rv = .bool true ∧ own = [] ∧ shr = []) := by
 unfold law04zLayoutNames at h
 refine Ctr.mk (args := []) Try.func6 rfl rfl (fun R0 w0 B => ?_)
 refine Tk_seq ?_
 refine Tk_region ?_
 refine Tops_step rfl (OpT_assign rfl rfl rfl rfl) ?_
 refine Tops_nil ?_
 refine Tk_wkS (fr' := []) (own' := []) (shr' := []) [] [] [] rfl rfl rfl rfl ?_
 refine Tk_seq ?_
 refine Tk_region ?_
 obtain ⟨place1, hx1, h⟩ := ob_e h
 refine Tops_exP rfl (OpT_call (w_layout_Place hx1) [] [] rfl rfl rfl rfl rfl callee10 rfl rfl rfl rfl) ?_
 rintro _ ⟨_, _, _, ⟨rfl, rfl, rfl⟩, rfl⟩
 refine Tops_step rfl (OpT_move rfl rfl rfl rfl) ?_
 refine Tops_step rfl (OpT_extract rfl rfl rfl rfl rfl) ?_
 refine Tops_step rfl (OpT_extract rfl rfl rfl rfl rfl) ?_
 refine Tops_step rfl (OpT_extract rfl rfl rfl rfl rfl) ?_
 refine Tops_ex rfl (OpT_alloc rfl rfl rfl tyZ27) fun b1 => ?_
 refine Tops_step rfl (OpT_storeC (cs' := [vB place1.1.Packed, vI place1.1.Size, vU64 place1.1.Desc, vU64 place1.1.Driver, vU64 place1.1.Device]) rfl rfl rfl rfl tyF27 (i := 0) rfl rfl rfl (one_of rfl) rfl) ?_
 refine Tops_step rfl (OpT_assign rfl rfl rfl rfl) ?_
 refine Tops_step rfl (OpT_assign rfl rfl rfl rfl) ?_
 refine Tops_nil ?_
 refine Tk_wkS (fr' := [(3, some (vI place1.2.2))]) (own' := []) (shr' := []) [3] [] [] rfl rfl rfl rfl ?_
 refine Tk_seq ?_
 refine Tk_region ?_
 obtain ⟨place2, hx2, h⟩ := ob_e h
 refine Tops_exP rfl (OpT_call (w_layout_Place hx2) [] [] rfl rfl rfl rfl rfl callee10 rfl rfl rfl rfl) ?_
 rintro _ ⟨_, _, _, ⟨rfl, rfl, rfl⟩, rfl⟩
 refine Tops_step rfl (OpT_move rfl rfl rfl rfl) ?_
 refine Tops_step rfl (OpT_extract rfl rfl rfl rfl rfl) ?_
 refine Tops_step rfl (OpT_extract rfl rfl rfl rfl rfl) ?_
 refine Tops_step rfl (OpT_extract rfl rfl rfl rfl rfl) ?_
 refine Tops_ex rfl (OpT_alloc rfl rfl rfl tyZ27) fun b2 => ?_
 refine Tops_step rfl (OpT_storeC (cs' := [vB place2.1.Packed, vI place2.1.Size, vU64 place2.1.Desc, vU64 place2.1.Driver, vU64 place2.1.Device]) rfl rfl rfl rfl tyF27 (i := 0) rfl rfl rfl (one_of rfl) rfl) ?_
 refine Tops_step rfl (OpT_assign rfl rfl rfl rfl) ?_
 refine Tops_step rfl (OpT_assign rfl rfl rfl rfl) ?_
 refine Tops_nil ?_
 refine Tk_wkS (fr' := [(3, some (vI place1.2.2)), (4, some (.pointer (some ⟨b2, 0, none⟩))), (5, some (vU64 place2.2.1)), (6, some (vI place2.2.2))]) (own' := [some (cellsR b2 27 [vB place2.1.Packed, vI place2.1.Size, vU64 place2.1.Desc, vU64 place2.1.Driver, vU64 place2.1.Device])]) (shr' := []) [3, 4, 5, 6] [0] [] rfl rfl rfl rfl ?_
 refine Tk_seq ?_
 refine Tk_region ?_
 obtain ⟨place3, hx3, h⟩ := ob_e h
 refine Tops_exP rfl (OpT_call (w_layout_Place hx3) [] [] rfl rfl rfl rfl rfl callee10 rfl rfl rfl rfl) ?_
 rintro _ ⟨_, _, _, ⟨rfl, rfl, rfl⟩, rfl⟩
 refine Tops_step rfl (OpT_move rfl rfl rfl rfl) ?_
 refine Tops_step rfl (OpT_extract rfl rfl rfl rfl rfl) ?_
 refine Tops_step rfl (OpT_extract rfl rfl rfl rfl rfl) ?_
 refine Tops_step rfl (OpT_extract rfl rfl rfl rfl rfl) ?_
 refine Tops_ex rfl (OpT_alloc rfl rfl rfl tyZ27) fun b3 => ?_
 refine Tops_step rfl (OpT_storeC (cs' := [vB place3.1.Packed, vI place3.1.Size, vU64 place3.1.Desc, vU64 place3.1.Driver, vU64 place3.1.Device]) rfl rfl rfl rfl tyF27 (i := 1) rfl rfl rfl (one_of rfl) rfl) ?_
 refine Tops_step rfl (OpT_assign rfl rfl rfl rfl) ?_
 refine Tops_step rfl (OpT_assign rfl rfl rfl rfl) ?_
 refine Tops_nil ?_
 refine Tk_wkS (fr' := [(3, some (vI place1.2.2)), (4, some (.pointer (some ⟨b2, 0, none⟩))), (5, some (vU64 place2.2.1)), (6, some (vI place2.2.2)), (9, some (vI place3.2.2))]) (own' := [some (cellsR b2 27 [vB place2.1.Packed, vI place2.1.Size, vU64 place2.1.Desc, vU64 place2.1.Driver, vU64 place2.1.Device])]) (shr' := []) [3, 4, 5, 6, 9] [0] [] rfl rfl rfl rfl ?_
 refine Tk_seq ?_
 refine Tk_region ?_
 refine Tops_step rfl (OpT_loadCA (vs := [vB place2.1.Packed, vI place2.1.Size, vU64 place2.1.Desc, vU64 place2.1.Driver, vU64 place2.1.Device]) rfl rfl rfl rfl tyF27 (i := 0) rfl rfl rfl) ?_
 obtain ⟨where1, hx4, h⟩ := ob_e h
 refine Tops_exP rfl (OpT_call (w_layout_Where hx4) [] [] rfl rfl rfl rfl rfl callee12 rfl rfl rfl rfl) ?_
 rintro _ ⟨_, _, _, ⟨rfl, rfl, rfl⟩, rfl⟩
 refine Tops_step rfl (OpT_move rfl rfl rfl rfl) ?_
 refine Tops_step rfl (OpT_extract rfl rfl rfl rfl rfl) ?_
 refine Tops_step rfl (OpT_extract rfl rfl rfl rfl rfl) ?_
 refine Tops_step rfl (OpT_extract rfl rfl rfl rfl rfl) ?_
 refine Tops_step rfl (OpT_assign rfl rfl rfl rfl) ?_
 refine Tops_step rfl (OpT_assign rfl rfl rfl rfl) ?_
 refine Tops_step rfl (OpT_assign rfl rfl rfl rfl) ?_
 refine Tops_nil ?_
 refine Tk_wkS (fr' := [(3, some (vI place1.2.2)), (4, some (.pointer (some ⟨b2, 0, none⟩))), (5, some (vU64 place2.2.1)), (6, some (vI place2.2.2)), (9, some (vI place3.2.2)), (12, some (vI where1.2.2))]) (own' := [some (cellsR b2 27 [vB place2.1.Packed, vI place2.1.Size, vU64 place2.1.Desc, vU64 place2.1.Driver, vU64 place2.1.Device])]) (shr' := []) [3, 4, 5, 6, 9, 12] [0] [] rfl rfl rfl rfl ?_
 refine Tk_seq ?_
 refine Tk_region ?_
 refine Tops_step rfl (OpT_loadCA (vs := [vB place2.1.Packed, vI place2.1.Size, vU64 place2.1.Desc, vU64 place2.1.Driver, vU64 place2.1.Device]) rfl rfl rfl rfl tyF27 (i := 0) rfl rfl rfl) ?_
 obtain ⟨where2, hx5, h⟩ := ob_e h
 refine Tops_exP rfl (OpT_call (w_layout_Where hx5) [] [] rfl rfl rfl rfl rfl callee12 rfl rfl rfl rfl) ?_
 rintro _ ⟨_, _, _, ⟨rfl, rfl, rfl⟩, rfl⟩
 refine Tops_step rfl (OpT_move rfl rfl rfl rfl) ?_
 refine Tops_step rfl (OpT_extract rfl rfl rfl rfl rfl) ?_
 refine Tops_step rfl (OpT_extract rfl rfl rfl rfl rfl) ?_
 refine Tops_step rfl (OpT_extract rfl rfl rfl rfl rfl) ?_
 refine Tops_step rfl (OpT_assign rfl rfl rfl rfl) ?_
 refine Tops_step rfl (OpT_assign rfl rfl rfl rfl) ?_
 refine Tops_step rfl (OpT_assign rfl rfl rfl rfl) ?_
 refine Tops_nil ?_
 refine Tk_wkS (fr' := [(3, some (vI place1.2.2)), (4, some (.pointer (some ⟨b2, 0, none⟩))), (5, some (vU64 place2.2.1)), (6, some (vI place2.2.2)), (9, some (vI place3.2.2)), (12, some (vI where1.2.2)), (13, some (vU64 where2.1)), (14, some (vI where2.2.1)), (15, some (vI where2.2.2))]) (own' := [some (cellsR b2 27 [vB place2.1.Packed, vI place2.1.Size, vU64 place2.1.Desc, vU64 place2.1.Driver, vU64 place2.1.Device])]) (shr' := []) [3, 4, 5, 6, 9, 12, 13, 14, 15] [0] [] rfl rfl rfl rfl ?_
 refine Tk_seq ?_
 refine Tk_region ?_
 refine Tops_step rfl (OpT_loadCA (vs := [vB place2.1.Packed, vI place2.1.Size, vU64 place2.1.Desc, vU64 place2.1.Driver, vU64 place2.1.Device]) rfl rfl rfl rfl tyF27 (i := 0) rfl rfl rfl) ?_
 obtain ⟨where3, hx6, h⟩ := ob_e h
 refine Tops_exP rfl (OpT_call (w_layout_Where hx6) [] [] rfl rfl rfl rfl rfl callee12 rfl rfl rfl rfl) ?_
 rintro _ ⟨_, _, _, ⟨rfl, rfl, rfl⟩, rfl⟩
 refine Tops_step rfl (OpT_move rfl rfl rfl rfl) ?_
 refine Tops_step rfl (OpT_extract rfl rfl rfl rfl rfl) ?_
 refine Tops_step rfl (OpT_extract rfl rfl rfl rfl rfl) ?_
 refine Tops_step rfl (OpT_extract rfl rfl rfl rfl rfl) ?_
 refine Tops_step rfl (OpT_assign rfl rfl rfl rfl) ?_
 refine Tops_step rfl (OpT_assign rfl rfl rfl rfl) ?_
 refine Tops_step rfl (OpT_assign rfl rfl rfl rfl) ?_
 refine Tops_nil ?_
 refine Tk_wkS (fr' := [(3, some (vI place1.2.2)), (4, some (.pointer (some ⟨b2, 0, none⟩))), (5, some (vU64 place2.2.1)), (6, some (vI place2.2.2)), (9, some (vI place3.2.2)), (12, some (vI where1.2.2)), (13, some (vU64 where2.1)), (14, some (vI where2.2.1)), (15, some (vI where2.2.2)), (18, some (vI where3.2.2))]) (own' := [some (cellsR b2 27 [vB place2.1.Packed, vI place2.1.Size, vU64 place2.1.Desc, vU64 place2.1.Driver, vU64 place2.1.Device])]) (shr' := []) [3, 4, 5, 6, 9, 12, 13, 14, 15, 18] [0] [] rfl rfl rfl rfl ?_
 refine Tk_seq ?_
 refine Tk_region ?_
 refine Tops_step rfl (OpT_build (v := .agg #[vU64 (0 : UInt64), vU64 (103 : UInt64)]) rfl rfl rfl rfl (bldV (by kernel_rfl))) ?_
 refine Tops_ex rfl (OpT_buildSlice (S := RegionS) (xs := [(Region.mk (0 : UInt64) (103 : UInt64))]) (css := [[vU64 (0 : UInt64), vU64 (103 : UInt64)]]) (cs := [vU64 (0 : UInt64), vU64 (103 : UInt64)]) (e := 44) rfl rfl rfl rfl (bldF slF45 (by decide) (by kernel_rfl)) rfl rfl rfl rfl (rel_plainD (S := RegionS) (xs := [(Region.mk (0 : UInt64) (103 : UInt64))]) (css := [[vU64 (0 : UInt64), vU64 (103 : UInt64)]]) rfl rfl)) fun v1 => ?_
 refine Tops_retire (i := 1) rfl ?_
 obtain ⟨new1, hx7, h⟩ := ob_e h
 refine Tops_exP rfl (OpT_call (w_gmem_New hx7) [] [0] rfl rfl rfl rfl rfl callee16 rfl rfl rfl rfl) ?_
 rintro _ ⟨_, _, _, ⟨v2, rfl, rfl, rfl⟩, rfl⟩
 refine Tops_step rfl (OpT_move rfl rfl rfl rfl) ?_
 refine Tops_step rfl (OpT_extract rfl rfl rfl rfl rfl) ?_
 refine Tops_step rfl (OpT_extract rfl rfl rfl rfl rfl) ?_
 refine Tops_step rfl (OpT_assign rfl rfl rfl rfl) ?_
 refine Tops_step rfl (OpT_assign rfl rfl rfl rfl) ?_
 refine Tops_nil ?_
 refine Tk_wkS (fr' := [(3, some (vI place1.2.2)), (4, some (.pointer (some ⟨b2, 0, none⟩))), (5, some (vU64 place2.2.1)), (6, some (vI place2.2.2)), (9, some (vI place3.2.2)), (12, some (vI where1.2.2)), (13, some (vU64 where2.1)), (14, some (vI where2.2.1)), (15, some (vI where2.2.2)), (18, some (vI where3.2.2)), (19, some (v2))]) (own' := [some (cellsR b2 27 [vB place2.1.Packed, vI place2.1.Size, vU64 place2.1.Desc, vU64 place2.1.Driver, vU64 place2.1.Device]), some (optR 72 RegionS u8S true gmem_Mem.l gmem_Mem.b v2 new1.1)]) (shr' := []) [3, 4, 5, 6, 9, 12, 13, 14, 15, 18, 19] [0, 2] [] rfl rfl rfl rfl ?_
 rcases onO_cases h with ⟨ho1, h⟩ | ⟨mem1, ho1, h⟩
 ·cases h
 ·refine Tk_optS (i := 1) rfl ho1 ?_
  rintro b4 v3 v4 vs1 rfl
  refine Tk_seq ?_
  refine Tk_region ?_
  obtain ⟨lives1, hx8, h⟩ := ob_e h
  refine Tops_exP rfl (OpT_call (w_law04zlives hx8) [] [] rfl rfl rfl rfl rfl callee8 rfl rfl rfl rfl) ?_
  rintro _ ⟨_, _, _, ⟨rfl, rfl, rfl⟩, rfl⟩
  refine Tops_step rfl (OpT_move rfl rfl rfl rfl) ?_
  obtain ⟨hg1, h⟩ := chk_e h
  refine Tops_yes rfl rfl (congrArg (fun b => some (Value.bool b)) hg1) (OpT_move rfl rfl rfl rfl) ?_
  rintro _ rfl
  refine Tops_yes rfl rfl (congrArg (fun b => some (Value.bool b)) hg1) (OpT_bin rfl rfl rfl rfl rfl (bin_eql_i (a := place1.2.2) (b := (2 : Int)))) ?_
  rintro _ rfl
  refine Tops_step rfl (OpT_pickT rfl rfl rfl (congrArg (fun b => some (Value.bool b)) hg1) rfl) ?_
  refine Tops_step rfl (OpT_move rfl rfl rfl rfl) ?_
  obtain ⟨hg2, h⟩ := chk_e h
  refine Tops_yes rfl rfl (congrArg (fun b => some (Value.bool b)) hg2) (OpT_move rfl rfl rfl rfl) ?_
  rintro _ rfl
  refine Tops_yes rfl rfl (congrArg (fun b => some (Value.bool b)) hg2) (OpT_bin rfl rfl rfl rfl rfl (bin_eql_i (a := place2.2.2) (b := (0 : Int)))) ?_
  rintro _ rfl
  refine Tops_step rfl (OpT_pickT rfl rfl rfl (congrArg (fun b => some (Value.bool b)) hg2) rfl) ?_
  refine Tops_step rfl (OpT_move rfl rfl rfl rfl) ?_
  obtain ⟨hg3, h⟩ := chk_e h
  refine Tops_yes rfl rfl (congrArg (fun b => some (Value.bool b)) hg3) (OpT_loadCA (vs := [vB place2.1.Packed, vI place2.1.Size, vU64 place2.1.Desc, vU64 place2.1.Driver, vU64 place2.1.Device]) rfl rfl rfl rfl tyF27 (i := 0) rfl rfl rfl) ?_
  rintro _ rfl
  refine Tops_yes rfl rfl (congrArg (fun b => some (Value.bool b)) hg3) (OpT_build (v := .agg #[vB true, vI (6 : Int), vU64 (0 : UInt64), vU64 (96 : UInt64), vU64 (100 : UInt64)]) rfl rfl rfl rfl (bldV (by kernel_rfl))) ?_
  rintro _ rfl
  refine Tops_yes rfl rfl (congrArg (fun b => some (Value.bool b)) hg3) (OpT_bin rfl rfl rfl rfl rfl (eqT27_eql place2.1 (Rings.mk true (6 : Int) (0 : UInt64) (96 : UInt64) (100 : UInt64)))) ?_
  rintro _ rfl
  refine Tops_step rfl (OpT_pickT rfl rfl rfl (congrArg (fun b => some (Value.bool b)) hg3) rfl) ?_
  refine Tops_step rfl (OpT_move rfl rfl rfl rfl) ?_
  obtain ⟨hg4, h⟩ := chk_e h
  refine Tops_yes rfl rfl (congrArg (fun b => some (Value.bool b)) hg4) (OpT_move rfl rfl rfl rfl) ?_
  rintro _ rfl
  refine Tops_yes rfl rfl (congrArg (fun b => some (Value.bool b)) hg4) (OpT_bin rfl rfl rfl rfl rfl (bin_eql_u64 (a := place2.2.1) (b := (104 : UInt64)))) ?_
  rintro _ rfl
  refine Tops_step rfl (OpT_pickT rfl rfl rfl (congrArg (fun b => some (Value.bool b)) hg4) rfl) ?_
  refine Tops_step rfl (OpT_move rfl rfl rfl rfl) ?_
  obtain ⟨hg5, h⟩ := chk_e h
  refine Tops_yes rfl rfl (congrArg (fun b => some (Value.bool b)) hg5) (OpT_move rfl rfl rfl rfl) ?_
  rintro _ rfl
  refine Tops_yes rfl rfl (congrArg (fun b => some (Value.bool b)) hg5) (OpT_bin rfl rfl rfl rfl rfl (bin_eql_i (a := place3.2.2) (b := (2 : Int)))) ?_
  rintro _ rfl
  refine Tops_step rfl (OpT_pickT rfl rfl rfl (congrArg (fun b => some (Value.bool b)) hg5) rfl) ?_
  refine Tops_step rfl (OpT_move rfl rfl rfl rfl) ?_
  obtain ⟨hg6, h⟩ := chk_e h
  refine Tops_yes rfl rfl (congrArg (fun b => some (Value.bool b)) hg6) (OpT_move rfl rfl rfl rfl) ?_
  rintro _ rfl
  refine Tops_yes rfl rfl (congrArg (fun b => some (Value.bool b)) hg6) (OpT_bin rfl rfl rfl rfl rfl (bin_eql_i (a := where1.2.2) (b := (2 : Int)))) ?_
  rintro _ rfl
  refine Tops_step rfl (OpT_pickT rfl rfl rfl (congrArg (fun b => some (Value.bool b)) hg6) rfl) ?_
  refine Tops_step rfl (OpT_move rfl rfl rfl rfl) ?_
  obtain ⟨hg7, h⟩ := chk_e h
  refine Tops_yes rfl rfl (congrArg (fun b => some (Value.bool b)) hg7) (OpT_move rfl rfl rfl rfl) ?_
  rintro _ rfl
  refine Tops_yes rfl rfl (congrArg (fun b => some (Value.bool b)) hg7) (OpT_bin rfl rfl rfl rfl rfl (bin_eql_i (a := where2.2.2) (b := (0 : Int)))) ?_
  rintro _ rfl
  refine Tops_step rfl (OpT_pickT rfl rfl rfl (congrArg (fun b => some (Value.bool b)) hg7) rfl) ?_
  refine Tops_step rfl (OpT_move rfl rfl rfl rfl) ?_
  obtain ⟨hg8, h⟩ := chk_e h
  refine Tops_yes rfl rfl (congrArg (fun b => some (Value.bool b)) hg8) (OpT_move rfl rfl rfl rfl) ?_
  rintro _ rfl
  refine Tops_yes rfl rfl (congrArg (fun b => some (Value.bool b)) hg8) (OpT_bin rfl rfl rfl rfl rfl (bin_eql_u64 (a := where2.1) (b := (100 : UInt64)))) ?_
  rintro _ rfl
  refine Tops_step rfl (OpT_pickT rfl rfl rfl (congrArg (fun b => some (Value.bool b)) hg8) rfl) ?_
  refine Tops_step rfl (OpT_move rfl rfl rfl rfl) ?_
  obtain ⟨hg9, h⟩ := chk_e h
  refine Tops_yes rfl rfl (congrArg (fun b => some (Value.bool b)) hg9) (OpT_move rfl rfl rfl rfl) ?_
  rintro _ rfl
  refine Tops_yes rfl rfl (congrArg (fun b => some (Value.bool b)) hg9) (OpT_bin rfl rfl rfl rfl rfl (bin_eql_i (a := where2.2.1) (b := (4 : Int)))) ?_
  rintro _ rfl
  refine Tops_step rfl (OpT_pickT rfl rfl rfl (congrArg (fun b => some (Value.bool b)) hg9) rfl) ?_
  refine Tops_step rfl (OpT_move rfl rfl rfl rfl) ?_
  obtain ⟨hg10, h⟩ := chk_e h
  refine Tops_yes rfl rfl (congrArg (fun b => some (Value.bool b)) hg10) (OpT_move rfl rfl rfl rfl) ?_
  rintro _ rfl
  refine Tops_yes rfl rfl (congrArg (fun b => some (Value.bool b)) hg10) (OpT_bin rfl rfl rfl rfl rfl (bin_eql_i (a := where3.2.2) (b := (2 : Int)))) ?_
  rintro _ rfl
  refine Tops_step rfl (OpT_pickT rfl rfl rfl (congrArg (fun b => some (Value.bool b)) hg10) rfl) ?_
  refine Tops_step rfl (OpT_move rfl rfl rfl rfl) ?_
  obtain ⟨hg11, h⟩ := chk_e h
  refine Tops_yes rfl rfl (congrArg (fun b => some (Value.bool b)) hg11) (OpT_loadCA (vs := [vB place2.1.Packed, vI place2.1.Size, vU64 place2.1.Desc, vU64 place2.1.Driver, vU64 place2.1.Device]) rfl rfl rfl rfl tyF27 (i := 0) rfl rfl rfl) ?_
  rintro _ rfl
  obtain ⟨fits1, hx9, h⟩ := ob_e h
  refine Tops_yes rfl rfl (congrArg (fun b => some (Value.bool b)) hg11) (OpT_call (w_layout_Fitsn0 hx9) [] [] rfl rfl rfl rfl rfl callee17 rfl rfl rfl rfl) ?_
  rintro _ ⟨_, _, _, ⟨rfl, rfl, rfl⟩, rfl⟩
  refine Tops_yes rfl rfl (congrArg (fun b => some (Value.bool b)) hg11) (OpT_bin rfl rfl rfl rfl rfl (bin_eql_i (a := fits1) (b := (1 : Int)))) ?_
  rintro _ rfl
  refine Tops_step rfl (OpT_pickT rfl rfl rfl (congrArg (fun b => some (Value.bool b)) hg11) rfl) ?_
  refine Tops_step rfl (OpT_move rfl rfl rfl rfl) ?_
  obtain ⟨hg12, h⟩ := chk_e h
  refine Tops_yes rfl rfl (congrArg (fun b => some (Value.bool b)) hg12) (OpT_move rfl rfl rfl rfl) ?_
  rintro _ rfl
  refine Tops_yes rfl rfl (congrArg (fun b => some (Value.bool b)) hg12) (OpT_loadCA (vs := [vB place2.1.Packed, vI place2.1.Size, vU64 place2.1.Desc, vU64 place2.1.Driver, vU64 place2.1.Device]) rfl rfl rfl rfl tyF27 (i := 0) rfl rfl rfl) ?_
  rintro _ rfl
  obtain ⟨fits2, hx10, h⟩ := ob_e h
  refine Tops_yes rfl rfl (congrArg (fun b => some (Value.bool b)) hg12) (OpT_callP [0, 3, 4] (w_layout_Fits hx10) [1, 2] [0] rfl rfl rfl rfl rfl callee17 rfl rfl rfl rfl rfl) ?_
  rintro _ ⟨_, _, _, ⟨rfl, rfl, rfl⟩, rfl⟩
  refine Tops_yes rfl rfl (congrArg (fun b => some (Value.bool b)) hg12) (OpT_bin rfl rfl rfl rfl rfl (bin_eql_i (a := fits2) (b := (5 : Int)))) ?_
  rintro _ rfl
  refine Tops_step rfl (OpT_pickT rfl rfl rfl (congrArg (fun b => some (Value.bool b)) hg12) rfl) ?_
  refine Tops_step rfl (OpT_move rfl rfl rfl rfl) ?_
  obtain ⟨hg13, h⟩ := chk_e h
  refine Tops_yes rfl rfl (congrArg (fun b => some (Value.bool b)) hg13) (OpT_build (v := .agg #[vB false, vI (4 : Int), vU64 (8 : UInt64), vU64 (0 : UInt64), vU64 (0 : UInt64)]) rfl rfl rfl rfl (bldV (by kernel_rfl))) ?_
  rintro _ rfl
  obtain ⟨check1, hx11, h⟩ := ob_e h
  refine Tops_yes rfl rfl (congrArg (fun b => some (Value.bool b)) hg13) (OpT_call (w_layout_Check hx11) [] [] rfl rfl rfl rfl rfl callee13 rfl rfl rfl rfl) ?_
  rintro _ ⟨_, _, _, ⟨rfl, rfl, rfl⟩, rfl⟩
  refine Tops_yes rfl rfl (congrArg (fun b => some (Value.bool b)) hg13) (OpT_bin rfl rfl rfl rfl rfl (bin_eql_i (a := check1) (b := (2 : Int)))) ?_
  rintro _ rfl
  refine Tops_step rfl (OpT_pickT rfl rfl rfl (congrArg (fun b => some (Value.bool b)) hg13) rfl) ?_
  refine Tops_step rfl (OpT_move rfl rfl rfl rfl) ?_
  obtain ⟨hg14, h⟩ := chk_e h
  refine Tops_yes rfl rfl (congrArg (fun b => some (Value.bool b)) hg14) (OpT_loadCA (vs := [vB place2.1.Packed, vI place2.1.Size, vU64 place2.1.Desc, vU64 place2.1.Driver, vU64 place2.1.Device]) rfl rfl rfl rfl tyF27 (i := 0) rfl rfl rfl) ?_
  rintro _ rfl
  obtain ⟨over1, hx12, h⟩ := ob_e h
  refine Tops_yes rfl rfl (congrArg (fun b => some (Value.bool b)) hg14) (OpT_call (w_layout_Over hx12) [] [] rfl rfl rfl rfl rfl callee15 rfl rfl rfl rfl) ?_
  rintro _ ⟨_, _, _, ⟨rfl, rfl, rfl⟩, rfl⟩
  refine Tops_step rfl (OpT_pickT rfl rfl rfl (congrArg (fun b => some (Value.bool b)) hg14) rfl) ?_
  refine Tops_step rfl (OpT_move rfl rfl rfl rfl) ?_
  obtain ⟨hg15, h⟩ := chk_e h
  refine Tops_yes rfl rfl (congrArg (fun b => some (Value.bool b)) hg15) (OpT_loadCA (vs := [vB place2.1.Packed, vI place2.1.Size, vU64 place2.1.Desc, vU64 place2.1.Driver, vU64 place2.1.Device]) rfl rfl rfl rfl tyF27 (i := 0) rfl rfl rfl) ?_
  rintro _ rfl
  obtain ⟨over2, hx13, h⟩ := ob_e h
  refine Tops_yes rfl rfl (congrArg (fun b => some (Value.bool b)) hg15) (OpT_call (w_layout_Over hx13) [] [] rfl rfl rfl rfl rfl callee15 rfl rfl rfl rfl) ?_
  rintro _ ⟨_, _, _, ⟨rfl, rfl, rfl⟩, rfl⟩
  refine Tops_yes rfl rfl (congrArg (fun b => some (Value.bool b)) hg15) (OpT_not rfl rfl rfl rfl) ?_
  rintro _ rfl
  refine Tops_step rfl (OpT_pickT rfl rfl rfl (congrArg (fun b => some (Value.bool b)) hg15) rfl) ?_
  refine Tops_step rfl (OpT_move rfl rfl rfl rfl) ?_
  obtain ⟨hg16, h⟩ := chk_e h
  refine Tops_yes rfl rfl (congrArg (fun b => some (Value.bool b)) hg16) (OpT_loadCA (vs := [vB place2.1.Packed, vI place2.1.Size, vU64 place2.1.Desc, vU64 place2.1.Driver, vU64 place2.1.Device]) rfl rfl rfl rfl tyF27 (i := 0) rfl rfl rfl) ?_
  rintro _ rfl
  obtain ⟨over3, hx14, h⟩ := ob_e h
  refine Tops_yes rfl rfl (congrArg (fun b => some (Value.bool b)) hg16) (OpT_call (w_layout_Over hx14) [] [] rfl rfl rfl rfl rfl callee15 rfl rfl rfl rfl) ?_
  rintro _ ⟨_, _, _, ⟨rfl, rfl, rfl⟩, rfl⟩
  refine Tops_yes rfl rfl (congrArg (fun b => some (Value.bool b)) hg16) (OpT_not rfl rfl rfl rfl) ?_
  rintro _ rfl
  refine Tops_step rfl (OpT_pickT rfl rfl rfl (congrArg (fun b => some (Value.bool b)) hg16) rfl) ?_
  refine Tops_step rfl (OpT_move rfl rfl rfl rfl) ?_
  obtain ⟨hg17, h⟩ := chk_e h
  refine Tops_step rfl (OpT_pickT rfl rfl rfl (congrArg (fun b => some (Value.bool b)) hg17) rfl) ?_
  refine Tops_step rfl (OpT_assign rfl rfl rfl rfl) ?_
  refine Tops_nil ?_
  refine Tk_wkS (fr' := [(0, some (vB true))]) (own' := []) (shr' := []) [0] [] [] rfl rfl rfl rfl ?_
  exact Tk_retV rfl rfl (resA (vs := [.bool true]) rfl ⟨rfl, trivial⟩) [] [] rfl rfl rfl ⟨rfl, rfl, rfl⟩
end Go.Proofs.Ytbeendakebamhaa
