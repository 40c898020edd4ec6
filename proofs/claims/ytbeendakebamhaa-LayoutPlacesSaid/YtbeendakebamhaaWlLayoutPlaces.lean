/- The law LayoutPlaces is walked: it returns what its plain words say. No condition. -/
import Derived.Test.YtbeendakebamhaaWa5
namespace Go.Proofs.Ytbeendakebamhaa

set_option maxRecDepth 100000 in
set_option maxHeartbeats 4000000 in
theorem w_law04zLayoutPlaces {packed : Bool} {size : Int} {base : UInt64}  (h : law04zLayoutPlaces packed size base = some true) :
  Ctr Try.prog 5 #[vB packed, vI size, vU64 base] [] []
   (fun rv own shr => rv = .bool true ∧ own = [] ∧ shr = []) := by
 unfold law04zLayoutPlaces at h
 refine Ctr.mk (args := [vB packed, vI size, vU64 base]) Try.func5 rfl rfl (fun R0 w0 B => ?_)
 refine Tk_seq (Tk_region (Tops_step rfl (OpT_assign rfl rfl rfl rfl) ?_))
 refine Tops_nil (Tk_wkS (fr' := [(0, some (vB packed)), (1, some (vI size)), (2, some (vU64 base))]) (own' := []) (shr' := []) [0, 1, 2] [] [] rfl rfl rfl rfl ?_)
 refine Tk_seq (Tk_seq (Tk_region ?_))
 obtain ⟨lives1, hx1, h⟩ := ob_e h
 refine Tops_exP rfl (OpT_call (w_law04zlives hx1) [] [] rfl rfl rfl rfl rfl callee8 rfl rfl rfl rfl) ?_
 rintro _ ⟨_, _, _, ⟨rfl, rfl, rfl⟩, rfl⟩
 refine Tops_step rfl (OpT_not rfl rfl rfl rfl) ?_
 refine Tops_nil (Tk_wkS (fr' := [(0, some (vB packed)), (1, some (vI size)), (2, some (vU64 base)), (19, some (vB (!lives1)))]) (own' := []) (shr' := []) [0, 1, 2, 19] [] [] rfl rfl rfl rfl ?_)
 obtain ⟨hg1, h⟩ := chk_e h
 replace hg1 := not_t hg1
 refine Tk_condF (congrArg (fun b => some (Value.bool b)) hg1) ?_
 refine Tk_skip (Tk_seq (Tk_region (Tops_step rfl (OpT_move rfl rfl rfl rfl) ?_)))
 obtain ⟨pick1, hx2, h⟩ := ob_e h
 refine Tops_exP rfl (OpT_call (w_kit_Pick hx2) [] [] rfl rfl rfl rfl rfl callee9 rfl rfl rfl rfl) ?_
 rintro _ ⟨_, _, _, ⟨rfl, rfl, rfl⟩, rfl⟩
 refine Tops_step rfl (OpT_bin rfl rfl rfl rfl rfl (bin_add_i (a := (1 : Int)) (b := pick1))) ?_
 refine Tops_step rfl (OpT_assign rfl rfl rfl rfl) ?_
 refine Tops_nil (Tk_wkS (fr' := [(0, some (vB packed)), (1, some (vI (wi ((1 : Int) + pick1)))), (2, some (vU64 base))]) (own' := []) (shr' := []) [0, 1, 2] [] [] rfl rfl rfl rfl ?_)
 refine Tk_seq (Tk_seq (Tk_region (Tops_step rfl (OpT_move rfl rfl rfl rfl) ?_)))
 refine Tops_step rfl (OpT_not rfl rfl rfl rfl) ?_
 refine Tops_nil (Tk_wkS (fr' := [(0, some (vB packed)), (1, some (vI (wi ((1 : Int) + pick1)))), (2, some (vU64 base)), (24, some (vB (!packed)))]) (own' := []) (shr' := []) [0, 1, 2, 24] [] [] rfl rfl rfl rfl ?_)
 refine Tk_join (α := Int) (fun s => ⟨[(0, some (vB packed)), (1, some (vI s)), (2, some (vU64 base))], [], []⟩) (fun s => law04zLayoutPlacesJ1 packed base s = some true) ?_ ?_
 ·rintro size1 h
  replace h : law04zLayoutPlacesJ1 packed base size1 = some true := h
  unfold law04zLayoutPlacesJ1 at h
  refine Tk_seq (Tk_region (Tops_step rfl (OpT_move rfl rfl rfl rfl) ?_))
  refine Tops_step rfl (OpT_bin rfl rfl rfl rfl rfl (bin_rem_u64 (a := base) (b := (100001 : UInt64)) rfl)) ?_
  refine Tops_step rfl (OpT_assign rfl rfl rfl rfl) ?_
  refine Tops_nil (Tk_wkS (fr' := [(0, some (vB packed)), (1, some (vI size1)), (2, some (vU64 (base % (100001 : UInt64))))]) (own' := []) (shr' := []) [0, 1, 2] [] [] rfl rfl rfl rfl ?_)
  refine Tk_seq (Tk_region (Tops_step rfl (OpT_move rfl rfl rfl rfl) ?_))
  refine Tops_step rfl (OpT_move rfl rfl rfl rfl) ?_
  refine Tops_step rfl (OpT_move rfl rfl rfl rfl) ?_
  obtain ⟨place1, hx3, h⟩ := ob_e h
  refine Tops_exP rfl (OpT_call (w_layout_Place hx3) [] [] rfl rfl rfl rfl rfl callee10 rfl rfl rfl rfl) ?_
  rintro _ ⟨_, _, _, ⟨rfl, rfl, rfl⟩, rfl⟩
  refine Tops_step rfl (OpT_move rfl rfl rfl rfl) ?_
  refine Tops_step rfl (OpT_extract rfl rfl rfl rfl rfl) ?_
  refine Tops_step rfl (OpT_extract rfl rfl rfl rfl rfl) ?_
  refine Tops_step rfl (OpT_extract rfl rfl rfl rfl rfl) ?_
  refine Tops_ex rfl (OpT_alloc rfl rfl rfl tyZ27) fun b1 => ?_
  refine Tops_step rfl (OpT_storeC (cs' := [vB place1.1.Packed, vI place1.1.Size, vU64 place1.1.Desc, vU64 place1.1.Driver, vU64 place1.1.Device]) rfl rfl rfl rfl tyF27 (i := 0) rfl rfl rfl (one_of rfl) rfl) ?_
  refine Tops_step rfl (OpT_assign rfl rfl rfl rfl) ?_
  refine Tops_step rfl (OpT_assign rfl rfl rfl rfl) ?_
  refine Tops_nil (Tk_wkS (fr' := [(0, some (vB packed)), (1, some (vI size1)), (2, some (vU64 (base % (100001 : UInt64)))), (8, some (.pointer (some ⟨b1, 0, none⟩))), (9, some (vU64 place1.2.1)), (10, some (vI place1.2.2))]) (own' := [some (cellsR b1 27 [vB place1.1.Packed, vI place1.1.Size, vU64 place1.1.Desc, vU64 place1.1.Driver, vU64 place1.1.Device])]) (shr' := []) [0, 1, 2, 8, 9, 10] [0] [] rfl rfl rfl rfl ?_)
  refine Tk_seq (Tk_seq (Tk_region (Tops_step rfl (OpT_move rfl rfl rfl rfl) ?_)))
  refine Tops_step rfl (OpT_bin rfl rfl rfl rfl rfl (bin_neq_i (a := place1.2.2) (b := (0 : Int)))) ?_
  refine Tops_step rfl (OpT_move rfl rfl rfl rfl) ?_
  obtain ⟨hg2, h⟩ := chk_e h
  replace hg2 := not_t hg2
  refine Tops_yes rfl rfl (congrArg (fun b => some (Value.bool b)) hg2) (OpT_loadCA (vs := [vB place1.1.Packed, vI place1.1.Size, vU64 place1.1.Desc, vU64 place1.1.Driver, vU64 place1.1.Device]) rfl rfl rfl rfl tyF27 (i := 0) rfl rfl rfl) ?_
  rintro _ rfl
  obtain ⟨check1, hx4, h⟩ := ob_e h
  refine Tops_yes rfl rfl (congrArg (fun b => some (Value.bool b)) hg2) (OpT_call (w_layout_Check hx4) [] [] rfl rfl rfl rfl rfl callee13 rfl rfl rfl rfl) ?_
  rintro _ ⟨_, _, _, ⟨rfl, rfl, rfl⟩, rfl⟩
  refine Tops_yes rfl rfl (congrArg (fun b => some (Value.bool b)) hg2) (OpT_bin rfl rfl rfl rfl rfl (bin_neq_i (a := check1) (b := (0 : Int)))) ?_
  rintro _ rfl
  refine Tops_step rfl (OpT_pickF rfl rfl rfl (congrArg (fun b => some (Value.bool b)) hg2) rfl) ?_
  refine Tops_step rfl (OpT_move rfl rfl rfl rfl) ?_
  obtain ⟨hg3, h⟩ := chk_e h
  replace hg3 := not_t hg3
  refine Tops_yes rfl rfl (congrArg (fun b => some (Value.bool b)) hg3) (OpT_fieldC rfl rfl rfl rfl fldF27x2) ?_
  rintro _ rfl
  refine Tops_yes rfl rfl (congrArg (fun b => some (Value.bool b)) hg3) (OpT_loadC rfl rfl rfl rfl tyF22 (i := 0) rfl rfl) ?_
  rintro _ rfl
  refine Tops_yes rfl rfl (congrArg (fun b => some (Value.bool b)) hg3) (OpT_move rfl rfl rfl rfl) ?_
  rintro _ rfl
  refine Tops_yes rfl rfl (congrArg (fun b => some (Value.bool b)) hg3) (OpT_bin rfl rfl rfl rfl rfl (bin_lss_u64 (a := place1.1.Desc) (b := base % (100001 : UInt64)))) ?_
  rintro _ rfl
  refine Tops_step rfl (OpT_pickF rfl rfl rfl (congrArg (fun b => some (Value.bool b)) hg3) rfl) ?_
  refine Tops_step rfl (OpT_move rfl rfl rfl rfl) ?_
  obtain ⟨hg4, h⟩ := chk_e h
  replace hg4 := not_t hg4
  refine Tops_yes rfl rfl (congrArg (fun b => some (Value.bool b)) hg4) (OpT_fieldC rfl rfl rfl rfl fldF27x2) ?_
  rintro _ rfl
  refine Tops_yes rfl rfl (congrArg (fun b => some (Value.bool b)) hg4) (OpT_loadC rfl rfl rfl rfl tyF22 (i := 0) rfl rfl) ?_
  rintro _ rfl
  refine Tops_yes rfl rfl (congrArg (fun b => some (Value.bool b)) hg4) (OpT_move rfl rfl rfl rfl) ?_
  rintro _ rfl
  refine Tops_yes rfl rfl (congrArg (fun b => some (Value.bool b)) hg4) (OpT_bin rfl rfl rfl rfl rfl (bin_sub_u64 (a := place1.1.Desc) (b := base % (100001 : UInt64)))) ?_
  rintro _ rfl
  refine Tops_yes rfl rfl (congrArg (fun b => some (Value.bool b)) hg4) (OpT_bin rfl rfl rfl rfl rfl (bin_gtr_u64 (a := place1.1.Desc - (base % (100001 : UInt64))) (b := (15 : UInt64)))) ?_
  rintro _ rfl
  refine Tops_step rfl (OpT_pickF rfl rfl rfl (congrArg (fun b => some (Value.bool b)) hg4) rfl) ?_
  refine Tops_step rfl (OpT_move rfl rfl rfl rfl) ?_
  obtain ⟨hg5, h⟩ := chk_e h
  replace hg5 := not_t hg5
  refine Tops_yes rfl rfl (congrArg (fun b => some (Value.bool b)) hg5) (OpT_fieldC rfl rfl rfl rfl fldF27x0) ?_
  rintro _ rfl
  refine Tops_yes rfl rfl (congrArg (fun b => some (Value.bool b)) hg5) (OpT_loadC rfl rfl rfl rfl tyF4 (i := 0) rfl rfl) ?_
  rintro _ rfl
  refine Tops_yes rfl rfl (congrArg (fun b => some (Value.bool b)) hg5) (OpT_move rfl rfl rfl rfl) ?_
  rintro _ rfl
  refine Tops_yes rfl rfl (congrArg (fun b => some (Value.bool b)) hg5) (OpT_bin rfl rfl rfl rfl rfl (bin_neq_b (a := place1.1.Packed) (b := packed) Try.underlying4)) ?_
  rintro _ rfl
  refine Tops_step rfl (OpT_pickF rfl rfl rfl (congrArg (fun b => some (Value.bool b)) hg5) rfl) ?_
  refine Tops_step rfl (OpT_move rfl rfl rfl rfl) ?_
  obtain ⟨hg6, h⟩ := chk_e h
  replace hg6 := not_t hg6
  refine Tops_yes rfl rfl (congrArg (fun b => some (Value.bool b)) hg6) (OpT_fieldC rfl rfl rfl rfl fldF27x1) ?_
  rintro _ rfl
  refine Tops_yes rfl rfl (congrArg (fun b => some (Value.bool b)) hg6) (OpT_loadC rfl rfl rfl rfl tyF3 (i := 0) rfl rfl) ?_
  rintro _ rfl
  refine Tops_yes rfl rfl (congrArg (fun b => some (Value.bool b)) hg6) (OpT_move rfl rfl rfl rfl) ?_
  rintro _ rfl
  refine Tops_yes rfl rfl (congrArg (fun b => some (Value.bool b)) hg6) (OpT_bin rfl rfl rfl rfl rfl (bin_neq_i (a := place1.1.Size) (b := size1))) ?_
  rintro _ rfl
  refine Tops_step rfl (OpT_pickF rfl rfl rfl (congrArg (fun b => some (Value.bool b)) hg6) rfl) ?_
  refine Tops_nil (Tk_wkS (fr' := [(2, some (vU64 (base % (100001 : UInt64)))), (8, some (.pointer (some ⟨b1, 0, none⟩))), (9, some (vU64 place1.2.1)), (72, some (vB (place1.1.Size != size1)))]) (own' := [some (cellsR b1 27 [vB place1.1.Packed, vI place1.1.Size, vU64 place1.1.Desc, vU64 place1.1.Driver, vU64 place1.1.Device])]) (shr' := []) [2, 8, 9, 72] [0] [] rfl rfl rfl rfl ?_)
  obtain ⟨hg7, h⟩ := chk_e h
  replace hg7 := not_t hg7
  refine Tk_condF (congrArg (fun b => some (Value.bool b)) hg7) ?_
  refine Tk_skip (Tk_seq (Tk_region (Tops_step rfl (OpT_loadCA (vs := [vB place1.1.Packed, vI place1.1.Size, vU64 place1.1.Desc, vU64 place1.1.Driver, vU64 place1.1.Device]) rfl rfl rfl rfl tyF27 (i := 0) rfl rfl rfl) ?_)))
  obtain ⟨parts1, hx5, h⟩ := ob_e h
  refine Tops_exP rfl (OpT_call (w_layout_Parts hx5) [] [] rfl rfl rfl rfl rfl callee11 rfl rfl rfl rfl) ?_
  rintro _ ⟨_, _, _, ⟨rfl, rfl, rfl⟩, rfl⟩
  refine Tops_step rfl (OpT_move rfl rfl rfl rfl) ?_
  refine Tops_step rfl (OpT_extract rfl rfl rfl rfl rfl) ?_
  refine Tops_step rfl (OpT_extract rfl rfl rfl rfl rfl) ?_
  refine Tops_step rfl (OpT_extract rfl rfl rfl rfl rfl) ?_
  refine Tops_step rfl (OpT_assign rfl rfl rfl rfl) ?_
  refine Tops_step rfl (OpT_assign rfl rfl rfl rfl) ?_
  refine Tops_step rfl (OpT_assign rfl rfl rfl rfl) ?_
  refine Tops_nil (Tk_wkS (fr' := [(2, some (vU64 (base % (100001 : UInt64)))), (8, some (.pointer (some ⟨b1, 0, none⟩))), (9, some (vU64 place1.2.1)), (11, some (vU64 parts1.1)), (12, some (vU64 parts1.2.1)), (13, some (vU64 parts1.2.2))]) (own' := [some (cellsR b1 27 [vB place1.1.Packed, vI place1.1.Size, vU64 place1.1.Desc, vU64 place1.1.Driver, vU64 place1.1.Device])]) (shr' := []) [2, 8, 9, 11, 12, 13] [0] [] rfl rfl rfl rfl ?_)
  refine Tk_seq (Tk_region (Tops_step rfl (OpT_move rfl rfl rfl rfl) ?_))
  refine Tops_step rfl (OpT_move rfl rfl rfl rfl) ?_
  refine Tops_step rfl (OpT_build (v := .agg #[vU64 (base % (100001 : UInt64)), vU64 place1.2.1]) rfl rfl rfl rfl (bldV (by kernel_rfl))) ?_
  refine Tops_ex rfl (OpT_buildSlice (S := RegionS) (xs := [(Region.mk (base % (100001 : UInt64)) place1.2.1)]) (css := [[vU64 (base % (100001 : UInt64)), vU64 place1.2.1]]) (cs := [vU64 (base % (100001 : UInt64)), vU64 place1.2.1]) (e := 44) rfl rfl rfl rfl (bldF slF45 (by decide) (by kernel_rfl)) rfl rfl rfl rfl (rel_plainD (S := RegionS) (xs := [(Region.mk (base % (100001 : UInt64)) place1.2.1)]) (css := [[vU64 (base % (100001 : UInt64)), vU64 place1.2.1]]) rfl rfl)) fun v1 => ?_
  refine Tops_retire (i := 1) rfl ?_
  obtain ⟨new1, hx6, h⟩ := ob_e h
  refine Tops_exP rfl (OpT_call (w_gmem_New hx6) [] [0] rfl rfl rfl rfl rfl callee16 rfl rfl rfl rfl) ?_
  rintro _ ⟨_, _, _, ⟨v2, rfl, rfl, rfl⟩, rfl⟩
  refine Tops_step rfl (OpT_move rfl rfl rfl rfl) ?_
  refine Tops_step rfl (OpT_extract rfl rfl rfl rfl rfl) ?_
  refine Tops_step rfl (OpT_extract rfl rfl rfl rfl rfl) ?_
  refine Tops_step rfl (OpT_assign rfl rfl rfl rfl) ?_
  refine Tops_step rfl (OpT_assign rfl rfl rfl rfl) ?_
  refine Tops_nil (Tk_wkS (fr' := [(2, some (vU64 (base % (100001 : UInt64)))), (8, some (.pointer (some ⟨b1, 0, none⟩))), (9, some (vU64 place1.2.1)), (11, some (vU64 parts1.1)), (12, some (vU64 parts1.2.1)), (13, some (vU64 parts1.2.2)), (14, some (v2)), (15, some (vI new1.2))]) (own' := [some (cellsR b1 27 [vB place1.1.Packed, vI place1.1.Size, vU64 place1.1.Desc, vU64 place1.1.Driver, vU64 place1.1.Device]), some (optR 72 RegionS u8S true gmem_Mem.l gmem_Mem.b v2 new1.1)]) (shr' := []) [2, 8, 9, 11, 12, 13, 14, 15] [0, 2] [] rfl rfl rfl rfl ?_)
  rcases onO_cases h with ⟨ho1, h⟩ | ⟨mem1, ho1, h⟩
  ·cases h
  ·refine Tk_optS (i := 1) rfl ho1 ?_
   rintro b2 v3 v4 vs1 rfl
   refine Tk_seq (Tk_region (Tops_step rfl (OpT_move rfl rfl rfl rfl) ?_))
   refine Tops_step rfl (OpT_move rfl rfl rfl rfl) ?_
   refine Tops_step rfl (OpT_bin rfl rfl rfl rfl rfl (bin_sub_u64 (a := place1.2.1) (b := (1 : UInt64)))) ?_
   refine Tops_step rfl (OpT_build (v := .agg #[vU64 (base % (100001 : UInt64)), vU64 (place1.2.1 - (1 : UInt64))]) rfl rfl rfl rfl (bldV (by kernel_rfl))) ?_
   refine Tops_ex rfl (OpT_buildSlice (S := RegionS) (xs := [(Region.mk (base % (100001 : UInt64)) (place1.2.1 - (1 : UInt64)))]) (css := [[vU64 (base % (100001 : UInt64)), vU64 (place1.2.1 - (1 : UInt64))]]) (cs := [vU64 (base % (100001 : UInt64)), vU64 (place1.2.1 - (1 : UInt64))]) (e := 44) rfl rfl rfl rfl (bldF slF45 (by decide) (by kernel_rfl)) rfl rfl rfl rfl (rel_plainD (S := RegionS) (xs := [(Region.mk (base % (100001 : UInt64)) (place1.2.1 - (1 : UInt64)))]) (css := [[vU64 (base % (100001 : UInt64)), vU64 (place1.2.1 - (1 : UInt64))]]) rfl rfl)) fun v5 => ?_
   refine Tops_retire (i := 3) rfl ?_
   obtain ⟨new2, hx7, h⟩ := ob_e h
   refine Tops_exP rfl (OpT_call (w_gmem_New hx7) [] [1] rfl rfl rfl rfl rfl callee16 rfl rfl rfl rfl) ?_
   rintro _ ⟨_, _, _, ⟨v6, rfl, rfl, rfl⟩, rfl⟩
   refine Tops_step rfl (OpT_move rfl rfl rfl rfl) ?_
   refine Tops_step rfl (OpT_extract rfl rfl rfl rfl rfl) ?_
   refine Tops_step rfl (OpT_extract rfl rfl rfl rfl rfl) ?_
   refine Tops_step rfl (OpT_assign rfl rfl rfl rfl) ?_
   refine Tops_step rfl (OpT_assign rfl rfl rfl rfl) ?_
   refine Tops_nil (Tk_wkS (fr' := [(8, some (.pointer (some ⟨b1, 0, none⟩))), (9, some (vU64 place1.2.1)), (11, some (vU64 parts1.1)), (12, some (vU64 parts1.2.1)), (13, some (vU64 parts1.2.2)), (14, some (.pointer (some ⟨b2, 0, none⟩))), (15, some (vI new1.2)), (16, some (v6)), (17, some (vI new2.2))]) (own' := [some (cellsR b1 27 [vB place1.1.Packed, vI place1.1.Size, vU64 place1.1.Desc, vU64 place1.1.Driver, vU64 place1.1.Device]), some (cellsR b2 72 [v3, v4]), some (rowsX u8S true v4 vs1 mem1.b none), some (optR 72 RegionS u8S true gmem_Mem.l gmem_Mem.b v6 new2.1)]) (shr' := [Fact.sl RegionS v3 mem1.l]) [8, 9, 11, 12, 13, 14, 15, 16, 17] [0, 1, 2, 4] [0] rfl rfl rfl rfl ?_)
   rcases onO_cases h with ⟨ho2, h⟩ | ⟨mem2, ho2, h⟩
   ·cases h
   ·refine Tk_optS (i := 3) rfl ho2 ?_
    rintro b3 v7 v8 vs2 rfl
    refine Tk_seq (Tk_region (Tops_step rfl (OpT_move rfl rfl rfl rfl) ?_))
    refine Tops_step rfl (OpT_bin rfl rfl rfl rfl rfl (bin_eql_i (a := new1.2) (b := (0 : Int)))) ?_
    refine Tops_step rfl (OpT_move rfl rfl rfl rfl) ?_
    obtain ⟨hg8, h⟩ := chk_e h
    refine Tops_yes rfl rfl (congrArg (fun b => some (Value.bool b)) hg8) (OpT_move rfl rfl rfl rfl) ?_
    rintro _ rfl
    refine Tops_yes rfl rfl (congrArg (fun b => some (Value.bool b)) hg8) (OpT_bin rfl rfl rfl rfl rfl (bin_eql_i (a := new2.2) (b := (0 : Int)))) ?_
    rintro _ rfl
    refine Tops_step rfl (OpT_pickT rfl rfl rfl (congrArg (fun b => some (Value.bool b)) hg8) rfl) ?_
    refine Tops_step rfl (OpT_move rfl rfl rfl rfl) ?_
    obtain ⟨hg9, h⟩ := chk_e h
    refine Tops_yes rfl rfl (congrArg (fun b => some (Value.bool b)) hg9) (OpT_move rfl rfl rfl rfl) ?_
    rintro _ rfl
    refine Tops_yes rfl rfl (congrArg (fun b => some (Value.bool b)) hg9) (OpT_loadCA (vs := [vB place1.1.Packed, vI place1.1.Size, vU64 place1.1.Desc, vU64 place1.1.Driver, vU64 place1.1.Device]) rfl rfl rfl rfl tyF27 (i := 0) rfl rfl rfl) ?_
    rintro _ rfl
    obtain ⟨fits1, hx8, h⟩ := ob_e h
    refine Tops_yes rfl rfl (congrArg (fun b => some (Value.bool b)) hg9) (OpT_callP [0, 5, 6, 3, 4] (w_layout_Fits hx8) [1, 2] [0] rfl rfl rfl rfl rfl callee17 rfl rfl rfl rfl rfl) ?_
    rintro _ ⟨_, _, _, ⟨rfl, rfl, rfl⟩, rfl⟩
    refine Tops_yes rfl rfl (congrArg (fun b => some (Value.bool b)) hg9) (OpT_bin rfl rfl rfl rfl rfl (bin_eql_i (a := fits1) (b := (0 : Int)))) ?_
    rintro _ rfl
    refine Tops_step rfl (OpT_pickT rfl rfl rfl (congrArg (fun b => some (Value.bool b)) hg9) rfl) ?_
    refine Tops_step rfl (OpT_move rfl rfl rfl rfl) ?_
    obtain ⟨hg10, h⟩ := chk_e h
    refine Tops_yes rfl rfl (congrArg (fun b => some (Value.bool b)) hg10) (OpT_move rfl rfl rfl rfl) ?_
    rintro _ rfl
    refine Tops_yes rfl rfl (congrArg (fun b => some (Value.bool b)) hg10) (OpT_loadCA (vs := [vB place1.1.Packed, vI place1.1.Size, vU64 place1.1.Desc, vU64 place1.1.Driver, vU64 place1.1.Device]) rfl rfl rfl rfl tyF27 (i := 0) rfl rfl rfl) ?_
    rintro _ rfl
    obtain ⟨fits2, hx9, h⟩ := ob_e h
    refine Tops_yes rfl rfl (congrArg (fun b => some (Value.bool b)) hg10) (OpT_callP [0, 1, 2, 5, 6] (w_layout_Fits hx9) [3, 4] [1] rfl rfl rfl rfl rfl callee17 rfl rfl rfl rfl rfl) ?_
    rintro _ ⟨_, _, _, ⟨rfl, rfl, rfl⟩, rfl⟩
    refine Tops_yes rfl rfl (congrArg (fun b => some (Value.bool b)) hg10) (OpT_bin rfl rfl rfl rfl rfl (bin_eql_i (a := fits2) (b := (5 : Int)))) ?_
    rintro _ rfl
    refine Tops_step rfl (OpT_pickT rfl rfl rfl (congrArg (fun b => some (Value.bool b)) hg10) rfl) ?_
    refine Tops_step rfl (OpT_move rfl rfl rfl rfl) ?_
    obtain ⟨hg11, h⟩ := chk_e h
    refine Tops_yes rfl rfl (congrArg (fun b => some (Value.bool b)) hg11) (OpT_move rfl rfl rfl rfl) ?_
    rintro _ rfl
    refine Tops_yes rfl rfl (congrArg (fun b => some (Value.bool b)) hg11) (OpT_move rfl rfl rfl rfl) ?_
    rintro _ rfl
    refine Tops_yes rfl rfl (congrArg (fun b => some (Value.bool b)) hg11) (OpT_bin rfl rfl rfl rfl rfl (bin_add_u64 (a := parts1.1) (b := parts1.2.1))) ?_
    rintro _ rfl
    refine Tops_yes rfl rfl (congrArg (fun b => some (Value.bool b)) hg11) (OpT_move rfl rfl rfl rfl) ?_
    rintro _ rfl
    refine Tops_yes rfl rfl (congrArg (fun b => some (Value.bool b)) hg11) (OpT_bin rfl rfl rfl rfl rfl (bin_add_u64 (a := parts1.1 + parts1.2.1) (b := parts1.2.2))) ?_
    rintro _ rfl
    refine Tops_yes rfl rfl (congrArg (fun b => some (Value.bool b)) hg11) (OpT_move rfl rfl rfl rfl) ?_
    rintro _ rfl
    refine Tops_yes rfl rfl (congrArg (fun b => some (Value.bool b)) hg11) (OpT_bin rfl rfl rfl rfl rfl (bin_leq_u64 (a := (parts1.1 + parts1.2.1) + parts1.2.2) (b := place1.2.1))) ?_
    rintro _ rfl
    refine Tops_step rfl (OpT_pickT rfl rfl rfl (congrArg (fun b => some (Value.bool b)) hg11) rfl) ?_
    refine Tops_step rfl (OpT_move rfl rfl rfl rfl) ?_
    obtain ⟨hg12, h⟩ := chk_e h
    refine Tops_yes rfl rfl (congrArg (fun b => some (Value.bool b)) hg12) (OpT_move rfl rfl rfl rfl) ?_
    rintro _ rfl
    refine Tops_yes rfl rfl (congrArg (fun b => some (Value.bool b)) hg12) (OpT_move rfl rfl rfl rfl) ?_
    rintro _ rfl
    refine Tops_yes rfl rfl (congrArg (fun b => some (Value.bool b)) hg12) (OpT_move rfl rfl rfl rfl) ?_
    rintro _ rfl
    refine Tops_yes rfl rfl (congrArg (fun b => some (Value.bool b)) hg12) (OpT_bin rfl rfl rfl rfl rfl (bin_add_u64 (a := parts1.1) (b := parts1.2.1))) ?_
    rintro _ rfl
    refine Tops_yes rfl rfl (congrArg (fun b => some (Value.bool b)) hg12) (OpT_move rfl rfl rfl rfl) ?_
    rintro _ rfl
    refine Tops_yes rfl rfl (congrArg (fun b => some (Value.bool b)) hg12) (OpT_bin rfl rfl rfl rfl rfl (bin_add_u64 (a := parts1.1 + parts1.2.1) (b := parts1.2.2))) ?_
    rintro _ rfl
    refine Tops_yes rfl rfl (congrArg (fun b => some (Value.bool b)) hg12) (OpT_bin rfl rfl rfl rfl rfl (bin_add_u64 (a := (parts1.1 + parts1.2.1) + parts1.2.2) (b := (15 : UInt64)))) ?_
    rintro _ rfl
    refine Tops_yes rfl rfl (congrArg (fun b => some (Value.bool b)) hg12) (OpT_bin rfl rfl rfl rfl rfl (bin_add_u64 (a := ((parts1.1 + parts1.2.1) + parts1.2.2) + (15 : UInt64)) (b := (3 : UInt64)))) ?_
    rintro _ rfl
    refine Tops_yes rfl rfl (congrArg (fun b => some (Value.bool b)) hg12) (OpT_bin rfl rfl rfl rfl rfl (bin_add_u64 (a := (((parts1.1 + parts1.2.1) + parts1.2.2) + (15 : UInt64)) + (3 : UInt64)) (b := (3 : UInt64)))) ?_
    rintro _ rfl
    refine Tops_yes rfl rfl (congrArg (fun b => some (Value.bool b)) hg12) (OpT_bin rfl rfl rfl rfl rfl (bin_leq_u64 (a := place1.2.1) (b := ((((parts1.1 + parts1.2.1) + parts1.2.2) + (15 : UInt64)) + (3 : UInt64)) + (3 : UInt64)))) ?_
    rintro _ rfl
    refine Tops_step rfl (OpT_pickT rfl rfl rfl (congrArg (fun b => some (Value.bool b)) hg12) rfl) ?_
    refine Tops_step rfl (OpT_move rfl rfl rfl rfl) ?_
    obtain ⟨hg13, h⟩ := chk_e h
    refine Tops_yes rfl rfl (congrArg (fun b => some (Value.bool b)) hg13) (OpT_fieldC rfl rfl rfl rfl fldF27x3) ?_
    rintro _ rfl
    refine Tops_yes rfl rfl (congrArg (fun b => some (Value.bool b)) hg13) (OpT_loadC rfl rfl rfl rfl tyF22 (i := 0) rfl rfl) ?_
    rintro _ rfl
    refine Tops_yes rfl rfl (congrArg (fun b => some (Value.bool b)) hg13) (OpT_fieldC rfl rfl rfl rfl fldF27x2) ?_
    rintro _ rfl
    refine Tops_yes rfl rfl (congrArg (fun b => some (Value.bool b)) hg13) (OpT_loadC rfl rfl rfl rfl tyF22 (i := 0) rfl rfl) ?_
    rintro _ rfl
    refine Tops_yes rfl rfl (congrArg (fun b => some (Value.bool b)) hg13) (OpT_move rfl rfl rfl rfl) ?_
    rintro _ rfl
    refine Tops_yes rfl rfl (congrArg (fun b => some (Value.bool b)) hg13) (OpT_bin rfl rfl rfl rfl rfl (bin_add_u64 (a := place1.1.Desc) (b := parts1.1))) ?_
    rintro _ rfl
    refine Tops_yes rfl rfl (congrArg (fun b => some (Value.bool b)) hg13) (OpT_bin rfl rfl rfl rfl rfl (bin_geq_u64 (a := place1.1.Driver) (b := place1.1.Desc + parts1.1))) ?_
    rintro _ rfl
    refine Tops_step rfl (OpT_pickT rfl rfl rfl (congrArg (fun b => some (Value.bool b)) hg13) rfl) ?_
    refine Tops_step rfl (OpT_move rfl rfl rfl rfl) ?_
    obtain ⟨hg14, h⟩ := chk_e h
    refine Tops_yes rfl rfl (congrArg (fun b => some (Value.bool b)) hg14) (OpT_fieldC rfl rfl rfl rfl fldF27x4) ?_
    rintro _ rfl
    refine Tops_yes rfl rfl (congrArg (fun b => some (Value.bool b)) hg14) (OpT_loadC rfl rfl rfl rfl tyF22 (i := 0) rfl rfl) ?_
    rintro _ rfl
    refine Tops_yes rfl rfl (congrArg (fun b => some (Value.bool b)) hg14) (OpT_fieldC rfl rfl rfl rfl fldF27x3) ?_
    rintro _ rfl
    refine Tops_yes rfl rfl (congrArg (fun b => some (Value.bool b)) hg14) (OpT_loadC rfl rfl rfl rfl tyF22 (i := 0) rfl rfl) ?_
    rintro _ rfl
    refine Tops_yes rfl rfl (congrArg (fun b => some (Value.bool b)) hg14) (OpT_move rfl rfl rfl rfl) ?_
    rintro _ rfl
    refine Tops_yes rfl rfl (congrArg (fun b => some (Value.bool b)) hg14) (OpT_bin rfl rfl rfl rfl rfl (bin_add_u64 (a := place1.1.Driver) (b := parts1.2.1))) ?_
    rintro _ rfl
    refine Tops_yes rfl rfl (congrArg (fun b => some (Value.bool b)) hg14) (OpT_bin rfl rfl rfl rfl rfl (bin_geq_u64 (a := place1.1.Device) (b := place1.1.Driver + parts1.2.1))) ?_
    rintro _ rfl
    refine Tops_step rfl (OpT_pickT rfl rfl rfl (congrArg (fun b => some (Value.bool b)) hg14) rfl) ?_
    refine Tops_step rfl (OpT_assign rfl rfl rfl rfl) ?_
    refine Tops_nil (Tk_wkS (fr' := [(6, some (vB (decide (place1.1.Device ≥ (place1.1.Driver + parts1.2.1)))))]) (own' := []) (shr' := []) [6] [] [] rfl rfl rfl rfl ?_)
    obtain ⟨hg15, h⟩ := chk_e h
    exact Tk_retV rfl rfl (resA (vs := [.bool true]) rfl ⟨(congrArg (fun b => some (Value.bool b)) hg15), trivial⟩) [] [] rfl rfl rfl ⟨rfl, rfl, rfl⟩
 ·intro HJ1
  rcases Bool.eq_false_or_eq_true ((!packed)) with hg16 | hg16
  ·replace h := br_t hg16 h
   refine Tk_condT (congrArg (fun b => some (Value.bool b)) hg16) ?_
   refine Tk_seq (Tk_region (Tops_step rfl (OpT_assign rfl rfl rfl rfl) ?_))
   refine Tops_nil (Tk_wkS (fr' := [(0, some (vB packed)), (1, some (vI (wi ((1 : Int) + pick1)))), (2, some (vU64 base)), (7, some (vI (1 : Int)))]) (own' := []) (shr' := []) [0, 1, 2, 7] [] [] rfl rfl rfl rfl ?_)
   refine Tk_seq (Tk_block (Tk_loopS (σ := Int) [0, 1, 2, 7] [] [] (fun s => ⟨[(0, some (vB packed)), (1, some (vI (wi ((1 : Int) + pick1)))), (2, some (vU64 base)), (7, some (vI s))], [], []⟩) (fun nf2 s => law04zLayoutPlacesL2 packed base pick1 nf2 s = some true) fuel (1 : Int) h rfl rfl rfl rfl rfl (fun s h => by cases h) ?_))
   rintro nf2 k1 h
   replace h : law04zLayoutPlacesL2B packed base pick1 (law04zLayoutPlacesL2 packed base pick1 nf2) k1 = some true := h
   unfold law04zLayoutPlacesL2B at h
   refine Tk_seq (Tk_seq (Tk_region (Tops_step rfl (OpT_move rfl rfl rfl rfl) ?_)))
   refine Tops_step rfl (OpT_move rfl rfl rfl rfl) ?_
   refine Tops_step rfl (OpT_bin rfl rfl rfl rfl rfl (bin_lss_i (a := k1) (b := wi ((1 : Int) + pick1)))) ?_
   refine Tops_nil (Tk_wkS (fr' := [(0, some (vB packed)), (1, some (vI (wi ((1 : Int) + pick1)))), (2, some (vU64 base)), (7, some (vI k1)), (27, some (vB (decide (k1 < (wi ((1 : Int) + pick1))))))]) (own' := []) (shr' := []) [0, 1, 2, 7, 27] [] [] rfl rfl rfl rfl ?_)
   rcases Bool.eq_false_or_eq_true (decide (k1 < (wi ((1 : Int) + pick1)))) with hg17 | hg17
   ·replace h := br_t hg17 h
    refine Tk_condT (congrArg (fun b => some (Value.bool b)) hg17) ?_
    refine Tk_skip (Tk_block (Tk_region (Tops_step rfl (OpT_move rfl rfl rfl rfl) ?_)))
    refine Tops_step rfl (OpT_bin rfl rfl rfl rfl rfl (bin_mul_i (a := (2 : Int)) (b := k1))) ?_
    refine Tops_step rfl (OpT_assign rfl rfl rfl rfl) ?_
    refine Tops_nil (Tk_wkS (fr' := [(0, some (vB packed)), (1, some (vI (wi ((1 : Int) + pick1)))), (2, some (vU64 base)), (7, some (vI (wi ((2 : Int) * k1))))]) (own' := []) (shr' := []) [0, 1, 2, 7] [] [] rfl rfl rfl rfl ?_)
    refine Tk_blk ?_
    exact Tk_backS (wi ((2 : Int) * k1)) h [0, 1, 2, 7] [] [] rfl rfl rfl rfl rfl
   ·replace h := br_f hg17 h
    refine Tk_condF (congrArg (fun b => some (Value.bool b)) hg17) ?_
    refine Tk_exit _ rfl ?_
    refine Tk_region (Tops_step rfl (OpT_move rfl rfl rfl rfl) ?_)
    refine Tops_step rfl (OpT_assign rfl rfl rfl rfl) ?_
    refine Tops_nil (Tk_wkS (fr' := [(0, some (vB packed)), (1, some (vI k1)), (2, some (vU64 base))]) (own' := []) (shr' := []) [0, 1, 2] [] [] rfl rfl rfl rfl ?_)
    exact Tk_jmpS (HJ1 k1 h) [0, 1, 2] [] [] rfl rfl rfl rfl
  ·replace h := br_f hg16 h
   refine Tk_condF (congrArg (fun b => some (Value.bool b)) hg16) ?_
   refine Tk_skip ?_
   exact Tk_jmpS (HJ1 (wi ((1 : Int) + pick1)) h) [0, 1, 2] [] [] rfl rfl rfl rfl
end Go.Proofs.Ytbeendakebamhaa
