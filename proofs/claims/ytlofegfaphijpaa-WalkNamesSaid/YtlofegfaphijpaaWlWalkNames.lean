/- The law WalkNames is walked: it returns what its plain words say. No condition. -/
import Derived.Test.YtlofegfaphijpaaWa9
namespace Go.Proofs.Ytlofegfaphijpaa
attribute [local irreducible] sub

set_option maxRecDepth 100000 in
set_option maxHeartbeats 4000000 in
theorem w_law10zWalkNames   (h : law10zWalkNames = some true) :
  Ctr Try.prog 4 #[] [] []
   (fun rv own shr => rv = .bool true ∧ own = [] ∧ shr = []) := by
 unfold law10zWalkNames at h
 refine Ctr.mk (args := []) Try.func4 rfl rfl (fun R0 w0 B => ?_)
 refine Tk_seq (Tk_region (Tops_step rfl (OpT_assign rfl rfl rfl rfl) ?_))
 refine Tops_nil (Tk_wkS (fr' := []) (own' := []) (shr' := []) [] [] [] rfl rfl rfl rfl ?_)
 refine Tk_seq (Tk_region ?_)
 obtain ⟨place1, hx1, h⟩ := ob_e h
 refine Tops_exP rfl (OpT_call (w_ref_Place04 hx1) [] [] rfl rfl rfl rfl rfl callee15 rfl rfl rfl rfl) ?_
 rintro _ ⟨_, _, _, ⟨rfl, rfl, rfl⟩, rfl⟩
 refine Tops_step rfl (OpT_move rfl rfl rfl rfl) ?_
 refine Tops_step rfl (OpT_extract rfl rfl rfl rfl rfl) ?_
 refine Tops_step rfl (OpT_extract rfl rfl rfl rfl rfl) ?_
 refine Tops_step rfl (OpT_extract rfl rfl rfl rfl rfl) ?_
 refine Tops_ex rfl (OpT_alloc rfl rfl rfl tyZ29) fun b1 => ?_
 refine Tops_step rfl (OpT_storeC (cs' := [vB place1.1.Packed, vI place1.1.Size, vU64 place1.1.Desc, vU64 place1.1.Driver, vU64 place1.1.Device]) rfl rfl rfl rfl tyF29 (i := 0) rfl rfl rfl (one_of rfl) rfl) ?_
 refine Tops_step rfl (OpT_assign rfl rfl rfl rfl) ?_
 refine Tops_step rfl (OpT_assign rfl rfl rfl rfl) ?_
 refine Tops_nil (Tk_wkS (fr' := [(1, some (.pointer (some ⟨b1, 0, none⟩)))]) (own' := [some (cellsR b1 29 [vB place1.1.Packed, vI place1.1.Size, vU64 place1.1.Desc, vU64 place1.1.Driver, vU64 place1.1.Device])]) (shr' := []) [1] [0] [] rfl rfl rfl rfl ?_)
 refine Tk_seq (Tk_region ?_)
 obtain ⟨place2, hx2, h⟩ := ob_e h
 refine Tops_exP rfl (OpT_call (w_ref_Place04 hx2) [] [] rfl rfl rfl rfl rfl callee15 rfl rfl rfl rfl) ?_
 rintro _ ⟨_, _, _, ⟨rfl, rfl, rfl⟩, rfl⟩
 refine Tops_step rfl (OpT_move rfl rfl rfl rfl) ?_
 refine Tops_step rfl (OpT_extract rfl rfl rfl rfl rfl) ?_
 refine Tops_step rfl (OpT_extract rfl rfl rfl rfl rfl) ?_
 refine Tops_step rfl (OpT_extract rfl rfl rfl rfl rfl) ?_
 refine Tops_ex rfl (OpT_alloc rfl rfl rfl tyZ29) fun b2 => ?_
 refine Tops_step rfl (OpT_storeC (cs' := [vB place2.1.Packed, vI place2.1.Size, vU64 place2.1.Desc, vU64 place2.1.Driver, vU64 place2.1.Device]) rfl rfl rfl rfl tyF29 (i := 1) rfl rfl rfl (one_of rfl) rfl) ?_
 refine Tops_step rfl (OpT_assign rfl rfl rfl rfl) ?_
 refine Tops_step rfl (OpT_assign rfl rfl rfl rfl) ?_
 refine Tops_nil (Tk_wkS (fr' := [(1, some (.pointer (some ⟨b1, 0, none⟩))), (4, some (.pointer (some ⟨b2, 0, none⟩)))]) (own' := [some (cellsR b1 29 [vB place1.1.Packed, vI place1.1.Size, vU64 place1.1.Desc, vU64 place1.1.Driver, vU64 place1.1.Device]), some (cellsR b2 29 [vB place2.1.Packed, vI place2.1.Size, vU64 place2.1.Desc, vU64 place2.1.Driver, vU64 place2.1.Device])]) (shr' := []) [1, 4] [0, 1] [] rfl rfl rfl rfl ?_)
 refine Tk_seq (Tk_region (Tops_step rfl (OpT_build (v := .agg #[vU64 (0 : UInt64), vU64 (1000 : UInt64)]) rfl rfl rfl rfl (bldV (by kernel_rfl))) ?_))
 refine Tops_ex rfl (OpT_buildSlice (S := RegionS) (xs := [(Region.mk (0 : UInt64) (1000 : UInt64))]) (css := [[vU64 (0 : UInt64), vU64 (1000 : UInt64)]]) (cs := [vU64 (0 : UInt64), vU64 (1000 : UInt64)]) (e := 53) rfl rfl rfl rfl (bldF slF54 (by decide) (by kernel_rfl)) rfl rfl rfl rfl (rel_plainD (S := RegionS) (xs := [(Region.mk (0 : UInt64) (1000 : UInt64))]) (css := [[vU64 (0 : UInt64), vU64 (1000 : UInt64)]]) rfl rfl)) fun v1 => ?_
 refine Tops_retire (i := 2) rfl ?_
 obtain ⟨new1, hx3, h⟩ := ob_e h
 refine Tops_exP rfl (OpT_call (w_gmem_New hx3) [] [0] rfl rfl rfl rfl rfl callee16 rfl rfl rfl rfl) ?_
 rintro _ ⟨_, _, _, ⟨v2, rfl, rfl, rfl⟩, rfl⟩
 refine Tops_step rfl (OpT_move rfl rfl rfl rfl) ?_
 refine Tops_step rfl (OpT_extract rfl rfl rfl rfl rfl) ?_
 refine Tops_step rfl (OpT_extract rfl rfl rfl rfl rfl) ?_
 refine Tops_step rfl (OpT_assign rfl rfl rfl rfl) ?_
 refine Tops_step rfl (OpT_assign rfl rfl rfl rfl) ?_
 refine Tops_nil (Tk_wkS (fr' := [(1, some (.pointer (some ⟨b1, 0, none⟩))), (4, some (.pointer (some ⟨b2, 0, none⟩))), (7, some (v2))]) (own' := [some (cellsR b1 29 [vB place1.1.Packed, vI place1.1.Size, vU64 place1.1.Desc, vU64 place1.1.Driver, vU64 place1.1.Device]), some (cellsR b2 29 [vB place2.1.Packed, vI place2.1.Size, vU64 place2.1.Desc, vU64 place2.1.Driver, vU64 place2.1.Device]), some (optR 113 RegionS u8S true gmem_Mem.l gmem_Mem.b v2 new1.1)]) (shr' := []) [1, 4, 7] [0, 1, 3] [] rfl rfl rfl rfl ?_)
 rcases onO_cases h with ⟨ho1, h⟩ | ⟨mem1, ho1, h⟩
 ·cases h
 ·refine Tk_optS (i := 2) rfl ho1 ?_
  rintro b3 v3 v4 vs1 rfl
  refine Tk_seq (Tk_region (Tops_step rfl (OpT_loadCA (vs := [vB place1.1.Packed, vI place1.1.Size, vU64 place1.1.Desc, vU64 place1.1.Driver, vU64 place1.1.Device]) rfl rfl rfl rfl tyF29 (i := 0) rfl rfl rfl) ?_))
  obtain ⟨split1, hx4, h⟩ := ob_e h
  refine Tops_exP rfl (OpT_call (w_walk_Splitn0 hx4) [] [] rfl rfl rfl rfl rfl callee13 rfl rfl rfl rfl) ?_
  rintro _ ⟨_, _, _, ⟨v5, rfl, rfl, rfl⟩, rfl⟩
  refine Tops_step rfl (OpT_move rfl rfl rfl rfl) ?_
  refine Tops_step rfl (OpT_extract rfl rfl rfl rfl rfl) ?_
  refine Tops_step rfl (OpT_extract rfl rfl rfl rfl rfl) ?_
  refine Tops_step rfl (OpT_assign rfl rfl rfl rfl) ?_
  refine Tops_step rfl (OpT_assign rfl rfl rfl rfl) ?_
  refine Tops_nil (Tk_wkS (fr' := [(1, some (.pointer (some ⟨b1, 0, none⟩))), (4, some (.pointer (some ⟨b2, 0, none⟩))), (7, some (.pointer (some ⟨b3, 0, none⟩))), (10, some (vI split1.2))]) (own' := [some (cellsR b1 29 [vB place1.1.Packed, vI place1.1.Size, vU64 place1.1.Desc, vU64 place1.1.Driver, vU64 place1.1.Device]), some (cellsR b2 29 [vB place2.1.Packed, vI place2.1.Size, vU64 place2.1.Desc, vU64 place2.1.Driver, vU64 place2.1.Device]), some (cellsR b3 113 [v3, v4]), some (rowsX u8S true v4 vs1 mem1.b none)]) (shr' := [Fact.sl RegionS v3 mem1.l]) [1, 4, 7, 10] [0, 1, 2, 3] [0] rfl rfl rfl rfl ?_)
  refine Tk_seq (Tk_region (Tops_step rfl (OpT_move rfl rfl rfl rfl) ?_))
  refine Tops_step rfl (OpT_loadCA (vs := [vB place2.1.Packed, vI place2.1.Size, vU64 place2.1.Desc, vU64 place2.1.Driver, vU64 place2.1.Device]) rfl rfl rfl rfl tyF29 (i := 1) rfl rfl rfl) ?_
  obtain ⟨split2, hx5, h⟩ := ob_e h
  refine Tops_exP rfl (OpT_callP [0, 1, 4, 5] (w_walk_Split hx5) [2, 3] [0] rfl rfl rfl rfl rfl callee13 rfl rfl rfl rfl rfl) ?_
  rintro _ ⟨_, _, _, ⟨v6, rfl, rfl, rfl⟩, rfl⟩
  refine Tops_step rfl (OpT_move rfl rfl rfl rfl) ?_
  refine Tops_step rfl (OpT_extract rfl rfl rfl rfl rfl) ?_
  refine Tops_step rfl (OpT_extract rfl rfl rfl rfl rfl) ?_
  refine Tops_step rfl (OpT_assign rfl rfl rfl rfl) ?_
  refine Tops_step rfl (OpT_assign rfl rfl rfl rfl) ?_
  refine Tops_nil (Tk_wkS (fr' := [(1, some (.pointer (some ⟨b1, 0, none⟩))), (4, some (.pointer (some ⟨b2, 0, none⟩))), (7, some (.pointer (some ⟨b3, 0, none⟩))), (10, some (vI split1.2)), (12, some (vI split2.2))]) (own' := [some (cellsR b1 29 [vB place1.1.Packed, vI place1.1.Size, vU64 place1.1.Desc, vU64 place1.1.Driver, vU64 place1.1.Device]), some (cellsR b2 29 [vB place2.1.Packed, vI place2.1.Size, vU64 place2.1.Desc, vU64 place2.1.Driver, vU64 place2.1.Device]), some (cellsR b3 113 [v3, v4]), some (rowsX u8S true v4 vs1 mem1.b none)]) (shr' := [Fact.sl RegionS v3 mem1.l]) [1, 4, 7, 10, 12] [0, 1, 2, 3] [0] rfl rfl rfl rfl ?_)
  refine Tk_seq (Tk_region (Tops_step rfl (OpT_move rfl rfl rfl rfl) ?_))
  refine Tops_step rfl (OpT_loadCA (vs := [vB place1.1.Packed, vI place1.1.Size, vU64 place1.1.Desc, vU64 place1.1.Driver, vU64 place1.1.Device]) rfl rfl rfl rfl tyF29 (i := 0) rfl rfl rfl) ?_
  obtain ⟨split3, hx6, h⟩ := ob_e h
  refine Tops_exP rfl (OpT_callP [0, 1, 4, 5] (w_walk_Split hx6) [2, 3] [0] rfl rfl rfl rfl rfl callee13 rfl rfl rfl rfl rfl) ?_
  rintro _ ⟨_, _, _, ⟨v7, rfl, rfl, rfl⟩, rfl⟩
  refine Tops_step rfl (OpT_move rfl rfl rfl rfl) ?_
  refine Tops_step rfl (OpT_extract rfl rfl rfl rfl rfl) ?_
  refine Tops_step rfl (OpT_extract rfl rfl rfl rfl rfl) ?_
  refine Tops_step rfl (OpT_assign rfl rfl rfl rfl) ?_
  refine Tops_step rfl (OpT_assign rfl rfl rfl rfl) ?_
  refine Tops_nil (Tk_wkS (fr' := [(1, some (.pointer (some ⟨b1, 0, none⟩))), (4, some (.pointer (some ⟨b2, 0, none⟩))), (7, some (.pointer (some ⟨b3, 0, none⟩))), (10, some (vI split1.2)), (12, some (vI split2.2)), (14, some (vI split3.2))]) (own' := [some (cellsR b1 29 [vB place1.1.Packed, vI place1.1.Size, vU64 place1.1.Desc, vU64 place1.1.Driver, vU64 place1.1.Device]), some (cellsR b2 29 [vB place2.1.Packed, vI place2.1.Size, vU64 place2.1.Desc, vU64 place2.1.Driver, vU64 place2.1.Device]), some (cellsR b3 113 [v3, v4]), some (rowsX u8S true v4 vs1 mem1.b none)]) (shr' := [Fact.sl RegionS v3 mem1.l]) [1, 4, 7, 10, 12, 14] [0, 1, 2, 3] [0] rfl rfl rfl rfl ?_)
  refine Tk_seq (Tk_region (Tops_step rfl (OpT_move rfl rfl rfl rfl) ?_))
  refine Tops_step rfl (OpT_loadCA (vs := [vB place1.1.Packed, vI place1.1.Size, vU64 place1.1.Desc, vU64 place1.1.Driver, vU64 place1.1.Device]) rfl rfl rfl rfl tyF29 (i := 0) rfl rfl rfl) ?_
  obtain ⟨split4, hx7, h⟩ := ob_e h
  refine Tops_exP rfl (OpT_callP [0, 1, 4, 5] (w_walk_Split hx7) [2, 3] [0] rfl rfl rfl rfl rfl callee13 rfl rfl rfl rfl rfl) ?_
  rintro _ ⟨_, _, _, ⟨v8, rfl, rfl, rfl⟩, rfl⟩
  refine Tops_step rfl (OpT_move rfl rfl rfl rfl) ?_
  refine Tops_step rfl (OpT_extract rfl rfl rfl rfl rfl) ?_
  refine Tops_step rfl (OpT_extract rfl rfl rfl rfl rfl) ?_
  refine Tops_step rfl (OpT_assign rfl rfl rfl rfl) ?_
  refine Tops_step rfl (OpT_assign rfl rfl rfl rfl) ?_
  refine Tops_nil (Tk_wkS (fr' := [(1, some (.pointer (some ⟨b1, 0, none⟩))), (4, some (.pointer (some ⟨b2, 0, none⟩))), (7, some (.pointer (some ⟨b3, 0, none⟩))), (10, some (vI split1.2)), (12, some (vI split2.2)), (14, some (vI split3.2)), (16, some (vI split4.2))]) (own' := [some (cellsR b1 29 [vB place1.1.Packed, vI place1.1.Size, vU64 place1.1.Desc, vU64 place1.1.Driver, vU64 place1.1.Device]), some (cellsR b2 29 [vB place2.1.Packed, vI place2.1.Size, vU64 place2.1.Desc, vU64 place2.1.Driver, vU64 place2.1.Device]), some (cellsR b3 113 [v3, v4]), some (rowsX u8S true v4 vs1 mem1.b none)]) (shr' := [Fact.sl RegionS v3 mem1.l]) [1, 4, 7, 10, 12, 14, 16] [0, 1, 2, 3] [0] rfl rfl rfl rfl ?_)
  refine Tk_seq (Tk_region (Tops_step rfl (OpT_move rfl rfl rfl rfl) ?_))
  refine Tops_step rfl (OpT_loadCA (vs := [vB place1.1.Packed, vI place1.1.Size, vU64 place1.1.Desc, vU64 place1.1.Driver, vU64 place1.1.Device]) rfl rfl rfl rfl tyF29 (i := 0) rfl rfl rfl) ?_
  refine Tops_step rfl (OpT_build (v := .agg #[vI (0 : Int), vB false]) rfl rfl rfl rfl (bldV (by kernel_rfl))) ?_
  obtain ⟨packed1, hx8, h⟩ := ob_e h
  refine Tops_exP rfl (OpT_callP [0, 1, 4, 5] (w_walk_Packed hx8) [2, 3] [0] rfl rfl rfl rfl rfl callee17 rfl rfl rfl rfl rfl) ?_
  rintro _ ⟨_, _, _, ⟨v9, rfl, rfl, rfl⟩, rfl⟩
  refine Tops_step rfl (OpT_move rfl rfl rfl rfl) ?_
  refine Tops_step rfl (OpT_extract rfl rfl rfl rfl rfl) ?_
  refine Tops_step rfl (OpT_extract rfl rfl rfl rfl rfl) ?_
  refine Tops_ex rfl (OpT_alloc rfl rfl rfl tyZ56) fun b4 => ?_
  refine Tops_step rfl (OpT_storeA1 (fun z0 => [vI packed1.1.ID, vI packed1.1.Count, z0]) (cs' := [vI packed1.1.ID, vI packed1.1.Count, v9]) rfl rfl rfl rfl tyF56 (i := 4) rfl (is_sl (i := 1) rfl) (fun _ _ _ => rfl) rfl rfl rfl) ?_
  refine Tops_step rfl (OpT_assign rfl rfl rfl rfl) ?_
  refine Tops_nil (Tk_wkS (fr' := [(1, some (.pointer (some ⟨b1, 0, none⟩))), (4, some (.pointer (some ⟨b2, 0, none⟩))), (7, some (.pointer (some ⟨b3, 0, none⟩))), (10, some (vI split1.2)), (12, some (vI split2.2)), (14, some (vI split3.2)), (16, some (vI split4.2)), (18, some (vI packed1.2))]) (own' := [some (cellsR b1 29 [vB place1.1.Packed, vI place1.1.Size, vU64 place1.1.Desc, vU64 place1.1.Driver, vU64 place1.1.Device]), some (cellsR b2 29 [vB place2.1.Packed, vI place2.1.Size, vU64 place2.1.Desc, vU64 place2.1.Driver, vU64 place2.1.Device]), some (cellsR b3 113 [v3, v4]), some (rowsX u8S true v4 vs1 mem1.b none)]) (shr' := [Fact.sl RegionS v3 mem1.l]) [1, 4, 7, 10, 12, 14, 16, 18] [0, 1, 2, 3] [0] rfl rfl rfl rfl ?_)
  refine Tk_seq (Tk_region (Tops_step rfl (OpT_move rfl rfl rfl rfl) ?_))
  refine Tops_step rfl (OpT_loadCA (vs := [vB place2.1.Packed, vI place2.1.Size, vU64 place2.1.Desc, vU64 place2.1.Driver, vU64 place2.1.Device]) rfl rfl rfl rfl tyF29 (i := 1) rfl rfl rfl) ?_
  refine Tops_step rfl (OpT_build (v := .agg #[vI (4 : Int), vB false]) rfl rfl rfl rfl (bldV (by kernel_rfl))) ?_
  obtain ⟨packed2, hx9, h⟩ := ob_e h
  refine Tops_exP rfl (OpT_callP [0, 1, 4, 5] (w_walk_Packed hx9) [2, 3] [0] rfl rfl rfl rfl rfl callee17 rfl rfl rfl rfl rfl) ?_
  rintro _ ⟨_, _, _, ⟨v10, rfl, rfl, rfl⟩, rfl⟩
  refine Tops_step rfl (OpT_move rfl rfl rfl rfl) ?_
  refine Tops_step rfl (OpT_extract rfl rfl rfl rfl rfl) ?_
  refine Tops_step rfl (OpT_extract rfl rfl rfl rfl rfl) ?_
  refine Tops_ex rfl (OpT_alloc rfl rfl rfl tyZ56) fun b5 => ?_
  refine Tops_step rfl (OpT_storeA1 (fun z0 => [vI packed2.1.ID, vI packed2.1.Count, z0]) (cs' := [vI packed2.1.ID, vI packed2.1.Count, v10]) rfl rfl rfl rfl tyF56 (i := 4) rfl (is_sl (i := 1) rfl) (fun _ _ _ => rfl) rfl rfl rfl) ?_
  refine Tops_step rfl (OpT_assign rfl rfl rfl rfl) ?_
  refine Tops_nil (Tk_wkS (fr' := [(1, some (.pointer (some ⟨b1, 0, none⟩))), (7, some (.pointer (some ⟨b3, 0, none⟩))), (10, some (vI split1.2)), (12, some (vI split2.2)), (14, some (vI split3.2)), (16, some (vI split4.2)), (18, some (vI packed1.2)), (20, some (vI packed2.2))]) (own' := [some (cellsR b1 29 [vB place1.1.Packed, vI place1.1.Size, vU64 place1.1.Desc, vU64 place1.1.Driver, vU64 place1.1.Device]), some (cellsR b3 113 [v3, v4]), some (rowsX u8S true v4 vs1 mem1.b none)]) (shr' := [Fact.sl RegionS v3 mem1.l]) [1, 7, 10, 12, 14, 16, 18, 20] [0, 2, 3] [0] rfl rfl rfl rfl ?_)
  refine Tk_seq (Tk_region (Tops_step rfl (OpT_move rfl rfl rfl rfl) ?_))
  refine Tops_step rfl (OpT_build (v := .agg #[vU64 (512 : UInt64), vU32 (16 : UInt32), vU16 (4 : UInt16), vU16 (0 : UInt16)]) rfl rfl rfl rfl (bldV (by kernel_rfl))) ?_
  obtain ⟨bytes1, hx10, h⟩ := ob_e h
  refine Tops_exP rfl (OpT_call (w_ref_Bytes03 hx10) [] [] rfl rfl rfl rfl rfl callee12 rfl rfl rfl rfl) ?_
  rintro _ ⟨v11, _, _, ⟨_, rfl, rfl, rfl⟩, rfl⟩
  obtain ⟨write1, hx11, h⟩ := ob_e h
  refine Tops_exP rfl (OpT_callB [3] [0, 4, 5, 3] (w_gmem_Mem_Write hx11) [1, 2] rfl rfl rfl rfl rfl callee11 rfl rfl rfl rfl rfl rfl (bor_cons (bor_shr 0 rfl) (bor_cons (bor_row 3 rfl rfl) bor_nil)) (by rintro _ _ _ ⟨rfl, rfl, rfl⟩; exact ⟨rfl, (ri_cons (ri_cells _ _ _) (ri_cons (ri_rows rfl _ _ _ _ _) ri_nil))⟩)) ?_
  rintro _ ⟨_, _, _, ⟨rfl, rfl, rfl⟩, rfl⟩
  refine Tops_nil (Tk_wkS (fr' := [(1, some (.pointer (some ⟨b1, 0, none⟩))), (7, some (.pointer (some ⟨b3, 0, none⟩))), (10, some (vI split1.2)), (12, some (vI split2.2)), (14, some (vI split3.2)), (16, some (vI split4.2)), (18, some (vI packed1.2)), (20, some (vI packed2.2))]) (own' := [some (cellsR b1 29 [vB place1.1.Packed, vI place1.1.Size, vU64 place1.1.Desc, vU64 place1.1.Driver, vU64 place1.1.Device]), some (cellsR b3 113 [v3, v4]), some (rowsX u8S true v4 vs1 write1.2 none)]) (shr' := [Fact.sl RegionS v3 mem1.l]) [1, 7, 10, 12, 14, 16, 18, 20] [0, 1, 2] [0] rfl rfl rfl rfl ?_)
  refine Tk_seq (Tk_region (Tops_step rfl (OpT_move rfl rfl rfl rfl) ?_))
  refine Tops_step rfl (OpT_build (v := .agg #[vU64 (300 : UInt64), vU32 (7 : UInt32), vU16 (2 : UInt16), vU16 (0 : UInt16)]) rfl rfl rfl rfl (bldV (by kernel_rfl))) ?_
  obtain ⟨bytes2, hx12, h⟩ := ob_e h
  refine Tops_exP rfl (OpT_call (w_ref_Bytes03 hx12) [] [] rfl rfl rfl rfl rfl callee12 rfl rfl rfl rfl) ?_
  rintro _ ⟨v12, _, _, ⟨_, rfl, rfl, rfl⟩, rfl⟩
  obtain ⟨write2, hx13, h⟩ := ob_e h
  refine Tops_exP rfl (OpT_callB [3] [0, 4, 5, 3] (w_gmem_Mem_Write hx13) [1, 2] rfl rfl rfl rfl rfl callee11 rfl rfl rfl rfl rfl rfl (bor_cons (bor_shr 0 rfl) (bor_cons (bor_row 3 rfl rfl) bor_nil)) (by rintro _ _ _ ⟨rfl, rfl, rfl⟩; exact ⟨rfl, (ri_cons (ri_cells _ _ _) (ri_cons (ri_rows rfl _ _ _ _ _) ri_nil))⟩)) ?_
  rintro _ ⟨_, _, _, ⟨rfl, rfl, rfl⟩, rfl⟩
  refine Tops_nil (Tk_wkS (fr' := [(1, some (.pointer (some ⟨b1, 0, none⟩))), (7, some (.pointer (some ⟨b3, 0, none⟩))), (10, some (vI split1.2)), (12, some (vI split2.2)), (14, some (vI split3.2)), (16, some (vI split4.2)), (18, some (vI packed1.2)), (20, some (vI packed2.2))]) (own' := [some (cellsR b1 29 [vB place1.1.Packed, vI place1.1.Size, vU64 place1.1.Desc, vU64 place1.1.Driver, vU64 place1.1.Device]), some (cellsR b3 113 [v3, v4]), some (rowsX u8S true v4 vs1 write2.2 none)]) (shr' := [Fact.sl RegionS v3 mem1.l]) [1, 7, 10, 12, 14, 16, 18, 20] [0, 1, 2] [0] rfl rfl rfl rfl ?_)
  refine Tk_seq (Tk_region (Tops_step rfl (OpT_move rfl rfl rfl rfl) ?_))
  refine Tops_step rfl (OpT_loadCA (vs := [vB place1.1.Packed, vI place1.1.Size, vU64 place1.1.Desc, vU64 place1.1.Driver, vU64 place1.1.Device]) rfl rfl rfl rfl tyF29 (i := 0) rfl rfl rfl) ?_
  obtain ⟨split5, hx14, h⟩ := ob_e h
  refine Tops_exP rfl (OpT_callP [0, 3, 4] (w_walk_Split hx14) [1, 2] [0] rfl rfl rfl rfl rfl callee13 rfl rfl rfl rfl rfl) ?_
  rintro _ ⟨_, _, _, ⟨v13, rfl, rfl, rfl⟩, rfl⟩
  refine Tops_step rfl (OpT_move rfl rfl rfl rfl) ?_
  refine Tops_step rfl (OpT_extract rfl rfl rfl rfl rfl) ?_
  refine Tops_step rfl (OpT_extract rfl rfl rfl rfl rfl) ?_
  refine Tops_step rfl (OpT_assign rfl rfl rfl rfl) ?_
  refine Tops_step rfl (OpT_assign rfl rfl rfl rfl) ?_
  refine Tops_nil (Tk_wkS (fr' := [(1, some (.pointer (some ⟨b1, 0, none⟩))), (7, some (.pointer (some ⟨b3, 0, none⟩))), (10, some (vI split1.2)), (12, some (vI split2.2)), (14, some (vI split3.2)), (16, some (vI split4.2)), (18, some (vI packed1.2)), (20, some (vI packed2.2)), (21, some (v13)), (22, some (vI split5.2))]) (own' := [some (cellsR b1 29 [vB place1.1.Packed, vI place1.1.Size, vU64 place1.1.Desc, vU64 place1.1.Driver, vU64 place1.1.Device]), some (cellsR b3 113 [v3, v4]), some (rowsX u8S true v4 vs1 write2.2 none)]) (shr' := [Fact.sl RegionS v3 mem1.l, Fact.sl SegS v13 split5.1]) [1, 7, 10, 12, 14, 16, 18, 20, 21, 22] [0, 1, 2] [0, 1] rfl rfl rfl rfl ?_)
  refine Tk_seq (Tk_region (Tops_step rfl (OpT_move rfl rfl rfl rfl) ?_))
  refine Tops_step rfl (OpT_loadCA (vs := [vB place1.1.Packed, vI place1.1.Size, vU64 place1.1.Desc, vU64 place1.1.Driver, vU64 place1.1.Device]) rfl rfl rfl rfl tyF29 (i := 0) rfl rfl rfl) ?_
  obtain ⟨split6, hx15, h⟩ := ob_e h
  refine Tops_exP rfl (OpT_callP [0, 3, 4] (w_walk_Split hx15) [1, 2] [0] rfl rfl rfl rfl rfl callee13 rfl rfl rfl rfl rfl) ?_
  rintro _ ⟨_, _, _, ⟨v14, rfl, rfl, rfl⟩, rfl⟩
  refine Tops_step rfl (OpT_move rfl rfl rfl rfl) ?_
  refine Tops_step rfl (OpT_extract rfl rfl rfl rfl rfl) ?_
  refine Tops_step rfl (OpT_extract rfl rfl rfl rfl rfl) ?_
  refine Tops_step rfl (OpT_assign rfl rfl rfl rfl) ?_
  refine Tops_step rfl (OpT_assign rfl rfl rfl rfl) ?_
  refine Tops_nil (Tk_wkS (fr' := [(1, some (.pointer (some ⟨b1, 0, none⟩))), (7, some (.pointer (some ⟨b3, 0, none⟩))), (10, some (vI split1.2)), (12, some (vI split2.2)), (14, some (vI split3.2)), (16, some (vI split4.2)), (18, some (vI packed1.2)), (20, some (vI packed2.2)), (21, some (v13)), (22, some (vI split5.2)), (24, some (vI split6.2))]) (own' := [some (cellsR b1 29 [vB place1.1.Packed, vI place1.1.Size, vU64 place1.1.Desc, vU64 place1.1.Driver, vU64 place1.1.Device]), some (cellsR b3 113 [v3, v4]), some (rowsX u8S true v4 vs1 write2.2 none)]) (shr' := [Fact.sl RegionS v3 mem1.l, Fact.sl SegS v13 split5.1]) [1, 7, 10, 12, 14, 16, 18, 20, 21, 22, 24] [0, 1, 2] [0, 1] rfl rfl rfl rfl ?_)
  refine Tk_seq (Tk_region ?_)
  obtain ⟨lives1, hx16, h⟩ := ob_e h
  refine Tops_exP rfl (OpT_call (w_law10zlives hx16) [] [] rfl rfl rfl rfl rfl callee8 rfl rfl rfl rfl) ?_
  rintro _ ⟨_, _, _, ⟨rfl, rfl, rfl⟩, rfl⟩
  refine Tops_step rfl (OpT_move rfl rfl rfl rfl) ?_
  obtain ⟨hg1, h⟩ := chk_e h
  refine Tops_yes rfl rfl (congrArg (fun b => some (Value.bool b)) hg1) (OpT_move rfl rfl rfl rfl) ?_
  rintro _ rfl
  refine Tops_yes rfl rfl (congrArg (fun b => some (Value.bool b)) hg1) (OpT_bin rfl rfl rfl rfl rfl (bin_eql_i (a := split1.2) (b := (1 : Int)))) ?_
  rintro _ rfl
  refine Tops_step rfl (OpT_pickT rfl rfl rfl (congrArg (fun b => some (Value.bool b)) hg1) rfl) ?_
  refine Tops_step rfl (OpT_move rfl rfl rfl rfl) ?_
  obtain ⟨hg2, h⟩ := chk_e h
  refine Tops_yes rfl rfl (congrArg (fun b => some (Value.bool b)) hg2) (OpT_move rfl rfl rfl rfl) ?_
  rintro _ rfl
  refine Tops_yes rfl rfl (congrArg (fun b => some (Value.bool b)) hg2) (OpT_bin rfl rfl rfl rfl rfl (bin_eql_i (a := split2.2) (b := (2 : Int)))) ?_
  rintro _ rfl
  refine Tops_step rfl (OpT_pickT rfl rfl rfl (congrArg (fun b => some (Value.bool b)) hg2) rfl) ?_
  refine Tops_step rfl (OpT_move rfl rfl rfl rfl) ?_
  obtain ⟨hg3, h⟩ := chk_e h
  refine Tops_yes rfl rfl (congrArg (fun b => some (Value.bool b)) hg3) (OpT_move rfl rfl rfl rfl) ?_
  rintro _ rfl
  refine Tops_yes rfl rfl (congrArg (fun b => some (Value.bool b)) hg3) (OpT_bin rfl rfl rfl rfl rfl (bin_eql_i (a := split3.2) (b := (4 : Int)))) ?_
  rintro _ rfl
  refine Tops_step rfl (OpT_pickT rfl rfl rfl (congrArg (fun b => some (Value.bool b)) hg3) rfl) ?_
  refine Tops_step rfl (OpT_move rfl rfl rfl rfl) ?_
  obtain ⟨hg4, h⟩ := chk_e h
  refine Tops_yes rfl rfl (congrArg (fun b => some (Value.bool b)) hg4) (OpT_move rfl rfl rfl rfl) ?_
  rintro _ rfl
  refine Tops_yes rfl rfl (congrArg (fun b => some (Value.bool b)) hg4) (OpT_bin rfl rfl rfl rfl rfl (bin_eql_i (a := split4.2) (b := (4 : Int)))) ?_
  rintro _ rfl
  refine Tops_step rfl (OpT_pickT rfl rfl rfl (congrArg (fun b => some (Value.bool b)) hg4) rfl) ?_
  refine Tops_step rfl (OpT_move rfl rfl rfl rfl) ?_
  obtain ⟨hg5, h⟩ := chk_e h
  refine Tops_yes rfl rfl (congrArg (fun b => some (Value.bool b)) hg5) (OpT_move rfl rfl rfl rfl) ?_
  rintro _ rfl
  refine Tops_yes rfl rfl (congrArg (fun b => some (Value.bool b)) hg5) (OpT_bin rfl rfl rfl rfl rfl (bin_eql_i (a := packed1.2) (b := (2 : Int)))) ?_
  rintro _ rfl
  refine Tops_step rfl (OpT_pickT rfl rfl rfl (congrArg (fun b => some (Value.bool b)) hg5) rfl) ?_
  refine Tops_step rfl (OpT_move rfl rfl rfl rfl) ?_
  obtain ⟨hg6, h⟩ := chk_e h
  refine Tops_yes rfl rfl (congrArg (fun b => some (Value.bool b)) hg6) (OpT_move rfl rfl rfl rfl) ?_
  rintro _ rfl
  refine Tops_yes rfl rfl (congrArg (fun b => some (Value.bool b)) hg6) (OpT_bin rfl rfl rfl rfl rfl (bin_eql_i (a := packed2.2) (b := (2 : Int)))) ?_
  rintro _ rfl
  refine Tops_step rfl (OpT_pickT rfl rfl rfl (congrArg (fun b => some (Value.bool b)) hg6) rfl) ?_
  refine Tops_step rfl (OpT_move rfl rfl rfl rfl) ?_
  obtain ⟨hg7, h⟩ := chk_e h
  refine Tops_yes rfl rfl (congrArg (fun b => some (Value.bool b)) hg7) (OpT_move rfl rfl rfl rfl) ?_
  rintro _ rfl
  refine Tops_yes rfl rfl (congrArg (fun b => some (Value.bool b)) hg7) (OpT_bin rfl rfl rfl rfl rfl (bin_eql_i (a := split5.2) (b := (0 : Int)))) ?_
  rintro _ rfl
  refine Tops_step rfl (OpT_pickT rfl rfl rfl (congrArg (fun b => some (Value.bool b)) hg7) rfl) ?_
  refine Tops_step rfl (OpT_move rfl rfl rfl rfl) ?_
  obtain ⟨hg8, h⟩ := chk_e h
  refine Tops_yes rfl rfl (congrArg (fun b => some (Value.bool b)) hg8) (OpT_move rfl rfl rfl rfl) ?_
  rintro _ rfl
  refine Tops_yes rfl rfl (congrArg (fun b => some (Value.bool b)) hg8) (OpT_build (v := .agg #[vU64 (300 : UInt64), vU32 (7 : UInt32), vB true]) rfl rfl rfl rfl (bldV (by kernel_rfl))) ?_
  rintro _ rfl
  refine Tops_yes rfl rfl (congrArg (fun b => some (Value.bool b)) hg8) (OpT_buildSlice (S := SegS) (xs := [(Seg.mk (300 : UInt64) (7 : UInt32) true)]) (css := [[vU64 (300 : UInt64), vU32 (7 : UInt32), vB true]]) (cs := [vU64 (300 : UInt64), vU32 (7 : UInt32), vB true]) (e := 46) rfl rfl rfl rfl (bldF slF41 (by decide) (by kernel_rfl)) rfl rfl rfl rfl (rel_plainD (S := SegS) (xs := [(Seg.mk (300 : UInt64) (7 : UInt32) true)]) (css := [[vU64 (300 : UInt64), vU32 (7 : UInt32), vB true]]) rfl rfl)) ?_
  rintro _ ⟨v15, rfl⟩
  obtain ⟨samese1, hx17, h⟩ := ob_e h
  refine Tops_yes rfl rfl (congrArg (fun b => some (Value.bool b)) hg8) (OpT_callB [3] [0, 1, 2, 3] (w_kit_SameSegs hx17) [] rfl rfl rfl rfl rfl callee18 rfl rfl rfl rfl rfl rfl (bor_cons (bor_shr 1 rfl) (bor_cons (bor_row 3 rfl rfl) bor_nil)) (by rintro _ _ _ ⟨rfl, rfl, rfl⟩; exact ⟨rfl, ri_nil⟩)) ?_
  rintro _ ⟨_, _, _, ⟨rfl, rfl, rfl⟩, rfl⟩
  refine Tops_step rfl (OpT_pickT rfl rfl rfl (congrArg (fun b => some (Value.bool b)) hg8) rfl) ?_
  refine Tops_step rfl (OpT_move rfl rfl rfl rfl) ?_
  obtain ⟨hg9, h⟩ := chk_e h
  refine Tops_yes rfl rfl (congrArg (fun b => some (Value.bool b)) hg9) (OpT_move rfl rfl rfl rfl) ?_
  rintro _ rfl
  refine Tops_yes rfl rfl (congrArg (fun b => some (Value.bool b)) hg9) (OpT_bin rfl rfl rfl rfl rfl (bin_eql_i (a := split6.2) (b := (4 : Int)))) ?_
  rintro _ rfl
  refine Tops_step rfl (OpT_pickT rfl rfl rfl (congrArg (fun b => some (Value.bool b)) hg9) rfl) ?_
  refine Tops_step rfl (OpT_move rfl rfl rfl rfl) ?_
  obtain ⟨hg10, h⟩ := chk_e h
  refine Tops_yes rfl rfl (congrArg (fun b => some (Value.bool b)) hg10) (OpT_move rfl rfl rfl rfl) ?_
  rintro _ rfl
  refine Tops_yes rfl rfl (congrArg (fun b => some (Value.bool b)) hg10) (OpT_loadCA (vs := [vB place1.1.Packed, vI place1.1.Size, vU64 place1.1.Desc, vU64 place1.1.Driver, vU64 place1.1.Device]) rfl rfl rfl rfl tyF29 (i := 0) rfl rfl rfl) ?_
  rintro _ rfl
  obtain ⟨reads1, hx18, h⟩ := ob_e h
  refine Tops_yes rfl rfl (congrArg (fun b => some (Value.bool b)) hg10) (OpT_callP [0, 4, 5, 3] (w_walk_Reads hx18) [1, 2] [0] rfl rfl rfl rfl rfl callee14 rfl rfl rfl rfl rfl) ?_
  rintro _ ⟨_, _, _, ⟨rfl, rfl, rfl⟩, rfl⟩
  refine Tops_yes rfl rfl (congrArg (fun b => some (Value.bool b)) hg10) (OpT_bin rfl rfl rfl rfl rfl (bin_eql_i (a := reads1) (b := (2 : Int)))) ?_
  rintro _ rfl
  refine Tops_step rfl (OpT_pickT rfl rfl rfl (congrArg (fun b => some (Value.bool b)) hg10) rfl) ?_
  refine Tops_step rfl (OpT_move rfl rfl rfl rfl) ?_
  obtain ⟨hg11, h⟩ := chk_e h
  refine Tops_yes rfl rfl (congrArg (fun b => some (Value.bool b)) hg11) (OpT_move rfl rfl rfl rfl) ?_
  rintro _ rfl
  refine Tops_yes rfl rfl (congrArg (fun b => some (Value.bool b)) hg11) (OpT_loadCA (vs := [vB place1.1.Packed, vI place1.1.Size, vU64 place1.1.Desc, vU64 place1.1.Driver, vU64 place1.1.Device]) rfl rfl rfl rfl tyF29 (i := 0) rfl rfl rfl) ?_
  rintro _ rfl
  obtain ⟨reads2, hx19, h⟩ := ob_e h
  refine Tops_yes rfl rfl (congrArg (fun b => some (Value.bool b)) hg11) (OpT_callP [0, 4, 5, 3] (w_walk_Reads hx19) [1, 2] [0] rfl rfl rfl rfl rfl callee14 rfl rfl rfl rfl rfl) ?_
  rintro _ ⟨_, _, _, ⟨rfl, rfl, rfl⟩, rfl⟩
  refine Tops_yes rfl rfl (congrArg (fun b => some (Value.bool b)) hg11) (OpT_bin rfl rfl rfl rfl rfl (bin_eql_i (a := reads2) (b := (0 : Int)))) ?_
  rintro _ rfl
  refine Tops_step rfl (OpT_pickT rfl rfl rfl (congrArg (fun b => some (Value.bool b)) hg11) rfl) ?_
  refine Tops_step rfl (OpT_move rfl rfl rfl rfl) ?_
  obtain ⟨hg12, h⟩ := chk_e h
  refine Tops_yes rfl rfl (congrArg (fun b => some (Value.bool b)) hg12) (OpT_loadCA (vs := [vB place1.1.Packed, vI place1.1.Size, vU64 place1.1.Desc, vU64 place1.1.Driver, vU64 place1.1.Device]) rfl rfl rfl rfl tyF29 (i := 0) rfl rfl rfl) ?_
  rintro _ rfl
  obtain ⟨reads3, hx20, h⟩ := ob_e h
  refine Tops_yes rfl rfl (congrArg (fun b => some (Value.bool b)) hg12) (OpT_call (w_walk_Readsn0 hx20) [] [] rfl rfl rfl rfl rfl callee14 rfl rfl rfl rfl) ?_
  rintro _ ⟨_, _, _, ⟨rfl, rfl, rfl⟩, rfl⟩
  refine Tops_yes rfl rfl (congrArg (fun b => some (Value.bool b)) hg12) (OpT_bin rfl rfl rfl rfl rfl (bin_eql_i (a := reads3) (b := (0 : Int)))) ?_
  rintro _ rfl
  refine Tops_step rfl (OpT_pickT rfl rfl rfl (congrArg (fun b => some (Value.bool b)) hg12) rfl) ?_
  refine Tops_step rfl (OpT_assign rfl rfl rfl rfl) ?_
  refine Tops_nil (Tk_wkS (fr' := [(0, some (vB (reads3 == (0 : Int))))]) (own' := []) (shr' := []) [0] [] [] rfl rfl rfl rfl ?_)
  obtain ⟨hg13, h⟩ := chk_e h
  exact Tk_retV rfl rfl (resA (vs := [.bool true]) rfl ⟨(congrArg (fun b => some (Value.bool b)) hg13), trivial⟩) [] [] rfl rfl rfl ⟨rfl, rfl, rfl⟩
end Go.Proofs.Ytlofegfaphijpaa
