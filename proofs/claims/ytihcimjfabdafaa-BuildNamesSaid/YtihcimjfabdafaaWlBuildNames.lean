/- The law BuildNames is walked: it returns what its plain words say. No condition. -/
import Derived.Test.YtihcimjfabdafaaWa3
namespace Go.Proofs.Ytihcimjfabdafaa
attribute [local irreducible] sub

set_option maxRecDepth 100000 in
set_option maxHeartbeats 4000000 in
theorem w_law09zBuildNames   (h : law09zBuildNames = some true) :
  Ctr Try.prog 3 #[] [] []
   (fun rv own shr => rv = .bool true ∧ own = [] ∧ shr = []) := by
 unfold law09zBuildNames at h
 refine Ctr.mk (args := []) Try.func3 rfl rfl (fun R0 w0 B => ?_)
 refine Tk_seq (Tk_region (Tops_step rfl (OpT_assign rfl rfl rfl rfl) ?_))
 refine Tops_nil (Tk_wkS (fr' := []) (own' := []) (shr' := []) [] [] [] rfl rfl rfl rfl ?_)
 refine Tk_seq (Tk_region (Tops_ex rfl (OpT_buildSlice (S := iS) (xs := [(1 : Int), (1 : Int)]) (css := [[vI (1 : Int)], [vI (1 : Int)]]) (cs := [vI (1 : Int), vI (1 : Int)]) (e := 3) rfl rfl rfl rfl (bldF slF26 (by decide) (by kernel_rfl)) rfl rfl rfl rfl (rel_plainD (S := iS) (xs := [(1 : Int), (1 : Int)]) (css := [[vI (1 : Int)], [vI (1 : Int)]]) rfl rfl)) fun v1 => ?_))
 obtain ⟨two1, hx1, h⟩ := ob_e h
 refine Tops_exP rfl (OpT_call (w_law09ztwo hx1) [] [] rfl rfl rfl rfl rfl callee8 rfl rfl rfl rfl) ?_
 rintro _ ⟨v2, _, _, ⟨_, rfl, rfl, rfl⟩, rfl⟩
 obtain ⟨split1, hx2, h⟩ := ob_e h
 refine Tops_exP rfl (OpT_callB [0, 1] [0, 1, 2] (w_build_Split hx2) [] rfl rfl rfl rfl rfl callee7 rfl rfl rfl rfl rfl rfl (bor_cons (bor_row 0 rfl rfl) (bor_cons (bor_row 1 rfl rfl) bor_nil)) (by rintro _ _ _ ⟨_, rfl, rfl, rfl⟩; exact ⟨rfl, (ri_cons (ri_row (S := PutS) rfl _ _) ri_nil)⟩)) ?_
 rintro _ ⟨_, _, _, ⟨v3, rfl, rfl, rfl⟩, rfl⟩
 refine Tops_step rfl (OpT_move rfl rfl rfl rfl) ?_
 refine Tops_step rfl (OpT_extract rfl rfl rfl rfl rfl) ?_
 refine Tops_step rfl (OpT_extract rfl rfl rfl rfl rfl) ?_
 refine Tops_step rfl (OpT_assign rfl rfl rfl rfl) ?_
 refine Tops_step rfl (OpT_assign rfl rfl rfl rfl) ?_
 refine Tops_nil (Tk_wkS (fr' := [(2, some (vI split1.2))]) (own' := []) (shr' := []) [2] [] [] rfl rfl rfl rfl ?_)
 refine Tk_seq (Tk_region (Tops_ex rfl (OpT_buildSlice (S := iS) (xs := [(1 : Int)]) (css := [[vI (1 : Int)]]) (cs := [vI (1 : Int)]) (e := 3) rfl rfl rfl rfl (bldF slF26 (by decide) (by kernel_rfl)) rfl rfl rfl rfl (rel_plainD (S := iS) (xs := [(1 : Int)]) (css := [[vI (1 : Int)]]) rfl rfl)) fun v4 => ?_))
 obtain ⟨two2, hx3, h⟩ := ob_e h
 refine Tops_exP rfl (OpT_call (w_law09ztwo hx3) [] [] rfl rfl rfl rfl rfl callee8 rfl rfl rfl rfl) ?_
 rintro _ ⟨v5, _, _, ⟨_, rfl, rfl, rfl⟩, rfl⟩
 obtain ⟨split2, hx4, h⟩ := ob_e h
 refine Tops_exP rfl (OpT_callB [0, 1] [0, 1, 2] (w_build_Split hx4) [] rfl rfl rfl rfl rfl callee7 rfl rfl rfl rfl rfl rfl (bor_cons (bor_row 0 rfl rfl) (bor_cons (bor_row 1 rfl rfl) bor_nil)) (by rintro _ _ _ ⟨_, rfl, rfl, rfl⟩; exact ⟨rfl, (ri_cons (ri_row (S := PutS) rfl _ _) ri_nil)⟩)) ?_
 rintro _ ⟨_, _, _, ⟨v6, rfl, rfl, rfl⟩, rfl⟩
 refine Tops_step rfl (OpT_move rfl rfl rfl rfl) ?_
 refine Tops_step rfl (OpT_extract rfl rfl rfl rfl rfl) ?_
 refine Tops_step rfl (OpT_extract rfl rfl rfl rfl rfl) ?_
 refine Tops_step rfl (OpT_assign rfl rfl rfl rfl) ?_
 refine Tops_step rfl (OpT_assign rfl rfl rfl rfl) ?_
 refine Tops_nil (Tk_wkS (fr' := [(2, some (vI split1.2)), (4, some (vI split2.2))]) (own' := []) (shr' := []) [2, 4] [] [] rfl rfl rfl rfl ?_)
 refine Tk_seq (Tk_region (Tops_nilfact iS ?_))
 refine Tops_nilfact SegS ?_
 obtain ⟨split3, hx5, h⟩ := ob_e h
 refine Tops_exP rfl (OpT_call (w_build_Split hx5) [] [0, 1] rfl rfl rfl rfl rfl callee7 rfl rfl rfl rfl) ?_
 rintro _ ⟨_, _, _, ⟨v7, rfl, rfl, rfl⟩, rfl⟩
 refine Tops_step rfl (OpT_move rfl rfl rfl rfl) ?_
 refine Tops_step rfl (OpT_extract rfl rfl rfl rfl rfl) ?_
 refine Tops_step rfl (OpT_extract rfl rfl rfl rfl rfl) ?_
 refine Tops_step rfl (OpT_assign rfl rfl rfl rfl) ?_
 refine Tops_step rfl (OpT_assign rfl rfl rfl rfl) ?_
 refine Tops_nil (Tk_wkS (fr' := [(2, some (vI split1.2)), (4, some (vI split2.2)), (6, some (vI split3.2))]) (own' := []) (shr' := []) [2, 4, 6] [] [] rfl rfl rfl rfl ?_)
 refine Tk_seq (Tk_region (Tops_step rfl (OpT_build (v := .agg #[vI (0 : Int), vB false]) rfl rfl rfl rfl (bldV (by kernel_rfl))) ?_))
 obtain ⟨two3, hx6, h⟩ := ob_e h
 refine Tops_exP rfl (OpT_call (w_law09ztwo hx6) [] [] rfl rfl rfl rfl rfl callee8 rfl rfl rfl rfl) ?_
 rintro _ ⟨v8, _, _, ⟨_, rfl, rfl, rfl⟩, rfl⟩
 obtain ⟨packed1, hx7, h⟩ := ob_e h
 refine Tops_exP rfl (OpT_callB [0] [0, 1] (w_build_Packed hx7) [] rfl rfl rfl rfl rfl callee9 rfl rfl rfl rfl rfl rfl (bor_cons (bor_row 0 rfl rfl) bor_nil) (by rintro _ _ _ ⟨_, rfl, rfl, rfl⟩; exact ⟨rfl, (ri_cons (ri_row (S := PutPackedS) rfl _ _) ri_nil)⟩)) ?_
 rintro _ ⟨_, _, _, ⟨v9, rfl, rfl, rfl⟩, rfl⟩
 refine Tops_step rfl (OpT_move rfl rfl rfl rfl) ?_
 refine Tops_step rfl (OpT_extract rfl rfl rfl rfl rfl) ?_
 refine Tops_step rfl (OpT_extract rfl rfl rfl rfl rfl) ?_
 refine Tops_step rfl (OpT_assign rfl rfl rfl rfl) ?_
 refine Tops_step rfl (OpT_assign rfl rfl rfl rfl) ?_
 refine Tops_nil (Tk_wkS (fr' := [(2, some (vI split1.2)), (4, some (vI split2.2)), (6, some (vI split3.2)), (8, some (vI packed1.2))]) (own' := []) (shr' := []) [2, 4, 6, 8] [] [] rfl rfl rfl rfl ?_)
 refine Tk_seq (Tk_region ?_)
 obtain ⟨splito1, hx8, h⟩ := ob_e h
 refine Tops_exP rfl (OpT_call (w_build_SplitOne hx8) [] [] rfl rfl rfl rfl rfl callee10 rfl rfl rfl rfl) ?_
 rintro _ ⟨_, _, _, ⟨rfl, rfl, rfl⟩, rfl⟩
 refine Tops_step rfl (OpT_move rfl rfl rfl rfl) ?_
 refine Tops_step rfl (OpT_extract rfl rfl rfl rfl rfl) ?_
 refine Tops_step rfl (OpT_extract rfl rfl rfl rfl rfl) ?_
 refine Tops_ex rfl (OpT_alloc rfl rfl rfl tyZ40) fun b1 => ?_
 refine Tops_step rfl (OpT_storeC (cs' := [vI splito1.1.At, vU64 splito1.1.Desc.Addr, vU32 splito1.1.Desc.Len, vU16 splito1.1.Desc.Flags, vU16 splito1.1.Desc.Next]) rfl rfl rfl rfl tyF40 (i := 0) rfl rfl rfl (one_of rfl) rfl) ?_
 refine Tops_step rfl (OpT_assign rfl rfl rfl rfl) ?_
 refine Tops_nil (Tk_wkS (fr' := [(2, some (vI split1.2)), (4, some (vI split2.2)), (6, some (vI split3.2)), (8, some (vI packed1.2)), (10, some (vI splito1.2))]) (own' := []) (shr' := []) [2, 4, 6, 8, 10] [] [] rfl rfl rfl rfl ?_)
 refine Tk_seq (Tk_region ?_)
 obtain ⟨splito2, hx9, h⟩ := ob_e h
 refine Tops_exP rfl (OpT_call (w_build_SplitOne hx9) [] [] rfl rfl rfl rfl rfl callee10 rfl rfl rfl rfl) ?_
 rintro _ ⟨_, _, _, ⟨rfl, rfl, rfl⟩, rfl⟩
 refine Tops_step rfl (OpT_move rfl rfl rfl rfl) ?_
 refine Tops_step rfl (OpT_extract rfl rfl rfl rfl rfl) ?_
 refine Tops_step rfl (OpT_extract rfl rfl rfl rfl rfl) ?_
 refine Tops_ex rfl (OpT_alloc rfl rfl rfl tyZ40) fun b2 => ?_
 refine Tops_step rfl (OpT_storeC (cs' := [vI splito2.1.At, vU64 splito2.1.Desc.Addr, vU32 splito2.1.Desc.Len, vU16 splito2.1.Desc.Flags, vU16 splito2.1.Desc.Next]) rfl rfl rfl rfl tyF40 (i := 0) rfl rfl rfl (one_of rfl) rfl) ?_
 refine Tops_step rfl (OpT_assign rfl rfl rfl rfl) ?_
 refine Tops_nil (Tk_wkS (fr' := [(2, some (vI split1.2)), (4, some (vI split2.2)), (6, some (vI split3.2)), (8, some (vI packed1.2)), (10, some (vI splito1.2)), (11, some (.pointer (some ⟨b2, 0, none⟩))), (12, some (vI splito2.2))]) (own' := [some (cellsR b2 40 [vI splito2.1.At, vU64 splito2.1.Desc.Addr, vU32 splito2.1.Desc.Len, vU16 splito2.1.Desc.Flags, vU16 splito2.1.Desc.Next])]) (shr' := []) [2, 4, 6, 8, 10, 11, 12] [0] [] rfl rfl rfl rfl ?_)
 refine Tk_seq (Tk_region (Tops_step rfl (OpT_build (v := .agg #[vI (0 : Int), vB false]) rfl rfl rfl rfl (bldV (by kernel_rfl))) ?_))
 obtain ⟨packed2, hx10, h⟩ := ob_e h
 refine Tops_exP rfl (OpT_call (w_build_PackedOne hx10) [] [] rfl rfl rfl rfl rfl callee11 rfl rfl rfl rfl) ?_
 rintro _ ⟨_, _, _, ⟨rfl, rfl, rfl⟩, rfl⟩
 refine Tops_step rfl (OpT_move rfl rfl rfl rfl) ?_
 refine Tops_step rfl (OpT_extract rfl rfl rfl rfl rfl) ?_
 refine Tops_step rfl (OpT_extract rfl rfl rfl rfl rfl) ?_
 refine Tops_ex rfl (OpT_alloc rfl rfl rfl tyZ46) fun b3 => ?_
 refine Tops_step rfl (OpT_storeC (cs' := [vI packed2.1.At, vU64 packed2.1.Desc.Addr, vU32 packed2.1.Desc.Len, vU16 packed2.1.Desc.ID, vU16 packed2.1.Desc.Flags]) rfl rfl rfl rfl tyF46 (i := 1) rfl rfl rfl (one_of rfl) rfl) ?_
 refine Tops_step rfl (OpT_assign rfl rfl rfl rfl) ?_
 refine Tops_nil (Tk_wkS (fr' := [(2, some (vI split1.2)), (4, some (vI split2.2)), (6, some (vI split3.2)), (8, some (vI packed1.2)), (10, some (vI splito1.2)), (11, some (.pointer (some ⟨b2, 0, none⟩))), (12, some (vI splito2.2)), (13, some (.pointer (some ⟨b3, 0, none⟩))), (14, some (vI packed2.2))]) (own' := [some (cellsR b2 40 [vI splito2.1.At, vU64 splito2.1.Desc.Addr, vU32 splito2.1.Desc.Len, vU16 splito2.1.Desc.Flags, vU16 splito2.1.Desc.Next]), some (cellsR b3 46 [vI packed2.1.At, vU64 packed2.1.Desc.Addr, vU32 packed2.1.Desc.Len, vU16 packed2.1.Desc.ID, vU16 packed2.1.Desc.Flags])]) (shr' := []) [2, 4, 6, 8, 10, 11, 12, 13, 14] [0, 1] [] rfl rfl rfl rfl ?_)
 refine Tk_seq (Tk_region ?_)
 obtain ⟨two4, hx11, h⟩ := ob_e h
 refine Tops_exP rfl (OpT_call (w_law09ztwo hx11) [] [] rfl rfl rfl rfl rfl callee8 rfl rfl rfl rfl) ?_
 rintro _ ⟨v10, _, _, ⟨_, rfl, rfl, rfl⟩, rfl⟩
 obtain ⟨splitt1, hx12, h⟩ := ob_e h
 refine Tops_exP rfl (OpT_callB [2] [0, 1, 2, 3] (w_build_SplitTable hx12) [] rfl rfl rfl rfl rfl callee12 rfl rfl rfl rfl rfl rfl (bor_cons (bor_row 2 rfl rfl) bor_nil) (by rintro _ _ _ ⟨_, rfl, rfl, rfl⟩; exact ⟨rfl, (ri_cons (ri_row (S := u8S) rfl _ _) ri_nil)⟩)) ?_
 rintro _ ⟨_, _, _, ⟨v11, rfl, rfl, rfl⟩, rfl⟩
 refine Tops_step rfl (OpT_move rfl rfl rfl rfl) ?_
 refine Tops_step rfl (OpT_extract rfl rfl rfl rfl rfl) ?_
 refine Tops_step rfl (OpT_extract rfl rfl rfl rfl rfl) ?_
 refine Tops_step rfl (OpT_assign rfl rfl rfl rfl) ?_
 refine Tops_step rfl (OpT_assign rfl rfl rfl rfl) ?_
 refine Tops_nil (Tk_wkS (fr' := [(2, some (vI split1.2)), (4, some (vI split2.2)), (6, some (vI split3.2)), (8, some (vI packed1.2)), (10, some (vI splito1.2)), (11, some (.pointer (some ⟨b2, 0, none⟩))), (12, some (vI splito2.2)), (13, some (.pointer (some ⟨b3, 0, none⟩))), (14, some (vI packed2.2)), (15, some (v11)), (16, some (vI splitt1.2))]) (own' := [some (cellsR b2 40 [vI splito2.1.At, vU64 splito2.1.Desc.Addr, vU32 splito2.1.Desc.Len, vU16 splito2.1.Desc.Flags, vU16 splito2.1.Desc.Next]), some (cellsR b3 46 [vI packed2.1.At, vU64 packed2.1.Desc.Addr, vU32 packed2.1.Desc.Len, vU16 packed2.1.Desc.ID, vU16 packed2.1.Desc.Flags]), some (rowS u8S v11 splitt1.1)]) (shr' := []) [2, 4, 6, 8, 10, 11, 12, 13, 14, 15, 16] [0, 1, 3] [] rfl rfl rfl rfl ?_)
 refine Tk_seq (Tk_region ?_)
 obtain ⟨lives1, hx13, h⟩ := ob_e h
 refine Tops_exP rfl (OpT_call (w_law09zlives hx13) [] [] rfl rfl rfl rfl rfl callee13 rfl rfl rfl rfl) ?_
 rintro _ ⟨_, _, _, ⟨rfl, rfl, rfl⟩, rfl⟩
 refine Tops_step rfl (OpT_move rfl rfl rfl rfl) ?_
 obtain ⟨hg1, h⟩ := chk_e h
 refine Tops_yes rfl rfl (congrArg (fun b => some (Value.bool b)) hg1) (OpT_move rfl rfl rfl rfl) ?_
 rintro _ rfl
 refine Tops_yes rfl rfl (congrArg (fun b => some (Value.bool b)) hg1) (OpT_bin rfl rfl rfl rfl rfl (bin_eql_i (a := split1.2) (b := (2 : Int)))) ?_
 rintro _ rfl
 refine Tops_step rfl (OpT_pickT rfl rfl rfl (congrArg (fun b => some (Value.bool b)) hg1) rfl) ?_
 refine Tops_step rfl (OpT_move rfl rfl rfl rfl) ?_
 obtain ⟨hg2, h⟩ := chk_e h
 refine Tops_yes rfl rfl (congrArg (fun b => some (Value.bool b)) hg2) (OpT_move rfl rfl rfl rfl) ?_
 rintro _ rfl
 refine Tops_yes rfl rfl (congrArg (fun b => some (Value.bool b)) hg2) (OpT_bin rfl rfl rfl rfl rfl (bin_eql_i (a := split2.2) (b := (2 : Int)))) ?_
 rintro _ rfl
 refine Tops_step rfl (OpT_pickT rfl rfl rfl (congrArg (fun b => some (Value.bool b)) hg2) rfl) ?_
 refine Tops_step rfl (OpT_move rfl rfl rfl rfl) ?_
 obtain ⟨hg3, h⟩ := chk_e h
 refine Tops_yes rfl rfl (congrArg (fun b => some (Value.bool b)) hg3) (OpT_move rfl rfl rfl rfl) ?_
 rintro _ rfl
 refine Tops_yes rfl rfl (congrArg (fun b => some (Value.bool b)) hg3) (OpT_bin rfl rfl rfl rfl rfl (bin_eql_i (a := split3.2) (b := (2 : Int)))) ?_
 rintro _ rfl
 refine Tops_step rfl (OpT_pickT rfl rfl rfl (congrArg (fun b => some (Value.bool b)) hg3) rfl) ?_
 refine Tops_step rfl (OpT_move rfl rfl rfl rfl) ?_
 obtain ⟨hg4, h⟩ := chk_e h
 refine Tops_yes rfl rfl (congrArg (fun b => some (Value.bool b)) hg4) (OpT_move rfl rfl rfl rfl) ?_
 rintro _ rfl
 refine Tops_yes rfl rfl (congrArg (fun b => some (Value.bool b)) hg4) (OpT_bin rfl rfl rfl rfl rfl (bin_eql_i (a := packed1.2) (b := (2 : Int)))) ?_
 rintro _ rfl
 refine Tops_step rfl (OpT_pickT rfl rfl rfl (congrArg (fun b => some (Value.bool b)) hg4) rfl) ?_
 refine Tops_step rfl (OpT_move rfl rfl rfl rfl) ?_
 obtain ⟨hg5, h⟩ := chk_e h
 refine Tops_yes rfl rfl (congrArg (fun b => some (Value.bool b)) hg5) (OpT_move rfl rfl rfl rfl) ?_
 rintro _ rfl
 refine Tops_yes rfl rfl (congrArg (fun b => some (Value.bool b)) hg5) (OpT_bin rfl rfl rfl rfl rfl (bin_eql_i (a := splito1.2) (b := (2 : Int)))) ?_
 rintro _ rfl
 refine Tops_step rfl (OpT_pickT rfl rfl rfl (congrArg (fun b => some (Value.bool b)) hg5) rfl) ?_
 refine Tops_step rfl (OpT_move rfl rfl rfl rfl) ?_
 obtain ⟨hg6, h⟩ := chk_e h
 refine Tops_yes rfl rfl (congrArg (fun b => some (Value.bool b)) hg6) (OpT_move rfl rfl rfl rfl) ?_
 rintro _ rfl
 refine Tops_yes rfl rfl (congrArg (fun b => some (Value.bool b)) hg6) (OpT_bin rfl rfl rfl rfl rfl (bin_eql_i (a := splito2.2) (b := (0 : Int)))) ?_
 rintro _ rfl
 refine Tops_step rfl (OpT_pickT rfl rfl rfl (congrArg (fun b => some (Value.bool b)) hg6) rfl) ?_
 refine Tops_step rfl (OpT_move rfl rfl rfl rfl) ?_
 obtain ⟨hg7, h⟩ := chk_e h
 refine Tops_yes rfl rfl (congrArg (fun b => some (Value.bool b)) hg7) (OpT_loadCA (vs := [vI splito2.1.At, vU64 splito2.1.Desc.Addr, vU32 splito2.1.Desc.Len, vU16 splito2.1.Desc.Flags, vU16 splito2.1.Desc.Next]) rfl rfl rfl rfl tyF40 (i := 0) rfl rfl rfl) ?_
 rintro _ rfl
 refine Tops_yes rfl rfl (congrArg (fun b => some (Value.bool b)) hg7) (OpT_build (v := .agg #[vU64 (5 : UInt64), vU32 (32 : UInt32), vU16 (4 : UInt16), vU16 (0 : UInt16)]) rfl rfl rfl rfl (bldV (by kernel_rfl))) ?_
 rintro _ rfl
 refine Tops_yes rfl rfl (congrArg (fun b => some (Value.bool b)) hg7) (OpT_build (v := .agg #[vI (7 : Int), vU64 (5 : UInt64), vU32 (32 : UInt32), vU16 (4 : UInt16), vU16 (0 : UInt16)]) rfl rfl rfl rfl (bldV (by kernel_rfl))) ?_
 rintro _ rfl
 refine Tops_yes rfl rfl (congrArg (fun b => some (Value.bool b)) hg7) (OpT_bin rfl rfl rfl rfl rfl (eqT40_eql splito2.1 (Put.mk (7 : Int) (Desc.mk (5 : UInt64) (32 : UInt32) (4 : UInt16) (0 : UInt16))))) ?_
 rintro _ rfl
 refine Tops_step rfl (OpT_pickT rfl rfl rfl (congrArg (fun b => some (Value.bool b)) hg7) rfl) ?_
 refine Tops_step rfl (OpT_move rfl rfl rfl rfl) ?_
 obtain ⟨hg8, h⟩ := chk_e h
 refine Tops_yes rfl rfl (congrArg (fun b => some (Value.bool b)) hg8) (OpT_move rfl rfl rfl rfl) ?_
 rintro _ rfl
 refine Tops_yes rfl rfl (congrArg (fun b => some (Value.bool b)) hg8) (OpT_bin rfl rfl rfl rfl rfl (bin_eql_i (a := packed2.2) (b := (0 : Int)))) ?_
 rintro _ rfl
 refine Tops_step rfl (OpT_pickT rfl rfl rfl (congrArg (fun b => some (Value.bool b)) hg8) rfl) ?_
 refine Tops_step rfl (OpT_move rfl rfl rfl rfl) ?_
 obtain ⟨hg9, h⟩ := chk_e h
 refine Tops_yes rfl rfl (congrArg (fun b => some (Value.bool b)) hg9) (OpT_loadCA (vs := [vI packed2.1.At, vU64 packed2.1.Desc.Addr, vU32 packed2.1.Desc.Len, vU16 packed2.1.Desc.ID, vU16 packed2.1.Desc.Flags]) rfl rfl rfl rfl tyF46 (i := 1) rfl rfl rfl) ?_
 rintro _ rfl
 refine Tops_yes rfl rfl (congrArg (fun b => some (Value.bool b)) hg9) (OpT_build (v := .agg #[vU64 (5 : UInt64), vU32 (32 : UInt32), vU16 (3 : UInt16), vU16 (32772 : UInt16)]) rfl rfl rfl rfl (bldV (by kernel_rfl))) ?_
 rintro _ rfl
 refine Tops_yes rfl rfl (congrArg (fun b => some (Value.bool b)) hg9) (OpT_build (v := .agg #[vI (0 : Int), vU64 (5 : UInt64), vU32 (32 : UInt32), vU16 (3 : UInt16), vU16 (32772 : UInt16)]) rfl rfl rfl rfl (bldV (by kernel_rfl))) ?_
 rintro _ rfl
 refine Tops_yes rfl rfl (congrArg (fun b => some (Value.bool b)) hg9) (OpT_bin rfl rfl rfl rfl rfl (eqT46_eql packed2.1 (PutPacked.mk (0 : Int) (Packed.mk (5 : UInt64) (32 : UInt32) (3 : UInt16) (32772 : UInt16))))) ?_
 rintro _ rfl
 refine Tops_step rfl (OpT_pickT rfl rfl rfl (congrArg (fun b => some (Value.bool b)) hg9) rfl) ?_
 refine Tops_step rfl (OpT_move rfl rfl rfl rfl) ?_
 obtain ⟨hg10, h⟩ := chk_e h
 refine Tops_yes rfl rfl (congrArg (fun b => some (Value.bool b)) hg10) (OpT_move rfl rfl rfl rfl) ?_
 rintro _ rfl
 refine Tops_yes rfl rfl (congrArg (fun b => some (Value.bool b)) hg10) (OpT_bin rfl rfl rfl rfl rfl (bin_eql_i (a := splitt1.2) (b := (0 : Int)))) ?_
 rintro _ rfl
 refine Tops_step rfl (OpT_pickT rfl rfl rfl (congrArg (fun b => some (Value.bool b)) hg10) rfl) ?_
 refine Tops_step rfl (OpT_move rfl rfl rfl rfl) ?_
 obtain ⟨hg11, h⟩ := chk_e h
 refine Tops_yes rfl rfl (congrArg (fun b => some (Value.bool b)) hg11) (OpT_move rfl rfl rfl rfl) ?_
 rintro _ rfl
 refine Tops_yes rfl rfl (congrArg (fun b => some (Value.bool b)) hg11) (OpT_lenO rfl rfl rfl rfl Try.underlying49 (i := 2) rfl) ?_
 rintro _ rfl
 refine Tops_yes rfl rfl (congrArg (fun b => some (Value.bool b)) hg11) (OpT_bin rfl rfl rfl rfl rfl (bin_eql_i (a := len splitt1.1) (b := (32 : Int)))) ?_
 rintro _ rfl
 refine Tops_step rfl (OpT_pickT rfl rfl rfl (congrArg (fun b => some (Value.bool b)) hg11) rfl) ?_
 refine Tops_step rfl (OpT_move rfl rfl rfl rfl) ?_
 obtain ⟨hg12, h⟩ := chk_e h
 refine Tops_yes rfl rfl (congrArg (fun b => some (Value.bool b)) hg12) (OpT_move rfl rfl rfl rfl) ?_
 rintro _ rfl
 obtain ⟨y1, hx14, h⟩ := ob_e h
 refine Tops_yes rfl rfl (congrArg (fun b => some (Value.bool b)) hg12) (OpT_idxO rfl rfl rfl rfl rfl slF49 (i := 2) rfl hx14) ?_
 rintro _ rfl
 refine Tops_yes rfl rfl (congrArg (fun b => some (Value.bool b)) hg12) (OpT_loadO (S := u8S) rfl rfl rfl rfl rfl tyF5 (i := 2) rfl hx14 rfl rfl) ?_
 rintro _ rfl
 refine Tops_yes rfl rfl (congrArg (fun b => some (Value.bool b)) hg12) (OpT_bin rfl rfl rfl rfl rfl (bin_eql_u8 (a := y1) (b := (1 : UInt8)))) ?_
 rintro _ rfl
 refine Tops_step rfl (OpT_pickT rfl rfl rfl (congrArg (fun b => some (Value.bool b)) hg12) rfl) ?_
 refine Tops_step rfl (OpT_move rfl rfl rfl rfl) ?_
 obtain ⟨hg13, h⟩ := chk_e h
 obtain ⟨two5, hx15, h⟩ := ob_e h
 refine Tops_yes rfl rfl (congrArg (fun b => some (Value.bool b)) hg13) (OpT_call (w_law09ztwo hx15) [] [] rfl rfl rfl rfl rfl callee8 rfl rfl rfl rfl) ?_
 rintro _ ⟨v12, _, _, ⟨_, rfl, rfl, rfl⟩, rfl⟩
 obtain ⟨needs1, hx16, h⟩ := ob_e h
 refine Tops_yes rfl rfl (congrArg (fun b => some (Value.bool b)) hg13) (OpT_callB [3] [0, 1, 2, 3] (w_build_Needs hx16) [] rfl rfl rfl rfl rfl callee14 rfl rfl rfl rfl rfl rfl (bor_cons (bor_row 3 rfl rfl) bor_nil) (by rintro _ _ _ ⟨rfl, rfl, rfl⟩; exact ⟨rfl, ri_nil⟩)) ?_
 rintro _ ⟨_, _, _, ⟨rfl, rfl, rfl⟩, rfl⟩
 refine Tops_yes rfl rfl (congrArg (fun b => some (Value.bool b)) hg13) (OpT_bin rfl rfl rfl rfl rfl (bin_eql_i (a := needs1) (b := (2 : Int)))) ?_
 rintro _ rfl
 refine Tops_step rfl (OpT_pickT rfl rfl rfl (congrArg (fun b => some (Value.bool b)) hg13) rfl) ?_
 refine Tops_step rfl (OpT_move rfl rfl rfl rfl) ?_
 obtain ⟨hg14, h⟩ := chk_e h
 obtain ⟨two6, hx17, h⟩ := ob_e h
 refine Tops_yes rfl rfl (congrArg (fun b => some (Value.bool b)) hg14) (OpT_call (w_law09ztwo hx17) [] [] rfl rfl rfl rfl rfl callee8 rfl rfl rfl rfl) ?_
 rintro _ ⟨v13, _, _, ⟨_, rfl, rfl, rfl⟩, rfl⟩
 obtain ⟨needs2, hx18, h⟩ := ob_e h
 refine Tops_yes rfl rfl (congrArg (fun b => some (Value.bool b)) hg14) (OpT_callB [4] [0, 1, 2, 3, 4] (w_build_Needs hx18) [] rfl rfl rfl rfl rfl callee14 rfl rfl rfl rfl rfl rfl (bor_cons (bor_row 4 rfl rfl) bor_nil) (by rintro _ _ _ ⟨rfl, rfl, rfl⟩; exact ⟨rfl, ri_nil⟩)) ?_
 rintro _ ⟨_, _, _, ⟨rfl, rfl, rfl⟩, rfl⟩
 refine Tops_yes rfl rfl (congrArg (fun b => some (Value.bool b)) hg14) (OpT_bin rfl rfl rfl rfl rfl (bin_eql_i (a := needs2) (b := (1 : Int)))) ?_
 rintro _ rfl
 refine Tops_step rfl (OpT_pickT rfl rfl rfl (congrArg (fun b => some (Value.bool b)) hg14) rfl) ?_
 refine Tops_step rfl (OpT_move rfl rfl rfl rfl) ?_
 obtain ⟨hg15, h⟩ := chk_e h
 refine Tops_nilfact SegS ?_
 obtain ⟨needs3, hx19, h⟩ := ob_e h
 refine Tops_yes rfl rfl (congrArg (fun b => some (Value.bool b)) hg15) (OpT_call (w_build_Needs hx19) [] [0] rfl rfl rfl rfl rfl callee14 rfl rfl rfl rfl) ?_
 rintro _ ⟨_, _, _, ⟨rfl, rfl, rfl⟩, rfl⟩
 refine Tops_yes rfl rfl (congrArg (fun b => some (Value.bool b)) hg15) (OpT_bin rfl rfl rfl rfl rfl (bin_eql_i (a := needs3) (b := (0 : Int)))) ?_
 rintro _ rfl
 refine Tops_step rfl (OpT_pickT rfl rfl rfl (congrArg (fun b => some (Value.bool b)) hg15) rfl) ?_
 refine Tops_step rfl (OpT_assign rfl rfl rfl rfl) ?_
 refine Tops_nil (Tk_wkS (fr' := [(0, some (vB (needs3 == (0 : Int))))]) (own' := []) (shr' := []) [0] [] [] rfl rfl rfl rfl ?_)
 obtain ⟨hg16, h⟩ := chk_e h
 exact Tk_retV rfl rfl (resA (vs := [.bool true]) rfl ⟨(congrArg (fun b => some (Value.bool b)) hg16), trivial⟩) [] [] rfl rfl rfl ⟨rfl, rfl, rfl⟩
end Go.Proofs.Ytihcimjfabdafaa
