/- The law SegNames is walked: it returns what its plain words say. No condition. -/
import Derived.Test.YtkdekmjcfoahjaaWa2
namespace Go.Proofs.Ytkdekmjcfoahjaa

set_option maxRecDepth 100000 in
set_option maxHeartbeats 4000000 in
theorem w_law05zSegNames   (h : law05zSegNames = some true) :
  Ctr Try.prog 6 #[] [] []
   (fun rv own shr => rv = .bool true ∧ own = [] ∧ shr = []) := by
 unfold law05zSegNames at h
 refine Ctr.mk (args := []) Try.func6 rfl rfl (fun R0 w0 B => ?_)
 refine Tk_seq ?_
 refine Tk_region ?_
 refine Tops_step rfl (OpT_assign rfl rfl rfl rfl) ?_
 refine Tops_nil ?_
 refine Tk_wkS (fr' := []) (own' := []) (shr' := []) [] [] [] rfl rfl rfl rfl ?_
 refine Tk_seq ?_
 refine Tk_region ?_
 refine Tops_step rfl (OpT_build (v := .agg #[vU64 (0 : UInt64), vU64 (100 : UInt64)]) rfl rfl rfl rfl (bldV (by kernel_rfl))) ?_
 refine Tops_ex rfl (OpT_buildSlice (S := RegionS) (xs := [(Region.mk (0 : UInt64) (100 : UInt64))]) (css := [[vU64 (0 : UInt64), vU64 (100 : UInt64)]]) (cs := [vU64 (0 : UInt64), vU64 (100 : UInt64)]) (e := 38) rfl rfl rfl rfl (bldF slF39 (by decide) (by kernel_rfl)) rfl rfl rfl rfl (rel_plainD (S := RegionS) (xs := [(Region.mk (0 : UInt64) (100 : UInt64))]) (css := [[vU64 (0 : UInt64), vU64 (100 : UInt64)]]) rfl rfl)) fun v1 => ?_
 refine Tops_retire (i := 0) rfl ?_
 obtain ⟨new1, hx1, h⟩ := ob_e h
 refine Tops_exP rfl (OpT_call (w_gmem_New hx1) [] [0] rfl rfl rfl rfl rfl callee14 rfl rfl rfl rfl) ?_
 rintro _ ⟨_, _, _, ⟨v2, rfl, rfl, rfl⟩, rfl⟩
 refine Tops_step rfl (OpT_move rfl rfl rfl rfl) ?_
 refine Tops_step rfl (OpT_extract rfl rfl rfl rfl rfl) ?_
 refine Tops_step rfl (OpT_extract rfl rfl rfl rfl rfl) ?_
 refine Tops_step rfl (OpT_assign rfl rfl rfl rfl) ?_
 refine Tops_step rfl (OpT_assign rfl rfl rfl rfl) ?_
 refine Tops_nil ?_
 refine Tk_wkS (fr' := [(1, some (v2))]) (own' := [some (optR 71 RegionS u8S true gmem_Mem.l gmem_Mem.b v2 new1.1)]) (shr' := []) [1] [1] [] rfl rfl rfl rfl ?_
 rcases onO_cases h with ⟨ho1, h⟩ | ⟨mem1, ho1, h⟩
 ·cases h
 ·refine Tk_optS (i := 0) rfl ho1 ?_
  rintro b1 v3 v4 vs1 rfl
  refine Tk_seq ?_
  refine Tk_region ?_
  refine Tops_step rfl (OpT_build (v := .agg #[vU64 (0 : UInt64), vU32 (3 : UInt32), vB false]) rfl rfl rfl rfl (bldV (by kernel_rfl))) ?_
  refine Tops_step rfl (OpT_build (v := .agg #[vU64 (50 : UInt64), vU32 (4 : UInt32), vB true]) rfl rfl rfl rfl (bldV (by kernel_rfl))) ?_
  refine Tops_step rfl (OpT_build (v := .agg #[vU64 (60 : UInt64), vU32 (2 : UInt32), vB true]) rfl rfl rfl rfl (bldV (by kernel_rfl))) ?_
  refine Tops_ex rfl (OpT_buildSlice (S := SegS) (xs := [(Seg.mk (0 : UInt64) (3 : UInt32) false), (Seg.mk (50 : UInt64) (4 : UInt32) true), (Seg.mk (60 : UInt64) (2 : UInt32) true)]) (css := [[vU64 (0 : UInt64), vU32 (3 : UInt32), vB false], [vU64 (50 : UInt64), vU32 (4 : UInt32), vB true], [vU64 (60 : UInt64), vU32 (2 : UInt32), vB true]]) (cs := [vU64 (0 : UInt64), vU32 (3 : UInt32), vB false, vU64 (50 : UInt64), vU32 (4 : UInt32), vB true, vU64 (60 : UInt64), vU32 (2 : UInt32), vB true]) (e := 47) rfl rfl rfl rfl (bldF slF22 (by decide) (by kernel_rfl)) rfl rfl rfl rfl (rel_plainD (S := SegS) (xs := [(Seg.mk (0 : UInt64) (3 : UInt32) false), (Seg.mk (50 : UInt64) (4 : UInt32) true), (Seg.mk (60 : UInt64) (2 : UInt32) true)]) (css := [[vU64 (0 : UInt64), vU32 (3 : UInt32), vB false], [vU64 (50 : UInt64), vU32 (4 : UInt32), vB true], [vU64 (60 : UInt64), vU32 (2 : UInt32), vB true]]) rfl rfl)) fun v5 => ?_
  refine Tops_step rfl (OpT_assign rfl rfl rfl rfl) ?_
  refine Tops_nil ?_
  refine Tk_wkS (fr' := [(1, some (.pointer (some ⟨b1, 0, none⟩))), (3, some (v5))]) (own' := [some (cellsR b1 71 [v3, v4]), some (rowsX u8S true v4 vs1 mem1.b none), some (rowS SegS v5 [(Seg.mk (0 : UInt64) (3 : UInt32) false), (Seg.mk (50 : UInt64) (4 : UInt32) true), (Seg.mk (60 : UInt64) (2 : UInt32) true)])]) (shr' := [Fact.sl RegionS v3 mem1.l]) [1, 3] [0, 1, 2] [0] rfl rfl rfl rfl ?_
  refine Tk_seq ?_
  refine Tk_region ?_
  refine Tops_step rfl (OpT_move rfl rfl rfl rfl) ?_
  obtain ⟨total1, hx2, h⟩ := ob_e h
  refine Tops_exP rfl (OpT_callB [2] [0, 1, 2] (w_seg_Total hx2) [] rfl rfl rfl rfl rfl callee10 rfl rfl rfl rfl rfl rfl (bor_cons (bor_row 2 rfl rfl) bor_nil) (by rintro _ _ _ ⟨rfl, rfl, rfl⟩; exact ⟨rfl, ri_nil⟩)) ?_
  rintro _ ⟨_, _, _, ⟨rfl, rfl, rfl⟩, rfl⟩
  refine Tops_step rfl (OpT_move rfl rfl rfl rfl) ?_
  refine Tops_step rfl (OpT_extract rfl rfl rfl rfl rfl) ?_
  refine Tops_step rfl (OpT_extract rfl rfl rfl rfl rfl) ?_
  refine Tops_step rfl (OpT_assign rfl rfl rfl rfl) ?_
  refine Tops_step rfl (OpT_assign rfl rfl rfl rfl) ?_
  refine Tops_nil ?_
  refine Tk_wkS (fr' := [(1, some (.pointer (some ⟨b1, 0, none⟩))), (3, some (v5)), (4, some (vU64 total1.1)), (5, some (vU64 total1.2))]) (own' := [some (cellsR b1 71 [v3, v4]), some (rowsX u8S true v4 vs1 mem1.b none), some (rowS SegS v5 [(Seg.mk (0 : UInt64) (3 : UInt32) false), (Seg.mk (50 : UInt64) (4 : UInt32) true), (Seg.mk (60 : UInt64) (2 : UInt32) true)])]) (shr' := [Fact.sl RegionS v3 mem1.l]) [1, 3, 4, 5] [0, 1, 2] [0] rfl rfl rfl rfl ?_
  refine Tk_seq ?_
  refine Tk_region ?_
  refine Tops_step rfl (OpT_move rfl rfl rfl rfl) ?_
  refine Tops_step rfl (OpT_move rfl rfl rfl rfl) ?_
  refine Tops_ex rfl (OpT_buildSlice (S := u8S) (xs := [(97 : UInt8), (98 : UInt8), (99 : UInt8), (100 : UInt8), (101 : UInt8), (102 : UInt8), (103 : UInt8), (104 : UInt8)]) (css := [[vU8 (97 : UInt8)], [vU8 (98 : UInt8)], [vU8 (99 : UInt8)], [vU8 (100 : UInt8)], [vU8 (101 : UInt8)], [vU8 (102 : UInt8)], [vU8 (103 : UInt8)], [vU8 (104 : UInt8)]]) (cs := [vU8 (97 : UInt8), vU8 (98 : UInt8), vU8 (99 : UInt8), vU8 (100 : UInt8), vU8 (101 : UInt8), vU8 (102 : UInt8), vU8 (103 : UInt8), vU8 (104 : UInt8)]) (e := 5) rfl rfl rfl rfl (bldF slF33 (by decide) (by kernel_rfl)) rfl rfl rfl rfl (rel_plainD (S := u8S) (xs := [(97 : UInt8), (98 : UInt8), (99 : UInt8), (100 : UInt8), (101 : UInt8), (102 : UInt8), (103 : UInt8), (104 : UInt8)]) (css := [[vU8 (97 : UInt8)], [vU8 (98 : UInt8)], [vU8 (99 : UInt8)], [vU8 (100 : UInt8)], [vU8 (101 : UInt8)], [vU8 (102 : UInt8)], [vU8 (103 : UInt8)], [vU8 (104 : UInt8)]]) rfl rfl)) fun v6 => ?_
  refine Tops_step rfl (OpT_bytesC rfl rfl rfl rfl Try.underlying33 Try.underlying5 (i := 3) rfl rfl) ?_
  obtain ⟨scatte1, hx3, h⟩ := ob_e h
  refine Tops_exP rfl (OpT_callB [2] [4, 5, 2, 3] (w_seg_Scatter hx3) [0, 1] rfl rfl rfl rfl rfl callee18 rfl rfl rfl rfl rfl rfl (bor_cons (bor_shr 0 rfl) (bor_cons (bor_row 2 rfl rfl) (bor_cons (bor_shr 1 rfl) bor_nil))) (by rintro _ _ _ ⟨rfl, rfl, rfl⟩; exact ⟨rfl, (ri_cons (ri_cells _ _ _) (ri_cons (ri_rows rfl _ _ _ _ _) ri_nil))⟩)) ?_
  rintro _ ⟨_, _, _, ⟨rfl, rfl, rfl⟩, rfl⟩
  refine Tops_step rfl (OpT_move rfl rfl rfl rfl) ?_
  refine Tops_step rfl (OpT_extract rfl rfl rfl rfl rfl) ?_
  refine Tops_step rfl (OpT_extract rfl rfl rfl rfl rfl) ?_
  refine Tops_step rfl (OpT_assign rfl rfl rfl rfl) ?_
  refine Tops_step rfl (OpT_assign rfl rfl rfl rfl) ?_
  refine Tops_nil ?_
  refine Tk_wkS (fr' := [(1, some (.pointer (some ⟨b1, 0, none⟩))), (3, some (v5)), (4, some (vU64 total1.1)), (5, some (vU64 total1.2)), (6, some (vI scatte1.1)), (7, some (vI scatte1.2.1))]) (own' := [some (cellsR b1 71 [v3, v4]), some (rowsX u8S true v4 vs1 scatte1.2.2 none), some (rowS SegS v5 [(Seg.mk (0 : UInt64) (3 : UInt32) false), (Seg.mk (50 : UInt64) (4 : UInt32) true), (Seg.mk (60 : UInt64) (2 : UInt32) true)])]) (shr' := [Fact.sl RegionS v3 mem1.l]) [1, 3, 4, 5, 6, 7] [0, 1, 2] [0] rfl rfl rfl rfl ?_
  refine Tk_seq ?_
  refine Tk_region ?_
  refine Tops_step rfl (OpT_move rfl rfl rfl rfl) ?_
  obtain ⟨read1, hx4, h⟩ := ob_e h
  refine Tops_exP rfl (OpT_callP [3, 4, 2, 5] (w_gmem_Mem_Read hx4) [0, 1] [0] rfl rfl rfl rfl rfl callee21 rfl rfl rfl rfl rfl) ?_
  rintro _ ⟨_, _, _, ⟨v7, rfl, rfl, rfl⟩, rfl⟩
  refine Tops_step rfl (OpT_move rfl rfl rfl rfl) ?_
  refine Tops_step rfl (OpT_extract rfl rfl rfl rfl rfl) ?_
  refine Tops_step rfl (OpT_extract rfl rfl rfl rfl rfl) ?_
  refine Tops_step rfl (OpT_assign rfl rfl rfl rfl) ?_
  refine Tops_step rfl (OpT_assign rfl rfl rfl rfl) ?_
  refine Tops_nil ?_
  refine Tk_wkS (fr' := [(1, some (.pointer (some ⟨b1, 0, none⟩))), (3, some (v5)), (4, some (vU64 total1.1)), (5, some (vU64 total1.2)), (6, some (vI scatte1.1)), (7, some (vI scatte1.2.1)), (8, some (v7)), (9, some (vI read1.2))]) (own' := [some (cellsR b1 71 [v3, v4]), some (rowsX u8S true v4 vs1 scatte1.2.2 none), some (rowS SegS v5 [(Seg.mk (0 : UInt64) (3 : UInt32) false), (Seg.mk (50 : UInt64) (4 : UInt32) true), (Seg.mk (60 : UInt64) (2 : UInt32) true)]), some (rowS u8S v7 read1.1)]) (shr' := [Fact.sl RegionS v3 mem1.l]) [1, 3, 4, 5, 6, 7, 8, 9] [0, 1, 2, 3] [0] rfl rfl rfl rfl ?_
  refine Tk_seq ?_
  refine Tk_region ?_
  refine Tops_step rfl (OpT_move rfl rfl rfl rfl) ?_
  obtain ⟨gather1, hx5, h⟩ := ob_e h
  refine Tops_exP rfl (OpT_callB [2] [0, 1, 2, 3, 4] (w_seg_Gathern0 hx5) [] rfl rfl rfl rfl rfl callee19 rfl rfl rfl rfl rfl rfl (bor_cons (bor_row 2 rfl rfl) bor_nil) (by rintro _ _ _ ⟨_, rfl, rfl, rfl⟩; exact ⟨rfl, (ri_cons (ri_row (S := u8S) rfl _ _) ri_nil)⟩)) ?_
  rintro _ ⟨_, _, _, ⟨v8, rfl, rfl, rfl⟩, rfl⟩
  refine Tops_step rfl (OpT_move rfl rfl rfl rfl) ?_
  refine Tops_step rfl (OpT_extract rfl rfl rfl rfl rfl) ?_
  refine Tops_step rfl (OpT_extract rfl rfl rfl rfl rfl) ?_
  refine Tops_step rfl (OpT_assign rfl rfl rfl rfl) ?_
  refine Tops_step rfl (OpT_assign rfl rfl rfl rfl) ?_
  refine Tops_nil ?_
  refine Tk_wkS (fr' := [(1, some (.pointer (some ⟨b1, 0, none⟩))), (3, some (v5)), (4, some (vU64 total1.1)), (5, some (vU64 total1.2)), (6, some (vI scatte1.1)), (7, some (vI scatte1.2.1)), (8, some (v7)), (9, some (vI read1.2)), (11, some (vI gather1.2))]) (own' := [some (cellsR b1 71 [v3, v4]), some (rowsX u8S true v4 vs1 scatte1.2.2 none), some (rowS SegS v5 [(Seg.mk (0 : UInt64) (3 : UInt32) false), (Seg.mk (50 : UInt64) (4 : UInt32) true), (Seg.mk (60 : UInt64) (2 : UInt32) true)]), some (rowS u8S v7 read1.1)]) (shr' := [Fact.sl RegionS v3 mem1.l]) [1, 3, 4, 5, 6, 7, 8, 9, 11] [0, 1, 2, 3] [0] rfl rfl rfl rfl ?_
  refine Tk_seq ?_
  refine Tk_region ?_
  obtain ⟨lives1, hx6, h⟩ := ob_e h
  refine Tops_exP rfl (OpT_call (w_law05zlives hx6) [] [] rfl rfl rfl rfl rfl callee8 rfl rfl rfl rfl) ?_
  rintro _ ⟨_, _, _, ⟨rfl, rfl, rfl⟩, rfl⟩
  refine Tops_step rfl (OpT_move rfl rfl rfl rfl) ?_
  obtain ⟨hg1, h⟩ := chk_e h
  refine Tops_yes rfl rfl (congrArg (fun b => some (Value.bool b)) hg1) (OpT_move rfl rfl rfl rfl) ?_
  rintro _ rfl
  refine Tops_yes rfl rfl (congrArg (fun b => some (Value.bool b)) hg1) (OpT_bin rfl rfl rfl rfl rfl (bin_eql_u64 (a := total1.1) (b := (3 : UInt64)))) ?_
  rintro _ rfl
  refine Tops_step rfl (OpT_pickT rfl rfl rfl (congrArg (fun b => some (Value.bool b)) hg1) rfl) ?_
  refine Tops_step rfl (OpT_move rfl rfl rfl rfl) ?_
  obtain ⟨hg2, h⟩ := chk_e h
  refine Tops_yes rfl rfl (congrArg (fun b => some (Value.bool b)) hg2) (OpT_move rfl rfl rfl rfl) ?_
  rintro _ rfl
  refine Tops_yes rfl rfl (congrArg (fun b => some (Value.bool b)) hg2) (OpT_bin rfl rfl rfl rfl rfl (bin_eql_u64 (a := total1.2) (b := (6 : UInt64)))) ?_
  rintro _ rfl
  refine Tops_step rfl (OpT_pickT rfl rfl rfl (congrArg (fun b => some (Value.bool b)) hg2) rfl) ?_
  refine Tops_step rfl (OpT_move rfl rfl rfl rfl) ?_
  obtain ⟨hg3, h⟩ := chk_e h
  refine Tops_yes rfl rfl (congrArg (fun b => some (Value.bool b)) hg3) (OpT_move rfl rfl rfl rfl) ?_
  rintro _ rfl
  refine Tops_yes rfl rfl (congrArg (fun b => some (Value.bool b)) hg3) (OpT_bin rfl rfl rfl rfl rfl (bin_eql_i (a := scatte1.2.1) (b := (0 : Int)))) ?_
  rintro _ rfl
  refine Tops_step rfl (OpT_pickT rfl rfl rfl (congrArg (fun b => some (Value.bool b)) hg3) rfl) ?_
  refine Tops_step rfl (OpT_move rfl rfl rfl rfl) ?_
  obtain ⟨hg4, h⟩ := chk_e h
  refine Tops_yes rfl rfl (congrArg (fun b => some (Value.bool b)) hg4) (OpT_move rfl rfl rfl rfl) ?_
  rintro _ rfl
  refine Tops_yes rfl rfl (congrArg (fun b => some (Value.bool b)) hg4) (OpT_bin rfl rfl rfl rfl rfl (bin_eql_i (a := scatte1.1) (b := (6 : Int)))) ?_
  rintro _ rfl
  refine Tops_step rfl (OpT_pickT rfl rfl rfl (congrArg (fun b => some (Value.bool b)) hg4) rfl) ?_
  refine Tops_step rfl (OpT_move rfl rfl rfl rfl) ?_
  obtain ⟨hg5, h⟩ := chk_e h
  refine Tops_yes rfl rfl (congrArg (fun b => some (Value.bool b)) hg5) (OpT_move rfl rfl rfl rfl) ?_
  rintro _ rfl
  refine Tops_yes rfl rfl (congrArg (fun b => some (Value.bool b)) hg5) (OpT_bin rfl rfl rfl rfl rfl (bin_eql_i (a := read1.2) (b := (0 : Int)))) ?_
  rintro _ rfl
  refine Tops_step rfl (OpT_pickT rfl rfl rfl (congrArg (fun b => some (Value.bool b)) hg5) rfl) ?_
  refine Tops_step rfl (OpT_move rfl rfl rfl rfl) ?_
  obtain ⟨hg6, h⟩ := chk_e h
  refine Tops_yes rfl rfl (congrArg (fun b => some (Value.bool b)) hg6) (OpT_move rfl rfl rfl rfl) ?_
  rintro _ rfl
  obtain ⟨hc1, h⟩ := chk_e h
  refine Tops_yes rfl rfl (congrArg (fun b => some (Value.bool b)) hg6) (OpT_subH (S := u8S) (m := (4 : Int)) rfl rfl rfl rfl rfl slF33 (i := 3) rfl hc1) ?_
  rintro _ rfl
  refine Tops_retire (i := 3) rfl ?_
  refine Tops_vs (vs_subSl (l := (0 : Int)) (m := (4 : Int)) (i := 1) rfl hc1) ?_
  refine Tops_yes rfl rfl (congrArg (fun b => some (Value.bool b)) hg6) (OpT_strS rfl rfl rfl rfl Try.underlying33 Try.underlying5 Try.underlying9 (i := 2) rfl) ?_
  rintro _ rfl
  refine Tops_yes rfl rfl (congrArg (fun b => some (Value.bool b)) hg6) (OpT_bin rfl rfl rfl rfl rfl (bin_eql_s (a := sub read1.1 (0 : Int) (4 : Int)) (b := ([97, 98, 99, 100] : List UInt8)))) ?_
  rintro _ rfl
  refine Tops_step rfl (OpT_pickT rfl rfl rfl (congrArg (fun b => some (Value.bool b)) hg6) rfl) ?_
  refine Tops_step rfl (OpT_move rfl rfl rfl rfl) ?_
  obtain ⟨hg7, h⟩ := chk_e h
  refine Tops_yes rfl rfl (congrArg (fun b => some (Value.bool b)) hg7) (OpT_move rfl rfl rfl rfl) ?_
  rintro _ rfl
  obtain ⟨hc2, h⟩ := chk_e h
  refine Tops_yes rfl rfl (congrArg (fun b => some (Value.bool b)) hg7) (OpT_sliceL (l := (10 : Int)) rfl rfl rfl rfl rfl slF33 (i := 1) rfl hc2) ?_
  rintro _ ⟨v9, rfl⟩
  refine Tops_yes rfl rfl (congrArg (fun b => some (Value.bool b)) hg7) (OpT_strS rfl rfl rfl rfl Try.underlying33 Try.underlying5 Try.underlying9 (i := 3) rfl) ?_
  rintro _ rfl
  refine Tops_yes rfl rfl (congrArg (fun b => some (Value.bool b)) hg7) (OpT_bin rfl rfl rfl rfl rfl (bin_eql_s (a := sub read1.1 (10 : Int) (len read1.1)) (b := ([101, 102] : List UInt8)))) ?_
  rintro _ rfl
  refine Tops_step rfl (OpT_pickT rfl rfl rfl (congrArg (fun b => some (Value.bool b)) hg7) rfl) ?_
  refine Tops_step rfl (OpT_move rfl rfl rfl rfl) ?_
  obtain ⟨hg8, h⟩ := chk_e h
  refine Tops_yes rfl rfl (congrArg (fun b => some (Value.bool b)) hg8) (OpT_move rfl rfl rfl rfl) ?_
  rintro _ rfl
  refine Tops_yes rfl rfl (congrArg (fun b => some (Value.bool b)) hg8) (OpT_bin rfl rfl rfl rfl rfl (bin_eql_i (a := gather1.2) (b := (1 : Int)))) ?_
  rintro _ rfl
  refine Tops_step rfl (OpT_pickT rfl rfl rfl (congrArg (fun b => some (Value.bool b)) hg8) rfl) ?_
  refine Tops_step rfl (OpT_move rfl rfl rfl rfl) ?_
  obtain ⟨hg9, h⟩ := chk_e h
  obtain ⟨hc3, h⟩ := chk_e h
  obtain ⟨z1, hz1, h⟩ := lt_e h
  refine Tops_yes rfl rfl (congrArg (fun b => some (Value.bool b)) hg9) (OpT_makeL (OpT_makeD SegS rfl (u := (Seg.mk (0 : UInt64) (0 : UInt32) false)) rfl rfl rfl rfl rfl slF22 rfl hc3) hz1) ?_
  rintro _ ⟨v10, rfl⟩
  obtain ⟨check1, hx7, h⟩ := ob_e h
  refine Tops_yes rfl rfl (congrArg (fun b => some (Value.bool b)) hg9) (OpT_callB [4] [0, 1, 2, 3, 4] (w_seg_Check hx7) [] rfl rfl rfl rfl rfl callee9 rfl rfl rfl rfl rfl rfl (bor_cons (bor_row 4 rfl rfl) bor_nil) (by rintro _ _ _ ⟨rfl, rfl, rfl⟩; exact ⟨rfl, ri_nil⟩)) ?_
  rintro _ ⟨_, _, _, ⟨rfl, rfl, rfl⟩, rfl⟩
  refine Tops_yes rfl rfl (congrArg (fun b => some (Value.bool b)) hg9) (OpT_bin rfl rfl rfl rfl rfl (bin_eql_i (a := check1) (b := (3 : Int)))) ?_
  rintro _ rfl
  refine Tops_step rfl (OpT_pickT rfl rfl rfl (congrArg (fun b => some (Value.bool b)) hg9) rfl) ?_
  refine Tops_step rfl (OpT_move rfl rfl rfl rfl) ?_
  obtain ⟨hg10, h⟩ := chk_e h
  refine Tops_yes rfl rfl (congrArg (fun b => some (Value.bool b)) hg10) (OpT_build (v := .agg #[vU64 (0 : UInt64), vU32 (0 : UInt32), vB false]) rfl rfl rfl rfl (bldV (by kernel_rfl))) ?_
  rintro _ rfl
  refine Tops_yes rfl rfl (congrArg (fun b => some (Value.bool b)) hg10) (OpT_buildSlice (S := SegS) (xs := [(Seg.mk (0 : UInt64) (0 : UInt32) false)]) (css := [[vU64 (0 : UInt64), vU32 (0 : UInt32), vB false]]) (cs := [vU64 (0 : UInt64), vU32 (0 : UInt32), vB false]) (e := 47) rfl rfl rfl rfl (bldF slF22 (by decide) (by kernel_rfl)) rfl rfl rfl rfl (rel_plainD (S := SegS) (xs := [(Seg.mk (0 : UInt64) (0 : UInt32) false)]) (css := [[vU64 (0 : UInt64), vU32 (0 : UInt32), vB false]]) rfl rfl)) ?_
  rintro _ ⟨v11, rfl⟩
  obtain ⟨check2, hx8, h⟩ := ob_e h
  refine Tops_yes rfl rfl (congrArg (fun b => some (Value.bool b)) hg10) (OpT_callB [5] [0, 1, 2, 3, 4, 5] (w_seg_Check hx8) [] rfl rfl rfl rfl rfl callee9 rfl rfl rfl rfl rfl rfl (bor_cons (bor_row 5 rfl rfl) bor_nil) (by rintro _ _ _ ⟨rfl, rfl, rfl⟩; exact ⟨rfl, ri_nil⟩)) ?_
  rintro _ ⟨_, _, _, ⟨rfl, rfl, rfl⟩, rfl⟩
  refine Tops_yes rfl rfl (congrArg (fun b => some (Value.bool b)) hg10) (OpT_bin rfl rfl rfl rfl rfl (bin_eql_i (a := check2) (b := (2 : Int)))) ?_
  rintro _ rfl
  refine Tops_step rfl (OpT_pickT rfl rfl rfl (congrArg (fun b => some (Value.bool b)) hg10) rfl) ?_
  refine Tops_step rfl (OpT_move rfl rfl rfl rfl) ?_
  obtain ⟨hg11, h⟩ := chk_e h
  refine Tops_yes rfl rfl (congrArg (fun b => some (Value.bool b)) hg11) (OpT_move rfl rfl rfl rfl) ?_
  rintro _ rfl
  refine Tops_yes rfl rfl (congrArg (fun b => some (Value.bool b)) hg11) (OpT_build (v := .agg #[vU64 (99 : UInt64), vU32 (2 : UInt32), vB false]) rfl rfl rfl rfl (bldV (by kernel_rfl))) ?_
  rintro _ rfl
  refine Tops_yes rfl rfl (congrArg (fun b => some (Value.bool b)) hg11) (OpT_buildSlice (S := SegS) (xs := [(Seg.mk (99 : UInt64) (2 : UInt32) false)]) (css := [[vU64 (99 : UInt64), vU32 (2 : UInt32), vB false]]) (cs := [vU64 (99 : UInt64), vU32 (2 : UInt32), vB false]) (e := 47) rfl rfl rfl rfl (bldF slF22 (by decide) (by kernel_rfl)) rfl rfl rfl rfl (rel_plainD (S := SegS) (xs := [(Seg.mk (99 : UInt64) (2 : UInt32) false)]) (css := [[vU64 (99 : UInt64), vU32 (2 : UInt32), vB false]]) rfl rfl)) ?_
  rintro _ ⟨v12, rfl⟩
  obtain ⟨in1, hx9, h⟩ := ob_e h
  refine Tops_yes rfl rfl (congrArg (fun b => some (Value.bool b)) hg11) (OpT_callB [6] [7, 8, 2, 3, 4, 5, 6] (w_seg_In hx9) [0, 1] rfl rfl rfl rfl rfl callee15 rfl rfl rfl rfl rfl rfl (bor_cons (bor_shr 0 rfl) (bor_cons (bor_row 6 rfl rfl) bor_nil)) (by rintro _ _ _ ⟨rfl, rfl, rfl⟩; exact ⟨rfl, (ri_cons (ri_cells _ _ _) (ri_cons (ri_rows rfl _ _ _ _ _) ri_nil))⟩)) ?_
  rintro _ ⟨_, _, _, ⟨rfl, rfl, rfl⟩, rfl⟩
  refine Tops_yes rfl rfl (congrArg (fun b => some (Value.bool b)) hg11) (OpT_bin rfl rfl rfl rfl rfl (bin_eql_i (a := in1) (b := (5 : Int)))) ?_
  rintro _ rfl
  refine Tops_step rfl (OpT_pickT rfl rfl rfl (congrArg (fun b => some (Value.bool b)) hg11) rfl) ?_
  refine Tops_step rfl (OpT_move rfl rfl rfl rfl) ?_
  obtain ⟨hg12, h⟩ := chk_e h
  refine Tops_yes rfl rfl (congrArg (fun b => some (Value.bool b)) hg12) (OpT_move rfl rfl rfl rfl) ?_
  rintro _ rfl
  refine Tops_yes rfl rfl (congrArg (fun b => some (Value.bool b)) hg12) (OpT_move rfl rfl rfl rfl) ?_
  rintro _ rfl
  obtain ⟨same1, hx10, h⟩ := ob_e h
  refine Tops_yes rfl rfl (congrArg (fun b => some (Value.bool b)) hg12) (OpT_callB [2] [0, 1, 2, 3, 4, 5, 6] (w_seg_Same hx10) [] rfl rfl rfl rfl rfl callee12 rfl rfl rfl rfl rfl rfl (bor_cons (bor_row 2 rfl rfl) (bor_cons (bor_row 2 rfl rfl) bor_nil)) (by rintro _ _ _ ⟨rfl, rfl, rfl⟩; exact ⟨rfl, ri_nil⟩)) ?_
  rintro _ ⟨_, _, _, ⟨rfl, rfl, rfl⟩, rfl⟩
  refine Tops_step rfl (OpT_pickT rfl rfl rfl (congrArg (fun b => some (Value.bool b)) hg12) rfl) ?_
  refine Tops_step rfl (OpT_move rfl rfl rfl rfl) ?_
  obtain ⟨hg13, h⟩ := chk_e h
  refine Tops_yes rfl rfl (congrArg (fun b => some (Value.bool b)) hg13) (OpT_move rfl rfl rfl rfl) ?_
  rintro _ rfl
  refine Tops_nilfact SegS ?_
  obtain ⟨same2, hx11, h⟩ := ob_e h
  refine Tops_yes rfl rfl (congrArg (fun b => some (Value.bool b)) hg13) (OpT_callB [2] [0, 1, 2, 3, 4, 5, 6] (w_seg_Same hx11) [] rfl rfl rfl rfl rfl callee12 rfl rfl rfl rfl rfl rfl (bor_cons (bor_row 2 rfl rfl) (bor_cons (bor_shr 4 rfl) bor_nil)) (by rintro _ _ _ ⟨rfl, rfl, rfl⟩; exact ⟨rfl, ri_nil⟩)) ?_
  rintro _ ⟨_, _, _, ⟨rfl, rfl, rfl⟩, rfl⟩
  refine Tops_yes rfl rfl (congrArg (fun b => some (Value.bool b)) hg13) (OpT_not rfl rfl rfl rfl) ?_
  rintro _ rfl
  refine Tops_step rfl (OpT_pickT rfl rfl rfl (congrArg (fun b => some (Value.bool b)) hg13) rfl) ?_
  refine Tops_step rfl (OpT_move rfl rfl rfl rfl) ?_
  obtain ⟨hg14, h⟩ := chk_e h
  refine Tops_step rfl (OpT_pickT rfl rfl rfl (congrArg (fun b => some (Value.bool b)) hg14) rfl) ?_
  refine Tops_step rfl (OpT_assign rfl rfl rfl rfl) ?_
  refine Tops_nil ?_
  refine Tk_wkS (fr' := [(0, some (vB true))]) (own' := []) (shr' := []) [0] [] [] rfl rfl rfl rfl ?_
  exact Tk_retV rfl rfl (resA (vs := [.bool true]) rfl ⟨rfl, trivial⟩) [] [] rfl rfl rfl ⟨rfl, rfl, rfl⟩
end Go.Proofs.Ytkdekmjcfoahjaa
