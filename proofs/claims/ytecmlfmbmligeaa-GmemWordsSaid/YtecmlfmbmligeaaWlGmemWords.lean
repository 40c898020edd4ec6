/- The law GmemWords is walked: it returns what its plain words say. No condition. -/
import Derived.Test.YtecmlfmbmligeaaWa1
namespace Go.Proofs.Ytecmlfmbmligeaa

set_option maxRecDepth 100000 in
set_option maxHeartbeats 4000000 in
theorem w_law02zGmemWords {atp0 : Int} {vp1 : UInt64} {wp2 : UInt64} {width : Int}  (h : law02zGmemWords atp0 vp1 wp2 width = some true) :
  Ctr Try.prog 5 #[vI atp0, vU64 vp1, vU64 wp2, vI width] [] []
   (fun rv own shr => rv = .bool true ∧ own = [] ∧ shr = []) := by
 unfold law02zGmemWords at h
 refine Ctr.mk (args := [vI atp0, vU64 vp1, vU64 wp2, vI width]) Try.func5 rfl rfl (fun R0 w0 B => ?_)
 refine Tk_seq (Tk_region (Tops_step rfl (OpT_assign rfl rfl rfl rfl) ?_))
 refine Tops_nil (Tk_wkS (fr' := [(0, some (vI atp0)), (1, some (vU64 vp1)), (2, some (vU64 wp2)), (3, some (vI width))]) (own' := []) (shr' := []) [0, 1, 2, 3] [] [] rfl rfl rfl rfl ?_)
 refine Tk_seq (Tk_seq (Tk_region ?_))
 obtain ⟨lives1, hx1, h⟩ := ob_e h
 refine Tops_exP rfl (OpT_call (w_law02zlives hx1) [] [] rfl rfl rfl rfl rfl callee8 rfl rfl rfl rfl) ?_
 rintro _ ⟨_, _, _, ⟨rfl, rfl, rfl⟩, rfl⟩
 refine Tops_step rfl (OpT_not rfl rfl rfl rfl) ?_
 refine Tops_nil (Tk_wkS (fr' := [(0, some (vI atp0)), (1, some (vU64 vp1)), (2, some (vU64 wp2)), (3, some (vI width)), (23, some (vB (!lives1)))]) (own' := []) (shr' := []) [0, 1, 2, 3, 23] [] [] rfl rfl rfl rfl ?_)
 obtain ⟨hg1, h⟩ := chk_e h
 replace hg1 := not_t hg1
 refine Tk_condF (congrArg (fun b => some (Value.bool b)) hg1) ?_
 refine Tk_skip (Tk_seq (Tk_region (Tops_step rfl (OpT_build (v := .agg #[vU64 (1000 : UInt64), vU64 (64 : UInt64)]) rfl rfl rfl rfl (bldV (by kernel_rfl))) ?_)))
 refine Tops_ex rfl (OpT_buildSlice (S := RegionS) (xs := [(Region.mk (1000 : UInt64) (64 : UInt64))]) (css := [[vU64 (1000 : UInt64), vU64 (64 : UInt64)]]) (cs := [vU64 (1000 : UInt64), vU64 (64 : UInt64)]) (e := 36) rfl rfl rfl rfl (bldF slF22 (by decide) (by kernel_rfl)) rfl rfl rfl rfl (rel_plainD (S := RegionS) (xs := [(Region.mk (1000 : UInt64) (64 : UInt64))]) (css := [[vU64 (1000 : UInt64), vU64 (64 : UInt64)]]) rfl rfl)) fun v1 => ?_
 refine Tops_retire (i := 0) rfl ?_
 obtain ⟨new1, hx2, h⟩ := ob_e h
 refine Tops_exP rfl (OpT_call (w_gmem_New hx2) [] [0] rfl rfl rfl rfl rfl callee12 rfl rfl rfl rfl) ?_
 rintro _ ⟨_, _, _, ⟨v2, rfl, rfl, rfl⟩, rfl⟩
 refine Tops_step rfl (OpT_move rfl rfl rfl rfl) ?_
 refine Tops_step rfl (OpT_extract rfl rfl rfl rfl rfl) ?_
 refine Tops_step rfl (OpT_extract rfl rfl rfl rfl rfl) ?_
 refine Tops_step rfl (OpT_assign rfl rfl rfl rfl) ?_
 refine Tops_step rfl (OpT_assign rfl rfl rfl rfl) ?_
 refine Tops_nil (Tk_wkS (fr' := [(0, some (vI atp0)), (1, some (vU64 vp1)), (2, some (vU64 wp2)), (3, some (vI width)), (9, some (v2)), (10, some (vI new1.2))]) (own' := [some (optR 62 RegionS u8S true gmem_Mem.l gmem_Mem.b v2 new1.1)]) (shr' := []) [0, 1, 2, 3, 9, 10] [1] [] rfl rfl rfl rfl ?_)
 rcases onO_cases h with ⟨ho1, h⟩ | ⟨mem1, ho1, h⟩
 ·cases h
 ·refine Tk_optS (i := 0) rfl ho1 ?_
  rintro b1 v3 v4 vs1 rfl
  refine Tk_seq (Tk_seq (Tk_region (Tops_step rfl (OpT_move rfl rfl rfl rfl) ?_)))
  refine Tops_step rfl (OpT_bin rfl rfl rfl rfl rfl (bin_neq_i (a := new1.2) (b := (0 : Int)))) ?_
  refine Tops_nil (Tk_wkS (fr' := [(0, some (vI atp0)), (1, some (vU64 vp1)), (2, some (vU64 wp2)), (3, some (vI width)), (9, some (.pointer (some ⟨b1, 0, none⟩))), (31, some (vB (new1.2 != (0 : Int))))]) (own' := [some (cellsR b1 62 [v3, v4]), some (rowsX u8S true v4 vs1 mem1.b none)]) (shr' := [Fact.sl RegionS v3 mem1.l]) [0, 1, 2, 3, 9, 31] [0, 1] [0] rfl rfl rfl rfl ?_)
  obtain ⟨hg2, h⟩ := chk_e h
  replace hg2 := not_t hg2
  refine Tk_condF (congrArg (fun b => some (Value.bool b)) hg2) ?_
  refine Tk_skip (Tk_seq (Tk_region (Tops_step rfl (OpT_move rfl rfl rfl rfl) ?_)))
  obtain ⟨pick1, hx3, h⟩ := ob_e h
  refine Tops_exP rfl (OpT_call (w_kit_Pick hx3) [] [] rfl rfl rfl rfl rfl callee15 rfl rfl rfl rfl) ?_
  rintro _ ⟨_, _, _, ⟨rfl, rfl, rfl⟩, rfl⟩
  refine Tops_step rfl (OpT_cnv rfl rfl rfl rfl (cnv_i_u64 (n := pick1) Try.underlying3 Try.underlying26)) ?_
  refine Tops_step rfl (OpT_bin rfl rfl rfl rfl rfl (bin_add_u64 (a := (1000 : UInt64)) (b := u64 pick1))) ?_
  refine Tops_step rfl (OpT_assign rfl rfl rfl rfl) ?_
  refine Tops_nil (Tk_wkS (fr' := [(1, some (vU64 vp1)), (2, some (vU64 wp2)), (3, some (vI width)), (9, some (.pointer (some ⟨b1, 0, none⟩))), (11, some (vU64 ((1000 : UInt64) + (u64 pick1))))]) (own' := [some (cellsR b1 62 [v3, v4]), some (rowsX u8S true v4 vs1 mem1.b none)]) (shr' := [Fact.sl RegionS v3 mem1.l]) [1, 2, 3, 9, 11] [0, 1] [0] rfl rfl rfl rfl ?_)
  refine Tk_seq (Tk_region (Tops_ex rfl (OpT_buildSlice (S := iS) (xs := [(1 : Int), (2 : Int), (4 : Int)]) (css := [[vI (1 : Int)], [vI (2 : Int)], [vI (4 : Int)]]) (cs := [vI (1 : Int), vI (2 : Int), vI (4 : Int)]) (e := 3) rfl rfl rfl rfl (bldF slF41 (by decide) (by kernel_rfl)) rfl rfl rfl rfl (rel_plainD (S := iS) (xs := [(1 : Int), (2 : Int), (4 : Int)]) (css := [[vI (1 : Int)], [vI (2 : Int)], [vI (4 : Int)]]) rfl rfl)) fun v5 => ?_))
  refine Tops_step rfl (OpT_move rfl rfl rfl rfl) ?_
  obtain ⟨pick2, hx4, h⟩ := ob_e h
  refine Tops_exP rfl (OpT_call (w_kit_Pick hx4) [] [] rfl rfl rfl rfl rfl callee15 rfl rfl rfl rfl) ?_
  rintro _ ⟨_, _, _, ⟨rfl, rfl, rfl⟩, rfl⟩
  obtain ⟨y1, hx5, h⟩ := ob_e h
  refine Tops_step rfl (OpT_idxO rfl rfl rfl rfl rfl slF41 (i := 2) rfl hx5) ?_
  refine Tops_step rfl (OpT_loadO (S := iS) rfl rfl rfl rfl rfl tyF3 (i := 2) rfl hx5 rfl rfl) ?_
  refine Tops_step rfl (OpT_assign rfl rfl rfl rfl) ?_
  refine Tops_nil (Tk_wkS (fr' := [(1, some (vU64 vp1)), (2, some (vU64 wp2)), (9, some (.pointer (some ⟨b1, 0, none⟩))), (11, some (vU64 ((1000 : UInt64) + (u64 pick1)))), (12, some (vI y1))]) (own' := [some (cellsR b1 62 [v3, v4]), some (rowsX u8S true v4 vs1 mem1.b none)]) (shr' := [Fact.sl RegionS v3 mem1.l]) [1, 2, 9, 11, 12] [0, 1] [0] rfl rfl rfl rfl ?_)
  refine Tk_seq (Tk_seq (Tk_region (Tops_step rfl (OpT_move rfl rfl rfl rfl) ?_)))
  refine Tops_step rfl (OpT_move rfl rfl rfl rfl) ?_
  refine Tops_step rfl (OpT_move rfl rfl rfl rfl) ?_
  obtain ⟨store1, hx6, h⟩ := ob_e h
  refine Tops_exP rfl (OpT_callP [2, 3] (w_gmem_Mem_Store hx6) [0, 1] [0] rfl rfl rfl rfl rfl callee17 rfl rfl rfl rfl rfl) ?_
  rintro _ ⟨_, _, _, ⟨rfl, rfl, rfl⟩, rfl⟩
  refine Tops_step rfl (OpT_bin rfl rfl rfl rfl rfl (bin_neq_i (a := store1.1) (b := (0 : Int)))) ?_
  refine Tops_nil (Tk_wkS (fr' := [(1, some (vU64 vp1)), (2, some (vU64 wp2)), (9, some (.pointer (some ⟨b1, 0, none⟩))), (11, some (vU64 ((1000 : UInt64) + (u64 pick1)))), (12, some (vI y1)), (45, some (vB (store1.1 != (0 : Int))))]) (own' := [some (cellsR b1 62 [v3, v4]), some (rowsX u8S true v4 vs1 store1.2 none)]) (shr' := [Fact.sl RegionS v3 mem1.l]) [1, 2, 9, 11, 12, 45] [0, 1] [0] rfl rfl rfl rfl ?_)
  obtain ⟨hg3, h⟩ := chk_e h
  replace hg3 := not_t hg3
  refine Tk_condF (congrArg (fun b => some (Value.bool b)) hg3) ?_
  refine Tk_skip (Tk_seq (Tk_region (Tops_step rfl (OpT_assign rfl rfl rfl rfl) ?_)))
  refine Tops_nil (Tk_wkS (fr' := [(1, some (vU64 vp1)), (2, some (vU64 wp2)), (9, some (.pointer (some ⟨b1, 0, none⟩))), (11, some (vU64 ((1000 : UInt64) + (u64 pick1)))), (12, some (vI y1)), (13, some (vU64 (0 : UInt64)))]) (own' := [some (cellsR b1 62 [v3, v4]), some (rowsX u8S true v4 vs1 store1.2 none)]) (shr' := [Fact.sl RegionS v3 mem1.l]) [1, 2, 9, 11, 12, 13] [0, 1] [0] rfl rfl rfl rfl ?_)
  refine Tk_seq (Tk_seq (Tk_region (Tops_step rfl (OpT_move rfl rfl rfl rfl) ?_)))
  refine Tops_step rfl (OpT_bin rfl rfl rfl rfl rfl (bin_sub_i (a := (8 : Int)) (b := y1))) ?_
  refine Tops_step rfl (OpT_assign rfl rfl rfl rfl) ?_
  refine Tops_nil (Tk_wkS (fr' := [(1, some (vU64 vp1)), (2, some (vU64 wp2)), (9, some (.pointer (some ⟨b1, 0, none⟩))), (11, some (vU64 ((1000 : UInt64) + (u64 pick1)))), (12, some (vI y1)), (13, some (vU64 (0 : UInt64))), (14, some (vI (wi ((8 : Int) - y1))))]) (own' := [some (cellsR b1 62 [v3, v4]), some (rowsX u8S true v4 vs1 store1.2 none)]) (shr' := [Fact.sl RegionS v3 mem1.l]) [1, 2, 9, 11, 12, 13, 14] [0, 1] [0] rfl rfl rfl rfl ?_)
  refine Tk_block (Tk_loopS (σ := UInt64 × Int) [1, 2, 9, 11, 12, 13, 14] [0, 1] [0] (fun s => ⟨[(1, some (vU64 vp1)), (2, some (vU64 wp2)), (9, some (.pointer (some ⟨b1, 0, none⟩))), (11, some (vU64 ((1000 : UInt64) + (u64 pick1)))), (12, some (vI y1)), (13, some (vU64 s.1)), (14, some (vI s.2))], [some (cellsR b1 62 [v3, v4]), some (rowsX u8S true v4 vs1 store1.2 none)], [Fact.sl RegionS v3 mem1.l]⟩) (fun nf1 s => law02zGmemWordsL1 vp1 wp2 mem1 pick1 y1 store1 nf1 s.1 s.2 = some true) fuel ((0 : UInt64), wi ((8 : Int) - y1)) h rfl rfl rfl rfl rfl (fun s h => by cases h) ?_)
  rintro nf1 ⟨back1, i1⟩ h
  replace h : law02zGmemWordsL1B vp1 wp2 mem1 pick1 y1 store1 (law02zGmemWordsL1 vp1 wp2 mem1 pick1 y1 store1 nf1) back1 i1 = some true := h
  unfold law02zGmemWordsL1B at h
  refine Tk_seq (Tk_seq (Tk_region (Tops_step rfl (OpT_move rfl rfl rfl rfl) ?_)))
  refine Tops_step rfl (OpT_bin rfl rfl rfl rfl rfl (bin_geq_i (a := i1) (b := (0 : Int)))) ?_
  refine Tops_nil (Tk_wkS (fr' := [(1, some (vU64 vp1)), (2, some (vU64 wp2)), (9, some (.pointer (some ⟨b1, 0, none⟩))), (11, some (vU64 ((1000 : UInt64) + (u64 pick1)))), (12, some (vI y1)), (13, some (vU64 back1)), (14, some (vI i1)), (49, some (vB (decide (i1 ≥ (0 : Int)))))]) (own' := [some (cellsR b1 62 [v3, v4]), some (rowsX u8S true v4 vs1 store1.2 none)]) (shr' := [Fact.sl RegionS v3 mem1.l]) [1, 2, 9, 11, 12, 13, 14, 49] [0, 1] [0] rfl rfl rfl rfl ?_)
  rcases Bool.eq_false_or_eq_true (decide (i1 ≥ (0 : Int))) with hg4 | hg4
  ·replace h := br_t hg4 h
   refine Tk_condT (congrArg (fun b => some (Value.bool b)) hg4) ?_
   refine Tk_skip (Tk_seq (Tk_block (Tk_seq (Tk_region (Tops_step rfl (OpT_move rfl rfl rfl rfl) ?_)))))
   refine Tops_step rfl (OpT_move rfl rfl rfl rfl) ?_
   refine Tops_step rfl (OpT_move rfl rfl rfl rfl) ?_
   refine Tops_step rfl (OpT_cnv rfl rfl rfl rfl (cnv_i_u64 (n := i1) Try.underlying3 Try.underlying26)) ?_
   refine Tops_step rfl (OpT_bin rfl rfl rfl rfl rfl (bin_add_u64 (a := (1000 : UInt64) + (u64 pick1)) (b := u64 i1))) ?_
   refine Tops_step rfl (OpT_move rfl rfl rfl rfl) ?_
   obtain ⟨load1, hx7, h⟩ := ob_e h
   refine Tops_exP rfl (OpT_callP [2, 3] (w_gmem_Mem_Load hx7) [0, 1] [0] rfl rfl rfl rfl rfl callee16 rfl rfl rfl rfl rfl) ?_
   rintro _ ⟨_, _, _, ⟨rfl, rfl, rfl⟩, rfl⟩
   refine Tops_step rfl (OpT_move rfl rfl rfl rfl) ?_
   refine Tops_step rfl (OpT_extract rfl rfl rfl rfl rfl) ?_
   refine Tops_step rfl (OpT_extract rfl rfl rfl rfl rfl) ?_
   refine Tops_step rfl (OpT_assign rfl rfl rfl rfl) ?_
   refine Tops_step rfl (OpT_assign rfl rfl rfl rfl) ?_
   refine Tops_nil (Tk_wkS (fr' := [(1, some (vU64 vp1)), (2, some (vU64 wp2)), (9, some (.pointer (some ⟨b1, 0, none⟩))), (11, some (vU64 ((1000 : UInt64) + (u64 pick1)))), (12, some (vI y1)), (13, some (vU64 back1)), (14, some (vI i1)), (15, some (vU64 load1.1)), (16, some (vI load1.2))]) (own' := [some (cellsR b1 62 [v3, v4]), some (rowsX u8S true v4 vs1 store1.2 none)]) (shr' := [Fact.sl RegionS v3 mem1.l]) [1, 2, 9, 11, 12, 13, 14, 15, 16] [0, 1] [0] rfl rfl rfl rfl ?_)
   refine Tk_seq (Tk_seq (Tk_region (Tops_step rfl (OpT_move rfl rfl rfl rfl) ?_)))
   refine Tops_step rfl (OpT_bin rfl rfl rfl rfl rfl (bin_neq_i (a := load1.2) (b := (0 : Int)))) ?_
   refine Tops_step rfl (OpT_move rfl rfl rfl rfl) ?_
   obtain ⟨hg5, h⟩ := chk_e h
   replace hg5 := not_t hg5
   refine Tops_yes rfl rfl (congrArg (fun b => some (Value.bool b)) hg5) (OpT_move rfl rfl rfl rfl) ?_
   rintro _ rfl
   refine Tops_yes rfl rfl (congrArg (fun b => some (Value.bool b)) hg5) (OpT_move rfl rfl rfl rfl) ?_
   rintro _ rfl
   refine Tops_yes rfl rfl (congrArg (fun b => some (Value.bool b)) hg5) (OpT_bin rfl rfl rfl rfl rfl (bin_mul_i (a := (8 : Int)) (b := y1))) ?_
   rintro _ rfl
   refine Tops_yes rfl rfl (congrArg (fun b => some (Value.bool b)) hg5) (OpT_cnv rfl rfl rfl rfl (cnv_i_u64 (n := wi ((8 : Int) * y1)) Try.underlying3 Try.underlying46)) ?_
   rintro _ rfl
   refine Tops_yes rfl rfl (congrArg (fun b => some (Value.bool b)) hg5) (OpT_bin rfl rfl rfl rfl rfl (bin_shr_u64_u64 (a := load1.1) (n := u64 (wi ((8 : Int) * y1))))) ?_
   rintro _ rfl
   refine Tops_yes rfl rfl (congrArg (fun b => some (Value.bool b)) hg5) (OpT_bin rfl rfl rfl rfl rfl (bin_neq_u64 (a := shr64 load1.1 ((u64 (wi ((8 : Int) * y1))).toNat)) (b := (0 : UInt64)))) ?_
   rintro _ rfl
   refine Tops_step rfl (OpT_pickF rfl rfl rfl (congrArg (fun b => some (Value.bool b)) hg5) rfl) ?_
   refine Tops_nil (Tk_wkS (fr' := [(1, some (vU64 vp1)), (2, some (vU64 wp2)), (9, some (.pointer (some ⟨b1, 0, none⟩))), (11, some (vU64 ((1000 : UInt64) + (u64 pick1)))), (12, some (vI y1)), (13, some (vU64 back1)), (14, some (vI i1)), (15, some (vU64 load1.1)), (72, some (vB ((shr64 load1.1 ((u64 (wi ((8 : Int) * y1))).toNat)) != (0 : UInt64))))]) (own' := [some (cellsR b1 62 [v3, v4]), some (rowsX u8S true v4 vs1 store1.2 none)]) (shr' := [Fact.sl RegionS v3 mem1.l]) [1, 2, 9, 11, 12, 13, 14, 15, 72] [0, 1] [0] rfl rfl rfl rfl ?_)
   obtain ⟨hg6, h⟩ := chk_e h
   replace hg6 := not_t hg6
   refine Tk_condF (congrArg (fun b => some (Value.bool b)) hg6) ?_
   refine Tk_skip (Tk_region (Tops_step rfl (OpT_move rfl rfl rfl rfl) ?_))
   refine Tops_step rfl (OpT_move rfl rfl rfl rfl) ?_
   refine Tops_step rfl (OpT_bin rfl rfl rfl rfl rfl (bin_mul_i (a := (8 : Int)) (b := y1))) ?_
   refine Tops_step rfl (OpT_cnv rfl rfl rfl rfl (cnv_i_u64 (n := wi ((8 : Int) * y1)) Try.underlying3 Try.underlying46)) ?_
   refine Tops_step rfl (OpT_bin rfl rfl rfl rfl rfl (bin_shl_u64_u64 (a := back1) (n := u64 (wi ((8 : Int) * y1))))) ?_
   refine Tops_step rfl (OpT_move rfl rfl rfl rfl) ?_
   refine Tops_step rfl (OpT_bin rfl rfl rfl rfl rfl (bin_or_u64 (a := shl64 back1 ((u64 (wi ((8 : Int) * y1))).toNat)) (b := load1.1))) ?_
   refine Tops_step rfl (OpT_assign rfl rfl rfl rfl) ?_
   refine Tops_nil (Tk_wkS (fr' := [(1, some (vU64 vp1)), (2, some (vU64 wp2)), (9, some (.pointer (some ⟨b1, 0, none⟩))), (11, some (vU64 ((1000 : UInt64) + (u64 pick1)))), (12, some (vI y1)), (13, some (vU64 ((shl64 back1 ((u64 (wi ((8 : Int) * y1))).toNat)) ||| load1.1))), (14, some (vI i1))]) (own' := [some (cellsR b1 62 [v3, v4]), some (rowsX u8S true v4 vs1 store1.2 none)]) (shr' := [Fact.sl RegionS v3 mem1.l]) [1, 2, 9, 11, 12, 13, 14] [0, 1] [0] rfl rfl rfl rfl ?_)
   refine Tk_blk (Tk_region (Tops_step rfl (OpT_move rfl rfl rfl rfl) ?_))
   refine Tops_step rfl (OpT_move rfl rfl rfl rfl) ?_
   refine Tops_step rfl (OpT_bin rfl rfl rfl rfl rfl (bin_sub_i (a := i1) (b := y1))) ?_
   refine Tops_step rfl (OpT_assign rfl rfl rfl rfl) ?_
   refine Tops_nil (Tk_wkS (fr' := [(1, some (vU64 vp1)), (2, some (vU64 wp2)), (9, some (.pointer (some ⟨b1, 0, none⟩))), (11, some (vU64 ((1000 : UInt64) + (u64 pick1)))), (12, some (vI y1)), (13, some (vU64 ((shl64 back1 ((u64 (wi ((8 : Int) * y1))).toNat)) ||| load1.1))), (14, some (vI (wi (i1 - y1))))]) (own' := [some (cellsR b1 62 [v3, v4]), some (rowsX u8S true v4 vs1 store1.2 none)]) (shr' := [Fact.sl RegionS v3 mem1.l]) [1, 2, 9, 11, 12, 13, 14] [0, 1] [0] rfl rfl rfl rfl ?_)
   exact Tk_backS ((shl64 back1 ((u64 (wi ((8 : Int) * y1))).toNat)) ||| load1.1, wi (i1 - y1)) h [1, 2, 9, 11, 12, 13, 14] [0, 1] [0] rfl rfl rfl rfl rfl
  ·replace h := br_f hg4 h
   refine Tk_condF (congrArg (fun b => some (Value.bool b)) hg4) ?_
   refine Tk_exit _ rfl ?_
   refine Tk_seq (Tk_region (Tops_step rfl (OpT_move rfl rfl rfl rfl) ?_))
   refine Tops_step rfl (OpT_bin rfl rfl rfl rfl rfl (bin_mul_i (a := (8 : Int)) (b := y1))) ?_
   refine Tops_step rfl (OpT_cnv rfl rfl rfl rfl (cnv_i_u64 (n := wi ((8 : Int) * y1)) Try.underlying3 Try.underlying46)) ?_
   refine Tops_step rfl (OpT_bin rfl rfl rfl rfl rfl (bin_shl_u64_u64 (a := (1 : UInt64)) (n := u64 (wi ((8 : Int) * y1))))) ?_
   refine Tops_step rfl (OpT_bin rfl rfl rfl rfl rfl (bin_sub_u64 (a := shl64 (1 : UInt64) ((u64 (wi ((8 : Int) * y1))).toNat)) (b := (1 : UInt64)))) ?_
   refine Tops_step rfl (OpT_assign rfl rfl rfl rfl) ?_
   refine Tops_nil (Tk_wkS (fr' := [(1, some (vU64 vp1)), (2, some (vU64 wp2)), (9, some (.pointer (some ⟨b1, 0, none⟩))), (11, some (vU64 ((1000 : UInt64) + (u64 pick1)))), (12, some (vI y1)), (13, some (vU64 back1)), (17, some (vU64 ((shl64 (1 : UInt64) ((u64 (wi ((8 : Int) * y1))).toNat)) - (1 : UInt64))))]) (own' := [some (cellsR b1 62 [v3, v4]), some (rowsX u8S true v4 vs1 store1.2 none)]) (shr' := [Fact.sl RegionS v3 mem1.l]) [1, 2, 9, 11, 12, 13, 17] [0, 1] [0] rfl rfl rfl rfl ?_)
   refine Tk_seq (Tk_seq (Tk_region (Tops_step rfl (OpT_move rfl rfl rfl rfl) ?_)))
   refine Tops_step rfl (OpT_move rfl rfl rfl rfl) ?_
   refine Tops_step rfl (OpT_bin rfl rfl rfl rfl rfl (bin_neq_u64 (a := back1) (b := vp1))) ?_
   refine Tops_step rfl (OpT_move rfl rfl rfl rfl) ?_
   obtain ⟨hg7, h⟩ := chk_e h
   replace hg7 := not_t hg7
   refine Tops_yes rfl rfl (congrArg (fun b => some (Value.bool b)) hg7) (OpT_move rfl rfl rfl rfl) ?_
   rintro _ rfl
   refine Tops_yes rfl rfl (congrArg (fun b => some (Value.bool b)) hg7) (OpT_move rfl rfl rfl rfl) ?_
   rintro _ rfl
   refine Tops_yes rfl rfl (congrArg (fun b => some (Value.bool b)) hg7) (OpT_move rfl rfl rfl rfl) ?_
   rintro _ rfl
   refine Tops_yes rfl rfl (congrArg (fun b => some (Value.bool b)) hg7) (OpT_move rfl rfl rfl rfl) ?_
   rintro _ rfl
   obtain ⟨store2, hx8, h⟩ := ob_e h
   refine Tops_yes rfl rfl (congrArg (fun b => some (Value.bool b)) hg7) (OpT_callP [2, 3] (w_gmem_Mem_Store hx8) [0, 1] [0] rfl rfl rfl rfl rfl callee17 rfl rfl rfl rfl rfl) ?_
   rintro _ ⟨_, _, _, ⟨rfl, rfl, rfl⟩, rfl⟩
   refine Tops_yes rfl rfl (congrArg (fun b => some (Value.bool b)) hg7) (OpT_bin rfl rfl rfl rfl rfl (bin_neq_i (a := store2.1) (b := (0 : Int)))) ?_
   rintro _ rfl
   refine Tops_step rfl (OpT_pickF rfl rfl rfl (congrArg (fun b => some (Value.bool b)) hg7) rfl) ?_
   refine Tops_nil (Tk_wkS (fr' := [(1, some (vU64 vp1)), (2, some (vU64 wp2)), (9, some (.pointer (some ⟨b1, 0, none⟩))), (11, some (vU64 ((1000 : UInt64) + (u64 pick1)))), (17, some (vU64 ((shl64 (1 : UInt64) ((u64 (wi ((8 : Int) * y1))).toNat)) - (1 : UInt64)))), (95, some (vB (store2.1 != (0 : Int))))]) (own' := [some (cellsR b1 62 [v3, v4]), some (rowsX u8S true v4 vs1 store2.2 none)]) (shr' := [Fact.sl RegionS v3 mem1.l]) [1, 2, 9, 11, 17, 95] [0, 1] [0] rfl rfl rfl rfl ?_)
   obtain ⟨hg8, h⟩ := chk_e h
   replace hg8 := not_t hg8
   refine Tk_condF (congrArg (fun b => some (Value.bool b)) hg8) ?_
   refine Tk_skip (Tk_seq (Tk_region (Tops_step rfl (OpT_move rfl rfl rfl rfl) ?_)))
   refine Tops_step rfl (OpT_move rfl rfl rfl rfl) ?_
   obtain ⟨load2, hx9, h⟩ := ob_e h
   refine Tops_exP rfl (OpT_callP [2, 3] (w_gmem_Mem_Load hx9) [0, 1] [0] rfl rfl rfl rfl rfl callee16 rfl rfl rfl rfl rfl) ?_
   rintro _ ⟨_, _, _, ⟨rfl, rfl, rfl⟩, rfl⟩
   refine Tops_step rfl (OpT_move rfl rfl rfl rfl) ?_
   refine Tops_step rfl (OpT_extract rfl rfl rfl rfl rfl) ?_
   refine Tops_step rfl (OpT_extract rfl rfl rfl rfl rfl) ?_
   refine Tops_step rfl (OpT_assign rfl rfl rfl rfl) ?_
   refine Tops_step rfl (OpT_assign rfl rfl rfl rfl) ?_
   refine Tops_nil (Tk_wkS (fr' := [(1, some (vU64 vp1)), (2, some (vU64 wp2)), (9, some (.pointer (some ⟨b1, 0, none⟩))), (11, some (vU64 ((1000 : UInt64) + (u64 pick1)))), (17, some (vU64 ((shl64 (1 : UInt64) ((u64 (wi ((8 : Int) * y1))).toNat)) - (1 : UInt64)))), (18, some (vU64 load2.1)), (10, some (vI load2.2))]) (own' := [some (cellsR b1 62 [v3, v4]), some (rowsX u8S true v4 vs1 store2.2 none)]) (shr' := [Fact.sl RegionS v3 mem1.l]) [1, 2, 9, 11, 17, 18, 10] [0, 1] [0] rfl rfl rfl rfl ?_)
   refine Tk_seq (Tk_region (Tops_step rfl (OpT_move rfl rfl rfl rfl) ?_))
   refine Tops_step rfl (OpT_move rfl rfl rfl rfl) ?_
   obtain ⟨read1, hx10, h⟩ := ob_e h
   refine Tops_exP rfl (OpT_callP [2, 3, 4] (w_gmem_Mem_Read hx10) [0, 1] [0] rfl rfl rfl rfl rfl callee22 rfl rfl rfl rfl rfl) ?_
   rintro _ ⟨_, _, _, ⟨v6, rfl, rfl, rfl⟩, rfl⟩
   refine Tops_step rfl (OpT_move rfl rfl rfl rfl) ?_
   refine Tops_step rfl (OpT_extract rfl rfl rfl rfl rfl) ?_
   refine Tops_step rfl (OpT_extract rfl rfl rfl rfl rfl) ?_
   refine Tops_step rfl (OpT_assign rfl rfl rfl rfl) ?_
   refine Tops_step rfl (OpT_assign rfl rfl rfl rfl) ?_
   refine Tops_nil (Tk_wkS (fr' := [(1, some (vU64 vp1)), (2, some (vU64 wp2)), (9, some (.pointer (some ⟨b1, 0, none⟩))), (11, some (vU64 ((1000 : UInt64) + (u64 pick1)))), (17, some (vU64 ((shl64 (1 : UInt64) ((u64 (wi ((8 : Int) * y1))).toNat)) - (1 : UInt64)))), (18, some (vU64 load2.1)), (10, some (vI load2.2)), (19, some (v6)), (20, some (vI read1.2))]) (own' := [some (cellsR b1 62 [v3, v4]), some (rowsX u8S true v4 vs1 store2.2 none), some (rowS u8S v6 read1.1)]) (shr' := [Fact.sl RegionS v3 mem1.l]) [1, 2, 9, 11, 17, 18, 10, 19, 20] [0, 1, 2] [0] rfl rfl rfl rfl ?_)
   refine Tk_seq (Tk_seq (Tk_region (Tops_step rfl (OpT_move rfl rfl rfl rfl) ?_)))
   refine Tops_step rfl (OpT_bin rfl rfl rfl rfl rfl (bin_neq_i (a := load2.2) (b := (0 : Int)))) ?_
   refine Tops_step rfl (OpT_move rfl rfl rfl rfl) ?_
   obtain ⟨hg9, h⟩ := chk_e h
   replace hg9 := not_t hg9
   refine Tops_yes rfl rfl (congrArg (fun b => some (Value.bool b)) hg9) (OpT_move rfl rfl rfl rfl) ?_
   rintro _ rfl
   refine Tops_yes rfl rfl (congrArg (fun b => some (Value.bool b)) hg9) (OpT_bin rfl rfl rfl rfl rfl (bin_neq_i (a := read1.2) (b := (0 : Int)))) ?_
   rintro _ rfl
   refine Tops_step rfl (OpT_pickF rfl rfl rfl (congrArg (fun b => some (Value.bool b)) hg9) rfl) ?_
   refine Tops_step rfl (OpT_move rfl rfl rfl rfl) ?_
   obtain ⟨hg10, h⟩ := chk_e h
   replace hg10 := not_t hg10
   refine Tops_yes rfl rfl (congrArg (fun b => some (Value.bool b)) hg10) (OpT_move rfl rfl rfl rfl) ?_
   rintro _ rfl
   refine Tops_yes rfl rfl (congrArg (fun b => some (Value.bool b)) hg10) (OpT_move rfl rfl rfl rfl) ?_
   rintro _ rfl
   refine Tops_yes rfl rfl (congrArg (fun b => some (Value.bool b)) hg10) (OpT_move rfl rfl rfl rfl) ?_
   rintro _ rfl
   refine Tops_yes rfl rfl (congrArg (fun b => some (Value.bool b)) hg10) (OpT_bin rfl rfl rfl rfl rfl (bin_andNot_u64 (a := vp1) (b := (shl64 (1 : UInt64) ((u64 (wi ((8 : Int) * y1))).toNat)) - (1 : UInt64)))) ?_
   rintro _ rfl
   refine Tops_yes rfl rfl (congrArg (fun b => some (Value.bool b)) hg10) (OpT_move rfl rfl rfl rfl) ?_
   rintro _ rfl
   refine Tops_yes rfl rfl (congrArg (fun b => some (Value.bool b)) hg10) (OpT_move rfl rfl rfl rfl) ?_
   rintro _ rfl
   refine Tops_yes rfl rfl (congrArg (fun b => some (Value.bool b)) hg10) (OpT_bin rfl rfl rfl rfl rfl (bin_and_u64 (a := wp2) (b := (shl64 (1 : UInt64) ((u64 (wi ((8 : Int) * y1))).toNat)) - (1 : UInt64)))) ?_
   rintro _ rfl
   refine Tops_yes rfl rfl (congrArg (fun b => some (Value.bool b)) hg10) (OpT_bin rfl rfl rfl rfl rfl (bin_or_u64 (a := vp1 &&& ~~~((shl64 (1 : UInt64) ((u64 (wi ((8 : Int) * y1))).toNat)) - (1 : UInt64))) (b := wp2 &&& ((shl64 (1 : UInt64) ((u64 (wi ((8 : Int) * y1))).toNat)) - (1 : UInt64))))) ?_
   rintro _ rfl
   refine Tops_yes rfl rfl (congrArg (fun b => some (Value.bool b)) hg10) (OpT_bin rfl rfl rfl rfl rfl (bin_neq_u64 (a := load2.1) (b := (vp1 &&& ~~~((shl64 (1 : UInt64) ((u64 (wi ((8 : Int) * y1))).toNat)) - (1 : UInt64))) ||| (wp2 &&& ((shl64 (1 : UInt64) ((u64 (wi ((8 : Int) * y1))).toNat)) - (1 : UInt64)))))) ?_
   rintro _ rfl
   refine Tops_step rfl (OpT_pickF rfl rfl rfl (congrArg (fun b => some (Value.bool b)) hg10) rfl) ?_
   refine Tops_nil (Tk_wkS (fr' := [(9, some (.pointer (some ⟨b1, 0, none⟩))), (11, some (vU64 ((1000 : UInt64) + (u64 pick1)))), (18, some (vU64 load2.1)), (19, some (v6)), (124, some (vB (load2.1 != ((vp1 &&& ~~~((shl64 (1 : UInt64) ((u64 (wi ((8 : Int) * y1))).toNat)) - (1 : UInt64))) ||| (wp2 &&& ((shl64 (1 : UInt64) ((u64 (wi ((8 : Int) * y1))).toNat)) - (1 : UInt64)))))))]) (own' := [some (cellsR b1 62 [v3, v4]), some (rowsX u8S true v4 vs1 store2.2 none), some (rowS u8S v6 read1.1)]) (shr' := [Fact.sl RegionS v3 mem1.l]) [9, 11, 18, 19, 124] [0, 1, 2] [0] rfl rfl rfl rfl ?_)
   obtain ⟨hg11, h⟩ := chk_e h
   replace hg11 := not_t hg11
   refine Tk_condF (congrArg (fun b => some (Value.bool b)) hg11) ?_
   refine Tk_skip (Tk_seq (Tk_seq (Tk_region (Tops_step rfl (OpT_assign rfl rfl rfl rfl) ?_))))
   refine Tops_nil (Tk_wkS (fr' := [(9, some (.pointer (some ⟨b1, 0, none⟩))), (11, some (vU64 ((1000 : UInt64) + (u64 pick1)))), (18, some (vU64 load2.1)), (19, some (v6)), (21, some (vI (0 : Int)))]) (own' := [some (cellsR b1 62 [v3, v4]), some (rowsX u8S true v4 vs1 store2.2 none), some (rowS u8S v6 read1.1)]) (shr' := [Fact.sl RegionS v3 mem1.l]) [9, 11, 18, 19, 21] [0, 1, 2] [0] rfl rfl rfl rfl ?_)
   refine Tk_block (Tk_loopS (σ := Int) [9, 11, 18, 19, 21] [0, 1, 2] [0] (fun s => ⟨[(9, some (.pointer (some ⟨b1, 0, none⟩))), (11, some (vU64 ((1000 : UInt64) + (u64 pick1)))), (18, some (vU64 load2.1)), (19, some (v6)), (21, some (vI s))], [some (cellsR b1 62 [v3, v4]), some (rowsX u8S true v4 vs1 store2.2 none), some (rowS u8S v6 read1.1)], [Fact.sl RegionS v3 mem1.l]⟩) (fun nf2 s => law02zGmemWordsL2 mem1 pick1 store2 load2 read1 nf2 s = some true) fuel (0 : Int) h rfl rfl rfl rfl rfl (fun s h => by cases h) ?_)
   rintro nf2 i2 h
   replace h : law02zGmemWordsL2B mem1 pick1 store2 load2 read1 (law02zGmemWordsL2 mem1 pick1 store2 load2 read1 nf2) i2 = some true := h
   unfold law02zGmemWordsL2B at h
   refine Tk_seq (Tk_seq (Tk_region (Tops_step rfl (OpT_move rfl rfl rfl rfl) ?_)))
   refine Tops_step rfl (OpT_bin rfl rfl rfl rfl rfl (bin_lss_i (a := i2) (b := (8 : Int)))) ?_
   refine Tops_nil (Tk_wkS (fr' := [(9, some (.pointer (some ⟨b1, 0, none⟩))), (11, some (vU64 ((1000 : UInt64) + (u64 pick1)))), (18, some (vU64 load2.1)), (19, some (v6)), (21, some (vI i2)), (126, some (vB (decide (i2 < (8 : Int)))))]) (own' := [some (cellsR b1 62 [v3, v4]), some (rowsX u8S true v4 vs1 store2.2 none), some (rowS u8S v6 read1.1)]) (shr' := [Fact.sl RegionS v3 mem1.l]) [9, 11, 18, 19, 21, 126] [0, 1, 2] [0] rfl rfl rfl rfl ?_)
   rcases Bool.eq_false_or_eq_true (decide (i2 < (8 : Int))) with hg12 | hg12
   ·replace h := br_t hg12 h
    refine Tk_condT (congrArg (fun b => some (Value.bool b)) hg12) ?_
    refine Tk_skip (Tk_seq (Tk_block (Tk_seq (Tk_region (Tops_step rfl (OpT_move rfl rfl rfl rfl) ?_)))))
    refine Tops_step rfl (OpT_move rfl rfl rfl rfl) ?_
    obtain ⟨y2, hx11, h⟩ := ob_e h
    refine Tops_step rfl (OpT_idxO rfl rfl rfl rfl rfl slF38 (i := 2) rfl hx11) ?_
    refine Tops_step rfl (OpT_loadO (S := u8S) rfl rfl rfl rfl rfl tyF5 (i := 2) rfl hx11 rfl rfl) ?_
    refine Tops_step rfl (OpT_move rfl rfl rfl rfl) ?_
    refine Tops_step rfl (OpT_move rfl rfl rfl rfl) ?_
    refine Tops_step rfl (OpT_bin rfl rfl rfl rfl rfl (bin_mul_i (a := (8 : Int)) (b := i2))) ?_
    refine Tops_step rfl (OpT_cnv rfl rfl rfl rfl (cnv_i_u64 (n := wi ((8 : Int) * i2)) Try.underlying3 Try.underlying46)) ?_
    refine Tops_step rfl (OpT_bin rfl rfl rfl rfl rfl (bin_shr_u64_u64 (a := load2.1) (n := u64 (wi ((8 : Int) * i2))))) ?_
    refine Tops_step rfl (OpT_cnv rfl rfl rfl rfl (cnv_u64_u8 (n := shr64 load2.1 ((u64 (wi ((8 : Int) * i2))).toNat)) Try.underlying26 Try.underlying5)) ?_
    refine Tops_step rfl (OpT_bin rfl rfl rfl rfl rfl (bin_neq_u8 (a := y2) (b := (shr64 load2.1 ((u64 (wi ((8 : Int) * i2))).toNat)).toUInt8))) ?_
    refine Tops_nil (Tk_wkS (fr' := [(9, some (.pointer (some ⟨b1, 0, none⟩))), (11, some (vU64 ((1000 : UInt64) + (u64 pick1)))), (18, some (vU64 load2.1)), (19, some (v6)), (21, some (vI i2)), (139, some (vB (y2 != ((shr64 load2.1 ((u64 (wi ((8 : Int) * i2))).toNat)).toUInt8))))]) (own' := [some (cellsR b1 62 [v3, v4]), some (rowsX u8S true v4 vs1 store2.2 none), some (rowS u8S v6 read1.1)]) (shr' := [Fact.sl RegionS v3 mem1.l]) [9, 11, 18, 19, 21, 139] [0, 1, 2] [0] rfl rfl rfl rfl ?_)
    obtain ⟨hg13, h⟩ := chk_e h
    replace hg13 := not_t hg13
    refine Tk_condF (congrArg (fun b => some (Value.bool b)) hg13) ?_
    refine Tk_skip (Tk_blk (Tk_region (Tops_step rfl (OpT_move rfl rfl rfl rfl) ?_)))
    refine Tops_step rfl (OpT_bin rfl rfl rfl rfl rfl (bin_add_i (a := i2) (b := (1 : Int)))) ?_
    refine Tops_step rfl (OpT_assign rfl rfl rfl rfl) ?_
    refine Tops_nil (Tk_wkS (fr' := [(9, some (.pointer (some ⟨b1, 0, none⟩))), (11, some (vU64 ((1000 : UInt64) + (u64 pick1)))), (18, some (vU64 load2.1)), (19, some (v6)), (21, some (vI (wi (i2 + (1 : Int)))))]) (own' := [some (cellsR b1 62 [v3, v4]), some (rowsX u8S true v4 vs1 store2.2 none), some (rowS u8S v6 read1.1)]) (shr' := [Fact.sl RegionS v3 mem1.l]) [9, 11, 18, 19, 21] [0, 1, 2] [0] rfl rfl rfl rfl ?_)
    exact Tk_backS (wi (i2 + (1 : Int))) h [9, 11, 18, 19, 21] [0, 1, 2] [0] rfl rfl rfl rfl rfl
   ·replace h := br_f hg12 h
    refine Tk_condF (congrArg (fun b => some (Value.bool b)) hg12) ?_
    refine Tk_exit _ rfl ?_
    refine Tk_seq (Tk_drawT (by kernel_rfl) ?_)
    refine TA_tb [0, 0, 0, 4, 12, 28, 60, 127, 255, 511, 1023, 2047, 1023, 5119, 16383, 32767, 1023, 66559, 197631, 459775, 1048575, 2097151, 4194303] (by kernel_rfl) fun htb => ?_
    refine TA_wkS (fr' := [(9, some (.pointer (some ⟨b1, 0, none⟩))), (11, some (vU64 ((1000 : UInt64) + (u64 pick1)))), (19, some (v6))]) (own' := [some (cellsR b1 62 [v3, v4]), some (rowsX u8S true v4 vs1 store2.2 none), some (rowS u8S v6 read1.1)]) (shr' := [Fact.sl RegionS v3 mem1.l]) [9, 11, 19] [0, 1, 2] [0] rfl rfl rfl rfl ?_
    obtain ⟨y3, hx12, h⟩ := ob_e h
    refine TA_seg (lo := 0) (hi := 7) htb rfl rfl (by kernel_rfl) (fun c L a w => ∃ (v7 : Value), Sat c ⟨[(9, some (.pointer (some ⟨b1, 0, none⟩))), (11, some (vU64 ((1000 : UInt64) + (u64 pick1)))), (19, some (v6)), (140, bif L 0 then some (.pointer (some ⟨b1, 0, none⟩)) else none), (141, bif L 1 then some (vU64 ((1000 : UInt64) + (u64 pick1))) else none), (142, bif L 2 then some (v6) else none), (143, bif L 3 then some (rowPtr v6 (Int.toNat (0 : Int) * 1)) else none), (144, bif L 4 then some (vU8 y3) else none), (145, bif L 5 then some (vU8 (y3 ^^^ (1 : UInt8))) else none), (146, bif L 6 then some (v7) else none)], [(some (cellsR b1 62 [v3, v4]) : Option Res), (some (rowsX u8S true v4 vs1 store2.2 none) : Option Res), (some (rowS u8S v6 read1.1) : Option Res), (bif L 6 then some (rowS u8S v7 [y3 ^^^ (1 : UInt8)]) else none : Option Res)], [Fact.sl RegionS v3 mem1.l]⟩ a w) [([], []), ([], []), ([], [3, 4, 5, 6]), ([2], [4, 5, 6]), ([2, 3], [5, 6]), ([2, 3, 4], [6]), ([2, 3, 4, 5], [])] rfl (by kernel_rfl) ?_ (steps_cons ?_ (steps_cons ?_ (steps_cons ?_ (steps_cons ?_ (steps_cons ?_ (steps_cons ?_ (steps_cons ?_ (steps_nil)))))))) ?_
    ·intro a w hs
     exact ⟨undef, hs.startF [140, 141, 142, 143, 144, 145, 146] [0, 1, 2, 3] [0] rfl rfl rfl rfl⟩
    ·intro L a w hv K Q hK
     obtain ⟨v7, hs⟩ := hv
     refine wpOp_go rfl rfl hs (OpT_move rfl rfl rfl rfl) ?_
     rintro _ rfl a' w' hs'
     exact hK a' w' ⟨v7, hs'.putF (i := 3) rfl [0, 1, 2, 3] [0] rfl rfl rfl rfl⟩
    ·intro L a w hv K Q hK
     obtain ⟨v7, hs⟩ := hv
     refine wpOp_go rfl rfl hs (OpT_move rfl rfl rfl rfl) ?_
     rintro _ rfl a' w' hs'
     exact hK a' w' ⟨v7, hs'.putF (i := 4) rfl [0, 1, 2, 3] [0] rfl rfl rfl rfl⟩
    ·intro L a w hv K Q hK
     obtain ⟨v7, hs⟩ := hv
     refine wpOp_go rfl rfl hs (OpT_move rfl rfl rfl rfl) ?_
     rintro _ rfl a' w' hs'
     exact hK a' w' ⟨v7, hs'.putF (i := 5) rfl [0, 1, 2, 3] [0] rfl rfl rfl rfl⟩
    ·intro L a w hv K Q hK
     obtain ⟨v7, hs⟩ := hv
     refine wpOp_go rfl rfl hs (OpT_idxO rfl rfl rfl rfl rfl slF38 (i := 2) rfl hx12) ?_
     rintro _ rfl a' w' hs'
     exact hK a' w' ⟨v7, hs'.putF (i := 6) rfl [0, 1, 2, 3] [0] rfl rfl rfl rfl⟩
    ·intro L a w hv K Q hK
     obtain ⟨v7, hs⟩ := hv
     refine wpOp_go rfl rfl hs (OpT_loadO (S := u8S) rfl rfl rfl rfl rfl tyF5 (i := 2) rfl hx12 rfl rfl) ?_
     rintro _ rfl a' w' hs'
     exact hK a' w' ⟨v7, hs'.putF (i := 7) rfl [0, 1, 2, 3] [0] rfl rfl rfl rfl⟩
    ·intro L a w hv K Q hK
     obtain ⟨v7, hs⟩ := hv
     refine wpOp_go rfl rfl hs (OpT_bin rfl rfl rfl rfl rfl (bin_xor_u8 (a := y3) (b := (1 : UInt8)))) ?_
     rintro _ rfl a' w' hs'
     exact hK a' w' ⟨v7, hs'.putF (i := 8) rfl [0, 1, 2, 3] [0] rfl rfl rfl rfl⟩
    ·intro L a w hv K Q hK
     obtain ⟨v7, hs⟩ := hv
     refine wpOp_go rfl rfl hs (OpT_buildSlice (S := u8S) (xs := [y3 ^^^ (1 : UInt8)]) (css := [[vU8 (y3 ^^^ (1 : UInt8))]]) (cs := [vU8 (y3 ^^^ (1 : UInt8))]) (e := 5) rfl rfl rfl rfl (bldF slF38 (by decide) (by kernel_rfl)) rfl rfl rfl rfl (rel_plainD (S := u8S) (xs := [y3 ^^^ (1 : UInt8)]) (css := [[vU8 (y3 ^^^ (1 : UInt8))]]) rfl rfl)) ?_
     rintro _ ⟨v7', rfl⟩ a' w' hs'
     exact hK a' w' ⟨v7', hs'.putF (i := 9) rfl [0, 1, 2, 4] [0] rfl rfl rfl rfl⟩
    ·intro L a w hL hv
     rw [allTrue hL] at hv
     obtain ⟨v7, hs⟩ := hv
     refine (show TA _ _ _ 7 ⟨[(9, some (.pointer (some ⟨b1, 0, none⟩))), (11, some (vU64 ((1000 : UInt64) + (u64 pick1)))), (140, some (.pointer (some ⟨b1, 0, none⟩))), (141, some (vU64 ((1000 : UInt64) + (u64 pick1)))), (146, some (v7))], [some (cellsR b1 62 [v3, v4]), some (rowsX u8S true v4 vs1 store2.2 none), some (rowS u8S v7 [y3 ^^^ (1 : UInt8)])], [Fact.sl RegionS v3 mem1.l]⟩ from ?_) a w (hs.wkS [9, 11, 140, 141, 146] [0, 1, 3] [0] rfl rfl rfl rfl)
     clear hs hL
     obtain ⟨write1, hx13, h⟩ := ob_e h
     refine TA_exP htb (by kernel_rfl) rfl rfl (OpT_callB [2] [3, 4, 2] (w_gmem_Mem_Write hx13) [0, 1] rfl rfl rfl rfl rfl callee18 rfl rfl rfl rfl rfl rfl (bor_cons (bor_shr 0 rfl) (bor_cons (bor_row 2 rfl rfl) bor_nil)) (by rintro _ _ _ ⟨rfl, rfl, rfl⟩; exact ⟨rfl, (ri_cons (ri_cells _ _ _) (ri_cons (ri_rows rfl _ _ _ _ _) ri_nil))⟩)) ?_
     rintro _ ⟨_, _, _, ⟨rfl, rfl, rfl⟩, rfl⟩
     refine TA_step htb (by kernel_rfl) rfl rfl (OpT_bin rfl rfl rfl rfl rfl (bin_eql_i (a := write1.1) (b := (0 : Int)))) ?_
     refine TA_step htb (by kernel_rfl) rfl rfl (OpT_move rfl rfl rfl rfl) ?_
     refine TA_wkS (fr' := [(9, some (.pointer (some ⟨b1, 0, none⟩))), (11, some (vU64 ((1000 : UInt64) + (u64 pick1)))), (149, some (vB (write1.1 == (0 : Int))))]) (own' := [some (cellsR b1 62 [v3, v4]), some (rowsX u8S true v4 vs1 write1.2 none)]) (shr' := [Fact.sl RegionS v3 mem1.l]) [9, 11, 149] [0, 1] [0] rfl rfl rfl rfl ?_
     obtain ⟨hg14, h⟩ := chk_e h
     obtain ⟨image1, hx14, h⟩ := ob_e h
     obtain ⟨hc1, h⟩ := chk_e h
     obtain ⟨hc2, h⟩ := chk_e h
     refine TA_seg (lo := 10) (hi := 20) htb rfl rfl (by kernel_rfl) (fun c L a w => ∃ (v8 : Value), ∃ (v9 : Value), ∃ (v10 : Value), Sat c ⟨[(9, some (.pointer (some ⟨b1, 0, none⟩))), (11, some (vU64 ((1000 : UInt64) + (u64 pick1)))), (149, some (vB (write1.1 == (0 : Int)))), (150, bif L 10 then some (.pointer (some ⟨b1, 0, none⟩)) else none), (151, bif L 11 then some (v8) else none), (152, bif L 12 then some (vU64 ((1000 : UInt64) + (u64 pick1))) else none), (153, bif L 13 then some (vU64 (((1000 : UInt64) + (u64 pick1)) - (1000 : UInt64))) else none), (154, bif L 14 then some (v9) else none), (155, bif L 15 then some (vS (sub image1 (0 : Int) ((((1000 : UInt64) + (u64 pick1)) - (1000 : UInt64)).toNat : Int))) else none), (156, bif L 16 then some (vU64 ((1000 : UInt64) + (u64 pick1))) else none), (157, bif L 17 then some (vU64 (((1000 : UInt64) + (u64 pick1)) - (1000 : UInt64))) else none), (158, bif L 18 then some (v10) else none), (159, bif L 19 then some (vS (List.replicate (Int.toNat ((((1000 : UInt64) + (u64 pick1)) - (1000 : UInt64)).toNat : Int)) (0 : UInt8))) else none)], [(some (cellsR b1 62 [v3, v4]) : Option Res), (some (rowsX u8S true v4 vs1 write1.2 none) : Option Res), (none : Option Res)], [Fact.sl RegionS v3 mem1.l, (bif L 11 then Fact.sl u8S v8 image1 else Fact.tt), (bif L 14 then Fact.sl u8S v9 (sub image1 (0 : Int) ((((1000 : UInt64) + (u64 pick1)) - (1000 : UInt64)).toNat : Int)) else Fact.tt), (bif L 18 then Fact.sl u8S v10 (List.replicate (Int.toNat ((((1000 : UInt64) + (u64 pick1)) - (1000 : UInt64)).toNat : Int)) (0 : UInt8)) else Fact.tt)]⟩ a w) [([], [11, 14, 15]), ([10], [14, 15]), ([], [13, 14, 15]), ([12], [14, 15]), ([10, 11, 12, 13], [15]), ([10, 11, 12, 13, 14], []), ([], [17, 18, 19]), ([16], [18, 19]), ([16, 17], [19]), ([16, 17, 18], [])] rfl (by kernel_rfl) ?_ (steps_cons ?_ (steps_cons ?_ (steps_cons ?_ (steps_cons ?_ (steps_cons ?_ (steps_cons ?_ (steps_cons ?_ (steps_cons ?_ (steps_cons ?_ (steps_cons ?_ (steps_nil))))))))))) ?_
     ·intro a w hs
      exact ⟨undef, undef, undef, hs.startF [150, 151, 152, 153, 154, 155, 156, 157, 158, 159] [0, 1, 2] [0, 1, 2, 3] rfl rfl rfl rfl⟩
     ·intro L a w hv K Q hK
      obtain ⟨v8, v9, v10, hs⟩ := hv
      refine wpOp_yes rfl rfl rfl hs (congrArg (fun b => some (Value.bool b)) hg14) (OpT_move rfl rfl rfl rfl) ?_
      rintro _ rfl a' w' hs'
      exact hK a' w' ⟨v8, v9, v10, hs'.putF (i := 3) rfl [0, 1, 2] [0, 1, 2, 3] rfl rfl rfl rfl⟩
     ·intro L a w hv K Q hK
      obtain ⟨v8, v9, v10, hs⟩ := hv
      refine wpOp_yes rfl rfl rfl hs (congrArg (fun b => some (Value.bool b)) hg14) (OpT_callP [3, 4, 2] (ws_gmem_Mem_Image hx14) [0, 1] [0] rfl rfl rfl rfl rfl callee21 rfl rfl rfl rfl rfl) ?_
      rintro _ ⟨v8', _, _, ⟨_, rfl, rfl, rfl⟩, rfl⟩ a' w' hs'
      exact hK a' w' ⟨v8', v9, v10, hs'.putF (i := 4) rfl [0, 1, 2] [0, 4, 2, 3] rfl rfl rfl rfl⟩
     ·intro L a w hv K Q hK
      obtain ⟨v8, v9, v10, hs⟩ := hv
      refine wpOp_yes rfl rfl rfl hs (congrArg (fun b => some (Value.bool b)) hg14) (OpT_move rfl rfl rfl rfl) ?_
      rintro _ rfl a' w' hs'
      exact hK a' w' ⟨v8, v9, v10, hs'.putF (i := 5) rfl [0, 1, 2] [0, 1, 2, 3] rfl rfl rfl rfl⟩
     ·intro L a w hv K Q hK
      obtain ⟨v8, v9, v10, hs⟩ := hv
      refine wpOp_yes rfl rfl rfl hs (congrArg (fun b => some (Value.bool b)) hg14) (OpT_bin rfl rfl rfl rfl rfl (bin_sub_u64 (a := (1000 : UInt64) + (u64 pick1)) (b := (1000 : UInt64)))) ?_
      rintro _ rfl a' w' hs'
      exact hK a' w' ⟨v8, v9, v10, hs'.putF (i := 6) rfl [0, 1, 2] [0, 1, 2, 3] rfl rfl rfl rfl⟩
     ·intro L a w hv K Q hK
      obtain ⟨v8, v9, v10, hs⟩ := hv
      refine wpOp_yes rfl rfl rfl hs (congrArg (fun b => some (Value.bool b)) hg14) (OpT_sliceH (m := ((((1000 : UInt64) + (u64 pick1)) - (1000 : UInt64)).toNat : Int)) rfl rfl rfl rfl rfl slF38 (i := 1) rfl hc1) ?_
      rintro _ ⟨v9', rfl⟩ a' w' hs'
      exact hK a' w' ⟨v8, v9', v10, hs'.putF (i := 7) rfl [0, 1, 2] [0, 1, 4, 3] rfl rfl rfl rfl⟩
     ·intro L a w hv K Q hK
      obtain ⟨v8, v9, v10, hs⟩ := hv
      refine wpOp_yes rfl rfl rfl hs (congrArg (fun b => some (Value.bool b)) hg14) (OpT_strS rfl rfl rfl rfl Try.underlying38 Try.underlying5 Try.underlying9 (i := 2) rfl) ?_
      rintro _ rfl a' w' hs'
      exact hK a' w' ⟨v8, v9, v10, hs'.putF (i := 8) rfl [0, 1, 2] [0, 1, 2, 3] rfl rfl rfl rfl⟩
     ·intro L a w hv K Q hK
      obtain ⟨v8, v9, v10, hs⟩ := hv
      refine wpOp_yes rfl rfl rfl hs (congrArg (fun b => some (Value.bool b)) hg14) (OpT_move rfl rfl rfl rfl) ?_
      rintro _ rfl a' w' hs'
      exact hK a' w' ⟨v8, v9, v10, hs'.putF (i := 9) rfl [0, 1, 2] [0, 1, 2, 3] rfl rfl rfl rfl⟩
     ·intro L a w hv K Q hK
      obtain ⟨v8, v9, v10, hs⟩ := hv
      refine wpOp_yes rfl rfl rfl hs (congrArg (fun b => some (Value.bool b)) hg14) (OpT_bin rfl rfl rfl rfl rfl (bin_sub_u64 (a := (1000 : UInt64) + (u64 pick1)) (b := (1000 : UInt64)))) ?_
      rintro _ rfl a' w' hs'
      exact hK a' w' ⟨v8, v9, v10, hs'.putF (i := 10) rfl [0, 1, 2] [0, 1, 2, 3] rfl rfl rfl rfl⟩
     ·intro L a w hv K Q hK
      obtain ⟨v8, v9, v10, hs⟩ := hv
      refine wpOp_yes rfl rfl rfl hs (congrArg (fun b => some (Value.bool b)) hg14) (OpT_makeK u8S rfl (u := (0 : UInt8)) rfl rfl rfl rfl rfl slF38 rfl hc2) ?_
      rintro _ ⟨v10', rfl⟩ a' w' hs'
      replace hs' := hs'.ret (i := 3) rfl
      exact hK a' w' ⟨v8, v9, v10', hs'.putF (i := 11) rfl [0, 1, 3] [0, 1, 2, 4] rfl rfl rfl rfl⟩
     ·intro L a w hv K Q hK
      obtain ⟨v8, v9, v10, hs⟩ := hv
      refine wpOp_yes rfl rfl rfl hs (congrArg (fun b => some (Value.bool b)) hg14) (OpT_strS rfl rfl rfl rfl Try.underlying38 Try.underlying5 Try.underlying9 (i := 3) rfl) ?_
      rintro _ rfl a' w' hs'
      exact hK a' w' ⟨v8, v9, v10, hs'.putF (i := 12) rfl [0, 1, 2] [0, 1, 2, 3] rfl rfl rfl rfl⟩
     ·intro L a w hL hv
      rw [allTrue hL] at hv
      obtain ⟨v8, v9, v10, hs⟩ := hv
      refine (show TA _ _ _ 20 ⟨[(149, some (vB (write1.1 == (0 : Int)))), (155, some (vS (sub image1 (0 : Int) ((((1000 : UInt64) + (u64 pick1)) - (1000 : UInt64)).toNat : Int)))), (159, some (vS (List.replicate (Int.toNat ((((1000 : UInt64) + (u64 pick1)) - (1000 : UInt64)).toNat : Int)) (0 : UInt8))))], [], []⟩ from ?_) a w (hs.wkS [149, 155, 159] [] [] rfl rfl rfl rfl)
      clear hs hL
      refine TA_yes htb (by kernel_rfl) rfl rfl rfl (congrArg (fun b => some (Value.bool b)) hg14) (OpT_bin rfl rfl rfl rfl rfl (bin_eql_s (a := sub image1 (0 : Int) ((((1000 : UInt64) + (u64 pick1)) - (1000 : UInt64)).toNat : Int)) (b := List.replicate (Int.toNat ((((1000 : UInt64) + (u64 pick1)) - (1000 : UInt64)).toNat : Int)) (0 : UInt8)))) ?_
      rintro _ rfl
      refine TA_step htb (by kernel_rfl) rfl rfl (OpT_pickT rfl rfl rfl (congrArg (fun b => some (Value.bool b)) hg14) rfl) ?_
      refine TA_step htb (by kernel_rfl) rfl rfl (OpT_assign rfl rfl rfl rfl) ?_
      refine TA_end rfl ?_
      refine Tk_wkS (fr' := [(8, some (vB ((sub image1 (0 : Int) ((((1000 : UInt64) + (u64 pick1)) - (1000 : UInt64)).toNat : Int)) == (List.replicate (Int.toNat ((((1000 : UInt64) + (u64 pick1)) - (1000 : UInt64)).toNat : Int)) (0 : UInt8)))))]) (own' := []) (shr' := []) [8] [] [] rfl rfl rfl rfl ?_
      obtain ⟨hg15, h⟩ := chk_e h
      exact Tk_retV rfl rfl (resA (vs := [.bool true]) rfl ⟨(congrArg (fun b => some (Value.bool b)) hg15), trivial⟩) [] [] rfl rfl rfl ⟨rfl, rfl, rfl⟩
end Go.Proofs.Ytecmlfmbmligeaa
