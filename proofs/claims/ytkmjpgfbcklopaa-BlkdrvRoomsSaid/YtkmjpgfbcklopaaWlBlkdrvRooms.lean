/- The law BlkdrvRooms is walked: it returns what its plain words say. No condition. -/
import Derived.Test.YtkmjpgfbcklopaaWa5
namespace Go.Proofs.Ytkmjpgfbcklopaa
attribute [local irreducible] sub

set_option maxRecDepth 100000 in
set_option maxHeartbeats 4000000 in
theorem w_law22zBlkdrvRooms {rp0 : Req} {atp1 : Int} {cuts : List Int} {vp3 : UInt8} {vrp01 : Value} {vrp02 : Value} {vcuts1 : Value}  (h : law22zBlkdrvRooms rp0 atp1 cuts vp3 = some true) :
  Ctr Try.prog 4 #[.agg #[vU32 rp0.Type_, vU64 rp0.Sector, vrp01, vI rp0.Room, vrp02], vI atp1, vcuts1, vU8 vp3] [] [Fact.sl u8S vrp01 rp0.Data, Fact.sl RangeS vrp02 rp0.Ranges, Fact.sl iS vcuts1 cuts]
   (fun rv own shr => rv = .bool true ∧ own = [] ∧ shr = []) := by
 unfold law22zBlkdrvRooms at h
 refine Ctr.mk (args := [.agg #[vU32 rp0.Type_, vU64 rp0.Sector, vrp01, vI rp0.Room, vrp02], vI atp1, vcuts1, vU8 vp3]) Try.func4 rfl rfl (fun R0 w0 B => ?_)
 refine Tk_seq (Tk_region (Tops_ex rfl (OpT_box rfl rfl rfl rfl) fun b1 => ?_))
 refine Tops_step rfl (OpT_assign rfl rfl rfl rfl) ?_
 refine Tops_nil (Tk_wkS (fr' := [(1, some (vI atp1)), (2, some (vcuts1)), (3, some (vU8 vp3)), (4, some (.pointer (some ⟨b1, 0, none⟩)))]) (own' := [some (cellsR b1 38 [vU32 rp0.Type_, vU64 rp0.Sector, vrp01, vI rp0.Room, vrp02])]) (shr' := [Fact.sl u8S vrp01 rp0.Data, Fact.sl RangeS vrp02 rp0.Ranges, Fact.sl iS vcuts1 cuts]) [1, 2, 3, 4] [0] [0, 1, 2] rfl rfl rfl rfl ?_)
 refine Tk_seq (Tk_seq (Tk_region ?_))
 obtain ⟨lives1, hx1, h⟩ := ob_e h
 refine Tops_exP rfl (OpT_call (w_law22zlives hx1) [] [] rfl rfl rfl rfl rfl callee8 rfl rfl rfl rfl) ?_
 rintro _ ⟨_, _, _, ⟨rfl, rfl, rfl⟩, rfl⟩
 refine Tops_step rfl (OpT_not rfl rfl rfl rfl) ?_
 refine Tops_nil (Tk_wkS (fr' := [(1, some (vI atp1)), (2, some (vcuts1)), (3, some (vU8 vp3)), (4, some (.pointer (some ⟨b1, 0, none⟩))), (25, some (vB (!lives1)))]) (own' := [some (cellsR b1 38 [vU32 rp0.Type_, vU64 rp0.Sector, vrp01, vI rp0.Room, vrp02])]) (shr' := [Fact.sl u8S vrp01 rp0.Data, Fact.sl RangeS vrp02 rp0.Ranges, Fact.sl iS vcuts1 cuts]) [1, 2, 3, 4, 25] [0] [0, 1, 2] rfl rfl rfl rfl ?_)
 obtain ⟨hg1, h⟩ := chk_e h
 replace hg1 := not_t hg1
 refine Tk_condF (congrArg (fun b => some (Value.bool b)) hg1) ?_
 refine Tk_skip (Tk_seq (Tk_seq (Tk_region (Tops_step rfl (OpT_loadCA (vs := [vU32 rp0.Type_, vU64 rp0.Sector, vrp01, vI rp0.Room, vrp02]) rfl rfl rfl rfl tyF38 (i := 0) rfl rfl rfl) ?_))))
 obtain ⟨lightr1, hx2, h⟩ := ob_e h
 refine Tops_exP rfl (OpT_call (w_kit_LightReq hx2) [] [0, 1] rfl rfl rfl rfl rfl callee13 rfl rfl rfl rfl) ?_
 rintro _ ⟨_, _, _, ⟨rfl, rfl, rfl⟩, rfl⟩
 refine Tops_step rfl (OpT_not rfl rfl rfl rfl) ?_
 refine Tops_step rfl (OpT_move rfl rfl rfl rfl) ?_
 rcases Bool.eq_false_or_eq_true ((!lightr1)) with hg2 | hg2
 ·replace h := br_t hg2 h
  refine Tops_no rfl rfl (congrArg (fun b => some (Value.bool b)) hg2) rfl rfl ?_
  refine Tops_no rfl rfl (congrArg (fun b => some (Value.bool b)) hg2) rfl rfl ?_
  refine Tops_no rfl rfl (congrArg (fun b => some (Value.bool b)) hg2) rfl rfl ?_
  refine Tops_step rfl (OpT_pickT rfl rfl rfl (congrArg (fun b => some (Value.bool b)) hg2) rfl) ?_
  refine Tops_nil (Tk_wkS (fr' := [(1, some (vI atp1)), (2, some (vcuts1)), (3, some (vU8 vp3)), (4, some (.pointer (some ⟨b1, 0, none⟩))), (33, some (vB true))]) (own' := [some (cellsR b1 38 [vU32 rp0.Type_, vU64 rp0.Sector, vrp01, vI rp0.Room, vrp02])]) (shr' := [Fact.sl u8S vrp01 rp0.Data, Fact.sl RangeS vrp02 rp0.Ranges, Fact.sl iS vcuts1 cuts]) [1, 2, 3, 4, 33] [0] [0, 1, 2] rfl rfl rfl rfl ?_)
  refine Tk_condT rfl ?_
  refine Tk_seq (Tk_region (Tops_step rfl (OpT_assign rfl rfl rfl rfl) ?_))
  refine Tops_nil (Tk_wkS (fr' := [(8, some (vB true))]) (own' := []) (shr' := []) [8] [] [] rfl rfl rfl rfl ?_)
  exact Tk_retV rfl rfl (resA (vs := [.bool true]) rfl ⟨rfl, trivial⟩) [] [] rfl rfl rfl ⟨rfl, rfl, rfl⟩
 ·replace h := br_f hg2 h
  refine Tops_yes rfl rfl (congrArg (fun b => some (Value.bool b)) hg2) (OpT_move rfl rfl rfl rfl) ?_
  rintro _ rfl
  refine Tops_yes rfl rfl (congrArg (fun b => some (Value.bool b)) hg2) (OpT_lenS rfl rfl rfl rfl Try.underlying23 (i := 2) rfl) ?_
  rintro _ rfl
  refine Tops_yes rfl rfl (congrArg (fun b => some (Value.bool b)) hg2) (OpT_bin rfl rfl rfl rfl rfl (bin_gtr_i (a := len cuts) (b := (70 : Int)))) ?_
  rintro _ rfl
  refine Tops_step rfl (OpT_pickF rfl rfl rfl (congrArg (fun b => some (Value.bool b)) hg2) rfl) ?_
  refine Tops_nil (Tk_wkS (fr' := [(1, some (vI atp1)), (2, some (vcuts1)), (3, some (vU8 vp3)), (4, some (.pointer (some ⟨b1, 0, none⟩))), (33, some (vB (decide ((len cuts) > (70 : Int)))))]) (own' := [some (cellsR b1 38 [vU32 rp0.Type_, vU64 rp0.Sector, vrp01, vI rp0.Room, vrp02])]) (shr' := [Fact.sl u8S vrp01 rp0.Data, Fact.sl RangeS vrp02 rp0.Ranges, Fact.sl iS vcuts1 cuts]) [1, 2, 3, 4, 33] [0] [0, 1, 2] rfl rfl rfl rfl ?_)
  rcases Bool.eq_false_or_eq_true (decide ((len cuts) > (70 : Int))) with hg3 | hg3
  ·replace h := br_t hg3 h
   refine Tk_condT (congrArg (fun b => some (Value.bool b)) hg3) ?_
   refine Tk_seq (Tk_region (Tops_step rfl (OpT_assign rfl rfl rfl rfl) ?_))
   refine Tops_nil (Tk_wkS (fr' := [(8, some (vB true))]) (own' := []) (shr' := []) [8] [] [] rfl rfl rfl rfl ?_)
   exact Tk_retV rfl rfl (resA (vs := [.bool true]) rfl ⟨rfl, trivial⟩) [] [] rfl rfl rfl ⟨rfl, rfl, rfl⟩
  ·replace h := br_f hg3 h
   refine Tk_condF (congrArg (fun b => some (Value.bool b)) hg3) ?_
   refine Tk_skip (Tk_seq (Tk_region (Tops_step rfl (OpT_loadCA (vs := [vU32 rp0.Type_, vU64 rp0.Sector, vrp01, vI rp0.Room, vrp02]) rfl rfl rfl rfl tyF38 (i := 0) rfl rfl rfl) ?_)))
   obtain ⟨size1, hx3, h⟩ := ob_e h
   refine Tops_exP rfl (OpT_call (w_blkdrv_Size hx3) [] [0, 1] rfl rfl rfl rfl rfl callee14 rfl rfl rfl rfl) ?_
   rintro _ ⟨_, _, _, ⟨rfl, rfl, rfl⟩, rfl⟩
   refine Tops_step rfl (OpT_move rfl rfl rfl rfl) ?_
   refine Tops_step rfl (OpT_extract rfl rfl rfl rfl rfl) ?_
   refine Tops_step rfl (OpT_extract rfl rfl rfl rfl rfl) ?_
   refine Tops_step rfl (OpT_assign rfl rfl rfl rfl) ?_
   refine Tops_step rfl (OpT_assign rfl rfl rfl rfl) ?_
   refine Tops_nil (Tk_wkS (fr' := [(1, some (vI atp1)), (2, some (vcuts1)), (3, some (vU8 vp3)), (4, some (.pointer (some ⟨b1, 0, none⟩))), (9, some (vI size1.1)), (10, some (vI size1.2))]) (own' := [some (cellsR b1 38 [vU32 rp0.Type_, vU64 rp0.Sector, vrp01, vI rp0.Room, vrp02])]) (shr' := [Fact.sl u8S vrp01 rp0.Data, Fact.sl RangeS vrp02 rp0.Ranges, Fact.sl iS vcuts1 cuts]) [1, 2, 3, 4, 9, 10] [0] [0, 1, 2] rfl rfl rfl rfl ?_)
   refine Tk_seq (Tk_region ?_)
   obtain ⟨memory1, hx4, h⟩ := ob_e h
   refine Tops_exP rfl (OpT_call (w_law22zmemory hx4) [] [] rfl rfl rfl rfl rfl callee16 rfl rfl rfl rfl) ?_
   rintro _ ⟨v1, _, _, ⟨_, rfl, rfl, rfl⟩, rfl⟩
   refine Tops_retire (i := 1) rfl ?_
   obtain ⟨new1, hx5, h⟩ := ob_e h
   refine Tops_exP rfl (OpT_call (w_gmem_New hx5) [] [3] rfl rfl rfl rfl rfl callee15 rfl rfl rfl rfl) ?_
   rintro _ ⟨_, _, _, ⟨v2, rfl, rfl, rfl⟩, rfl⟩
   refine Tops_step rfl (OpT_move rfl rfl rfl rfl) ?_
   refine Tops_step rfl (OpT_extract rfl rfl rfl rfl rfl) ?_
   refine Tops_step rfl (OpT_extract rfl rfl rfl rfl rfl) ?_
   refine Tops_step rfl (OpT_assign rfl rfl rfl rfl) ?_
   refine Tops_step rfl (OpT_assign rfl rfl rfl rfl) ?_
   refine Tops_nil (Tk_wkS (fr' := [(1, some (vI atp1)), (2, some (vcuts1)), (3, some (vU8 vp3)), (4, some (.pointer (some ⟨b1, 0, none⟩))), (9, some (vI size1.1)), (10, some (vI size1.2)), (11, some (v2)), (12, some (vI new1.2))]) (own' := [some (cellsR b1 38 [vU32 rp0.Type_, vU64 rp0.Sector, vrp01, vI rp0.Room, vrp02]), some (optR 83 RegionS u8S true gmem_Mem.l gmem_Mem.b v2 new1.1)]) (shr' := [Fact.sl u8S vrp01 rp0.Data, Fact.sl RangeS vrp02 rp0.Ranges, Fact.sl iS vcuts1 cuts]) [1, 2, 3, 4, 9, 10, 11, 12] [0, 2] [0, 1, 2] rfl rfl rfl rfl ?_)
   rcases onO_cases h with ⟨ho1, h⟩ | ⟨mem1, ho1, h⟩
   ·cases h
   ·refine Tk_optS (i := 1) rfl ho1 ?_
    rintro b2 v3 v4 vs1 rfl
    refine Tk_seq (Tk_seq (Tk_region (Tops_step rfl (OpT_move rfl rfl rfl rfl) ?_)))
    refine Tops_step rfl (OpT_bin rfl rfl rfl rfl rfl (bin_neq_i (a := new1.2) (b := (0 : Int)))) ?_
    refine Tops_nil (Tk_wkS (fr' := [(1, some (vI atp1)), (2, some (vcuts1)), (3, some (vU8 vp3)), (4, some (.pointer (some ⟨b1, 0, none⟩))), (9, some (vI size1.1)), (10, some (vI size1.2)), (11, some (.pointer (some ⟨b2, 0, none⟩))), (45, some (vB (new1.2 != (0 : Int))))]) (own' := [some (cellsR b1 38 [vU32 rp0.Type_, vU64 rp0.Sector, vrp01, vI rp0.Room, vrp02]), some (cellsR b2 83 [v3, v4]), some (rowsX u8S true v4 vs1 mem1.b none)]) (shr' := [Fact.sl u8S vrp01 rp0.Data, Fact.sl RangeS vrp02 rp0.Ranges, Fact.sl iS vcuts1 cuts, Fact.sl RegionS v3 mem1.l]) [1, 2, 3, 4, 9, 10, 11, 45] [0, 1, 2] [0, 1, 2, 3] rfl rfl rfl rfl ?_)
    obtain ⟨hg4, h⟩ := chk_e h
    replace hg4 := not_t hg4
    refine Tk_condF (congrArg (fun b => some (Value.bool b)) hg4) ?_
    refine Tk_skip (Tk_seq (Tk_region (Tops_step rfl (OpT_assign rfl rfl rfl rfl) ?_)))
    refine Tops_nil (Tk_wkS (fr' := [(1, some (vI atp1)), (2, some (vcuts1)), (3, some (vU8 vp3)), (4, some (.pointer (some ⟨b1, 0, none⟩))), (9, some (vI size1.1)), (10, some (vI size1.2)), (11, some (.pointer (some ⟨b2, 0, none⟩))), (13, some (.slice none 0 0))]) (own' := [some (cellsR b1 38 [vU32 rp0.Type_, vU64 rp0.Sector, vrp01, vI rp0.Room, vrp02]), some (cellsR b2 83 [v3, v4]), some (rowsX u8S true v4 vs1 mem1.b none)]) (shr' := [Fact.sl u8S vrp01 rp0.Data, Fact.sl RangeS vrp02 rp0.Ranges, Fact.sl iS vcuts1 cuts, Fact.sl RegionS v3 mem1.l]) [1, 2, 3, 4, 9, 10, 11, 13] [0, 1, 2] [0, 1, 2, 3] rfl rfl rfl rfl ?_)
    refine Tk_seq (Tk_seq (Tk_region (Tops_step rfl (OpT_assign rfl rfl rfl rfl) ?_)))
    refine Tops_nil (Tk_block (Tk_nilrow u8S ?_))
    refine Tk_loopS (σ := UInt32 × UInt64 × (List UInt8) × Int × (List Range) × (List UInt8) × Int × Value × Value × Value) [1, 2, 3, 4, 9, 10, 11, 13, 14] [0, 1, 2, 3] [2, 0, 1, 3] (fun s => ⟨[(1, some (vI atp1)), (2, some (vcuts1)), (3, some (vU8 vp3)), (4, some (.pointer (some ⟨b1, 0, none⟩))), (9, some (vI size1.1)), (10, some (vI size1.2)), (11, some (.pointer (some ⟨b2, 0, none⟩))), (13, some (s.2.2.2.2.2.2.2.2.2)), (14, some (vI s.2.2.2.2.2.2.1))], [some (cellsR b1 38 [vU32 s.1, vU64 s.2.1, s.2.2.2.2.2.2.2.1, vI s.2.2.2.1, s.2.2.2.2.2.2.2.2.1]), some (cellsR b2 83 [v3, v4]), some (rowsX u8S true v4 vs1 mem1.b none), some (rowS u8S s.2.2.2.2.2.2.2.2.2 s.2.2.2.2.2.1)], [Fact.sl iS vcuts1 cuts, Fact.sl u8S s.2.2.2.2.2.2.2.1 s.2.2.1, Fact.sl RangeS s.2.2.2.2.2.2.2.2.1 s.2.2.2.2.1, Fact.sl RegionS v3 mem1.l]⟩) (fun nf1 s => law22zBlkdrvRoomsL1 atp1 cuts vp3 size1 mem1 nf1 s.1 s.2.1 s.2.2.1 s.2.2.2.1 s.2.2.2.2.1 s.2.2.2.2.2.1 s.2.2.2.2.2.2.1 = some true) fuel (rp0.Type_, rp0.Sector, rp0.Data, rp0.Room, rp0.Ranges, [], (0 : Int), vrp01, vrp02, (.slice none 0 0)) h rfl rfl rfl rfl rfl (fun s h => by cases h) ?_
    rintro nf1 ⟨Type1, Sector1, Data1, Room1, Ranges1, fill1, i1, v5, v6, v7⟩ h
    replace h : law22zBlkdrvRoomsL1B atp1 cuts vp3 size1 mem1 (law22zBlkdrvRoomsL1 atp1 cuts vp3 size1 mem1 nf1) Type1 Sector1 Data1 Room1 Ranges1 fill1 i1 = some true := h
    unfold law22zBlkdrvRoomsL1B at h
    refine Tk_seq (Tk_seq (Tk_region (Tops_step rfl (OpT_move rfl rfl rfl rfl) ?_)))
    refine Tops_step rfl (OpT_bin rfl rfl rfl rfl rfl (bin_lss_i (a := i1) (b := (16384 : Int)))) ?_
    refine Tops_nil (Tk_wkS (fr' := [(1, some (vI atp1)), (2, some (vcuts1)), (3, some (vU8 vp3)), (4, some (.pointer (some ⟨b1, 0, none⟩))), (9, some (vI size1.1)), (10, some (vI size1.2)), (11, some (.pointer (some ⟨b2, 0, none⟩))), (13, some (v7)), (14, some (vI i1)), (47, some (vB (decide (i1 < (16384 : Int)))))]) (own' := [some (cellsR b1 38 [vU32 Type1, vU64 Sector1, v5, vI Room1, v6]), some (cellsR b2 83 [v3, v4]), some (rowsX u8S true v4 vs1 mem1.b none), some (rowS u8S v7 fill1)]) (shr' := [Fact.sl iS vcuts1 cuts, Fact.sl u8S v5 Data1, Fact.sl RangeS v6 Ranges1, Fact.sl RegionS v3 mem1.l]) [1, 2, 3, 4, 9, 10, 11, 13, 14, 47] [0, 1, 2, 3] [0, 1, 2, 3] rfl rfl rfl rfl ?_)
    rcases Bool.eq_false_or_eq_true (decide (i1 < (16384 : Int))) with hg5 | hg5
    ·replace h := br_t hg5 h
     refine Tk_condT (congrArg (fun b => some (Value.bool b)) hg5) ?_
     refine Tk_skip (Tk_seq (Tk_block (Tk_region (Tops_step rfl (OpT_move rfl rfl rfl rfl) ?_))))
     refine Tops_step rfl (OpT_move rfl rfl rfl rfl) ?_
     refine Tops_ex rfl (OpT_buildSlice (S := u8S) (xs := [vp3]) (css := [[vU8 vp3]]) (cs := [vU8 vp3]) (e := 5) rfl rfl rfl rfl (bldF slF35 (by decide) (by kernel_rfl)) rfl rfl rfl rfl (rel_plainD (S := u8S) (xs := [vp3]) (css := [[vU8 vp3]]) rfl rfl)) fun v8 => ?_
     obtain ⟨hc1, h⟩ := chk_e h
     refine Tops_ex rfl (OpT_appendB (S := u8S) rfl rfl rfl rfl rfl rfl slF35 (i := 3) (j := 4) rfl rfl hc1) fun v9 => ?_
     refine Tops_step rfl (OpT_assign rfl rfl rfl rfl) ?_
     refine Tops_nil (Tk_wkS (fr' := [(1, some (vI atp1)), (2, some (vcuts1)), (3, some (vU8 vp3)), (4, some (.pointer (some ⟨b1, 0, none⟩))), (9, some (vI size1.1)), (10, some (vI size1.2)), (11, some (.pointer (some ⟨b2, 0, none⟩))), (13, some (v9)), (14, some (vI i1))]) (own' := [some (cellsR b1 38 [vU32 Type1, vU64 Sector1, v5, vI Room1, v6]), some (cellsR b2 83 [v3, v4]), some (rowsX u8S true v4 vs1 mem1.b none), some (rowS u8S v9 (fill1 ++ [vp3]))]) (shr' := [Fact.sl iS vcuts1 cuts, Fact.sl u8S v5 Data1, Fact.sl RangeS v6 Ranges1, Fact.sl RegionS v3 mem1.l]) [1, 2, 3, 4, 9, 10, 11, 13, 14] [0, 1, 2, 3] [0, 1, 2, 3] rfl rfl rfl rfl ?_)
     refine Tk_blk (Tk_region (Tops_step rfl (OpT_move rfl rfl rfl rfl) ?_))
     refine Tops_step rfl (OpT_bin rfl rfl rfl rfl rfl (bin_add_i (a := i1) (b := (1 : Int)))) ?_
     refine Tops_step rfl (OpT_assign rfl rfl rfl rfl) ?_
     refine Tops_nil (Tk_wkS (fr' := [(1, some (vI atp1)), (2, some (vcuts1)), (3, some (vU8 vp3)), (4, some (.pointer (some ⟨b1, 0, none⟩))), (9, some (vI size1.1)), (10, some (vI size1.2)), (11, some (.pointer (some ⟨b2, 0, none⟩))), (13, some (v9)), (14, some (vI (wi (i1 + (1 : Int)))))]) (own' := [some (cellsR b1 38 [vU32 Type1, vU64 Sector1, v5, vI Room1, v6]), some (cellsR b2 83 [v3, v4]), some (rowsX u8S true v4 vs1 mem1.b none), some (rowS u8S v9 (fill1 ++ [vp3]))]) (shr' := [Fact.sl iS vcuts1 cuts, Fact.sl u8S v5 Data1, Fact.sl RangeS v6 Ranges1, Fact.sl RegionS v3 mem1.l]) [1, 2, 3, 4, 9, 10, 11, 13, 14] [0, 1, 2, 3] [0, 1, 2, 3] rfl rfl rfl rfl ?_)
     exact Tk_backS (Type1, Sector1, Data1, Room1, Ranges1, fill1 ++ [vp3], wi (i1 + (1 : Int)), v5, v6, v9) h [1, 2, 3, 4, 9, 10, 11, 13, 14] [0, 1, 2, 3] [0, 1, 2, 3] rfl rfl rfl rfl rfl
    ·replace h := br_f hg5 h
     refine Tk_condF (congrArg (fun b => some (Value.bool b)) hg5) ?_
     refine Tk_exit _ rfl ?_
     refine Tk_seq (Tk_seq (Tk_region (Tops_step rfl (OpT_move rfl rfl rfl rfl) ?_)))
     refine Tops_step rfl (OpT_move rfl rfl rfl rfl) ?_
     obtain ⟨write1, hx6, h⟩ := ob_e h
     refine Tops_exP rfl (OpT_callB [3] [0, 4, 5, 3] (w_gmem_Mem_Write hx6) [1, 2] rfl rfl rfl rfl rfl callee17 rfl rfl rfl rfl rfl rfl (bor_cons (bor_shr 3 rfl) (bor_cons (bor_row 3 rfl rfl) bor_nil)) (by rintro _ _ _ ⟨rfl, rfl, rfl⟩; exact ⟨rfl, (ri_cons (ri_cells _ _ _) (ri_cons (ri_rows rfl _ _ _ _ _) ri_nil))⟩)) ?_
     rintro _ ⟨_, _, _, ⟨rfl, rfl, rfl⟩, rfl⟩
     refine Tops_step rfl (OpT_bin rfl rfl rfl rfl rfl (bin_neq_i (a := write1.1) (b := (0 : Int)))) ?_
     refine Tops_nil (Tk_wkS (fr' := [(1, some (vI atp1)), (2, some (vcuts1)), (4, some (.pointer (some ⟨b1, 0, none⟩))), (9, some (vI size1.1)), (10, some (vI size1.2)), (11, some (.pointer (some ⟨b2, 0, none⟩))), (13, some (v7)), (57, some (vB (write1.1 != (0 : Int))))]) (own' := [some (cellsR b1 38 [vU32 Type1, vU64 Sector1, v5, vI Room1, v6]), some (cellsR b2 83 [v3, v4]), some (rowsX u8S true v4 vs1 write1.2 none), some (rowS u8S v7 fill1)]) (shr' := [Fact.sl iS vcuts1 cuts, Fact.sl u8S v5 Data1, Fact.sl RangeS v6 Ranges1, Fact.sl RegionS v3 mem1.l]) [1, 2, 4, 9, 10, 11, 13, 57] [0, 1, 2, 3] [0, 1, 2, 3] rfl rfl rfl rfl ?_)
     obtain ⟨hg6, h⟩ := chk_e h
     replace hg6 := not_t hg6
     refine Tk_condF (congrArg (fun b => some (Value.bool b)) hg6) ?_
     refine Tk_skip (Tk_seq (Tk_region (Tops_step rfl (OpT_move rfl rfl rfl rfl) ?_)))
     obtain ⟨pick1, hx7, h⟩ := ob_e h
     refine Tops_exP rfl (OpT_call (w_kit_Pick hx7) [] [] rfl rfl rfl rfl rfl callee18 rfl rfl rfl rfl) ?_
     rintro _ ⟨_, _, _, ⟨rfl, rfl, rfl⟩, rfl⟩
     refine Tops_step rfl (OpT_assign rfl rfl rfl rfl) ?_
     refine Tops_nil (Tk_wkS (fr' := [(2, some (vcuts1)), (4, some (.pointer (some ⟨b1, 0, none⟩))), (9, some (vI size1.1)), (10, some (vI size1.2)), (11, some (.pointer (some ⟨b2, 0, none⟩))), (13, some (v7)), (15, some (vI pick1))]) (own' := [some (cellsR b1 38 [vU32 Type1, vU64 Sector1, v5, vI Room1, v6]), some (cellsR b2 83 [v3, v4]), some (rowsX u8S true v4 vs1 write1.2 none), some (rowS u8S v7 fill1)]) (shr' := [Fact.sl iS vcuts1 cuts, Fact.sl u8S v5 Data1, Fact.sl RangeS v6 Ranges1, Fact.sl RegionS v3 mem1.l]) [2, 4, 9, 10, 11, 13, 15] [0, 1, 2, 3] [0, 1, 2, 3] rfl rfl rfl rfl ?_)
     refine Tk_seq (Tk_region (Tops_step rfl (OpT_move rfl rfl rfl rfl) ?_))
     refine Tops_step rfl (OpT_move rfl rfl rfl rfl) ?_
     refine Tops_step rfl (OpT_cnv rfl rfl rfl rfl (cnv_i_u64 (n := pick1) Try.underlying3 Try.underlying29)) ?_
     refine Tops_step rfl (OpT_loadCA (vs := [vU32 Type1, vU64 Sector1, v5, vI Room1, v6]) rfl rfl rfl rfl tyF38 (i := 0) rfl rfl rfl) ?_
     obtain ⟨req1, hx8, h⟩ := ob_e h
     refine Tops_exP rfl (OpT_call (w_kit_Req hx8) [] [1, 2] rfl rfl rfl rfl rfl callee20 rfl rfl rfl rfl) ?_
     rintro _ ⟨_, _, _, ⟨v10, v11, rfl, rfl, rfl⟩, rfl⟩
     refine Tops_step rfl (OpT_move rfl rfl rfl rfl) ?_
     obtain ⟨lay1, hx9, h⟩ := ob_e h
     refine Tops_exP rfl (OpT_callB [4] [0, 5, 6, 3, 4, 7] (w_blkdrv_Lay hx9) [1, 2] rfl rfl rfl rfl rfl callee19 rfl rfl rfl rfl rfl rfl (bor_cons (bor_shr 3 rfl) (bor_cons (bor_shr 4 rfl) (bor_cons (bor_row 4 rfl rfl) (bor_cons (bor_shr 0 rfl) bor_nil)))) (by rintro _ _ _ ⟨_, rfl, rfl, rfl⟩; exact ⟨rfl, (ri_cons (ri_cells _ _ _) (ri_cons (ri_rows rfl _ _ _ _ _) (ri_cons (ri_row (S := SegS) rfl _ _) ri_nil)))⟩)) ?_
     rintro _ ⟨_, _, _, ⟨v12, rfl, rfl, rfl⟩, rfl⟩
     refine Tops_step rfl (OpT_move rfl rfl rfl rfl) ?_
     refine Tops_step rfl (OpT_extract rfl rfl rfl rfl rfl) ?_
     refine Tops_step rfl (OpT_extract rfl rfl rfl rfl rfl) ?_
     refine Tops_step rfl (OpT_assign rfl rfl rfl rfl) ?_
     refine Tops_step rfl (OpT_assign rfl rfl rfl rfl) ?_
     refine Tops_nil (Tk_wkS (fr' := [(4, some (.pointer (some ⟨b1, 0, none⟩))), (9, some (vI size1.1)), (10, some (vI size1.2)), (11, some (.pointer (some ⟨b2, 0, none⟩))), (13, some (v7)), (15, some (vI pick1)), (16, some (v12)), (17, some (vI lay1.2.1))]) (own' := [some (cellsR b1 38 [vU32 Type1, vU64 Sector1, v5, vI Room1, v6]), some (cellsR b2 83 [v3, v4]), some (rowsX u8S true v4 vs1 lay1.2.2 none), some (rowS u8S v7 fill1), some (rowS SegS v12 lay1.1)]) (shr' := [Fact.sl u8S v5 Data1, Fact.sl RangeS v6 Ranges1, Fact.sl RegionS v3 mem1.l]) [4, 9, 10, 11, 13, 15, 16, 17] [0, 1, 2, 3, 5] [1, 2, 3] rfl rfl rfl rfl ?_)
     refine Tk_seq (Tk_region (Tops_step rfl (OpT_move rfl rfl rfl rfl) ?_))
     obtain ⟨image1, hx10, h⟩ := ob_e h
     refine Tops_exP rfl (OpT_callP [0, 5, 6, 3, 4, 7] (w_gmem_Mem_Image hx10) [1, 2] [2] rfl rfl rfl rfl rfl callee21 rfl rfl rfl rfl rfl) ?_
     rintro _ ⟨v13, _, _, ⟨_, rfl, rfl, rfl⟩, rfl⟩
     refine Tops_retire (i := 5) rfl ?_
     refine Tops_step rfl (OpT_strS rfl rfl rfl rfl Try.underlying35 Try.underlying5 Try.underlying9 (i := 3) rfl) ?_
     refine Tops_step rfl (OpT_assign rfl rfl rfl rfl) ?_
     refine Tops_nil (Tk_wkS (fr' := [(4, some (.pointer (some ⟨b1, 0, none⟩))), (9, some (vI size1.1)), (10, some (vI size1.2)), (13, some (v7)), (15, some (vI pick1)), (16, some (v12)), (17, some (vI lay1.2.1)), (18, some (vS image1))]) (own' := [some (cellsR b1 38 [vU32 Type1, vU64 Sector1, v5, vI Room1, v6]), some (rowS u8S v7 fill1), some (rowS SegS v12 lay1.1)]) (shr' := [Fact.sl u8S v5 Data1, Fact.sl RangeS v6 Ranges1]) [4, 9, 10, 13, 15, 16, 17, 18] [0, 3, 4] [0, 1] rfl rfl rfl rfl ?_)
     refine Tk_seq (Tk_seq (Tk_region (Tops_step rfl (OpT_move rfl rfl rfl rfl) ?_)))
     refine Tops_step rfl (OpT_bin rfl rfl rfl rfl rfl (bin_neq_i (a := size1.2) (b := (0 : Int)))) ?_
     refine Tops_step rfl (OpT_move rfl rfl rfl rfl) ?_
     rcases Bool.eq_false_or_eq_true (size1.2 != (0 : Int)) with hg7 | hg7
     ·replace h := br_t hg7 h
      refine Tops_no rfl rfl (congrArg (fun b => some (Value.bool b)) hg7) rfl rfl ?_
      refine Tops_no rfl rfl (congrArg (fun b => some (Value.bool b)) hg7) rfl rfl ?_
      refine Tops_no rfl rfl (congrArg (fun b => some (Value.bool b)) hg7) rfl rfl ?_
      refine Tops_no rfl rfl (congrArg (fun b => some (Value.bool b)) hg7) rfl rfl ?_
      refine Tops_step rfl (OpT_pickT rfl rfl rfl (congrArg (fun b => some (Value.bool b)) hg7) rfl) ?_
      refine Tops_nil (Tk_wkS (fr' := [(4, some (.pointer (some ⟨b1, 0, none⟩))), (9, some (vI size1.1)), (13, some (v7)), (15, some (vI pick1)), (16, some (v12)), (17, some (vI lay1.2.1)), (18, some (vS image1)), (80, some (vB true))]) (own' := [some (cellsR b1 38 [vU32 Type1, vU64 Sector1, v5, vI Room1, v6]), some (rowS u8S v7 fill1), some (rowS SegS v12 lay1.1)]) (shr' := [Fact.sl u8S v5 Data1, Fact.sl RangeS v6 Ranges1]) [4, 9, 13, 15, 16, 17, 18, 80] [0, 1, 2] [0, 1] rfl rfl rfl rfl ?_)
      refine Tk_condT rfl ?_
      refine Tk_seq (Tk_region (Tops_step rfl (OpT_move rfl rfl rfl rfl) ?_))
      refine Tops_step rfl (OpT_bin rfl rfl rfl rfl rfl (bin_neq_i (a := lay1.2.1) (b := (0 : Int)))) ?_
      refine Tops_step rfl (OpT_move rfl rfl rfl rfl) ?_
      obtain ⟨hg8, h⟩ := chk_e h
      refine Tops_yes rfl rfl (congrArg (fun b => some (Value.bool b)) hg8) (OpT_move rfl rfl rfl rfl) ?_
      rintro _ rfl
      refine Tops_yes rfl rfl (congrArg (fun b => some (Value.bool b)) hg8) (OpT_move rfl rfl rfl rfl) ?_
      rintro _ rfl
      refine Tops_retire (i := 1) rfl ?_
      refine Tops_yes rfl rfl (congrArg (fun b => some (Value.bool b)) hg8) (OpT_strS rfl rfl rfl rfl Try.underlying35 Try.underlying5 Try.underlying9 (i := 2) rfl) ?_
      rintro _ rfl
      refine Tops_yes rfl rfl (congrArg (fun b => some (Value.bool b)) hg8) (OpT_bin rfl rfl rfl rfl rfl (bin_eql_s (a := image1) (b := fill1))) ?_
      rintro _ rfl
      refine Tops_step rfl (OpT_pickT rfl rfl rfl (congrArg (fun b => some (Value.bool b)) hg8) rfl) ?_
      refine Tops_step rfl (OpT_assign rfl rfl rfl rfl) ?_
      refine Tops_nil (Tk_wkS (fr' := [(8, some (vB (image1 == fill1)))]) (own' := []) (shr' := []) [8] [] [] rfl rfl rfl rfl ?_)
      obtain ⟨hg9, h⟩ := chk_e h
      exact Tk_retV rfl rfl (resA (vs := [.bool true]) rfl ⟨(congrArg (fun b => some (Value.bool b)) hg9), trivial⟩) [] [] rfl rfl rfl ⟨rfl, rfl, rfl⟩
     ·replace h := br_f hg7 h
      refine Tops_yes rfl rfl (congrArg (fun b => some (Value.bool b)) hg7) (OpT_move rfl rfl rfl rfl) ?_
      rintro _ rfl
      refine Tops_yes rfl rfl (congrArg (fun b => some (Value.bool b)) hg7) (OpT_move rfl rfl rfl rfl) ?_
      rintro _ rfl
      refine Tops_yes rfl rfl (congrArg (fun b => some (Value.bool b)) hg7) (OpT_bin rfl rfl rfl rfl rfl (bin_add_i (a := pick1) (b := size1.1))) ?_
      rintro _ rfl
      refine Tops_yes rfl rfl (congrArg (fun b => some (Value.bool b)) hg7) (OpT_bin rfl rfl rfl rfl rfl (bin_gtr_i (a := wi (pick1 + size1.1)) (b := (16384 : Int)))) ?_
      rintro _ rfl
      refine Tops_step rfl (OpT_pickF rfl rfl rfl (congrArg (fun b => some (Value.bool b)) hg7) rfl) ?_
      refine Tops_nil (Tk_wkS (fr' := [(4, some (.pointer (some ⟨b1, 0, none⟩))), (9, some (vI size1.1)), (13, some (v7)), (15, some (vI pick1)), (16, some (v12)), (17, some (vI lay1.2.1)), (18, some (vS image1)), (80, some (vB (decide ((wi (pick1 + size1.1)) > (16384 : Int)))))]) (own' := [some (cellsR b1 38 [vU32 Type1, vU64 Sector1, v5, vI Room1, v6]), some (rowS u8S v7 fill1), some (rowS SegS v12 lay1.1)]) (shr' := [Fact.sl u8S v5 Data1, Fact.sl RangeS v6 Ranges1]) [4, 9, 13, 15, 16, 17, 18, 80] [0, 1, 2] [0, 1] rfl rfl rfl rfl ?_)
      rcases Bool.eq_false_or_eq_true (decide ((wi (pick1 + size1.1)) > (16384 : Int))) with hg10 | hg10
      ·replace h := br_t hg10 h
       refine Tk_condT (congrArg (fun b => some (Value.bool b)) hg10) ?_
       refine Tk_seq (Tk_region (Tops_step rfl (OpT_move rfl rfl rfl rfl) ?_))
       refine Tops_step rfl (OpT_bin rfl rfl rfl rfl rfl (bin_neq_i (a := lay1.2.1) (b := (0 : Int)))) ?_
       refine Tops_step rfl (OpT_move rfl rfl rfl rfl) ?_
       obtain ⟨hg11, h⟩ := chk_e h
       refine Tops_yes rfl rfl (congrArg (fun b => some (Value.bool b)) hg11) (OpT_move rfl rfl rfl rfl) ?_
       rintro _ rfl
       refine Tops_yes rfl rfl (congrArg (fun b => some (Value.bool b)) hg11) (OpT_move rfl rfl rfl rfl) ?_
       rintro _ rfl
       refine Tops_retire (i := 1) rfl ?_
       refine Tops_yes rfl rfl (congrArg (fun b => some (Value.bool b)) hg11) (OpT_strS rfl rfl rfl rfl Try.underlying35 Try.underlying5 Try.underlying9 (i := 2) rfl) ?_
       rintro _ rfl
       refine Tops_yes rfl rfl (congrArg (fun b => some (Value.bool b)) hg11) (OpT_bin rfl rfl rfl rfl rfl (bin_eql_s (a := image1) (b := fill1))) ?_
       rintro _ rfl
       refine Tops_step rfl (OpT_pickT rfl rfl rfl (congrArg (fun b => some (Value.bool b)) hg11) rfl) ?_
       refine Tops_step rfl (OpT_assign rfl rfl rfl rfl) ?_
       refine Tops_nil (Tk_wkS (fr' := [(8, some (vB (image1 == fill1)))]) (own' := []) (shr' := []) [8] [] [] rfl rfl rfl rfl ?_)
       obtain ⟨hg12, h⟩ := chk_e h
       exact Tk_retV rfl rfl (resA (vs := [.bool true]) rfl ⟨(congrArg (fun b => some (Value.bool b)) hg12), trivial⟩) [] [] rfl rfl rfl ⟨rfl, rfl, rfl⟩
      ·replace h := br_f hg10 h
       refine Tk_condF (congrArg (fun b => some (Value.bool b)) hg10) ?_
       refine Tk_skip (Tk_seq (Tk_region (Tops_step rfl (OpT_loadCA (vs := [vU32 Type1, vU64 Sector1, v5, vI Room1, v6]) rfl rfl rfl rfl tyF38 (i := 0) rfl rfl rfl) ?_)))
       obtain ⟨bytes1, hx11, h⟩ := ob_e h
       refine Tops_exP rfl (OpT_call (w_ref_Bytes21 hx11) [] [0, 1] rfl rfl rfl rfl rfl callee22 rfl rfl rfl rfl) ?_
       rintro _ ⟨_, _, _, ⟨v14, rfl, rfl, rfl⟩, rfl⟩
       refine Tops_step rfl (OpT_move rfl rfl rfl rfl) ?_
       refine Tops_step rfl (OpT_extract rfl rfl rfl rfl rfl) ?_
       refine Tops_step rfl (OpT_extract rfl rfl rfl rfl rfl) ?_
       refine Tops_step rfl (OpT_assign rfl rfl rfl rfl) ?_
       refine Tops_step rfl (OpT_assign rfl rfl rfl rfl) ?_
       refine Tops_nil (Tk_wkS (fr' := [(4, some (.pointer (some ⟨b1, 0, none⟩))), (9, some (vI size1.1)), (13, some (v7)), (15, some (vI pick1)), (16, some (v12)), (17, some (vI lay1.2.1)), (18, some (vS image1)), (19, some (v14)), (20, some (vI bytes1.2))]) (own' := [some (cellsR b1 38 [vU32 Type1, vU64 Sector1, v5, vI Room1, v6]), some (rowS u8S v7 fill1), some (rowS SegS v12 lay1.1), some (rowS u8S v14 bytes1.1)]) (shr' := [Fact.sl u8S v5 Data1, Fact.sl RangeS v6 Ranges1]) [4, 9, 13, 15, 16, 17, 18, 19, 20] [0, 1, 2, 3] [0, 1] rfl rfl rfl rfl ?_)
       refine Tk_seq (Tk_drawT (by kernel_rfl) ?_)
       refine TA_tb [0, 0, 3, 7, 0, 16, 63, 0, 128, 384, 896, 1920, 4095, 0, 0, 0, 49152, 122880, 253952, 524287, 1048575] (by kernel_rfl) fun htb => ?_
       refine TA_retire (i := 1) rfl ?_
       refine TA_retire (i := 3) rfl ?_
       obtain ⟨hc2, h⟩ := chk_e h
       obtain ⟨hc3, h⟩ := chk_e h
       obtain ⟨hc4, h⟩ := chk_e h
       obtain ⟨hc5, h⟩ := chk_e h
       obtain ⟨hc6, h⟩ := chk_e h
       refine TA_seg (lo := 0) (hi := 19) htb rfl rfl (by kernel_rfl) (fun c L a w => ∃ (v15 : Value), ∃ (v16 : Value), ∃ (v17 : Value), Sat c ⟨[(4, some (.pointer (some ⟨b1, 0, none⟩))), (9, some (vI size1.1)), (13, some (v7)), (15, some (vI pick1)), (16, some (v12)), (17, some (vI lay1.2.1)), (18, some (vS image1)), (19, some (v14)), (20, some (vI bytes1.2)), (94, bif L 0 then some (v7) else none), (95, bif L 1 then some (vI pick1) else none), (96, bif L 2 then some (v15) else none), (97, bif L 3 then some (vS (sub fill1 (0 : Int) pick1)) else none), (98, bif L 4 then some (v14) else none), (99, bif L 5 then some (vS bytes1.1) else none), (100, bif L 6 then some (vS ((sub fill1 (0 : Int) pick1) ++ bytes1.1)) else none), (101, bif L 7 then some (.pointer (some ⟨b1, 3, none⟩)) else none), (102, bif L 8 then some (vI Room1) else none), (103, bif L 9 then some (vI (wi (Room1 + (1 : Int)))) else none), (104, bif L 10 then some (v16) else none), (105, bif L 11 then some (vS (List.replicate (wi (Room1 + (1 : Int))).toNat (0 : UInt8))) else none), (106, bif L 12 then some (vS (((sub fill1 (0 : Int) pick1) ++ bytes1.1) ++ (List.replicate (wi (Room1 + (1 : Int))).toNat (0 : UInt8)))) else none), (107, bif L 13 then some (v7) else none), (108, bif L 14 then some (vI pick1) else none), (109, bif L 15 then some (vI size1.1) else none), (110, bif L 16 then some (vI (wi (pick1 + size1.1))) else none), (111, bif L 17 then some (v17) else none), (112, bif L 18 then some (vS (sub fill1 (wi (pick1 + size1.1)) (len fill1))) else none)], [(some (cellsR b1 38 [vU32 Type1, vU64 Sector1, v5, vI Room1, v6]) : Option Res), (none : Option Res), (some (rowS SegS v12 lay1.1) : Option Res), (none : Option Res), (none : Option Res)], [Fact.sl u8S v5 Data1, Fact.sl RangeS v6 Ranges1, Fact.sl u8S v7 fill1, Fact.sl u8S v14 bytes1.1, (bif L 2 then Fact.sl u8S v15 (sub fill1 (0 : Int) pick1) else Fact.tt), (bif L 10 then Fact.sl u8S v16 (List.replicate (wi (Room1 + (1 : Int))).toNat (0 : UInt8)) else Fact.tt), (bif L 17 then Fact.sl u8S v17 (sub fill1 (wi (pick1 + size1.1)) (len fill1)) else Fact.tt)]⟩ a w) [([], [2, 3, 6, 12]), ([], [2, 3, 6, 12]), ([0, 1], [3, 6, 12]), ([0, 1, 2], [6, 12]), ([], [5, 6, 12]), ([4], [6, 12]), ([0, 1, 2, 3, 4, 5], [12]), ([], [8, 9, 10, 11, 12]), ([7], [9, 10, 11, 12]), ([7, 8], [10, 11, 12]), ([7, 8, 9], [11, 12]), ([7, 8, 9, 10], [12]), ([0, 1, 2, 3, 4, 5, 6, 7, 8, 9, 10, 11], []), ([], [17, 18]), ([], [16, 17, 18]), ([], [16, 17, 18]), ([14, 15], [17, 18]), ([13, 14, 15, 16], [18]), ([13, 14, 15, 16, 17], [])] rfl (by kernel_rfl) ?_ (steps_cons ?_ (steps_cons ?_ (steps_cons ?_ (steps_cons ?_ (steps_cons ?_ (steps_cons ?_ (steps_cons ?_ (steps_cons ?_ (steps_cons ?_ (steps_cons ?_ (steps_cons ?_ (steps_cons ?_ (steps_cons ?_ (steps_cons ?_ (steps_cons ?_ (steps_cons ?_ (steps_cons ?_ (steps_cons ?_ (steps_cons ?_ (steps_nil)))))))))))))))))))) ?_
       ·intro a w hs
        exact ⟨undef, undef, undef, hs.startF [94, 95, 96, 97, 98, 99, 100, 101, 102, 103, 104, 105, 106, 107, 108, 109, 110, 111, 112] [0, 1, 2, 3, 4] [0, 1, 2, 3, 4, 5, 6] rfl rfl rfl rfl⟩
       ·intro L a w hv K Q hK
        obtain ⟨v15, v16, v17, hs⟩ := hv
        refine wpOp_go rfl rfl hs (OpT_move rfl rfl rfl rfl) ?_
        rintro _ rfl a' w' hs'
        exact hK a' w' ⟨v15, v16, v17, hs'.putF (i := 9) rfl [0, 1, 2, 3, 4] [0, 1, 2, 3, 4, 5, 6] rfl rfl rfl rfl⟩
       ·intro L a w hv K Q hK
        obtain ⟨v15, v16, v17, hs⟩ := hv
        refine wpOp_go rfl rfl hs (OpT_move rfl rfl rfl rfl) ?_
        rintro _ rfl a' w' hs'
        exact hK a' w' ⟨v15, v16, v17, hs'.putF (i := 10) rfl [0, 1, 2, 3, 4] [0, 1, 2, 3, 4, 5, 6] rfl rfl rfl rfl⟩
       ·intro L a w hv K Q hK
        obtain ⟨v15, v16, v17, hs⟩ := hv
        refine wpOp_go rfl rfl hs (OpT_sliceH (m := pick1) rfl rfl rfl rfl rfl slF35 (i := 2) rfl hc2) ?_
        rintro _ ⟨v15', rfl⟩ a' w' hs'
        exact hK a' w' ⟨v15', v16, v17, hs'.putF (i := 11) rfl [0, 1, 2, 3, 4] [0, 1, 2, 3, 7, 5, 6] rfl rfl rfl rfl⟩
       ·intro L a w hv K Q hK
        obtain ⟨v15, v16, v17, hs⟩ := hv
        refine wpOp_go rfl rfl hs (OpT_strS rfl rfl rfl rfl Try.underlying35 Try.underlying5 Try.underlying9 (i := 4) rfl) ?_
        rintro _ rfl a' w' hs'
        exact hK a' w' ⟨v15, v16, v17, hs'.putF (i := 12) rfl [0, 1, 2, 3, 4] [0, 1, 2, 3, 4, 5, 6] rfl rfl rfl rfl⟩
       ·intro L a w hv K Q hK
        obtain ⟨v15, v16, v17, hs⟩ := hv
        refine wpOp_go rfl rfl hs (OpT_move rfl rfl rfl rfl) ?_
        rintro _ rfl a' w' hs'
        exact hK a' w' ⟨v15, v16, v17, hs'.putF (i := 13) rfl [0, 1, 2, 3, 4] [0, 1, 2, 3, 4, 5, 6] rfl rfl rfl rfl⟩
       ·intro L a w hv K Q hK
        obtain ⟨v15, v16, v17, hs⟩ := hv
        refine wpOp_go rfl rfl hs (OpT_strS rfl rfl rfl rfl Try.underlying35 Try.underlying5 Try.underlying9 (i := 3) rfl) ?_
        rintro _ rfl a' w' hs'
        exact hK a' w' ⟨v15, v16, v17, hs'.putF (i := 14) rfl [0, 1, 2, 3, 4] [0, 1, 2, 3, 4, 5, 6] rfl rfl rfl rfl⟩
       ·intro L a w hv K Q hK
        obtain ⟨v15, v16, v17, hs⟩ := hv
        refine wpOp_go rfl rfl hs (OpT_bin rfl rfl rfl rfl rfl (bin_add_s (a := sub fill1 (0 : Int) pick1) (b := bytes1.1) hc3)) ?_
        rintro _ rfl a' w' hs'
        exact hK a' w' ⟨v15, v16, v17, hs'.putF (i := 15) rfl [0, 1, 2, 3, 4] [0, 1, 2, 3, 4, 5, 6] rfl rfl rfl rfl⟩
       ·intro L a w hv K Q hK
        obtain ⟨v15, v16, v17, hs⟩ := hv
        refine wpOp_go rfl rfl hs (OpT_fieldC rfl rfl rfl rfl fldF38x3) ?_
        rintro _ rfl a' w' hs'
        exact hK a' w' ⟨v15, v16, v17, hs'.putF (i := 16) rfl [0, 1, 2, 3, 4] [0, 1, 2, 3, 4, 5, 6] rfl rfl rfl rfl⟩
       ·intro L a w hv K Q hK
        obtain ⟨v15, v16, v17, hs⟩ := hv
        refine wpOp_go rfl rfl hs (OpT_loadC rfl rfl rfl rfl tyF3 (i := 0) rfl rfl) ?_
        rintro _ rfl a' w' hs'
        exact hK a' w' ⟨v15, v16, v17, hs'.putF (i := 17) rfl [0, 1, 2, 3, 4] [0, 1, 2, 3, 4, 5, 6] rfl rfl rfl rfl⟩
       ·intro L a w hv K Q hK
        obtain ⟨v15, v16, v17, hs⟩ := hv
        refine wpOp_go rfl rfl hs (OpT_bin rfl rfl rfl rfl rfl (bin_add_i (a := Room1) (b := (1 : Int)))) ?_
        rintro _ rfl a' w' hs'
        exact hK a' w' ⟨v15, v16, v17, hs'.putF (i := 18) rfl [0, 1, 2, 3, 4] [0, 1, 2, 3, 4, 5, 6] rfl rfl rfl rfl⟩
       ·intro L a w hv K Q hK
        obtain ⟨v15, v16, v17, hs⟩ := hv
        refine wpOp_go rfl rfl hs (OpT_makeD u8S rfl (u := (0 : UInt8)) rfl rfl rfl rfl rfl slF35 rfl hc4) ?_
        rintro _ ⟨v16', rfl⟩ a' w' hs'
        replace hs' := hs'.ret (i := 5) rfl
        exact hK a' w' ⟨v15, v16', v17, hs'.putF (i := 19) rfl [0, 1, 2, 3, 5] [0, 1, 2, 3, 4, 7, 6] rfl rfl rfl rfl⟩
       ·intro L a w hv K Q hK
        obtain ⟨v15, v16, v17, hs⟩ := hv
        refine wpOp_go rfl rfl hs (OpT_strS rfl rfl rfl rfl Try.underlying35 Try.underlying5 Try.underlying9 (i := 5) rfl) ?_
        rintro _ rfl a' w' hs'
        exact hK a' w' ⟨v15, v16, v17, hs'.putF (i := 20) rfl [0, 1, 2, 3, 4] [0, 1, 2, 3, 4, 5, 6] rfl rfl rfl rfl⟩
       ·intro L a w hv K Q hK
        obtain ⟨v15, v16, v17, hs⟩ := hv
        refine wpOp_go rfl rfl hs (OpT_bin rfl rfl rfl rfl rfl (bin_add_s (a := (sub fill1 (0 : Int) pick1) ++ bytes1.1) (b := List.replicate (wi (Room1 + (1 : Int))).toNat (0 : UInt8)) hc5)) ?_
        rintro _ rfl a' w' hs'
        exact hK a' w' ⟨v15, v16, v17, hs'.putF (i := 21) rfl [0, 1, 2, 3, 4] [0, 1, 2, 3, 4, 5, 6] rfl rfl rfl rfl⟩
       ·intro L a w hv K Q hK
        obtain ⟨v15, v16, v17, hs⟩ := hv
        refine wpOp_go rfl rfl hs (OpT_move rfl rfl rfl rfl) ?_
        rintro _ rfl a' w' hs'
        exact hK a' w' ⟨v15, v16, v17, hs'.putF (i := 22) rfl [0, 1, 2, 3, 4] [0, 1, 2, 3, 4, 5, 6] rfl rfl rfl rfl⟩
       ·intro L a w hv K Q hK
        obtain ⟨v15, v16, v17, hs⟩ := hv
        refine wpOp_go rfl rfl hs (OpT_move rfl rfl rfl rfl) ?_
        rintro _ rfl a' w' hs'
        exact hK a' w' ⟨v15, v16, v17, hs'.putF (i := 23) rfl [0, 1, 2, 3, 4] [0, 1, 2, 3, 4, 5, 6] rfl rfl rfl rfl⟩
       ·intro L a w hv K Q hK
        obtain ⟨v15, v16, v17, hs⟩ := hv
        refine wpOp_go rfl rfl hs (OpT_move rfl rfl rfl rfl) ?_
        rintro _ rfl a' w' hs'
        exact hK a' w' ⟨v15, v16, v17, hs'.putF (i := 24) rfl [0, 1, 2, 3, 4] [0, 1, 2, 3, 4, 5, 6] rfl rfl rfl rfl⟩
       ·intro L a w hv K Q hK
        obtain ⟨v15, v16, v17, hs⟩ := hv
        refine wpOp_go rfl rfl hs (OpT_bin rfl rfl rfl rfl rfl (bin_add_i (a := pick1) (b := size1.1))) ?_
        rintro _ rfl a' w' hs'
        exact hK a' w' ⟨v15, v16, v17, hs'.putF (i := 25) rfl [0, 1, 2, 3, 4] [0, 1, 2, 3, 4, 5, 6] rfl rfl rfl rfl⟩
       ·intro L a w hv K Q hK
        obtain ⟨v15, v16, v17, hs⟩ := hv
        refine wpOp_go rfl rfl hs (OpT_sliceL (l := wi (pick1 + size1.1)) rfl rfl rfl rfl rfl slF35 (i := 2) rfl hc6) ?_
        rintro _ ⟨v17', rfl⟩ a' w' hs'
        exact hK a' w' ⟨v15, v16, v17', hs'.putF (i := 26) rfl [0, 1, 2, 3, 4] [0, 1, 2, 3, 4, 5, 7] rfl rfl rfl rfl⟩
       ·intro L a w hv K Q hK
        obtain ⟨v15, v16, v17, hs⟩ := hv
        refine wpOp_go rfl rfl hs (OpT_strS rfl rfl rfl rfl Try.underlying35 Try.underlying5 Try.underlying9 (i := 6) rfl) ?_
        rintro _ rfl a' w' hs'
        exact hK a' w' ⟨v15, v16, v17, hs'.putF (i := 27) rfl [0, 1, 2, 3, 4] [0, 1, 2, 3, 4, 5, 6] rfl rfl rfl rfl⟩
       ·intro L a w hL hv
        rw [allTrue hL] at hv
        obtain ⟨v15, v16, v17, hs⟩ := hv
        refine (show TA _ _ _ 19 ⟨[(9, some (vI size1.1)), (15, some (vI pick1)), (16, some (v12)), (17, some (vI lay1.2.1)), (18, some (vS image1)), (19, some (v14)), (20, some (vI bytes1.2)), (106, some (vS (((sub fill1 (0 : Int) pick1) ++ bytes1.1) ++ (List.replicate (wi (Room1 + (1 : Int))).toNat (0 : UInt8))))), (112, some (vS (sub fill1 (wi (pick1 + size1.1)) (len fill1))))], [some (rowS SegS v12 lay1.1)], [Fact.sl u8S v14 bytes1.1]⟩ from ?_) a w (hs.wkS [9, 15, 16, 17, 18, 19, 20, 106, 112] [2] [3] rfl rfl rfl rfl)
        clear hs hL
        obtain ⟨hc7, h⟩ := chk_e h
        refine TA_step htb (by kernel_rfl) rfl rfl (OpT_bin rfl rfl rfl rfl rfl (bin_add_s (a := ((sub fill1 (0 : Int) pick1) ++ bytes1.1) ++ (List.replicate (wi (Room1 + (1 : Int))).toNat (0 : UInt8))) (b := sub fill1 (wi (pick1 + size1.1)) (len fill1)) hc7)) ?_
        refine TA_step htb (by kernel_rfl) rfl rfl (OpT_assign rfl rfl rfl rfl) ?_
        refine TA_end rfl ?_
        refine Tk_wkS (fr' := [(9, some (vI size1.1)), (15, some (vI pick1)), (16, some (v12)), (17, some (vI lay1.2.1)), (18, some (vS image1)), (19, some (v14)), (20, some (vI bytes1.2)), (21, some (vS ((((sub fill1 (0 : Int) pick1) ++ bytes1.1) ++ (List.replicate (wi (Room1 + (1 : Int))).toNat (0 : UInt8))) ++ (sub fill1 (wi (pick1 + size1.1)) (len fill1)))))]) (own' := [some (rowS SegS v12 lay1.1)]) (shr' := [Fact.sl u8S v14 bytes1.1]) [9, 15, 16, 17, 18, 19, 20, 21] [0] [0] rfl rfl rfl rfl ?_
        refine Tk_seq (Tk_seq (Tk_region (Tops_step rfl (OpT_move rfl rfl rfl rfl) ?_)))
        refine Tops_step rfl (OpT_bin rfl rfl rfl rfl rfl (bin_neq_i (a := lay1.2.1) (b := (0 : Int)))) ?_
        refine Tops_step rfl (OpT_move rfl rfl rfl rfl) ?_
        obtain ⟨hg13, h⟩ := chk_e h
        replace hg13 := not_t hg13
        refine Tops_yes rfl rfl (congrArg (fun b => some (Value.bool b)) hg13) (OpT_move rfl rfl rfl rfl) ?_
        rintro _ rfl
        refine Tops_yes rfl rfl (congrArg (fun b => some (Value.bool b)) hg13) (OpT_bin rfl rfl rfl rfl rfl (bin_neq_i (a := bytes1.2) (b := (0 : Int)))) ?_
        rintro _ rfl
        refine Tops_step rfl (OpT_pickF rfl rfl rfl (congrArg (fun b => some (Value.bool b)) hg13) rfl) ?_
        refine Tops_step rfl (OpT_move rfl rfl rfl rfl) ?_
        obtain ⟨hg14, h⟩ := chk_e h
        replace hg14 := not_t hg14
        refine Tops_yes rfl rfl (congrArg (fun b => some (Value.bool b)) hg14) (OpT_move rfl rfl rfl rfl) ?_
        rintro _ rfl
        refine Tops_yes rfl rfl (congrArg (fun b => some (Value.bool b)) hg14) (OpT_move rfl rfl rfl rfl) ?_
        rintro _ rfl
        refine Tops_yes rfl rfl (congrArg (fun b => some (Value.bool b)) hg14) (OpT_bin rfl rfl rfl rfl rfl (bin_neq_s (a := image1) (b := (((sub fill1 (0 : Int) pick1) ++ bytes1.1) ++ (List.replicate (wi (Room1 + (1 : Int))).toNat (0 : UInt8))) ++ (sub fill1 (wi (pick1 + size1.1)) (len fill1))))) ?_
        rintro _ rfl
        refine Tops_step rfl (OpT_pickF rfl rfl rfl (congrArg (fun b => some (Value.bool b)) hg14) rfl) ?_
        refine Tops_nil (Tk_wkS (fr' := [(9, some (vI size1.1)), (15, some (vI pick1)), (16, some (v12)), (19, some (v14)), (124, some (vB (image1 != ((((sub fill1 (0 : Int) pick1) ++ bytes1.1) ++ (List.replicate (wi (Room1 + (1 : Int))).toNat (0 : UInt8))) ++ (sub fill1 (wi (pick1 + size1.1)) (len fill1))))))]) (own' := [some (rowS SegS v12 lay1.1)]) (shr' := [Fact.sl u8S v14 bytes1.1]) [9, 15, 16, 19, 124] [0] [0] rfl rfl rfl rfl ?_)
        obtain ⟨hg15, h⟩ := chk_e h
        replace hg15 := not_t hg15
        refine Tk_condF (congrArg (fun b => some (Value.bool b)) hg15) ?_
        refine Tk_skip (Tk_seq (Tk_region (Tops_step rfl (OpT_move rfl rfl rfl rfl) ?_)))
        refine Tops_step rfl (OpT_cnv rfl rfl rfl rfl (cnv_i_u64 (n := pick1) Try.underlying3 Try.underlying29)) ?_
        refine Tops_step rfl (OpT_assign rfl rfl rfl rfl) ?_
        refine Tops_nil (Tk_wkS (fr' := [(9, some (vI size1.1)), (15, some (vI pick1)), (16, some (v12)), (19, some (v14)), (22, some (vU64 (u64 pick1)))]) (own' := [some (rowS SegS v12 lay1.1)]) (shr' := [Fact.sl u8S v14 bytes1.1]) [9, 15, 16, 19, 22] [0] [0] rfl rfl rfl rfl ?_)
        refine Tk_seq (Tk_seq (Tk_region (Tops_step rfl (OpT_assign rfl rfl rfl rfl) ?_)))
        refine Tops_nil (Tk_block (Tk_loopS (σ := UInt64 × Int) [9, 15, 16, 19, 22, 23] [0] [0] (fun s => ⟨[(9, some (vI size1.1)), (15, some (vI pick1)), (16, some (v12)), (19, some (v14)), (22, some (vU64 s.1)), (23, some (vI s.2))], [some (rowS SegS v12 lay1.1)], [Fact.sl u8S v14 bytes1.1]⟩) (fun nf2 s => law22zBlkdrvRoomsL2 size1 pick1 lay1 bytes1 nf2 s.1 s.2 = some true) fuel (u64 pick1, (0 : Int)) h rfl rfl rfl rfl rfl (fun s h => by cases h) ?_))
        rintro nf2 ⟨next1, i2⟩ h
        replace h : law22zBlkdrvRoomsL2B size1 pick1 lay1 bytes1 (law22zBlkdrvRoomsL2 size1 pick1 lay1 bytes1 nf2) next1 i2 = some true := h
        unfold law22zBlkdrvRoomsL2B at h
        refine Tk_seq (Tk_seq (Tk_region (Tops_step rfl (OpT_move rfl rfl rfl rfl) ?_)))
        refine Tops_step rfl (OpT_move rfl rfl rfl rfl) ?_
        refine Tops_step rfl (OpT_lenO rfl rfl rfl rfl Try.underlying22 (i := 0) rfl) ?_
        refine Tops_step rfl (OpT_bin rfl rfl rfl rfl rfl (bin_lss_i (a := i2) (b := len lay1.1))) ?_
        refine Tops_nil (Tk_wkS (fr' := [(9, some (vI size1.1)), (15, some (vI pick1)), (16, some (v12)), (19, some (v14)), (22, some (vU64 next1)), (23, some (vI i2)), (130, some (vB (decide (i2 < (len lay1.1)))))]) (own' := [some (rowS SegS v12 lay1.1)]) (shr' := [Fact.sl u8S v14 bytes1.1]) [9, 15, 16, 19, 22, 23, 130] [0] [0] rfl rfl rfl rfl ?_)
        rcases Bool.eq_false_or_eq_true (decide (i2 < (len lay1.1))) with hg16 | hg16
        ·replace h := br_t hg16 h
         refine Tk_condT (congrArg (fun b => some (Value.bool b)) hg16) ?_
         refine Tk_skip (Tk_seq (Tk_block (Tk_seq (Tk_seq (Tk_region (Tops_step rfl (OpT_move rfl rfl rfl rfl) ?_))))))
         refine Tops_step rfl (OpT_move rfl rfl rfl rfl) ?_
         obtain ⟨s1, hx12, h⟩ := ob_e h
         refine Tops_step rfl (OpT_idxO rfl rfl rfl rfl rfl slF22 (i := 0) rfl hx12) ?_
         refine Tops_step rfl (OpT_fieldR (S := SegS) rfl rfl rfl rfl fldF32x0 (i := 0) rfl hx12) ?_
         refine Tops_step rfl (OpT_loadOF (S := SegS) rfl rfl rfl rfl rfl tyF29 (i := 0) rfl hx12 rfl rfl) ?_
         refine Tops_step rfl (OpT_move rfl rfl rfl rfl) ?_
         refine Tops_step rfl (OpT_bin rfl rfl rfl rfl rfl (bin_neq_u64 (a := s1.At) (b := next1))) ?_
         refine Tops_step rfl (OpT_move rfl rfl rfl rfl) ?_
         obtain ⟨hg17, h⟩ := chk_e h
         replace hg17 := not_t hg17
         refine Tops_yes rfl rfl (congrArg (fun b => some (Value.bool b)) hg17) (OpT_move rfl rfl rfl rfl) ?_
         rintro _ rfl
         refine Tops_yes rfl rfl (congrArg (fun b => some (Value.bool b)) hg17) (OpT_move rfl rfl rfl rfl) ?_
         rintro _ rfl
         obtain ⟨s2, hx13, h⟩ := ob_e h
         refine Tops_yes rfl rfl (congrArg (fun b => some (Value.bool b)) hg17) (OpT_idxO rfl rfl rfl rfl rfl slF22 (i := 0) rfl hx13) ?_
         rintro _ rfl
         refine Tops_yes rfl rfl (congrArg (fun b => some (Value.bool b)) hg17) (OpT_fieldR (S := SegS) rfl rfl rfl rfl fldF32x2 (i := 0) rfl hx13) ?_
         rintro _ rfl
         refine Tops_yes rfl rfl (congrArg (fun b => some (Value.bool b)) hg17) (OpT_loadOF (S := SegS) rfl rfl rfl rfl rfl tyF4 (i := 0) rfl hx13 rfl rfl) ?_
         rintro _ rfl
         refine Tops_yes rfl rfl (congrArg (fun b => some (Value.bool b)) hg17) (OpT_move rfl rfl rfl rfl) ?_
         rintro _ rfl
         refine Tops_yes rfl rfl (congrArg (fun b => some (Value.bool b)) hg17) (OpT_move rfl rfl rfl rfl) ?_
         rintro _ rfl
         refine Tops_yes rfl rfl (congrArg (fun b => some (Value.bool b)) hg17) (OpT_move rfl rfl rfl rfl) ?_
         rintro _ rfl
         refine Tops_yes rfl rfl (congrArg (fun b => some (Value.bool b)) hg17) (OpT_lenS rfl rfl rfl rfl Try.underlying35 (i := 0) rfl) ?_
         rintro _ rfl
         refine Tops_yes rfl rfl (congrArg (fun b => some (Value.bool b)) hg17) (OpT_bin rfl rfl rfl rfl rfl (bin_add_i (a := pick1) (b := len bytes1.1))) ?_
         rintro _ rfl
         refine Tops_yes rfl rfl (congrArg (fun b => some (Value.bool b)) hg17) (OpT_cnv rfl rfl rfl rfl (cnv_i_u64 (n := wi (pick1 + (len bytes1.1))) Try.underlying3 Try.underlying29)) ?_
         rintro _ rfl
         refine Tops_yes rfl rfl (congrArg (fun b => some (Value.bool b)) hg17) (OpT_bin rfl rfl rfl rfl rfl (bin_geq_u64 (a := next1) (b := u64 (wi (pick1 + (len bytes1.1)))))) ?_
         rintro _ rfl
         refine Tops_yes rfl rfl (congrArg (fun b => some (Value.bool b)) hg17) (OpT_bin rfl rfl rfl rfl rfl (bin_neq_b (a := s2.Write) (b := decide (next1 ≥ (u64 (wi (pick1 + (len bytes1.1)))))) Try.underlying4)) ?_
         rintro _ rfl
         refine Tops_step rfl (OpT_pickF rfl rfl rfl (congrArg (fun b => some (Value.bool b)) hg17) rfl) ?_
         refine Tops_nil (Tk_wkS (fr' := [(9, some (vI size1.1)), (15, some (vI pick1)), (16, some (v12)), (19, some (v14)), (22, some (vU64 next1)), (23, some (vI i2)), (154, some (vB (s2.Write != (decide (next1 ≥ (u64 (wi (pick1 + (len bytes1.1)))))))))]) (own' := [some (rowS SegS v12 lay1.1)]) (shr' := [Fact.sl u8S v14 bytes1.1]) [9, 15, 16, 19, 22, 23, 154] [0] [0] rfl rfl rfl rfl ?_)
         obtain ⟨hg18, h⟩ := chk_e h
         replace hg18 := not_t hg18
         refine Tk_condF (congrArg (fun b => some (Value.bool b)) hg18) ?_
         refine Tk_skip (Tk_region (Tops_step rfl (OpT_move rfl rfl rfl rfl) ?_))
         refine Tops_step rfl (OpT_move rfl rfl rfl rfl) ?_
         refine Tops_step rfl (OpT_move rfl rfl rfl rfl) ?_
         obtain ⟨s3, hx14, h⟩ := ob_e h
         refine Tops_step rfl (OpT_idxO rfl rfl rfl rfl rfl slF22 (i := 0) rfl hx14) ?_
         refine Tops_step rfl (OpT_fieldR (S := SegS) rfl rfl rfl rfl fldF32x1 (i := 0) rfl hx14) ?_
         refine Tops_step rfl (OpT_loadOF (S := SegS) rfl rfl rfl rfl rfl tyF30 (i := 0) rfl hx14 rfl rfl) ?_
         refine Tops_step rfl (OpT_cnv rfl rfl rfl rfl (cnv_u32_u64 (n := s3.Len) Try.underlying30 Try.underlying29)) ?_
         refine Tops_step rfl (OpT_bin rfl rfl rfl rfl rfl (bin_add_u64 (a := next1) (b := s3.Len.toUInt64))) ?_
         refine Tops_step rfl (OpT_assign rfl rfl rfl rfl) ?_
         refine Tops_nil (Tk_wkS (fr' := [(9, some (vI size1.1)), (15, some (vI pick1)), (16, some (v12)), (19, some (v14)), (22, some (vU64 (next1 + s3.Len.toUInt64))), (23, some (vI i2))]) (own' := [some (rowS SegS v12 lay1.1)]) (shr' := [Fact.sl u8S v14 bytes1.1]) [9, 15, 16, 19, 22, 23] [0] [0] rfl rfl rfl rfl ?_)
         refine Tk_blk (Tk_region (Tops_step rfl (OpT_move rfl rfl rfl rfl) ?_))
         refine Tops_step rfl (OpT_bin rfl rfl rfl rfl rfl (bin_add_i (a := i2) (b := (1 : Int)))) ?_
         refine Tops_step rfl (OpT_assign rfl rfl rfl rfl) ?_
         refine Tops_nil (Tk_wkS (fr' := [(9, some (vI size1.1)), (15, some (vI pick1)), (16, some (v12)), (19, some (v14)), (22, some (vU64 (next1 + s3.Len.toUInt64))), (23, some (vI (wi (i2 + (1 : Int)))))]) (own' := [some (rowS SegS v12 lay1.1)]) (shr' := [Fact.sl u8S v14 bytes1.1]) [9, 15, 16, 19, 22, 23] [0] [0] rfl rfl rfl rfl ?_)
         exact Tk_backS (next1 + s3.Len.toUInt64, wi (i2 + (1 : Int))) h [9, 15, 16, 19, 22, 23] [0] [0] rfl rfl rfl rfl rfl
        ·replace h := br_f hg16 h
         refine Tk_condF (congrArg (fun b => some (Value.bool b)) hg16) ?_
         refine Tk_exit _ rfl ?_
         refine Tk_seq (Tk_region (Tops_step rfl (OpT_move rfl rfl rfl rfl) ?_))
         refine Tops_step rfl (OpT_move rfl rfl rfl rfl) ?_
         refine Tops_step rfl (OpT_move rfl rfl rfl rfl) ?_
         refine Tops_step rfl (OpT_bin rfl rfl rfl rfl rfl (bin_add_i (a := pick1) (b := size1.1))) ?_
         refine Tops_step rfl (OpT_cnv rfl rfl rfl rfl (cnv_i_u64 (n := wi (pick1 + size1.1)) Try.underlying3 Try.underlying29)) ?_
         refine Tops_step rfl (OpT_bin rfl rfl rfl rfl rfl (bin_eql_u64 (a := next1) (b := u64 (wi (pick1 + size1.1))))) ?_
         refine Tops_step rfl (OpT_assign rfl rfl rfl rfl) ?_
         refine Tops_nil (Tk_wkS (fr' := [(8, some (vB (next1 == (u64 (wi (pick1 + size1.1))))))]) (own' := []) (shr' := []) [8] [] [] rfl rfl rfl rfl ?_)
         obtain ⟨hg19, h⟩ := chk_e h
         exact Tk_retV rfl rfl (resA (vs := [.bool true]) rfl ⟨(congrArg (fun b => some (Value.bool b)) hg19), trivial⟩) [] [] rfl rfl rfl ⟨rfl, rfl, rfl⟩
end Go.Proofs.Ytkmjpgfbcklopaa
