/- The law NetNames is walked: it returns what its plain words say. No condition. -/
import Derived.Test.YtdaijemhibbgeaaWa4
namespace Go.Proofs.Ytdaijemhibbgeaa
attribute [local irreducible] sub

set_option maxRecDepth 100000 in
set_option maxHeartbeats 4000000 in
theorem w_law25zNetNames   (h : law25zNetNames = some true) :
  Ctr Try.prog 6 #[] [] []
   (fun rv own shr => rv = .bool true ∧ own = [] ∧ shr = []) := by
 unfold law25zNetNames at h
 refine Ctr.mk (args := []) Try.func6 rfl rfl (fun R0 w0 B => ?_)
 refine Tk_seq (Tk_region (Tops_step rfl (OpT_assign rfl rfl rfl rfl) ?_))
 refine Tops_nil (Tk_wkS (fr' := []) (own' := []) (shr' := []) [] [] [] rfl rfl rfl rfl ?_)
 refine Tk_seq (Tk_region ?_)
 obtain ⟨memory1, hx1, h⟩ := ob_e h
 refine Tops_exP rfl (OpT_call (w_law25zmemory hx1) [] [] rfl rfl rfl rfl rfl callee12 rfl rfl rfl rfl) ?_
 rintro _ ⟨v1, _, _, ⟨_, rfl, rfl, rfl⟩, rfl⟩
 refine Tops_retire (i := 0) rfl ?_
 obtain ⟨new1, hx2, h⟩ := ob_e h
 refine Tops_exP rfl (OpT_call (w_gmem_New hx2) [] [0] rfl rfl rfl rfl rfl callee11 rfl rfl rfl rfl) ?_
 rintro _ ⟨_, _, _, ⟨v2, rfl, rfl, rfl⟩, rfl⟩
 refine Tops_step rfl (OpT_move rfl rfl rfl rfl) ?_
 refine Tops_step rfl (OpT_extract rfl rfl rfl rfl rfl) ?_
 refine Tops_step rfl (OpT_extract rfl rfl rfl rfl rfl) ?_
 refine Tops_step rfl (OpT_assign rfl rfl rfl rfl) ?_
 refine Tops_step rfl (OpT_assign rfl rfl rfl rfl) ?_
 refine Tops_nil (Tk_wkS (fr' := [(1, some (v2)), (2, some (vI new1.2))]) (own' := [some (optR 78 RegionS u8S true gmem_Mem.l gmem_Mem.b v2 new1.1)]) (shr' := []) [1, 2] [1] [] rfl rfl rfl rfl ?_)
 rcases onO_cases h with ⟨ho1, h⟩ | ⟨mem1, ho1, h⟩
 ·cases h
 ·refine Tk_optS (i := 0) rfl ho1 ?_
  rintro b1 v3 v4 vs1 rfl
  refine Tk_seq (Tk_seq (Tk_region (Tops_step rfl (OpT_move rfl rfl rfl rfl) ?_)))
  refine Tops_step rfl (OpT_bin rfl rfl rfl rfl rfl (bin_neq_i (a := new1.2) (b := (0 : Int)))) ?_
  refine Tops_nil (Tk_wkS (fr' := [(1, some (.pointer (some ⟨b1, 0, none⟩))), (23, some (vB (new1.2 != (0 : Int))))]) (own' := [some (cellsR b1 78 [v3, v4]), some (rowsX u8S true v4 vs1 mem1.b none)]) (shr' := [Fact.sl RegionS v3 mem1.l]) [1, 23] [0, 1] [0] rfl rfl rfl rfl ?_)
  obtain ⟨hg1, h⟩ := chk_e h
  replace hg1 := not_t hg1
  refine Tk_condF (congrArg (fun b => some (Value.bool b)) hg1) ?_
  refine Tk_skip (Tk_seq (Tk_region (Tops_ex rfl (OpT_buildSlice (S := u8S) (xs := [(1 : UInt8), (2 : UInt8), (3 : UInt8)]) (css := [[vU8 (1 : UInt8)], [vU8 (2 : UInt8)], [vU8 (3 : UInt8)]]) (cs := [vU8 (1 : UInt8), vU8 (2 : UInt8), vU8 (3 : UInt8)]) (e := 5) rfl rfl rfl rfl (bldF slF24 (by decide) (by kernel_rfl)) rfl rfl rfl rfl (rel_plainD (S := u8S) (xs := [(1 : UInt8), (2 : UInt8), (3 : UInt8)]) (css := [[vU8 (1 : UInt8)], [vU8 (2 : UInt8)], [vU8 (3 : UInt8)]]) rfl rfl)) fun v5 => ?_)))
  refine Tops_step rfl (OpT_build1 (fun z0 => [(2, vI ((-1) : Int)), (3, vU16 (2048 : UInt16)), (4, z0)]) (fun z0 => [vU8 (0 : UInt8), vU8 (0 : UInt8), vU8 (0 : UInt8), vU8 (0 : UInt8), vU8 (0 : UInt8), vU8 (0 : UInt8), vU8 (0 : UInt8), vU8 (0 : UInt8), vU8 (0 : UInt8), vU8 (0 : UInt8), vU8 (0 : UInt8), vU8 (0 : UInt8), vI ((-1) : Int), vU16 (2048 : UInt16), z0]) rfl rfl rfl rfl (is_row (i := 2) rfl) (by intros; kernel_rfl)) ?_
  refine Tops_ex rfl (OpT_alloc rfl rfl rfl tyZ26) fun b2 => ?_
  refine Tops_step rfl (OpT_storeA1 (fun z0 => [vU8 (0 : UInt8), vU8 (0 : UInt8), vU8 (0 : UInt8), vU8 (0 : UInt8), vU8 (0 : UInt8), vU8 (0 : UInt8), vU8 (0 : UInt8), vU8 (0 : UInt8), vU8 (0 : UInt8), vU8 (0 : UInt8), vU8 (0 : UInt8), vU8 (0 : UInt8), vI ((-1) : Int), vU16 (2048 : UInt16), z0]) (cs' := [vU8 (0 : UInt8), vU8 (0 : UInt8), vU8 (0 : UInt8), vU8 (0 : UInt8), vU8 (0 : UInt8), vU8 (0 : UInt8), vU8 (0 : UInt8), vU8 (0 : UInt8), vU8 (0 : UInt8), vU8 (0 : UInt8), vU8 (0 : UInt8), vU8 (0 : UInt8), vI ((-1) : Int), vU16 (2048 : UInt16), v5]) rfl rfl rfl rfl tyF26 (i := 3) rfl (is_row (i := 2) rfl) (fun _ _ _ => rfl) rfl rfl rfl) ?_
  refine Tops_nil (Tk_wkS (fr' := [(1, some (.pointer (some ⟨b1, 0, none⟩))), (3, some (.pointer (some ⟨b2, 0, none⟩)))]) (own' := [some (cellsR b1 78 [v3, v4]), some (rowsX u8S true v4 vs1 mem1.b none), some (rowS u8S v5 [(1 : UInt8), (2 : UInt8), (3 : UInt8)]), some (cellsR b2 26 [vU8 (0 : UInt8), vU8 (0 : UInt8), vU8 (0 : UInt8), vU8 (0 : UInt8), vU8 (0 : UInt8), vU8 (0 : UInt8), vU8 (0 : UInt8), vU8 (0 : UInt8), vU8 (0 : UInt8), vU8 (0 : UInt8), vU8 (0 : UInt8), vU8 (0 : UInt8), vI ((-1) : Int), vU16 (2048 : UInt16), v5])]) (shr' := [Fact.sl RegionS v3 mem1.l]) [1, 3] [0, 1, 2, 3] [0] rfl rfl rfl rfl ?_)
  refine Tk_seq (Tk_drawT (by kernel_rfl) ?_)
  refine TA_tb [0, 0, 2, 0, 15, 31, 63, 63, 127, 511] (by kernel_rfl) fun htb => ?_
  obtain ⟨rooms1, hx3, h⟩ := ob_e h
  refine TA_seg (lo := 0) (hi := 4) htb rfl rfl (by kernel_rfl) (fun c L a w => ∃ (v6 : Value), ∃ (v7 : Value), Sat c ⟨[(1, some (.pointer (some ⟨b1, 0, none⟩))), (3, some (.pointer (some ⟨b2, 0, none⟩))), (27, bif L 0 then some (.pointer (some ⟨b1, 0, none⟩)) else none), (28, bif L 1 then some (v6) else none), (29, bif L 2 then some (v7) else none), (30, bif L 3 then some (.agg #[vU8 (0 : UInt8), vU8 (0 : UInt8), vU8 (0 : UInt8), vU8 (0 : UInt8), vU8 (0 : UInt8), vU8 (0 : UInt8), vU8 (0 : UInt8), vU8 (0 : UInt8), vU8 (0 : UInt8), vU8 (0 : UInt8), vU8 (0 : UInt8), vU8 (0 : UInt8), vI ((-1) : Int), vU16 (2048 : UInt16), v5]) else none)], [(some (cellsR b1 78 [v3, v4]) : Option Res), (some (rowsX u8S true v4 vs1 mem1.b none) : Option Res), (some (rowS u8S v5 [(1 : UInt8), (2 : UInt8), (3 : UInt8)]) : Option Res), (some (cellsR b2 26 [vU8 (0 : UInt8), vU8 (0 : UInt8), vU8 (0 : UInt8), vU8 (0 : UInt8), vU8 (0 : UInt8), vU8 (0 : UInt8), vU8 (0 : UInt8), vU8 (0 : UInt8), vU8 (0 : UInt8), vU8 (0 : UInt8), vU8 (0 : UInt8), vU8 (0 : UInt8), vI ((-1) : Int), vU16 (2048 : UInt16), v5]) : Option Res), (none : Option Res)], [Fact.sl RegionS v3 mem1.l, (bif L 1 then Fact.sl iS v6 [(12 : Int), (10 : Int), (10 : Int)] else Fact.tt), (bif L 2 then Fact.sl (Shape.slice SegS) v7 rooms1 else Fact.tt)]⟩ a w) [([], []), ([], [2]), ([1], []), ([], [])] rfl (by kernel_rfl) ?_ (steps_cons ?_ (steps_cons ?_ (steps_cons ?_ (steps_cons ?_ (steps_nil))))) ?_
  ·intro a w hs
   exact ⟨undef, undef, hs.startF [27, 28, 29, 30] [0, 1, 2, 3, 4] [0, 1, 2] rfl rfl rfl rfl⟩
  ·intro L a w hv K Q hK
   obtain ⟨v6, v7, hs⟩ := hv
   refine wpOp_go rfl rfl hs (OpT_move rfl rfl rfl rfl) ?_
   rintro _ rfl a' w' hs'
   exact hK a' w' ⟨v6, v7, hs'.putF (i := 2) rfl [0, 1, 2, 3, 4] [0, 1, 2] rfl rfl rfl rfl⟩
  ·intro L a w hv K Q hK
   obtain ⟨v6, v7, hs⟩ := hv
   refine wpOp_go rfl rfl hs (OpT_buildSlice (S := iS) (xs := [(12 : Int), (10 : Int), (10 : Int)]) (css := [[vI (12 : Int)], [vI (10 : Int)], [vI (10 : Int)]]) (cs := [vI (12 : Int), vI (10 : Int), vI (10 : Int)]) (e := 3) rfl rfl rfl rfl (bldF slF27 (by decide) (by kernel_rfl)) rfl rfl rfl rfl (rel_plainD (S := iS) (xs := [(12 : Int), (10 : Int), (10 : Int)]) (css := [[vI (12 : Int)], [vI (10 : Int)], [vI (10 : Int)]]) rfl rfl)) ?_
   rintro _ ⟨v6', rfl⟩ a' w' hs'
   replace hs' := hs'.ret (i := 5) rfl
   exact hK a' w' ⟨v6', v7, hs'.putF (i := 3) rfl [0, 1, 2, 3, 5] [0, 3, 2] rfl rfl rfl rfl⟩
  ·intro L a w hv K Q hK
   obtain ⟨v6, v7, hs⟩ := hv
   refine wpOp_go rfl rfl hs (OpT_call (ws_law25zrooms hx3) [] [1] rfl rfl rfl rfl rfl callee10 rfl rfl rfl rfl) ?_
   rintro _ ⟨v7', _, _, ⟨_, rfl, rfl, rfl⟩, rfl⟩ a' w' hs'
   exact hK a' w' ⟨v6, v7', hs'.putF (i := 4) rfl [0, 1, 2, 3, 4] [0, 1, 3] rfl rfl rfl rfl⟩
  ·intro L a w hv K Q hK
   obtain ⟨v6, v7, hs⟩ := hv
   refine wpOp_go rfl rfl hs (OpT_loadCA (vs := [vU8 (0 : UInt8), vU8 (0 : UInt8), vU8 (0 : UInt8), vU8 (0 : UInt8), vU8 (0 : UInt8), vU8 (0 : UInt8), vU8 (0 : UInt8), vU8 (0 : UInt8), vU8 (0 : UInt8), vU8 (0 : UInt8), vU8 (0 : UInt8), vU8 (0 : UInt8), vI ((-1) : Int), vU16 (2048 : UInt16), v5]) rfl rfl rfl rfl tyF26 (i := 3) rfl rfl rfl) ?_
   rintro _ rfl a' w' hs'
   exact hK a' w' ⟨v6, v7, hs'.putF (i := 5) rfl [0, 1, 2, 3, 4] [0, 1, 2] rfl rfl rfl rfl⟩
  ·intro L a w hL hv
   rw [allTrue hL] at hv
   obtain ⟨v6, v7, hs⟩ := hv
   refine (show TA _ _ _ 4 ⟨[(1, some (.pointer (some ⟨b1, 0, none⟩))), (3, some (.pointer (some ⟨b2, 0, none⟩))), (27, some (.pointer (some ⟨b1, 0, none⟩))), (29, some (v7)), (30, some (.agg #[vU8 (0 : UInt8), vU8 (0 : UInt8), vU8 (0 : UInt8), vU8 (0 : UInt8), vU8 (0 : UInt8), vU8 (0 : UInt8), vU8 (0 : UInt8), vU8 (0 : UInt8), vU8 (0 : UInt8), vU8 (0 : UInt8), vU8 (0 : UInt8), vU8 (0 : UInt8), vI ((-1) : Int), vU16 (2048 : UInt16), v5]))], [some (cellsR b1 78 [v3, v4]), some (rowsX u8S true v4 vs1 mem1.b none), some (rowS u8S v5 [(1 : UInt8), (2 : UInt8), (3 : UInt8)]), some (cellsR b2 26 [vU8 (0 : UInt8), vU8 (0 : UInt8), vU8 (0 : UInt8), vU8 (0 : UInt8), vU8 (0 : UInt8), vU8 (0 : UInt8), vU8 (0 : UInt8), vU8 (0 : UInt8), vU8 (0 : UInt8), vU8 (0 : UInt8), vU8 (0 : UInt8), vU8 (0 : UInt8), vI ((-1) : Int), vU16 (2048 : UInt16), v5])], [Fact.sl RegionS v3 mem1.l, Fact.sl (Shape.slice SegS) v7 rooms1]⟩ from ?_) a w (hs.wkS [1, 3, 27, 29, 30] [0, 1, 2, 3] [0, 2] rfl rfl rfl rfl)
   clear hs hL
   obtain ⟨delive1, hx4, h⟩ := ob_e h
   refine TA_exP htb (by kernel_rfl) rfl rfl (OpT_callB [2] [4, 5, 2, 3, 6] (w_net_Deliver hx4) [0, 1] rfl rfl rfl rfl rfl callee15 rfl rfl rfl rfl rfl rfl (bor_cons (bor_shr 0 rfl) (bor_cons (bor_shr 1 rfl) (bor_cons (bor_row 2 rfl rfl) bor_nil))) (by rintro _ _ _ ⟨_, rfl, rfl, rfl⟩; exact ⟨rfl, (ri_cons (ri_cells _ _ _) (ri_cons (ri_rows rfl _ _ _ _ _) (ri_cons (ri_row (S := u32S) rfl _ _) ri_nil)))⟩)) ?_
   rintro _ ⟨_, _, _, ⟨v8, rfl, rfl, rfl⟩, rfl⟩
   refine TA_step htb (by kernel_rfl) rfl rfl (OpT_move rfl rfl rfl rfl) ?_
   refine TA_wkS (fr' := [(1, some (.pointer (some ⟨b1, 0, none⟩))), (3, some (.pointer (some ⟨b2, 0, none⟩))), (26, some (.tuple #[v8, vI delive1.2.1]))]) (own' := [some (cellsR b1 78 [v3, v4]), some (rowsX u8S true v4 vs1 delive1.2.2 none), some (rowS u8S v5 [(1 : UInt8), (2 : UInt8), (3 : UInt8)]), some (cellsR b2 26 [vU8 (0 : UInt8), vU8 (0 : UInt8), vU8 (0 : UInt8), vU8 (0 : UInt8), vU8 (0 : UInt8), vU8 (0 : UInt8), vU8 (0 : UInt8), vU8 (0 : UInt8), vU8 (0 : UInt8), vU8 (0 : UInt8), vU8 (0 : UInt8), vU8 (0 : UInt8), vI ((-1) : Int), vU16 (2048 : UInt16), v5]), some (rowS u32S v8 delive1.1)]) (shr' := [Fact.sl RegionS v3 mem1.l]) [1, 3, 26] [0, 1, 2, 3, 4] [0] rfl rfl rfl rfl ?_
   refine TA_seg (lo := 6) (hi := 9) htb rfl rfl (by kernel_rfl) (fun c L a w => Sat c ⟨[(1, some (.pointer (some ⟨b1, 0, none⟩))), (3, some (.pointer (some ⟨b2, 0, none⟩))), (26, some (.tuple #[v8, vI delive1.2.1])), (32, bif L 6 then some (v8) else none), (33, bif L 7 then some (vI delive1.2.1) else none), (4, bif L 8 then some (v8) else none)], [(some (cellsR b1 78 [v3, v4]) : Option Res), (some (rowsX u8S true v4 vs1 delive1.2.2 none) : Option Res), (some (rowS u8S v5 [(1 : UInt8), (2 : UInt8), (3 : UInt8)]) : Option Res), (some (cellsR b2 26 [vU8 (0 : UInt8), vU8 (0 : UInt8), vU8 (0 : UInt8), vU8 (0 : UInt8), vU8 (0 : UInt8), vU8 (0 : UInt8), vU8 (0 : UInt8), vU8 (0 : UInt8), vU8 (0 : UInt8), vU8 (0 : UInt8), vU8 (0 : UInt8), vU8 (0 : UInt8), vI ((-1) : Int), vU16 (2048 : UInt16), v5]) : Option Res), (some (rowS u32S v8 delive1.1) : Option Res)], [Fact.sl RegionS v3 mem1.l]⟩ a w) [([], [8]), ([], []), ([6], [])] rfl (by kernel_rfl) ?_ (steps_cons ?_ (steps_cons ?_ (steps_cons ?_ (steps_nil)))) ?_
   ·intro a w hs
    exact hs.startF [32, 33, 4] [0, 1, 2, 3, 4] [0] rfl rfl rfl rfl
   ·intro L a w hv K Q hK
    have hs := hv
    refine wpOp_go rfl rfl hs (OpT_extract rfl rfl rfl rfl rfl) ?_
    rintro _ rfl a' w' hs'
    exact hK a' w' (hs'.putF (i := 3) rfl [0, 1, 2, 3, 4] [0] rfl rfl rfl rfl)
   ·intro L a w hv K Q hK
    have hs := hv
    refine wpOp_go rfl rfl hs (OpT_extract rfl rfl rfl rfl rfl) ?_
    rintro _ rfl a' w' hs'
    exact hK a' w' (hs'.putF (i := 4) rfl [0, 1, 2, 3, 4] [0] rfl rfl rfl rfl)
   ·intro L a w hv K Q hK
    have hs := hv
    refine wpOp_go rfl rfl hs (OpT_assign rfl rfl rfl rfl) ?_
    rintro _ rfl a' w' hs'
    exact hK a' w' (hs'.putF (i := 5) rfl [0, 1, 2, 3, 4] [0] rfl rfl rfl rfl)
   ·intro L a w hL hv
    rw [allTrue hL] at hv
    have hs := hv
    refine (show TA _ _ _ 9 ⟨[(1, some (.pointer (some ⟨b1, 0, none⟩))), (3, some (.pointer (some ⟨b2, 0, none⟩))), (33, some (vI delive1.2.1)), (4, some (v8))], [some (cellsR b1 78 [v3, v4]), some (rowsX u8S true v4 vs1 delive1.2.2 none), some (rowS u8S v5 [(1 : UInt8), (2 : UInt8), (3 : UInt8)]), some (cellsR b2 26 [vU8 (0 : UInt8), vU8 (0 : UInt8), vU8 (0 : UInt8), vU8 (0 : UInt8), vU8 (0 : UInt8), vU8 (0 : UInt8), vU8 (0 : UInt8), vU8 (0 : UInt8), vU8 (0 : UInt8), vU8 (0 : UInt8), vU8 (0 : UInt8), vU8 (0 : UInt8), vI ((-1) : Int), vU16 (2048 : UInt16), v5]), some (rowS u32S v8 delive1.1)], [Fact.sl RegionS v3 mem1.l]⟩ from ?_) a w (hs.wkS [1, 3, 33, 4] [0, 1, 2, 3, 4] [0] rfl rfl rfl rfl)
    clear hs hL
    refine TA_step htb (by kernel_rfl) rfl rfl (OpT_assign rfl rfl rfl rfl) ?_
    refine TA_end rfl ?_
    refine Tk_wkS (fr' := [(1, some (.pointer (some ⟨b1, 0, none⟩))), (3, some (.pointer (some ⟨b2, 0, none⟩))), (4, some (v8)), (5, some (vI delive1.2.1))]) (own' := [some (cellsR b1 78 [v3, v4]), some (rowsX u8S true v4 vs1 delive1.2.2 none), some (rowS u8S v5 [(1 : UInt8), (2 : UInt8), (3 : UInt8)]), some (cellsR b2 26 [vU8 (0 : UInt8), vU8 (0 : UInt8), vU8 (0 : UInt8), vU8 (0 : UInt8), vU8 (0 : UInt8), vU8 (0 : UInt8), vU8 (0 : UInt8), vU8 (0 : UInt8), vU8 (0 : UInt8), vU8 (0 : UInt8), vU8 (0 : UInt8), vU8 (0 : UInt8), vI ((-1) : Int), vU16 (2048 : UInt16), v5]), some (rowS u32S v8 delive1.1)]) (shr' := [Fact.sl RegionS v3 mem1.l]) [1, 3, 4, 5] [0, 1, 2, 3, 4] [0] rfl rfl rfl rfl ?_
    refine Tk_seq (Tk_region (Tops_step rfl (OpT_move rfl rfl rfl rfl) ?_))
    obtain ⟨read1, hx5, h⟩ := ob_e h
    refine Tops_exP rfl (OpT_callP [5, 6, 2, 3, 4, 7] (w_gmem_Mem_Read hx5) [0, 1] [0] rfl rfl rfl rfl rfl callee26 rfl rfl rfl rfl rfl) ?_
    rintro _ ⟨_, _, _, ⟨v9, rfl, rfl, rfl⟩, rfl⟩
    refine Tops_step rfl (OpT_move rfl rfl rfl rfl) ?_
    refine Tops_step rfl (OpT_extract rfl rfl rfl rfl rfl) ?_
    refine Tops_step rfl (OpT_extract rfl rfl rfl rfl rfl) ?_
    refine Tops_step rfl (OpT_assign rfl rfl rfl rfl) ?_
    refine Tops_step rfl (OpT_assign rfl rfl rfl rfl) ?_
    refine Tops_nil (Tk_wkS (fr' := [(1, some (.pointer (some ⟨b1, 0, none⟩))), (3, some (.pointer (some ⟨b2, 0, none⟩))), (4, some (v8)), (5, some (vI delive1.2.1)), (6, some (v9)), (7, some (vI read1.2))]) (own' := [some (cellsR b1 78 [v3, v4]), some (rowsX u8S true v4 vs1 delive1.2.2 none), some (rowS u8S v5 [(1 : UInt8), (2 : UInt8), (3 : UInt8)]), some (cellsR b2 26 [vU8 (0 : UInt8), vU8 (0 : UInt8), vU8 (0 : UInt8), vU8 (0 : UInt8), vU8 (0 : UInt8), vU8 (0 : UInt8), vU8 (0 : UInt8), vU8 (0 : UInt8), vU8 (0 : UInt8), vU8 (0 : UInt8), vU8 (0 : UInt8), vU8 (0 : UInt8), vI ((-1) : Int), vU16 (2048 : UInt16), v5]), some (rowS u32S v8 delive1.1), some (rowS u8S v9 read1.1)]) (shr' := [Fact.sl RegionS v3 mem1.l]) [1, 3, 4, 5, 6, 7] [0, 1, 2, 3, 4, 5] [0] rfl rfl rfl rfl ?_)
    refine Tk_seq (Tk_drawT (by kernel_rfl) ?_)
    refine TA_tb [0, 0, 2, 0, 15, 31, 63, 63, 127, 511] (by kernel_rfl) fun htb => ?_
    obtain ⟨rooms2, hx6, h⟩ := ob_e h
    refine TA_seg (lo := 0) (hi := 4) htb rfl rfl (by kernel_rfl) (fun c L a w => ∃ (v10 : Value), ∃ (v11 : Value), Sat c ⟨[(1, some (.pointer (some ⟨b1, 0, none⟩))), (3, some (.pointer (some ⟨b2, 0, none⟩))), (4, some (v8)), (5, some (vI delive1.2.1)), (6, some (v9)), (7, some (vI read1.2)), (40, bif L 0 then some (.pointer (some ⟨b1, 0, none⟩)) else none), (41, bif L 1 then some (v10) else none), (42, bif L 2 then some (v11) else none), (43, bif L 3 then some (.agg #[vU8 (0 : UInt8), vU8 (0 : UInt8), vU8 (0 : UInt8), vU8 (0 : UInt8), vU8 (0 : UInt8), vU8 (0 : UInt8), vU8 (0 : UInt8), vU8 (0 : UInt8), vU8 (0 : UInt8), vU8 (0 : UInt8), vU8 (0 : UInt8), vU8 (0 : UInt8), vI ((-1) : Int), vU16 (2048 : UInt16), v5]) else none)], [(some (cellsR b1 78 [v3, v4]) : Option Res), (some (rowsX u8S true v4 vs1 delive1.2.2 none) : Option Res), (some (rowS u8S v5 [(1 : UInt8), (2 : UInt8), (3 : UInt8)]) : Option Res), (some (cellsR b2 26 [vU8 (0 : UInt8), vU8 (0 : UInt8), vU8 (0 : UInt8), vU8 (0 : UInt8), vU8 (0 : UInt8), vU8 (0 : UInt8), vU8 (0 : UInt8), vU8 (0 : UInt8), vU8 (0 : UInt8), vU8 (0 : UInt8), vU8 (0 : UInt8), vU8 (0 : UInt8), vI ((-1) : Int), vU16 (2048 : UInt16), v5]) : Option Res), (some (rowS u32S v8 delive1.1) : Option Res), (some (rowS u8S v9 read1.1) : Option Res), (none : Option Res)], [Fact.sl RegionS v3 mem1.l, (bif L 1 then Fact.sl iS v10 [(12 : Int)] else Fact.tt), (bif L 2 then Fact.sl (Shape.slice SegS) v11 rooms2 else Fact.tt)]⟩ a w) [([], []), ([], [2]), ([1], []), ([], [])] rfl (by kernel_rfl) ?_ (steps_cons ?_ (steps_cons ?_ (steps_cons ?_ (steps_cons ?_ (steps_nil))))) ?_
    ·intro a w hs
     exact ⟨undef, undef, hs.startF [40, 41, 42, 43] [0, 1, 2, 3, 4, 5, 6] [0, 1, 2] rfl rfl rfl rfl⟩
    ·intro L a w hv K Q hK
     obtain ⟨v10, v11, hs⟩ := hv
     refine wpOp_go rfl rfl hs (OpT_move rfl rfl rfl rfl) ?_
     rintro _ rfl a' w' hs'
     exact hK a' w' ⟨v10, v11, hs'.putF (i := 6) rfl [0, 1, 2, 3, 4, 5, 6] [0, 1, 2] rfl rfl rfl rfl⟩
    ·intro L a w hv K Q hK
     obtain ⟨v10, v11, hs⟩ := hv
     refine wpOp_go rfl rfl hs (OpT_buildSlice (S := iS) (xs := [(12 : Int)]) (css := [[vI (12 : Int)]]) (cs := [vI (12 : Int)]) (e := 3) rfl rfl rfl rfl (bldF slF27 (by decide) (by kernel_rfl)) rfl rfl rfl rfl (rel_plainD (S := iS) (xs := [(12 : Int)]) (css := [[vI (12 : Int)]]) rfl rfl)) ?_
     rintro _ ⟨v10', rfl⟩ a' w' hs'
     replace hs' := hs'.ret (i := 7) rfl
     exact hK a' w' ⟨v10', v11, hs'.putF (i := 7) rfl [0, 1, 2, 3, 4, 5, 7] [0, 3, 2] rfl rfl rfl rfl⟩
    ·intro L a w hv K Q hK
     obtain ⟨v10, v11, hs⟩ := hv
     refine wpOp_go rfl rfl hs (OpT_call (ws_law25zrooms hx6) [] [1] rfl rfl rfl rfl rfl callee10 rfl rfl rfl rfl) ?_
     rintro _ ⟨v11', _, _, ⟨_, rfl, rfl, rfl⟩, rfl⟩ a' w' hs'
     exact hK a' w' ⟨v10, v11', hs'.putF (i := 8) rfl [0, 1, 2, 3, 4, 5, 6] [0, 1, 3] rfl rfl rfl rfl⟩
    ·intro L a w hv K Q hK
     obtain ⟨v10, v11, hs⟩ := hv
     refine wpOp_go rfl rfl hs (OpT_loadCA (vs := [vU8 (0 : UInt8), vU8 (0 : UInt8), vU8 (0 : UInt8), vU8 (0 : UInt8), vU8 (0 : UInt8), vU8 (0 : UInt8), vU8 (0 : UInt8), vU8 (0 : UInt8), vU8 (0 : UInt8), vU8 (0 : UInt8), vU8 (0 : UInt8), vU8 (0 : UInt8), vI ((-1) : Int), vU16 (2048 : UInt16), v5]) rfl rfl rfl rfl tyF26 (i := 3) rfl rfl rfl) ?_
     rintro _ rfl a' w' hs'
     exact hK a' w' ⟨v10, v11, hs'.putF (i := 9) rfl [0, 1, 2, 3, 4, 5, 6] [0, 1, 2] rfl rfl rfl rfl⟩
    ·intro L a w hL hv
     rw [allTrue hL] at hv
     obtain ⟨v10, v11, hs⟩ := hv
     refine (show TA _ _ _ 4 ⟨[(1, some (.pointer (some ⟨b1, 0, none⟩))), (3, some (.pointer (some ⟨b2, 0, none⟩))), (4, some (v8)), (5, some (vI delive1.2.1)), (6, some (v9)), (7, some (vI read1.2)), (40, some (.pointer (some ⟨b1, 0, none⟩))), (42, some (v11)), (43, some (.agg #[vU8 (0 : UInt8), vU8 (0 : UInt8), vU8 (0 : UInt8), vU8 (0 : UInt8), vU8 (0 : UInt8), vU8 (0 : UInt8), vU8 (0 : UInt8), vU8 (0 : UInt8), vU8 (0 : UInt8), vU8 (0 : UInt8), vU8 (0 : UInt8), vU8 (0 : UInt8), vI ((-1) : Int), vU16 (2048 : UInt16), v5]))], [some (cellsR b1 78 [v3, v4]), some (rowsX u8S true v4 vs1 delive1.2.2 none), some (rowS u8S v5 [(1 : UInt8), (2 : UInt8), (3 : UInt8)]), some (cellsR b2 26 [vU8 (0 : UInt8), vU8 (0 : UInt8), vU8 (0 : UInt8), vU8 (0 : UInt8), vU8 (0 : UInt8), vU8 (0 : UInt8), vU8 (0 : UInt8), vU8 (0 : UInt8), vU8 (0 : UInt8), vU8 (0 : UInt8), vU8 (0 : UInt8), vU8 (0 : UInt8), vI ((-1) : Int), vU16 (2048 : UInt16), v5]), some (rowS u32S v8 delive1.1), some (rowS u8S v9 read1.1)], [Fact.sl RegionS v3 mem1.l, Fact.sl (Shape.slice SegS) v11 rooms2]⟩ from ?_) a w (hs.wkS [1, 3, 4, 5, 6, 7, 40, 42, 43] [0, 1, 2, 3, 4, 5] [0, 2] rfl rfl rfl rfl)
     clear hs hL
     obtain ⟨delive2, hx7, h⟩ := ob_e h
     refine TA_exP htb (by kernel_rfl) rfl rfl (OpT_callB [2] [6, 7, 2, 3, 4, 5, 8] (w_net_Deliver hx7) [0, 1] rfl rfl rfl rfl rfl callee15 rfl rfl rfl rfl rfl rfl (bor_cons (bor_shr 0 rfl) (bor_cons (bor_shr 1 rfl) (bor_cons (bor_row 2 rfl rfl) bor_nil))) (by rintro _ _ _ ⟨_, rfl, rfl, rfl⟩; exact ⟨rfl, (ri_cons (ri_cells _ _ _) (ri_cons (ri_rows rfl _ _ _ _ _) (ri_cons (ri_row (S := u32S) rfl _ _) ri_nil)))⟩)) ?_
     rintro _ ⟨_, _, _, ⟨v12, rfl, rfl, rfl⟩, rfl⟩
     refine TA_step htb (by kernel_rfl) rfl rfl (OpT_move rfl rfl rfl rfl) ?_
     refine TA_wkS (fr' := [(1, some (.pointer (some ⟨b1, 0, none⟩))), (3, some (.pointer (some ⟨b2, 0, none⟩))), (4, some (v8)), (5, some (vI delive1.2.1)), (6, some (v9)), (7, some (vI read1.2)), (39, some (.tuple #[v12, vI delive2.2.1]))]) (own' := [some (cellsR b1 78 [v3, v4]), some (rowsX u8S true v4 vs1 delive2.2.2 none), some (rowS u8S v5 [(1 : UInt8), (2 : UInt8), (3 : UInt8)]), some (cellsR b2 26 [vU8 (0 : UInt8), vU8 (0 : UInt8), vU8 (0 : UInt8), vU8 (0 : UInt8), vU8 (0 : UInt8), vU8 (0 : UInt8), vU8 (0 : UInt8), vU8 (0 : UInt8), vU8 (0 : UInt8), vU8 (0 : UInt8), vU8 (0 : UInt8), vU8 (0 : UInt8), vI ((-1) : Int), vU16 (2048 : UInt16), v5]), some (rowS u32S v8 delive1.1), some (rowS u8S v9 read1.1), some (rowS u32S v12 delive2.1)]) (shr' := [Fact.sl RegionS v3 mem1.l]) [1, 3, 4, 5, 6, 7, 39] [0, 1, 2, 3, 4, 5, 6] [0] rfl rfl rfl rfl ?_
     refine TA_seg (lo := 6) (hi := 9) htb rfl rfl (by kernel_rfl) (fun c L a w => Sat c ⟨[(1, some (.pointer (some ⟨b1, 0, none⟩))), (3, some (.pointer (some ⟨b2, 0, none⟩))), (4, some (v8)), (5, some (vI delive1.2.1)), (6, some (v9)), (7, some (vI read1.2)), (39, some (.tuple #[v12, vI delive2.2.1])), (45, bif L 6 then some (v12) else none), (46, bif L 7 then some (vI delive2.2.1) else none), (8, bif L 8 then some (v12) else none)], [(some (cellsR b1 78 [v3, v4]) : Option Res), (some (rowsX u8S true v4 vs1 delive2.2.2 none) : Option Res), (some (rowS u8S v5 [(1 : UInt8), (2 : UInt8), (3 : UInt8)]) : Option Res), (some (cellsR b2 26 [vU8 (0 : UInt8), vU8 (0 : UInt8), vU8 (0 : UInt8), vU8 (0 : UInt8), vU8 (0 : UInt8), vU8 (0 : UInt8), vU8 (0 : UInt8), vU8 (0 : UInt8), vU8 (0 : UInt8), vU8 (0 : UInt8), vU8 (0 : UInt8), vU8 (0 : UInt8), vI ((-1) : Int), vU16 (2048 : UInt16), v5]) : Option Res), (some (rowS u32S v8 delive1.1) : Option Res), (some (rowS u8S v9 read1.1) : Option Res), (some (rowS u32S v12 delive2.1) : Option Res)], [Fact.sl RegionS v3 mem1.l]⟩ a w) [([], [8]), ([], []), ([6], [])] rfl (by kernel_rfl) ?_ (steps_cons ?_ (steps_cons ?_ (steps_cons ?_ (steps_nil)))) ?_
     ·intro a w hs
      exact hs.startF [45, 46, 8] [0, 1, 2, 3, 4, 5, 6] [0] rfl rfl rfl rfl
     ·intro L a w hv K Q hK
      have hs := hv
      refine wpOp_go rfl rfl hs (OpT_extract rfl rfl rfl rfl rfl) ?_
      rintro _ rfl a' w' hs'
      exact hK a' w' (hs'.putF (i := 7) rfl [0, 1, 2, 3, 4, 5, 6] [0] rfl rfl rfl rfl)
     ·intro L a w hv K Q hK
      have hs := hv
      refine wpOp_go rfl rfl hs (OpT_extract rfl rfl rfl rfl rfl) ?_
      rintro _ rfl a' w' hs'
      exact hK a' w' (hs'.putF (i := 8) rfl [0, 1, 2, 3, 4, 5, 6] [0] rfl rfl rfl rfl)
     ·intro L a w hv K Q hK
      have hs := hv
      refine wpOp_go rfl rfl hs (OpT_assign rfl rfl rfl rfl) ?_
      rintro _ rfl a' w' hs'
      exact hK a' w' (hs'.putF (i := 9) rfl [0, 1, 2, 3, 4, 5, 6] [0] rfl rfl rfl rfl)
     ·intro L a w hL hv
      rw [allTrue hL] at hv
      have hs := hv
      refine (show TA _ _ _ 9 ⟨[(1, some (.pointer (some ⟨b1, 0, none⟩))), (3, some (.pointer (some ⟨b2, 0, none⟩))), (4, some (v8)), (5, some (vI delive1.2.1)), (6, some (v9)), (7, some (vI read1.2)), (46, some (vI delive2.2.1))], [some (cellsR b1 78 [v3, v4]), some (rowsX u8S true v4 vs1 delive2.2.2 none), some (rowS u8S v5 [(1 : UInt8), (2 : UInt8), (3 : UInt8)]), some (cellsR b2 26 [vU8 (0 : UInt8), vU8 (0 : UInt8), vU8 (0 : UInt8), vU8 (0 : UInt8), vU8 (0 : UInt8), vU8 (0 : UInt8), vU8 (0 : UInt8), vU8 (0 : UInt8), vU8 (0 : UInt8), vU8 (0 : UInt8), vU8 (0 : UInt8), vU8 (0 : UInt8), vI ((-1) : Int), vU16 (2048 : UInt16), v5]), some (rowS u32S v8 delive1.1), some (rowS u8S v9 read1.1)], [Fact.sl RegionS v3 mem1.l]⟩ from ?_) a w (hs.wkS [1, 3, 4, 5, 6, 7, 46] [0, 1, 2, 3, 4, 5] [0] rfl rfl rfl rfl)
      clear hs hL
      refine TA_step htb (by kernel_rfl) rfl rfl (OpT_assign rfl rfl rfl rfl) ?_
      refine TA_end rfl ?_
      refine Tk_wkS (fr' := [(1, some (.pointer (some ⟨b1, 0, none⟩))), (3, some (.pointer (some ⟨b2, 0, none⟩))), (4, some (v8)), (5, some (vI delive1.2.1)), (6, some (v9)), (7, some (vI read1.2)), (9, some (vI delive2.2.1))]) (own' := [some (cellsR b1 78 [v3, v4]), some (rowsX u8S true v4 vs1 delive2.2.2 none), some (rowS u8S v5 [(1 : UInt8), (2 : UInt8), (3 : UInt8)]), some (cellsR b2 26 [vU8 (0 : UInt8), vU8 (0 : UInt8), vU8 (0 : UInt8), vU8 (0 : UInt8), vU8 (0 : UInt8), vU8 (0 : UInt8), vU8 (0 : UInt8), vU8 (0 : UInt8), vU8 (0 : UInt8), vU8 (0 : UInt8), vU8 (0 : UInt8), vU8 (0 : UInt8), vI ((-1) : Int), vU16 (2048 : UInt16), v5]), some (rowS u32S v8 delive1.1), some (rowS u8S v9 read1.1)]) (shr' := [Fact.sl RegionS v3 mem1.l]) [1, 3, 4, 5, 6, 7, 9] [0, 1, 2, 3, 4, 5] [0] rfl rfl rfl rfl ?_
      refine Tk_seq (Tk_region (Tops_step rfl (OpT_loadCA (vs := [vU8 (0 : UInt8), vU8 (0 : UInt8), vU8 (0 : UInt8), vU8 (0 : UInt8), vU8 (0 : UInt8), vU8 (0 : UInt8), vU8 (0 : UInt8), vU8 (0 : UInt8), vU8 (0 : UInt8), vU8 (0 : UInt8), vU8 (0 : UInt8), vU8 (0 : UInt8), vI ((-1) : Int), vU16 (2048 : UInt16), v5]) rfl rfl rfl rfl tyF26 (i := 3) rfl rfl rfl) ?_))
      refine Tops_nilfact (Shape.slice SegS) ?_
      obtain ⟨delive3, hx8, h⟩ := ob_e h
      refine Tops_exP rfl (OpT_callB [2] [0, 1, 2, 3, 4, 5, 6] (w_net_Delivern0 hx8) [] rfl rfl rfl rfl rfl callee15 rfl rfl rfl rfl rfl rfl (bor_cons (bor_shr 1 rfl) (bor_cons (bor_row 2 rfl rfl) bor_nil)) (by rintro _ _ _ ⟨_, rfl, rfl, rfl⟩; exact ⟨rfl, (ri_cons (ri_row (S := u32S) rfl _ _) ri_nil)⟩)) ?_
      rintro _ ⟨_, _, _, ⟨v13, rfl, rfl, rfl⟩, rfl⟩
      refine Tops_step rfl (OpT_move rfl rfl rfl rfl) ?_
      refine Tops_step rfl (OpT_extract rfl rfl rfl rfl rfl) ?_
      refine Tops_step rfl (OpT_extract rfl rfl rfl rfl rfl) ?_
      refine Tops_step rfl (OpT_assign rfl rfl rfl rfl) ?_
      refine Tops_step rfl (OpT_assign rfl rfl rfl rfl) ?_
      refine Tops_nil (Tk_wkS (fr' := [(1, some (.pointer (some ⟨b1, 0, none⟩))), (4, some (v8)), (5, some (vI delive1.2.1)), (6, some (v9)), (7, some (vI read1.2)), (9, some (vI delive2.2.1)), (11, some (vI delive3.2))]) (own' := [some (cellsR b1 78 [v3, v4]), some (rowsX u8S true v4 vs1 delive2.2.2 none), some (rowS u32S v8 delive1.1), some (rowS u8S v9 read1.1)]) (shr' := [Fact.sl RegionS v3 mem1.l]) [1, 4, 5, 6, 7, 9, 11] [0, 1, 4, 5] [0] rfl rfl rfl rfl ?_)
      refine Tk_seq (Tk_region (Tops_step rfl (OpT_move rfl rfl rfl rfl) ?_))
      refine Tops_step rfl (OpT_build (v := .agg #[vU64 (0 : UInt64), vU32 (11 : UInt32), vB false]) rfl rfl rfl rfl (bldV (by kernel_rfl))) ?_
      refine Tops_ex rfl (OpT_buildSlice (S := SegS) (xs := [(Seg.mk (0 : UInt64) (11 : UInt32) false)]) (css := [[vU64 (0 : UInt64), vU32 (11 : UInt32), vB false]]) (cs := [vU64 (0 : UInt64), vU32 (11 : UInt32), vB false]) (e := 57) rfl rfl rfl rfl (bldF slF58 (by decide) (by kernel_rfl)) rfl rfl rfl rfl (rel_plainD (S := SegS) (xs := [(Seg.mk (0 : UInt64) (11 : UInt32) false)]) (css := [[vU64 (0 : UInt64), vU32 (11 : UInt32), vB false]]) rfl rfl)) fun v14 => ?_
      obtain ⟨sent1, hx9, h⟩ := ob_e h
      refine Tops_exP rfl (OpT_callB [4] [5, 6, 2, 3, 4, 7] (w_net_Sent hx9) [0, 1] rfl rfl rfl rfl rfl callee20 rfl rfl rfl rfl rfl rfl (bor_cons (bor_shr 0 rfl) (bor_cons (bor_row 4 rfl rfl) bor_nil)) (by rintro _ _ _ ⟨_, rfl, rfl, rfl⟩; exact ⟨rfl, (ri_cons (ri_cells _ _ _) (ri_cons (ri_rows rfl _ _ _ _ _) (ri_cons (ri_row (S := u8S) rfl _ _) ri_nil)))⟩)) ?_
      rintro _ ⟨_, _, _, ⟨v15, rfl, rfl, rfl⟩, rfl⟩
      refine Tops_step rfl (OpT_move rfl rfl rfl rfl) ?_
      refine Tops_step rfl (OpT_extract rfl rfl rfl rfl rfl) ?_
      refine Tops_step rfl (OpT_extract rfl rfl rfl rfl rfl) ?_
      refine Tops_ex rfl (OpT_alloc rfl rfl rfl tyZ26) fun b3 => ?_
      refine Tops_step rfl (OpT_storeA1 (fun z0 => [vU8 sent1.1.Dst.a0, vU8 sent1.1.Dst.a1, vU8 sent1.1.Dst.a2, vU8 sent1.1.Dst.a3, vU8 sent1.1.Dst.a4, vU8 sent1.1.Dst.a5, vU8 sent1.1.Src.a0, vU8 sent1.1.Src.a1, vU8 sent1.1.Src.a2, vU8 sent1.1.Src.a3, vU8 sent1.1.Src.a4, vU8 sent1.1.Src.a5, vI sent1.1.Vlan, vU16 sent1.1.Type_, z0]) (cs' := [vU8 sent1.1.Dst.a0, vU8 sent1.1.Dst.a1, vU8 sent1.1.Dst.a2, vU8 sent1.1.Dst.a3, vU8 sent1.1.Dst.a4, vU8 sent1.1.Dst.a5, vU8 sent1.1.Src.a0, vU8 sent1.1.Src.a1, vU8 sent1.1.Src.a2, vU8 sent1.1.Src.a3, vU8 sent1.1.Src.a4, vU8 sent1.1.Src.a5, vI sent1.1.Vlan, vU16 sent1.1.Type_, v15]) rfl rfl rfl rfl tyF26 (i := 6) rfl (is_row (i := 5) rfl) (fun _ _ _ => rfl) rfl rfl rfl) ?_
      refine Tops_step rfl (OpT_assign rfl rfl rfl rfl) ?_
      refine Tops_nil (Tk_wkS (fr' := [(4, some (v8)), (5, some (vI delive1.2.1)), (6, some (v9)), (7, some (vI read1.2)), (9, some (vI delive2.2.1)), (11, some (vI delive3.2)), (13, some (vI sent1.2))]) (own' := [some (rowS u32S v8 delive1.1), some (rowS u8S v9 read1.1)]) (shr' := []) [4, 5, 6, 7, 9, 11, 13] [2, 3] [] rfl rfl rfl rfl ?_)
      refine Tk_seq (Tk_region (Tops_nilfact SegS ?_))
      obtain ⟨sent2, hx10, h⟩ := ob_e h
      refine Tops_exP rfl (OpT_call (w_net_Sentn0 hx10) [] [0] rfl rfl rfl rfl rfl callee20 rfl rfl rfl rfl) ?_
      rintro _ ⟨_, _, _, ⟨v16, rfl, rfl, rfl⟩, rfl⟩
      refine Tops_step rfl (OpT_move rfl rfl rfl rfl) ?_
      refine Tops_step rfl (OpT_extract rfl rfl rfl rfl rfl) ?_
      refine Tops_step rfl (OpT_extract rfl rfl rfl rfl rfl) ?_
      refine Tops_ex rfl (OpT_alloc rfl rfl rfl tyZ26) fun b4 => ?_
      refine Tops_step rfl (OpT_storeA1 (fun z0 => [vU8 sent2.1.Dst.a0, vU8 sent2.1.Dst.a1, vU8 sent2.1.Dst.a2, vU8 sent2.1.Dst.a3, vU8 sent2.1.Dst.a4, vU8 sent2.1.Dst.a5, vU8 sent2.1.Src.a0, vU8 sent2.1.Src.a1, vU8 sent2.1.Src.a2, vU8 sent2.1.Src.a3, vU8 sent2.1.Src.a4, vU8 sent2.1.Src.a5, vI sent2.1.Vlan, vU16 sent2.1.Type_, z0]) (cs' := [vU8 sent2.1.Dst.a0, vU8 sent2.1.Dst.a1, vU8 sent2.1.Dst.a2, vU8 sent2.1.Dst.a3, vU8 sent2.1.Dst.a4, vU8 sent2.1.Dst.a5, vU8 sent2.1.Src.a0, vU8 sent2.1.Src.a1, vU8 sent2.1.Src.a2, vU8 sent2.1.Src.a3, vU8 sent2.1.Src.a4, vU8 sent2.1.Src.a5, vI sent2.1.Vlan, vU16 sent2.1.Type_, v16]) rfl rfl rfl rfl tyF26 (i := 3) rfl (is_row (i := 2) rfl) (fun _ _ _ => rfl) rfl rfl rfl) ?_
      refine Tops_step rfl (OpT_assign rfl rfl rfl rfl) ?_
      refine Tops_nil (Tk_wkS (fr' := [(4, some (v8)), (5, some (vI delive1.2.1)), (6, some (v9)), (7, some (vI read1.2)), (9, some (vI delive2.2.1)), (11, some (vI delive3.2)), (13, some (vI sent1.2)), (15, some (vI sent2.2))]) (own' := [some (rowS u32S v8 delive1.1), some (rowS u8S v9 read1.1)]) (shr' := []) [4, 5, 6, 7, 9, 11, 13, 15] [0, 1] [] rfl rfl rfl rfl ?_)
      refine Tk_seq (Tk_region (Tops_step rfl (OpT_build (v := .agg #[vU8 (1 : UInt8), vU8 (2 : UInt8), vU8 (3 : UInt8), vU8 (4 : UInt8), vU8 (5 : UInt8), vU8 (6 : UInt8)]) rfl rfl rfl rfl (bldV (by kernel_rfl))) ?_))
      obtain ⟨config1, hx11, h⟩ := ob_e h
      refine Tops_exP rfl (OpT_call (w_net_Config hx11) [] [] rfl rfl rfl rfl rfl callee23 rfl rfl rfl rfl) ?_
      rintro _ ⟨v17, _, _, ⟨_, rfl, rfl, rfl⟩, rfl⟩
      refine Tops_step rfl (OpT_assign rfl rfl rfl rfl) ?_
      refine Tops_nil (Tk_wkS (fr' := [(4, some (v8)), (5, some (vI delive1.2.1)), (6, some (v9)), (7, some (vI read1.2)), (9, some (vI delive2.2.1)), (11, some (vI delive3.2)), (13, some (vI sent1.2)), (15, some (vI sent2.2)), (16, some (v17))]) (own' := [some (rowS u32S v8 delive1.1), some (rowS u8S v9 read1.1), some (rowS u8S v17 config1)]) (shr' := []) [4, 5, 6, 7, 9, 11, 13, 15, 16] [0, 1, 2] [] rfl rfl rfl rfl ?_)
      refine Tk_seq (Tk_region ?_)
      obtain ⟨lives1, hx12, h⟩ := ob_e h
      refine Tops_exP rfl (OpT_call (w_law25zlives hx12) [] [] rfl rfl rfl rfl rfl callee7 rfl rfl rfl rfl) ?_
      rintro _ ⟨_, _, _, ⟨rfl, rfl, rfl⟩, rfl⟩
      refine Tops_step rfl (OpT_move rfl rfl rfl rfl) ?_
      obtain ⟨hg2, h⟩ := chk_e h
      refine Tops_yes rfl rfl (congrArg (fun b => some (Value.bool b)) hg2) (OpT_move rfl rfl rfl rfl) ?_
      rintro _ rfl
      refine Tops_yes rfl rfl (congrArg (fun b => some (Value.bool b)) hg2) (OpT_bin rfl rfl rfl rfl rfl (bin_eql_i (a := delive1.2.1) (b := (0 : Int)))) ?_
      rintro _ rfl
      refine Tops_step rfl (OpT_pickT rfl rfl rfl (congrArg (fun b => some (Value.bool b)) hg2) rfl) ?_
      refine Tops_step rfl (OpT_move rfl rfl rfl rfl) ?_
      obtain ⟨hg3, h⟩ := chk_e h
      refine Tops_yes rfl rfl (congrArg (fun b => some (Value.bool b)) hg3) (OpT_move rfl rfl rfl rfl) ?_
      rintro _ rfl
      refine Tops_yes rfl rfl (congrArg (fun b => some (Value.bool b)) hg3) (OpT_buildSlice (S := u32S) (xs := [(12 : UInt32), (10 : UInt32), (7 : UInt32)]) (css := [[vU32 (12 : UInt32)], [vU32 (10 : UInt32)], [vU32 (7 : UInt32)]]) (cs := [vU32 (12 : UInt32), vU32 (10 : UInt32), vU32 (7 : UInt32)]) (e := 48) rfl rfl rfl rfl (bldF slF43 (by decide) (by kernel_rfl)) rfl rfl rfl rfl (rel_plainD (S := u32S) (xs := [(12 : UInt32), (10 : UInt32), (7 : UInt32)]) (css := [[vU32 (12 : UInt32)], [vU32 (10 : UInt32)], [vU32 (7 : UInt32)]]) rfl rfl)) ?_
      rintro _ ⟨v18, rfl⟩
      obtain ⟨words1, hx13, h⟩ := ob_e h
      refine Tops_yes rfl rfl (congrArg (fun b => some (Value.bool b)) hg3) (OpT_callB [0, 3] [0, 1, 2, 3] (w_kit_Words hx13) [] rfl rfl rfl rfl rfl callee27 rfl rfl rfl rfl rfl rfl (bor_cons (bor_row 0 rfl rfl) (bor_cons (bor_row 3 rfl rfl) bor_nil)) (by rintro _ _ _ ⟨rfl, rfl, rfl⟩; exact ⟨rfl, ri_nil⟩)) ?_
      rintro _ ⟨_, _, _, ⟨rfl, rfl, rfl⟩, rfl⟩
      refine Tops_step rfl (OpT_pickT rfl rfl rfl (congrArg (fun b => some (Value.bool b)) hg3) rfl) ?_
      refine Tops_step rfl (OpT_move rfl rfl rfl rfl) ?_
      obtain ⟨hg4, h⟩ := chk_e h
      refine Tops_yes rfl rfl (congrArg (fun b => some (Value.bool b)) hg4) (OpT_move rfl rfl rfl rfl) ?_
      rintro _ rfl
      refine Tops_yes rfl rfl (congrArg (fun b => some (Value.bool b)) hg4) (OpT_bin rfl rfl rfl rfl rfl (bin_eql_i (a := read1.2) (b := (0 : Int)))) ?_
      rintro _ rfl
      refine Tops_step rfl (OpT_pickT rfl rfl rfl (congrArg (fun b => some (Value.bool b)) hg4) rfl) ?_
      refine Tops_step rfl (OpT_move rfl rfl rfl rfl) ?_
      obtain ⟨hg5, h⟩ := chk_e h
      refine Tops_yes rfl rfl (congrArg (fun b => some (Value.bool b)) hg5) (OpT_move rfl rfl rfl rfl) ?_
      rintro _ rfl
      obtain ⟨y1, hx14, h⟩ := ob_e h
      refine Tops_yes rfl rfl (congrArg (fun b => some (Value.bool b)) hg5) (OpT_idxO rfl rfl rfl rfl rfl slF24 (i := 1) rfl hx14) ?_
      rintro _ rfl
      refine Tops_yes rfl rfl (congrArg (fun b => some (Value.bool b)) hg5) (OpT_loadO (S := u8S) rfl rfl rfl rfl rfl tyF5 (i := 1) rfl hx14 rfl rfl) ?_
      rintro _ rfl
      refine Tops_yes rfl rfl (congrArg (fun b => some (Value.bool b)) hg5) (OpT_bin rfl rfl rfl rfl rfl (bin_eql_u8 (a := y1) (b := (2 : UInt8)))) ?_
      rintro _ rfl
      refine Tops_step rfl (OpT_pickT rfl rfl rfl (congrArg (fun b => some (Value.bool b)) hg5) rfl) ?_
      refine Tops_step rfl (OpT_move rfl rfl rfl rfl) ?_
      obtain ⟨hg6, h⟩ := chk_e h
      refine Tops_yes rfl rfl (congrArg (fun b => some (Value.bool b)) hg6) (OpT_move rfl rfl rfl rfl) ?_
      rintro _ rfl
      obtain ⟨y2, hx15, h⟩ := ob_e h
      refine Tops_yes rfl rfl (congrArg (fun b => some (Value.bool b)) hg6) (OpT_idxO rfl rfl rfl rfl rfl slF24 (i := 1) rfl hx15) ?_
      rintro _ rfl
      refine Tops_yes rfl rfl (congrArg (fun b => some (Value.bool b)) hg6) (OpT_loadO (S := u8S) rfl rfl rfl rfl rfl tyF5 (i := 1) rfl hx15 rfl rfl) ?_
      rintro _ rfl
      refine Tops_yes rfl rfl (congrArg (fun b => some (Value.bool b)) hg6) (OpT_bin rfl rfl rfl rfl rfl (bin_eql_u8 (a := y2) (b := (3 : UInt8)))) ?_
      rintro _ rfl
      refine Tops_step rfl (OpT_pickT rfl rfl rfl (congrArg (fun b => some (Value.bool b)) hg6) rfl) ?_
      refine Tops_step rfl (OpT_move rfl rfl rfl rfl) ?_
      obtain ⟨hg7, h⟩ := chk_e h
      refine Tops_yes rfl rfl (congrArg (fun b => some (Value.bool b)) hg7) (OpT_move rfl rfl rfl rfl) ?_
      rintro _ rfl
      obtain ⟨y3, hx16, h⟩ := ob_e h
      refine Tops_yes rfl rfl (congrArg (fun b => some (Value.bool b)) hg7) (OpT_idxO rfl rfl rfl rfl rfl slF24 (i := 1) rfl hx16) ?_
      rintro _ rfl
      refine Tops_yes rfl rfl (congrArg (fun b => some (Value.bool b)) hg7) (OpT_loadO (S := u8S) rfl rfl rfl rfl rfl tyF5 (i := 1) rfl hx16 rfl rfl) ?_
      rintro _ rfl
      refine Tops_yes rfl rfl (congrArg (fun b => some (Value.bool b)) hg7) (OpT_bin rfl rfl rfl rfl rfl (bin_eql_u8 (a := y3) (b := (3 : UInt8)))) ?_
      rintro _ rfl
      refine Tops_step rfl (OpT_pickT rfl rfl rfl (congrArg (fun b => some (Value.bool b)) hg7) rfl) ?_
      refine Tops_step rfl (OpT_move rfl rfl rfl rfl) ?_
      obtain ⟨hg8, h⟩ := chk_e h
      refine Tops_yes rfl rfl (congrArg (fun b => some (Value.bool b)) hg8) (OpT_move rfl rfl rfl rfl) ?_
      rintro _ rfl
      refine Tops_yes rfl rfl (congrArg (fun b => some (Value.bool b)) hg8) (OpT_bin rfl rfl rfl rfl rfl (bin_eql_i (a := delive2.2.1) (b := (7 : Int)))) ?_
      rintro _ rfl
      refine Tops_step rfl (OpT_pickT rfl rfl rfl (congrArg (fun b => some (Value.bool b)) hg8) rfl) ?_
      refine Tops_step rfl (OpT_move rfl rfl rfl rfl) ?_
      obtain ⟨hg9, h⟩ := chk_e h
      refine Tops_yes rfl rfl (congrArg (fun b => some (Value.bool b)) hg9) (OpT_move rfl rfl rfl rfl) ?_
      rintro _ rfl
      refine Tops_yes rfl rfl (congrArg (fun b => some (Value.bool b)) hg9) (OpT_bin rfl rfl rfl rfl rfl (bin_eql_i (a := delive3.2) (b := (1 : Int)))) ?_
      rintro _ rfl
      refine Tops_step rfl (OpT_pickT rfl rfl rfl (congrArg (fun b => some (Value.bool b)) hg9) rfl) ?_
      refine Tops_step rfl (OpT_move rfl rfl rfl rfl) ?_
      obtain ⟨hg10, h⟩ := chk_e h
      refine Tops_yes rfl rfl (congrArg (fun b => some (Value.bool b)) hg10) (OpT_move rfl rfl rfl rfl) ?_
      rintro _ rfl
      refine Tops_yes rfl rfl (congrArg (fun b => some (Value.bool b)) hg10) (OpT_bin rfl rfl rfl rfl rfl (bin_eql_i (a := sent1.2) (b := (4 : Int)))) ?_
      rintro _ rfl
      refine Tops_step rfl (OpT_pickT rfl rfl rfl (congrArg (fun b => some (Value.bool b)) hg10) rfl) ?_
      refine Tops_step rfl (OpT_move rfl rfl rfl rfl) ?_
      obtain ⟨hg11, h⟩ := chk_e h
      refine Tops_yes rfl rfl (congrArg (fun b => some (Value.bool b)) hg11) (OpT_move rfl rfl rfl rfl) ?_
      rintro _ rfl
      refine Tops_yes rfl rfl (congrArg (fun b => some (Value.bool b)) hg11) (OpT_bin rfl rfl rfl rfl rfl (bin_eql_i (a := sent2.2) (b := (1 : Int)))) ?_
      rintro _ rfl
      refine Tops_step rfl (OpT_pickT rfl rfl rfl (congrArg (fun b => some (Value.bool b)) hg11) rfl) ?_
      refine Tops_step rfl (OpT_move rfl rfl rfl rfl) ?_
      obtain ⟨hg12, h⟩ := chk_e h
      refine Tops_yes rfl rfl (congrArg (fun b => some (Value.bool b)) hg12) (OpT_move rfl rfl rfl rfl) ?_
      rintro _ rfl
      refine Tops_yes rfl rfl (congrArg (fun b => some (Value.bool b)) hg12) (OpT_lenO rfl rfl rfl rfl Try.underlying24 (i := 2) rfl) ?_
      rintro _ rfl
      refine Tops_yes rfl rfl (congrArg (fun b => some (Value.bool b)) hg12) (OpT_bin rfl rfl rfl rfl rfl (bin_eql_i (a := len config1) (b := (8 : Int)))) ?_
      rintro _ rfl
      refine Tops_step rfl (OpT_pickT rfl rfl rfl (congrArg (fun b => some (Value.bool b)) hg12) rfl) ?_
      refine Tops_step rfl (OpT_move rfl rfl rfl rfl) ?_
      obtain ⟨hg13, h⟩ := chk_e h
      refine Tops_yes rfl rfl (congrArg (fun b => some (Value.bool b)) hg13) (OpT_move rfl rfl rfl rfl) ?_
      rintro _ rfl
      obtain ⟨mac1, hx17, h⟩ := ob_e h
      refine Tops_yes rfl rfl (congrArg (fun b => some (Value.bool b)) hg13) (OpT_callB [2] [0, 1, 2, 3] (w_net_Mac hx17) [] rfl rfl rfl rfl rfl callee24 rfl rfl rfl rfl rfl rfl (bor_cons (bor_row 2 rfl rfl) bor_nil) (by rintro _ _ _ ⟨rfl, rfl, rfl⟩; exact ⟨rfl, ri_nil⟩)) ?_
      rintro _ ⟨_, _, _, ⟨rfl, rfl, rfl⟩, rfl⟩
      refine Tops_yes rfl rfl (congrArg (fun b => some (Value.bool b)) hg13) (OpT_build (v := .agg #[vU8 (1 : UInt8), vU8 (2 : UInt8), vU8 (3 : UInt8), vU8 (4 : UInt8), vU8 (5 : UInt8), vU8 (6 : UInt8)]) rfl rfl rfl rfl (bldV (by kernel_rfl))) ?_
      rintro _ rfl
      refine Tops_yes rfl rfl (congrArg (fun b => some (Value.bool b)) hg13) (OpT_bin rfl rfl rfl rfl rfl (eqT22_eql mac1 (A6.mk (1 : UInt8) (2 : UInt8) (3 : UInt8) (4 : UInt8) (5 : UInt8) (6 : UInt8)))) ?_
      rintro _ rfl
      refine Tops_step rfl (OpT_pickT rfl rfl rfl (congrArg (fun b => some (Value.bool b)) hg13) rfl) ?_
      refine Tops_step rfl (OpT_move rfl rfl rfl rfl) ?_
      obtain ⟨hg14, h⟩ := chk_e h
      refine Tops_yes rfl rfl (congrArg (fun b => some (Value.bool b)) hg14) (OpT_move rfl rfl rfl rfl) ?_
      rintro _ rfl
      obtain ⟨up1, hx18, h⟩ := ob_e h
      refine Tops_yes rfl rfl (congrArg (fun b => some (Value.bool b)) hg14) (OpT_callB [2] [0, 1, 2, 3] (w_net_Up hx18) [] rfl rfl rfl rfl rfl callee25 rfl rfl rfl rfl rfl rfl (bor_cons (bor_row 2 rfl rfl) bor_nil) (by rintro _ _ _ ⟨rfl, rfl, rfl⟩; exact ⟨rfl, ri_nil⟩)) ?_
      rintro _ ⟨_, _, _, ⟨rfl, rfl, rfl⟩, rfl⟩
      refine Tops_step rfl (OpT_pickT rfl rfl rfl (congrArg (fun b => some (Value.bool b)) hg14) rfl) ?_
      refine Tops_step rfl (OpT_move rfl rfl rfl rfl) ?_
      obtain ⟨hg15, h⟩ := chk_e h
      refine Tops_nilfact u8S ?_
      obtain ⟨up2, hx19, h⟩ := ob_e h
      refine Tops_yes rfl rfl (congrArg (fun b => some (Value.bool b)) hg15) (OpT_call (w_net_Up hx19) [] [0] rfl rfl rfl rfl rfl callee25 rfl rfl rfl rfl) ?_
      rintro _ ⟨_, _, _, ⟨rfl, rfl, rfl⟩, rfl⟩
      refine Tops_yes rfl rfl (congrArg (fun b => some (Value.bool b)) hg15) (OpT_not rfl rfl rfl rfl) ?_
      rintro _ rfl
      refine Tops_step rfl (OpT_pickT rfl rfl rfl (congrArg (fun b => some (Value.bool b)) hg15) rfl) ?_
      refine Tops_step rfl (OpT_assign rfl rfl rfl rfl) ?_
      refine Tops_nil (Tk_wkS (fr' := [(0, some (vB (!up2)))]) (own' := []) (shr' := []) [0] [] [] rfl rfl rfl rfl ?_)
      obtain ⟨hg16, h⟩ := chk_e h
      exact Tk_retV rfl rfl (resA (vs := [.bool true]) rfl ⟨(congrArg (fun b => some (Value.bool b)) hg16), trivial⟩) [] [] rfl rfl rfl ⟨rfl, rfl, rfl⟩
end Go.Proofs.Ytdaijemhibbgeaa
