/- The law BuildCalls is walked: it returns what its plain words say. No condition. -/
import Derived.Test.YtihcimjfabdafaaWa3
namespace Go.Proofs.Ytihcimjfabdafaa
attribute [local irreducible] sub

set_option maxRecDepth 100000 in
set_option maxHeartbeats 4000000 in
theorem w_law09zBuildCalls {ids : List Int} {l : List Seg} {pp2 : Pos} {size : Int} {id : Int} {atp5 : UInt64} {np6 : Int} {vids1 : Value} {vl1 : Value}  (h : law09zBuildCalls ids l pp2 size id atp5 np6 = some true) :
  Ctr Try.prog 5 #[vids1, vl1, .agg #[vI pp2.At, vB pp2.Wrap], vI size, vI id, vU64 atp5, vI np6] [] [Fact.sl iS vids1 ids, Fact.sl SegS vl1 l]
   (fun rv own shr => rv = .bool true ∧ own = [] ∧ shr = []) := by
 unfold law09zBuildCalls at h
 refine Ctr.mk (args := [vids1, vl1, .agg #[vI pp2.At, vB pp2.Wrap], vI size, vI id, vU64 atp5, vI np6]) Try.func5 rfl rfl (fun R0 w0 B => ?_)
 refine Tk_seq (Tk_region (Tops_ex rfl (OpT_box rfl rfl rfl rfl) fun b1 => ?_))
 refine Tops_step rfl (OpT_assign rfl rfl rfl rfl) ?_
 refine Tops_nil (Tk_wkS (fr' := [(0, some (vids1)), (1, some (vl1)), (3, some (vI size)), (4, some (vI id)), (5, some (vU64 atp5)), (6, some (vI np6)), (9, some (.pointer (some ⟨b1, 0, none⟩)))]) (own' := [some (cellsR b1 33 [vI pp2.At, vB pp2.Wrap])]) (shr' := [Fact.sl iS vids1 ids, Fact.sl SegS vl1 l]) [0, 1, 3, 4, 5, 6, 9] [0] [0, 1] rfl rfl rfl rfl ?_)
 refine Tk_seq (Tk_seq (Tk_region ?_))
 obtain ⟨lives1, hx1, h⟩ := ob_e h
 refine Tops_exP rfl (OpT_call (w_law09zlives hx1) [] [] rfl rfl rfl rfl rfl callee13 rfl rfl rfl rfl) ?_
 rintro _ ⟨_, _, _, ⟨rfl, rfl, rfl⟩, rfl⟩
 refine Tops_step rfl (OpT_not rfl rfl rfl rfl) ?_
 refine Tops_nil (Tk_wkS (fr' := [(0, some (vids1)), (1, some (vl1)), (3, some (vI size)), (4, some (vI id)), (5, some (vU64 atp5)), (6, some (vI np6)), (9, some (.pointer (some ⟨b1, 0, none⟩))), (32, some (vB (!lives1)))]) (own' := [some (cellsR b1 33 [vI pp2.At, vB pp2.Wrap])]) (shr' := [Fact.sl iS vids1 ids, Fact.sl SegS vl1 l]) [0, 1, 3, 4, 5, 6, 9, 32] [0] [0, 1] rfl rfl rfl rfl ?_)
 obtain ⟨hg1, h⟩ := chk_e h
 replace hg1 := not_t hg1
 refine Tk_condF (congrArg (fun b => some (Value.bool b)) hg1) ?_
 refine Tk_skip (Tk_seq (Tk_seq (Tk_region (Tops_step rfl (OpT_move rfl rfl rfl rfl) ?_))))
 refine Tops_step rfl (OpT_lenS rfl rfl rfl rfl Try.underlying26 (i := 0) rfl) ?_
 refine Tops_step rfl (OpT_bin rfl rfl rfl rfl rfl (bin_gtr_i (a := len ids) (b := (100 : Int)))) ?_
 refine Tops_step rfl (OpT_move rfl rfl rfl rfl) ?_
 rcases Bool.eq_false_or_eq_true (decide ((len ids) > (100 : Int))) with hg2 | hg2
 ·replace h := br_t hg2 h
  refine Tops_no rfl rfl (congrArg (fun b => some (Value.bool b)) hg2) rfl rfl ?_
  refine Tops_no rfl rfl (congrArg (fun b => some (Value.bool b)) hg2) rfl rfl ?_
  refine Tops_no rfl rfl (congrArg (fun b => some (Value.bool b)) hg2) rfl rfl ?_
  refine Tops_step rfl (OpT_pickT rfl rfl rfl (congrArg (fun b => some (Value.bool b)) hg2) rfl) ?_
  refine Tops_nil (Tk_wkS (fr' := [(0, some (vids1)), (1, some (vl1)), (3, some (vI size)), (4, some (vI id)), (5, some (vU64 atp5)), (6, some (vI np6)), (9, some (.pointer (some ⟨b1, 0, none⟩))), (40, some (vB true))]) (own' := [some (cellsR b1 33 [vI pp2.At, vB pp2.Wrap])]) (shr' := [Fact.sl iS vids1 ids, Fact.sl SegS vl1 l]) [0, 1, 3, 4, 5, 6, 9, 40] [0] [0, 1] rfl rfl rfl rfl ?_)
  refine Tk_condT rfl ?_
  refine Tk_seq (Tk_region (Tops_step rfl (OpT_assign rfl rfl rfl rfl) ?_))
  refine Tops_nil (Tk_wkS (fr' := [(14, some (vB true))]) (own' := []) (shr' := []) [14] [] [] rfl rfl rfl rfl ?_)
  exact Tk_retV rfl rfl (resA (vs := [.bool true]) rfl ⟨rfl, trivial⟩) [] [] rfl rfl rfl ⟨rfl, rfl, rfl⟩
 ·replace h := br_f hg2 h
  refine Tops_yes rfl rfl (congrArg (fun b => some (Value.bool b)) hg2) (OpT_move rfl rfl rfl rfl) ?_
  rintro _ rfl
  refine Tops_yes rfl rfl (congrArg (fun b => some (Value.bool b)) hg2) (OpT_lenS rfl rfl rfl rfl Try.underlying27 (i := 1) rfl) ?_
  rintro _ rfl
  refine Tops_yes rfl rfl (congrArg (fun b => some (Value.bool b)) hg2) (OpT_bin rfl rfl rfl rfl rfl (bin_gtr_i (a := len l) (b := (100 : Int)))) ?_
  rintro _ rfl
  refine Tops_step rfl (OpT_pickF rfl rfl rfl (congrArg (fun b => some (Value.bool b)) hg2) rfl) ?_
  refine Tops_nil (Tk_wkS (fr' := [(0, some (vids1)), (1, some (vl1)), (3, some (vI size)), (4, some (vI id)), (5, some (vU64 atp5)), (6, some (vI np6)), (9, some (.pointer (some ⟨b1, 0, none⟩))), (40, some (vB (decide ((len l) > (100 : Int)))))]) (own' := [some (cellsR b1 33 [vI pp2.At, vB pp2.Wrap])]) (shr' := [Fact.sl iS vids1 ids, Fact.sl SegS vl1 l]) [0, 1, 3, 4, 5, 6, 9, 40] [0] [0, 1] rfl rfl rfl rfl ?_)
  rcases Bool.eq_false_or_eq_true (decide ((len l) > (100 : Int))) with hg3 | hg3
  ·replace h := br_t hg3 h
   refine Tk_condT (congrArg (fun b => some (Value.bool b)) hg3) ?_
   refine Tk_seq (Tk_region (Tops_step rfl (OpT_assign rfl rfl rfl rfl) ?_))
   refine Tops_nil (Tk_wkS (fr' := [(14, some (vB true))]) (own' := []) (shr' := []) [14] [] [] rfl rfl rfl rfl ?_)
   exact Tk_retV rfl rfl (resA (vs := [.bool true]) rfl ⟨rfl, trivial⟩) [] [] rfl rfl rfl ⟨rfl, rfl, rfl⟩
  ·replace h := br_f hg3 h
   refine Tk_condF (congrArg (fun b => some (Value.bool b)) hg3) ?_
   refine Tk_skip (Tk_seq (Tk_region (Tops_ex rfl (OpT_buildSlice (S := iS) (xs := ([] : List Int)) (css := []) (cs := []) (e := 3) rfl rfl rfl rfl (bldF slF26 (by decide) (by kernel_rfl)) rfl rfl rfl rfl (rel_plainD (S := iS) (xs := ([] : List Int)) (css := []) rfl rfl)) fun v1 => ?_)))
   refine Tops_step rfl (OpT_move rfl rfl rfl rfl) ?_
   obtain ⟨hc1, h⟩ := chk_e h
   refine Tops_ex rfl (OpT_append rfl rfl rfl rfl rfl slF26 (i := 1) (j := 0) rfl rfl hc1) fun v2 => ?_
   refine Tops_step rfl (OpT_move rfl rfl rfl rfl) ?_
   obtain ⟨segs1, hx2, h⟩ := ob_e h
   refine Tops_exP rfl (OpT_call (w_kit_Segs hx2) [] [1] rfl rfl rfl rfl rfl callee21 rfl rfl rfl rfl) ?_
   rintro _ ⟨v3, _, _, ⟨_, rfl, rfl, rfl⟩, rfl⟩
   obtain ⟨split1, hx3, h⟩ := ob_e h
   refine Tops_exP rfl (OpT_callB [1, 2] [0, 1, 2, 3] (w_build_Split hx3) [] rfl rfl rfl rfl rfl callee7 rfl rfl rfl rfl rfl rfl (bor_cons (bor_row 1 rfl rfl) (bor_cons (bor_row 2 rfl rfl) bor_nil)) (by rintro _ _ _ ⟨_, rfl, rfl, rfl⟩; exact ⟨rfl, (ri_cons (ri_row (S := PutS) rfl _ _) ri_nil)⟩)) ?_
   rintro _ ⟨_, _, _, ⟨v4, rfl, rfl, rfl⟩, rfl⟩
   refine Tops_step rfl (OpT_move rfl rfl rfl rfl) ?_
   refine Tops_step rfl (OpT_extract rfl rfl rfl rfl rfl) ?_
   refine Tops_step rfl (OpT_extract rfl rfl rfl rfl rfl) ?_
   refine Tops_step rfl (OpT_assign rfl rfl rfl rfl) ?_
   refine Tops_step rfl (OpT_assign rfl rfl rfl rfl) ?_
   refine Tops_nil (Tk_wkS (fr' := [(0, some (vids1)), (1, some (vl1)), (3, some (vI size)), (4, some (vI id)), (5, some (vU64 atp5)), (6, some (vI np6)), (9, some (.pointer (some ⟨b1, 0, none⟩))), (15, some (v4)), (16, some (vI split1.2))]) (own' := [some (cellsR b1 33 [vI pp2.At, vB pp2.Wrap]), some (rowS PutS v4 split1.1)]) (shr' := [Fact.sl iS vids1 ids, Fact.sl SegS vl1 l]) [0, 1, 3, 4, 5, 6, 9, 15, 16] [0, 3] [0, 1] rfl rfl rfl rfl ?_)
   refine Tk_seq (Tk_region (Tops_step rfl (OpT_move rfl rfl rfl rfl) ?_))
   refine Tops_step rfl (OpT_move rfl rfl rfl rfl) ?_
   obtain ⟨split2, hx4, h⟩ := ob_e h
   refine Tops_exP rfl (OpT_call (w_ref_Split09 hx4) [] [0, 1] rfl rfl rfl rfl rfl callee22 rfl rfl rfl rfl) ?_
   rintro _ ⟨_, _, _, ⟨v5, rfl, rfl, rfl⟩, rfl⟩
   refine Tops_step rfl (OpT_move rfl rfl rfl rfl) ?_
   refine Tops_step rfl (OpT_extract rfl rfl rfl rfl rfl) ?_
   refine Tops_step rfl (OpT_extract rfl rfl rfl rfl rfl) ?_
   refine Tops_step rfl (OpT_assign rfl rfl rfl rfl) ?_
   refine Tops_step rfl (OpT_assign rfl rfl rfl rfl) ?_
   refine Tops_nil (Tk_wkS (fr' := [(1, some (vl1)), (3, some (vI size)), (4, some (vI id)), (5, some (vU64 atp5)), (6, some (vI np6)), (9, some (.pointer (some ⟨b1, 0, none⟩))), (15, some (v4)), (16, some (vI split1.2)), (17, some (v5)), (18, some (vI split2.2))]) (own' := [some (cellsR b1 33 [vI pp2.At, vB pp2.Wrap]), some (rowS PutS v4 split1.1), some (rowS PutS v5 split2.1)]) (shr' := [Fact.sl SegS vl1 l]) [1, 3, 4, 5, 6, 9, 15, 16, 17, 18] [0, 1, 2] [1] rfl rfl rfl rfl ?_)
   refine Tk_seq (Tk_drawT (by kernel_rfl) ?_)
   refine TA_tb [0, 0, 0, 0, 8, 31, 63, 127, 127, 255, 1023] (by kernel_rfl) fun htb => ?_
   obtain ⟨segs2, hx5, h⟩ := ob_e h
   refine TA_seg (lo := 0) (hi := 5) htb rfl rfl (by kernel_rfl) (fun c L a w => ∃ (v6 : Value), Sat c ⟨[(1, some (vl1)), (3, some (vI size)), (4, some (vI id)), (5, some (vU64 atp5)), (6, some (vI np6)), (9, some (.pointer (some ⟨b1, 0, none⟩))), (15, some (v4)), (16, some (vI split1.2)), (17, some (v5)), (18, some (vI split2.2)), (57, bif L 0 then some (.agg #[vI pp2.At, vB pp2.Wrap]) else none), (58, bif L 1 then some (vI size) else none), (59, bif L 2 then some (vI id) else none), (60, bif L 3 then some (vl1) else none), (61, bif L 4 then some (v6) else none)], [(some (cellsR b1 33 [vI pp2.At, vB pp2.Wrap]) : Option Res), (some (rowS PutS v4 split1.1) : Option Res), (some (rowS PutS v5 split2.1) : Option Res)], [Fact.sl SegS vl1 l, (bif L 4 then Fact.sl SegS v6 segs2 else Fact.tt)]⟩ a w) [([], []), ([], []), ([], []), ([], [4]), ([3], [])] rfl (by kernel_rfl) ?_ (steps_cons ?_ (steps_cons ?_ (steps_cons ?_ (steps_cons ?_ (steps_cons ?_ (steps_nil)))))) ?_
   ·intro a w hs
    exact ⟨undef, hs.startF [57, 58, 59, 60, 61] [0, 1, 2] [0, 1] rfl rfl rfl rfl⟩
   ·intro L a w hv K Q hK
    obtain ⟨v6, hs⟩ := hv
    refine wpOp_go rfl rfl hs (OpT_loadCA (vs := [vI pp2.At, vB pp2.Wrap]) rfl rfl rfl rfl tyF33 (i := 0) rfl rfl rfl) ?_
    rintro _ rfl a' w' hs'
    exact hK a' w' ⟨v6, hs'.putF (i := 10) rfl [0, 1, 2] [0, 1] rfl rfl rfl rfl⟩
   ·intro L a w hv K Q hK
    obtain ⟨v6, hs⟩ := hv
    refine wpOp_go rfl rfl hs (OpT_move rfl rfl rfl rfl) ?_
    rintro _ rfl a' w' hs'
    exact hK a' w' ⟨v6, hs'.putF (i := 11) rfl [0, 1, 2] [0, 1] rfl rfl rfl rfl⟩
   ·intro L a w hv K Q hK
    obtain ⟨v6, hs⟩ := hv
    refine wpOp_go rfl rfl hs (OpT_move rfl rfl rfl rfl) ?_
    rintro _ rfl a' w' hs'
    exact hK a' w' ⟨v6, hs'.putF (i := 12) rfl [0, 1, 2] [0, 1] rfl rfl rfl rfl⟩
   ·intro L a w hv K Q hK
    obtain ⟨v6, hs⟩ := hv
    refine wpOp_go rfl rfl hs (OpT_move rfl rfl rfl rfl) ?_
    rintro _ rfl a' w' hs'
    exact hK a' w' ⟨v6, hs'.putF (i := 13) rfl [0, 1, 2] [0, 1] rfl rfl rfl rfl⟩
   ·intro L a w hv K Q hK
    obtain ⟨v6, hs⟩ := hv
    refine wpOp_go rfl rfl hs (OpT_call (ws_kit_Segs hx5) [] [0] rfl rfl rfl rfl rfl callee21 rfl rfl rfl rfl) ?_
    rintro _ ⟨v6', _, _, ⟨_, rfl, rfl, rfl⟩, rfl⟩ a' w' hs'
    exact hK a' w' ⟨v6', hs'.putF (i := 14) rfl [0, 1, 2] [0, 2] rfl rfl rfl rfl⟩
   ·intro L a w hL hv
    rw [allTrue hL] at hv
    obtain ⟨v6, hs⟩ := hv
    refine (show TA _ _ _ 5 ⟨[(1, some (vl1)), (3, some (vI size)), (4, some (vI id)), (5, some (vU64 atp5)), (6, some (vI np6)), (9, some (.pointer (some ⟨b1, 0, none⟩))), (15, some (v4)), (16, some (vI split1.2)), (17, some (v5)), (18, some (vI split2.2)), (57, some (.agg #[vI pp2.At, vB pp2.Wrap])), (58, some (vI size)), (59, some (vI id)), (61, some (v6))], [some (cellsR b1 33 [vI pp2.At, vB pp2.Wrap]), some (rowS PutS v4 split1.1), some (rowS PutS v5 split2.1)], [Fact.sl SegS vl1 l, Fact.sl SegS v6 segs2]⟩ from ?_) a w (hs.wkS [1, 3, 4, 5, 6, 9, 15, 16, 17, 18, 57, 58, 59, 61] [0, 1, 2] [0, 1] rfl rfl rfl rfl)
    clear hs hL
    obtain ⟨packed1, hx6, h⟩ := ob_e h
    refine TA_exP htb (by kernel_rfl) rfl rfl (OpT_call (w_build_Packed hx6) [] [1] rfl rfl rfl rfl rfl callee9 rfl rfl rfl rfl) ?_
    rintro _ ⟨_, _, _, ⟨v7, rfl, rfl, rfl⟩, rfl⟩
    refine TA_step htb (by kernel_rfl) rfl rfl (OpT_move rfl rfl rfl rfl) ?_
    refine TA_wkS (fr' := [(1, some (vl1)), (3, some (vI size)), (4, some (vI id)), (5, some (vU64 atp5)), (6, some (vI np6)), (9, some (.pointer (some ⟨b1, 0, none⟩))), (15, some (v4)), (16, some (vI split1.2)), (17, some (v5)), (18, some (vI split2.2)), (56, some (.tuple #[v7, vI packed1.2]))]) (own' := [some (cellsR b1 33 [vI pp2.At, vB pp2.Wrap]), some (rowS PutS v4 split1.1), some (rowS PutS v5 split2.1), some (rowS PutPackedS v7 packed1.1)]) (shr' := [Fact.sl SegS vl1 l]) [1, 3, 4, 5, 6, 9, 15, 16, 17, 18, 56] [0, 1, 2, 3] [0] rfl rfl rfl rfl ?_
    refine TA_seg (lo := 7) (hi := 10) htb rfl rfl (by kernel_rfl) (fun c L a w => Sat c ⟨[(1, some (vl1)), (3, some (vI size)), (4, some (vI id)), (5, some (vU64 atp5)), (6, some (vI np6)), (9, some (.pointer (some ⟨b1, 0, none⟩))), (15, some (v4)), (16, some (vI split1.2)), (17, some (v5)), (18, some (vI split2.2)), (56, some (.tuple #[v7, vI packed1.2])), (63, bif L 7 then some (v7) else none), (64, bif L 8 then some (vI packed1.2) else none), (19, bif L 9 then some (v7) else none)], [(some (cellsR b1 33 [vI pp2.At, vB pp2.Wrap]) : Option Res), (some (rowS PutS v4 split1.1) : Option Res), (some (rowS PutS v5 split2.1) : Option Res), (some (rowS PutPackedS v7 packed1.1) : Option Res)], [Fact.sl SegS vl1 l]⟩ a w) [([], [9]), ([], []), ([7], [])] rfl (by kernel_rfl) ?_ (steps_cons ?_ (steps_cons ?_ (steps_cons ?_ (steps_nil)))) ?_
    ·intro a w hs
     exact hs.startF [63, 64, 19] [0, 1, 2, 3] [0] rfl rfl rfl rfl
    ·intro L a w hv K Q hK
     have hs := hv
     refine wpOp_go rfl rfl hs (OpT_extract rfl rfl rfl rfl rfl) ?_
     rintro _ rfl a' w' hs'
     exact hK a' w' (hs'.putF (i := 11) rfl [0, 1, 2, 3] [0] rfl rfl rfl rfl)
    ·intro L a w hv K Q hK
     have hs := hv
     refine wpOp_go rfl rfl hs (OpT_extract rfl rfl rfl rfl rfl) ?_
     rintro _ rfl a' w' hs'
     exact hK a' w' (hs'.putF (i := 12) rfl [0, 1, 2, 3] [0] rfl rfl rfl rfl)
    ·intro L a w hv K Q hK
     have hs := hv
     refine wpOp_go rfl rfl hs (OpT_assign rfl rfl rfl rfl) ?_
     rintro _ rfl a' w' hs'
     exact hK a' w' (hs'.putF (i := 13) rfl [0, 1, 2, 3] [0] rfl rfl rfl rfl)
    ·intro L a w hL hv
     rw [allTrue hL] at hv
     have hs := hv
     refine (show TA _ _ _ 10 ⟨[(1, some (vl1)), (3, some (vI size)), (4, some (vI id)), (5, some (vU64 atp5)), (6, some (vI np6)), (9, some (.pointer (some ⟨b1, 0, none⟩))), (15, some (v4)), (16, some (vI split1.2)), (17, some (v5)), (18, some (vI split2.2)), (64, some (vI packed1.2)), (19, some (v7))], [some (cellsR b1 33 [vI pp2.At, vB pp2.Wrap]), some (rowS PutS v4 split1.1), some (rowS PutS v5 split2.1), some (rowS PutPackedS v7 packed1.1)], [Fact.sl SegS vl1 l]⟩ from ?_) a w (hs.wkS [1, 3, 4, 5, 6, 9, 15, 16, 17, 18, 64, 19] [0, 1, 2, 3] [0] rfl rfl rfl rfl)
     clear hs hL
     refine TA_step htb (by kernel_rfl) rfl rfl (OpT_assign rfl rfl rfl rfl) ?_
     refine TA_end rfl ?_
     refine Tk_wkS (fr' := [(1, some (vl1)), (3, some (vI size)), (4, some (vI id)), (5, some (vU64 atp5)), (6, some (vI np6)), (9, some (.pointer (some ⟨b1, 0, none⟩))), (15, some (v4)), (16, some (vI split1.2)), (17, some (v5)), (18, some (vI split2.2)), (19, some (v7)), (20, some (vI packed1.2))]) (own' := [some (cellsR b1 33 [vI pp2.At, vB pp2.Wrap]), some (rowS PutS v4 split1.1), some (rowS PutS v5 split2.1), some (rowS PutPackedS v7 packed1.1)]) (shr' := [Fact.sl SegS vl1 l]) [1, 3, 4, 5, 6, 9, 15, 16, 17, 18, 19, 20] [0, 1, 2, 3] [0] rfl rfl rfl rfl ?_
     refine Tk_seq (Tk_region (Tops_step rfl (OpT_loadCA (vs := [vI pp2.At, vB pp2.Wrap]) rfl rfl rfl rfl tyF33 (i := 0) rfl rfl rfl) ?_))
     refine Tops_step rfl (OpT_move rfl rfl rfl rfl) ?_
     refine Tops_step rfl (OpT_move rfl rfl rfl rfl) ?_
     refine Tops_step rfl (OpT_move rfl rfl rfl rfl) ?_
     obtain ⟨packed2, hx7, h⟩ := ob_e h
     refine Tops_exP rfl (OpT_call (w_ref_Packed09 hx7) [] [0] rfl rfl rfl rfl rfl callee23 rfl rfl rfl rfl) ?_
     rintro _ ⟨_, _, _, ⟨v8, rfl, rfl, rfl⟩, rfl⟩
     refine Tops_step rfl (OpT_move rfl rfl rfl rfl) ?_
     refine Tops_step rfl (OpT_extract rfl rfl rfl rfl rfl) ?_
     refine Tops_step rfl (OpT_extract rfl rfl rfl rfl rfl) ?_
     refine Tops_step rfl (OpT_assign rfl rfl rfl rfl) ?_
     refine Tops_step rfl (OpT_assign rfl rfl rfl rfl) ?_
     refine Tops_nil (Tk_wkS (fr' := [(1, some (vl1)), (3, some (vI size)), (4, some (vI id)), (5, some (vU64 atp5)), (6, some (vI np6)), (9, some (.pointer (some ⟨b1, 0, none⟩))), (15, some (v4)), (16, some (vI split1.2)), (17, some (v5)), (18, some (vI split2.2)), (19, some (v7)), (20, some (vI packed1.2)), (21, some (v8)), (22, some (vI packed2.2))]) (own' := [some (cellsR b1 33 [vI pp2.At, vB pp2.Wrap]), some (rowS PutS v4 split1.1), some (rowS PutS v5 split2.1), some (rowS PutPackedS v7 packed1.1), some (rowS PutPackedS v8 packed2.1)]) (shr' := [Fact.sl SegS vl1 l]) [1, 3, 4, 5, 6, 9, 15, 16, 17, 18, 19, 20, 21, 22] [0, 1, 2, 3, 4] [0] rfl rfl rfl rfl ?_)
     refine Tk_seq (Tk_seq (Tk_region (Tops_step rfl (OpT_move rfl rfl rfl rfl) ?_)))
     refine Tops_step rfl (OpT_move rfl rfl rfl rfl) ?_
     obtain ⟨samepu1, hx8, h⟩ := ob_e h
     refine Tops_exP rfl (OpT_callB [1, 2] [0, 1, 2, 3, 4] (w_kit_SamePuts hx8) [] rfl rfl rfl rfl rfl callee24 rfl rfl rfl rfl rfl rfl (bor_cons (bor_row 1 rfl rfl) (bor_cons (bor_row 2 rfl rfl) bor_nil)) (by rintro _ _ _ ⟨rfl, rfl, rfl⟩; exact ⟨rfl, ri_nil⟩)) ?_
     rintro _ ⟨_, _, _, ⟨rfl, rfl, rfl⟩, rfl⟩
     refine Tops_step rfl (OpT_not rfl rfl rfl rfl) ?_
     refine Tops_step rfl (OpT_move rfl rfl rfl rfl) ?_
     obtain ⟨hg4, h⟩ := chk_e h
     replace hg4 := not_t hg4
     refine Tops_yes rfl rfl (congrArg (fun b => some (Value.bool b)) hg4) (OpT_move rfl rfl rfl rfl) ?_
     rintro _ rfl
     refine Tops_yes rfl rfl (congrArg (fun b => some (Value.bool b)) hg4) (OpT_move rfl rfl rfl rfl) ?_
     rintro _ rfl
     refine Tops_yes rfl rfl (congrArg (fun b => some (Value.bool b)) hg4) (OpT_bin rfl rfl rfl rfl rfl (bin_neq_i (a := split1.2) (b := split2.2))) ?_
     rintro _ rfl
     refine Tops_step rfl (OpT_pickF rfl rfl rfl (congrArg (fun b => some (Value.bool b)) hg4) rfl) ?_
     refine Tops_step rfl (OpT_move rfl rfl rfl rfl) ?_
     obtain ⟨hg5, h⟩ := chk_e h
     replace hg5 := not_t hg5
     refine Tops_yes rfl rfl (congrArg (fun b => some (Value.bool b)) hg5) (OpT_move rfl rfl rfl rfl) ?_
     rintro _ rfl
     refine Tops_yes rfl rfl (congrArg (fun b => some (Value.bool b)) hg5) (OpT_move rfl rfl rfl rfl) ?_
     rintro _ rfl
     obtain ⟨samepa1, hx9, h⟩ := ob_e h
     refine Tops_yes rfl rfl (congrArg (fun b => some (Value.bool b)) hg5) (OpT_callB [3, 4] [0, 1, 2, 3, 4] (w_kit_SamePacked hx9) [] rfl rfl rfl rfl rfl callee25 rfl rfl rfl rfl rfl rfl (bor_cons (bor_row 3 rfl rfl) (bor_cons (bor_row 4 rfl rfl) bor_nil)) (by rintro _ _ _ ⟨rfl, rfl, rfl⟩; exact ⟨rfl, ri_nil⟩)) ?_
     rintro _ ⟨_, _, _, ⟨rfl, rfl, rfl⟩, rfl⟩
     refine Tops_yes rfl rfl (congrArg (fun b => some (Value.bool b)) hg5) (OpT_not rfl rfl rfl rfl) ?_
     rintro _ rfl
     refine Tops_step rfl (OpT_pickF rfl rfl rfl (congrArg (fun b => some (Value.bool b)) hg5) rfl) ?_
     refine Tops_step rfl (OpT_move rfl rfl rfl rfl) ?_
     obtain ⟨hg6, h⟩ := chk_e h
     replace hg6 := not_t hg6
     refine Tops_yes rfl rfl (congrArg (fun b => some (Value.bool b)) hg6) (OpT_move rfl rfl rfl rfl) ?_
     rintro _ rfl
     refine Tops_yes rfl rfl (congrArg (fun b => some (Value.bool b)) hg6) (OpT_move rfl rfl rfl rfl) ?_
     rintro _ rfl
     refine Tops_yes rfl rfl (congrArg (fun b => some (Value.bool b)) hg6) (OpT_bin rfl rfl rfl rfl rfl (bin_neq_i (a := packed1.2) (b := packed2.2))) ?_
     rintro _ rfl
     refine Tops_step rfl (OpT_pickF rfl rfl rfl (congrArg (fun b => some (Value.bool b)) hg6) rfl) ?_
     refine Tops_nil (Tk_wkS (fr' := [(1, some (vl1)), (3, some (vI size)), (4, some (vI id)), (5, some (vU64 atp5)), (6, some (vI np6)), (9, some (.pointer (some ⟨b1, 0, none⟩))), (92, some (vB (packed1.2 != packed2.2)))]) (own' := [some (cellsR b1 33 [vI pp2.At, vB pp2.Wrap])]) (shr' := [Fact.sl SegS vl1 l]) [1, 3, 4, 5, 6, 9, 92] [0] [0] rfl rfl rfl rfl ?_)
     obtain ⟨hg7, h⟩ := chk_e h
     replace hg7 := not_t hg7
     refine Tk_condF (congrArg (fun b => some (Value.bool b)) hg7) ?_
     refine Tk_skip (Tk_seq (Tk_region (Tops_step rfl (OpT_move rfl rfl rfl rfl) ?_)))
     obtain ⟨splitt1, hx10, h⟩ := ob_e h
     refine Tops_exP rfl (OpT_call (w_build_SplitTable hx10) [] [0] rfl rfl rfl rfl rfl callee12 rfl rfl rfl rfl) ?_
     rintro _ ⟨_, _, _, ⟨v9, rfl, rfl, rfl⟩, rfl⟩
     refine Tops_step rfl (OpT_move rfl rfl rfl rfl) ?_
     refine Tops_step rfl (OpT_extract rfl rfl rfl rfl rfl) ?_
     refine Tops_step rfl (OpT_extract rfl rfl rfl rfl rfl) ?_
     refine Tops_step rfl (OpT_assign rfl rfl rfl rfl) ?_
     refine Tops_step rfl (OpT_assign rfl rfl rfl rfl) ?_
     refine Tops_nil (Tk_wkS (fr' := [(1, some (vl1)), (3, some (vI size)), (4, some (vI id)), (5, some (vU64 atp5)), (6, some (vI np6)), (9, some (.pointer (some ⟨b1, 0, none⟩))), (23, some (v9)), (16, some (vI splitt1.2))]) (own' := [some (cellsR b1 33 [vI pp2.At, vB pp2.Wrap]), some (rowS u8S v9 splitt1.1)]) (shr' := [Fact.sl SegS vl1 l]) [1, 3, 4, 5, 6, 9, 23, 16] [0, 1] [0] rfl rfl rfl rfl ?_)
     refine Tk_seq (Tk_region (Tops_step rfl (OpT_move rfl rfl rfl rfl) ?_))
     obtain ⟨splitt2, hx11, h⟩ := ob_e h
     refine Tops_exP rfl (OpT_call (w_ref_SplitTable09 hx11) [] [0] rfl rfl rfl rfl rfl callee26 rfl rfl rfl rfl) ?_
     rintro _ ⟨_, _, _, ⟨v10, rfl, rfl, rfl⟩, rfl⟩
     refine Tops_step rfl (OpT_move rfl rfl rfl rfl) ?_
     refine Tops_step rfl (OpT_extract rfl rfl rfl rfl rfl) ?_
     refine Tops_step rfl (OpT_extract rfl rfl rfl rfl rfl) ?_
     refine Tops_step rfl (OpT_assign rfl rfl rfl rfl) ?_
     refine Tops_step rfl (OpT_assign rfl rfl rfl rfl) ?_
     refine Tops_nil (Tk_wkS (fr' := [(1, some (vl1)), (3, some (vI size)), (4, some (vI id)), (5, some (vU64 atp5)), (6, some (vI np6)), (9, some (.pointer (some ⟨b1, 0, none⟩))), (23, some (v9)), (16, some (vI splitt1.2)), (24, some (v10)), (18, some (vI splitt2.2))]) (own' := [some (cellsR b1 33 [vI pp2.At, vB pp2.Wrap]), some (rowS u8S v9 splitt1.1), some (rowS u8S v10 splitt2.1)]) (shr' := [Fact.sl SegS vl1 l]) [1, 3, 4, 5, 6, 9, 23, 16, 24, 18] [0, 1, 2] [0] rfl rfl rfl rfl ?_)
     refine Tk_seq (Tk_region (Tops_step rfl (OpT_move rfl rfl rfl rfl) ?_))
     obtain ⟨packed3, hx12, h⟩ := ob_e h
     refine Tops_exP rfl (OpT_call (w_build_PackedTable hx12) [] [0] rfl rfl rfl rfl rfl callee18 rfl rfl rfl rfl) ?_
     rintro _ ⟨_, _, _, ⟨v11, rfl, rfl, rfl⟩, rfl⟩
     refine Tops_step rfl (OpT_move rfl rfl rfl rfl) ?_
     refine Tops_step rfl (OpT_extract rfl rfl rfl rfl rfl) ?_
     refine Tops_step rfl (OpT_extract rfl rfl rfl rfl rfl) ?_
     refine Tops_step rfl (OpT_assign rfl rfl rfl rfl) ?_
     refine Tops_step rfl (OpT_assign rfl rfl rfl rfl) ?_
     refine Tops_nil (Tk_wkS (fr' := [(1, some (vl1)), (3, some (vI size)), (4, some (vI id)), (5, some (vU64 atp5)), (6, some (vI np6)), (9, some (.pointer (some ⟨b1, 0, none⟩))), (23, some (v9)), (16, some (vI splitt1.2)), (24, some (v10)), (18, some (vI splitt2.2)), (25, some (v11)), (20, some (vI packed3.2))]) (own' := [some (cellsR b1 33 [vI pp2.At, vB pp2.Wrap]), some (rowS u8S v9 splitt1.1), some (rowS u8S v10 splitt2.1), some (rowS u8S v11 packed3.1)]) (shr' := [Fact.sl SegS vl1 l]) [1, 3, 4, 5, 6, 9, 23, 16, 24, 18, 25, 20] [0, 1, 2, 3] [0] rfl rfl rfl rfl ?_)
     refine Tk_seq (Tk_region (Tops_step rfl (OpT_move rfl rfl rfl rfl) ?_))
     obtain ⟨packed4, hx13, h⟩ := ob_e h
     refine Tops_exP rfl (OpT_call (w_ref_PackedTable09 hx13) [] [0] rfl rfl rfl rfl rfl callee27 rfl rfl rfl rfl) ?_
     rintro _ ⟨_, _, _, ⟨v12, rfl, rfl, rfl⟩, rfl⟩
     refine Tops_step rfl (OpT_move rfl rfl rfl rfl) ?_
     refine Tops_step rfl (OpT_extract rfl rfl rfl rfl rfl) ?_
     refine Tops_step rfl (OpT_extract rfl rfl rfl rfl rfl) ?_
     refine Tops_step rfl (OpT_assign rfl rfl rfl rfl) ?_
     refine Tops_step rfl (OpT_assign rfl rfl rfl rfl) ?_
     refine Tops_nil (Tk_wkS (fr' := [(1, some (vl1)), (3, some (vI size)), (4, some (vI id)), (5, some (vU64 atp5)), (6, some (vI np6)), (9, some (.pointer (some ⟨b1, 0, none⟩))), (23, some (v9)), (16, some (vI splitt1.2)), (24, some (v10)), (18, some (vI splitt2.2)), (25, some (v11)), (20, some (vI packed3.2)), (26, some (v12)), (22, some (vI packed4.2))]) (own' := [some (cellsR b1 33 [vI pp2.At, vB pp2.Wrap]), some (rowS u8S v9 splitt1.1), some (rowS u8S v10 splitt2.1), some (rowS u8S v11 packed3.1), some (rowS u8S v12 packed4.1)]) (shr' := [Fact.sl SegS vl1 l]) [1, 3, 4, 5, 6, 9, 23, 16, 24, 18, 25, 20, 26, 22] [0, 1, 2, 3, 4] [0] rfl rfl rfl rfl ?_)
     refine Tk_seq (Tk_seq (Tk_region (Tops_step rfl (OpT_move rfl rfl rfl rfl) ?_)))
     refine Tops_retire (i := 1) rfl ?_
     refine Tops_step rfl (OpT_strS rfl rfl rfl rfl Try.underlying49 Try.underlying5 Try.underlying9 (i := 1) rfl) ?_
     refine Tops_step rfl (OpT_move rfl rfl rfl rfl) ?_
     refine Tops_retire (i := 2) rfl ?_
     refine Tops_step rfl (OpT_strS rfl rfl rfl rfl Try.underlying49 Try.underlying5 Try.underlying9 (i := 2) rfl) ?_
     refine Tops_step rfl (OpT_bin rfl rfl rfl rfl rfl (bin_neq_s (a := splitt1.1) (b := splitt2.1))) ?_
     refine Tops_step rfl (OpT_move rfl rfl rfl rfl) ?_
     obtain ⟨hg8, h⟩ := chk_e h
     replace hg8 := not_t hg8
     refine Tops_yes rfl rfl (congrArg (fun b => some (Value.bool b)) hg8) (OpT_move rfl rfl rfl rfl) ?_
     rintro _ rfl
     refine Tops_yes rfl rfl (congrArg (fun b => some (Value.bool b)) hg8) (OpT_move rfl rfl rfl rfl) ?_
     rintro _ rfl
     refine Tops_yes rfl rfl (congrArg (fun b => some (Value.bool b)) hg8) (OpT_bin rfl rfl rfl rfl rfl (bin_neq_i (a := splitt1.2) (b := splitt2.2))) ?_
     rintro _ rfl
     refine Tops_step rfl (OpT_pickF rfl rfl rfl (congrArg (fun b => some (Value.bool b)) hg8) rfl) ?_
     refine Tops_step rfl (OpT_move rfl rfl rfl rfl) ?_
     obtain ⟨hg9, h⟩ := chk_e h
     replace hg9 := not_t hg9
     refine Tops_yes rfl rfl (congrArg (fun b => some (Value.bool b)) hg9) (OpT_move rfl rfl rfl rfl) ?_
     rintro _ rfl
     refine Tops_retire (i := 3) rfl ?_
     refine Tops_yes rfl rfl (congrArg (fun b => some (Value.bool b)) hg9) (OpT_strS rfl rfl rfl rfl Try.underlying49 Try.underlying5 Try.underlying9 (i := 3) rfl) ?_
     rintro _ rfl
     refine Tops_yes rfl rfl (congrArg (fun b => some (Value.bool b)) hg9) (OpT_move rfl rfl rfl rfl) ?_
     rintro _ rfl
     refine Tops_retire (i := 4) rfl ?_
     refine Tops_yes rfl rfl (congrArg (fun b => some (Value.bool b)) hg9) (OpT_strS rfl rfl rfl rfl Try.underlying49 Try.underlying5 Try.underlying9 (i := 4) rfl) ?_
     rintro _ rfl
     refine Tops_yes rfl rfl (congrArg (fun b => some (Value.bool b)) hg9) (OpT_bin rfl rfl rfl rfl rfl (bin_neq_s (a := packed3.1) (b := packed4.1))) ?_
     rintro _ rfl
     refine Tops_step rfl (OpT_pickF rfl rfl rfl (congrArg (fun b => some (Value.bool b)) hg9) rfl) ?_
     refine Tops_step rfl (OpT_move rfl rfl rfl rfl) ?_
     obtain ⟨hg10, h⟩ := chk_e h
     replace hg10 := not_t hg10
     refine Tops_yes rfl rfl (congrArg (fun b => some (Value.bool b)) hg10) (OpT_move rfl rfl rfl rfl) ?_
     rintro _ rfl
     refine Tops_yes rfl rfl (congrArg (fun b => some (Value.bool b)) hg10) (OpT_move rfl rfl rfl rfl) ?_
     rintro _ rfl
     refine Tops_yes rfl rfl (congrArg (fun b => some (Value.bool b)) hg10) (OpT_bin rfl rfl rfl rfl rfl (bin_neq_i (a := packed3.2) (b := packed4.2))) ?_
     rintro _ rfl
     refine Tops_step rfl (OpT_pickF rfl rfl rfl (congrArg (fun b => some (Value.bool b)) hg10) rfl) ?_
     refine Tops_nil (Tk_wkS (fr' := [(1, some (vl1)), (3, some (vI size)), (4, some (vI id)), (5, some (vU64 atp5)), (6, some (vI np6)), (9, some (.pointer (some ⟨b1, 0, none⟩))), (134, some (vB (packed3.2 != packed4.2)))]) (own' := [some (cellsR b1 33 [vI pp2.At, vB pp2.Wrap])]) (shr' := [Fact.sl SegS vl1 l]) [1, 3, 4, 5, 6, 9, 134] [0] [0] rfl rfl rfl rfl ?_)
     obtain ⟨hg11, h⟩ := chk_e h
     replace hg11 := not_t hg11
     refine Tk_condF (congrArg (fun b => some (Value.bool b)) hg11) ?_
     refine Tk_skip (Tk_seq (Tk_region (Tops_step rfl (OpT_move rfl rfl rfl rfl) ?_)))
     refine Tops_step rfl (OpT_move rfl rfl rfl rfl) ?_
     refine Tops_step rfl (OpT_move rfl rfl rfl rfl) ?_
     obtain ⟨splito1, hx14, h⟩ := ob_e h
     refine Tops_exP rfl (OpT_call (w_build_SplitOne hx14) [] [] rfl rfl rfl rfl rfl callee10 rfl rfl rfl rfl) ?_
     rintro _ ⟨_, _, _, ⟨rfl, rfl, rfl⟩, rfl⟩
     refine Tops_step rfl (OpT_move rfl rfl rfl rfl) ?_
     refine Tops_step rfl (OpT_extract rfl rfl rfl rfl rfl) ?_
     refine Tops_step rfl (OpT_extract rfl rfl rfl rfl rfl) ?_
     refine Tops_ex rfl (OpT_alloc rfl rfl rfl tyZ40) fun b2 => ?_
     refine Tops_step rfl (OpT_storeC (cs' := [vI splito1.1.At, vU64 splito1.1.Desc.Addr, vU32 splito1.1.Desc.Len, vU16 splito1.1.Desc.Flags, vU16 splito1.1.Desc.Next]) rfl rfl rfl rfl tyF40 (i := 1) rfl rfl rfl (one_of rfl) rfl) ?_
     refine Tops_step rfl (OpT_assign rfl rfl rfl rfl) ?_
     refine Tops_nil (Tk_wkS (fr' := [(1, some (vl1)), (3, some (vI size)), (4, some (vI id)), (5, some (vU64 atp5)), (6, some (vI np6)), (9, some (.pointer (some ⟨b1, 0, none⟩))), (27, some (.pointer (some ⟨b2, 0, none⟩))), (16, some (vI splito1.2))]) (own' := [some (cellsR b1 33 [vI pp2.At, vB pp2.Wrap]), some (cellsR b2 40 [vI splito1.1.At, vU64 splito1.1.Desc.Addr, vU32 splito1.1.Desc.Len, vU16 splito1.1.Desc.Flags, vU16 splito1.1.Desc.Next])]) (shr' := [Fact.sl SegS vl1 l]) [1, 3, 4, 5, 6, 9, 27, 16] [0, 1] [0] rfl rfl rfl rfl ?_)
     refine Tk_seq (Tk_region (Tops_step rfl (OpT_move rfl rfl rfl rfl) ?_))
     refine Tops_step rfl (OpT_move rfl rfl rfl rfl) ?_
     refine Tops_step rfl (OpT_move rfl rfl rfl rfl) ?_
     obtain ⟨splito2, hx15, h⟩ := ob_e h
     refine Tops_exP rfl (OpT_call (w_ref_SplitOne09 hx15) [] [] rfl rfl rfl rfl rfl callee28 rfl rfl rfl rfl) ?_
     rintro _ ⟨_, _, _, ⟨rfl, rfl, rfl⟩, rfl⟩
     refine Tops_step rfl (OpT_move rfl rfl rfl rfl) ?_
     refine Tops_step rfl (OpT_extract rfl rfl rfl rfl rfl) ?_
     refine Tops_step rfl (OpT_extract rfl rfl rfl rfl rfl) ?_
     refine Tops_ex rfl (OpT_alloc rfl rfl rfl tyZ40) fun b3 => ?_
     refine Tops_step rfl (OpT_storeC (cs' := [vI splito2.1.At, vU64 splito2.1.Desc.Addr, vU32 splito2.1.Desc.Len, vU16 splito2.1.Desc.Flags, vU16 splito2.1.Desc.Next]) rfl rfl rfl rfl tyF40 (i := 2) rfl rfl rfl (one_of rfl) rfl) ?_
     refine Tops_step rfl (OpT_assign rfl rfl rfl rfl) ?_
     refine Tops_nil (Tk_wkS (fr' := [(1, some (vl1)), (3, some (vI size)), (4, some (vI id)), (5, some (vU64 atp5)), (6, some (vI np6)), (9, some (.pointer (some ⟨b1, 0, none⟩))), (27, some (.pointer (some ⟨b2, 0, none⟩))), (16, some (vI splito1.2)), (28, some (.pointer (some ⟨b3, 0, none⟩))), (18, some (vI splito2.2))]) (own' := [some (cellsR b1 33 [vI pp2.At, vB pp2.Wrap]), some (cellsR b2 40 [vI splito1.1.At, vU64 splito1.1.Desc.Addr, vU32 splito1.1.Desc.Len, vU16 splito1.1.Desc.Flags, vU16 splito1.1.Desc.Next]), some (cellsR b3 40 [vI splito2.1.At, vU64 splito2.1.Desc.Addr, vU32 splito2.1.Desc.Len, vU16 splito2.1.Desc.Flags, vU16 splito2.1.Desc.Next])]) (shr' := [Fact.sl SegS vl1 l]) [1, 3, 4, 5, 6, 9, 27, 16, 28, 18] [0, 1, 2] [0] rfl rfl rfl rfl ?_)
     refine Tk_seq (Tk_region (Tops_step rfl (OpT_loadCA (vs := [vI pp2.At, vB pp2.Wrap]) rfl rfl rfl rfl tyF33 (i := 0) rfl rfl rfl) ?_))
     refine Tops_step rfl (OpT_move rfl rfl rfl rfl) ?_
     refine Tops_step rfl (OpT_move rfl rfl rfl rfl) ?_
     refine Tops_step rfl (OpT_move rfl rfl rfl rfl) ?_
     refine Tops_step rfl (OpT_move rfl rfl rfl rfl) ?_
     obtain ⟨packed5, hx16, h⟩ := ob_e h
     refine Tops_exP rfl (OpT_call (w_build_PackedOne hx16) [] [] rfl rfl rfl rfl rfl callee11 rfl rfl rfl rfl) ?_
     rintro _ ⟨_, _, _, ⟨rfl, rfl, rfl⟩, rfl⟩
     refine Tops_step rfl (OpT_move rfl rfl rfl rfl) ?_
     refine Tops_step rfl (OpT_extract rfl rfl rfl rfl rfl) ?_
     refine Tops_step rfl (OpT_extract rfl rfl rfl rfl rfl) ?_
     refine Tops_ex rfl (OpT_alloc rfl rfl rfl tyZ46) fun b4 => ?_
     refine Tops_step rfl (OpT_storeC (cs' := [vI packed5.1.At, vU64 packed5.1.Desc.Addr, vU32 packed5.1.Desc.Len, vU16 packed5.1.Desc.ID, vU16 packed5.1.Desc.Flags]) rfl rfl rfl rfl tyF46 (i := 3) rfl rfl rfl (one_of rfl) rfl) ?_
     refine Tops_step rfl (OpT_assign rfl rfl rfl rfl) ?_
     refine Tops_nil (Tk_wkS (fr' := [(1, some (vl1)), (3, some (vI size)), (4, some (vI id)), (5, some (vU64 atp5)), (6, some (vI np6)), (9, some (.pointer (some ⟨b1, 0, none⟩))), (27, some (.pointer (some ⟨b2, 0, none⟩))), (16, some (vI splito1.2)), (28, some (.pointer (some ⟨b3, 0, none⟩))), (18, some (vI splito2.2)), (29, some (.pointer (some ⟨b4, 0, none⟩))), (20, some (vI packed5.2))]) (own' := [some (cellsR b1 33 [vI pp2.At, vB pp2.Wrap]), some (cellsR b2 40 [vI splito1.1.At, vU64 splito1.1.Desc.Addr, vU32 splito1.1.Desc.Len, vU16 splito1.1.Desc.Flags, vU16 splito1.1.Desc.Next]), some (cellsR b3 40 [vI splito2.1.At, vU64 splito2.1.Desc.Addr, vU32 splito2.1.Desc.Len, vU16 splito2.1.Desc.Flags, vU16 splito2.1.Desc.Next]), some (cellsR b4 46 [vI packed5.1.At, vU64 packed5.1.Desc.Addr, vU32 packed5.1.Desc.Len, vU16 packed5.1.Desc.ID, vU16 packed5.1.Desc.Flags])]) (shr' := [Fact.sl SegS vl1 l]) [1, 3, 4, 5, 6, 9, 27, 16, 28, 18, 29, 20] [0, 1, 2, 3] [0] rfl rfl rfl rfl ?_)
     refine Tk_seq (Tk_region (Tops_step rfl (OpT_loadCA (vs := [vI pp2.At, vB pp2.Wrap]) rfl rfl rfl rfl tyF33 (i := 0) rfl rfl rfl) ?_))
     refine Tops_step rfl (OpT_move rfl rfl rfl rfl) ?_
     refine Tops_step rfl (OpT_move rfl rfl rfl rfl) ?_
     refine Tops_step rfl (OpT_move rfl rfl rfl rfl) ?_
     refine Tops_step rfl (OpT_move rfl rfl rfl rfl) ?_
     obtain ⟨packed6, hx17, h⟩ := ob_e h
     refine Tops_exP rfl (OpT_call (w_ref_PackedOne09 hx17) [] [] rfl rfl rfl rfl rfl callee29 rfl rfl rfl rfl) ?_
     rintro _ ⟨_, _, _, ⟨rfl, rfl, rfl⟩, rfl⟩
     refine Tops_step rfl (OpT_move rfl rfl rfl rfl) ?_
     refine Tops_step rfl (OpT_extract rfl rfl rfl rfl rfl) ?_
     refine Tops_step rfl (OpT_extract rfl rfl rfl rfl rfl) ?_
     refine Tops_ex rfl (OpT_alloc rfl rfl rfl tyZ46) fun b5 => ?_
     refine Tops_step rfl (OpT_storeC (cs' := [vI packed6.1.At, vU64 packed6.1.Desc.Addr, vU32 packed6.1.Desc.Len, vU16 packed6.1.Desc.ID, vU16 packed6.1.Desc.Flags]) rfl rfl rfl rfl tyF46 (i := 4) rfl rfl rfl (one_of rfl) rfl) ?_
     refine Tops_step rfl (OpT_assign rfl rfl rfl rfl) ?_
     refine Tops_nil (Tk_wkS (fr' := [(1, some (vl1)), (27, some (.pointer (some ⟨b2, 0, none⟩))), (16, some (vI splito1.2)), (28, some (.pointer (some ⟨b3, 0, none⟩))), (18, some (vI splito2.2)), (29, some (.pointer (some ⟨b4, 0, none⟩))), (20, some (vI packed5.2)), (30, some (.pointer (some ⟨b5, 0, none⟩))), (22, some (vI packed6.2))]) (own' := [some (cellsR b2 40 [vI splito1.1.At, vU64 splito1.1.Desc.Addr, vU32 splito1.1.Desc.Len, vU16 splito1.1.Desc.Flags, vU16 splito1.1.Desc.Next]), some (cellsR b3 40 [vI splito2.1.At, vU64 splito2.1.Desc.Addr, vU32 splito2.1.Desc.Len, vU16 splito2.1.Desc.Flags, vU16 splito2.1.Desc.Next]), some (cellsR b4 46 [vI packed5.1.At, vU64 packed5.1.Desc.Addr, vU32 packed5.1.Desc.Len, vU16 packed5.1.Desc.ID, vU16 packed5.1.Desc.Flags]), some (cellsR b5 46 [vI packed6.1.At, vU64 packed6.1.Desc.Addr, vU32 packed6.1.Desc.Len, vU16 packed6.1.Desc.ID, vU16 packed6.1.Desc.Flags])]) (shr' := [Fact.sl SegS vl1 l]) [1, 27, 16, 28, 18, 29, 20, 30, 22] [1, 2, 3, 4] [0] rfl rfl rfl rfl ?_)
     refine Tk_seq (Tk_region (Tops_step rfl (OpT_loadCA (vs := [vI splito1.1.At, vU64 splito1.1.Desc.Addr, vU32 splito1.1.Desc.Len, vU16 splito1.1.Desc.Flags, vU16 splito1.1.Desc.Next]) rfl rfl rfl rfl tyF40 (i := 0) rfl rfl rfl) ?_))
     refine Tops_step rfl (OpT_loadCA (vs := [vI splito2.1.At, vU64 splito2.1.Desc.Addr, vU32 splito2.1.Desc.Len, vU16 splito2.1.Desc.Flags, vU16 splito2.1.Desc.Next]) rfl rfl rfl rfl tyF40 (i := 1) rfl rfl rfl) ?_
     refine Tops_step rfl (OpT_bin rfl rfl rfl rfl rfl (eqT40_eql splito1.1 splito2.1)) ?_
     refine Tops_step rfl (OpT_move rfl rfl rfl rfl) ?_
     obtain ⟨hg12, h⟩ := chk_e h
     refine Tops_yes rfl rfl (congrArg (fun b => some (Value.bool b)) hg12) (OpT_move rfl rfl rfl rfl) ?_
     rintro _ rfl
     refine Tops_yes rfl rfl (congrArg (fun b => some (Value.bool b)) hg12) (OpT_move rfl rfl rfl rfl) ?_
     rintro _ rfl
     refine Tops_yes rfl rfl (congrArg (fun b => some (Value.bool b)) hg12) (OpT_bin rfl rfl rfl rfl rfl (bin_eql_i (a := splito1.2) (b := splito2.2))) ?_
     rintro _ rfl
     refine Tops_step rfl (OpT_pickT rfl rfl rfl (congrArg (fun b => some (Value.bool b)) hg12) rfl) ?_
     refine Tops_step rfl (OpT_move rfl rfl rfl rfl) ?_
     obtain ⟨hg13, h⟩ := chk_e h
     refine Tops_yes rfl rfl (congrArg (fun b => some (Value.bool b)) hg13) (OpT_loadCA (vs := [vI packed5.1.At, vU64 packed5.1.Desc.Addr, vU32 packed5.1.Desc.Len, vU16 packed5.1.Desc.ID, vU16 packed5.1.Desc.Flags]) rfl rfl rfl rfl tyF46 (i := 2) rfl rfl rfl) ?_
     rintro _ rfl
     refine Tops_yes rfl rfl (congrArg (fun b => some (Value.bool b)) hg13) (OpT_loadCA (vs := [vI packed6.1.At, vU64 packed6.1.Desc.Addr, vU32 packed6.1.Desc.Len, vU16 packed6.1.Desc.ID, vU16 packed6.1.Desc.Flags]) rfl rfl rfl rfl tyF46 (i := 3) rfl rfl rfl) ?_
     rintro _ rfl
     refine Tops_yes rfl rfl (congrArg (fun b => some (Value.bool b)) hg13) (OpT_bin rfl rfl rfl rfl rfl (eqT46_eql packed5.1 packed6.1)) ?_
     rintro _ rfl
     refine Tops_step rfl (OpT_pickT rfl rfl rfl (congrArg (fun b => some (Value.bool b)) hg13) rfl) ?_
     refine Tops_step rfl (OpT_move rfl rfl rfl rfl) ?_
     obtain ⟨hg14, h⟩ := chk_e h
     refine Tops_yes rfl rfl (congrArg (fun b => some (Value.bool b)) hg14) (OpT_move rfl rfl rfl rfl) ?_
     rintro _ rfl
     refine Tops_yes rfl rfl (congrArg (fun b => some (Value.bool b)) hg14) (OpT_move rfl rfl rfl rfl) ?_
     rintro _ rfl
     refine Tops_yes rfl rfl (congrArg (fun b => some (Value.bool b)) hg14) (OpT_bin rfl rfl rfl rfl rfl (bin_eql_i (a := packed5.2) (b := packed6.2))) ?_
     rintro _ rfl
     refine Tops_step rfl (OpT_pickT rfl rfl rfl (congrArg (fun b => some (Value.bool b)) hg14) rfl) ?_
     refine Tops_step rfl (OpT_move rfl rfl rfl rfl) ?_
     obtain ⟨hg15, h⟩ := chk_e h
     refine Tops_yes rfl rfl (congrArg (fun b => some (Value.bool b)) hg15) (OpT_move rfl rfl rfl rfl) ?_
     rintro _ rfl
     obtain ⟨needs1, hx18, h⟩ := ob_e h
     refine Tops_yes rfl rfl (congrArg (fun b => some (Value.bool b)) hg15) (OpT_call (w_build_Needs hx18) [] [0] rfl rfl rfl rfl rfl callee14 rfl rfl rfl rfl) ?_
     rintro _ ⟨_, _, _, ⟨rfl, rfl, rfl⟩, rfl⟩
     refine Tops_yes rfl rfl (congrArg (fun b => some (Value.bool b)) hg15) (OpT_move rfl rfl rfl rfl) ?_
     rintro _ rfl
     obtain ⟨needs2, hx19, h⟩ := ob_e h
     refine Tops_yes rfl rfl (congrArg (fun b => some (Value.bool b)) hg15) (OpT_call (w_ref_Needs09 hx19) [] [0] rfl rfl rfl rfl rfl callee30 rfl rfl rfl rfl) ?_
     rintro _ ⟨_, _, _, ⟨rfl, rfl, rfl⟩, rfl⟩
     refine Tops_yes rfl rfl (congrArg (fun b => some (Value.bool b)) hg15) (OpT_bin rfl rfl rfl rfl rfl (bin_eql_i (a := needs1) (b := needs2))) ?_
     rintro _ rfl
     refine Tops_step rfl (OpT_pickT rfl rfl rfl (congrArg (fun b => some (Value.bool b)) hg15) rfl) ?_
     refine Tops_step rfl (OpT_move rfl rfl rfl rfl) ?_
     obtain ⟨hg16, h⟩ := chk_e h
     refine Tops_yes rfl rfl (congrArg (fun b => some (Value.bool b)) hg16) (OpT_move rfl rfl rfl rfl) ?_
     rintro _ rfl
     obtain ⟨needs3, hx20, h⟩ := ob_e h
     refine Tops_yes rfl rfl (congrArg (fun b => some (Value.bool b)) hg16) (OpT_call (w_build_Needs hx20) [] [0] rfl rfl rfl rfl rfl callee14 rfl rfl rfl rfl) ?_
     rintro _ ⟨_, _, _, ⟨rfl, rfl, rfl⟩, rfl⟩
     refine Tops_yes rfl rfl (congrArg (fun b => some (Value.bool b)) hg16) (OpT_move rfl rfl rfl rfl) ?_
     rintro _ rfl
     obtain ⟨needs4, hx21, h⟩ := ob_e h
     refine Tops_yes rfl rfl (congrArg (fun b => some (Value.bool b)) hg16) (OpT_call (w_ref_Needs09 hx21) [] [0] rfl rfl rfl rfl rfl callee30 rfl rfl rfl rfl) ?_
     rintro _ ⟨_, _, _, ⟨rfl, rfl, rfl⟩, rfl⟩
     refine Tops_yes rfl rfl (congrArg (fun b => some (Value.bool b)) hg16) (OpT_bin rfl rfl rfl rfl rfl (bin_eql_i (a := needs3) (b := needs4))) ?_
     rintro _ rfl
     refine Tops_step rfl (OpT_pickT rfl rfl rfl (congrArg (fun b => some (Value.bool b)) hg16) rfl) ?_
     refine Tops_step rfl (OpT_assign rfl rfl rfl rfl) ?_
     refine Tops_nil (Tk_wkS (fr' := [(14, some (vB (needs3 == needs4)))]) (own' := []) (shr' := []) [14] [] [] rfl rfl rfl rfl ?_)
     obtain ⟨hg17, h⟩ := chk_e h
     exact Tk_retV rfl rfl (resA (vs := [.bool true]) rfl ⟨(congrArg (fun b => some (Value.bool b)) hg17), trivial⟩) [] [] rfl rfl rfl ⟨rfl, rfl, rfl⟩
end Go.Proofs.Ytihcimjfabdafaa
