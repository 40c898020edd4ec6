/- The law LayoutCalls is walked: it returns what its plain words say. No condition. -/
import Derived.Test.YtbeendakebamhaaWa5
namespace Go.Proofs.Ytbeendakebamhaa

set_option maxRecDepth 100000 in
set_option maxHeartbeats 4000000 in
theorem w_law04zLayoutCalls {rp0 : Rings} {what : Int} {ip2 : Int} {packed : Bool} {size : Int} {base : UInt64} {atp6 : UInt64} {np7 : UInt64} {l : List Region} {vl1 : Value}  (h : law04zLayoutCalls rp0 what ip2 packed size base atp6 np7 l = some true) :
  Ctr Try.prog 7 #[.agg #[vB rp0.Packed, vI rp0.Size, vU64 rp0.Desc, vU64 rp0.Driver, vU64 rp0.Device], vI what, vI ip2, vB packed, vI size, vU64 base, vU64 atp6, vU64 np7, vl1] [] [Fact.sl RegionS vl1 l]
   (fun rv own shr => rv = .bool true ∧ own = [] ∧ shr = []) := by
 unfold law04zLayoutCalls at h
 refine Ctr.mk (args := [.agg #[vB rp0.Packed, vI rp0.Size, vU64 rp0.Desc, vU64 rp0.Driver, vU64 rp0.Device], vI what, vI ip2, vB packed, vI size, vU64 base, vU64 atp6, vU64 np7, vl1]) Try.func7 rfl rfl (fun R0 w0 B => ?_)
 refine Tk_seq (Tk_region (Tops_ex rfl (OpT_box rfl rfl rfl rfl) fun b1 => ?_))
 refine Tops_step rfl (OpT_assign rfl rfl rfl rfl) ?_
 refine Tops_nil (Tk_wkS (fr' := [(1, some (vI what)), (2, some (vI ip2)), (3, some (vB packed)), (4, some (vI size)), (5, some (vU64 base)), (6, some (vU64 atp6)), (7, some (vU64 np7)), (8, some (vl1)), (9, some (.pointer (some ⟨b1, 0, none⟩)))]) (own' := [some (cellsR b1 27 [vB rp0.Packed, vI rp0.Size, vU64 rp0.Desc, vU64 rp0.Driver, vU64 rp0.Device])]) (shr' := [Fact.sl RegionS vl1 l]) [1, 2, 3, 4, 5, 6, 7, 8, 9] [0] [0] rfl rfl rfl rfl ?_)
 refine Tk_seq (Tk_seq (Tk_region ?_))
 obtain ⟨lives1, hx1, h⟩ := ob_e h
 refine Tops_exP rfl (OpT_call (w_law04zlives hx1) [] [] rfl rfl rfl rfl rfl callee8 rfl rfl rfl rfl) ?_
 rintro _ ⟨_, _, _, ⟨rfl, rfl, rfl⟩, rfl⟩
 refine Tops_step rfl (OpT_not rfl rfl rfl rfl) ?_
 refine Tops_nil (Tk_wkS (fr' := [(1, some (vI what)), (2, some (vI ip2)), (3, some (vB packed)), (4, some (vI size)), (5, some (vU64 base)), (6, some (vU64 atp6)), (7, some (vU64 np7)), (8, some (vl1)), (9, some (.pointer (some ⟨b1, 0, none⟩))), (40, some (vB (!lives1)))]) (own' := [some (cellsR b1 27 [vB rp0.Packed, vI rp0.Size, vU64 rp0.Desc, vU64 rp0.Driver, vU64 rp0.Device])]) (shr' := [Fact.sl RegionS vl1 l]) [1, 2, 3, 4, 5, 6, 7, 8, 9, 40] [0] [0] rfl rfl rfl rfl ?_)
 obtain ⟨hg1, h⟩ := chk_e h
 replace hg1 := not_t hg1
 refine Tk_condF (congrArg (fun b => some (Value.bool b)) hg1) ?_
 refine Tk_skip (Tk_seq (Tk_seq (Tk_region (Tops_step rfl (OpT_move rfl rfl rfl rfl) ?_))))
 obtain ⟨lightr1, hx2, h⟩ := ob_e h
 refine Tops_exP rfl (OpT_call (w_kit_LightRegions hx2) [] [0] rfl rfl rfl rfl rfl callee18 rfl rfl rfl rfl) ?_
 rintro _ ⟨_, _, _, ⟨rfl, rfl, rfl⟩, rfl⟩
 refine Tops_step rfl (OpT_not rfl rfl rfl rfl) ?_
 refine Tops_nil (Tk_wkS (fr' := [(1, some (vI what)), (2, some (vI ip2)), (3, some (vB packed)), (4, some (vI size)), (5, some (vU64 base)), (6, some (vU64 atp6)), (7, some (vU64 np7)), (8, some (vl1)), (9, some (.pointer (some ⟨b1, 0, none⟩))), (43, some (vB (!lightr1)))]) (own' := [some (cellsR b1 27 [vB rp0.Packed, vI rp0.Size, vU64 rp0.Desc, vU64 rp0.Driver, vU64 rp0.Device])]) (shr' := [Fact.sl RegionS vl1 l]) [1, 2, 3, 4, 5, 6, 7, 8, 9, 43] [0] [0] rfl rfl rfl rfl ?_)
 rcases Bool.eq_false_or_eq_true ((!lightr1)) with hg2 | hg2
 ·replace h := br_t hg2 h
  refine Tk_condT (congrArg (fun b => some (Value.bool b)) hg2) ?_
  refine Tk_seq (Tk_region (Tops_step rfl (OpT_assign rfl rfl rfl rfl) ?_))
  refine Tops_nil (Tk_wkS (fr' := [(18, some (vB true))]) (own' := []) (shr' := []) [18] [] [] rfl rfl rfl rfl ?_)
  exact Tk_retV rfl rfl (resA (vs := [.bool true]) rfl ⟨rfl, trivial⟩) [] [] rfl rfl rfl ⟨rfl, rfl, rfl⟩
 ·replace h := br_f hg2 h
  refine Tk_condF (congrArg (fun b => some (Value.bool b)) hg2) ?_
  refine Tk_skip (Tk_seq (Tk_region (Tops_step rfl (OpT_loadCA (vs := [vB rp0.Packed, vI rp0.Size, vU64 rp0.Desc, vU64 rp0.Driver, vU64 rp0.Device]) rfl rfl rfl rfl tyF27 (i := 0) rfl rfl rfl) ?_)))
  obtain ⟨parts1, hx3, h⟩ := ob_e h
  refine Tops_exP rfl (OpT_call (w_layout_Parts hx3) [] [] rfl rfl rfl rfl rfl callee11 rfl rfl rfl rfl) ?_
  rintro _ ⟨_, _, _, ⟨rfl, rfl, rfl⟩, rfl⟩
  refine Tops_step rfl (OpT_move rfl rfl rfl rfl) ?_
  refine Tops_step rfl (OpT_extract rfl rfl rfl rfl rfl) ?_
  refine Tops_step rfl (OpT_extract rfl rfl rfl rfl rfl) ?_
  refine Tops_step rfl (OpT_extract rfl rfl rfl rfl rfl) ?_
  refine Tops_step rfl (OpT_assign rfl rfl rfl rfl) ?_
  refine Tops_step rfl (OpT_assign rfl rfl rfl rfl) ?_
  refine Tops_step rfl (OpT_assign rfl rfl rfl rfl) ?_
  refine Tops_nil (Tk_wkS (fr' := [(1, some (vI what)), (2, some (vI ip2)), (3, some (vB packed)), (4, some (vI size)), (5, some (vU64 base)), (6, some (vU64 atp6)), (7, some (vU64 np7)), (8, some (vl1)), (9, some (.pointer (some ⟨b1, 0, none⟩))), (19, some (vU64 parts1.1)), (20, some (vU64 parts1.2.1)), (21, some (vU64 parts1.2.2))]) (own' := [some (cellsR b1 27 [vB rp0.Packed, vI rp0.Size, vU64 rp0.Desc, vU64 rp0.Driver, vU64 rp0.Device])]) (shr' := [Fact.sl RegionS vl1 l]) [1, 2, 3, 4, 5, 6, 7, 8, 9, 19, 20, 21] [0] [0] rfl rfl rfl rfl ?_)
  refine Tk_seq (Tk_region (Tops_step rfl (OpT_loadCA (vs := [vB rp0.Packed, vI rp0.Size, vU64 rp0.Desc, vU64 rp0.Driver, vU64 rp0.Device]) rfl rfl rfl rfl tyF27 (i := 0) rfl rfl rfl) ?_))
  obtain ⟨parts2, hx4, h⟩ := ob_e h
  refine Tops_exP rfl (OpT_call (w_ref_Parts04 hx4) [] [] rfl rfl rfl rfl rfl callee19 rfl rfl rfl rfl) ?_
  rintro _ ⟨_, _, _, ⟨rfl, rfl, rfl⟩, rfl⟩
  refine Tops_step rfl (OpT_move rfl rfl rfl rfl) ?_
  refine Tops_step rfl (OpT_extract rfl rfl rfl rfl rfl) ?_
  refine Tops_step rfl (OpT_extract rfl rfl rfl rfl rfl) ?_
  refine Tops_step rfl (OpT_extract rfl rfl rfl rfl rfl) ?_
  refine Tops_step rfl (OpT_assign rfl rfl rfl rfl) ?_
  refine Tops_step rfl (OpT_assign rfl rfl rfl rfl) ?_
  refine Tops_step rfl (OpT_assign rfl rfl rfl rfl) ?_
  refine Tops_nil (Tk_wkS (fr' := [(1, some (vI what)), (2, some (vI ip2)), (3, some (vB packed)), (4, some (vI size)), (5, some (vU64 base)), (6, some (vU64 atp6)), (7, some (vU64 np7)), (8, some (vl1)), (9, some (.pointer (some ⟨b1, 0, none⟩))), (19, some (vU64 parts1.1)), (20, some (vU64 parts1.2.1)), (21, some (vU64 parts1.2.2)), (22, some (vU64 parts2.1)), (23, some (vU64 parts2.2.1)), (24, some (vU64 parts2.2.2))]) (own' := [some (cellsR b1 27 [vB rp0.Packed, vI rp0.Size, vU64 rp0.Desc, vU64 rp0.Driver, vU64 rp0.Device])]) (shr' := [Fact.sl RegionS vl1 l]) [1, 2, 3, 4, 5, 6, 7, 8, 9, 19, 20, 21, 22, 23, 24] [0] [0] rfl rfl rfl rfl ?_)
  refine Tk_seq (Tk_seq (Tk_drawT (by kernel_rfl) ?_))
  refine TA_tb [0, 0, 3, 7, 15, 15, 63, 127, 255, 511, 511, 2047, 4095, 8191, 16383, 32767, 16383, 131071, 262143, 524287, 1048575, 2097151, 2097151, 2097151, 16777215, 2097151, 2097151, 2097151, 268435455, 536870911, 1073741823] (by kernel_rfl) fun htb => ?_
  refine TA_seg (lo := 0) (hi := 2) htb rfl rfl (by kernel_rfl) (fun c L a w => Sat c ⟨[(1, some (vI what)), (2, some (vI ip2)), (3, some (vB packed)), (4, some (vI size)), (5, some (vU64 base)), (6, some (vU64 atp6)), (7, some (vU64 np7)), (8, some (vl1)), (9, some (.pointer (some ⟨b1, 0, none⟩))), (19, some (vU64 parts1.1)), (20, some (vU64 parts1.2.1)), (21, some (vU64 parts1.2.2)), (22, some (vU64 parts2.1)), (23, some (vU64 parts2.2.1)), (24, some (vU64 parts2.2.2)), (56, bif L 0 then some (vU64 parts1.1) else none), (57, bif L 1 then some (vU64 parts2.1) else none)], [(some (cellsR b1 27 [vB rp0.Packed, vI rp0.Size, vU64 rp0.Desc, vU64 rp0.Driver, vU64 rp0.Device]) : Option Res)], [Fact.sl RegionS vl1 l]⟩ a w) [([], []), ([], [])] rfl (by kernel_rfl) ?_ (steps_cons ?_ (steps_cons ?_ (steps_nil))) ?_
  ·intro a w hs
   exact hs.startF [56, 57] [0] [0] rfl rfl rfl rfl
  ·intro L a w hv K Q hK
   have hs := hv
   refine wpOp_go rfl rfl hs (OpT_move rfl rfl rfl rfl) ?_
   rintro _ rfl a' w' hs'
   exact hK a' w' (hs'.putF (i := 15) rfl [0] [0] rfl rfl rfl rfl)
  ·intro L a w hv K Q hK
   have hs := hv
   refine wpOp_go rfl rfl hs (OpT_move rfl rfl rfl rfl) ?_
   rintro _ rfl a' w' hs'
   exact hK a' w' (hs'.putF (i := 16) rfl [0] [0] rfl rfl rfl rfl)
  ·intro L a w hL hv
   rw [allTrue hL] at hv
   have hs := hv
   refine (show TA _ _ _ 2 ⟨[(1, some (vI what)), (2, some (vI ip2)), (3, some (vB packed)), (4, some (vI size)), (5, some (vU64 base)), (6, some (vU64 atp6)), (7, some (vU64 np7)), (8, some (vl1)), (9, some (.pointer (some ⟨b1, 0, none⟩))), (20, some (vU64 parts1.2.1)), (21, some (vU64 parts1.2.2)), (23, some (vU64 parts2.2.1)), (24, some (vU64 parts2.2.2)), (56, some (vU64 parts1.1)), (57, some (vU64 parts2.1))], [some (cellsR b1 27 [vB rp0.Packed, vI rp0.Size, vU64 rp0.Desc, vU64 rp0.Driver, vU64 rp0.Device])], [Fact.sl RegionS vl1 l]⟩ from ?_) a w (hs.wkS [1, 2, 3, 4, 5, 6, 7, 8, 9, 20, 21, 23, 24, 56, 57] [0] [0] rfl rfl rfl rfl)
   clear hs hL
   refine TA_step htb (by kernel_rfl) rfl rfl (OpT_bin rfl rfl rfl rfl rfl (bin_neq_u64 (a := parts1.1) (b := parts2.1))) ?_
   refine TA_step htb (by kernel_rfl) rfl rfl (OpT_move rfl rfl rfl rfl) ?_
   refine TA_wkS (fr' := [(1, some (vI what)), (2, some (vI ip2)), (3, some (vB packed)), (4, some (vI size)), (5, some (vU64 base)), (6, some (vU64 atp6)), (7, some (vU64 np7)), (8, some (vl1)), (9, some (.pointer (some ⟨b1, 0, none⟩))), (20, some (vU64 parts1.2.1)), (21, some (vU64 parts1.2.2)), (23, some (vU64 parts2.2.1)), (24, some (vU64 parts2.2.2)), (59, some (vB (parts1.1 != parts2.1)))]) (own' := [some (cellsR b1 27 [vB rp0.Packed, vI rp0.Size, vU64 rp0.Desc, vU64 rp0.Driver, vU64 rp0.Device])]) (shr' := [Fact.sl RegionS vl1 l]) [1, 2, 3, 4, 5, 6, 7, 8, 9, 20, 21, 23, 24, 59] [0] [0] rfl rfl rfl rfl ?_
   obtain ⟨hg3, h⟩ := chk_e h
   replace hg3 := not_t hg3
   refine TA_seg (lo := 4) (hi := 6) htb rfl rfl (by kernel_rfl) (fun c L a w => Sat c ⟨[(1, some (vI what)), (2, some (vI ip2)), (3, some (vB packed)), (4, some (vI size)), (5, some (vU64 base)), (6, some (vU64 atp6)), (7, some (vU64 np7)), (8, some (vl1)), (9, some (.pointer (some ⟨b1, 0, none⟩))), (20, some (vU64 parts1.2.1)), (21, some (vU64 parts1.2.2)), (23, some (vU64 parts2.2.1)), (24, some (vU64 parts2.2.2)), (59, some (vB (parts1.1 != parts2.1))), (60, bif L 4 then some (vU64 parts1.2.1) else none), (61, bif L 5 then some (vU64 parts2.2.1) else none)], [(some (cellsR b1 27 [vB rp0.Packed, vI rp0.Size, vU64 rp0.Desc, vU64 rp0.Driver, vU64 rp0.Device]) : Option Res)], [Fact.sl RegionS vl1 l]⟩ a w) [([], []), ([], [])] rfl (by kernel_rfl) ?_ (steps_cons ?_ (steps_cons ?_ (steps_nil))) ?_
   ·intro a w hs
    exact hs.startF [60, 61] [0] [0] rfl rfl rfl rfl
   ·intro L a w hv K Q hK
    have hs := hv
    refine wpOp_yes rfl rfl rfl hs (congrArg (fun b => some (Value.bool b)) hg3) (OpT_move rfl rfl rfl rfl) ?_
    rintro _ rfl a' w' hs'
    exact hK a' w' (hs'.putF (i := 14) rfl [0] [0] rfl rfl rfl rfl)
   ·intro L a w hv K Q hK
    have hs := hv
    refine wpOp_yes rfl rfl rfl hs (congrArg (fun b => some (Value.bool b)) hg3) (OpT_move rfl rfl rfl rfl) ?_
    rintro _ rfl a' w' hs'
    exact hK a' w' (hs'.putF (i := 15) rfl [0] [0] rfl rfl rfl rfl)
   ·intro L a w hL hv
    rw [allTrue hL] at hv
    have hs := hv
    refine (show TA _ _ _ 6 ⟨[(1, some (vI what)), (2, some (vI ip2)), (3, some (vB packed)), (4, some (vI size)), (5, some (vU64 base)), (6, some (vU64 atp6)), (7, some (vU64 np7)), (8, some (vl1)), (9, some (.pointer (some ⟨b1, 0, none⟩))), (21, some (vU64 parts1.2.2)), (24, some (vU64 parts2.2.2)), (59, some (vB (parts1.1 != parts2.1))), (60, some (vU64 parts1.2.1)), (61, some (vU64 parts2.2.1))], [some (cellsR b1 27 [vB rp0.Packed, vI rp0.Size, vU64 rp0.Desc, vU64 rp0.Driver, vU64 rp0.Device])], [Fact.sl RegionS vl1 l]⟩ from ?_) a w (hs.wkS [1, 2, 3, 4, 5, 6, 7, 8, 9, 21, 24, 59, 60, 61] [0] [0] rfl rfl rfl rfl)
    clear hs hL
    refine TA_yes htb (by kernel_rfl) rfl rfl rfl (congrArg (fun b => some (Value.bool b)) hg3) (OpT_bin rfl rfl rfl rfl rfl (bin_neq_u64 (a := parts1.2.1) (b := parts2.2.1))) ?_
    rintro _ rfl
    refine TA_step htb (by kernel_rfl) rfl rfl (OpT_pickF rfl rfl rfl (congrArg (fun b => some (Value.bool b)) hg3) rfl) ?_
    refine TA_step htb (by kernel_rfl) rfl rfl (OpT_move rfl rfl rfl rfl) ?_
    refine TA_wkS (fr' := [(1, some (vI what)), (2, some (vI ip2)), (3, some (vB packed)), (4, some (vI size)), (5, some (vU64 base)), (6, some (vU64 atp6)), (7, some (vU64 np7)), (8, some (vl1)), (9, some (.pointer (some ⟨b1, 0, none⟩))), (21, some (vU64 parts1.2.2)), (24, some (vU64 parts2.2.2)), (64, some (vB (parts1.2.1 != parts2.2.1)))]) (own' := [some (cellsR b1 27 [vB rp0.Packed, vI rp0.Size, vU64 rp0.Desc, vU64 rp0.Driver, vU64 rp0.Device])]) (shr' := [Fact.sl RegionS vl1 l]) [1, 2, 3, 4, 5, 6, 7, 8, 9, 21, 24, 64] [0] [0] rfl rfl rfl rfl ?_
    obtain ⟨hg4, h⟩ := chk_e h
    replace hg4 := not_t hg4
    refine TA_seg (lo := 9) (hi := 11) htb rfl rfl (by kernel_rfl) (fun c L a w => Sat c ⟨[(1, some (vI what)), (2, some (vI ip2)), (3, some (vB packed)), (4, some (vI size)), (5, some (vU64 base)), (6, some (vU64 atp6)), (7, some (vU64 np7)), (8, some (vl1)), (9, some (.pointer (some ⟨b1, 0, none⟩))), (21, some (vU64 parts1.2.2)), (24, some (vU64 parts2.2.2)), (64, some (vB (parts1.2.1 != parts2.2.1))), (65, bif L 9 then some (vU64 parts1.2.2) else none), (66, bif L 10 then some (vU64 parts2.2.2) else none)], [(some (cellsR b1 27 [vB rp0.Packed, vI rp0.Size, vU64 rp0.Desc, vU64 rp0.Driver, vU64 rp0.Device]) : Option Res)], [Fact.sl RegionS vl1 l]⟩ a w) [([], []), ([], [])] rfl (by kernel_rfl) ?_ (steps_cons ?_ (steps_cons ?_ (steps_nil))) ?_
    ·intro a w hs
     exact hs.startF [65, 66] [0] [0] rfl rfl rfl rfl
    ·intro L a w hv K Q hK
     have hs := hv
     refine wpOp_yes rfl rfl rfl hs (congrArg (fun b => some (Value.bool b)) hg4) (OpT_move rfl rfl rfl rfl) ?_
     rintro _ rfl a' w' hs'
     exact hK a' w' (hs'.putF (i := 12) rfl [0] [0] rfl rfl rfl rfl)
    ·intro L a w hv K Q hK
     have hs := hv
     refine wpOp_yes rfl rfl rfl hs (congrArg (fun b => some (Value.bool b)) hg4) (OpT_move rfl rfl rfl rfl) ?_
     rintro _ rfl a' w' hs'
     exact hK a' w' (hs'.putF (i := 13) rfl [0] [0] rfl rfl rfl rfl)
    ·intro L a w hL hv
     rw [allTrue hL] at hv
     have hs := hv
     refine (show TA _ _ _ 11 ⟨[(1, some (vI what)), (2, some (vI ip2)), (3, some (vB packed)), (4, some (vI size)), (5, some (vU64 base)), (6, some (vU64 atp6)), (7, some (vU64 np7)), (8, some (vl1)), (9, some (.pointer (some ⟨b1, 0, none⟩))), (64, some (vB (parts1.2.1 != parts2.2.1))), (65, some (vU64 parts1.2.2)), (66, some (vU64 parts2.2.2))], [some (cellsR b1 27 [vB rp0.Packed, vI rp0.Size, vU64 rp0.Desc, vU64 rp0.Driver, vU64 rp0.Device])], [Fact.sl RegionS vl1 l]⟩ from ?_) a w (hs.wkS [1, 2, 3, 4, 5, 6, 7, 8, 9, 64, 65, 66] [0] [0] rfl rfl rfl rfl)
     clear hs hL
     refine TA_yes htb (by kernel_rfl) rfl rfl rfl (congrArg (fun b => some (Value.bool b)) hg4) (OpT_bin rfl rfl rfl rfl rfl (bin_neq_u64 (a := parts1.2.2) (b := parts2.2.2))) ?_
     rintro _ rfl
     refine TA_step htb (by kernel_rfl) rfl rfl (OpT_pickF rfl rfl rfl (congrArg (fun b => some (Value.bool b)) hg4) rfl) ?_
     refine TA_step htb (by kernel_rfl) rfl rfl (OpT_move rfl rfl rfl rfl) ?_
     refine TA_wkS (fr' := [(1, some (vI what)), (2, some (vI ip2)), (3, some (vB packed)), (4, some (vI size)), (5, some (vU64 base)), (6, some (vU64 atp6)), (7, some (vU64 np7)), (8, some (vl1)), (9, some (.pointer (some ⟨b1, 0, none⟩))), (69, some (vB (parts1.2.2 != parts2.2.2)))]) (own' := [some (cellsR b1 27 [vB rp0.Packed, vI rp0.Size, vU64 rp0.Desc, vU64 rp0.Driver, vU64 rp0.Device])]) (shr' := [Fact.sl RegionS vl1 l]) [1, 2, 3, 4, 5, 6, 7, 8, 9, 69] [0] [0] rfl rfl rfl rfl ?_
     obtain ⟨hg5, h⟩ := chk_e h
     replace hg5 := not_t hg5
     obtain ⟨check1, hx5, h⟩ := ob_e h
     refine TA_seg (lo := 14) (hi := 17) htb rfl rfl (by kernel_rfl) (fun c L a w => Sat c ⟨[(1, some (vI what)), (2, some (vI ip2)), (3, some (vB packed)), (4, some (vI size)), (5, some (vU64 base)), (6, some (vU64 atp6)), (7, some (vU64 np7)), (8, some (vl1)), (9, some (.pointer (some ⟨b1, 0, none⟩))), (69, some (vB (parts1.2.2 != parts2.2.2))), (70, bif L 14 then some (.agg #[vB rp0.Packed, vI rp0.Size, vU64 rp0.Desc, vU64 rp0.Driver, vU64 rp0.Device]) else none), (71, bif L 15 then some (vI check1) else none), (72, bif L 16 then some (.agg #[vB rp0.Packed, vI rp0.Size, vU64 rp0.Desc, vU64 rp0.Driver, vU64 rp0.Device]) else none)], [(some (cellsR b1 27 [vB rp0.Packed, vI rp0.Size, vU64 rp0.Desc, vU64 rp0.Driver, vU64 rp0.Device]) : Option Res)], [Fact.sl RegionS vl1 l]⟩ a w) [([], [15]), ([14], []), ([], [])] rfl (by kernel_rfl) ?_ (steps_cons ?_ (steps_cons ?_ (steps_cons ?_ (steps_nil)))) ?_
     ·intro a w hs
      exact hs.startF [70, 71, 72] [0] [0] rfl rfl rfl rfl
     ·intro L a w hv K Q hK
      have hs := hv
      refine wpOp_yes rfl rfl rfl hs (congrArg (fun b => some (Value.bool b)) hg5) (OpT_loadCA (vs := [vB rp0.Packed, vI rp0.Size, vU64 rp0.Desc, vU64 rp0.Driver, vU64 rp0.Device]) rfl rfl rfl rfl tyF27 (i := 0) rfl rfl rfl) ?_
      rintro _ rfl a' w' hs'
      exact hK a' w' (hs'.putF (i := 10) rfl [0] [0] rfl rfl rfl rfl)
     ·intro L a w hv K Q hK
      have hs := hv
      refine wpOp_yes rfl rfl rfl hs (congrArg (fun b => some (Value.bool b)) hg5) (OpT_call (w_layout_Check hx5) [] [] rfl rfl rfl rfl rfl callee13 rfl rfl rfl rfl) ?_
      rintro _ ⟨_, _, _, ⟨rfl, rfl, rfl⟩, rfl⟩ a' w' hs'
      exact hK a' w' (hs'.putF (i := 11) rfl [0] [0] rfl rfl rfl rfl)
     ·intro L a w hv K Q hK
      have hs := hv
      refine wpOp_yes rfl rfl rfl hs (congrArg (fun b => some (Value.bool b)) hg5) (OpT_loadCA (vs := [vB rp0.Packed, vI rp0.Size, vU64 rp0.Desc, vU64 rp0.Driver, vU64 rp0.Device]) rfl rfl rfl rfl tyF27 (i := 0) rfl rfl rfl) ?_
      rintro _ rfl a' w' hs'
      exact hK a' w' (hs'.putF (i := 12) rfl [0] [0] rfl rfl rfl rfl)
     ·intro L a w hL hv
      rw [allTrue hL] at hv
      have hs := hv
      refine (show TA _ _ _ 17 ⟨[(1, some (vI what)), (2, some (vI ip2)), (3, some (vB packed)), (4, some (vI size)), (5, some (vU64 base)), (6, some (vU64 atp6)), (7, some (vU64 np7)), (8, some (vl1)), (9, some (.pointer (some ⟨b1, 0, none⟩))), (69, some (vB (parts1.2.2 != parts2.2.2))), (71, some (vI check1)), (72, some (.agg #[vB rp0.Packed, vI rp0.Size, vU64 rp0.Desc, vU64 rp0.Driver, vU64 rp0.Device]))], [some (cellsR b1 27 [vB rp0.Packed, vI rp0.Size, vU64 rp0.Desc, vU64 rp0.Driver, vU64 rp0.Device])], [Fact.sl RegionS vl1 l]⟩ from ?_) a w (hs.wkS [1, 2, 3, 4, 5, 6, 7, 8, 9, 69, 71, 72] [0] [0] rfl rfl rfl rfl)
      clear hs hL
      obtain ⟨check2, hx6, h⟩ := ob_e h
      refine TA_yes htb (by kernel_rfl) rfl rfl rfl (congrArg (fun b => some (Value.bool b)) hg5) (OpT_call (w_ref_Check04 hx6) [] [] rfl rfl rfl rfl rfl callee20 rfl rfl rfl rfl) ?_
      rintro _ ⟨_, _, _, ⟨rfl, rfl, rfl⟩, rfl⟩
      refine TA_yes htb (by kernel_rfl) rfl rfl rfl (congrArg (fun b => some (Value.bool b)) hg5) (OpT_bin rfl rfl rfl rfl rfl (bin_neq_i (a := check1) (b := check2))) ?_
      rintro _ rfl
      refine TA_step htb (by kernel_rfl) rfl rfl (OpT_pickF rfl rfl rfl (congrArg (fun b => some (Value.bool b)) hg5) rfl) ?_
      refine TA_step htb (by kernel_rfl) rfl rfl (OpT_move rfl rfl rfl rfl) ?_
      refine TA_wkS (fr' := [(1, some (vI what)), (2, some (vI ip2)), (3, some (vB packed)), (4, some (vI size)), (5, some (vU64 base)), (6, some (vU64 atp6)), (7, some (vU64 np7)), (8, some (vl1)), (9, some (.pointer (some ⟨b1, 0, none⟩))), (76, some (vB (check1 != check2)))]) (own' := [some (cellsR b1 27 [vB rp0.Packed, vI rp0.Size, vU64 rp0.Desc, vU64 rp0.Driver, vU64 rp0.Device])]) (shr' := [Fact.sl RegionS vl1 l]) [1, 2, 3, 4, 5, 6, 7, 8, 9, 76] [0] [0] rfl rfl rfl rfl ?_
      obtain ⟨hg6, h⟩ := chk_e h
      replace hg6 := not_t hg6
      obtain ⟨over1, hx7, h⟩ := ob_e h
      refine TA_seg (lo := 21) (hi := 28) htb rfl rfl (by kernel_rfl) (fun c L a w => Sat c ⟨[(1, some (vI what)), (2, some (vI ip2)), (3, some (vB packed)), (4, some (vI size)), (5, some (vU64 base)), (6, some (vU64 atp6)), (7, some (vU64 np7)), (8, some (vl1)), (9, some (.pointer (some ⟨b1, 0, none⟩))), (76, some (vB (check1 != check2))), (77, bif L 21 then some (.agg #[vB rp0.Packed, vI rp0.Size, vU64 rp0.Desc, vU64 rp0.Driver, vU64 rp0.Device]) else none), (78, bif L 22 then some (vU64 atp6) else none), (79, bif L 23 then some (vU64 np7) else none), (80, bif L 24 then some (vB over1) else none), (81, bif L 25 then some (.agg #[vB rp0.Packed, vI rp0.Size, vU64 rp0.Desc, vU64 rp0.Driver, vU64 rp0.Device]) else none), (82, bif L 26 then some (vU64 atp6) else none), (83, bif L 27 then some (vU64 np7) else none)], [(some (cellsR b1 27 [vB rp0.Packed, vI rp0.Size, vU64 rp0.Desc, vU64 rp0.Driver, vU64 rp0.Device]) : Option Res)], [Fact.sl RegionS vl1 l]⟩ a w) [([], [24]), ([], [24]), ([], [24]), ([21, 22, 23], []), ([], []), ([], []), ([], [])] rfl (by kernel_rfl) ?_ (steps_cons ?_ (steps_cons ?_ (steps_cons ?_ (steps_cons ?_ (steps_cons ?_ (steps_cons ?_ (steps_cons ?_ (steps_nil)))))))) ?_
      ·intro a w hs
       exact hs.startF [77, 78, 79, 80, 81, 82, 83] [0] [0] rfl rfl rfl rfl
      ·intro L a w hv K Q hK
       have hs := hv
       refine wpOp_yes rfl rfl rfl hs (congrArg (fun b => some (Value.bool b)) hg6) (OpT_loadCA (vs := [vB rp0.Packed, vI rp0.Size, vU64 rp0.Desc, vU64 rp0.Driver, vU64 rp0.Device]) rfl rfl rfl rfl tyF27 (i := 0) rfl rfl rfl) ?_
       rintro _ rfl a' w' hs'
       exact hK a' w' (hs'.putF (i := 10) rfl [0] [0] rfl rfl rfl rfl)
      ·intro L a w hv K Q hK
       have hs := hv
       refine wpOp_yes rfl rfl rfl hs (congrArg (fun b => some (Value.bool b)) hg6) (OpT_move rfl rfl rfl rfl) ?_
       rintro _ rfl a' w' hs'
       exact hK a' w' (hs'.putF (i := 11) rfl [0] [0] rfl rfl rfl rfl)
      ·intro L a w hv K Q hK
       have hs := hv
       refine wpOp_yes rfl rfl rfl hs (congrArg (fun b => some (Value.bool b)) hg6) (OpT_move rfl rfl rfl rfl) ?_
       rintro _ rfl a' w' hs'
       exact hK a' w' (hs'.putF (i := 12) rfl [0] [0] rfl rfl rfl rfl)
      ·intro L a w hv K Q hK
       have hs := hv
       refine wpOp_yes rfl rfl rfl hs (congrArg (fun b => some (Value.bool b)) hg6) (OpT_call (w_layout_Over hx7) [] [] rfl rfl rfl rfl rfl callee15 rfl rfl rfl rfl) ?_
       rintro _ ⟨_, _, _, ⟨rfl, rfl, rfl⟩, rfl⟩ a' w' hs'
       exact hK a' w' (hs'.putF (i := 13) rfl [0] [0] rfl rfl rfl rfl)
      ·intro L a w hv K Q hK
       have hs := hv
       refine wpOp_yes rfl rfl rfl hs (congrArg (fun b => some (Value.bool b)) hg6) (OpT_loadCA (vs := [vB rp0.Packed, vI rp0.Size, vU64 rp0.Desc, vU64 rp0.Driver, vU64 rp0.Device]) rfl rfl rfl rfl tyF27 (i := 0) rfl rfl rfl) ?_
       rintro _ rfl a' w' hs'
       exact hK a' w' (hs'.putF (i := 14) rfl [0] [0] rfl rfl rfl rfl)
      ·intro L a w hv K Q hK
       have hs := hv
       refine wpOp_yes rfl rfl rfl hs (congrArg (fun b => some (Value.bool b)) hg6) (OpT_move rfl rfl rfl rfl) ?_
       rintro _ rfl a' w' hs'
       exact hK a' w' (hs'.putF (i := 15) rfl [0] [0] rfl rfl rfl rfl)
      ·intro L a w hv K Q hK
       have hs := hv
       refine wpOp_yes rfl rfl rfl hs (congrArg (fun b => some (Value.bool b)) hg6) (OpT_move rfl rfl rfl rfl) ?_
       rintro _ rfl a' w' hs'
       exact hK a' w' (hs'.putF (i := 16) rfl [0] [0] rfl rfl rfl rfl)
      ·intro L a w hL hv
       rw [allTrue hL] at hv
       have hs := hv
       refine (show TA _ _ _ 28 ⟨[(1, some (vI what)), (2, some (vI ip2)), (3, some (vB packed)), (4, some (vI size)), (5, some (vU64 base)), (8, some (vl1)), (9, some (.pointer (some ⟨b1, 0, none⟩))), (76, some (vB (check1 != check2))), (80, some (vB over1)), (81, some (.agg #[vB rp0.Packed, vI rp0.Size, vU64 rp0.Desc, vU64 rp0.Driver, vU64 rp0.Device])), (82, some (vU64 atp6)), (83, some (vU64 np7))], [some (cellsR b1 27 [vB rp0.Packed, vI rp0.Size, vU64 rp0.Desc, vU64 rp0.Driver, vU64 rp0.Device])], [Fact.sl RegionS vl1 l]⟩ from ?_) a w (hs.wkS [1, 2, 3, 4, 5, 8, 9, 76, 80, 81, 82, 83] [0] [0] rfl rfl rfl rfl)
       clear hs hL
       obtain ⟨over2, hx8, h⟩ := ob_e h
       refine TA_yes htb (by kernel_rfl) rfl rfl rfl (congrArg (fun b => some (Value.bool b)) hg6) (OpT_call (w_ref_Over04 hx8) [] [] rfl rfl rfl rfl rfl callee21 rfl rfl rfl rfl) ?_
       rintro _ ⟨_, _, _, ⟨rfl, rfl, rfl⟩, rfl⟩
       refine TA_yes htb (by kernel_rfl) rfl rfl rfl (congrArg (fun b => some (Value.bool b)) hg6) (OpT_bin rfl rfl rfl rfl rfl (bin_neq_b (a := over1) (b := over2) Try.underlying4)) ?_
       rintro _ rfl
       refine TA_step htb (by kernel_rfl) rfl rfl (OpT_pickF rfl rfl rfl (congrArg (fun b => some (Value.bool b)) hg6) rfl) ?_
       refine TA_end rfl ?_
       refine Tk_wkS (fr' := [(1, some (vI what)), (2, some (vI ip2)), (3, some (vB packed)), (4, some (vI size)), (5, some (vU64 base)), (8, some (vl1)), (9, some (.pointer (some ⟨b1, 0, none⟩))), (86, some (vB (over1 != over2)))]) (own' := [some (cellsR b1 27 [vB rp0.Packed, vI rp0.Size, vU64 rp0.Desc, vU64 rp0.Driver, vU64 rp0.Device])]) (shr' := [Fact.sl RegionS vl1 l]) [1, 2, 3, 4, 5, 8, 9, 86] [0] [0] rfl rfl rfl rfl ?_
       obtain ⟨hg7, h⟩ := chk_e h
       replace hg7 := not_t hg7
       refine Tk_condF (congrArg (fun b => some (Value.bool b)) hg7) ?_
       refine Tk_skip (Tk_seq (Tk_region (Tops_step rfl (OpT_loadCA (vs := [vB rp0.Packed, vI rp0.Size, vU64 rp0.Desc, vU64 rp0.Driver, vU64 rp0.Device]) rfl rfl rfl rfl tyF27 (i := 0) rfl rfl rfl) ?_)))
       refine Tops_step rfl (OpT_move rfl rfl rfl rfl) ?_
       refine Tops_step rfl (OpT_move rfl rfl rfl rfl) ?_
       obtain ⟨where1, hx9, h⟩ := ob_e h
       refine Tops_exP rfl (OpT_call (w_layout_Where hx9) [] [] rfl rfl rfl rfl rfl callee12 rfl rfl rfl rfl) ?_
       rintro _ ⟨_, _, _, ⟨rfl, rfl, rfl⟩, rfl⟩
       refine Tops_step rfl (OpT_move rfl rfl rfl rfl) ?_
       refine Tops_step rfl (OpT_extract rfl rfl rfl rfl rfl) ?_
       refine Tops_step rfl (OpT_extract rfl rfl rfl rfl rfl) ?_
       refine Tops_step rfl (OpT_extract rfl rfl rfl rfl rfl) ?_
       refine Tops_step rfl (OpT_assign rfl rfl rfl rfl) ?_
       refine Tops_step rfl (OpT_assign rfl rfl rfl rfl) ?_
       refine Tops_step rfl (OpT_assign rfl rfl rfl rfl) ?_
       refine Tops_nil (Tk_wkS (fr' := [(1, some (vI what)), (2, some (vI ip2)), (3, some (vB packed)), (4, some (vI size)), (5, some (vU64 base)), (8, some (vl1)), (9, some (.pointer (some ⟨b1, 0, none⟩))), (25, some (vU64 where1.1)), (26, some (vI where1.2.1)), (27, some (vI where1.2.2))]) (own' := [some (cellsR b1 27 [vB rp0.Packed, vI rp0.Size, vU64 rp0.Desc, vU64 rp0.Driver, vU64 rp0.Device])]) (shr' := [Fact.sl RegionS vl1 l]) [1, 2, 3, 4, 5, 8, 9, 25, 26, 27] [0] [0] rfl rfl rfl rfl ?_)
       refine Tk_seq (Tk_region (Tops_step rfl (OpT_loadCA (vs := [vB rp0.Packed, vI rp0.Size, vU64 rp0.Desc, vU64 rp0.Driver, vU64 rp0.Device]) rfl rfl rfl rfl tyF27 (i := 0) rfl rfl rfl) ?_))
       refine Tops_step rfl (OpT_move rfl rfl rfl rfl) ?_
       refine Tops_step rfl (OpT_move rfl rfl rfl rfl) ?_
       obtain ⟨where2, hx10, h⟩ := ob_e h
       refine Tops_exP rfl (OpT_call (w_ref_Where04 hx10) [] [] rfl rfl rfl rfl rfl callee22 rfl rfl rfl rfl) ?_
       rintro _ ⟨_, _, _, ⟨rfl, rfl, rfl⟩, rfl⟩
       refine Tops_step rfl (OpT_move rfl rfl rfl rfl) ?_
       refine Tops_step rfl (OpT_extract rfl rfl rfl rfl rfl) ?_
       refine Tops_step rfl (OpT_extract rfl rfl rfl rfl rfl) ?_
       refine Tops_step rfl (OpT_extract rfl rfl rfl rfl rfl) ?_
       refine Tops_step rfl (OpT_assign rfl rfl rfl rfl) ?_
       refine Tops_step rfl (OpT_assign rfl rfl rfl rfl) ?_
       refine Tops_step rfl (OpT_assign rfl rfl rfl rfl) ?_
       refine Tops_nil (Tk_wkS (fr' := [(3, some (vB packed)), (4, some (vI size)), (5, some (vU64 base)), (8, some (vl1)), (9, some (.pointer (some ⟨b1, 0, none⟩))), (25, some (vU64 where1.1)), (26, some (vI where1.2.1)), (27, some (vI where1.2.2)), (28, some (vU64 where2.1)), (29, some (vI where2.2.1)), (30, some (vI where2.2.2))]) (own' := [some (cellsR b1 27 [vB rp0.Packed, vI rp0.Size, vU64 rp0.Desc, vU64 rp0.Driver, vU64 rp0.Device])]) (shr' := [Fact.sl RegionS vl1 l]) [3, 4, 5, 8, 9, 25, 26, 27, 28, 29, 30] [0] [0] rfl rfl rfl rfl ?_)
       refine Tk_seq (Tk_region (Tops_step rfl (OpT_move rfl rfl rfl rfl) ?_))
       refine Tops_step rfl (OpT_move rfl rfl rfl rfl) ?_
       refine Tops_step rfl (OpT_move rfl rfl rfl rfl) ?_
       obtain ⟨place1, hx11, h⟩ := ob_e h
       refine Tops_exP rfl (OpT_call (w_layout_Place hx11) [] [] rfl rfl rfl rfl rfl callee10 rfl rfl rfl rfl) ?_
       rintro _ ⟨_, _, _, ⟨rfl, rfl, rfl⟩, rfl⟩
       refine Tops_step rfl (OpT_move rfl rfl rfl rfl) ?_
       refine Tops_step rfl (OpT_extract rfl rfl rfl rfl rfl) ?_
       refine Tops_step rfl (OpT_extract rfl rfl rfl rfl rfl) ?_
       refine Tops_step rfl (OpT_extract rfl rfl rfl rfl rfl) ?_
       refine Tops_ex rfl (OpT_alloc rfl rfl rfl tyZ27) fun b2 => ?_
       refine Tops_step rfl (OpT_storeC (cs' := [vB place1.1.Packed, vI place1.1.Size, vU64 place1.1.Desc, vU64 place1.1.Driver, vU64 place1.1.Device]) rfl rfl rfl rfl tyF27 (i := 1) rfl rfl rfl (one_of rfl) rfl) ?_
       refine Tops_step rfl (OpT_assign rfl rfl rfl rfl) ?_
       refine Tops_step rfl (OpT_assign rfl rfl rfl rfl) ?_
       refine Tops_nil (Tk_wkS (fr' := [(3, some (vB packed)), (4, some (vI size)), (5, some (vU64 base)), (8, some (vl1)), (9, some (.pointer (some ⟨b1, 0, none⟩))), (25, some (vU64 where1.1)), (26, some (vI where1.2.1)), (27, some (vI where1.2.2)), (28, some (vU64 where2.1)), (29, some (vI where2.2.1)), (30, some (vI where2.2.2)), (31, some (.pointer (some ⟨b2, 0, none⟩))), (32, some (vU64 place1.2.1)), (33, some (vI place1.2.2))]) (own' := [some (cellsR b1 27 [vB rp0.Packed, vI rp0.Size, vU64 rp0.Desc, vU64 rp0.Driver, vU64 rp0.Device]), some (cellsR b2 27 [vB place1.1.Packed, vI place1.1.Size, vU64 place1.1.Desc, vU64 place1.1.Driver, vU64 place1.1.Device])]) (shr' := [Fact.sl RegionS vl1 l]) [3, 4, 5, 8, 9, 25, 26, 27, 28, 29, 30, 31, 32, 33] [0, 1] [0] rfl rfl rfl rfl ?_)
       refine Tk_seq (Tk_region (Tops_step rfl (OpT_move rfl rfl rfl rfl) ?_))
       refine Tops_step rfl (OpT_move rfl rfl rfl rfl) ?_
       refine Tops_step rfl (OpT_move rfl rfl rfl rfl) ?_
       obtain ⟨place2, hx12, h⟩ := ob_e h
       refine Tops_exP rfl (OpT_call (w_ref_Place04 hx12) [] [] rfl rfl rfl rfl rfl callee23 rfl rfl rfl rfl) ?_
       rintro _ ⟨_, _, _, ⟨rfl, rfl, rfl⟩, rfl⟩
       refine Tops_step rfl (OpT_move rfl rfl rfl rfl) ?_
       refine Tops_step rfl (OpT_extract rfl rfl rfl rfl rfl) ?_
       refine Tops_step rfl (OpT_extract rfl rfl rfl rfl rfl) ?_
       refine Tops_step rfl (OpT_extract rfl rfl rfl rfl rfl) ?_
       refine Tops_ex rfl (OpT_alloc rfl rfl rfl tyZ27) fun b3 => ?_
       refine Tops_step rfl (OpT_storeC (cs' := [vB place2.1.Packed, vI place2.1.Size, vU64 place2.1.Desc, vU64 place2.1.Driver, vU64 place2.1.Device]) rfl rfl rfl rfl tyF27 (i := 2) rfl rfl rfl (one_of rfl) rfl) ?_
       refine Tops_step rfl (OpT_assign rfl rfl rfl rfl) ?_
       refine Tops_step rfl (OpT_assign rfl rfl rfl rfl) ?_
       refine Tops_nil (Tk_wkS (fr' := [(8, some (vl1)), (9, some (.pointer (some ⟨b1, 0, none⟩))), (25, some (vU64 where1.1)), (26, some (vI where1.2.1)), (27, some (vI where1.2.2)), (28, some (vU64 where2.1)), (29, some (vI where2.2.1)), (30, some (vI where2.2.2)), (31, some (.pointer (some ⟨b2, 0, none⟩))), (32, some (vU64 place1.2.1)), (33, some (vI place1.2.2)), (34, some (.pointer (some ⟨b3, 0, none⟩))), (35, some (vU64 place2.2.1)), (36, some (vI place2.2.2))]) (own' := [some (cellsR b1 27 [vB rp0.Packed, vI rp0.Size, vU64 rp0.Desc, vU64 rp0.Driver, vU64 rp0.Device]), some (cellsR b2 27 [vB place1.1.Packed, vI place1.1.Size, vU64 place1.1.Desc, vU64 place1.1.Driver, vU64 place1.1.Device]), some (cellsR b3 27 [vB place2.1.Packed, vI place2.1.Size, vU64 place2.1.Desc, vU64 place2.1.Driver, vU64 place2.1.Device])]) (shr' := [Fact.sl RegionS vl1 l]) [8, 9, 25, 26, 27, 28, 29, 30, 31, 32, 33, 34, 35, 36] [0, 1, 2] [0] rfl rfl rfl rfl ?_)
       refine Tk_seq (Tk_seq (Tk_region (Tops_step rfl (OpT_move rfl rfl rfl rfl) ?_)))
       refine Tops_step rfl (OpT_move rfl rfl rfl rfl) ?_
       refine Tops_step rfl (OpT_bin rfl rfl rfl rfl rfl (bin_neq_u64 (a := where1.1) (b := where2.1))) ?_
       refine Tops_step rfl (OpT_move rfl rfl rfl rfl) ?_
       obtain ⟨hg8, h⟩ := chk_e h
       replace hg8 := not_t hg8
       refine Tops_yes rfl rfl (congrArg (fun b => some (Value.bool b)) hg8) (OpT_move rfl rfl rfl rfl) ?_
       rintro _ rfl
       refine Tops_yes rfl rfl (congrArg (fun b => some (Value.bool b)) hg8) (OpT_move rfl rfl rfl rfl) ?_
       rintro _ rfl
       refine Tops_yes rfl rfl (congrArg (fun b => some (Value.bool b)) hg8) (OpT_bin rfl rfl rfl rfl rfl (bin_neq_i (a := where1.2.1) (b := where2.2.1))) ?_
       rintro _ rfl
       refine Tops_step rfl (OpT_pickF rfl rfl rfl (congrArg (fun b => some (Value.bool b)) hg8) rfl) ?_
       refine Tops_step rfl (OpT_move rfl rfl rfl rfl) ?_
       obtain ⟨hg9, h⟩ := chk_e h
       replace hg9 := not_t hg9
       refine Tops_yes rfl rfl (congrArg (fun b => some (Value.bool b)) hg9) (OpT_move rfl rfl rfl rfl) ?_
       rintro _ rfl
       refine Tops_yes rfl rfl (congrArg (fun b => some (Value.bool b)) hg9) (OpT_move rfl rfl rfl rfl) ?_
       rintro _ rfl
       refine Tops_yes rfl rfl (congrArg (fun b => some (Value.bool b)) hg9) (OpT_bin rfl rfl rfl rfl rfl (bin_neq_i (a := where1.2.2) (b := where2.2.2))) ?_
       rintro _ rfl
       refine Tops_step rfl (OpT_pickF rfl rfl rfl (congrArg (fun b => some (Value.bool b)) hg9) rfl) ?_
       refine Tops_step rfl (OpT_move rfl rfl rfl rfl) ?_
       obtain ⟨hg10, h⟩ := chk_e h
       replace hg10 := not_t hg10
       refine Tops_yes rfl rfl (congrArg (fun b => some (Value.bool b)) hg10) (OpT_loadCA (vs := [vB place1.1.Packed, vI place1.1.Size, vU64 place1.1.Desc, vU64 place1.1.Driver, vU64 place1.1.Device]) rfl rfl rfl rfl tyF27 (i := 1) rfl rfl rfl) ?_
       rintro _ rfl
       refine Tops_yes rfl rfl (congrArg (fun b => some (Value.bool b)) hg10) (OpT_loadCA (vs := [vB place2.1.Packed, vI place2.1.Size, vU64 place2.1.Desc, vU64 place2.1.Driver, vU64 place2.1.Device]) rfl rfl rfl rfl tyF27 (i := 2) rfl rfl rfl) ?_
       rintro _ rfl
       refine Tops_yes rfl rfl (congrArg (fun b => some (Value.bool b)) hg10) (OpT_bin rfl rfl rfl rfl rfl (eqT27_neq place1.1 place2.1)) ?_
       rintro _ rfl
       refine Tops_step rfl (OpT_pickF rfl rfl rfl (congrArg (fun b => some (Value.bool b)) hg10) rfl) ?_
       refine Tops_step rfl (OpT_move rfl rfl rfl rfl) ?_
       obtain ⟨hg11, h⟩ := chk_e h
       replace hg11 := not_t hg11
       refine Tops_yes rfl rfl (congrArg (fun b => some (Value.bool b)) hg11) (OpT_move rfl rfl rfl rfl) ?_
       rintro _ rfl
       refine Tops_yes rfl rfl (congrArg (fun b => some (Value.bool b)) hg11) (OpT_move rfl rfl rfl rfl) ?_
       rintro _ rfl
       refine Tops_yes rfl rfl (congrArg (fun b => some (Value.bool b)) hg11) (OpT_bin rfl rfl rfl rfl rfl (bin_neq_u64 (a := place1.2.1) (b := place2.2.1))) ?_
       rintro _ rfl
       refine Tops_step rfl (OpT_pickF rfl rfl rfl (congrArg (fun b => some (Value.bool b)) hg11) rfl) ?_
       refine Tops_step rfl (OpT_move rfl rfl rfl rfl) ?_
       obtain ⟨hg12, h⟩ := chk_e h
       replace hg12 := not_t hg12
       refine Tops_yes rfl rfl (congrArg (fun b => some (Value.bool b)) hg12) (OpT_move rfl rfl rfl rfl) ?_
       rintro _ rfl
       refine Tops_yes rfl rfl (congrArg (fun b => some (Value.bool b)) hg12) (OpT_move rfl rfl rfl rfl) ?_
       rintro _ rfl
       refine Tops_yes rfl rfl (congrArg (fun b => some (Value.bool b)) hg12) (OpT_bin rfl rfl rfl rfl rfl (bin_neq_i (a := place1.2.2) (b := place2.2.2))) ?_
       rintro _ rfl
       refine Tops_step rfl (OpT_pickF rfl rfl rfl (congrArg (fun b => some (Value.bool b)) hg12) rfl) ?_
       refine Tops_nil (Tk_wkS (fr' := [(8, some (vl1)), (9, some (.pointer (some ⟨b1, 0, none⟩))), (146, some (vB (place1.2.2 != place2.2.2)))]) (own' := [some (cellsR b1 27 [vB rp0.Packed, vI rp0.Size, vU64 rp0.Desc, vU64 rp0.Driver, vU64 rp0.Device])]) (shr' := [Fact.sl RegionS vl1 l]) [8, 9, 146] [0] [0] rfl rfl rfl rfl ?_)
       obtain ⟨hg13, h⟩ := chk_e h
       replace hg13 := not_t hg13
       refine Tk_condF (congrArg (fun b => some (Value.bool b)) hg13) ?_
       refine Tk_skip (Tk_seq (Tk_region (Tops_step rfl (OpT_move rfl rfl rfl rfl) ?_)))
       obtain ⟨region1, hx13, h⟩ := ob_e h
       refine Tops_exP rfl (OpT_call (w_kit_Regions hx13) [] [0] rfl rfl rfl rfl rfl callee24 rfl rfl rfl rfl) ?_
       rintro _ ⟨v1, _, _, ⟨_, rfl, rfl, rfl⟩, rfl⟩
       refine Tops_retire (i := 1) rfl ?_
       obtain ⟨new1, hx14, h⟩ := ob_e h
       refine Tops_exP rfl (OpT_call (w_gmem_New hx14) [] [1] rfl rfl rfl rfl rfl callee16 rfl rfl rfl rfl) ?_
       rintro _ ⟨_, _, _, ⟨v2, rfl, rfl, rfl⟩, rfl⟩
       refine Tops_step rfl (OpT_move rfl rfl rfl rfl) ?_
       refine Tops_step rfl (OpT_extract rfl rfl rfl rfl rfl) ?_
       refine Tops_step rfl (OpT_extract rfl rfl rfl rfl rfl) ?_
       refine Tops_step rfl (OpT_assign rfl rfl rfl rfl) ?_
       refine Tops_step rfl (OpT_assign rfl rfl rfl rfl) ?_
       refine Tops_nil (Tk_wkS (fr' := [(8, some (vl1)), (9, some (.pointer (some ⟨b1, 0, none⟩))), (37, some (v2)), (27, some (vI new1.2))]) (own' := [some (cellsR b1 27 [vB rp0.Packed, vI rp0.Size, vU64 rp0.Desc, vU64 rp0.Driver, vU64 rp0.Device]), some (optR 72 RegionS u8S true gmem_Mem.l gmem_Mem.b v2 new1.1)]) (shr' := [Fact.sl RegionS vl1 l]) [8, 9, 37, 27] [0, 2] [0] rfl rfl rfl rfl ?_)
       rcases onO_cases h with ⟨ho1, h⟩ | ⟨mem2, ho1, h⟩
       ·refine Tk_optN (i := 1) rfl ho1 ?_
        rintro rfl
        refine Tk_seq (Tk_region (Tops_step rfl (OpT_move rfl rfl rfl rfl) ?_))
        obtain ⟨new2, hx15, h⟩ := ob_e h
        refine Tops_exP rfl (OpT_call (w_ref_New02 hx15) [] [0] rfl rfl rfl rfl rfl callee25 rfl rfl rfl rfl) ?_
        rintro _ ⟨_, _, _, ⟨v3, rfl, rfl, rfl⟩, rfl⟩
        refine Tops_step rfl (OpT_move rfl rfl rfl rfl) ?_
        refine Tops_step rfl (OpT_extract rfl rfl rfl rfl rfl) ?_
        refine Tops_step rfl (OpT_extract rfl rfl rfl rfl rfl) ?_
        refine Tops_step rfl (OpT_assign rfl rfl rfl rfl) ?_
        refine Tops_step rfl (OpT_assign rfl rfl rfl rfl) ?_
        refine Tops_nil (Tk_wkS (fr' := [(9, some (.pointer (some ⟨b1, 0, none⟩))), (37, some (.pointer none)), (27, some (vI new1.2)), (38, some (v3)), (30, some (vI new2.2))]) (own' := [some (cellsR b1 27 [vB rp0.Packed, vI rp0.Size, vU64 rp0.Desc, vU64 rp0.Driver, vU64 rp0.Device]), some (optR 79 RegionS u8S false dumbwaiterref02_Mem.L dumbwaiterref02_Mem.B v3 new2.1)]) (shr' := []) [9, 37, 27, 38, 30] [0, 2] [] rfl rfl rfl rfl ?_)
        rcases onO_cases h with ⟨ho2, h⟩ | ⟨mem1, ho2, h⟩
        ·refine Tk_optN (i := 1) rfl ho2 ?_
         rintro rfl
         refine Tk_seq (Tk_drawT (by kernel_rfl) ?_)
         refine TA_tb [0, 0, 3, 7, 15, 15, 63, 15, 15, 511, 1023, 2047, 4095] (by kernel_rfl) fun htb => ?_
         refine TA_seg (lo := 0) (hi := 2) htb rfl rfl (by kernel_rfl) (fun c L a w => Sat c ⟨[(9, some (.pointer (some ⟨b1, 0, none⟩))), (37, some (.pointer none)), (27, some (vI new1.2)), (38, some (.pointer none)), (30, some (vI new2.2)), (158, bif L 0 then some (vI new1.2) else none), (159, bif L 1 then some (vI new2.2) else none)], [(some (cellsR b1 27 [vB rp0.Packed, vI rp0.Size, vU64 rp0.Desc, vU64 rp0.Driver, vU64 rp0.Device]) : Option Res), (none : Option Res)], []⟩ a w) [([], []), ([], [])] rfl (by kernel_rfl) ?_ (steps_cons ?_ (steps_cons ?_ (steps_nil))) ?_
         ·intro a w hs
          exact hs.startF [158, 159] [0, 1] [] rfl rfl rfl rfl
         ·intro L a w hv K Q hK
          have hs := hv
          refine wpOp_go rfl rfl hs (OpT_move rfl rfl rfl rfl) ?_
          rintro _ rfl a' w' hs'
          exact hK a' w' (hs'.putF (i := 5) rfl [0, 1] [] rfl rfl rfl rfl)
         ·intro L a w hv K Q hK
          have hs := hv
          refine wpOp_go rfl rfl hs (OpT_move rfl rfl rfl rfl) ?_
          rintro _ rfl a' w' hs'
          exact hK a' w' (hs'.putF (i := 6) rfl [0, 1] [] rfl rfl rfl rfl)
         ·intro L a w hL hv
          rw [allTrue hL] at hv
          have hs := hv
          refine (show TA _ _ _ 2 ⟨[(9, some (.pointer (some ⟨b1, 0, none⟩))), (37, some (.pointer none)), (38, some (.pointer none)), (158, some (vI new1.2)), (159, some (vI new2.2))], [some (cellsR b1 27 [vB rp0.Packed, vI rp0.Size, vU64 rp0.Desc, vU64 rp0.Driver, vU64 rp0.Device])], []⟩ from ?_) a w (hs.wkS [9, 37, 38, 158, 159] [0] [] rfl rfl rfl rfl)
          clear hs hL
          refine TA_step htb (by kernel_rfl) rfl rfl (OpT_bin rfl rfl rfl rfl rfl (bin_eql_i (a := new1.2) (b := new2.2))) ?_
          refine TA_step htb (by kernel_rfl) rfl rfl (OpT_move rfl rfl rfl rfl) ?_
          refine TA_wkS (fr' := [(9, some (.pointer (some ⟨b1, 0, none⟩))), (37, some (.pointer none)), (38, some (.pointer none)), (161, some (vB (new1.2 == new2.2)))]) (own' := [some (cellsR b1 27 [vB rp0.Packed, vI rp0.Size, vU64 rp0.Desc, vU64 rp0.Driver, vU64 rp0.Device])]) (shr' := []) [9, 37, 38, 161] [0] [] rfl rfl rfl rfl ?_
          obtain ⟨hg14, h⟩ := chk_e h
          obtain ⟨fits1, hx16, h⟩ := ob_e h
          refine TA_seg (lo := 4) (hi := 9) htb rfl rfl (by kernel_rfl) (fun c L a w => Sat c ⟨[(9, some (.pointer (some ⟨b1, 0, none⟩))), (37, some (.pointer none)), (38, some (.pointer none)), (161, some (vB (new1.2 == new2.2))), (162, bif L 4 then some (.pointer none) else none), (163, bif L 5 then some (.agg #[vB rp0.Packed, vI rp0.Size, vU64 rp0.Desc, vU64 rp0.Driver, vU64 rp0.Device]) else none), (164, bif L 6 then some (vI fits1) else none), (165, bif L 7 then some (.pointer none) else none), (166, bif L 8 then some (.agg #[vB rp0.Packed, vI rp0.Size, vU64 rp0.Desc, vU64 rp0.Driver, vU64 rp0.Device]) else none)], [(some (cellsR b1 27 [vB rp0.Packed, vI rp0.Size, vU64 rp0.Desc, vU64 rp0.Driver, vU64 rp0.Device]) : Option Res)], []⟩ a w) [([], [6]), ([], [6]), ([4, 5], []), ([], []), ([], [])] rfl (by kernel_rfl) ?_ (steps_cons ?_ (steps_cons ?_ (steps_cons ?_ (steps_cons ?_ (steps_cons ?_ (steps_nil)))))) ?_
          ·intro a w hs
           exact hs.startF [162, 163, 164, 165, 166] [0] [] rfl rfl rfl rfl
          ·intro L a w hv K Q hK
           have hs := hv
           refine wpOp_yes rfl rfl rfl hs (congrArg (fun b => some (Value.bool b)) hg14) (OpT_move rfl rfl rfl rfl) ?_
           rintro _ rfl a' w' hs'
           exact hK a' w' (hs'.putF (i := 4) rfl [0] [] rfl rfl rfl rfl)
          ·intro L a w hv K Q hK
           have hs := hv
           refine wpOp_yes rfl rfl rfl hs (congrArg (fun b => some (Value.bool b)) hg14) (OpT_loadCA (vs := [vB rp0.Packed, vI rp0.Size, vU64 rp0.Desc, vU64 rp0.Driver, vU64 rp0.Device]) rfl rfl rfl rfl tyF27 (i := 0) rfl rfl rfl) ?_
           rintro _ rfl a' w' hs'
           exact hK a' w' (hs'.putF (i := 5) rfl [0] [] rfl rfl rfl rfl)
          ·intro L a w hv K Q hK
           have hs := hv
           refine wpOp_yes rfl rfl rfl hs (congrArg (fun b => some (Value.bool b)) hg14) (OpT_call (w_layout_Fitsn0 hx16) [] [] rfl rfl rfl rfl rfl callee17 rfl rfl rfl rfl) ?_
           rintro _ ⟨_, _, _, ⟨rfl, rfl, rfl⟩, rfl⟩ a' w' hs'
           exact hK a' w' (hs'.putF (i := 6) rfl [0] [] rfl rfl rfl rfl)
          ·intro L a w hv K Q hK
           have hs := hv
           refine wpOp_yes rfl rfl rfl hs (congrArg (fun b => some (Value.bool b)) hg14) (OpT_move rfl rfl rfl rfl) ?_
           rintro _ rfl a' w' hs'
           exact hK a' w' (hs'.putF (i := 7) rfl [0] [] rfl rfl rfl rfl)
          ·intro L a w hv K Q hK
           have hs := hv
           refine wpOp_yes rfl rfl rfl hs (congrArg (fun b => some (Value.bool b)) hg14) (OpT_loadCA (vs := [vB rp0.Packed, vI rp0.Size, vU64 rp0.Desc, vU64 rp0.Driver, vU64 rp0.Device]) rfl rfl rfl rfl tyF27 (i := 0) rfl rfl rfl) ?_
           rintro _ rfl a' w' hs'
           exact hK a' w' (hs'.putF (i := 8) rfl [0] [] rfl rfl rfl rfl)
          ·intro L a w hL hv
           rw [allTrue hL] at hv
           have hs := hv
           refine (show TA _ _ _ 9 ⟨[(161, some (vB (new1.2 == new2.2))), (164, some (vI fits1)), (165, some (.pointer none)), (166, some (.agg #[vB rp0.Packed, vI rp0.Size, vU64 rp0.Desc, vU64 rp0.Driver, vU64 rp0.Device]))], [], []⟩ from ?_) a w (hs.wkS [161, 164, 165, 166] [] [] rfl rfl rfl rfl)
           clear hs hL
           obtain ⟨fits2, hx17, h⟩ := ob_e h
           refine TA_yes htb (by kernel_rfl) rfl rfl rfl (congrArg (fun b => some (Value.bool b)) hg14) (OpT_call (w_ref_Fits04n0 hx17) [] [] rfl rfl rfl rfl rfl callee26 rfl rfl rfl rfl) ?_
           rintro _ ⟨_, _, _, ⟨rfl, rfl, rfl⟩, rfl⟩
           refine TA_yes htb (by kernel_rfl) rfl rfl rfl (congrArg (fun b => some (Value.bool b)) hg14) (OpT_bin rfl rfl rfl rfl rfl (bin_eql_i (a := fits1) (b := fits2))) ?_
           rintro _ rfl
           refine TA_step htb (by kernel_rfl) rfl rfl (OpT_pickT rfl rfl rfl (congrArg (fun b => some (Value.bool b)) hg14) rfl) ?_
           refine TA_step htb (by kernel_rfl) rfl rfl (OpT_assign rfl rfl rfl rfl) ?_
           refine TA_end rfl ?_
           refine Tk_wkS (fr' := [(18, some (vB (fits1 == fits2)))]) (own' := []) (shr' := []) [18] [] [] rfl rfl rfl rfl ?_
           obtain ⟨hg15, h⟩ := chk_e h
           exact Tk_retV rfl rfl (resA (vs := [.bool true]) rfl ⟨(congrArg (fun b => some (Value.bool b)) hg15), trivial⟩) [] [] rfl rfl rfl ⟨rfl, rfl, rfl⟩
        ·refine Tk_optS (i := 1) rfl ho2 ?_
         rintro b4 v4 v5 vs1 rfl
         refine Tk_seq (Tk_drawT (by kernel_rfl) ?_)
         refine TA_tb [0, 0, 3, 7, 15, 15, 63, 15, 15, 511, 1023, 2047, 4095] (by kernel_rfl) fun htb => ?_
         refine TA_seg (lo := 0) (hi := 2) htb rfl rfl (by kernel_rfl) (fun c L a w => Sat c ⟨[(9, some (.pointer (some ⟨b1, 0, none⟩))), (37, some (.pointer none)), (27, some (vI new1.2)), (38, some (.pointer (some ⟨b4, 0, none⟩))), (30, some (vI new2.2)), (158, bif L 0 then some (vI new1.2) else none), (159, bif L 1 then some (vI new2.2) else none)], [(some (cellsR b1 27 [vB rp0.Packed, vI rp0.Size, vU64 rp0.Desc, vU64 rp0.Driver, vU64 rp0.Device]) : Option Res), (some (cellsR b4 79 [v4, v5]) : Option Res), (some (rowsX u8S false v5 vs1 mem1.B none) : Option Res)], [Fact.sl RegionS v4 mem1.L]⟩ a w) [([], []), ([], [])] rfl (by kernel_rfl) ?_ (steps_cons ?_ (steps_cons ?_ (steps_nil))) ?_
         ·intro a w hs
          exact hs.startF [158, 159] [0, 1, 2] [0] rfl rfl rfl rfl
         ·intro L a w hv K Q hK
          have hs := hv
          refine wpOp_go rfl rfl hs (OpT_move rfl rfl rfl rfl) ?_
          rintro _ rfl a' w' hs'
          exact hK a' w' (hs'.putF (i := 5) rfl [0, 1, 2] [0] rfl rfl rfl rfl)
         ·intro L a w hv K Q hK
          have hs := hv
          refine wpOp_go rfl rfl hs (OpT_move rfl rfl rfl rfl) ?_
          rintro _ rfl a' w' hs'
          exact hK a' w' (hs'.putF (i := 6) rfl [0, 1, 2] [0] rfl rfl rfl rfl)
         ·intro L a w hL hv
          rw [allTrue hL] at hv
          have hs := hv
          refine (show TA _ _ _ 2 ⟨[(9, some (.pointer (some ⟨b1, 0, none⟩))), (37, some (.pointer none)), (38, some (.pointer (some ⟨b4, 0, none⟩))), (158, some (vI new1.2)), (159, some (vI new2.2))], [some (cellsR b1 27 [vB rp0.Packed, vI rp0.Size, vU64 rp0.Desc, vU64 rp0.Driver, vU64 rp0.Device]), some (cellsR b4 79 [v4, v5]), some (rowsX u8S false v5 vs1 mem1.B none)], [Fact.sl RegionS v4 mem1.L]⟩ from ?_) a w (hs.wkS [9, 37, 38, 158, 159] [0, 1, 2] [0] rfl rfl rfl rfl)
          clear hs hL
          refine TA_step htb (by kernel_rfl) rfl rfl (OpT_bin rfl rfl rfl rfl rfl (bin_eql_i (a := new1.2) (b := new2.2))) ?_
          refine TA_step htb (by kernel_rfl) rfl rfl (OpT_move rfl rfl rfl rfl) ?_
          refine TA_wkS (fr' := [(9, some (.pointer (some ⟨b1, 0, none⟩))), (37, some (.pointer none)), (38, some (.pointer (some ⟨b4, 0, none⟩))), (161, some (vB (new1.2 == new2.2)))]) (own' := [some (cellsR b1 27 [vB rp0.Packed, vI rp0.Size, vU64 rp0.Desc, vU64 rp0.Driver, vU64 rp0.Device]), some (cellsR b4 79 [v4, v5]), some (rowsX u8S false v5 vs1 mem1.B none)]) (shr' := [Fact.sl RegionS v4 mem1.L]) [9, 37, 38, 161] [0, 1, 2] [0] rfl rfl rfl rfl ?_
          obtain ⟨hg16, h⟩ := chk_e h
          obtain ⟨fits3, hx18, h⟩ := ob_e h
          refine TA_seg (lo := 4) (hi := 9) htb rfl rfl (by kernel_rfl) (fun c L a w => Sat c ⟨[(9, some (.pointer (some ⟨b1, 0, none⟩))), (37, some (.pointer none)), (38, some (.pointer (some ⟨b4, 0, none⟩))), (161, some (vB (new1.2 == new2.2))), (162, bif L 4 then some (.pointer none) else none), (163, bif L 5 then some (.agg #[vB rp0.Packed, vI rp0.Size, vU64 rp0.Desc, vU64 rp0.Driver, vU64 rp0.Device]) else none), (164, bif L 6 then some (vI fits3) else none), (165, bif L 7 then some (.pointer (some ⟨b4, 0, none⟩)) else none), (166, bif L 8 then some (.agg #[vB rp0.Packed, vI rp0.Size, vU64 rp0.Desc, vU64 rp0.Driver, vU64 rp0.Device]) else none)], [(some (cellsR b1 27 [vB rp0.Packed, vI rp0.Size, vU64 rp0.Desc, vU64 rp0.Driver, vU64 rp0.Device]) : Option Res), (some (cellsR b4 79 [v4, v5]) : Option Res), (some (rowsX u8S false v5 vs1 mem1.B none) : Option Res)], [Fact.sl RegionS v4 mem1.L]⟩ a w) [([], [6]), ([], [6]), ([4, 5], []), ([], []), ([], [])] rfl (by kernel_rfl) ?_ (steps_cons ?_ (steps_cons ?_ (steps_cons ?_ (steps_cons ?_ (steps_cons ?_ (steps_nil)))))) ?_
          ·intro a w hs
           exact hs.startF [162, 163, 164, 165, 166] [0, 1, 2] [0] rfl rfl rfl rfl
          ·intro L a w hv K Q hK
           have hs := hv
           refine wpOp_yes rfl rfl rfl hs (congrArg (fun b => some (Value.bool b)) hg16) (OpT_move rfl rfl rfl rfl) ?_
           rintro _ rfl a' w' hs'
           exact hK a' w' (hs'.putF (i := 4) rfl [0, 1, 2] [0] rfl rfl rfl rfl)
          ·intro L a w hv K Q hK
           have hs := hv
           refine wpOp_yes rfl rfl rfl hs (congrArg (fun b => some (Value.bool b)) hg16) (OpT_loadCA (vs := [vB rp0.Packed, vI rp0.Size, vU64 rp0.Desc, vU64 rp0.Driver, vU64 rp0.Device]) rfl rfl rfl rfl tyF27 (i := 0) rfl rfl rfl) ?_
           rintro _ rfl a' w' hs'
           exact hK a' w' (hs'.putF (i := 5) rfl [0, 1, 2] [0] rfl rfl rfl rfl)
          ·intro L a w hv K Q hK
           have hs := hv
           refine wpOp_yes rfl rfl rfl hs (congrArg (fun b => some (Value.bool b)) hg16) (OpT_call (w_layout_Fitsn0 hx18) [] [] rfl rfl rfl rfl rfl callee17 rfl rfl rfl rfl) ?_
           rintro _ ⟨_, _, _, ⟨rfl, rfl, rfl⟩, rfl⟩ a' w' hs'
           exact hK a' w' (hs'.putF (i := 6) rfl [0, 1, 2] [0] rfl rfl rfl rfl)
          ·intro L a w hv K Q hK
           have hs := hv
           refine wpOp_yes rfl rfl rfl hs (congrArg (fun b => some (Value.bool b)) hg16) (OpT_move rfl rfl rfl rfl) ?_
           rintro _ rfl a' w' hs'
           exact hK a' w' (hs'.putF (i := 7) rfl [0, 1, 2] [0] rfl rfl rfl rfl)
          ·intro L a w hv K Q hK
           have hs := hv
           refine wpOp_yes rfl rfl rfl hs (congrArg (fun b => some (Value.bool b)) hg16) (OpT_loadCA (vs := [vB rp0.Packed, vI rp0.Size, vU64 rp0.Desc, vU64 rp0.Driver, vU64 rp0.Device]) rfl rfl rfl rfl tyF27 (i := 0) rfl rfl rfl) ?_
           rintro _ rfl a' w' hs'
           exact hK a' w' (hs'.putF (i := 8) rfl [0, 1, 2] [0] rfl rfl rfl rfl)
          ·intro L a w hL hv
           rw [allTrue hL] at hv
           have hs := hv
           refine (show TA _ _ _ 9 ⟨[(161, some (vB (new1.2 == new2.2))), (164, some (vI fits3)), (165, some (.pointer (some ⟨b4, 0, none⟩))), (166, some (.agg #[vB rp0.Packed, vI rp0.Size, vU64 rp0.Desc, vU64 rp0.Driver, vU64 rp0.Device]))], [some (cellsR b4 79 [v4, v5]), some (rowsX u8S false v5 vs1 mem1.B none)], [Fact.sl RegionS v4 mem1.L]⟩ from ?_) a w (hs.wkS [161, 164, 165, 166] [1, 2] [0] rfl rfl rfl rfl)
           clear hs hL
           obtain ⟨fits4, hx19, h⟩ := ob_e h
           refine TA_yes htb (by kernel_rfl) rfl rfl rfl (congrArg (fun b => some (Value.bool b)) hg16) (OpT_callP [2, 3] (w_ref_Fits04 hx19) [0, 1] [0] rfl rfl rfl rfl rfl callee26 rfl rfl rfl rfl rfl) ?_
           rintro _ ⟨_, _, _, ⟨rfl, rfl, rfl⟩, rfl⟩
           refine TA_yes htb (by kernel_rfl) rfl rfl rfl (congrArg (fun b => some (Value.bool b)) hg16) (OpT_bin rfl rfl rfl rfl rfl (bin_eql_i (a := fits3) (b := fits4))) ?_
           rintro _ rfl
           refine TA_step htb (by kernel_rfl) rfl rfl (OpT_pickT rfl rfl rfl (congrArg (fun b => some (Value.bool b)) hg16) rfl) ?_
           refine TA_step htb (by kernel_rfl) rfl rfl (OpT_assign rfl rfl rfl rfl) ?_
           refine TA_end rfl ?_
           refine Tk_wkS (fr' := [(18, some (vB (fits3 == fits4)))]) (own' := []) (shr' := []) [18] [] [] rfl rfl rfl rfl ?_
           obtain ⟨hg17, h⟩ := chk_e h
           exact Tk_retV rfl rfl (resA (vs := [.bool true]) rfl ⟨(congrArg (fun b => some (Value.bool b)) hg17), trivial⟩) [] [] rfl rfl rfl ⟨rfl, rfl, rfl⟩
       ·refine Tk_optS (i := 1) rfl ho1 ?_
        rintro b5 v6 v7 vs2 rfl
        refine Tk_seq (Tk_region (Tops_step rfl (OpT_move rfl rfl rfl rfl) ?_))
        obtain ⟨new3, hx20, h⟩ := ob_e h
        refine Tops_exP rfl (OpT_call (w_ref_New02 hx20) [] [0] rfl rfl rfl rfl rfl callee25 rfl rfl rfl rfl) ?_
        rintro _ ⟨_, _, _, ⟨v8, rfl, rfl, rfl⟩, rfl⟩
        refine Tops_step rfl (OpT_move rfl rfl rfl rfl) ?_
        refine Tops_step rfl (OpT_extract rfl rfl rfl rfl rfl) ?_
        refine Tops_step rfl (OpT_extract rfl rfl rfl rfl rfl) ?_
        refine Tops_step rfl (OpT_assign rfl rfl rfl rfl) ?_
        refine Tops_step rfl (OpT_assign rfl rfl rfl rfl) ?_
        refine Tops_nil (Tk_wkS (fr' := [(9, some (.pointer (some ⟨b1, 0, none⟩))), (37, some (.pointer (some ⟨b5, 0, none⟩))), (27, some (vI new1.2)), (38, some (v8)), (30, some (vI new3.2))]) (own' := [some (cellsR b1 27 [vB rp0.Packed, vI rp0.Size, vU64 rp0.Desc, vU64 rp0.Driver, vU64 rp0.Device]), some (cellsR b5 72 [v6, v7]), some (rowsX u8S true v7 vs2 mem2.b none), some (optR 79 RegionS u8S false dumbwaiterref02_Mem.L dumbwaiterref02_Mem.B v8 new3.1)]) (shr' := [Fact.sl RegionS v6 mem2.l]) [9, 37, 27, 38, 30] [0, 1, 2, 3] [1] rfl rfl rfl rfl ?_)
        rcases onO_cases h with ⟨ho3, h⟩ | ⟨mem3, ho3, h⟩
        ·refine Tk_optN (i := 3) rfl ho3 ?_
         rintro rfl
         refine Tk_seq (Tk_drawT (by kernel_rfl) ?_)
         refine TA_tb [0, 0, 3, 7, 15, 15, 63, 15, 15, 511, 1023, 2047, 4095] (by kernel_rfl) fun htb => ?_
         refine TA_seg (lo := 0) (hi := 2) htb rfl rfl (by kernel_rfl) (fun c L a w => Sat c ⟨[(9, some (.pointer (some ⟨b1, 0, none⟩))), (37, some (.pointer (some ⟨b5, 0, none⟩))), (27, some (vI new1.2)), (38, some (.pointer none)), (30, some (vI new3.2)), (158, bif L 0 then some (vI new1.2) else none), (159, bif L 1 then some (vI new3.2) else none)], [(some (cellsR b1 27 [vB rp0.Packed, vI rp0.Size, vU64 rp0.Desc, vU64 rp0.Driver, vU64 rp0.Device]) : Option Res), (some (cellsR b5 72 [v6, v7]) : Option Res), (some (rowsX u8S true v7 vs2 mem2.b none) : Option Res), (none : Option Res)], [Fact.sl RegionS v6 mem2.l]⟩ a w) [([], []), ([], [])] rfl (by kernel_rfl) ?_ (steps_cons ?_ (steps_cons ?_ (steps_nil))) ?_
         ·intro a w hs
          exact hs.startF [158, 159] [0, 1, 2, 3] [0] rfl rfl rfl rfl
         ·intro L a w hv K Q hK
          have hs := hv
          refine wpOp_go rfl rfl hs (OpT_move rfl rfl rfl rfl) ?_
          rintro _ rfl a' w' hs'
          exact hK a' w' (hs'.putF (i := 5) rfl [0, 1, 2, 3] [0] rfl rfl rfl rfl)
         ·intro L a w hv K Q hK
          have hs := hv
          refine wpOp_go rfl rfl hs (OpT_move rfl rfl rfl rfl) ?_
          rintro _ rfl a' w' hs'
          exact hK a' w' (hs'.putF (i := 6) rfl [0, 1, 2, 3] [0] rfl rfl rfl rfl)
         ·intro L a w hL hv
          rw [allTrue hL] at hv
          have hs := hv
          refine (show TA _ _ _ 2 ⟨[(9, some (.pointer (some ⟨b1, 0, none⟩))), (37, some (.pointer (some ⟨b5, 0, none⟩))), (38, some (.pointer none)), (158, some (vI new1.2)), (159, some (vI new3.2))], [some (cellsR b1 27 [vB rp0.Packed, vI rp0.Size, vU64 rp0.Desc, vU64 rp0.Driver, vU64 rp0.Device]), some (cellsR b5 72 [v6, v7]), some (rowsX u8S true v7 vs2 mem2.b none)], [Fact.sl RegionS v6 mem2.l]⟩ from ?_) a w (hs.wkS [9, 37, 38, 158, 159] [0, 1, 2] [0] rfl rfl rfl rfl)
          clear hs hL
          refine TA_step htb (by kernel_rfl) rfl rfl (OpT_bin rfl rfl rfl rfl rfl (bin_eql_i (a := new1.2) (b := new3.2))) ?_
          refine TA_step htb (by kernel_rfl) rfl rfl (OpT_move rfl rfl rfl rfl) ?_
          refine TA_wkS (fr' := [(9, some (.pointer (some ⟨b1, 0, none⟩))), (37, some (.pointer (some ⟨b5, 0, none⟩))), (38, some (.pointer none)), (161, some (vB (new1.2 == new3.2)))]) (own' := [some (cellsR b1 27 [vB rp0.Packed, vI rp0.Size, vU64 rp0.Desc, vU64 rp0.Driver, vU64 rp0.Device]), some (cellsR b5 72 [v6, v7]), some (rowsX u8S true v7 vs2 mem2.b none)]) (shr' := [Fact.sl RegionS v6 mem2.l]) [9, 37, 38, 161] [0, 1, 2] [0] rfl rfl rfl rfl ?_
          obtain ⟨hg18, h⟩ := chk_e h
          obtain ⟨fits5, hx21, h⟩ := ob_e h
          refine TA_seg (lo := 4) (hi := 9) htb rfl rfl (by kernel_rfl) (fun c L a w => Sat c ⟨[(9, some (.pointer (some ⟨b1, 0, none⟩))), (37, some (.pointer (some ⟨b5, 0, none⟩))), (38, some (.pointer none)), (161, some (vB (new1.2 == new3.2))), (162, bif L 4 then some (.pointer (some ⟨b5, 0, none⟩)) else none), (163, bif L 5 then some (.agg #[vB rp0.Packed, vI rp0.Size, vU64 rp0.Desc, vU64 rp0.Driver, vU64 rp0.Device]) else none), (164, bif L 6 then some (vI fits5) else none), (165, bif L 7 then some (.pointer none) else none), (166, bif L 8 then some (.agg #[vB rp0.Packed, vI rp0.Size, vU64 rp0.Desc, vU64 rp0.Driver, vU64 rp0.Device]) else none)], [(some (cellsR b1 27 [vB rp0.Packed, vI rp0.Size, vU64 rp0.Desc, vU64 rp0.Driver, vU64 rp0.Device]) : Option Res), (some (cellsR b5 72 [v6, v7]) : Option Res), (some (rowsX u8S true v7 vs2 mem2.b none) : Option Res)], [Fact.sl RegionS v6 mem2.l]⟩ a w) [([], [6]), ([], [6]), ([4, 5], []), ([], []), ([], [])] rfl (by kernel_rfl) ?_ (steps_cons ?_ (steps_cons ?_ (steps_cons ?_ (steps_cons ?_ (steps_cons ?_ (steps_nil)))))) ?_
          ·intro a w hs
           exact hs.startF [162, 163, 164, 165, 166] [0, 1, 2] [0] rfl rfl rfl rfl
          ·intro L a w hv K Q hK
           have hs := hv
           refine wpOp_yes rfl rfl rfl hs (congrArg (fun b => some (Value.bool b)) hg18) (OpT_move rfl rfl rfl rfl) ?_
           rintro _ rfl a' w' hs'
           exact hK a' w' (hs'.putF (i := 4) rfl [0, 1, 2] [0] rfl rfl rfl rfl)
          ·intro L a w hv K Q hK
           have hs := hv
           refine wpOp_yes rfl rfl rfl hs (congrArg (fun b => some (Value.bool b)) hg18) (OpT_loadCA (vs := [vB rp0.Packed, vI rp0.Size, vU64 rp0.Desc, vU64 rp0.Driver, vU64 rp0.Device]) rfl rfl rfl rfl tyF27 (i := 0) rfl rfl rfl) ?_
           rintro _ rfl a' w' hs'
           exact hK a' w' (hs'.putF (i := 5) rfl [0, 1, 2] [0] rfl rfl rfl rfl)
          ·intro L a w hv K Q hK
           have hs := hv
           refine wpOp_yes rfl rfl rfl hs (congrArg (fun b => some (Value.bool b)) hg18) (OpT_callP [0, 3, 4] (w_layout_Fits hx21) [1, 2] [0] rfl rfl rfl rfl rfl callee17 rfl rfl rfl rfl rfl) ?_
           rintro _ ⟨_, _, _, ⟨rfl, rfl, rfl⟩, rfl⟩ a' w' hs'
           exact hK a' w' (hs'.putF (i := 6) rfl [0, 1, 2] [0] rfl rfl rfl rfl)
          ·intro L a w hv K Q hK
           have hs := hv
           refine wpOp_yes rfl rfl rfl hs (congrArg (fun b => some (Value.bool b)) hg18) (OpT_move rfl rfl rfl rfl) ?_
           rintro _ rfl a' w' hs'
           exact hK a' w' (hs'.putF (i := 7) rfl [0, 1, 2] [0] rfl rfl rfl rfl)
          ·intro L a w hv K Q hK
           have hs := hv
           refine wpOp_yes rfl rfl rfl hs (congrArg (fun b => some (Value.bool b)) hg18) (OpT_loadCA (vs := [vB rp0.Packed, vI rp0.Size, vU64 rp0.Desc, vU64 rp0.Driver, vU64 rp0.Device]) rfl rfl rfl rfl tyF27 (i := 0) rfl rfl rfl) ?_
           rintro _ rfl a' w' hs'
           exact hK a' w' (hs'.putF (i := 8) rfl [0, 1, 2] [0] rfl rfl rfl rfl)
          ·intro L a w hL hv
           rw [allTrue hL] at hv
           have hs := hv
           refine (show TA _ _ _ 9 ⟨[(161, some (vB (new1.2 == new3.2))), (164, some (vI fits5)), (165, some (.pointer none)), (166, some (.agg #[vB rp0.Packed, vI rp0.Size, vU64 rp0.Desc, vU64 rp0.Driver, vU64 rp0.Device]))], [], []⟩ from ?_) a w (hs.wkS [161, 164, 165, 166] [] [] rfl rfl rfl rfl)
           clear hs hL
           obtain ⟨fits6, hx22, h⟩ := ob_e h
           refine TA_yes htb (by kernel_rfl) rfl rfl rfl (congrArg (fun b => some (Value.bool b)) hg18) (OpT_call (w_ref_Fits04n0 hx22) [] [] rfl rfl rfl rfl rfl callee26 rfl rfl rfl rfl) ?_
           rintro _ ⟨_, _, _, ⟨rfl, rfl, rfl⟩, rfl⟩
           refine TA_yes htb (by kernel_rfl) rfl rfl rfl (congrArg (fun b => some (Value.bool b)) hg18) (OpT_bin rfl rfl rfl rfl rfl (bin_eql_i (a := fits5) (b := fits6))) ?_
           rintro _ rfl
           refine TA_step htb (by kernel_rfl) rfl rfl (OpT_pickT rfl rfl rfl (congrArg (fun b => some (Value.bool b)) hg18) rfl) ?_
           refine TA_step htb (by kernel_rfl) rfl rfl (OpT_assign rfl rfl rfl rfl) ?_
           refine TA_end rfl ?_
           refine Tk_wkS (fr' := [(18, some (vB (fits5 == fits6)))]) (own' := []) (shr' := []) [18] [] [] rfl rfl rfl rfl ?_
           obtain ⟨hg19, h⟩ := chk_e h
           exact Tk_retV rfl rfl (resA (vs := [.bool true]) rfl ⟨(congrArg (fun b => some (Value.bool b)) hg19), trivial⟩) [] [] rfl rfl rfl ⟨rfl, rfl, rfl⟩
        ·refine Tk_optS (i := 3) rfl ho3 ?_
         rintro b6 v9 v10 vs3 rfl
         refine Tk_seq (Tk_drawT (by kernel_rfl) ?_)
         refine TA_tb [0, 0, 3, 7, 15, 15, 63, 15, 15, 511, 1023, 2047, 4095] (by kernel_rfl) fun htb => ?_
         refine TA_seg (lo := 0) (hi := 2) htb rfl rfl (by kernel_rfl) (fun c L a w => Sat c ⟨[(9, some (.pointer (some ⟨b1, 0, none⟩))), (37, some (.pointer (some ⟨b5, 0, none⟩))), (27, some (vI new1.2)), (38, some (.pointer (some ⟨b6, 0, none⟩))), (30, some (vI new3.2)), (158, bif L 0 then some (vI new1.2) else none), (159, bif L 1 then some (vI new3.2) else none)], [(some (cellsR b1 27 [vB rp0.Packed, vI rp0.Size, vU64 rp0.Desc, vU64 rp0.Driver, vU64 rp0.Device]) : Option Res), (some (cellsR b5 72 [v6, v7]) : Option Res), (some (rowsX u8S true v7 vs2 mem2.b none) : Option Res), (some (cellsR b6 79 [v9, v10]) : Option Res), (some (rowsX u8S false v10 vs3 mem3.B none) : Option Res)], [Fact.sl RegionS v6 mem2.l, Fact.sl RegionS v9 mem3.L]⟩ a w) [([], []), ([], [])] rfl (by kernel_rfl) ?_ (steps_cons ?_ (steps_cons ?_ (steps_nil))) ?_
         ·intro a w hs
          exact hs.startF [158, 159] [0, 1, 2, 3, 4] [0, 1] rfl rfl rfl rfl
         ·intro L a w hv K Q hK
          have hs := hv
          refine wpOp_go rfl rfl hs (OpT_move rfl rfl rfl rfl) ?_
          rintro _ rfl a' w' hs'
          exact hK a' w' (hs'.putF (i := 5) rfl [0, 1, 2, 3, 4] [0, 1] rfl rfl rfl rfl)
         ·intro L a w hv K Q hK
          have hs := hv
          refine wpOp_go rfl rfl hs (OpT_move rfl rfl rfl rfl) ?_
          rintro _ rfl a' w' hs'
          exact hK a' w' (hs'.putF (i := 6) rfl [0, 1, 2, 3, 4] [0, 1] rfl rfl rfl rfl)
         ·intro L a w hL hv
          rw [allTrue hL] at hv
          have hs := hv
          refine (show TA _ _ _ 2 ⟨[(9, some (.pointer (some ⟨b1, 0, none⟩))), (37, some (.pointer (some ⟨b5, 0, none⟩))), (38, some (.pointer (some ⟨b6, 0, none⟩))), (158, some (vI new1.2)), (159, some (vI new3.2))], [some (cellsR b1 27 [vB rp0.Packed, vI rp0.Size, vU64 rp0.Desc, vU64 rp0.Driver, vU64 rp0.Device]), some (cellsR b5 72 [v6, v7]), some (rowsX u8S true v7 vs2 mem2.b none), some (cellsR b6 79 [v9, v10]), some (rowsX u8S false v10 vs3 mem3.B none)], [Fact.sl RegionS v6 mem2.l, Fact.sl RegionS v9 mem3.L]⟩ from ?_) a w (hs.wkS [9, 37, 38, 158, 159] [0, 1, 2, 3, 4] [0, 1] rfl rfl rfl rfl)
          clear hs hL
          refine TA_step htb (by kernel_rfl) rfl rfl (OpT_bin rfl rfl rfl rfl rfl (bin_eql_i (a := new1.2) (b := new3.2))) ?_
          refine TA_step htb (by kernel_rfl) rfl rfl (OpT_move rfl rfl rfl rfl) ?_
          refine TA_wkS (fr' := [(9, some (.pointer (some ⟨b1, 0, none⟩))), (37, some (.pointer (some ⟨b5, 0, none⟩))), (38, some (.pointer (some ⟨b6, 0, none⟩))), (161, some (vB (new1.2 == new3.2)))]) (own' := [some (cellsR b1 27 [vB rp0.Packed, vI rp0.Size, vU64 rp0.Desc, vU64 rp0.Driver, vU64 rp0.Device]), some (cellsR b5 72 [v6, v7]), some (rowsX u8S true v7 vs2 mem2.b none), some (cellsR b6 79 [v9, v10]), some (rowsX u8S false v10 vs3 mem3.B none)]) (shr' := [Fact.sl RegionS v6 mem2.l, Fact.sl RegionS v9 mem3.L]) [9, 37, 38, 161] [0, 1, 2, 3, 4] [0, 1] rfl rfl rfl rfl ?_
          obtain ⟨hg20, h⟩ := chk_e h
          obtain ⟨fits7, hx23, h⟩ := ob_e h
          refine TA_seg (lo := 4) (hi := 9) htb rfl rfl (by kernel_rfl) (fun c L a w => Sat c ⟨[(9, some (.pointer (some ⟨b1, 0, none⟩))), (37, some (.pointer (some ⟨b5, 0, none⟩))), (38, some (.pointer (some ⟨b6, 0, none⟩))), (161, some (vB (new1.2 == new3.2))), (162, bif L 4 then some (.pointer (some ⟨b5, 0, none⟩)) else none), (163, bif L 5 then some (.agg #[vB rp0.Packed, vI rp0.Size, vU64 rp0.Desc, vU64 rp0.Driver, vU64 rp0.Device]) else none), (164, bif L 6 then some (vI fits7) else none), (165, bif L 7 then some (.pointer (some ⟨b6, 0, none⟩)) else none), (166, bif L 8 then some (.agg #[vB rp0.Packed, vI rp0.Size, vU64 rp0.Desc, vU64 rp0.Driver, vU64 rp0.Device]) else none)], [(some (cellsR b1 27 [vB rp0.Packed, vI rp0.Size, vU64 rp0.Desc, vU64 rp0.Driver, vU64 rp0.Device]) : Option Res), (some (cellsR b5 72 [v6, v7]) : Option Res), (some (rowsX u8S true v7 vs2 mem2.b none) : Option Res), (some (cellsR b6 79 [v9, v10]) : Option Res), (some (rowsX u8S false v10 vs3 mem3.B none) : Option Res)], [Fact.sl RegionS v6 mem2.l, Fact.sl RegionS v9 mem3.L]⟩ a w) [([], [6]), ([], [6]), ([4, 5], []), ([], []), ([], [])] rfl (by kernel_rfl) ?_ (steps_cons ?_ (steps_cons ?_ (steps_cons ?_ (steps_cons ?_ (steps_cons ?_ (steps_nil)))))) ?_
          ·intro a w hs
           exact hs.startF [162, 163, 164, 165, 166] [0, 1, 2, 3, 4] [0, 1] rfl rfl rfl rfl
          ·intro L a w hv K Q hK
           have hs := hv
           refine wpOp_yes rfl rfl rfl hs (congrArg (fun b => some (Value.bool b)) hg20) (OpT_move rfl rfl rfl rfl) ?_
           rintro _ rfl a' w' hs'
           exact hK a' w' (hs'.putF (i := 4) rfl [0, 1, 2, 3, 4] [0, 1] rfl rfl rfl rfl)
          ·intro L a w hv K Q hK
           have hs := hv
           refine wpOp_yes rfl rfl rfl hs (congrArg (fun b => some (Value.bool b)) hg20) (OpT_loadCA (vs := [vB rp0.Packed, vI rp0.Size, vU64 rp0.Desc, vU64 rp0.Driver, vU64 rp0.Device]) rfl rfl rfl rfl tyF27 (i := 0) rfl rfl rfl) ?_
           rintro _ rfl a' w' hs'
           exact hK a' w' (hs'.putF (i := 5) rfl [0, 1, 2, 3, 4] [0, 1] rfl rfl rfl rfl)
          ·intro L a w hv K Q hK
           have hs := hv
           refine wpOp_yes rfl rfl rfl hs (congrArg (fun b => some (Value.bool b)) hg20) (OpT_callP [0, 5, 6, 3, 4] (w_layout_Fits hx23) [1, 2] [0] rfl rfl rfl rfl rfl callee17 rfl rfl rfl rfl rfl) ?_
           rintro _ ⟨_, _, _, ⟨rfl, rfl, rfl⟩, rfl⟩ a' w' hs'
           exact hK a' w' (hs'.putF (i := 6) rfl [0, 1, 2, 3, 4] [0, 1] rfl rfl rfl rfl)
          ·intro L a w hv K Q hK
           have hs := hv
           refine wpOp_yes rfl rfl rfl hs (congrArg (fun b => some (Value.bool b)) hg20) (OpT_move rfl rfl rfl rfl) ?_
           rintro _ rfl a' w' hs'
           exact hK a' w' (hs'.putF (i := 7) rfl [0, 1, 2, 3, 4] [0, 1] rfl rfl rfl rfl)
          ·intro L a w hv K Q hK
           have hs := hv
           refine wpOp_yes rfl rfl rfl hs (congrArg (fun b => some (Value.bool b)) hg20) (OpT_loadCA (vs := [vB rp0.Packed, vI rp0.Size, vU64 rp0.Desc, vU64 rp0.Driver, vU64 rp0.Device]) rfl rfl rfl rfl tyF27 (i := 0) rfl rfl rfl) ?_
           rintro _ rfl a' w' hs'
           exact hK a' w' (hs'.putF (i := 8) rfl [0, 1, 2, 3, 4] [0, 1] rfl rfl rfl rfl)
          ·intro L a w hL hv
           rw [allTrue hL] at hv
           have hs := hv
           refine (show TA _ _ _ 9 ⟨[(161, some (vB (new1.2 == new3.2))), (164, some (vI fits7)), (165, some (.pointer (some ⟨b6, 0, none⟩))), (166, some (.agg #[vB rp0.Packed, vI rp0.Size, vU64 rp0.Desc, vU64 rp0.Driver, vU64 rp0.Device]))], [some (cellsR b6 79 [v9, v10]), some (rowsX u8S false v10 vs3 mem3.B none)], [Fact.sl RegionS v9 mem3.L]⟩ from ?_) a w (hs.wkS [161, 164, 165, 166] [3, 4] [1] rfl rfl rfl rfl)
           clear hs hL
           obtain ⟨fits8, hx24, h⟩ := ob_e h
           refine TA_yes htb (by kernel_rfl) rfl rfl rfl (congrArg (fun b => some (Value.bool b)) hg20) (OpT_callP [2, 3] (w_ref_Fits04 hx24) [0, 1] [0] rfl rfl rfl rfl rfl callee26 rfl rfl rfl rfl rfl) ?_
           rintro _ ⟨_, _, _, ⟨rfl, rfl, rfl⟩, rfl⟩
           refine TA_yes htb (by kernel_rfl) rfl rfl rfl (congrArg (fun b => some (Value.bool b)) hg20) (OpT_bin rfl rfl rfl rfl rfl (bin_eql_i (a := fits7) (b := fits8))) ?_
           rintro _ rfl
           refine TA_step htb (by kernel_rfl) rfl rfl (OpT_pickT rfl rfl rfl (congrArg (fun b => some (Value.bool b)) hg20) rfl) ?_
           refine TA_step htb (by kernel_rfl) rfl rfl (OpT_assign rfl rfl rfl rfl) ?_
           refine TA_end rfl ?_
           refine Tk_wkS (fr' := [(18, some (vB (fits7 == fits8)))]) (own' := []) (shr' := []) [18] [] [] rfl rfl rfl rfl ?_
           obtain ⟨hg21, h⟩ := chk_e h
           exact Tk_retV rfl rfl (resA (vs := [.bool true]) rfl ⟨(congrArg (fun b => some (Value.bool b)) hg21), trivial⟩) [] [] rfl rfl rfl ⟨rfl, rfl, rfl⟩
end Go.Proofs.Ytbeendakebamhaa
