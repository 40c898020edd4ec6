/- The law LayoutApart is walked: it returns what its plain words say. No condition. -/
import Derived.Test.YtbeendakebamhaaWa5
namespace Go.Proofs.Ytbeendakebamhaa

set_option maxRecDepth 100000 in
set_option maxHeartbeats 4000000 in
theorem w_law04zLayoutApart {rp0 : Rings} {ap1 : Int} {ip2 : Int} {b : Int} {jp4 : Int}  (h : law04zLayoutApart rp0 ap1 ip2 b jp4 = some true) :
  Ctr Try.prog 4 #[.agg #[vB rp0.Packed, vI rp0.Size, vU64 rp0.Desc, vU64 rp0.Driver, vU64 rp0.Device], vI ap1, vI ip2, vI b, vI jp4] [] []
   (fun rv own shr => rv = .bool true ∧ own = [] ∧ shr = []) := by
 unfold law04zLayoutApart at h
 refine Ctr.mk (args := [.agg #[vB rp0.Packed, vI rp0.Size, vU64 rp0.Desc, vU64 rp0.Driver, vU64 rp0.Device], vI ap1, vI ip2, vI b, vI jp4]) Try.func4 rfl rfl (fun R0 w0 B => ?_)
 refine Tk_seq (Tk_region (Tops_ex rfl (OpT_box rfl rfl rfl rfl) fun b1 => ?_))
 refine Tops_step rfl (OpT_assign rfl rfl rfl rfl) ?_
 refine Tops_nil (Tk_wkS (fr' := [(1, some (vI ap1)), (2, some (vI ip2)), (3, some (vI b)), (4, some (vI jp4)), (5, some (.pointer (some ⟨b1, 0, none⟩)))]) (own' := [some (cellsR b1 27 [vB rp0.Packed, vI rp0.Size, vU64 rp0.Desc, vU64 rp0.Driver, vU64 rp0.Device])]) (shr' := []) [1, 2, 3, 4, 5] [0] [] rfl rfl rfl rfl ?_)
 refine Tk_seq (Tk_seq (Tk_region ?_))
 obtain ⟨lives1, hx1, h⟩ := ob_e h
 refine Tops_exP rfl (OpT_call (w_law04zlives hx1) [] [] rfl rfl rfl rfl rfl callee8 rfl rfl rfl rfl) ?_
 rintro _ ⟨_, _, _, ⟨rfl, rfl, rfl⟩, rfl⟩
 refine Tops_step rfl (OpT_not rfl rfl rfl rfl) ?_
 refine Tops_nil (Tk_wkS (fr' := [(1, some (vI ap1)), (2, some (vI ip2)), (3, some (vI b)), (4, some (vI jp4)), (5, some (.pointer (some ⟨b1, 0, none⟩))), (22, some (vB (!lives1)))]) (own' := [some (cellsR b1 27 [vB rp0.Packed, vI rp0.Size, vU64 rp0.Desc, vU64 rp0.Driver, vU64 rp0.Device])]) (shr' := []) [1, 2, 3, 4, 5, 22] [0] [] rfl rfl rfl rfl ?_)
 obtain ⟨hg1, h⟩ := chk_e h
 replace hg1 := not_t hg1
 refine Tk_condF (congrArg (fun b => some (Value.bool b)) hg1) ?_
 refine Tk_skip (Tk_seq (Tk_seq (Tk_region (Tops_step rfl (OpT_loadCA (vs := [vB rp0.Packed, vI rp0.Size, vU64 rp0.Desc, vU64 rp0.Driver, vU64 rp0.Device]) rfl rfl rfl rfl tyF27 (i := 0) rfl rfl rfl) ?_))))
 obtain ⟨check1, hx2, h⟩ := ob_e h
 refine Tops_exP rfl (OpT_call (w_layout_Check hx2) [] [] rfl rfl rfl rfl rfl callee13 rfl rfl rfl rfl) ?_
 rintro _ ⟨_, _, _, ⟨rfl, rfl, rfl⟩, rfl⟩
 refine Tops_step rfl (OpT_bin rfl rfl rfl rfl rfl (bin_neq_i (a := check1) (b := (0 : Int)))) ?_
 refine Tops_nil (Tk_wkS (fr' := [(1, some (vI ap1)), (2, some (vI ip2)), (3, some (vI b)), (4, some (vI jp4)), (5, some (.pointer (some ⟨b1, 0, none⟩))), (25, some (vB (check1 != (0 : Int))))]) (own' := [some (cellsR b1 27 [vB rp0.Packed, vI rp0.Size, vU64 rp0.Desc, vU64 rp0.Driver, vU64 rp0.Device])]) (shr' := []) [1, 2, 3, 4, 5, 25] [0] [] rfl rfl rfl rfl ?_)
 rcases Bool.eq_false_or_eq_true (check1 != (0 : Int)) with hg2 | hg2
 ·replace h := br_t hg2 h
  refine Tk_condT (congrArg (fun b => some (Value.bool b)) hg2) ?_
  refine Tk_seq (Tk_region (Tops_step rfl (OpT_assign rfl rfl rfl rfl) ?_))
  refine Tops_nil (Tk_wkS (fr' := [(10, some (vB true))]) (own' := []) (shr' := []) [10] [] [] rfl rfl rfl rfl ?_)
  exact Tk_retV rfl rfl (resA (vs := [.bool true]) rfl ⟨rfl, trivial⟩) [] [] rfl rfl rfl ⟨rfl, rfl, rfl⟩
 ·replace h := br_f hg2 h
  refine Tk_condF (congrArg (fun b => some (Value.bool b)) hg2) ?_
  refine Tk_skip (Tk_seq (Tk_region (Tops_step rfl (OpT_move rfl rfl rfl rfl) ?_)))
  obtain ⟨pick1, hx3, h⟩ := ob_e h
  refine Tops_exP rfl (OpT_call (w_kit_Pick hx3) [] [] rfl rfl rfl rfl rfl callee9 rfl rfl rfl rfl) ?_
  rintro _ ⟨_, _, _, ⟨rfl, rfl, rfl⟩, rfl⟩
  refine Tops_step rfl (OpT_bin rfl rfl rfl rfl rfl (bin_add_i (a := (1 : Int)) (b := pick1))) ?_
  refine Tops_step rfl (OpT_move rfl rfl rfl rfl) ?_
  obtain ⟨pick2, hx4, h⟩ := ob_e h
  refine Tops_exP rfl (OpT_call (w_kit_Pick hx4) [] [] rfl rfl rfl rfl rfl callee9 rfl rfl rfl rfl) ?_
  rintro _ ⟨_, _, _, ⟨rfl, rfl, rfl⟩, rfl⟩
  refine Tops_step rfl (OpT_bin rfl rfl rfl rfl rfl (bin_add_i (a := (1 : Int)) (b := pick2))) ?_
  refine Tops_step rfl (OpT_assign rfl rfl rfl rfl) ?_
  refine Tops_step rfl (OpT_assign rfl rfl rfl rfl) ?_
  refine Tops_nil (Tk_wkS (fr' := [(1, some (vI (wi ((1 : Int) + pick1)))), (2, some (vI ip2)), (3, some (vI (wi ((1 : Int) + pick2)))), (4, some (vI jp4)), (5, some (.pointer (some ⟨b1, 0, none⟩)))]) (own' := [some (cellsR b1 27 [vB rp0.Packed, vI rp0.Size, vU64 rp0.Desc, vU64 rp0.Driver, vU64 rp0.Device])]) (shr' := []) [1, 2, 3, 4, 5] [0] [] rfl rfl rfl rfl ?_)
  refine Tk_seq (Tk_drawT (by kernel_rfl) ?_)
  refine TA_tb [0, 0, 2, 7, 0, 0, 32, 127, 255, 511] (by kernel_rfl) fun htb => ?_
  obtain ⟨pick3, hx5, h⟩ := ob_e h
  refine TA_seg (lo := 0) (hi := 7) htb rfl rfl (by kernel_rfl) (fun c L a w => Sat c ⟨[(1, some (vI (wi ((1 : Int) + pick1)))), (2, some (vI ip2)), (3, some (vI (wi ((1 : Int) + pick2)))), (4, some (vI jp4)), (5, some (.pointer (some ⟨b1, 0, none⟩))), (32, bif L 0 then some (vI ip2) else none), (33, bif L 1 then some (.pointer (some ⟨b1, 1, none⟩)) else none), (34, bif L 2 then some (vI rp0.Size) else none), (35, bif L 3 then some (vI pick3) else none), (36, bif L 4 then some (vI jp4) else none), (37, bif L 5 then some (.pointer (some ⟨b1, 1, none⟩)) else none), (38, bif L 6 then some (vI rp0.Size) else none)], [(some (cellsR b1 27 [vB rp0.Packed, vI rp0.Size, vU64 rp0.Desc, vU64 rp0.Driver, vU64 rp0.Device]) : Option Res)], []⟩ a w) [([], [3]), ([], [2, 3]), ([1], [3]), ([0, 1, 2], []), ([], []), ([], [6]), ([5], [])] rfl (by kernel_rfl) ?_ (steps_cons ?_ (steps_cons ?_ (steps_cons ?_ (steps_cons ?_ (steps_cons ?_ (steps_cons ?_ (steps_cons ?_ (steps_nil)))))))) ?_
  ·intro a w hs
   exact hs.startF [32, 33, 34, 35, 36, 37, 38] [0] [] rfl rfl rfl rfl
  ·intro L a w hv K Q hK
   have hs := hv
   refine wpOp_go rfl rfl hs (OpT_move rfl rfl rfl rfl) ?_
   rintro _ rfl a' w' hs'
   exact hK a' w' (hs'.putF (i := 5) rfl [0] [] rfl rfl rfl rfl)
  ·intro L a w hv K Q hK
   have hs := hv
   refine wpOp_go rfl rfl hs (OpT_fieldC rfl rfl rfl rfl fldF27x1) ?_
   rintro _ rfl a' w' hs'
   exact hK a' w' (hs'.putF (i := 6) rfl [0] [] rfl rfl rfl rfl)
  ·intro L a w hv K Q hK
   have hs := hv
   refine wpOp_go rfl rfl hs (OpT_loadC rfl rfl rfl rfl tyF3 (i := 0) rfl rfl) ?_
   rintro _ rfl a' w' hs'
   exact hK a' w' (hs'.putF (i := 7) rfl [0] [] rfl rfl rfl rfl)
  ·intro L a w hv K Q hK
   have hs := hv
   refine wpOp_go rfl rfl hs (OpT_call (w_kit_Pick hx5) [] [] rfl rfl rfl rfl rfl callee9 rfl rfl rfl rfl) ?_
   rintro _ ⟨_, _, _, ⟨rfl, rfl, rfl⟩, rfl⟩ a' w' hs'
   exact hK a' w' (hs'.putF (i := 8) rfl [0] [] rfl rfl rfl rfl)
  ·intro L a w hv K Q hK
   have hs := hv
   refine wpOp_go rfl rfl hs (OpT_move rfl rfl rfl rfl) ?_
   rintro _ rfl a' w' hs'
   exact hK a' w' (hs'.putF (i := 9) rfl [0] [] rfl rfl rfl rfl)
  ·intro L a w hv K Q hK
   have hs := hv
   refine wpOp_go rfl rfl hs (OpT_fieldC rfl rfl rfl rfl fldF27x1) ?_
   rintro _ rfl a' w' hs'
   exact hK a' w' (hs'.putF (i := 10) rfl [0] [] rfl rfl rfl rfl)
  ·intro L a w hv K Q hK
   have hs := hv
   refine wpOp_go rfl rfl hs (OpT_loadC rfl rfl rfl rfl tyF3 (i := 0) rfl rfl) ?_
   rintro _ rfl a' w' hs'
   exact hK a' w' (hs'.putF (i := 11) rfl [0] [] rfl rfl rfl rfl)
  ·intro L a w hL hv
   rw [allTrue hL] at hv
   have hs := hv
   refine (show TA _ _ _ 7 ⟨[(1, some (vI (wi ((1 : Int) + pick1)))), (3, some (vI (wi ((1 : Int) + pick2)))), (5, some (.pointer (some ⟨b1, 0, none⟩))), (35, some (vI pick3)), (36, some (vI jp4)), (38, some (vI rp0.Size))], [some (cellsR b1 27 [vB rp0.Packed, vI rp0.Size, vU64 rp0.Desc, vU64 rp0.Driver, vU64 rp0.Device])], []⟩ from ?_) a w (hs.wkS [1, 3, 5, 35, 36, 38] [0] [] rfl rfl rfl rfl)
   clear hs hL
   obtain ⟨pick4, hx6, h⟩ := ob_e h
   refine TA_exP htb (by kernel_rfl) rfl rfl (OpT_call (w_kit_Pick hx6) [] [] rfl rfl rfl rfl rfl callee9 rfl rfl rfl rfl) ?_
   rintro _ ⟨_, _, _, ⟨rfl, rfl, rfl⟩, rfl⟩
   refine TA_step htb (by kernel_rfl) rfl rfl (OpT_assign rfl rfl rfl rfl) ?_
   refine TA_step htb (by kernel_rfl) rfl rfl (OpT_assign rfl rfl rfl rfl) ?_
   refine TA_end rfl ?_
   refine Tk_wkS (fr' := [(1, some (vI (wi ((1 : Int) + pick1)))), (3, some (vI (wi ((1 : Int) + pick2)))), (5, some (.pointer (some ⟨b1, 0, none⟩))), (2, some (vI pick3)), (4, some (vI pick4))]) (own' := [some (cellsR b1 27 [vB rp0.Packed, vI rp0.Size, vU64 rp0.Desc, vU64 rp0.Driver, vU64 rp0.Device])]) (shr' := []) [1, 3, 5, 2, 4] [0] [] rfl rfl rfl rfl ?_
   refine Tk_seq (Tk_seq (Tk_join2 (α := Int) (fun s => ⟨[(1, some (vI (wi ((1 : Int) + pick1)))), (3, some (vI (wi ((1 : Int) + pick2)))), (5, some (.pointer (some ⟨b1, 0, none⟩))), (2, some (vI s)), (4, some (vI pick4))], [some (cellsR b1 27 [vB rp0.Packed, vI rp0.Size, vU64 rp0.Desc, vU64 rp0.Driver, vU64 rp0.Device])], []⟩) (fun s => law04zLayoutApartJ1 rp0 pick1 pick2 pick4 s = some true) ?_ ?_))
   ·rintro i1 h
    replace h : law04zLayoutApartJ1 rp0 pick1 pick2 pick4 i1 = some true := h
    unfold law04zLayoutApartJ1 at h
    refine Tk_seq (Tk_seq (Tk_join2 (α := Int) (fun s => ⟨[(1, some (vI (wi ((1 : Int) + pick1)))), (3, some (vI (wi ((1 : Int) + pick2)))), (5, some (.pointer (some ⟨b1, 0, none⟩))), (2, some (vI i1)), (4, some (vI s))], [some (cellsR b1 27 [vB rp0.Packed, vI rp0.Size, vU64 rp0.Desc, vU64 rp0.Driver, vU64 rp0.Device])], []⟩) (fun s => law04zLayoutApartJ2 rp0 pick1 pick2 i1 s = some true) ?_ ?_))
    ·rintro j1 h
     replace h : law04zLayoutApartJ2 rp0 pick1 pick2 i1 j1 = some true := h
     unfold law04zLayoutApartJ2 at h
     refine Tk_seq (Tk_region (Tops_step rfl (OpT_loadCA (vs := [vB rp0.Packed, vI rp0.Size, vU64 rp0.Desc, vU64 rp0.Driver, vU64 rp0.Device]) rfl rfl rfl rfl tyF27 (i := 0) rfl rfl rfl) ?_))
     refine Tops_step rfl (OpT_move rfl rfl rfl rfl) ?_
     refine Tops_step rfl (OpT_move rfl rfl rfl rfl) ?_
     obtain ⟨where1, hx7, h⟩ := ob_e h
     refine Tops_exP rfl (OpT_call (w_layout_Where hx7) [] [] rfl rfl rfl rfl rfl callee12 rfl rfl rfl rfl) ?_
     rintro _ ⟨_, _, _, ⟨rfl, rfl, rfl⟩, rfl⟩
     refine Tops_step rfl (OpT_move rfl rfl rfl rfl) ?_
     refine Tops_step rfl (OpT_extract rfl rfl rfl rfl rfl) ?_
     refine Tops_step rfl (OpT_extract rfl rfl rfl rfl rfl) ?_
     refine Tops_step rfl (OpT_extract rfl rfl rfl rfl rfl) ?_
     refine Tops_step rfl (OpT_assign rfl rfl rfl rfl) ?_
     refine Tops_step rfl (OpT_assign rfl rfl rfl rfl) ?_
     refine Tops_step rfl (OpT_assign rfl rfl rfl rfl) ?_
     refine Tops_nil (Tk_wkS (fr' := [(1, some (vI (wi ((1 : Int) + pick1)))), (3, some (vI (wi ((1 : Int) + pick2)))), (5, some (.pointer (some ⟨b1, 0, none⟩))), (2, some (vI i1)), (4, some (vI j1)), (11, some (vU64 where1.1)), (12, some (vI where1.2.1)), (13, some (vI where1.2.2))]) (own' := [some (cellsR b1 27 [vB rp0.Packed, vI rp0.Size, vU64 rp0.Desc, vU64 rp0.Driver, vU64 rp0.Device])]) (shr' := []) [1, 3, 5, 2, 4, 11, 12, 13] [0] [] rfl rfl rfl rfl ?_)
     refine Tk_seq (Tk_region (Tops_step rfl (OpT_loadCA (vs := [vB rp0.Packed, vI rp0.Size, vU64 rp0.Desc, vU64 rp0.Driver, vU64 rp0.Device]) rfl rfl rfl rfl tyF27 (i := 0) rfl rfl rfl) ?_))
     refine Tops_step rfl (OpT_move rfl rfl rfl rfl) ?_
     refine Tops_step rfl (OpT_move rfl rfl rfl rfl) ?_
     obtain ⟨where2, hx8, h⟩ := ob_e h
     refine Tops_exP rfl (OpT_call (w_layout_Where hx8) [] [] rfl rfl rfl rfl rfl callee12 rfl rfl rfl rfl) ?_
     rintro _ ⟨_, _, _, ⟨rfl, rfl, rfl⟩, rfl⟩
     refine Tops_step rfl (OpT_move rfl rfl rfl rfl) ?_
     refine Tops_step rfl (OpT_extract rfl rfl rfl rfl rfl) ?_
     refine Tops_step rfl (OpT_extract rfl rfl rfl rfl rfl) ?_
     refine Tops_step rfl (OpT_extract rfl rfl rfl rfl rfl) ?_
     refine Tops_step rfl (OpT_assign rfl rfl rfl rfl) ?_
     refine Tops_step rfl (OpT_assign rfl rfl rfl rfl) ?_
     refine Tops_step rfl (OpT_assign rfl rfl rfl rfl) ?_
     refine Tops_nil (Tk_wkS (fr' := [(1, some (vI (wi ((1 : Int) + pick1)))), (3, some (vI (wi ((1 : Int) + pick2)))), (5, some (.pointer (some ⟨b1, 0, none⟩))), (2, some (vI i1)), (4, some (vI j1)), (11, some (vU64 where1.1)), (12, some (vI where1.2.1)), (13, some (vI where1.2.2)), (14, some (vU64 where2.1)), (15, some (vI where2.2.1)), (16, some (vI where2.2.2))]) (own' := [some (cellsR b1 27 [vB rp0.Packed, vI rp0.Size, vU64 rp0.Desc, vU64 rp0.Driver, vU64 rp0.Device])]) (shr' := []) [1, 3, 5, 2, 4, 11, 12, 13, 14, 15, 16] [0] [] rfl rfl rfl rfl ?_)
     refine Tk_seq (Tk_region (Tops_step rfl (OpT_assign rfl rfl rfl rfl) ?_))
     refine Tops_nil (Tk_wkS (fr' := [(1, some (vI (wi ((1 : Int) + pick1)))), (3, some (vI (wi ((1 : Int) + pick2)))), (5, some (.pointer (some ⟨b1, 0, none⟩))), (2, some (vI i1)), (4, some (vI j1)), (11, some (vU64 where1.1)), (12, some (vI where1.2.1)), (13, some (vI where1.2.2)), (14, some (vU64 where2.1)), (15, some (vI where2.2.1)), (16, some (vI where2.2.2)), (17, some (.func (.func 14) #[] #[]))]) (own' := [some (cellsR b1 27 [vB rp0.Packed, vI rp0.Size, vU64 rp0.Desc, vU64 rp0.Driver, vU64 rp0.Device])]) (shr' := []) [1, 3, 5, 2, 4, 11, 12, 13, 14, 15, 16, 17] [0] [] rfl rfl rfl rfl ?_)
     refine Tk_seq (Tk_seq (Tk_join2 (α := Unit) (fun s => ⟨[(1, some (vI (wi ((1 : Int) + pick1)))), (3, some (vI (wi ((1 : Int) + pick2)))), (5, some (.pointer (some ⟨b1, 0, none⟩))), (2, some (vI i1)), (4, some (vI j1)), (11, some (vU64 where1.1)), (12, some (vI where1.2.1)), (13, some (vI where1.2.2)), (14, some (vU64 where2.1)), (15, some (vI where2.2.1)), (16, some (vI where2.2.2))], [some (cellsR b1 27 [vB rp0.Packed, vI rp0.Size, vU64 rp0.Desc, vU64 rp0.Driver, vU64 rp0.Device])], []⟩) (fun s => law04zLayoutApartJ3 rp0 pick1 pick2 i1 j1 where1 where2 = some true) ?_ ?_))
     ·rintro _ h
      replace h : law04zLayoutApartJ3 rp0 pick1 pick2 i1 j1 where1 where2 = some true := h
      unfold law04zLayoutApartJ3 at h
      refine Tk_seq (Tk_seq (Tk_join2 (α := Unit) (fun s => ⟨[(1, some (vI (wi ((1 : Int) + pick1)))), (3, some (vI (wi ((1 : Int) + pick2)))), (5, some (.pointer (some ⟨b1, 0, none⟩))), (2, some (vI i1)), (4, some (vI j1)), (11, some (vU64 where1.1)), (12, some (vI where1.2.1)), (14, some (vU64 where2.1)), (15, some (vI where2.2.1))], [some (cellsR b1 27 [vB rp0.Packed, vI rp0.Size, vU64 rp0.Desc, vU64 rp0.Driver, vU64 rp0.Device])], []⟩) (fun s => law04zLayoutApartJ4 rp0 pick1 pick2 i1 j1 where1 where2 = some true) ?_ ?_))
      ·rintro _ h
       replace h : law04zLayoutApartJ4 rp0 pick1 pick2 i1 j1 where1 where2 = some true := h
       unfold law04zLayoutApartJ4 at h
       refine Tk_seq (Tk_drawT (by kernel_rfl) ?_)
       refine TA_tb [0, 0, 3, 0, 0, 0, 32, 112, 240, 511, 1023, 2047] (by kernel_rfl) fun htb => ?_
       obtain ⟨over1, hx9, h⟩ := ob_e h
       refine TA_seg (lo := 0) (hi := 9) htb rfl rfl (by kernel_rfl) (fun c L a w => Sat c ⟨[(1, some (vI (wi ((1 : Int) + pick1)))), (3, some (vI (wi ((1 : Int) + pick2)))), (5, some (.pointer (some ⟨b1, 0, none⟩))), (2, some (vI i1)), (4, some (vI j1)), (11, some (vU64 where1.1)), (12, some (vI where1.2.1)), (14, some (vU64 where2.1)), (15, some (vI where2.2.1)), (110, bif L 0 then some (.agg #[vB rp0.Packed, vI rp0.Size, vU64 rp0.Desc, vU64 rp0.Driver, vU64 rp0.Device]) else none), (111, bif L 1 then some (vU64 where1.1) else none), (112, bif L 2 then some (vB over1) else none), (113, bif L 3 then some (.agg #[vB rp0.Packed, vI rp0.Size, vU64 rp0.Desc, vU64 rp0.Driver, vU64 rp0.Device]) else none), (114, bif L 4 then some (vU64 where1.1) else none), (115, bif L 5 then some (vI where1.2.1) else none), (116, bif L 6 then some (vU64 (u64 where1.2.1)) else none), (117, bif L 7 then some (vU64 (where1.1 + (u64 where1.2.1))) else none), (118, bif L 8 then some (vU64 ((where1.1 + (u64 where1.2.1)) - (1 : UInt64))) else none)], [(some (cellsR b1 27 [vB rp0.Packed, vI rp0.Size, vU64 rp0.Desc, vU64 rp0.Driver, vU64 rp0.Device]) : Option Res)], []⟩ a w) [([], [2]), ([], [2]), ([0, 1], []), ([], []), ([], [7, 8]), ([], [6, 7, 8]), ([5], [7, 8]), ([4, 5, 6], [8]), ([4, 5, 6, 7], [])] rfl (by kernel_rfl) ?_ (steps_cons ?_ (steps_cons ?_ (steps_cons ?_ (steps_cons ?_ (steps_cons ?_ (steps_cons ?_ (steps_cons ?_ (steps_cons ?_ (steps_cons ?_ (steps_nil)))))))))) ?_
       ·intro a w hs
        exact hs.startF [110, 111, 112, 113, 114, 115, 116, 117, 118] [0] [] rfl rfl rfl rfl
       ·intro L a w hv K Q hK
        have hs := hv
        refine wpOp_go rfl rfl hs (OpT_loadCA (vs := [vB rp0.Packed, vI rp0.Size, vU64 rp0.Desc, vU64 rp0.Driver, vU64 rp0.Device]) rfl rfl rfl rfl tyF27 (i := 0) rfl rfl rfl) ?_
        rintro _ rfl a' w' hs'
        exact hK a' w' (hs'.putF (i := 9) rfl [0] [] rfl rfl rfl rfl)
       ·intro L a w hv K Q hK
        have hs := hv
        refine wpOp_go rfl rfl hs (OpT_move rfl rfl rfl rfl) ?_
        rintro _ rfl a' w' hs'
        exact hK a' w' (hs'.putF (i := 10) rfl [0] [] rfl rfl rfl rfl)
       ·intro L a w hv K Q hK
        have hs := hv
        refine wpOp_go rfl rfl hs (OpT_call (w_layout_Over hx9) [] [] rfl rfl rfl rfl rfl callee15 rfl rfl rfl rfl) ?_
        rintro _ ⟨_, _, _, ⟨rfl, rfl, rfl⟩, rfl⟩ a' w' hs'
        exact hK a' w' (hs'.putF (i := 11) rfl [0] [] rfl rfl rfl rfl)
       ·intro L a w hv K Q hK
        have hs := hv
        refine wpOp_go rfl rfl hs (OpT_loadCA (vs := [vB rp0.Packed, vI rp0.Size, vU64 rp0.Desc, vU64 rp0.Driver, vU64 rp0.Device]) rfl rfl rfl rfl tyF27 (i := 0) rfl rfl rfl) ?_
        rintro _ rfl a' w' hs'
        exact hK a' w' (hs'.putF (i := 12) rfl [0] [] rfl rfl rfl rfl)
       ·intro L a w hv K Q hK
        have hs := hv
        refine wpOp_go rfl rfl hs (OpT_move rfl rfl rfl rfl) ?_
        rintro _ rfl a' w' hs'
        exact hK a' w' (hs'.putF (i := 13) rfl [0] [] rfl rfl rfl rfl)
       ·intro L a w hv K Q hK
        have hs := hv
        refine wpOp_go rfl rfl hs (OpT_move rfl rfl rfl rfl) ?_
        rintro _ rfl a' w' hs'
        exact hK a' w' (hs'.putF (i := 14) rfl [0] [] rfl rfl rfl rfl)
       ·intro L a w hv K Q hK
        have hs := hv
        refine wpOp_go rfl rfl hs (OpT_cnv rfl rfl rfl rfl (cnv_i_u64 (n := where1.2.1) Try.underlying3 Try.underlying22)) ?_
        rintro _ rfl a' w' hs'
        exact hK a' w' (hs'.putF (i := 15) rfl [0] [] rfl rfl rfl rfl)
       ·intro L a w hv K Q hK
        have hs := hv
        refine wpOp_go rfl rfl hs (OpT_bin rfl rfl rfl rfl rfl (bin_add_u64 (a := where1.1) (b := u64 where1.2.1))) ?_
        rintro _ rfl a' w' hs'
        exact hK a' w' (hs'.putF (i := 16) rfl [0] [] rfl rfl rfl rfl)
       ·intro L a w hv K Q hK
        have hs := hv
        refine wpOp_go rfl rfl hs (OpT_bin rfl rfl rfl rfl rfl (bin_sub_u64 (a := where1.1 + (u64 where1.2.1)) (b := (1 : UInt64)))) ?_
        rintro _ rfl a' w' hs'
        exact hK a' w' (hs'.putF (i := 17) rfl [0] [] rfl rfl rfl rfl)
       ·intro L a w hL hv
        rw [allTrue hL] at hv
        have hs := hv
        refine (show TA _ _ _ 9 ⟨[(1, some (vI (wi ((1 : Int) + pick1)))), (3, some (vI (wi ((1 : Int) + pick2)))), (2, some (vI i1)), (4, some (vI j1)), (11, some (vU64 where1.1)), (12, some (vI where1.2.1)), (14, some (vU64 where2.1)), (15, some (vI where2.2.1)), (112, some (vB over1)), (113, some (.agg #[vB rp0.Packed, vI rp0.Size, vU64 rp0.Desc, vU64 rp0.Driver, vU64 rp0.Device])), (118, some (vU64 ((where1.1 + (u64 where1.2.1)) - (1 : UInt64))))], [], []⟩ from ?_) a w (hs.wkS [1, 3, 2, 4, 11, 12, 14, 15, 112, 113, 118] [] [] rfl rfl rfl rfl)
        clear hs hL
        obtain ⟨over2, hx10, h⟩ := ob_e h
        refine TA_exP htb (by kernel_rfl) rfl rfl (OpT_call (w_layout_Over hx10) [] [] rfl rfl rfl rfl rfl callee15 rfl rfl rfl rfl) ?_
        rintro _ ⟨_, _, _, ⟨rfl, rfl, rfl⟩, rfl⟩
        refine TA_step htb (by kernel_rfl) rfl rfl (OpT_assign rfl rfl rfl rfl) ?_
        refine TA_step htb (by kernel_rfl) rfl rfl (OpT_assign rfl rfl rfl rfl) ?_
        refine TA_end rfl ?_
        refine Tk_wkS (fr' := [(1, some (vI (wi ((1 : Int) + pick1)))), (3, some (vI (wi ((1 : Int) + pick2)))), (2, some (vI i1)), (4, some (vI j1)), (11, some (vU64 where1.1)), (12, some (vI where1.2.1)), (14, some (vU64 where2.1)), (15, some (vI where2.2.1)), (18, some (vB over1)), (19, some (vB over2))]) (own' := []) (shr' := []) [1, 3, 2, 4, 11, 12, 14, 15, 18, 19] [] [] rfl rfl rfl rfl ?_
        refine Tk_seq (Tk_region (Tops_step rfl (OpT_move rfl rfl rfl rfl) ?_))
        refine Tops_step rfl (OpT_move rfl rfl rfl rfl) ?_
        refine Tops_step rfl (OpT_cnv rfl rfl rfl rfl (cnv_i_u64 (n := where1.2.1) Try.underlying3 Try.underlying22)) ?_
        refine Tops_step rfl (OpT_bin rfl rfl rfl rfl rfl (bin_add_u64 (a := where1.1) (b := u64 where1.2.1))) ?_
        refine Tops_step rfl (OpT_bin rfl rfl rfl rfl rfl (bin_sub_u64 (a := where1.1 + (u64 where1.2.1)) (b := (1 : UInt64)))) ?_
        refine Tops_step rfl (OpT_move rfl rfl rfl rfl) ?_
        refine Tops_step rfl (OpT_bin rfl rfl rfl rfl rfl (bin_lss_u64 (a := (where1.1 + (u64 where1.2.1)) - (1 : UInt64)) (b := where2.1))) ?_
        refine Tops_step rfl (OpT_move rfl rfl rfl rfl) ?_
        rcases Bool.eq_false_or_eq_true (decide (((where1.1 + (u64 where1.2.1)) - (1 : UInt64)) < where2.1)) with hg3 | hg3
        ·replace h := br_t hg3 h
         refine Tops_no rfl rfl (congrArg (fun b => some (Value.bool b)) hg3) rfl rfl ?_
         refine Tops_no rfl rfl (congrArg (fun b => some (Value.bool b)) hg3) rfl rfl ?_
         refine Tops_no rfl rfl (congrArg (fun b => some (Value.bool b)) hg3) rfl rfl ?_
         refine Tops_no rfl rfl (congrArg (fun b => some (Value.bool b)) hg3) rfl rfl ?_
         refine Tops_no rfl rfl (congrArg (fun b => some (Value.bool b)) hg3) rfl rfl ?_
         refine Tops_no rfl rfl (congrArg (fun b => some (Value.bool b)) hg3) rfl rfl ?_
         refine Tops_no rfl rfl (congrArg (fun b => some (Value.bool b)) hg3) rfl rfl ?_
         refine Tops_step rfl (OpT_pickT rfl rfl rfl (congrArg (fun b => some (Value.bool b)) hg3) rfl) ?_
         refine Tops_step rfl (OpT_assign rfl rfl rfl rfl) ?_
         refine Tops_nil (Tk_wkS (fr' := [(1, some (vI (wi ((1 : Int) + pick1)))), (3, some (vI (wi ((1 : Int) + pick2)))), (2, some (vI i1)), (4, some (vI j1)), (18, some (vB over1)), (19, some (vB over2)), (20, some (vB true))]) (own' := []) (shr' := []) [1, 3, 2, 4, 18, 19, 20] [] [] rfl rfl rfl rfl ?_)
         refine Tk_seq (Tk_region (Tops_step rfl (OpT_move rfl rfl rfl rfl) ?_))
         refine Tops_step rfl (OpT_move rfl rfl rfl rfl) ?_
         obtain ⟨hg4, h⟩ := chk_e h
         refine Tops_yes rfl rfl (congrArg (fun b => some (Value.bool b)) hg4) (OpT_move rfl rfl rfl rfl) ?_
         rintro _ rfl
         refine Tops_step rfl (OpT_pickT rfl rfl rfl (congrArg (fun b => some (Value.bool b)) hg4) rfl) ?_
         refine Tops_step rfl (OpT_move rfl rfl rfl rfl) ?_
         obtain ⟨hg5, h⟩ := chk_e h
         refine Tops_yes rfl rfl (congrArg (fun b => some (Value.bool b)) hg5) (OpT_move rfl rfl rfl rfl) ?_
         rintro _ rfl
         refine Tops_yes rfl rfl (congrArg (fun b => some (Value.bool b)) hg5) (OpT_move rfl rfl rfl rfl) ?_
         rintro _ rfl
         refine Tops_yes rfl rfl (congrArg (fun b => some (Value.bool b)) hg5) (OpT_move rfl rfl rfl rfl) ?_
         rintro _ rfl
         refine Tops_yes rfl rfl (congrArg (fun b => some (Value.bool b)) hg5) (OpT_bin rfl rfl rfl rfl rfl (bin_neq_i (a := wi ((1 : Int) + pick1)) (b := wi ((1 : Int) + pick2)))) ?_
         rintro _ rfl
         refine Tops_yes rfl rfl (congrArg (fun b => some (Value.bool b)) hg5) (OpT_move rfl rfl rfl rfl) ?_
         rintro _ rfl
         rcases Bool.eq_false_or_eq_true ((wi ((1 : Int) + pick1)) != (wi ((1 : Int) + pick2))) with hg6 | hg6
         ·replace h := br_t hg6 h
          refine Tops_no rfl rfl (congrArg (fun b => some (Value.bool b)) hg6) rfl rfl ?_
          refine Tops_no rfl rfl (congrArg (fun b => some (Value.bool b)) hg6) rfl rfl ?_
          refine Tops_no rfl rfl (congrArg (fun b => some (Value.bool b)) hg6) rfl rfl ?_
          refine Tops_yes rfl rfl (congrArg (fun b => some (Value.bool b)) hg5) (OpT_pickT rfl rfl rfl (congrArg (fun b => some (Value.bool b)) hg6) rfl) ?_
          rintro _ rfl
          refine Tops_yes rfl rfl (congrArg (fun b => some (Value.bool b)) hg5) (OpT_bin rfl rfl rfl rfl rfl (bin_eql_b (a := true) (b := true) Try.underlying4)) ?_
          rintro _ rfl
          refine Tops_step rfl (OpT_pickT rfl rfl rfl (congrArg (fun b => some (Value.bool b)) hg5) rfl) ?_
          refine Tops_step rfl (OpT_assign rfl rfl rfl rfl) ?_
          refine Tops_nil (Tk_wkS (fr' := [(10, some (vB (true == true)))]) (own' := []) (shr' := []) [10] [] [] rfl rfl rfl rfl ?_)
          obtain ⟨hg7, h⟩ := chk_e h
          exact Tk_retV rfl rfl (resA (vs := [.bool true]) rfl ⟨(congrArg (fun b => some (Value.bool b)) hg7), trivial⟩) [] [] rfl rfl rfl ⟨rfl, rfl, rfl⟩
         ·replace h := br_f hg6 h
          refine Tops_yes rfl rfl (congrArg (fun b => some (Value.bool b)) hg6) (OpT_move rfl rfl rfl rfl) ?_
          rintro _ rfl
          refine Tops_yes rfl rfl (congrArg (fun b => some (Value.bool b)) hg6) (OpT_move rfl rfl rfl rfl) ?_
          rintro _ rfl
          refine Tops_yes rfl rfl (congrArg (fun b => some (Value.bool b)) hg6) (OpT_bin rfl rfl rfl rfl rfl (bin_neq_i (a := i1) (b := j1))) ?_
          rintro _ rfl
          refine Tops_yes rfl rfl (congrArg (fun b => some (Value.bool b)) hg5) (OpT_pickF rfl rfl rfl (congrArg (fun b => some (Value.bool b)) hg6) rfl) ?_
          rintro _ rfl
          refine Tops_yes rfl rfl (congrArg (fun b => some (Value.bool b)) hg5) (OpT_bin rfl rfl rfl rfl rfl (bin_eql_b (a := true) (b := i1 != j1) Try.underlying4)) ?_
          rintro _ rfl
          refine Tops_step rfl (OpT_pickT rfl rfl rfl (congrArg (fun b => some (Value.bool b)) hg5) rfl) ?_
          refine Tops_step rfl (OpT_assign rfl rfl rfl rfl) ?_
          refine Tops_nil (Tk_wkS (fr' := [(10, some (vB (true == (i1 != j1))))]) (own' := []) (shr' := []) [10] [] [] rfl rfl rfl rfl ?_)
          obtain ⟨hg8, h⟩ := chk_e h
          exact Tk_retV rfl rfl (resA (vs := [.bool true]) rfl ⟨(congrArg (fun b => some (Value.bool b)) hg8), trivial⟩) [] [] rfl rfl rfl ⟨rfl, rfl, rfl⟩
        ·replace h := br_f hg3 h
         refine Tops_yes rfl rfl (congrArg (fun b => some (Value.bool b)) hg3) (OpT_move rfl rfl rfl rfl) ?_
         rintro _ rfl
         refine Tops_yes rfl rfl (congrArg (fun b => some (Value.bool b)) hg3) (OpT_move rfl rfl rfl rfl) ?_
         rintro _ rfl
         refine Tops_yes rfl rfl (congrArg (fun b => some (Value.bool b)) hg3) (OpT_cnv rfl rfl rfl rfl (cnv_i_u64 (n := where2.2.1) Try.underlying3 Try.underlying22)) ?_
         rintro _ rfl
         refine Tops_yes rfl rfl (congrArg (fun b => some (Value.bool b)) hg3) (OpT_bin rfl rfl rfl rfl rfl (bin_add_u64 (a := where2.1) (b := u64 where2.2.1))) ?_
         rintro _ rfl
         refine Tops_yes rfl rfl (congrArg (fun b => some (Value.bool b)) hg3) (OpT_bin rfl rfl rfl rfl rfl (bin_sub_u64 (a := where2.1 + (u64 where2.2.1)) (b := (1 : UInt64)))) ?_
         rintro _ rfl
         refine Tops_yes rfl rfl (congrArg (fun b => some (Value.bool b)) hg3) (OpT_move rfl rfl rfl rfl) ?_
         rintro _ rfl
         refine Tops_yes rfl rfl (congrArg (fun b => some (Value.bool b)) hg3) (OpT_bin rfl rfl rfl rfl rfl (bin_lss_u64 (a := (where2.1 + (u64 where2.2.1)) - (1 : UInt64)) (b := where1.1))) ?_
         rintro _ rfl
         refine Tops_step rfl (OpT_pickF rfl rfl rfl (congrArg (fun b => some (Value.bool b)) hg3) rfl) ?_
         refine Tops_step rfl (OpT_assign rfl rfl rfl rfl) ?_
         refine Tops_nil (Tk_wkS (fr' := [(1, some (vI (wi ((1 : Int) + pick1)))), (3, some (vI (wi ((1 : Int) + pick2)))), (2, some (vI i1)), (4, some (vI j1)), (18, some (vB over1)), (19, some (vB over2)), (20, some (vB (decide (((where2.1 + (u64 where2.2.1)) - (1 : UInt64)) < where1.1))))]) (own' := []) (shr' := []) [1, 3, 2, 4, 18, 19, 20] [] [] rfl rfl rfl rfl ?_)
         refine Tk_seq (Tk_region (Tops_step rfl (OpT_move rfl rfl rfl rfl) ?_))
         refine Tops_step rfl (OpT_move rfl rfl rfl rfl) ?_
         obtain ⟨hg9, h⟩ := chk_e h
         refine Tops_yes rfl rfl (congrArg (fun b => some (Value.bool b)) hg9) (OpT_move rfl rfl rfl rfl) ?_
         rintro _ rfl
         refine Tops_step rfl (OpT_pickT rfl rfl rfl (congrArg (fun b => some (Value.bool b)) hg9) rfl) ?_
         refine Tops_step rfl (OpT_move rfl rfl rfl rfl) ?_
         obtain ⟨hg10, h⟩ := chk_e h
         refine Tops_yes rfl rfl (congrArg (fun b => some (Value.bool b)) hg10) (OpT_move rfl rfl rfl rfl) ?_
         rintro _ rfl
         refine Tops_yes rfl rfl (congrArg (fun b => some (Value.bool b)) hg10) (OpT_move rfl rfl rfl rfl) ?_
         rintro _ rfl
         refine Tops_yes rfl rfl (congrArg (fun b => some (Value.bool b)) hg10) (OpT_move rfl rfl rfl rfl) ?_
         rintro _ rfl
         refine Tops_yes rfl rfl (congrArg (fun b => some (Value.bool b)) hg10) (OpT_bin rfl rfl rfl rfl rfl (bin_neq_i (a := wi ((1 : Int) + pick1)) (b := wi ((1 : Int) + pick2)))) ?_
         rintro _ rfl
         refine Tops_yes rfl rfl (congrArg (fun b => some (Value.bool b)) hg10) (OpT_move rfl rfl rfl rfl) ?_
         rintro _ rfl
         rcases Bool.eq_false_or_eq_true ((wi ((1 : Int) + pick1)) != (wi ((1 : Int) + pick2))) with hg11 | hg11
         ·replace h := br_t hg11 h
          refine Tops_no rfl rfl (congrArg (fun b => some (Value.bool b)) hg11) rfl rfl ?_
          refine Tops_no rfl rfl (congrArg (fun b => some (Value.bool b)) hg11) rfl rfl ?_
          refine Tops_no rfl rfl (congrArg (fun b => some (Value.bool b)) hg11) rfl rfl ?_
          refine Tops_yes rfl rfl (congrArg (fun b => some (Value.bool b)) hg10) (OpT_pickT rfl rfl rfl (congrArg (fun b => some (Value.bool b)) hg11) rfl) ?_
          rintro _ rfl
          refine Tops_yes rfl rfl (congrArg (fun b => some (Value.bool b)) hg10) (OpT_bin rfl rfl rfl rfl rfl (bin_eql_b (a := decide (((where2.1 + (u64 where2.2.1)) - (1 : UInt64)) < where1.1)) (b := true) Try.underlying4)) ?_
          rintro _ rfl
          refine Tops_step rfl (OpT_pickT rfl rfl rfl (congrArg (fun b => some (Value.bool b)) hg10) rfl) ?_
          refine Tops_step rfl (OpT_assign rfl rfl rfl rfl) ?_
          refine Tops_nil (Tk_wkS (fr' := [(10, some (vB ((decide (((where2.1 + (u64 where2.2.1)) - (1 : UInt64)) < where1.1)) == true)))]) (own' := []) (shr' := []) [10] [] [] rfl rfl rfl rfl ?_)
          obtain ⟨hg12, h⟩ := chk_e h
          exact Tk_retV rfl rfl (resA (vs := [.bool true]) rfl ⟨(congrArg (fun b => some (Value.bool b)) hg12), trivial⟩) [] [] rfl rfl rfl ⟨rfl, rfl, rfl⟩
         ·replace h := br_f hg11 h
          refine Tops_yes rfl rfl (congrArg (fun b => some (Value.bool b)) hg11) (OpT_move rfl rfl rfl rfl) ?_
          rintro _ rfl
          refine Tops_yes rfl rfl (congrArg (fun b => some (Value.bool b)) hg11) (OpT_move rfl rfl rfl rfl) ?_
          rintro _ rfl
          refine Tops_yes rfl rfl (congrArg (fun b => some (Value.bool b)) hg11) (OpT_bin rfl rfl rfl rfl rfl (bin_neq_i (a := i1) (b := j1))) ?_
          rintro _ rfl
          refine Tops_yes rfl rfl (congrArg (fun b => some (Value.bool b)) hg10) (OpT_pickF rfl rfl rfl (congrArg (fun b => some (Value.bool b)) hg11) rfl) ?_
          rintro _ rfl
          refine Tops_yes rfl rfl (congrArg (fun b => some (Value.bool b)) hg10) (OpT_bin rfl rfl rfl rfl rfl (bin_eql_b (a := decide (((where2.1 + (u64 where2.2.1)) - (1 : UInt64)) < where1.1)) (b := i1 != j1) Try.underlying4)) ?_
          rintro _ rfl
          refine Tops_step rfl (OpT_pickT rfl rfl rfl (congrArg (fun b => some (Value.bool b)) hg10) rfl) ?_
          refine Tops_step rfl (OpT_assign rfl rfl rfl rfl) ?_
          refine Tops_nil (Tk_wkS (fr' := [(10, some (vB ((decide (((where2.1 + (u64 where2.2.1)) - (1 : UInt64)) < where1.1)) == (i1 != j1))))]) (own' := []) (shr' := []) [10] [] [] rfl rfl rfl rfl ?_)
          obtain ⟨hg13, h⟩ := chk_e h
          exact Tk_retV rfl rfl (resA (vs := [.bool true]) rfl ⟨(congrArg (fun b => some (Value.bool b)) hg13), trivial⟩) [] [] rfl rfl rfl ⟨rfl, rfl, rfl⟩
      ·intro HJ1
       refine Tk_region (Tops_step rfl (OpT_move rfl rfl rfl rfl) ?_)
       refine Tops_step rfl (OpT_bin rfl rfl rfl rfl rfl (bin_neq_i (a := where1.2.2) (b := (0 : Int)))) ?_
       refine Tops_step rfl (OpT_move rfl rfl rfl rfl) ?_
       rcases Bool.eq_false_or_eq_true (where1.2.2 != (0 : Int)) with hg14 | hg14
       ·replace h := br_t hg14 h
        refine Tops_no rfl rfl (congrArg (fun b => some (Value.bool b)) hg14) rfl rfl ?_
        refine Tops_no rfl rfl (congrArg (fun b => some (Value.bool b)) hg14) rfl rfl ?_
        refine Tops_step rfl (OpT_pickT rfl rfl rfl (congrArg (fun b => some (Value.bool b)) hg14) rfl) ?_
        refine Tops_nil (Tk_wkS (fr' := [(1, some (vI (wi ((1 : Int) + pick1)))), (3, some (vI (wi ((1 : Int) + pick2)))), (5, some (.pointer (some ⟨b1, 0, none⟩))), (2, some (vI i1)), (4, some (vI j1)), (11, some (vU64 where1.1)), (12, some (vI where1.2.1)), (14, some (vU64 where2.1)), (15, some (vI where2.2.1)), (109, some (vB true))]) (own' := [some (cellsR b1 27 [vB rp0.Packed, vI rp0.Size, vU64 rp0.Desc, vU64 rp0.Driver, vU64 rp0.Device])]) (shr' := []) [1, 3, 5, 2, 4, 11, 12, 14, 15, 109] [0] [] rfl rfl rfl rfl ?_)
        refine Tk_condT rfl ?_
        refine Tk_seq (Tk_region (Tops_step rfl (OpT_assign rfl rfl rfl rfl) ?_))
        refine Tops_nil (Tk_wkS (fr' := [(10, some (vB true))]) (own' := []) (shr' := []) [10] [] [] rfl rfl rfl rfl ?_)
        exact Tk_retV rfl rfl (resA (vs := [.bool true]) rfl ⟨rfl, trivial⟩) [] [] rfl rfl rfl ⟨rfl, rfl, rfl⟩
       ·replace h := br_f hg14 h
        refine Tops_yes rfl rfl (congrArg (fun b => some (Value.bool b)) hg14) (OpT_move rfl rfl rfl rfl) ?_
        rintro _ rfl
        refine Tops_yes rfl rfl (congrArg (fun b => some (Value.bool b)) hg14) (OpT_bin rfl rfl rfl rfl rfl (bin_neq_i (a := where2.2.2) (b := (0 : Int)))) ?_
        rintro _ rfl
        refine Tops_step rfl (OpT_pickF rfl rfl rfl (congrArg (fun b => some (Value.bool b)) hg14) rfl) ?_
        refine Tops_nil (Tk_wkS (fr' := [(1, some (vI (wi ((1 : Int) + pick1)))), (3, some (vI (wi ((1 : Int) + pick2)))), (5, some (.pointer (some ⟨b1, 0, none⟩))), (2, some (vI i1)), (4, some (vI j1)), (11, some (vU64 where1.1)), (12, some (vI where1.2.1)), (14, some (vU64 where2.1)), (15, some (vI where2.2.1)), (109, some (vB (where2.2.2 != (0 : Int))))]) (own' := [some (cellsR b1 27 [vB rp0.Packed, vI rp0.Size, vU64 rp0.Desc, vU64 rp0.Driver, vU64 rp0.Device])]) (shr' := []) [1, 3, 5, 2, 4, 11, 12, 14, 15, 109] [0] [] rfl rfl rfl rfl ?_)
        rcases Bool.eq_false_or_eq_true (where2.2.2 != (0 : Int)) with hg15 | hg15
        ·replace h := br_t hg15 h
         refine Tk_condT (congrArg (fun b => some (Value.bool b)) hg15) ?_
         refine Tk_seq (Tk_region (Tops_step rfl (OpT_assign rfl rfl rfl rfl) ?_))
         refine Tops_nil (Tk_wkS (fr' := [(10, some (vB true))]) (own' := []) (shr' := []) [10] [] [] rfl rfl rfl rfl ?_)
         exact Tk_retV rfl rfl (resA (vs := [.bool true]) rfl ⟨rfl, trivial⟩) [] [] rfl rfl rfl ⟨rfl, rfl, rfl⟩
        ·replace h := br_f hg15 h
         refine Tk_condF (congrArg (fun b => some (Value.bool b)) hg15) ?_
         refine Tk_skip ?_
         exact Tk_jmpS (HJ1 () h) [1, 3, 5, 2, 4, 11, 12, 14, 15] [0] [] rfl rfl rfl rfl
     ·intro HJ2
      refine Tk_drawT (by kernel_rfl) ?_
      refine TA_tb [0, 1, 0, 4, 12, 28, 28, 124, 28, 284, 1020, 2044, 4095, 8191, 16383, 32767, 16383, 81919, 212991, 475135, 475135, 2047999, 475135, 4669439, 16728063, 33505279, 67108863, 134217727] (by kernel_rfl) fun htb => ?_
      rcases Bool.eq_false_or_eq_true ((wi ((1 : Int) + pick1)) == (1 : Int)) with hg16 | hg16
      ·replace h := br_t hg16 h
       refine TA_seg (lo := 0) (hi := 12) htb rfl rfl (by kernel_rfl) (fun c L a w => Sat c ⟨[(1, some (vI (wi ((1 : Int) + pick1)))), (3, some (vI (wi ((1 : Int) + pick2)))), (5, some (.pointer (some ⟨b1, 0, none⟩))), (2, some (vI i1)), (4, some (vI j1)), (11, some (vU64 where1.1)), (12, some (vI where1.2.1)), (13, some (vI where1.2.2)), (14, some (vU64 where2.1)), (15, some (vI where2.2.1)), (16, some (vI where2.2.2)), (17, some (.func (.func 14) #[] #[])), (76, bif L 0 then some (vI where1.2.2) else none), (77, bif L 1 then some (vB (where1.2.2 == (0 : Int))) else none), (78, bif L 2 then some (vI (wi ((1 : Int) + pick1))) else none), (79, bif L 3 then some (vB ((wi ((1 : Int) + pick1)) == (1 : Int))) else none), (80, bif L 4 then some (vB ((wi ((1 : Int) + pick1)) == (1 : Int))) else none), (81, bif L 5 then some (undef) else none), (82, bif L 6 then some (undef) else none), (83, bif L 7 then some (undef) else none), (84, bif L 8 then some (undef) else none), (85, bif L 9 then some (undef) else none), (86, bif L 10 then some (undef) else none), (87, bif L 11 then some (vB true) else none)], [(some (cellsR b1 27 [vB rp0.Packed, vI rp0.Size, vU64 rp0.Desc, vU64 rp0.Driver, vU64 rp0.Device]) : Option Res)], []⟩ a w) [([], [1]), ([0], []), ([], [3, 4, 5, 6, 7, 8, 9, 10, 11]), ([2], [4, 5, 6, 7, 8, 9, 10, 11]), ([2, 3], [5, 6, 7, 8, 9, 10, 11]), ([2, 3, 4], [7, 10, 11]), ([2, 3, 4], [7, 10, 11]), ([2, 3, 4, 5, 6], [10, 11]), ([2, 3, 4], [9, 10, 11]), ([2, 3, 4, 8], [10, 11]), ([2, 3, 4, 5, 6, 7, 8, 9], [11]), ([2, 3, 4, 5, 6, 7, 8, 9, 10], [])] rfl (by kernel_rfl) ?_ (steps_cons ?_ (steps_cons ?_ (steps_cons ?_ (steps_cons ?_ (steps_cons ?_ (steps_cons ?_ (steps_cons ?_ (steps_cons ?_ (steps_cons ?_ (steps_cons ?_ (steps_cons ?_ (steps_cons ?_ (steps_nil))))))))))))) ?_
       ·intro a w hs
        exact hs.startF [76, 77, 78, 79, 80, 81, 82, 83, 84, 85, 86, 87] [0] [] rfl rfl rfl rfl
       ·intro L a w hv K Q hK
        have hs := hv
        refine wpOp_go rfl rfl hs (OpT_move rfl rfl rfl rfl) ?_
        rintro _ rfl a' w' hs'
        exact hK a' w' (hs'.putF (i := 12) rfl [0] [] rfl rfl rfl rfl)
       ·intro L a w hv K Q hK
        have hs := hv
        refine wpOp_go rfl rfl hs (OpT_bin rfl rfl rfl rfl rfl (bin_eql_i (a := where1.2.2) (b := (0 : Int)))) ?_
        rintro _ rfl a' w' hs'
        exact hK a' w' (hs'.putF (i := 13) rfl [0] [] rfl rfl rfl rfl)
       ·intro L a w hv K Q hK
        have hs := hv
        refine wpOp_go rfl rfl hs (OpT_move rfl rfl rfl rfl) ?_
        rintro _ rfl a' w' hs'
        exact hK a' w' (hs'.putF (i := 14) rfl [0] [] rfl rfl rfl rfl)
       ·intro L a w hv K Q hK
        have hs := hv
        refine wpOp_go rfl rfl hs (OpT_bin rfl rfl rfl rfl rfl (bin_eql_i (a := wi ((1 : Int) + pick1)) (b := (1 : Int)))) ?_
        rintro _ rfl a' w' hs'
        exact hK a' w' (hs'.putF (i := 15) rfl [0] [] rfl rfl rfl rfl)
       ·intro L a w hv K Q hK
        have hs := hv
        refine wpOp_go rfl rfl hs (OpT_move rfl rfl rfl rfl) ?_
        rintro _ rfl a' w' hs'
        exact hK a' w' (hs'.putF (i := 16) rfl [0] [] rfl rfl rfl rfl)
       ·intro L a w hv K Q hK
        have hs := hv
        refine wpOp_no rfl rfl rfl hs (congrArg (fun b => some (Value.bool b)) hg16) rfl rfl ?_
        intro a' w' hs'
        exact hK a' w' (hs'.putF (i := 17) rfl [0] [] rfl rfl rfl rfl)
       ·intro L a w hv K Q hK
        have hs := hv
        refine wpOp_no rfl rfl rfl hs (congrArg (fun b => some (Value.bool b)) hg16) rfl rfl ?_
        intro a' w' hs'
        exact hK a' w' (hs'.putF (i := 18) rfl [0] [] rfl rfl rfl rfl)
       ·intro L a w hv K Q hK
        have hs := hv
        refine wpOp_no rfl rfl rfl hs (congrArg (fun b => some (Value.bool b)) hg16) rfl rfl ?_
        intro a' w' hs'
        exact hK a' w' (hs'.putF (i := 19) rfl [0] [] rfl rfl rfl rfl)
       ·intro L a w hv K Q hK
        have hs := hv
        refine wpOp_no rfl rfl rfl hs (congrArg (fun b => some (Value.bool b)) hg16) rfl rfl ?_
        intro a' w' hs'
        exact hK a' w' (hs'.putF (i := 20) rfl [0] [] rfl rfl rfl rfl)
       ·intro L a w hv K Q hK
        have hs := hv
        refine wpOp_no rfl rfl rfl hs (congrArg (fun b => some (Value.bool b)) hg16) rfl rfl ?_
        intro a' w' hs'
        exact hK a' w' (hs'.putF (i := 21) rfl [0] [] rfl rfl rfl rfl)
       ·intro L a w hv K Q hK
        have hs := hv
        refine wpOp_no rfl rfl rfl hs (congrArg (fun b => some (Value.bool b)) hg16) rfl rfl ?_
        intro a' w' hs'
        exact hK a' w' (hs'.putF (i := 22) rfl [0] [] rfl rfl rfl rfl)
       ·intro L a w hv K Q hK
        have hs := hv
        refine wpOp_go rfl rfl hs (OpT_pickT rfl rfl rfl (congrArg (fun b => some (Value.bool b)) hg16) rfl) ?_
        rintro _ rfl a' w' hs'
        exact hK a' w' (hs'.putF (i := 23) rfl [0] [] rfl rfl rfl rfl)
       ·intro L a w hL hv
        rw [allTrue hL] at hv
        have hs := hv
        refine (show TA _ _ _ 12 ⟨[(1, some (vI (wi ((1 : Int) + pick1)))), (3, some (vI (wi ((1 : Int) + pick2)))), (5, some (.pointer (some ⟨b1, 0, none⟩))), (2, some (vI i1)), (4, some (vI j1)), (11, some (vU64 where1.1)), (12, some (vI where1.2.1)), (13, some (vI where1.2.2)), (14, some (vU64 where2.1)), (15, some (vI where2.2.1)), (16, some (vI where2.2.2)), (17, some (.func (.func 14) #[] #[])), (77, some (vB (where1.2.2 == (0 : Int)))), (87, some (vB true))], [some (cellsR b1 27 [vB rp0.Packed, vI rp0.Size, vU64 rp0.Desc, vU64 rp0.Driver, vU64 rp0.Device])], []⟩ from ?_) a w (hs.wkS [1, 3, 5, 2, 4, 11, 12, 13, 14, 15, 16, 17, 77, 87] [0] [] rfl rfl rfl rfl)
        clear hs hL
        refine TA_step htb (by kernel_rfl) rfl rfl (OpT_bin rfl rfl rfl rfl rfl (bin_neq_b (a := where1.2.2 == (0 : Int)) (b := true) Try.underlying4)) ?_
        refine TA_step htb (by kernel_rfl) rfl rfl (OpT_move rfl rfl rfl rfl) ?_
        refine TA_wkS (fr' := [(1, some (vI (wi ((1 : Int) + pick1)))), (3, some (vI (wi ((1 : Int) + pick2)))), (5, some (.pointer (some ⟨b1, 0, none⟩))), (2, some (vI i1)), (4, some (vI j1)), (11, some (vU64 where1.1)), (12, some (vI where1.2.1)), (13, some (vI where1.2.2)), (14, some (vU64 where2.1)), (15, some (vI where2.2.1)), (16, some (vI where2.2.2)), (17, some (.func (.func 14) #[] #[])), (89, some (vB ((where1.2.2 == (0 : Int)) != true)))]) (own' := [some (cellsR b1 27 [vB rp0.Packed, vI rp0.Size, vU64 rp0.Desc, vU64 rp0.Driver, vU64 rp0.Device])]) (shr' := []) [1, 3, 5, 2, 4, 11, 12, 13, 14, 15, 16, 17, 89] [0] [] rfl rfl rfl rfl ?_
        obtain ⟨hg17, h⟩ := chk_e h
        replace hg17 := not_t hg17
        rcases Bool.eq_false_or_eq_true ((wi ((1 : Int) + pick2)) == (1 : Int)) with hg18 | hg18
        ·replace h := br_t hg18 h
         refine TA_seg (lo := 14) (hi := 26) htb rfl rfl (by kernel_rfl) (fun c L a w => Sat c ⟨[(1, some (vI (wi ((1 : Int) + pick1)))), (3, some (vI (wi ((1 : Int) + pick2)))), (5, some (.pointer (some ⟨b1, 0, none⟩))), (2, some (vI i1)), (4, some (vI j1)), (11, some (vU64 where1.1)), (12, some (vI where1.2.1)), (13, some (vI where1.2.2)), (14, some (vU64 where2.1)), (15, some (vI where2.2.1)), (16, some (vI where2.2.2)), (17, some (.func (.func 14) #[] #[])), (89, some (vB ((where1.2.2 == (0 : Int)) != true))), (90, bif L 14 then some (vI where2.2.2) else none), (91, bif L 15 then some (vB (where2.2.2 == (0 : Int))) else none), (92, bif L 16 then some (vI (wi ((1 : Int) + pick2))) else none), (93, bif L 17 then some (vB ((wi ((1 : Int) + pick2)) == (1 : Int))) else none), (94, bif L 18 then some (vB ((wi ((1 : Int) + pick2)) == (1 : Int))) else none), (95, bif L 19 then some (undef) else none), (96, bif L 20 then some (undef) else none), (97, bif L 21 then some (undef) else none), (98, bif L 22 then some (undef) else none), (99, bif L 23 then some (undef) else none), (100, bif L 24 then some (undef) else none), (101, bif L 25 then some (vB true) else none)], [(some (cellsR b1 27 [vB rp0.Packed, vI rp0.Size, vU64 rp0.Desc, vU64 rp0.Driver, vU64 rp0.Device]) : Option Res)], []⟩ a w) [([], [15]), ([14], []), ([], [17, 18, 19, 20, 21, 22, 23, 24, 25]), ([16], [18, 19, 20, 21, 22, 23, 24, 25]), ([16, 17], [19, 20, 21, 22, 23, 24, 25]), ([16, 17, 18], [21, 24, 25]), ([16, 17, 18], [21, 24, 25]), ([16, 17, 18, 19, 20], [24, 25]), ([16, 17, 18], [23, 24, 25]), ([16, 17, 18, 22], [24, 25]), ([16, 17, 18, 19, 20, 21, 22, 23], [25]), ([16, 17, 18, 19, 20, 21, 22, 23, 24], [])] rfl (by kernel_rfl) ?_ (steps_cons ?_ (steps_cons ?_ (steps_cons ?_ (steps_cons ?_ (steps_cons ?_ (steps_cons ?_ (steps_cons ?_ (steps_cons ?_ (steps_cons ?_ (steps_cons ?_ (steps_cons ?_ (steps_cons ?_ (steps_nil))))))))))))) ?_
         ·intro a w hs
          exact hs.startF [90, 91, 92, 93, 94, 95, 96, 97, 98, 99, 100, 101] [0] [] rfl rfl rfl rfl
         ·intro L a w hv K Q hK
          have hs := hv
          refine wpOp_yes rfl rfl rfl hs (congrArg (fun b => some (Value.bool b)) hg17) (OpT_move rfl rfl rfl rfl) ?_
          rintro _ rfl a' w' hs'
          exact hK a' w' (hs'.putF (i := 13) rfl [0] [] rfl rfl rfl rfl)
         ·intro L a w hv K Q hK
          have hs := hv
          refine wpOp_yes rfl rfl rfl hs (congrArg (fun b => some (Value.bool b)) hg17) (OpT_bin rfl rfl rfl rfl rfl (bin_eql_i (a := where2.2.2) (b := (0 : Int)))) ?_
          rintro _ rfl a' w' hs'
          exact hK a' w' (hs'.putF (i := 14) rfl [0] [] rfl rfl rfl rfl)
         ·intro L a w hv K Q hK
          have hs := hv
          refine wpOp_yes rfl rfl rfl hs (congrArg (fun b => some (Value.bool b)) hg17) (OpT_move rfl rfl rfl rfl) ?_
          rintro _ rfl a' w' hs'
          exact hK a' w' (hs'.putF (i := 15) rfl [0] [] rfl rfl rfl rfl)
         ·intro L a w hv K Q hK
          have hs := hv
          refine wpOp_yes rfl rfl rfl hs (congrArg (fun b => some (Value.bool b)) hg17) (OpT_bin rfl rfl rfl rfl rfl (bin_eql_i (a := wi ((1 : Int) + pick2)) (b := (1 : Int)))) ?_
          rintro _ rfl a' w' hs'
          exact hK a' w' (hs'.putF (i := 16) rfl [0] [] rfl rfl rfl rfl)
         ·intro L a w hv K Q hK
          have hs := hv
          refine wpOp_yes rfl rfl rfl hs (congrArg (fun b => some (Value.bool b)) hg17) (OpT_move rfl rfl rfl rfl) ?_
          rintro _ rfl a' w' hs'
          exact hK a' w' (hs'.putF (i := 17) rfl [0] [] rfl rfl rfl rfl)
         ·intro L a w hv K Q hK
          have hs := hv
          refine wpOp_no rfl rfl rfl hs (congrArg (fun b => some (Value.bool b)) hg18) rfl rfl ?_
          intro a' w' hs'
          exact hK a' w' (hs'.putF (i := 18) rfl [0] [] rfl rfl rfl rfl)
         ·intro L a w hv K Q hK
          have hs := hv
          refine wpOp_no rfl rfl rfl hs (congrArg (fun b => some (Value.bool b)) hg18) rfl rfl ?_
          intro a' w' hs'
          exact hK a' w' (hs'.putF (i := 19) rfl [0] [] rfl rfl rfl rfl)
         ·intro L a w hv K Q hK
          have hs := hv
          refine wpOp_no rfl rfl rfl hs (congrArg (fun b => some (Value.bool b)) hg18) rfl rfl ?_
          intro a' w' hs'
          exact hK a' w' (hs'.putF (i := 20) rfl [0] [] rfl rfl rfl rfl)
         ·intro L a w hv K Q hK
          have hs := hv
          refine wpOp_no rfl rfl rfl hs (congrArg (fun b => some (Value.bool b)) hg18) rfl rfl ?_
          intro a' w' hs'
          exact hK a' w' (hs'.putF (i := 21) rfl [0] [] rfl rfl rfl rfl)
         ·intro L a w hv K Q hK
          have hs := hv
          refine wpOp_no rfl rfl rfl hs (congrArg (fun b => some (Value.bool b)) hg18) rfl rfl ?_
          intro a' w' hs'
          exact hK a' w' (hs'.putF (i := 22) rfl [0] [] rfl rfl rfl rfl)
         ·intro L a w hv K Q hK
          have hs := hv
          refine wpOp_no rfl rfl rfl hs (congrArg (fun b => some (Value.bool b)) hg18) rfl rfl ?_
          intro a' w' hs'
          exact hK a' w' (hs'.putF (i := 23) rfl [0] [] rfl rfl rfl rfl)
         ·intro L a w hv K Q hK
          have hs := hv
          refine wpOp_yes rfl rfl rfl hs (congrArg (fun b => some (Value.bool b)) hg17) (OpT_pickT rfl rfl rfl (congrArg (fun b => some (Value.bool b)) hg18) rfl) ?_
          rintro _ rfl a' w' hs'
          exact hK a' w' (hs'.putF (i := 24) rfl [0] [] rfl rfl rfl rfl)
         ·intro L a w hL hv
          rw [allTrue hL] at hv
          have hs := hv
          refine (show TA _ _ _ 26 ⟨[(1, some (vI (wi ((1 : Int) + pick1)))), (3, some (vI (wi ((1 : Int) + pick2)))), (5, some (.pointer (some ⟨b1, 0, none⟩))), (2, some (vI i1)), (4, some (vI j1)), (11, some (vU64 where1.1)), (12, some (vI where1.2.1)), (13, some (vI where1.2.2)), (14, some (vU64 where2.1)), (15, some (vI where2.2.1)), (16, some (vI where2.2.2)), (89, some (vB ((where1.2.2 == (0 : Int)) != true))), (91, some (vB (where2.2.2 == (0 : Int)))), (101, some (vB true))], [some (cellsR b1 27 [vB rp0.Packed, vI rp0.Size, vU64 rp0.Desc, vU64 rp0.Driver, vU64 rp0.Device])], []⟩ from ?_) a w (hs.wkS [1, 3, 5, 2, 4, 11, 12, 13, 14, 15, 16, 89, 91, 101] [0] [] rfl rfl rfl rfl)
          clear hs hL
          refine TA_yes htb (by kernel_rfl) rfl rfl rfl (congrArg (fun b => some (Value.bool b)) hg17) (OpT_bin rfl rfl rfl rfl rfl (bin_neq_b (a := where2.2.2 == (0 : Int)) (b := true) Try.underlying4)) ?_
          rintro _ rfl
          refine TA_step htb (by kernel_rfl) rfl rfl (OpT_pickF rfl rfl rfl (congrArg (fun b => some (Value.bool b)) hg17) rfl) ?_
          refine TA_end rfl ?_
          refine Tk_wkS (fr' := [(1, some (vI (wi ((1 : Int) + pick1)))), (3, some (vI (wi ((1 : Int) + pick2)))), (5, some (.pointer (some ⟨b1, 0, none⟩))), (2, some (vI i1)), (4, some (vI j1)), (11, some (vU64 where1.1)), (12, some (vI where1.2.1)), (13, some (vI where1.2.2)), (14, some (vU64 where2.1)), (15, some (vI where2.2.1)), (16, some (vI where2.2.2)), (103, some (vB ((where2.2.2 == (0 : Int)) != true)))]) (own' := [some (cellsR b1 27 [vB rp0.Packed, vI rp0.Size, vU64 rp0.Desc, vU64 rp0.Driver, vU64 rp0.Device])]) (shr' := []) [1, 3, 5, 2, 4, 11, 12, 13, 14, 15, 16, 103] [0] [] rfl rfl rfl rfl ?_
          obtain ⟨hg19, h⟩ := chk_e h
          replace hg19 := not_t hg19
          refine Tk_condF (congrArg (fun b => some (Value.bool b)) hg19) ?_
          refine Tk_skip ?_
          exact Tk_jmpS (HJ2 () h) [1, 3, 5, 2, 4, 11, 12, 13, 14, 15, 16] [0] [] rfl rfl rfl rfl
        ·replace h := br_f hg18 h
         obtain ⟨layout1, hx11, h⟩ := ob_e h
         refine TA_seg (lo := 14) (hi := 26) htb rfl rfl (by kernel_rfl) (fun c L a w => Sat c ⟨[(1, some (vI (wi ((1 : Int) + pick1)))), (3, some (vI (wi ((1 : Int) + pick2)))), (5, some (.pointer (some ⟨b1, 0, none⟩))), (2, some (vI i1)), (4, some (vI j1)), (11, some (vU64 where1.1)), (12, some (vI where1.2.1)), (13, some (vI where1.2.2)), (14, some (vU64 where2.1)), (15, some (vI where2.2.1)), (16, some (vI where2.2.2)), (17, some (.func (.func 14) #[] #[])), (89, some (vB ((where1.2.2 == (0 : Int)) != true))), (90, bif L 14 then some (vI where2.2.2) else none), (91, bif L 15 then some (vB (where2.2.2 == (0 : Int))) else none), (92, bif L 16 then some (vI (wi ((1 : Int) + pick2))) else none), (93, bif L 17 then some (vB ((wi ((1 : Int) + pick2)) == (1 : Int))) else none), (94, bif L 18 then some (vB ((wi ((1 : Int) + pick2)) == (1 : Int))) else none), (95, bif L 19 then some (.func (.func 14) #[] #[]) else none), (96, bif L 20 then some (vI (wi ((1 : Int) + pick2))) else none), (97, bif L 21 then some (vB layout1) else none), (98, bif L 22 then some (.pointer (some ⟨b1, 0, none⟩)) else none), (99, bif L 23 then some (vB rp0.Packed) else none), (100, bif L 24 then some (vB (layout1 != rp0.Packed)) else none), (101, bif L 25 then some (vB (layout1 != rp0.Packed)) else none)], [(some (cellsR b1 27 [vB rp0.Packed, vI rp0.Size, vU64 rp0.Desc, vU64 rp0.Driver, vU64 rp0.Device]) : Option Res)], []⟩ a w) [([], [15]), ([14], []), ([], [17, 18, 19, 20, 21, 22, 23, 24, 25]), ([16], [18, 19, 20, 21, 22, 23, 24, 25]), ([16, 17], [19, 20, 21, 22, 23, 24, 25]), ([16, 17, 18], [21, 24, 25]), ([16, 17, 18], [21, 24, 25]), ([16, 17, 18, 19, 20], [24, 25]), ([16, 17, 18], [23, 24, 25]), ([16, 17, 18, 22], [24, 25]), ([16, 17, 18, 19, 20, 21, 22, 23], [25]), ([16, 17, 18, 19, 20, 21, 22, 23, 24], [])] rfl (by kernel_rfl) ?_ (steps_cons ?_ (steps_cons ?_ (steps_cons ?_ (steps_cons ?_ (steps_cons ?_ (steps_cons ?_ (steps_cons ?_ (steps_cons ?_ (steps_cons ?_ (steps_cons ?_ (steps_cons ?_ (steps_cons ?_ (steps_nil))))))))))))) ?_
         ·intro a w hs
          exact hs.startF [90, 91, 92, 93, 94, 95, 96, 97, 98, 99, 100, 101] [0] [] rfl rfl rfl rfl
         ·intro L a w hv K Q hK
          have hs := hv
          refine wpOp_yes rfl rfl rfl hs (congrArg (fun b => some (Value.bool b)) hg17) (OpT_move rfl rfl rfl rfl) ?_
          rintro _ rfl a' w' hs'
          exact hK a' w' (hs'.putF (i := 13) rfl [0] [] rfl rfl rfl rfl)
         ·intro L a w hv K Q hK
          have hs := hv
          refine wpOp_yes rfl rfl rfl hs (congrArg (fun b => some (Value.bool b)) hg17) (OpT_bin rfl rfl rfl rfl rfl (bin_eql_i (a := where2.2.2) (b := (0 : Int)))) ?_
          rintro _ rfl a' w' hs'
          exact hK a' w' (hs'.putF (i := 14) rfl [0] [] rfl rfl rfl rfl)
         ·intro L a w hv K Q hK
          have hs := hv
          refine wpOp_yes rfl rfl rfl hs (congrArg (fun b => some (Value.bool b)) hg17) (OpT_move rfl rfl rfl rfl) ?_
          rintro _ rfl a' w' hs'
          exact hK a' w' (hs'.putF (i := 15) rfl [0] [] rfl rfl rfl rfl)
         ·intro L a w hv K Q hK
          have hs := hv
          refine wpOp_yes rfl rfl rfl hs (congrArg (fun b => some (Value.bool b)) hg17) (OpT_bin rfl rfl rfl rfl rfl (bin_eql_i (a := wi ((1 : Int) + pick2)) (b := (1 : Int)))) ?_
          rintro _ rfl a' w' hs'
          exact hK a' w' (hs'.putF (i := 16) rfl [0] [] rfl rfl rfl rfl)
         ·intro L a w hv K Q hK
          have hs := hv
          refine wpOp_yes rfl rfl rfl hs (congrArg (fun b => some (Value.bool b)) hg17) (OpT_move rfl rfl rfl rfl) ?_
          rintro _ rfl a' w' hs'
          exact hK a' w' (hs'.putF (i := 17) rfl [0] [] rfl rfl rfl rfl)
         ·intro L a w hv K Q hK
          have hs := hv
          refine wpOp_yes rfl rfl rfl hs (congrArg (fun b => some (Value.bool b)) hg18) (OpT_move rfl rfl rfl rfl) ?_
          rintro _ rfl a' w' hs'
          exact hK a' w' (hs'.putF (i := 18) rfl [0] [] rfl rfl rfl rfl)
         ·intro L a w hv K Q hK
          have hs := hv
          refine wpOp_yes rfl rfl rfl hs (congrArg (fun b => some (Value.bool b)) hg18) (OpT_move rfl rfl rfl rfl) ?_
          rintro _ rfl a' w' hs'
          exact hK a' w' (hs'.putF (i := 19) rfl [0] [] rfl rfl rfl rfl)
         ·intro L a w hv K Q hK
          have hs := hv
          refine wpOp_yes rfl rfl rfl hs (congrArg (fun b => some (Value.bool b)) hg18) (OpT_call (w_law04zLayoutApart_1 hx11) [] [] rfl rfl rfl rfl rfl callee14 rfl rfl rfl rfl) ?_
          rintro _ ⟨_, _, _, ⟨rfl, rfl, rfl⟩, rfl⟩ a' w' hs'
          exact hK a' w' (hs'.putF (i := 20) rfl [0] [] rfl rfl rfl rfl)
         ·intro L a w hv K Q hK
          have hs := hv
          refine wpOp_yes rfl rfl rfl hs (congrArg (fun b => some (Value.bool b)) hg18) (OpT_fieldC rfl rfl rfl rfl fldF27x0) ?_
          rintro _ rfl a' w' hs'
          exact hK a' w' (hs'.putF (i := 21) rfl [0] [] rfl rfl rfl rfl)
         ·intro L a w hv K Q hK
          have hs := hv
          refine wpOp_yes rfl rfl rfl hs (congrArg (fun b => some (Value.bool b)) hg18) (OpT_loadC rfl rfl rfl rfl tyF4 (i := 0) rfl rfl) ?_
          rintro _ rfl a' w' hs'
          exact hK a' w' (hs'.putF (i := 22) rfl [0] [] rfl rfl rfl rfl)
         ·intro L a w hv K Q hK
          have hs := hv
          refine wpOp_yes rfl rfl rfl hs (congrArg (fun b => some (Value.bool b)) hg18) (OpT_bin rfl rfl rfl rfl rfl (bin_neq_b (a := layout1) (b := rp0.Packed) Try.underlying4)) ?_
          rintro _ rfl a' w' hs'
          exact hK a' w' (hs'.putF (i := 23) rfl [0] [] rfl rfl rfl rfl)
         ·intro L a w hv K Q hK
          have hs := hv
          refine wpOp_yes rfl rfl rfl hs (congrArg (fun b => some (Value.bool b)) hg17) (OpT_pickF rfl rfl rfl (congrArg (fun b => some (Value.bool b)) hg18) rfl) ?_
          rintro _ rfl a' w' hs'
          exact hK a' w' (hs'.putF (i := 24) rfl [0] [] rfl rfl rfl rfl)
         ·intro L a w hL hv
          rw [allTrue hL] at hv
          have hs := hv
          refine (show TA _ _ _ 26 ⟨[(1, some (vI (wi ((1 : Int) + pick1)))), (3, some (vI (wi ((1 : Int) + pick2)))), (5, some (.pointer (some ⟨b1, 0, none⟩))), (2, some (vI i1)), (4, some (vI j1)), (11, some (vU64 where1.1)), (12, some (vI where1.2.1)), (13, some (vI where1.2.2)), (14, some (vU64 where2.1)), (15, some (vI where2.2.1)), (16, some (vI where2.2.2)), (89, some (vB ((where1.2.2 == (0 : Int)) != true))), (91, some (vB (where2.2.2 == (0 : Int)))), (101, some (vB (layout1 != rp0.Packed)))], [some (cellsR b1 27 [vB rp0.Packed, vI rp0.Size, vU64 rp0.Desc, vU64 rp0.Driver, vU64 rp0.Device])], []⟩ from ?_) a w (hs.wkS [1, 3, 5, 2, 4, 11, 12, 13, 14, 15, 16, 89, 91, 101] [0] [] rfl rfl rfl rfl)
          clear hs hL
          refine TA_yes htb (by kernel_rfl) rfl rfl rfl (congrArg (fun b => some (Value.bool b)) hg17) (OpT_bin rfl rfl rfl rfl rfl (bin_neq_b (a := where2.2.2 == (0 : Int)) (b := layout1 != rp0.Packed) Try.underlying4)) ?_
          rintro _ rfl
          refine TA_step htb (by kernel_rfl) rfl rfl (OpT_pickF rfl rfl rfl (congrArg (fun b => some (Value.bool b)) hg17) rfl) ?_
          refine TA_end rfl ?_
          refine Tk_wkS (fr' := [(1, some (vI (wi ((1 : Int) + pick1)))), (3, some (vI (wi ((1 : Int) + pick2)))), (5, some (.pointer (some ⟨b1, 0, none⟩))), (2, some (vI i1)), (4, some (vI j1)), (11, some (vU64 where1.1)), (12, some (vI where1.2.1)), (13, some (vI where1.2.2)), (14, some (vU64 where2.1)), (15, some (vI where2.2.1)), (16, some (vI where2.2.2)), (103, some (vB ((where2.2.2 == (0 : Int)) != (layout1 != rp0.Packed))))]) (own' := [some (cellsR b1 27 [vB rp0.Packed, vI rp0.Size, vU64 rp0.Desc, vU64 rp0.Driver, vU64 rp0.Device])]) (shr' := []) [1, 3, 5, 2, 4, 11, 12, 13, 14, 15, 16, 103] [0] [] rfl rfl rfl rfl ?_
          obtain ⟨hg20, h⟩ := chk_e h
          replace hg20 := not_t hg20
          refine Tk_condF (congrArg (fun b => some (Value.bool b)) hg20) ?_
          refine Tk_skip ?_
          exact Tk_jmpS (HJ2 () h) [1, 3, 5, 2, 4, 11, 12, 13, 14, 15, 16] [0] [] rfl rfl rfl rfl
      ·replace h := br_f hg16 h
       obtain ⟨layout2, hx12, h⟩ := ob_e h
       refine TA_seg (lo := 0) (hi := 12) htb rfl rfl (by kernel_rfl) (fun c L a w => Sat c ⟨[(1, some (vI (wi ((1 : Int) + pick1)))), (3, some (vI (wi ((1 : Int) + pick2)))), (5, some (.pointer (some ⟨b1, 0, none⟩))), (2, some (vI i1)), (4, some (vI j1)), (11, some (vU64 where1.1)), (12, some (vI where1.2.1)), (13, some (vI where1.2.2)), (14, some (vU64 where2.1)), (15, some (vI where2.2.1)), (16, some (vI where2.2.2)), (17, some (.func (.func 14) #[] #[])), (76, bif L 0 then some (vI where1.2.2) else none), (77, bif L 1 then some (vB (where1.2.2 == (0 : Int))) else none), (78, bif L 2 then some (vI (wi ((1 : Int) + pick1))) else none), (79, bif L 3 then some (vB ((wi ((1 : Int) + pick1)) == (1 : Int))) else none), (80, bif L 4 then some (vB ((wi ((1 : Int) + pick1)) == (1 : Int))) else none), (81, bif L 5 then some (.func (.func 14) #[] #[]) else none), (82, bif L 6 then some (vI (wi ((1 : Int) + pick1))) else none), (83, bif L 7 then some (vB layout2) else none), (84, bif L 8 then some (.pointer (some ⟨b1, 0, none⟩)) else none), (85, bif L 9 then some (vB rp0.Packed) else none), (86, bif L 10 then some (vB (layout2 != rp0.Packed)) else none), (87, bif L 11 then some (vB (layout2 != rp0.Packed)) else none)], [(some (cellsR b1 27 [vB rp0.Packed, vI rp0.Size, vU64 rp0.Desc, vU64 rp0.Driver, vU64 rp0.Device]) : Option Res)], []⟩ a w) [([], [1]), ([0], []), ([], [3, 4, 5, 6, 7, 8, 9, 10, 11]), ([2], [4, 5, 6, 7, 8, 9, 10, 11]), ([2, 3], [5, 6, 7, 8, 9, 10, 11]), ([2, 3, 4], [7, 10, 11]), ([2, 3, 4], [7, 10, 11]), ([2, 3, 4, 5, 6], [10, 11]), ([2, 3, 4], [9, 10, 11]), ([2, 3, 4, 8], [10, 11]), ([2, 3, 4, 5, 6, 7, 8, 9], [11]), ([2, 3, 4, 5, 6, 7, 8, 9, 10], [])] rfl (by kernel_rfl) ?_ (steps_cons ?_ (steps_cons ?_ (steps_cons ?_ (steps_cons ?_ (steps_cons ?_ (steps_cons ?_ (steps_cons ?_ (steps_cons ?_ (steps_cons ?_ (steps_cons ?_ (steps_cons ?_ (steps_cons ?_ (steps_nil))))))))))))) ?_
       ·intro a w hs
        exact hs.startF [76, 77, 78, 79, 80, 81, 82, 83, 84, 85, 86, 87] [0] [] rfl rfl rfl rfl
       ·intro L a w hv K Q hK
        have hs := hv
        refine wpOp_go rfl rfl hs (OpT_move rfl rfl rfl rfl) ?_
        rintro _ rfl a' w' hs'
        exact hK a' w' (hs'.putF (i := 12) rfl [0] [] rfl rfl rfl rfl)
       ·intro L a w hv K Q hK
        have hs := hv
        refine wpOp_go rfl rfl hs (OpT_bin rfl rfl rfl rfl rfl (bin_eql_i (a := where1.2.2) (b := (0 : Int)))) ?_
        rintro _ rfl a' w' hs'
        exact hK a' w' (hs'.putF (i := 13) rfl [0] [] rfl rfl rfl rfl)
       ·intro L a w hv K Q hK
        have hs := hv
        refine wpOp_go rfl rfl hs (OpT_move rfl rfl rfl rfl) ?_
        rintro _ rfl a' w' hs'
        exact hK a' w' (hs'.putF (i := 14) rfl [0] [] rfl rfl rfl rfl)
       ·intro L a w hv K Q hK
        have hs := hv
        refine wpOp_go rfl rfl hs (OpT_bin rfl rfl rfl rfl rfl (bin_eql_i (a := wi ((1 : Int) + pick1)) (b := (1 : Int)))) ?_
        rintro _ rfl a' w' hs'
        exact hK a' w' (hs'.putF (i := 15) rfl [0] [] rfl rfl rfl rfl)
       ·intro L a w hv K Q hK
        have hs := hv
        refine wpOp_go rfl rfl hs (OpT_move rfl rfl rfl rfl) ?_
        rintro _ rfl a' w' hs'
        exact hK a' w' (hs'.putF (i := 16) rfl [0] [] rfl rfl rfl rfl)
       ·intro L a w hv K Q hK
        have hs := hv
        refine wpOp_yes rfl rfl rfl hs (congrArg (fun b => some (Value.bool b)) hg16) (OpT_move rfl rfl rfl rfl) ?_
        rintro _ rfl a' w' hs'
        exact hK a' w' (hs'.putF (i := 17) rfl [0] [] rfl rfl rfl rfl)
       ·intro L a w hv K Q hK
        have hs := hv
        refine wpOp_yes rfl rfl rfl hs (congrArg (fun b => some (Value.bool b)) hg16) (OpT_move rfl rfl rfl rfl) ?_
        rintro _ rfl a' w' hs'
        exact hK a' w' (hs'.putF (i := 18) rfl [0] [] rfl rfl rfl rfl)
       ·intro L a w hv K Q hK
        have hs := hv
        refine wpOp_yes rfl rfl rfl hs (congrArg (fun b => some (Value.bool b)) hg16) (OpT_call (w_law04zLayoutApart_1 hx12) [] [] rfl rfl rfl rfl rfl callee14 rfl rfl rfl rfl) ?_
        rintro _ ⟨_, _, _, ⟨rfl, rfl, rfl⟩, rfl⟩ a' w' hs'
        exact hK a' w' (hs'.putF (i := 19) rfl [0] [] rfl rfl rfl rfl)
       ·intro L a w hv K Q hK
        have hs := hv
        refine wpOp_yes rfl rfl rfl hs (congrArg (fun b => some (Value.bool b)) hg16) (OpT_fieldC rfl rfl rfl rfl fldF27x0) ?_
        rintro _ rfl a' w' hs'
        exact hK a' w' (hs'.putF (i := 20) rfl [0] [] rfl rfl rfl rfl)
       ·intro L a w hv K Q hK
        have hs := hv
        refine wpOp_yes rfl rfl rfl hs (congrArg (fun b => some (Value.bool b)) hg16) (OpT_loadC rfl rfl rfl rfl tyF4 (i := 0) rfl rfl) ?_
        rintro _ rfl a' w' hs'
        exact hK a' w' (hs'.putF (i := 21) rfl [0] [] rfl rfl rfl rfl)
       ·intro L a w hv K Q hK
        have hs := hv
        refine wpOp_yes rfl rfl rfl hs (congrArg (fun b => some (Value.bool b)) hg16) (OpT_bin rfl rfl rfl rfl rfl (bin_neq_b (a := layout2) (b := rp0.Packed) Try.underlying4)) ?_
        rintro _ rfl a' w' hs'
        exact hK a' w' (hs'.putF (i := 22) rfl [0] [] rfl rfl rfl rfl)
       ·intro L a w hv K Q hK
        have hs := hv
        refine wpOp_go rfl rfl hs (OpT_pickF rfl rfl rfl (congrArg (fun b => some (Value.bool b)) hg16) rfl) ?_
        rintro _ rfl a' w' hs'
        exact hK a' w' (hs'.putF (i := 23) rfl [0] [] rfl rfl rfl rfl)
       ·intro L a w hL hv
        rw [allTrue hL] at hv
        have hs := hv
        refine (show TA _ _ _ 12 ⟨[(1, some (vI (wi ((1 : Int) + pick1)))), (3, some (vI (wi ((1 : Int) + pick2)))), (5, some (.pointer (some ⟨b1, 0, none⟩))), (2, some (vI i1)), (4, some (vI j1)), (11, some (vU64 where1.1)), (12, some (vI where1.2.1)), (13, some (vI where1.2.2)), (14, some (vU64 where2.1)), (15, some (vI where2.2.1)), (16, some (vI where2.2.2)), (17, some (.func (.func 14) #[] #[])), (77, some (vB (where1.2.2 == (0 : Int)))), (87, some (vB (layout2 != rp0.Packed)))], [some (cellsR b1 27 [vB rp0.Packed, vI rp0.Size, vU64 rp0.Desc, vU64 rp0.Driver, vU64 rp0.Device])], []⟩ from ?_) a w (hs.wkS [1, 3, 5, 2, 4, 11, 12, 13, 14, 15, 16, 17, 77, 87] [0] [] rfl rfl rfl rfl)
        clear hs hL
        refine TA_step htb (by kernel_rfl) rfl rfl (OpT_bin rfl rfl rfl rfl rfl (bin_neq_b (a := where1.2.2 == (0 : Int)) (b := layout2 != rp0.Packed) Try.underlying4)) ?_
        refine TA_step htb (by kernel_rfl) rfl rfl (OpT_move rfl rfl rfl rfl) ?_
        refine TA_wkS (fr' := [(1, some (vI (wi ((1 : Int) + pick1)))), (3, some (vI (wi ((1 : Int) + pick2)))), (5, some (.pointer (some ⟨b1, 0, none⟩))), (2, some (vI i1)), (4, some (vI j1)), (11, some (vU64 where1.1)), (12, some (vI where1.2.1)), (13, some (vI where1.2.2)), (14, some (vU64 where2.1)), (15, some (vI where2.2.1)), (16, some (vI where2.2.2)), (17, some (.func (.func 14) #[] #[])), (89, some (vB ((where1.2.2 == (0 : Int)) != (layout2 != rp0.Packed))))]) (own' := [some (cellsR b1 27 [vB rp0.Packed, vI rp0.Size, vU64 rp0.Desc, vU64 rp0.Driver, vU64 rp0.Device])]) (shr' := []) [1, 3, 5, 2, 4, 11, 12, 13, 14, 15, 16, 17, 89] [0] [] rfl rfl rfl rfl ?_
        obtain ⟨hg21, h⟩ := chk_e h
        replace hg21 := not_t hg21
        rcases Bool.eq_false_or_eq_true ((wi ((1 : Int) + pick2)) == (1 : Int)) with hg22 | hg22
        ·replace h := br_t hg22 h
         refine TA_seg (lo := 14) (hi := 26) htb rfl rfl (by kernel_rfl) (fun c L a w => Sat c ⟨[(1, some (vI (wi ((1 : Int) + pick1)))), (3, some (vI (wi ((1 : Int) + pick2)))), (5, some (.pointer (some ⟨b1, 0, none⟩))), (2, some (vI i1)), (4, some (vI j1)), (11, some (vU64 where1.1)), (12, some (vI where1.2.1)), (13, some (vI where1.2.2)), (14, some (vU64 where2.1)), (15, some (vI where2.2.1)), (16, some (vI where2.2.2)), (17, some (.func (.func 14) #[] #[])), (89, some (vB ((where1.2.2 == (0 : Int)) != (layout2 != rp0.Packed)))), (90, bif L 14 then some (vI where2.2.2) else none), (91, bif L 15 then some (vB (where2.2.2 == (0 : Int))) else none), (92, bif L 16 then some (vI (wi ((1 : Int) + pick2))) else none), (93, bif L 17 then some (vB ((wi ((1 : Int) + pick2)) == (1 : Int))) else none), (94, bif L 18 then some (vB ((wi ((1 : Int) + pick2)) == (1 : Int))) else none), (95, bif L 19 then some (undef) else none), (96, bif L 20 then some (undef) else none), (97, bif L 21 then some (undef) else none), (98, bif L 22 then some (undef) else none), (99, bif L 23 then some (undef) else none), (100, bif L 24 then some (undef) else none), (101, bif L 25 then some (vB true) else none)], [(some (cellsR b1 27 [vB rp0.Packed, vI rp0.Size, vU64 rp0.Desc, vU64 rp0.Driver, vU64 rp0.Device]) : Option Res)], []⟩ a w) [([], [15]), ([14], []), ([], [17, 18, 19, 20, 21, 22, 23, 24, 25]), ([16], [18, 19, 20, 21, 22, 23, 24, 25]), ([16, 17], [19, 20, 21, 22, 23, 24, 25]), ([16, 17, 18], [21, 24, 25]), ([16, 17, 18], [21, 24, 25]), ([16, 17, 18, 19, 20], [24, 25]), ([16, 17, 18], [23, 24, 25]), ([16, 17, 18, 22], [24, 25]), ([16, 17, 18, 19, 20, 21, 22, 23], [25]), ([16, 17, 18, 19, 20, 21, 22, 23, 24], [])] rfl (by kernel_rfl) ?_ (steps_cons ?_ (steps_cons ?_ (steps_cons ?_ (steps_cons ?_ (steps_cons ?_ (steps_cons ?_ (steps_cons ?_ (steps_cons ?_ (steps_cons ?_ (steps_cons ?_ (steps_cons ?_ (steps_cons ?_ (steps_nil))))))))))))) ?_
         ·intro a w hs
          exact hs.startF [90, 91, 92, 93, 94, 95, 96, 97, 98, 99, 100, 101] [0] [] rfl rfl rfl rfl
         ·intro L a w hv K Q hK
          have hs := hv
          refine wpOp_yes rfl rfl rfl hs (congrArg (fun b => some (Value.bool b)) hg21) (OpT_move rfl rfl rfl rfl) ?_
          rintro _ rfl a' w' hs'
          exact hK a' w' (hs'.putF (i := 13) rfl [0] [] rfl rfl rfl rfl)
         ·intro L a w hv K Q hK
          have hs := hv
          refine wpOp_yes rfl rfl rfl hs (congrArg (fun b => some (Value.bool b)) hg21) (OpT_bin rfl rfl rfl rfl rfl (bin_eql_i (a := where2.2.2) (b := (0 : Int)))) ?_
          rintro _ rfl a' w' hs'
          exact hK a' w' (hs'.putF (i := 14) rfl [0] [] rfl rfl rfl rfl)
         ·intro L a w hv K Q hK
          have hs := hv
          refine wpOp_yes rfl rfl rfl hs (congrArg (fun b => some (Value.bool b)) hg21) (OpT_move rfl rfl rfl rfl) ?_
          rintro _ rfl a' w' hs'
          exact hK a' w' (hs'.putF (i := 15) rfl [0] [] rfl rfl rfl rfl)
         ·intro L a w hv K Q hK
          have hs := hv
          refine wpOp_yes rfl rfl rfl hs (congrArg (fun b => some (Value.bool b)) hg21) (OpT_bin rfl rfl rfl rfl rfl (bin_eql_i (a := wi ((1 : Int) + pick2)) (b := (1 : Int)))) ?_
          rintro _ rfl a' w' hs'
          exact hK a' w' (hs'.putF (i := 16) rfl [0] [] rfl rfl rfl rfl)
         ·intro L a w hv K Q hK
          have hs := hv
          refine wpOp_yes rfl rfl rfl hs (congrArg (fun b => some (Value.bool b)) hg21) (OpT_move rfl rfl rfl rfl) ?_
          rintro _ rfl a' w' hs'
          exact hK a' w' (hs'.putF (i := 17) rfl [0] [] rfl rfl rfl rfl)
         ·intro L a w hv K Q hK
          have hs := hv
          refine wpOp_no rfl rfl rfl hs (congrArg (fun b => some (Value.bool b)) hg22) rfl rfl ?_
          intro a' w' hs'
          exact hK a' w' (hs'.putF (i := 18) rfl [0] [] rfl rfl rfl rfl)
         ·intro L a w hv K Q hK
          have hs := hv
          refine wpOp_no rfl rfl rfl hs (congrArg (fun b => some (Value.bool b)) hg22) rfl rfl ?_
          intro a' w' hs'
          exact hK a' w' (hs'.putF (i := 19) rfl [0] [] rfl rfl rfl rfl)
         ·intro L a w hv K Q hK
          have hs := hv
          refine wpOp_no rfl rfl rfl hs (congrArg (fun b => some (Value.bool b)) hg22) rfl rfl ?_
          intro a' w' hs'
          exact hK a' w' (hs'.putF (i := 20) rfl [0] [] rfl rfl rfl rfl)
         ·intro L a w hv K Q hK
          have hs := hv
          refine wpOp_no rfl rfl rfl hs (congrArg (fun b => some (Value.bool b)) hg22) rfl rfl ?_
          intro a' w' hs'
          exact hK a' w' (hs'.putF (i := 21) rfl [0] [] rfl rfl rfl rfl)
         ·intro L a w hv K Q hK
          have hs := hv
          refine wpOp_no rfl rfl rfl hs (congrArg (fun b => some (Value.bool b)) hg22) rfl rfl ?_
          intro a' w' hs'
          exact hK a' w' (hs'.putF (i := 22) rfl [0] [] rfl rfl rfl rfl)
         ·intro L a w hv K Q hK
          have hs := hv
          refine wpOp_no rfl rfl rfl hs (congrArg (fun b => some (Value.bool b)) hg22) rfl rfl ?_
          intro a' w' hs'
          exact hK a' w' (hs'.putF (i := 23) rfl [0] [] rfl rfl rfl rfl)
         ·intro L a w hv K Q hK
          have hs := hv
          refine wpOp_yes rfl rfl rfl hs (congrArg (fun b => some (Value.bool b)) hg21) (OpT_pickT rfl rfl rfl (congrArg (fun b => some (Value.bool b)) hg22) rfl) ?_
          rintro _ rfl a' w' hs'
          exact hK a' w' (hs'.putF (i := 24) rfl [0] [] rfl rfl rfl rfl)
         ·intro L a w hL hv
          rw [allTrue hL] at hv
          have hs := hv
          refine (show TA _ _ _ 26 ⟨[(1, some (vI (wi ((1 : Int) + pick1)))), (3, some (vI (wi ((1 : Int) + pick2)))), (5, some (.pointer (some ⟨b1, 0, none⟩))), (2, some (vI i1)), (4, some (vI j1)), (11, some (vU64 where1.1)), (12, some (vI where1.2.1)), (13, some (vI where1.2.2)), (14, some (vU64 where2.1)), (15, some (vI where2.2.1)), (16, some (vI where2.2.2)), (89, some (vB ((where1.2.2 == (0 : Int)) != (layout2 != rp0.Packed)))), (91, some (vB (where2.2.2 == (0 : Int)))), (101, some (vB true))], [some (cellsR b1 27 [vB rp0.Packed, vI rp0.Size, vU64 rp0.Desc, vU64 rp0.Driver, vU64 rp0.Device])], []⟩ from ?_) a w (hs.wkS [1, 3, 5, 2, 4, 11, 12, 13, 14, 15, 16, 89, 91, 101] [0] [] rfl rfl rfl rfl)
          clear hs hL
          refine TA_yes htb (by kernel_rfl) rfl rfl rfl (congrArg (fun b => some (Value.bool b)) hg21) (OpT_bin rfl rfl rfl rfl rfl (bin_neq_b (a := where2.2.2 == (0 : Int)) (b := true) Try.underlying4)) ?_
          rintro _ rfl
          refine TA_step htb (by kernel_rfl) rfl rfl (OpT_pickF rfl rfl rfl (congrArg (fun b => some (Value.bool b)) hg21) rfl) ?_
          refine TA_end rfl ?_
          refine Tk_wkS (fr' := [(1, some (vI (wi ((1 : Int) + pick1)))), (3, some (vI (wi ((1 : Int) + pick2)))), (5, some (.pointer (some ⟨b1, 0, none⟩))), (2, some (vI i1)), (4, some (vI j1)), (11, some (vU64 where1.1)), (12, some (vI where1.2.1)), (13, some (vI where1.2.2)), (14, some (vU64 where2.1)), (15, some (vI where2.2.1)), (16, some (vI where2.2.2)), (103, some (vB ((where2.2.2 == (0 : Int)) != true)))]) (own' := [some (cellsR b1 27 [vB rp0.Packed, vI rp0.Size, vU64 rp0.Desc, vU64 rp0.Driver, vU64 rp0.Device])]) (shr' := []) [1, 3, 5, 2, 4, 11, 12, 13, 14, 15, 16, 103] [0] [] rfl rfl rfl rfl ?_
          obtain ⟨hg23, h⟩ := chk_e h
          replace hg23 := not_t hg23
          refine Tk_condF (congrArg (fun b => some (Value.bool b)) hg23) ?_
          refine Tk_skip ?_
          exact Tk_jmpS (HJ2 () h) [1, 3, 5, 2, 4, 11, 12, 13, 14, 15, 16] [0] [] rfl rfl rfl rfl
        ·replace h := br_f hg22 h
         obtain ⟨layout3, hx13, h⟩ := ob_e h
         refine TA_seg (lo := 14) (hi := 26) htb rfl rfl (by kernel_rfl) (fun c L a w => Sat c ⟨[(1, some (vI (wi ((1 : Int) + pick1)))), (3, some (vI (wi ((1 : Int) + pick2)))), (5, some (.pointer (some ⟨b1, 0, none⟩))), (2, some (vI i1)), (4, some (vI j1)), (11, some (vU64 where1.1)), (12, some (vI where1.2.1)), (13, some (vI where1.2.2)), (14, some (vU64 where2.1)), (15, some (vI where2.2.1)), (16, some (vI where2.2.2)), (17, some (.func (.func 14) #[] #[])), (89, some (vB ((where1.2.2 == (0 : Int)) != (layout2 != rp0.Packed)))), (90, bif L 14 then some (vI where2.2.2) else none), (91, bif L 15 then some (vB (where2.2.2 == (0 : Int))) else none), (92, bif L 16 then some (vI (wi ((1 : Int) + pick2))) else none), (93, bif L 17 then some (vB ((wi ((1 : Int) + pick2)) == (1 : Int))) else none), (94, bif L 18 then some (vB ((wi ((1 : Int) + pick2)) == (1 : Int))) else none), (95, bif L 19 then some (.func (.func 14) #[] #[]) else none), (96, bif L 20 then some (vI (wi ((1 : Int) + pick2))) else none), (97, bif L 21 then some (vB layout3) else none), (98, bif L 22 then some (.pointer (some ⟨b1, 0, none⟩)) else none), (99, bif L 23 then some (vB rp0.Packed) else none), (100, bif L 24 then some (vB (layout3 != rp0.Packed)) else none), (101, bif L 25 then some (vB (layout3 != rp0.Packed)) else none)], [(some (cellsR b1 27 [vB rp0.Packed, vI rp0.Size, vU64 rp0.Desc, vU64 rp0.Driver, vU64 rp0.Device]) : Option Res)], []⟩ a w) [([], [15]), ([14], []), ([], [17, 18, 19, 20, 21, 22, 23, 24, 25]), ([16], [18, 19, 20, 21, 22, 23, 24, 25]), ([16, 17], [19, 20, 21, 22, 23, 24, 25]), ([16, 17, 18], [21, 24, 25]), ([16, 17, 18], [21, 24, 25]), ([16, 17, 18, 19, 20], [24, 25]), ([16, 17, 18], [23, 24, 25]), ([16, 17, 18, 22], [24, 25]), ([16, 17, 18, 19, 20, 21, 22, 23], [25]), ([16, 17, 18, 19, 20, 21, 22, 23, 24], [])] rfl (by kernel_rfl) ?_ (steps_cons ?_ (steps_cons ?_ (steps_cons ?_ (steps_cons ?_ (steps_cons ?_ (steps_cons ?_ (steps_cons ?_ (steps_cons ?_ (steps_cons ?_ (steps_cons ?_ (steps_cons ?_ (steps_cons ?_ (steps_nil))))))))))))) ?_
         ·intro a w hs
          exact hs.startF [90, 91, 92, 93, 94, 95, 96, 97, 98, 99, 100, 101] [0] [] rfl rfl rfl rfl
         ·intro L a w hv K Q hK
          have hs := hv
          refine wpOp_yes rfl rfl rfl hs (congrArg (fun b => some (Value.bool b)) hg21) (OpT_move rfl rfl rfl rfl) ?_
          rintro _ rfl a' w' hs'
          exact hK a' w' (hs'.putF (i := 13) rfl [0] [] rfl rfl rfl rfl)
         ·intro L a w hv K Q hK
          have hs := hv
          refine wpOp_yes rfl rfl rfl hs (congrArg (fun b => some (Value.bool b)) hg21) (OpT_bin rfl rfl rfl rfl rfl (bin_eql_i (a := where2.2.2) (b := (0 : Int)))) ?_
          rintro _ rfl a' w' hs'
          exact hK a' w' (hs'.putF (i := 14) rfl [0] [] rfl rfl rfl rfl)
         ·intro L a w hv K Q hK
          have hs := hv
          refine wpOp_yes rfl rfl rfl hs (congrArg (fun b => some (Value.bool b)) hg21) (OpT_move rfl rfl rfl rfl) ?_
          rintro _ rfl a' w' hs'
          exact hK a' w' (hs'.putF (i := 15) rfl [0] [] rfl rfl rfl rfl)
         ·intro L a w hv K Q hK
          have hs := hv
          refine wpOp_yes rfl rfl rfl hs (congrArg (fun b => some (Value.bool b)) hg21) (OpT_bin rfl rfl rfl rfl rfl (bin_eql_i (a := wi ((1 : Int) + pick2)) (b := (1 : Int)))) ?_
          rintro _ rfl a' w' hs'
          exact hK a' w' (hs'.putF (i := 16) rfl [0] [] rfl rfl rfl rfl)
         ·intro L a w hv K Q hK
          have hs := hv
          refine wpOp_yes rfl rfl rfl hs (congrArg (fun b => some (Value.bool b)) hg21) (OpT_move rfl rfl rfl rfl) ?_
          rintro _ rfl a' w' hs'
          exact hK a' w' (hs'.putF (i := 17) rfl [0] [] rfl rfl rfl rfl)
         ·intro L a w hv K Q hK
          have hs := hv
          refine wpOp_yes rfl rfl rfl hs (congrArg (fun b => some (Value.bool b)) hg22) (OpT_move rfl rfl rfl rfl) ?_
          rintro _ rfl a' w' hs'
          exact hK a' w' (hs'.putF (i := 18) rfl [0] [] rfl rfl rfl rfl)
         ·intro L a w hv K Q hK
          have hs := hv
          refine wpOp_yes rfl rfl rfl hs (congrArg (fun b => some (Value.bool b)) hg22) (OpT_move rfl rfl rfl rfl) ?_
          rintro _ rfl a' w' hs'
          exact hK a' w' (hs'.putF (i := 19) rfl [0] [] rfl rfl rfl rfl)
         ·intro L a w hv K Q hK
          have hs := hv
          refine wpOp_yes rfl rfl rfl hs (congrArg (fun b => some (Value.bool b)) hg22) (OpT_call (w_law04zLayoutApart_1 hx13) [] [] rfl rfl rfl rfl rfl callee14 rfl rfl rfl rfl) ?_
          rintro _ ⟨_, _, _, ⟨rfl, rfl, rfl⟩, rfl⟩ a' w' hs'
          exact hK a' w' (hs'.putF (i := 20) rfl [0] [] rfl rfl rfl rfl)
         ·intro L a w hv K Q hK
          have hs := hv
          refine wpOp_yes rfl rfl rfl hs (congrArg (fun b => some (Value.bool b)) hg22) (OpT_fieldC rfl rfl rfl rfl fldF27x0) ?_
          rintro _ rfl a' w' hs'
          exact hK a' w' (hs'.putF (i := 21) rfl [0] [] rfl rfl rfl rfl)
         ·intro L a w hv K Q hK
          have hs := hv
          refine wpOp_yes rfl rfl rfl hs (congrArg (fun b => some (Value.bool b)) hg22) (OpT_loadC rfl rfl rfl rfl tyF4 (i := 0) rfl rfl) ?_
          rintro _ rfl a' w' hs'
          exact hK a' w' (hs'.putF (i := 22) rfl [0] [] rfl rfl rfl rfl)
         ·intro L a w hv K Q hK
          have hs := hv
          refine wpOp_yes rfl rfl rfl hs (congrArg (fun b => some (Value.bool b)) hg22) (OpT_bin rfl rfl rfl rfl rfl (bin_neq_b (a := layout3) (b := rp0.Packed) Try.underlying4)) ?_
          rintro _ rfl a' w' hs'
          exact hK a' w' (hs'.putF (i := 23) rfl [0] [] rfl rfl rfl rfl)
         ·intro L a w hv K Q hK
          have hs := hv
          refine wpOp_yes rfl rfl rfl hs (congrArg (fun b => some (Value.bool b)) hg21) (OpT_pickF rfl rfl rfl (congrArg (fun b => some (Value.bool b)) hg22) rfl) ?_
          rintro _ rfl a' w' hs'
          exact hK a' w' (hs'.putF (i := 24) rfl [0] [] rfl rfl rfl rfl)
         ·intro L a w hL hv
          rw [allTrue hL] at hv
          have hs := hv
          refine (show TA _ _ _ 26 ⟨[(1, some (vI (wi ((1 : Int) + pick1)))), (3, some (vI (wi ((1 : Int) + pick2)))), (5, some (.pointer (some ⟨b1, 0, none⟩))), (2, some (vI i1)), (4, some (vI j1)), (11, some (vU64 where1.1)), (12, some (vI where1.2.1)), (13, some (vI where1.2.2)), (14, some (vU64 where2.1)), (15, some (vI where2.2.1)), (16, some (vI where2.2.2)), (89, some (vB ((where1.2.2 == (0 : Int)) != (layout2 != rp0.Packed)))), (91, some (vB (where2.2.2 == (0 : Int)))), (101, some (vB (layout3 != rp0.Packed)))], [some (cellsR b1 27 [vB rp0.Packed, vI rp0.Size, vU64 rp0.Desc, vU64 rp0.Driver, vU64 rp0.Device])], []⟩ from ?_) a w (hs.wkS [1, 3, 5, 2, 4, 11, 12, 13, 14, 15, 16, 89, 91, 101] [0] [] rfl rfl rfl rfl)
          clear hs hL
          refine TA_yes htb (by kernel_rfl) rfl rfl rfl (congrArg (fun b => some (Value.bool b)) hg21) (OpT_bin rfl rfl rfl rfl rfl (bin_neq_b (a := where2.2.2 == (0 : Int)) (b := layout3 != rp0.Packed) Try.underlying4)) ?_
          rintro _ rfl
          refine TA_step htb (by kernel_rfl) rfl rfl (OpT_pickF rfl rfl rfl (congrArg (fun b => some (Value.bool b)) hg21) rfl) ?_
          refine TA_end rfl ?_
          refine Tk_wkS (fr' := [(1, some (vI (wi ((1 : Int) + pick1)))), (3, some (vI (wi ((1 : Int) + pick2)))), (5, some (.pointer (some ⟨b1, 0, none⟩))), (2, some (vI i1)), (4, some (vI j1)), (11, some (vU64 where1.1)), (12, some (vI where1.2.1)), (13, some (vI where1.2.2)), (14, some (vU64 where2.1)), (15, some (vI where2.2.1)), (16, some (vI where2.2.2)), (103, some (vB ((where2.2.2 == (0 : Int)) != (layout3 != rp0.Packed))))]) (own' := [some (cellsR b1 27 [vB rp0.Packed, vI rp0.Size, vU64 rp0.Desc, vU64 rp0.Driver, vU64 rp0.Device])]) (shr' := []) [1, 3, 5, 2, 4, 11, 12, 13, 14, 15, 16, 103] [0] [] rfl rfl rfl rfl ?_
          obtain ⟨hg24, h⟩ := chk_e h
          replace hg24 := not_t hg24
          refine Tk_condF (congrArg (fun b => some (Value.bool b)) hg24) ?_
          refine Tk_skip ?_
          exact Tk_jmpS (HJ2 () h) [1, 3, 5, 2, 4, 11, 12, 13, 14, 15, 16] [0] [] rfl rfl rfl rfl
    ·intro HJ3
     refine Tk_region (Tops_step rfl (OpT_move rfl rfl rfl rfl) ?_)
     refine Tops_step rfl (OpT_bin rfl rfl rfl rfl rfl (bin_neq_i (a := wi ((1 : Int) + pick2)) (b := (1 : Int)))) ?_
     refine Tops_step rfl (OpT_move rfl rfl rfl rfl) ?_
     rcases Bool.eq_false_or_eq_true ((wi ((1 : Int) + pick2)) != (1 : Int)) with hg25 | hg25
     ·replace h := br_t hg25 h
      refine Tops_yes rfl rfl (congrArg (fun b => some (Value.bool b)) hg25) (OpT_move rfl rfl rfl rfl) ?_
      rintro _ rfl
      refine Tops_yes rfl rfl (congrArg (fun b => some (Value.bool b)) hg25) (OpT_bin rfl rfl rfl rfl rfl (bin_neq_i (a := wi ((1 : Int) + pick2)) (b := (4 : Int)))) ?_
      rintro _ rfl
      refine Tops_step rfl (OpT_pickT rfl rfl rfl (congrArg (fun b => some (Value.bool b)) hg25) rfl) ?_
      refine Tops_step rfl (OpT_move rfl rfl rfl rfl) ?_
      rcases Bool.eq_false_or_eq_true ((wi ((1 : Int) + pick2)) != (4 : Int)) with hg26 | hg26
      ·replace h := br_t hg26 h
       refine Tops_yes rfl rfl (congrArg (fun b => some (Value.bool b)) hg26) (OpT_move rfl rfl rfl rfl) ?_
       rintro _ rfl
       refine Tops_yes rfl rfl (congrArg (fun b => some (Value.bool b)) hg26) (OpT_bin rfl rfl rfl rfl rfl (bin_neq_i (a := wi ((1 : Int) + pick2)) (b := (8 : Int)))) ?_
       rintro _ rfl
       refine Tops_step rfl (OpT_pickT rfl rfl rfl (congrArg (fun b => some (Value.bool b)) hg26) rfl) ?_
       refine Tops_nil (Tk_wkS (fr' := [(1, some (vI (wi ((1 : Int) + pick1)))), (3, some (vI (wi ((1 : Int) + pick2)))), (5, some (.pointer (some ⟨b1, 0, none⟩))), (2, some (vI i1)), (4, some (vI pick4)), (59, some (vB ((wi ((1 : Int) + pick2)) != (8 : Int))))]) (own' := [some (cellsR b1 27 [vB rp0.Packed, vI rp0.Size, vU64 rp0.Desc, vU64 rp0.Driver, vU64 rp0.Device])]) (shr' := []) [1, 3, 5, 2, 4, 59] [0] [] rfl rfl rfl rfl ?_)
       rcases Bool.eq_false_or_eq_true ((wi ((1 : Int) + pick2)) != (8 : Int)) with hg27 | hg27
       ·replace h := br_t hg27 h
        refine Tk_condT (congrArg (fun b => some (Value.bool b)) hg27) ?_
        refine Tk_region (Tops_step rfl (OpT_assign rfl rfl rfl rfl) ?_)
        refine Tops_nil (Tk_wkS (fr' := [(1, some (vI (wi ((1 : Int) + pick1)))), (3, some (vI (wi ((1 : Int) + pick2)))), (5, some (.pointer (some ⟨b1, 0, none⟩))), (2, some (vI i1)), (4, some (vI (0 : Int)))]) (own' := [some (cellsR b1 27 [vB rp0.Packed, vI rp0.Size, vU64 rp0.Desc, vU64 rp0.Driver, vU64 rp0.Device])]) (shr' := []) [1, 3, 5, 2, 4] [0] [] rfl rfl rfl rfl ?_)
        exact Tk_jmpS (HJ3 (0 : Int) h) [1, 3, 5, 2, 4] [0] [] rfl rfl rfl rfl
       ·replace h := br_f hg27 h
        refine Tk_condF (congrArg (fun b => some (Value.bool b)) hg27) ?_
        refine Tk_skip ?_
        exact Tk_jmpS (HJ3 pick4 h) [1, 3, 5, 2, 4] [0] [] rfl rfl rfl rfl
      ·replace h := br_f hg26 h
       refine Tops_no rfl rfl (congrArg (fun b => some (Value.bool b)) hg26) rfl rfl ?_
       refine Tops_no rfl rfl (congrArg (fun b => some (Value.bool b)) hg26) rfl rfl ?_
       refine Tops_step rfl (OpT_pickF rfl rfl rfl (congrArg (fun b => some (Value.bool b)) hg26) rfl) ?_
       refine Tops_nil (Tk_wkS (fr' := [(1, some (vI (wi ((1 : Int) + pick1)))), (3, some (vI (wi ((1 : Int) + pick2)))), (5, some (.pointer (some ⟨b1, 0, none⟩))), (2, some (vI i1)), (4, some (vI pick4)), (59, some (vB false))]) (own' := [some (cellsR b1 27 [vB rp0.Packed, vI rp0.Size, vU64 rp0.Desc, vU64 rp0.Driver, vU64 rp0.Device])]) (shr' := []) [1, 3, 5, 2, 4, 59] [0] [] rfl rfl rfl rfl ?_)
       refine Tk_condF rfl ?_
       refine Tk_skip ?_
       exact Tk_jmpS (HJ3 pick4 h) [1, 3, 5, 2, 4] [0] [] rfl rfl rfl rfl
     ·replace h := br_f hg25 h
      refine Tops_no rfl rfl (congrArg (fun b => some (Value.bool b)) hg25) rfl rfl ?_
      refine Tops_no rfl rfl (congrArg (fun b => some (Value.bool b)) hg25) rfl rfl ?_
      refine Tops_step rfl (OpT_pickF rfl rfl rfl (congrArg (fun b => some (Value.bool b)) hg25) rfl) ?_
      refine Tops_step rfl (OpT_move rfl rfl rfl rfl) ?_
      refine Tops_no rfl rfl rfl rfl rfl ?_
      refine Tops_no rfl rfl rfl rfl rfl ?_
      refine Tops_step rfl (OpT_pickF rfl rfl rfl rfl rfl) ?_
      refine Tops_nil (Tk_wkS (fr' := [(1, some (vI (wi ((1 : Int) + pick1)))), (3, some (vI (wi ((1 : Int) + pick2)))), (5, some (.pointer (some ⟨b1, 0, none⟩))), (2, some (vI i1)), (4, some (vI pick4)), (59, some (vB false))]) (own' := [some (cellsR b1 27 [vB rp0.Packed, vI rp0.Size, vU64 rp0.Desc, vU64 rp0.Driver, vU64 rp0.Device])]) (shr' := []) [1, 3, 5, 2, 4, 59] [0] [] rfl rfl rfl rfl ?_)
      refine Tk_condF rfl ?_
      refine Tk_skip ?_
      exact Tk_jmpS (HJ3 pick4 h) [1, 3, 5, 2, 4] [0] [] rfl rfl rfl rfl
   ·intro HJ4
    refine Tk_region (Tops_step rfl (OpT_move rfl rfl rfl rfl) ?_)
    refine Tops_step rfl (OpT_bin rfl rfl rfl rfl rfl (bin_neq_i (a := wi ((1 : Int) + pick1)) (b := (1 : Int)))) ?_
    refine Tops_step rfl (OpT_move rfl rfl rfl rfl) ?_
    rcases Bool.eq_false_or_eq_true ((wi ((1 : Int) + pick1)) != (1 : Int)) with hg28 | hg28
    ·replace h := br_t hg28 h
     refine Tops_yes rfl rfl (congrArg (fun b => some (Value.bool b)) hg28) (OpT_move rfl rfl rfl rfl) ?_
     rintro _ rfl
     refine Tops_yes rfl rfl (congrArg (fun b => some (Value.bool b)) hg28) (OpT_bin rfl rfl rfl rfl rfl (bin_neq_i (a := wi ((1 : Int) + pick1)) (b := (4 : Int)))) ?_
     rintro _ rfl
     refine Tops_step rfl (OpT_pickT rfl rfl rfl (congrArg (fun b => some (Value.bool b)) hg28) rfl) ?_
     refine Tops_step rfl (OpT_move rfl rfl rfl rfl) ?_
     rcases Bool.eq_false_or_eq_true ((wi ((1 : Int) + pick1)) != (4 : Int)) with hg29 | hg29
     ·replace h := br_t hg29 h
      refine Tops_yes rfl rfl (congrArg (fun b => some (Value.bool b)) hg29) (OpT_move rfl rfl rfl rfl) ?_
      rintro _ rfl
      refine Tops_yes rfl rfl (congrArg (fun b => some (Value.bool b)) hg29) (OpT_bin rfl rfl rfl rfl rfl (bin_neq_i (a := wi ((1 : Int) + pick1)) (b := (8 : Int)))) ?_
      rintro _ rfl
      refine Tops_step rfl (OpT_pickT rfl rfl rfl (congrArg (fun b => some (Value.bool b)) hg29) rfl) ?_
      refine Tops_nil (Tk_wkS (fr' := [(1, some (vI (wi ((1 : Int) + pick1)))), (3, some (vI (wi ((1 : Int) + pick2)))), (5, some (.pointer (some ⟨b1, 0, none⟩))), (2, some (vI pick3)), (4, some (vI pick4)), (49, some (vB ((wi ((1 : Int) + pick1)) != (8 : Int))))]) (own' := [some (cellsR b1 27 [vB rp0.Packed, vI rp0.Size, vU64 rp0.Desc, vU64 rp0.Driver, vU64 rp0.Device])]) (shr' := []) [1, 3, 5, 2, 4, 49] [0] [] rfl rfl rfl rfl ?_)
      rcases Bool.eq_false_or_eq_true ((wi ((1 : Int) + pick1)) != (8 : Int)) with hg30 | hg30
      ·replace h := br_t hg30 h
       refine Tk_condT (congrArg (fun b => some (Value.bool b)) hg30) ?_
       refine Tk_region (Tops_step rfl (OpT_assign rfl rfl rfl rfl) ?_)
       refine Tops_nil (Tk_wkS (fr' := [(1, some (vI (wi ((1 : Int) + pick1)))), (3, some (vI (wi ((1 : Int) + pick2)))), (5, some (.pointer (some ⟨b1, 0, none⟩))), (2, some (vI (0 : Int))), (4, some (vI pick4))]) (own' := [some (cellsR b1 27 [vB rp0.Packed, vI rp0.Size, vU64 rp0.Desc, vU64 rp0.Driver, vU64 rp0.Device])]) (shr' := []) [1, 3, 5, 2, 4] [0] [] rfl rfl rfl rfl ?_)
       exact Tk_jmpS (HJ4 (0 : Int) h) [1, 3, 5, 2, 4] [0] [] rfl rfl rfl rfl
      ·replace h := br_f hg30 h
       refine Tk_condF (congrArg (fun b => some (Value.bool b)) hg30) ?_
       refine Tk_skip ?_
       exact Tk_jmpS (HJ4 pick3 h) [1, 3, 5, 2, 4] [0] [] rfl rfl rfl rfl
     ·replace h := br_f hg29 h
      refine Tops_no rfl rfl (congrArg (fun b => some (Value.bool b)) hg29) rfl rfl ?_
      refine Tops_no rfl rfl (congrArg (fun b => some (Value.bool b)) hg29) rfl rfl ?_
      refine Tops_step rfl (OpT_pickF rfl rfl rfl (congrArg (fun b => some (Value.bool b)) hg29) rfl) ?_
      refine Tops_nil (Tk_wkS (fr' := [(1, some (vI (wi ((1 : Int) + pick1)))), (3, some (vI (wi ((1 : Int) + pick2)))), (5, some (.pointer (some ⟨b1, 0, none⟩))), (2, some (vI pick3)), (4, some (vI pick4)), (49, some (vB false))]) (own' := [some (cellsR b1 27 [vB rp0.Packed, vI rp0.Size, vU64 rp0.Desc, vU64 rp0.Driver, vU64 rp0.Device])]) (shr' := []) [1, 3, 5, 2, 4, 49] [0] [] rfl rfl rfl rfl ?_)
      refine Tk_condF rfl ?_
      refine Tk_skip ?_
      exact Tk_jmpS (HJ4 pick3 h) [1, 3, 5, 2, 4] [0] [] rfl rfl rfl rfl
    ·replace h := br_f hg28 h
     refine Tops_no rfl rfl (congrArg (fun b => some (Value.bool b)) hg28) rfl rfl ?_
     refine Tops_no rfl rfl (congrArg (fun b => some (Value.bool b)) hg28) rfl rfl ?_
     refine Tops_step rfl (OpT_pickF rfl rfl rfl (congrArg (fun b => some (Value.bool b)) hg28) rfl) ?_
     refine Tops_step rfl (OpT_move rfl rfl rfl rfl) ?_
     refine Tops_no rfl rfl rfl rfl rfl ?_
     refine Tops_no rfl rfl rfl rfl rfl ?_
     refine Tops_step rfl (OpT_pickF rfl rfl rfl rfl rfl) ?_
     refine Tops_nil (Tk_wkS (fr' := [(1, some (vI (wi ((1 : Int) + pick1)))), (3, some (vI (wi ((1 : Int) + pick2)))), (5, some (.pointer (some ⟨b1, 0, none⟩))), (2, some (vI pick3)), (4, some (vI pick4)), (49, some (vB false))]) (own' := [some (cellsR b1 27 [vB rp0.Packed, vI rp0.Size, vU64 rp0.Desc, vU64 rp0.Driver, vU64 rp0.Device])]) (shr' := []) [1, 3, 5, 2, 4, 49] [0] [] rfl rfl rfl rfl ?_)
     refine Tk_condF rfl ?_
     refine Tk_skip ?_
     exact Tk_jmpS (HJ4 pick3 h) [1, 3, 5, 2, 4] [0] [] rfl rfl rfl rfl
end Go.Proofs.Ytbeendakebamhaa
