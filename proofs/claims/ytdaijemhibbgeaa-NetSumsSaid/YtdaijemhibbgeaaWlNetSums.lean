/- The law NetSums is walked: it returns what its plain words say. No condition. -/
import Derived.Test.YtdaijemhibbgeaaWa4
namespace Go.Proofs.Ytdaijemhibbgeaa
attribute [local irreducible] sub

set_option maxRecDepth 100000 in
set_option maxHeartbeats 4000000 in
theorem w_law25zNetSums {f : Frame} {off : Int} {vf1 : Value}  (h : law25zNetSums f off = some true) :
  Ctr Try.prog 4 #[.agg #[vU8 f.Dst.a0, vU8 f.Dst.a1, vU8 f.Dst.a2, vU8 f.Dst.a3, vU8 f.Dst.a4, vU8 f.Dst.a5, vU8 f.Src.a0, vU8 f.Src.a1, vU8 f.Src.a2, vU8 f.Src.a3, vU8 f.Src.a4, vU8 f.Src.a5, vI f.Vlan, vU16 f.Type_, vf1], vI off] [] [Fact.sl u8S vf1 f.Data]
   (fun rv own shr => rv = .bool true ∧ own = [] ∧ shr = []) := by
 unfold law25zNetSums at h
 refine Ctr.mk (args := [.agg #[vU8 f.Dst.a0, vU8 f.Dst.a1, vU8 f.Dst.a2, vU8 f.Dst.a3, vU8 f.Dst.a4, vU8 f.Dst.a5, vU8 f.Src.a0, vU8 f.Src.a1, vU8 f.Src.a2, vU8 f.Src.a3, vU8 f.Src.a4, vU8 f.Src.a5, vI f.Vlan, vU16 f.Type_, vf1], vI off]) Try.func4 rfl rfl (fun R0 w0 B => ?_)
 refine Tk_seq (Tk_region (Tops_ex rfl (OpT_box rfl rfl rfl rfl) fun b1 => ?_))
 refine Tops_step rfl (OpT_assign rfl rfl rfl rfl) ?_
 refine Tops_nil (Tk_wkS (fr' := [(1, some (vI off)), (2, some (.pointer (some ⟨b1, 0, none⟩)))]) (own' := [some (cellsR b1 26 [vU8 f.Dst.a0, vU8 f.Dst.a1, vU8 f.Dst.a2, vU8 f.Dst.a3, vU8 f.Dst.a4, vU8 f.Dst.a5, vU8 f.Src.a0, vU8 f.Src.a1, vU8 f.Src.a2, vU8 f.Src.a3, vU8 f.Src.a4, vU8 f.Src.a5, vI f.Vlan, vU16 f.Type_, vf1])]) (shr' := [Fact.sl u8S vf1 f.Data]) [1, 2] [0] [0] rfl rfl rfl rfl ?_)
 refine Tk_seq (Tk_seq (Tk_region ?_))
 obtain ⟨lives1, hx1, h⟩ := ob_e h
 refine Tops_exP rfl (OpT_call (w_law25zlives hx1) [] [] rfl rfl rfl rfl rfl callee7 rfl rfl rfl rfl) ?_
 rintro _ ⟨_, _, _, ⟨rfl, rfl, rfl⟩, rfl⟩
 refine Tops_step rfl (OpT_not rfl rfl rfl rfl) ?_
 refine Tops_nil (Tk_wkS (fr' := [(1, some (vI off)), (2, some (.pointer (some ⟨b1, 0, none⟩))), (17, some (vB (!lives1)))]) (own' := [some (cellsR b1 26 [vU8 f.Dst.a0, vU8 f.Dst.a1, vU8 f.Dst.a2, vU8 f.Dst.a3, vU8 f.Dst.a4, vU8 f.Dst.a5, vU8 f.Src.a0, vU8 f.Src.a1, vU8 f.Src.a2, vU8 f.Src.a3, vU8 f.Src.a4, vU8 f.Src.a5, vI f.Vlan, vU16 f.Type_, vf1])]) (shr' := [Fact.sl u8S vf1 f.Data]) [1, 2, 17] [0] [0] rfl rfl rfl rfl ?_)
 obtain ⟨hg1, h⟩ := chk_e h
 replace hg1 := not_t hg1
 refine Tk_condF (congrArg (fun b => some (Value.bool b)) hg1) ?_
 refine Tk_skip (Tk_seq (Tk_seq (Tk_region (Tops_step rfl (OpT_loadCA (vs := [vU8 f.Dst.a0, vU8 f.Dst.a1, vU8 f.Dst.a2, vU8 f.Dst.a3, vU8 f.Dst.a4, vU8 f.Dst.a5, vU8 f.Src.a0, vU8 f.Src.a1, vU8 f.Src.a2, vU8 f.Src.a3, vU8 f.Src.a4, vU8 f.Src.a5, vI f.Vlan, vU16 f.Type_, vf1]) rfl rfl rfl rfl tyF26 (i := 0) rfl rfl rfl) ?_))))
 obtain ⟨check1, hx2, h⟩ := ob_e h
 refine Tops_exP rfl (OpT_call (w_ref_Check23 hx2) [] [0] rfl rfl rfl rfl rfl callee8 rfl rfl rfl rfl) ?_
 rintro _ ⟨_, _, _, ⟨rfl, rfl, rfl⟩, rfl⟩
 refine Tops_step rfl (OpT_bin rfl rfl rfl rfl rfl (bin_neq_i (a := check1) (b := (0 : Int)))) ?_
 refine Tops_step rfl (OpT_move rfl rfl rfl rfl) ?_
 rcases Bool.eq_false_or_eq_true (check1 != (0 : Int)) with hg2 | hg2
 ·replace h := br_t hg2 h
  refine Tops_no rfl rfl (congrArg (fun b => some (Value.bool b)) hg2) rfl rfl ?_
  refine Tops_no rfl rfl (congrArg (fun b => some (Value.bool b)) hg2) rfl rfl ?_
  refine Tops_no rfl rfl (congrArg (fun b => some (Value.bool b)) hg2) rfl rfl ?_
  refine Tops_no rfl rfl (congrArg (fun b => some (Value.bool b)) hg2) rfl rfl ?_
  refine Tops_step rfl (OpT_pickT rfl rfl rfl (congrArg (fun b => some (Value.bool b)) hg2) rfl) ?_
  refine Tops_nil (Tk_wkS (fr' := [(1, some (vI off)), (2, some (.pointer (some ⟨b1, 0, none⟩))), (26, some (vB true))]) (own' := [some (cellsR b1 26 [vU8 f.Dst.a0, vU8 f.Dst.a1, vU8 f.Dst.a2, vU8 f.Dst.a3, vU8 f.Dst.a4, vU8 f.Dst.a5, vU8 f.Src.a0, vU8 f.Src.a1, vU8 f.Src.a2, vU8 f.Src.a3, vU8 f.Src.a4, vU8 f.Src.a5, vI f.Vlan, vU16 f.Type_, vf1])]) (shr' := [Fact.sl u8S vf1 f.Data]) [1, 2, 26] [0] [0] rfl rfl rfl rfl ?_)
  refine Tk_condT rfl ?_
  refine Tk_seq (Tk_region (Tops_step rfl (OpT_assign rfl rfl rfl rfl) ?_))
  refine Tops_nil (Tk_wkS (fr' := [(4, some (vB true))]) (own' := []) (shr' := []) [4] [] [] rfl rfl rfl rfl ?_)
  exact Tk_retV rfl rfl (resA (vs := [.bool true]) rfl ⟨rfl, trivial⟩) [] [] rfl rfl rfl ⟨rfl, rfl, rfl⟩
 ·replace h := br_f hg2 h
  refine Tops_yes rfl rfl (congrArg (fun b => some (Value.bool b)) hg2) (OpT_fieldC rfl rfl rfl rfl fldF26x4) ?_
  rintro _ rfl
  refine Tops_yes rfl rfl (congrArg (fun b => some (Value.bool b)) hg2) (OpT_loadC rfl rfl rfl rfl tyF24 (i := 0) rfl rfl) ?_
  rintro _ rfl
  refine Tops_yes rfl rfl (congrArg (fun b => some (Value.bool b)) hg2) (OpT_lenS rfl rfl rfl rfl Try.underlying24 (i := 0) rfl) ?_
  rintro _ rfl
  refine Tops_yes rfl rfl (congrArg (fun b => some (Value.bool b)) hg2) (OpT_bin rfl rfl rfl rfl rfl (bin_lss_i (a := len f.Data) (b := (2 : Int)))) ?_
  rintro _ rfl
  refine Tops_step rfl (OpT_pickF rfl rfl rfl (congrArg (fun b => some (Value.bool b)) hg2) rfl) ?_
  refine Tops_nil (Tk_wkS (fr' := [(1, some (vI off)), (2, some (.pointer (some ⟨b1, 0, none⟩))), (26, some (vB (decide ((len f.Data) < (2 : Int)))))]) (own' := [some (cellsR b1 26 [vU8 f.Dst.a0, vU8 f.Dst.a1, vU8 f.Dst.a2, vU8 f.Dst.a3, vU8 f.Dst.a4, vU8 f.Dst.a5, vU8 f.Src.a0, vU8 f.Src.a1, vU8 f.Src.a2, vU8 f.Src.a3, vU8 f.Src.a4, vU8 f.Src.a5, vI f.Vlan, vU16 f.Type_, vf1])]) (shr' := [Fact.sl u8S vf1 f.Data]) [1, 2, 26] [0] [0] rfl rfl rfl rfl ?_)
  rcases Bool.eq_false_or_eq_true (decide ((len f.Data) < (2 : Int))) with hg3 | hg3
  ·replace h := br_t hg3 h
   refine Tk_condT (congrArg (fun b => some (Value.bool b)) hg3) ?_
   refine Tk_seq (Tk_region (Tops_step rfl (OpT_assign rfl rfl rfl rfl) ?_))
   refine Tops_nil (Tk_wkS (fr' := [(4, some (vB true))]) (own' := []) (shr' := []) [4] [] [] rfl rfl rfl rfl ?_)
   exact Tk_retV rfl rfl (resA (vs := [.bool true]) rfl ⟨rfl, trivial⟩) [] [] rfl rfl rfl ⟨rfl, rfl, rfl⟩
  ·replace h := br_f hg3 h
   refine Tk_condF (congrArg (fun b => some (Value.bool b)) hg3) ?_
   refine Tk_skip (Tk_seq (Tk_region (Tops_step rfl (OpT_fieldC rfl rfl rfl rfl fldF26x4) ?_)))
   refine Tops_step rfl (OpT_loadC rfl rfl rfl rfl tyF24 (i := 0) rfl rfl) ?_
   refine Tops_step rfl (OpT_fieldC rfl rfl rfl rfl fldF26x4) ?_
   refine Tops_step rfl (OpT_loadC rfl rfl rfl rfl tyF24 (i := 0) rfl rfl) ?_
   refine Tops_step rfl (OpT_lenS rfl rfl rfl rfl Try.underlying24 (i := 0) rfl) ?_
   refine Tops_step rfl (OpT_bin rfl rfl rfl rfl rfl (bin_quo_i (a := len f.Data) (b := (2 : Int)) rfl)) ?_
   refine Tops_step rfl (OpT_bin rfl rfl rfl rfl rfl (bin_mul_i (a := quoi (len f.Data) (2 : Int)) (b := (2 : Int)))) ?_
   obtain ⟨hc1, h⟩ := chk_e h
   refine Tops_ex rfl (OpT_sliceH (m := wi ((quoi (len f.Data) (2 : Int)) * (2 : Int))) rfl rfl rfl rfl rfl slF24 (i := 0) rfl hc1) fun v1 => ?_
   obtain ⟨own1, hx3, h⟩ := ob_e h
   refine Tops_exP rfl (OpT_call (w_kit_Own hx3) [] [1] rfl rfl rfl rfl rfl callee18 rfl rfl rfl rfl) ?_
   rintro _ ⟨v2, _, _, ⟨_, rfl, rfl, rfl⟩, rfl⟩
   refine Tops_step rfl (OpT_fieldC rfl rfl rfl rfl fldF26x4) ?_
   refine Tops_step rfl (OpT_storeV (cs' := [vU8 f.Dst.a0, vU8 f.Dst.a1, vU8 f.Dst.a2, vU8 f.Dst.a3, vU8 f.Dst.a4, vU8 f.Dst.a5, vU8 f.Src.a0, vU8 f.Src.a1, vU8 f.Src.a2, vU8 f.Src.a3, vU8 f.Src.a4, vU8 f.Src.a5, vI f.Vlan, vU16 f.Type_, v2]) rfl rfl rfl rfl tyF24 (i := 0) rfl (is_row (i := 1) rfl) rfl rfl) ?_
   refine Tops_nil (Tk_wkS (fr' := [(1, some (vI off)), (2, some (.pointer (some ⟨b1, 0, none⟩)))]) (own' := [some (cellsR b1 26 [vU8 f.Dst.a0, vU8 f.Dst.a1, vU8 f.Dst.a2, vU8 f.Dst.a3, vU8 f.Dst.a4, vU8 f.Dst.a5, vU8 f.Src.a0, vU8 f.Src.a1, vU8 f.Src.a2, vU8 f.Src.a3, vU8 f.Src.a4, vU8 f.Src.a5, vI f.Vlan, vU16 f.Type_, v2]), some (rowS u8S v2 own1)]) (shr' := []) [1, 2] [0, 1] [] rfl rfl rfl rfl ?_)
   refine Tk_seq (Tk_region (Tops_step rfl (OpT_move rfl rfl rfl rfl) ?_))
   refine Tops_step rfl (OpT_fieldC rfl rfl rfl rfl fldF26x4) ?_
   refine Tops_step rfl (OpT_loadC rfl rfl rfl rfl tyF24 (i := 0) rfl rfl) ?_
   refine Tops_step rfl (OpT_lenO rfl rfl rfl rfl Try.underlying24 (i := 1) rfl) ?_
   refine Tops_step rfl (OpT_bin rfl rfl rfl rfl rfl (bin_quo_i (a := len own1) (b := (2 : Int)) rfl)) ?_
   obtain ⟨pick1, hx4, h⟩ := ob_e h
   refine Tops_exP rfl (OpT_call (w_kit_Pick hx4) [] [] rfl rfl rfl rfl rfl callee9 rfl rfl rfl rfl) ?_
   rintro _ ⟨_, _, _, ⟨rfl, rfl, rfl⟩, rfl⟩
   refine Tops_step rfl (OpT_bin rfl rfl rfl rfl rfl (bin_mul_i (a := (2 : Int)) (b := pick1))) ?_
   refine Tops_step rfl (OpT_assign rfl rfl rfl rfl) ?_
   refine Tops_nil (Tk_wkS (fr' := [(2, some (.pointer (some ⟨b1, 0, none⟩))), (5, some (vI (wi ((2 : Int) * pick1))))]) (own' := [some (cellsR b1 26 [vU8 f.Dst.a0, vU8 f.Dst.a1, vU8 f.Dst.a2, vU8 f.Dst.a3, vU8 f.Dst.a4, vU8 f.Dst.a5, vU8 f.Src.a0, vU8 f.Src.a1, vU8 f.Src.a2, vU8 f.Src.a3, vU8 f.Src.a4, vU8 f.Src.a5, vI f.Vlan, vU16 f.Type_, v2]), some (rowS u8S v2 own1)]) (shr' := []) [2, 5] [0, 1] [] rfl rfl rfl rfl ?_)
   refine Tk_seq (Tk_drawT (by kernel_rfl) ?_)
   refine TA_tb [0, 1, 0, 0, 8, 0, 32, 7, 135, 511, 1023] (by kernel_rfl) fun htb => ?_
   obtain ⟨y1, hx5, h⟩ := ob_e h
   refine TA_seg (lo := 0) (hi := 9) htb rfl rfl (by kernel_rfl) (fun c L a w => Sat c ⟨[(2, some (.pointer (some ⟨b1, 0, none⟩))), (5, some (vI (wi ((2 : Int) * pick1)))), (44, bif L 0 then some (.pointer (some ⟨b1, 14, none⟩)) else none), (45, bif L 1 then some (v2) else none), (46, bif L 2 then some (vI (wi ((2 : Int) * pick1))) else none), (47, bif L 3 then some (.pointer (some ⟨b1, 14, none⟩)) else none), (48, bif L 4 then some (v2) else none), (49, bif L 5 then some (vI (wi ((2 : Int) * pick1))) else none), (50, bif L 6 then some (vI (wi ((wi ((2 : Int) * pick1)) + (1 : Int)))) else none), (51, bif L 7 then some (rowPtr v2 (Int.toNat (wi ((2 : Int) * pick1)) * 1)) else none)], [(some (cellsR b1 26 [vU8 f.Dst.a0, vU8 f.Dst.a1, vU8 f.Dst.a2, vU8 f.Dst.a3, vU8 f.Dst.a4, vU8 f.Dst.a5, vU8 f.Src.a0, vU8 f.Src.a1, vU8 f.Src.a2, vU8 f.Src.a3, vU8 f.Src.a4, vU8 f.Src.a5, vI f.Vlan, vU16 f.Type_, v2]) : Option Res), (bif L 8 then some (rowS u8S v2 (own1.set (wi ((2 : Int) * pick1)).toNat (0 : UInt8))) else some (rowS u8S v2 own1) : Option Res)], []⟩ a w) [([], [1, 7, 8]), ([0], [7, 8]), ([], [7, 8]), ([], [4]), ([3], []), ([], [6]), ([5], []), ([0, 1, 2], [8]), ([0, 1, 2, 7], [])] rfl (by kernel_rfl) ?_ (steps_cons ?_ (steps_cons ?_ (steps_cons ?_ (steps_cons ?_ (steps_cons ?_ (steps_cons ?_ (steps_cons ?_ (steps_cons ?_ (steps_cons ?_ (steps_nil)))))))))) ?_
   ·intro a w hs
    exact hs.startF [44, 45, 46, 47, 48, 49, 50, 51] [0, 1] [] rfl rfl rfl rfl
   ·intro L a w hv K Q hK
    have hs := hv
    refine wpOp_go rfl rfl hs (OpT_fieldC rfl rfl rfl rfl fldF26x4) ?_
    rintro _ rfl a' w' hs'
    exact hK a' w' (hs'.putF (i := 2) rfl [0, 1] [] rfl rfl rfl rfl)
   ·intro L a w hv K Q hK
    have hs := hv
    refine wpOp_go rfl rfl hs (OpT_loadC rfl rfl rfl rfl tyF24 (i := 0) rfl rfl) ?_
    rintro _ rfl a' w' hs'
    exact hK a' w' (hs'.putF (i := 3) rfl [0, 1] [] rfl rfl rfl rfl)
   ·intro L a w hv K Q hK
    have hs := hv
    refine wpOp_go rfl rfl hs (OpT_move rfl rfl rfl rfl) ?_
    rintro _ rfl a' w' hs'
    exact hK a' w' (hs'.putF (i := 4) rfl [0, 1] [] rfl rfl rfl rfl)
   ·intro L a w hv K Q hK
    have hs := hv
    refine wpOp_go rfl rfl hs (OpT_fieldC rfl rfl rfl rfl fldF26x4) ?_
    rintro _ rfl a' w' hs'
    exact hK a' w' (hs'.putF (i := 5) rfl [0, 1] [] rfl rfl rfl rfl)
   ·intro L a w hv K Q hK
    have hs := hv
    refine wpOp_go rfl rfl hs (OpT_loadC rfl rfl rfl rfl tyF24 (i := 0) rfl rfl) ?_
    rintro _ rfl a' w' hs'
    exact hK a' w' (hs'.putF (i := 6) rfl [0, 1] [] rfl rfl rfl rfl)
   ·intro L a w hv K Q hK
    have hs := hv
    refine wpOp_go rfl rfl hs (OpT_move rfl rfl rfl rfl) ?_
    rintro _ rfl a' w' hs'
    exact hK a' w' (hs'.putF (i := 7) rfl [0, 1] [] rfl rfl rfl rfl)
   ·intro L a w hv K Q hK
    have hs := hv
    refine wpOp_go rfl rfl hs (OpT_bin rfl rfl rfl rfl rfl (bin_add_i (a := wi ((2 : Int) * pick1)) (b := (1 : Int)))) ?_
    rintro _ rfl a' w' hs'
    exact hK a' w' (hs'.putF (i := 8) rfl [0, 1] [] rfl rfl rfl rfl)
   ·intro L a w hv K Q hK
    have hs := hv
    refine wpOp_go rfl rfl hs (OpT_idxO rfl rfl rfl rfl rfl slF24 (i := 1) rfl hx5) ?_
    rintro _ rfl a' w' hs'
    exact hK a' w' (hs'.putF (i := 9) rfl [0, 1] [] rfl rfl rfl rfl)
   ·intro L a w hv K Q hK
    have hs := hv
    refine wpOp_go rfl rfl hs (OpT_storeO (S := u8S) (u := (0 : UInt8)) rfl rfl rfl rfl rfl tyF5 (i := 1) rfl hx5 rfl) ?_
    rintro _ rfl a' w' hs'
    exact hK a' w' (hs'.sameF [0, 1] [] rfl rfl rfl rfl)
   ·intro L a w hL hv
    rw [allTrue hL] at hv
    have hs := hv
    refine (show TA _ _ _ 9 ⟨[(2, some (.pointer (some ⟨b1, 0, none⟩))), (5, some (vI (wi ((2 : Int) * pick1)))), (48, some (v2)), (50, some (vI (wi ((wi ((2 : Int) * pick1)) + (1 : Int)))))], [some (cellsR b1 26 [vU8 f.Dst.a0, vU8 f.Dst.a1, vU8 f.Dst.a2, vU8 f.Dst.a3, vU8 f.Dst.a4, vU8 f.Dst.a5, vU8 f.Src.a0, vU8 f.Src.a1, vU8 f.Src.a2, vU8 f.Src.a3, vU8 f.Src.a4, vU8 f.Src.a5, vI f.Vlan, vU16 f.Type_, v2]), some (rowS u8S v2 (own1.set (wi ((2 : Int) * pick1)).toNat (0 : UInt8)))], []⟩ from ?_) a w (hs.wkS [2, 5, 48, 50] [0, 1] [] rfl rfl rfl rfl)
    clear hs hL
    obtain ⟨y2, hx6, h⟩ := ob_e h
    refine TA_step htb (by kernel_rfl) rfl rfl (OpT_idxO rfl rfl rfl rfl rfl slF24 (i := 1) rfl hx6) ?_
    refine TA_step htb (by kernel_rfl) rfl rfl (OpT_storeO (S := u8S) (u := (0 : UInt8)) rfl rfl rfl rfl rfl tyF5 (i := 1) rfl hx6 rfl) ?_
    refine TA_end rfl ?_
    refine Tk_wkS (fr' := [(2, some (.pointer (some ⟨b1, 0, none⟩))), (5, some (vI (wi ((2 : Int) * pick1))))]) (own' := [some (cellsR b1 26 [vU8 f.Dst.a0, vU8 f.Dst.a1, vU8 f.Dst.a2, vU8 f.Dst.a3, vU8 f.Dst.a4, vU8 f.Dst.a5, vU8 f.Src.a0, vU8 f.Src.a1, vU8 f.Src.a2, vU8 f.Src.a3, vU8 f.Src.a4, vU8 f.Src.a5, vI f.Vlan, vU16 f.Type_, v2]), some (rowS u8S v2 ((own1.set (wi ((2 : Int) * pick1)).toNat (0 : UInt8)).set (wi ((wi ((2 : Int) * pick1)) + (1 : Int))).toNat (0 : UInt8)))]) (shr' := []) [2, 5] [0, 1] [] rfl rfl rfl rfl ?_
    refine Tk_seq (Tk_region (Tops_step rfl (OpT_loadCA (vs := [vU8 f.Dst.a0, vU8 f.Dst.a1, vU8 f.Dst.a2, vU8 f.Dst.a3, vU8 f.Dst.a4, vU8 f.Dst.a5, vU8 f.Src.a0, vU8 f.Src.a1, vU8 f.Src.a2, vU8 f.Src.a3, vU8 f.Src.a4, vU8 f.Src.a5, vI f.Vlan, vU16 f.Type_, v2]) rfl rfl rfl rfl tyF26 (i := 0) rfl rfl rfl) ?_))
    obtain ⟨bytes1, hx7, h⟩ := ob_e h
    refine Tops_exP rfl (OpT_callB [1] [0, 1, 2] (w_ref_Bytes23 hx7) [] rfl rfl rfl rfl rfl callee14 rfl rfl rfl rfl rfl rfl (bor_cons (bor_row 1 rfl rfl) bor_nil) (by rintro _ _ _ ⟨_, rfl, rfl, rfl⟩; exact ⟨rfl, (ri_cons (ri_row (S := u8S) rfl _ _) ri_nil)⟩)) ?_
    rintro _ ⟨_, _, _, ⟨v3, rfl, rfl, rfl⟩, rfl⟩
    refine Tops_step rfl (OpT_move rfl rfl rfl rfl) ?_
    refine Tops_step rfl (OpT_extract rfl rfl rfl rfl rfl) ?_
    refine Tops_step rfl (OpT_extract rfl rfl rfl rfl rfl) ?_
    refine Tops_step rfl (OpT_assign rfl rfl rfl rfl) ?_
    refine Tops_step rfl (OpT_assign rfl rfl rfl rfl) ?_
    refine Tops_nil (Tk_wkS (fr' := [(2, some (.pointer (some ⟨b1, 0, none⟩))), (5, some (vI (wi ((2 : Int) * pick1)))), (6, some (v3))]) (own' := [some (cellsR b1 26 [vU8 f.Dst.a0, vU8 f.Dst.a1, vU8 f.Dst.a2, vU8 f.Dst.a3, vU8 f.Dst.a4, vU8 f.Dst.a5, vU8 f.Src.a0, vU8 f.Src.a1, vU8 f.Src.a2, vU8 f.Src.a3, vU8 f.Src.a4, vU8 f.Src.a5, vI f.Vlan, vU16 f.Type_, v2]), some (rowS u8S v2 ((own1.set (wi ((2 : Int) * pick1)).toNat (0 : UInt8)).set (wi ((wi ((2 : Int) * pick1)) + (1 : Int))).toNat (0 : UInt8))), some (rowS u8S v3 bytes1.1)]) (shr' := []) [2, 5, 6] [0, 1, 2] [] rfl rfl rfl rfl ?_)
    refine Tk_seq (Tk_region (Tops_step rfl (OpT_move rfl rfl rfl rfl) ?_))
    refine Tops_step rfl (OpT_lenO rfl rfl rfl rfl Try.underlying24 (i := 2) rfl) ?_
    refine Tops_step rfl (OpT_fieldC rfl rfl rfl rfl fldF26x4) ?_
    refine Tops_step rfl (OpT_loadC rfl rfl rfl rfl tyF24 (i := 0) rfl rfl) ?_
    refine Tops_step rfl (OpT_lenO rfl rfl rfl rfl Try.underlying24 (i := 1) rfl) ?_
    refine Tops_step rfl (OpT_bin rfl rfl rfl rfl rfl (bin_sub_i (a := len bytes1.1) (b := len ((own1.set (wi ((2 : Int) * pick1)).toNat (0 : UInt8)).set (wi ((wi ((2 : Int) * pick1)) + (1 : Int))).toNat (0 : UInt8))))) ?_
    refine Tops_step rfl (OpT_cnv rfl rfl rfl rfl (cnv_i_u16 (n := wi ((len bytes1.1) - (len ((own1.set (wi ((2 : Int) * pick1)).toNat (0 : UInt8)).set (wi ((wi ((2 : Int) * pick1)) + (1 : Int))).toNat (0 : UInt8))))) Try.underlying3 Try.underlying23)) ?_
    refine Tops_step rfl (OpT_move rfl rfl rfl rfl) ?_
    refine Tops_step rfl (OpT_cnv rfl rfl rfl rfl (cnv_i_u16 (n := wi ((2 : Int) * pick1)) Try.underlying3 Try.underlying23)) ?_
    refine Tops_step rfl (OpT_build (v := .agg #[vU8 (1 : UInt8), vU16 (u16 (wi ((len bytes1.1) - (len ((own1.set (wi ((2 : Int) * pick1)).toNat (0 : UInt8)).set (wi ((wi ((2 : Int) * pick1)) + (1 : Int))).toNat (0 : UInt8)))))), vU16 (u16 (wi ((2 : Int) * pick1))), vU16 (0 : UInt16)]) rfl rfl rfl rfl (bldV (by kernel_rfl))) ?_
    refine Tops_ex rfl (OpT_alloc rfl rfl rfl tyZ50) fun b2 => ?_
    refine Tops_step rfl (OpT_storeC (cs' := [vU8 (1 : UInt8), vU16 (u16 (wi ((len bytes1.1) - (len ((own1.set (wi ((2 : Int) * pick1)).toNat (0 : UInt8)).set (wi ((wi ((2 : Int) * pick1)) + (1 : Int))).toNat (0 : UInt8)))))), vU16 (u16 (wi ((2 : Int) * pick1))), vU16 (0 : UInt16)]) rfl rfl rfl rfl tyF50 (i := 3) rfl rfl rfl (one_of rfl) rfl) ?_
    refine Tops_nil (Tk_wkS (fr' := [(2, some (.pointer (some ⟨b1, 0, none⟩))), (5, some (vI (wi ((2 : Int) * pick1)))), (6, some (v3)), (8, some (.pointer (some ⟨b2, 0, none⟩)))]) (own' := [some (cellsR b1 26 [vU8 f.Dst.a0, vU8 f.Dst.a1, vU8 f.Dst.a2, vU8 f.Dst.a3, vU8 f.Dst.a4, vU8 f.Dst.a5, vU8 f.Src.a0, vU8 f.Src.a1, vU8 f.Src.a2, vU8 f.Src.a3, vU8 f.Src.a4, vU8 f.Src.a5, vI f.Vlan, vU16 f.Type_, v2]), some (rowS u8S v2 ((own1.set (wi ((2 : Int) * pick1)).toNat (0 : UInt8)).set (wi ((wi ((2 : Int) * pick1)) + (1 : Int))).toNat (0 : UInt8))), some (rowS u8S v3 bytes1.1), some (cellsR b2 50 [vU8 (1 : UInt8), vU16 (u16 (wi ((len bytes1.1) - (len ((own1.set (wi ((2 : Int) * pick1)).toNat (0 : UInt8)).set (wi ((wi ((2 : Int) * pick1)) + (1 : Int))).toNat (0 : UInt8)))))), vU16 (u16 (wi ((2 : Int) * pick1))), vU16 (0 : UInt16)])]) (shr' := []) [2, 5, 6, 8] [0, 1, 2, 3] [] rfl rfl rfl rfl ?_)
    refine Tk_seq (Tk_region (Tops_step rfl (OpT_loadCA (vs := [vU8 (1 : UInt8), vU16 (u16 (wi ((len bytes1.1) - (len ((own1.set (wi ((2 : Int) * pick1)).toNat (0 : UInt8)).set (wi ((wi ((2 : Int) * pick1)) + (1 : Int))).toNat (0 : UInt8)))))), vU16 (u16 (wi ((2 : Int) * pick1))), vU16 (0 : UInt16)]) rfl rfl rfl rfl tyF50 (i := 3) rfl rfl rfl) ?_))
    obtain ⟨hdrof1, hx8, h⟩ := ob_e h
    refine Tops_exP rfl (OpT_call (w_ref_HdrOf23 hx8) [] [] rfl rfl rfl rfl rfl callee19 rfl rfl rfl rfl) ?_
    rintro _ ⟨v4, _, _, ⟨_, rfl, rfl, rfl⟩, rfl⟩
    refine Tops_step rfl (OpT_move rfl rfl rfl rfl) ?_
    obtain ⟨hc2, h⟩ := chk_e h
    refine Tops_ex rfl (OpT_appendB (S := u8S) rfl rfl rfl rfl rfl rfl slF24 (i := 4) (j := 2) rfl rfl hc2) fun v5 => ?_
    refine Tops_step rfl (OpT_assign rfl rfl rfl rfl) ?_
    refine Tops_nil (Tk_wkS (fr' := [(2, some (.pointer (some ⟨b1, 0, none⟩))), (5, some (vI (wi ((2 : Int) * pick1)))), (9, some (v5))]) (own' := [some (cellsR b1 26 [vU8 f.Dst.a0, vU8 f.Dst.a1, vU8 f.Dst.a2, vU8 f.Dst.a3, vU8 f.Dst.a4, vU8 f.Dst.a5, vU8 f.Src.a0, vU8 f.Src.a1, vU8 f.Src.a2, vU8 f.Src.a3, vU8 f.Src.a4, vU8 f.Src.a5, vI f.Vlan, vU16 f.Type_, v2]), some (rowS u8S v2 ((own1.set (wi ((2 : Int) * pick1)).toNat (0 : UInt8)).set (wi ((wi ((2 : Int) * pick1)) + (1 : Int))).toNat (0 : UInt8))), some (rowS u8S v5 (hdrof1 ++ bytes1.1))]) (shr' := []) [2, 5, 9] [0, 1, 4] [] rfl rfl rfl rfl ?_)
    refine Tk_seq (Tk_region ?_)
    obtain ⟨memory1, hx9, h⟩ := ob_e h
    refine Tops_exP rfl (OpT_call (w_law25zmemory hx9) [] [] rfl rfl rfl rfl rfl callee12 rfl rfl rfl rfl) ?_
    rintro _ ⟨v6, _, _, ⟨_, rfl, rfl, rfl⟩, rfl⟩
    refine Tops_retire (i := 3) rfl ?_
    obtain ⟨new1, hx10, h⟩ := ob_e h
    refine Tops_exP rfl (OpT_call (w_gmem_New hx10) [] [0] rfl rfl rfl rfl rfl callee11 rfl rfl rfl rfl) ?_
    rintro _ ⟨_, _, _, ⟨v7, rfl, rfl, rfl⟩, rfl⟩
    refine Tops_step rfl (OpT_move rfl rfl rfl rfl) ?_
    refine Tops_step rfl (OpT_extract rfl rfl rfl rfl rfl) ?_
    refine Tops_step rfl (OpT_extract rfl rfl rfl rfl rfl) ?_
    refine Tops_step rfl (OpT_assign rfl rfl rfl rfl) ?_
    refine Tops_step rfl (OpT_assign rfl rfl rfl rfl) ?_
    refine Tops_nil (Tk_wkS (fr' := [(2, some (.pointer (some ⟨b1, 0, none⟩))), (5, some (vI (wi ((2 : Int) * pick1)))), (9, some (v5)), (10, some (v7)), (11, some (vI new1.2))]) (own' := [some (cellsR b1 26 [vU8 f.Dst.a0, vU8 f.Dst.a1, vU8 f.Dst.a2, vU8 f.Dst.a3, vU8 f.Dst.a4, vU8 f.Dst.a5, vU8 f.Src.a0, vU8 f.Src.a1, vU8 f.Src.a2, vU8 f.Src.a3, vU8 f.Src.a4, vU8 f.Src.a5, vI f.Vlan, vU16 f.Type_, v2]), some (rowS u8S v2 ((own1.set (wi ((2 : Int) * pick1)).toNat (0 : UInt8)).set (wi ((wi ((2 : Int) * pick1)) + (1 : Int))).toNat (0 : UInt8))), some (rowS u8S v5 (hdrof1 ++ bytes1.1)), some (optR 78 RegionS u8S true gmem_Mem.l gmem_Mem.b v7 new1.1)]) (shr' := []) [2, 5, 9, 10, 11] [0, 1, 2, 4] [] rfl rfl rfl rfl ?_)
    rcases onO_cases h with ⟨ho1, h⟩ | ⟨mem1, ho1, h⟩
    ·cases h
    ·refine Tk_optS (i := 3) rfl ho1 ?_
     rintro b3 v8 v9 vs1 rfl
     refine Tk_seq (Tk_seq (Tk_region (Tops_step rfl (OpT_move rfl rfl rfl rfl) ?_)))
     refine Tops_step rfl (OpT_bin rfl rfl rfl rfl rfl (bin_neq_i (a := new1.2) (b := (0 : Int)))) ?_
     refine Tops_step rfl (OpT_move rfl rfl rfl rfl) ?_
     obtain ⟨hg4, h⟩ := chk_e h
     replace hg4 := not_t hg4
     refine Tops_yes rfl rfl (congrArg (fun b => some (Value.bool b)) hg4) (OpT_move rfl rfl rfl rfl) ?_
     rintro _ rfl
     refine Tops_yes rfl rfl (congrArg (fun b => some (Value.bool b)) hg4) (OpT_move rfl rfl rfl rfl) ?_
     rintro _ rfl
     obtain ⟨write1, hx11, h⟩ := ob_e h
     refine Tops_yes rfl rfl (congrArg (fun b => some (Value.bool b)) hg4) (OpT_callB [2] [0, 1, 2, 5, 6] (w_gmem_Mem_Write hx11) [3, 4] rfl rfl rfl rfl rfl callee13 rfl rfl rfl rfl rfl rfl (bor_cons (bor_shr 0 rfl) (bor_cons (bor_row 2 rfl rfl) bor_nil)) (by rintro _ _ _ ⟨rfl, rfl, rfl⟩; exact ⟨rfl, (ri_cons (ri_cells _ _ _) (ri_cons (ri_rows rfl _ _ _ _ _) ri_nil))⟩)) ?_
     rintro _ ⟨_, _, _, ⟨rfl, rfl, rfl⟩, rfl⟩
     refine Tops_yes rfl rfl (congrArg (fun b => some (Value.bool b)) hg4) (OpT_bin rfl rfl rfl rfl rfl (bin_neq_i (a := write1.1) (b := (0 : Int)))) ?_
     rintro _ rfl
     refine Tops_step rfl (OpT_pickF rfl rfl rfl (congrArg (fun b => some (Value.bool b)) hg4) rfl) ?_
     refine Tops_nil (Tk_wkS (fr' := [(2, some (.pointer (some ⟨b1, 0, none⟩))), (5, some (vI (wi ((2 : Int) * pick1)))), (9, some (v5)), (10, some (.pointer (some ⟨b3, 0, none⟩))), (84, some (vB (write1.1 != (0 : Int))))]) (own' := [some (cellsR b1 26 [vU8 f.Dst.a0, vU8 f.Dst.a1, vU8 f.Dst.a2, vU8 f.Dst.a3, vU8 f.Dst.a4, vU8 f.Dst.a5, vU8 f.Src.a0, vU8 f.Src.a1, vU8 f.Src.a2, vU8 f.Src.a3, vU8 f.Src.a4, vU8 f.Src.a5, vI f.Vlan, vU16 f.Type_, v2]), some (rowS u8S v2 ((own1.set (wi ((2 : Int) * pick1)).toNat (0 : UInt8)).set (wi ((wi ((2 : Int) * pick1)) + (1 : Int))).toNat (0 : UInt8))), some (rowS u8S v5 (hdrof1 ++ bytes1.1)), some (cellsR b3 78 [v8, v9]), some (rowsX u8S true v9 vs1 write1.2 none)]) (shr' := [Fact.sl RegionS v8 mem1.l]) [2, 5, 9, 10, 84] [0, 1, 2, 3, 4] [0] rfl rfl rfl rfl ?_)
     obtain ⟨hg5, h⟩ := chk_e h
     replace hg5 := not_t hg5
     refine Tk_condF (congrArg (fun b => some (Value.bool b)) hg5) ?_
     refine Tk_skip (Tk_seq (Tk_region (Tops_step rfl (OpT_move rfl rfl rfl rfl) ?_)))
     refine Tops_step rfl (OpT_lenO rfl rfl rfl rfl Try.underlying24 (i := 2) rfl) ?_
     refine Tops_step rfl (OpT_cnv rfl rfl rfl rfl (cnv_i_u32 (n := len (hdrof1 ++ bytes1.1)) Try.underlying3 Try.underlying48)) ?_
     refine Tops_step rfl (OpT_build (v := .agg #[vU64 (50 : UInt64), vU32 (u32 (len (hdrof1 ++ bytes1.1))), vB false]) rfl rfl rfl rfl (bldV (by kernel_rfl))) ?_
     refine Tops_ex rfl (OpT_buildSlice (S := SegS) (xs := [(Seg.mk (50 : UInt64) (u32 (len (hdrof1 ++ bytes1.1))) false)]) (css := [[vU64 (50 : UInt64), vU32 (u32 (len (hdrof1 ++ bytes1.1))), vB false]]) (cs := [vU64 (50 : UInt64), vU32 (u32 (len (hdrof1 ++ bytes1.1))), vB false]) (e := 57) rfl rfl rfl rfl (bldF slF58 (by decide) (by kernel_rfl)) rfl rfl rfl rfl (rel_plainD (S := SegS) (xs := [(Seg.mk (50 : UInt64) (u32 (len (hdrof1 ++ bytes1.1))) false)]) (css := [[vU64 (50 : UInt64), vU32 (u32 (len (hdrof1 ++ bytes1.1))), vB false]]) rfl rfl)) fun v10 => ?_
     refine Tops_step rfl (OpT_assign rfl rfl rfl rfl) ?_
     refine Tops_nil (Tk_wkS (fr' := [(2, some (.pointer (some ⟨b1, 0, none⟩))), (5, some (vI (wi ((2 : Int) * pick1)))), (10, some (.pointer (some ⟨b3, 0, none⟩))), (12, some (v10))]) (own' := [some (cellsR b1 26 [vU8 f.Dst.a0, vU8 f.Dst.a1, vU8 f.Dst.a2, vU8 f.Dst.a3, vU8 f.Dst.a4, vU8 f.Dst.a5, vU8 f.Src.a0, vU8 f.Src.a1, vU8 f.Src.a2, vU8 f.Src.a3, vU8 f.Src.a4, vU8 f.Src.a5, vI f.Vlan, vU16 f.Type_, v2]), some (rowS u8S v2 ((own1.set (wi ((2 : Int) * pick1)).toNat (0 : UInt8)).set (wi ((wi ((2 : Int) * pick1)) + (1 : Int))).toNat (0 : UInt8))), some (cellsR b3 78 [v8, v9]), some (rowsX u8S true v9 vs1 write1.2 none), some (rowS SegS v10 [(Seg.mk (50 : UInt64) (u32 (len (hdrof1 ++ bytes1.1))) false)])]) (shr' := [Fact.sl RegionS v8 mem1.l]) [2, 5, 10, 12] [0, 1, 3, 4, 5] [0] rfl rfl rfl rfl ?_)
     refine Tk_seq (Tk_region (Tops_step rfl (OpT_move rfl rfl rfl rfl) ?_))
     refine Tops_step rfl (OpT_move rfl rfl rfl rfl) ?_
     obtain ⟨sent1, hx12, h⟩ := ob_e h
     refine Tops_exP rfl (OpT_callB [4] [0, 1, 5, 6, 4, 7] (w_net_Sent hx12) [2, 3] rfl rfl rfl rfl rfl callee20 rfl rfl rfl rfl rfl rfl (bor_cons (bor_shr 0 rfl) (bor_cons (bor_row 4 rfl rfl) bor_nil)) (by rintro _ _ _ ⟨_, rfl, rfl, rfl⟩; exact ⟨rfl, (ri_cons (ri_cells _ _ _) (ri_cons (ri_rows rfl _ _ _ _ _) (ri_cons (ri_row (S := u8S) rfl _ _) ri_nil)))⟩)) ?_
     rintro _ ⟨_, _, _, ⟨v11, rfl, rfl, rfl⟩, rfl⟩
     refine Tops_step rfl (OpT_move rfl rfl rfl rfl) ?_
     refine Tops_step rfl (OpT_extract rfl rfl rfl rfl rfl) ?_
     refine Tops_step rfl (OpT_extract rfl rfl rfl rfl rfl) ?_
     refine Tops_ex rfl (OpT_alloc rfl rfl rfl tyZ26) fun b4 => ?_
     refine Tops_step rfl (OpT_storeA1 (fun z0 => [vU8 sent1.1.Dst.a0, vU8 sent1.1.Dst.a1, vU8 sent1.1.Dst.a2, vU8 sent1.1.Dst.a3, vU8 sent1.1.Dst.a4, vU8 sent1.1.Dst.a5, vU8 sent1.1.Src.a0, vU8 sent1.1.Src.a1, vU8 sent1.1.Src.a2, vU8 sent1.1.Src.a3, vU8 sent1.1.Src.a4, vU8 sent1.1.Src.a5, vI sent1.1.Vlan, vU16 sent1.1.Type_, z0]) (cs' := [vU8 sent1.1.Dst.a0, vU8 sent1.1.Dst.a1, vU8 sent1.1.Dst.a2, vU8 sent1.1.Dst.a3, vU8 sent1.1.Dst.a4, vU8 sent1.1.Dst.a5, vU8 sent1.1.Src.a0, vU8 sent1.1.Src.a1, vU8 sent1.1.Src.a2, vU8 sent1.1.Src.a3, vU8 sent1.1.Src.a4, vU8 sent1.1.Src.a5, vI sent1.1.Vlan, vU16 sent1.1.Type_, v11]) rfl rfl rfl rfl tyF26 (i := 6) rfl (is_row (i := 5) rfl) (fun _ _ _ => rfl) rfl rfl rfl) ?_
     refine Tops_step rfl (OpT_assign rfl rfl rfl rfl) ?_
     refine Tops_nil (Tk_wkS (fr' := [(2, some (.pointer (some ⟨b1, 0, none⟩))), (5, some (vI (wi ((2 : Int) * pick1)))), (10, some (.pointer (some ⟨b3, 0, none⟩))), (12, some (v10)), (13, some (.pointer (some ⟨b4, 0, none⟩))), (11, some (vI sent1.2))]) (own' := [some (cellsR b1 26 [vU8 f.Dst.a0, vU8 f.Dst.a1, vU8 f.Dst.a2, vU8 f.Dst.a3, vU8 f.Dst.a4, vU8 f.Dst.a5, vU8 f.Src.a0, vU8 f.Src.a1, vU8 f.Src.a2, vU8 f.Src.a3, vU8 f.Src.a4, vU8 f.Src.a5, vI f.Vlan, vU16 f.Type_, v2]), some (rowS u8S v2 ((own1.set (wi ((2 : Int) * pick1)).toNat (0 : UInt8)).set (wi ((wi ((2 : Int) * pick1)) + (1 : Int))).toNat (0 : UInt8))), some (cellsR b3 78 [v8, v9]), some (rowsX u8S true v9 vs1 write1.2 none), some (rowS SegS v10 [(Seg.mk (50 : UInt64) (u32 (len (hdrof1 ++ bytes1.1))) false)]), some (rowS u8S v11 sent1.1.Data), some (cellsR b4 26 [vU8 sent1.1.Dst.a0, vU8 sent1.1.Dst.a1, vU8 sent1.1.Dst.a2, vU8 sent1.1.Dst.a3, vU8 sent1.1.Dst.a4, vU8 sent1.1.Dst.a5, vU8 sent1.1.Src.a0, vU8 sent1.1.Src.a1, vU8 sent1.1.Src.a2, vU8 sent1.1.Src.a3, vU8 sent1.1.Src.a4, vU8 sent1.1.Src.a5, vI sent1.1.Vlan, vU16 sent1.1.Type_, v11])]) (shr' := [Fact.sl RegionS v8 mem1.l]) [2, 5, 10, 12, 13, 11] [0, 1, 2, 3, 4, 5, 6] [0] rfl rfl rfl rfl ?_)
     refine Tk_seq (Tk_region (Tops_step rfl (OpT_move rfl rfl rfl rfl) ?_))
     refine Tops_step rfl (OpT_move rfl rfl rfl rfl) ?_
     obtain ⟨sent2, hx13, h⟩ := ob_e h
     refine Tops_exP rfl (OpT_callB [4] [0, 1, 7, 8, 4, 5, 6, 9] (w_net_Sent hx13) [2, 3] rfl rfl rfl rfl rfl callee20 rfl rfl rfl rfl rfl rfl (bor_cons (bor_shr 0 rfl) (bor_cons (bor_row 4 rfl rfl) bor_nil)) (by rintro _ _ _ ⟨_, rfl, rfl, rfl⟩; exact ⟨rfl, (ri_cons (ri_cells _ _ _) (ri_cons (ri_rows rfl _ _ _ _ _) (ri_cons (ri_row (S := u8S) rfl _ _) ri_nil)))⟩)) ?_
     rintro _ ⟨_, _, _, ⟨v12, rfl, rfl, rfl⟩, rfl⟩
     refine Tops_step rfl (OpT_move rfl rfl rfl rfl) ?_
     refine Tops_step rfl (OpT_extract rfl rfl rfl rfl rfl) ?_
     refine Tops_step rfl (OpT_extract rfl rfl rfl rfl rfl) ?_
     refine Tops_ex rfl (OpT_alloc rfl rfl rfl tyZ26) fun b5 => ?_
     refine Tops_step rfl (OpT_storeA1 (fun z0 => [vU8 sent2.1.Dst.a0, vU8 sent2.1.Dst.a1, vU8 sent2.1.Dst.a2, vU8 sent2.1.Dst.a3, vU8 sent2.1.Dst.a4, vU8 sent2.1.Dst.a5, vU8 sent2.1.Src.a0, vU8 sent2.1.Src.a1, vU8 sent2.1.Src.a2, vU8 sent2.1.Src.a3, vU8 sent2.1.Src.a4, vU8 sent2.1.Src.a5, vI sent2.1.Vlan, vU16 sent2.1.Type_, z0]) (cs' := [vU8 sent2.1.Dst.a0, vU8 sent2.1.Dst.a1, vU8 sent2.1.Dst.a2, vU8 sent2.1.Dst.a3, vU8 sent2.1.Dst.a4, vU8 sent2.1.Dst.a5, vU8 sent2.1.Src.a0, vU8 sent2.1.Src.a1, vU8 sent2.1.Src.a2, vU8 sent2.1.Src.a3, vU8 sent2.1.Src.a4, vU8 sent2.1.Src.a5, vI sent2.1.Vlan, vU16 sent2.1.Type_, v12]) rfl rfl rfl rfl tyF26 (i := 8) rfl (is_row (i := 7) rfl) (fun _ _ _ => rfl) rfl rfl rfl) ?_
     refine Tops_step rfl (OpT_assign rfl rfl rfl rfl) ?_
     refine Tops_nil (Tk_wkS (fr' := [(2, some (.pointer (some ⟨b1, 0, none⟩))), (5, some (vI (wi ((2 : Int) * pick1)))), (13, some (.pointer (some ⟨b4, 0, none⟩))), (11, some (vI sent1.2)), (14, some (.pointer (some ⟨b5, 0, none⟩))), (15, some (vI sent2.2))]) (own' := [some (cellsR b1 26 [vU8 f.Dst.a0, vU8 f.Dst.a1, vU8 f.Dst.a2, vU8 f.Dst.a3, vU8 f.Dst.a4, vU8 f.Dst.a5, vU8 f.Src.a0, vU8 f.Src.a1, vU8 f.Src.a2, vU8 f.Src.a3, vU8 f.Src.a4, vU8 f.Src.a5, vI f.Vlan, vU16 f.Type_, v2]), some (rowS u8S v2 ((own1.set (wi ((2 : Int) * pick1)).toNat (0 : UInt8)).set (wi ((wi ((2 : Int) * pick1)) + (1 : Int))).toNat (0 : UInt8))), some (rowS u8S v11 sent1.1.Data), some (cellsR b4 26 [vU8 sent1.1.Dst.a0, vU8 sent1.1.Dst.a1, vU8 sent1.1.Dst.a2, vU8 sent1.1.Dst.a3, vU8 sent1.1.Dst.a4, vU8 sent1.1.Dst.a5, vU8 sent1.1.Src.a0, vU8 sent1.1.Src.a1, vU8 sent1.1.Src.a2, vU8 sent1.1.Src.a3, vU8 sent1.1.Src.a4, vU8 sent1.1.Src.a5, vI sent1.1.Vlan, vU16 sent1.1.Type_, v11]), some (rowS u8S v12 sent2.1.Data), some (cellsR b5 26 [vU8 sent2.1.Dst.a0, vU8 sent2.1.Dst.a1, vU8 sent2.1.Dst.a2, vU8 sent2.1.Dst.a3, vU8 sent2.1.Dst.a4, vU8 sent2.1.Dst.a5, vU8 sent2.1.Src.a0, vU8 sent2.1.Src.a1, vU8 sent2.1.Src.a2, vU8 sent2.1.Src.a3, vU8 sent2.1.Src.a4, vU8 sent2.1.Src.a5, vI sent2.1.Vlan, vU16 sent2.1.Type_, v12])]) (shr' := []) [2, 5, 13, 11, 14, 15] [0, 1, 5, 6, 7, 8] [] rfl rfl rfl rfl ?_)
     refine Tk_seq (Tk_seq (Tk_region (Tops_step rfl (OpT_move rfl rfl rfl rfl) ?_)))
     refine Tops_step rfl (OpT_bin rfl rfl rfl rfl rfl (bin_neq_i (a := sent1.2) (b := (0 : Int)))) ?_
     refine Tops_step rfl (OpT_move rfl rfl rfl rfl) ?_
     obtain ⟨hg6, h⟩ := chk_e h
     replace hg6 := not_t hg6
     refine Tops_yes rfl rfl (congrArg (fun b => some (Value.bool b)) hg6) (OpT_move rfl rfl rfl rfl) ?_
     rintro _ rfl
     refine Tops_yes rfl rfl (congrArg (fun b => some (Value.bool b)) hg6) (OpT_bin rfl rfl rfl rfl rfl (bin_neq_i (a := sent2.2) (b := (0 : Int)))) ?_
     rintro _ rfl
     refine Tops_step rfl (OpT_pickF rfl rfl rfl (congrArg (fun b => some (Value.bool b)) hg6) rfl) ?_
     refine Tops_step rfl (OpT_move rfl rfl rfl rfl) ?_
     obtain ⟨hg7, h⟩ := chk_e h
     replace hg7 := not_t hg7
     refine Tops_yes rfl rfl (congrArg (fun b => some (Value.bool b)) hg7) (OpT_loadCA (vs := [vU8 sent2.1.Dst.a0, vU8 sent2.1.Dst.a1, vU8 sent2.1.Dst.a2, vU8 sent2.1.Dst.a3, vU8 sent2.1.Dst.a4, vU8 sent2.1.Dst.a5, vU8 sent2.1.Src.a0, vU8 sent2.1.Src.a1, vU8 sent2.1.Src.a2, vU8 sent2.1.Src.a3, vU8 sent2.1.Src.a4, vU8 sent2.1.Src.a5, vI sent2.1.Vlan, vU16 sent2.1.Type_, v12]) rfl rfl rfl rfl tyF26 (i := 5) rfl rfl rfl) ?_
     rintro _ rfl
     refine Tops_yes rfl rfl (congrArg (fun b => some (Value.bool b)) hg7) (OpT_loadCA (vs := [vU8 f.Dst.a0, vU8 f.Dst.a1, vU8 f.Dst.a2, vU8 f.Dst.a3, vU8 f.Dst.a4, vU8 f.Dst.a5, vU8 f.Src.a0, vU8 f.Src.a1, vU8 f.Src.a2, vU8 f.Src.a3, vU8 f.Src.a4, vU8 f.Src.a5, vI f.Vlan, vU16 f.Type_, v2]) rfl rfl rfl rfl tyF26 (i := 0) rfl rfl rfl) ?_
     rintro _ rfl
     obtain ⟨frame1, hx14, h⟩ := ob_e h
     refine Tops_yes rfl rfl (congrArg (fun b => some (Value.bool b)) hg7) (OpT_callB [4, 1] [0, 1, 2, 3, 4, 5] (w_kit_Frame hx14) [] rfl rfl rfl rfl rfl callee21 rfl rfl rfl rfl rfl rfl (bor_cons (bor_row 4 rfl rfl) (bor_cons (bor_row 1 rfl rfl) bor_nil)) (by rintro _ _ _ ⟨rfl, rfl, rfl⟩; exact ⟨rfl, ri_nil⟩)) ?_
     rintro _ ⟨_, _, _, ⟨rfl, rfl, rfl⟩, rfl⟩
     refine Tops_yes rfl rfl (congrArg (fun b => some (Value.bool b)) hg7) (OpT_not rfl rfl rfl rfl) ?_
     rintro _ rfl
     refine Tops_step rfl (OpT_pickF rfl rfl rfl (congrArg (fun b => some (Value.bool b)) hg7) rfl) ?_
     refine Tops_step rfl (OpT_move rfl rfl rfl rfl) ?_
     obtain ⟨hg8, h⟩ := chk_e h
     replace hg8 := not_t hg8
     refine Tops_yes rfl rfl (congrArg (fun b => some (Value.bool b)) hg8) (OpT_fieldC rfl rfl rfl rfl fldF26x4) ?_
     rintro _ rfl
     refine Tops_yes rfl rfl (congrArg (fun b => some (Value.bool b)) hg8) (OpT_loadC rfl rfl rfl rfl tyF24 (i := 3) rfl rfl) ?_
     rintro _ rfl
     obtain ⟨sum1, hx15, h⟩ := ob_e h
     refine Tops_yes rfl rfl (congrArg (fun b => some (Value.bool b)) hg8) (OpT_callB [2] [0, 1, 2, 3, 4, 5] (w_ref_Sum23 hx15) [] rfl rfl rfl rfl rfl callee22 rfl rfl rfl rfl rfl rfl (bor_cons (bor_row 2 rfl rfl) bor_nil) (by rintro _ _ _ ⟨rfl, rfl, rfl⟩; exact ⟨rfl, ri_nil⟩)) ?_
     rintro _ ⟨_, _, _, ⟨rfl, rfl, rfl⟩, rfl⟩
     refine Tops_yes rfl rfl (congrArg (fun b => some (Value.bool b)) hg8) (OpT_bin rfl rfl rfl rfl rfl (bin_neq_u16 (a := sum1) (b := (0 : UInt16)))) ?_
     rintro _ rfl
     refine Tops_step rfl (OpT_pickF rfl rfl rfl (congrArg (fun b => some (Value.bool b)) hg8) rfl) ?_
     refine Tops_nil (Tk_wkS (fr' := [(2, some (.pointer (some ⟨b1, 0, none⟩))), (5, some (vI (wi ((2 : Int) * pick1)))), (13, some (.pointer (some ⟨b4, 0, none⟩))), (119, some (vB (sum1 != (0 : UInt16))))]) (own' := [some (cellsR b1 26 [vU8 f.Dst.a0, vU8 f.Dst.a1, vU8 f.Dst.a2, vU8 f.Dst.a3, vU8 f.Dst.a4, vU8 f.Dst.a5, vU8 f.Src.a0, vU8 f.Src.a1, vU8 f.Src.a2, vU8 f.Src.a3, vU8 f.Src.a4, vU8 f.Src.a5, vI f.Vlan, vU16 f.Type_, v2]), some (rowS u8S v2 ((own1.set (wi ((2 : Int) * pick1)).toNat (0 : UInt8)).set (wi ((wi ((2 : Int) * pick1)) + (1 : Int))).toNat (0 : UInt8))), some (rowS u8S v11 sent1.1.Data), some (cellsR b4 26 [vU8 sent1.1.Dst.a0, vU8 sent1.1.Dst.a1, vU8 sent1.1.Dst.a2, vU8 sent1.1.Dst.a3, vU8 sent1.1.Dst.a4, vU8 sent1.1.Dst.a5, vU8 sent1.1.Src.a0, vU8 sent1.1.Src.a1, vU8 sent1.1.Src.a2, vU8 sent1.1.Src.a3, vU8 sent1.1.Src.a4, vU8 sent1.1.Src.a5, vI sent1.1.Vlan, vU16 sent1.1.Type_, v11])]) (shr' := []) [2, 5, 13, 119] [0, 1, 2, 3] [] rfl rfl rfl rfl ?_)
     obtain ⟨hg9, h⟩ := chk_e h
     replace hg9 := not_t hg9
     refine Tk_condF (congrArg (fun b => some (Value.bool b)) hg9) ?_
     refine Tk_skip (Tk_seq (Tk_drawT (by kernel_rfl) ?_))
     refine TA_tb [0, 1, 0, 0, 8, 0, 32, 7, 135, 511, 1023] (by kernel_rfl) fun htb => ?_
     refine TA_wkS (fr' := [(2, some (.pointer (some ⟨b1, 0, none⟩))), (5, some (vI (wi ((2 : Int) * pick1)))), (13, some (.pointer (some ⟨b4, 0, none⟩)))]) (own' := [some (cellsR b1 26 [vU8 f.Dst.a0, vU8 f.Dst.a1, vU8 f.Dst.a2, vU8 f.Dst.a3, vU8 f.Dst.a4, vU8 f.Dst.a5, vU8 f.Src.a0, vU8 f.Src.a1, vU8 f.Src.a2, vU8 f.Src.a3, vU8 f.Src.a4, vU8 f.Src.a5, vI f.Vlan, vU16 f.Type_, v2]), some (rowS u8S v2 ((own1.set (wi ((2 : Int) * pick1)).toNat (0 : UInt8)).set (wi ((wi ((2 : Int) * pick1)) + (1 : Int))).toNat (0 : UInt8))), some (rowS u8S v11 sent1.1.Data), some (cellsR b4 26 [vU8 sent1.1.Dst.a0, vU8 sent1.1.Dst.a1, vU8 sent1.1.Dst.a2, vU8 sent1.1.Dst.a3, vU8 sent1.1.Dst.a4, vU8 sent1.1.Dst.a5, vU8 sent1.1.Src.a0, vU8 sent1.1.Src.a1, vU8 sent1.1.Src.a2, vU8 sent1.1.Src.a3, vU8 sent1.1.Src.a4, vU8 sent1.1.Src.a5, vI sent1.1.Vlan, vU16 sent1.1.Type_, v11])]) (shr' := []) [2, 5, 13] [0, 1, 2, 3] [] rfl rfl rfl rfl ?_
     obtain ⟨y3, hx16, h⟩ := ob_e h
     refine TA_seg (lo := 0) (hi := 9) htb rfl rfl (by kernel_rfl) (fun c L a w => Sat c ⟨[(2, some (.pointer (some ⟨b1, 0, none⟩))), (5, some (vI (wi ((2 : Int) * pick1)))), (13, some (.pointer (some ⟨b4, 0, none⟩))), (120, bif L 0 then some (.pointer (some ⟨b4, 14, none⟩)) else none), (121, bif L 1 then some (v11) else none), (122, bif L 2 then some (vI (wi ((2 : Int) * pick1))) else none), (123, bif L 3 then some (.pointer (some ⟨b4, 14, none⟩)) else none), (124, bif L 4 then some (v11) else none), (125, bif L 5 then some (vI (wi ((2 : Int) * pick1))) else none), (126, bif L 6 then some (vI (wi ((wi ((2 : Int) * pick1)) + (1 : Int)))) else none), (127, bif L 7 then some (rowPtr v11 (Int.toNat (wi ((2 : Int) * pick1)) * 1)) else none)], [(some (cellsR b1 26 [vU8 f.Dst.a0, vU8 f.Dst.a1, vU8 f.Dst.a2, vU8 f.Dst.a3, vU8 f.Dst.a4, vU8 f.Dst.a5, vU8 f.Src.a0, vU8 f.Src.a1, vU8 f.Src.a2, vU8 f.Src.a3, vU8 f.Src.a4, vU8 f.Src.a5, vI f.Vlan, vU16 f.Type_, v2]) : Option Res), (some (rowS u8S v2 ((own1.set (wi ((2 : Int) * pick1)).toNat (0 : UInt8)).set (wi ((wi ((2 : Int) * pick1)) + (1 : Int))).toNat (0 : UInt8))) : Option Res), (bif L 8 then some (rowS u8S v11 (sent1.1.Data.set (wi ((2 : Int) * pick1)).toNat (0 : UInt8))) else some (rowS u8S v11 sent1.1.Data) : Option Res), (some (cellsR b4 26 [vU8 sent1.1.Dst.a0, vU8 sent1.1.Dst.a1, vU8 sent1.1.Dst.a2, vU8 sent1.1.Dst.a3, vU8 sent1.1.Dst.a4, vU8 sent1.1.Dst.a5, vU8 sent1.1.Src.a0, vU8 sent1.1.Src.a1, vU8 sent1.1.Src.a2, vU8 sent1.1.Src.a3, vU8 sent1.1.Src.a4, vU8 sent1.1.Src.a5, vI sent1.1.Vlan, vU16 sent1.1.Type_, v11]) : Option Res)], []⟩ a w) [([], [1, 7, 8]), ([0], [7, 8]), ([], [7, 8]), ([], [4]), ([3], []), ([], [6]), ([5], []), ([0, 1, 2], [8]), ([0, 1, 2, 7], [])] rfl (by kernel_rfl) ?_ (steps_cons ?_ (steps_cons ?_ (steps_cons ?_ (steps_cons ?_ (steps_cons ?_ (steps_cons ?_ (steps_cons ?_ (steps_cons ?_ (steps_cons ?_ (steps_nil)))))))))) ?_
     ·intro a w hs
      exact hs.startF [120, 121, 122, 123, 124, 125, 126, 127] [0, 1, 2, 3] [] rfl rfl rfl rfl
     ·intro L a w hv K Q hK
      have hs := hv
      refine wpOp_go rfl rfl hs (OpT_fieldC rfl rfl rfl rfl fldF26x4) ?_
      rintro _ rfl a' w' hs'
      exact hK a' w' (hs'.putF (i := 3) rfl [0, 1, 2, 3] [] rfl rfl rfl rfl)
     ·intro L a w hv K Q hK
      have hs := hv
      refine wpOp_go rfl rfl hs (OpT_loadC rfl rfl rfl rfl tyF24 (i := 3) rfl rfl) ?_
      rintro _ rfl a' w' hs'
      exact hK a' w' (hs'.putF (i := 4) rfl [0, 1, 2, 3] [] rfl rfl rfl rfl)
     ·intro L a w hv K Q hK
      have hs := hv
      refine wpOp_go rfl rfl hs (OpT_move rfl rfl rfl rfl) ?_
      rintro _ rfl a' w' hs'
      exact hK a' w' (hs'.putF (i := 5) rfl [0, 1, 2, 3] [] rfl rfl rfl rfl)
     ·intro L a w hv K Q hK
      have hs := hv
      refine wpOp_go rfl rfl hs (OpT_fieldC rfl rfl rfl rfl fldF26x4) ?_
      rintro _ rfl a' w' hs'
      exact hK a' w' (hs'.putF (i := 6) rfl [0, 1, 2, 3] [] rfl rfl rfl rfl)
     ·intro L a w hv K Q hK
      have hs := hv
      refine wpOp_go rfl rfl hs (OpT_loadC rfl rfl rfl rfl tyF24 (i := 3) rfl rfl) ?_
      rintro _ rfl a' w' hs'
      exact hK a' w' (hs'.putF (i := 7) rfl [0, 1, 2, 3] [] rfl rfl rfl rfl)
     ·intro L a w hv K Q hK
      have hs := hv
      refine wpOp_go rfl rfl hs (OpT_move rfl rfl rfl rfl) ?_
      rintro _ rfl a' w' hs'
      exact hK a' w' (hs'.putF (i := 8) rfl [0, 1, 2, 3] [] rfl rfl rfl rfl)
     ·intro L a w hv K Q hK
      have hs := hv
      refine wpOp_go rfl rfl hs (OpT_bin rfl rfl rfl rfl rfl (bin_add_i (a := wi ((2 : Int) * pick1)) (b := (1 : Int)))) ?_
      rintro _ rfl a' w' hs'
      exact hK a' w' (hs'.putF (i := 9) rfl [0, 1, 2, 3] [] rfl rfl rfl rfl)
     ·intro L a w hv K Q hK
      have hs := hv
      refine wpOp_go rfl rfl hs (OpT_idxO rfl rfl rfl rfl rfl slF24 (i := 2) rfl hx16) ?_
      rintro _ rfl a' w' hs'
      exact hK a' w' (hs'.putF (i := 10) rfl [0, 1, 2, 3] [] rfl rfl rfl rfl)
     ·intro L a w hv K Q hK
      have hs := hv
      refine wpOp_go rfl rfl hs (OpT_storeO (S := u8S) (u := (0 : UInt8)) rfl rfl rfl rfl rfl tyF5 (i := 2) rfl hx16 rfl) ?_
      rintro _ rfl a' w' hs'
      exact hK a' w' (hs'.sameF [0, 1, 2, 3] [] rfl rfl rfl rfl)
     ·intro L a w hL hv
      rw [allTrue hL] at hv
      have hs := hv
      refine (show TA _ _ _ 9 ⟨[(2, some (.pointer (some ⟨b1, 0, none⟩))), (13, some (.pointer (some ⟨b4, 0, none⟩))), (124, some (v11)), (126, some (vI (wi ((wi ((2 : Int) * pick1)) + (1 : Int)))))], [some (cellsR b1 26 [vU8 f.Dst.a0, vU8 f.Dst.a1, vU8 f.Dst.a2, vU8 f.Dst.a3, vU8 f.Dst.a4, vU8 f.Dst.a5, vU8 f.Src.a0, vU8 f.Src.a1, vU8 f.Src.a2, vU8 f.Src.a3, vU8 f.Src.a4, vU8 f.Src.a5, vI f.Vlan, vU16 f.Type_, v2]), some (rowS u8S v2 ((own1.set (wi ((2 : Int) * pick1)).toNat (0 : UInt8)).set (wi ((wi ((2 : Int) * pick1)) + (1 : Int))).toNat (0 : UInt8))), some (rowS u8S v11 (sent1.1.Data.set (wi ((2 : Int) * pick1)).toNat (0 : UInt8))), some (cellsR b4 26 [vU8 sent1.1.Dst.a0, vU8 sent1.1.Dst.a1, vU8 sent1.1.Dst.a2, vU8 sent1.1.Dst.a3, vU8 sent1.1.Dst.a4, vU8 sent1.1.Dst.a5, vU8 sent1.1.Src.a0, vU8 sent1.1.Src.a1, vU8 sent1.1.Src.a2, vU8 sent1.1.Src.a3, vU8 sent1.1.Src.a4, vU8 sent1.1.Src.a5, vI sent1.1.Vlan, vU16 sent1.1.Type_, v11])], []⟩ from ?_) a w (hs.wkS [2, 13, 124, 126] [0, 1, 2, 3] [] rfl rfl rfl rfl)
      clear hs hL
      obtain ⟨y4, hx17, h⟩ := ob_e h
      refine TA_step htb (by kernel_rfl) rfl rfl (OpT_idxO rfl rfl rfl rfl rfl slF24 (i := 2) rfl hx17) ?_
      refine TA_step htb (by kernel_rfl) rfl rfl (OpT_storeO (S := u8S) (u := (0 : UInt8)) rfl rfl rfl rfl rfl tyF5 (i := 2) rfl hx17 rfl) ?_
      refine TA_end rfl ?_
      refine Tk_wkS (fr' := [(2, some (.pointer (some ⟨b1, 0, none⟩))), (13, some (.pointer (some ⟨b4, 0, none⟩)))]) (own' := [some (cellsR b1 26 [vU8 f.Dst.a0, vU8 f.Dst.a1, vU8 f.Dst.a2, vU8 f.Dst.a3, vU8 f.Dst.a4, vU8 f.Dst.a5, vU8 f.Src.a0, vU8 f.Src.a1, vU8 f.Src.a2, vU8 f.Src.a3, vU8 f.Src.a4, vU8 f.Src.a5, vI f.Vlan, vU16 f.Type_, v2]), some (rowS u8S v2 ((own1.set (wi ((2 : Int) * pick1)).toNat (0 : UInt8)).set (wi ((wi ((2 : Int) * pick1)) + (1 : Int))).toNat (0 : UInt8))), some (rowS u8S v11 ((sent1.1.Data.set (wi ((2 : Int) * pick1)).toNat (0 : UInt8)).set (wi ((wi ((2 : Int) * pick1)) + (1 : Int))).toNat (0 : UInt8))), some (cellsR b4 26 [vU8 sent1.1.Dst.a0, vU8 sent1.1.Dst.a1, vU8 sent1.1.Dst.a2, vU8 sent1.1.Dst.a3, vU8 sent1.1.Dst.a4, vU8 sent1.1.Dst.a5, vU8 sent1.1.Src.a0, vU8 sent1.1.Src.a1, vU8 sent1.1.Src.a2, vU8 sent1.1.Src.a3, vU8 sent1.1.Src.a4, vU8 sent1.1.Src.a5, vI sent1.1.Vlan, vU16 sent1.1.Type_, v11])]) (shr' := []) [2, 13] [0, 1, 2, 3] [] rfl rfl rfl rfl ?_
      refine Tk_seq (Tk_region (Tops_step rfl (OpT_loadCA (vs := [vU8 sent1.1.Dst.a0, vU8 sent1.1.Dst.a1, vU8 sent1.1.Dst.a2, vU8 sent1.1.Dst.a3, vU8 sent1.1.Dst.a4, vU8 sent1.1.Dst.a5, vU8 sent1.1.Src.a0, vU8 sent1.1.Src.a1, vU8 sent1.1.Src.a2, vU8 sent1.1.Src.a3, vU8 sent1.1.Src.a4, vU8 sent1.1.Src.a5, vI sent1.1.Vlan, vU16 sent1.1.Type_, v11]) rfl rfl rfl rfl tyF26 (i := 3) rfl rfl rfl) ?_))
      refine Tops_step rfl (OpT_loadCA (vs := [vU8 f.Dst.a0, vU8 f.Dst.a1, vU8 f.Dst.a2, vU8 f.Dst.a3, vU8 f.Dst.a4, vU8 f.Dst.a5, vU8 f.Src.a0, vU8 f.Src.a1, vU8 f.Src.a2, vU8 f.Src.a3, vU8 f.Src.a4, vU8 f.Src.a5, vI f.Vlan, vU16 f.Type_, v2]) rfl rfl rfl rfl tyF26 (i := 0) rfl rfl rfl) ?_
      obtain ⟨frame2, hx18, h⟩ := ob_e h
      refine Tops_exP rfl (OpT_callB [2, 1] [0, 1, 2, 3] (w_kit_Frame hx18) [] rfl rfl rfl rfl rfl callee21 rfl rfl rfl rfl rfl rfl (bor_cons (bor_row 2 rfl rfl) (bor_cons (bor_row 1 rfl rfl) bor_nil)) (by rintro _ _ _ ⟨rfl, rfl, rfl⟩; exact ⟨rfl, ri_nil⟩)) ?_
      rintro _ ⟨_, _, _, ⟨rfl, rfl, rfl⟩, rfl⟩
      refine Tops_step rfl (OpT_assign rfl rfl rfl rfl) ?_
      refine Tops_nil (Tk_wkS (fr' := [(4, some (vB frame2))]) (own' := []) (shr' := []) [4] [] [] rfl rfl rfl rfl ?_)
      obtain ⟨hg10, h⟩ := chk_e h
      exact Tk_retV rfl rfl (resA (vs := [.bool true]) rfl ⟨(congrArg (fun b => some (Value.bool b)) hg10), trivial⟩) [] [] rfl rfl rfl ⟨rfl, rfl, rfl⟩
end Go.Proofs.Ytdaijemhibbgeaa
