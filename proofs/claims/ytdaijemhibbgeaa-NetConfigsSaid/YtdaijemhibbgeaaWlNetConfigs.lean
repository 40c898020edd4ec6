/- The law NetConfigs is walked: it returns what its plain words say. No condition. -/
import Derived.Test.YtdaijemhibbgeaaWa4
namespace Go.Proofs.Ytdaijemhibbgeaa
attribute [local irreducible] sub

set_option maxRecDepth 100000 in
set_option maxHeartbeats 4000000 in
theorem w_law25zNetConfigs {mac : A6 UInt8} {up : Bool} {f : Frame} {hp3 : Hdr} {feats : UInt64} {vf1 : Value}  (h : law25zNetConfigs mac up f hp3 feats = some true) :
  Ctr Try.prog 5 #[.agg #[vU8 mac.a0, vU8 mac.a1, vU8 mac.a2, vU8 mac.a3, vU8 mac.a4, vU8 mac.a5], vB up, .agg #[vU8 f.Dst.a0, vU8 f.Dst.a1, vU8 f.Dst.a2, vU8 f.Dst.a3, vU8 f.Dst.a4, vU8 f.Dst.a5, vU8 f.Src.a0, vU8 f.Src.a1, vU8 f.Src.a2, vU8 f.Src.a3, vU8 f.Src.a4, vU8 f.Src.a5, vI f.Vlan, vU16 f.Type_, vf1], .agg #[vU8 hp3.Flags, vU16 hp3.Start, vU16 hp3.Off, vU16 hp3.Buffers], vU64 feats] [] [Fact.sl u8S vf1 f.Data]
   (fun rv own shr => rv = .bool true ∧ own = [] ∧ shr = []) := by
 unfold law25zNetConfigs at h
 refine Ctr.mk (args := [.agg #[vU8 mac.a0, vU8 mac.a1, vU8 mac.a2, vU8 mac.a3, vU8 mac.a4, vU8 mac.a5], vB up, .agg #[vU8 f.Dst.a0, vU8 f.Dst.a1, vU8 f.Dst.a2, vU8 f.Dst.a3, vU8 f.Dst.a4, vU8 f.Dst.a5, vU8 f.Src.a0, vU8 f.Src.a1, vU8 f.Src.a2, vU8 f.Src.a3, vU8 f.Src.a4, vU8 f.Src.a5, vI f.Vlan, vU16 f.Type_, vf1], .agg #[vU8 hp3.Flags, vU16 hp3.Start, vU16 hp3.Off, vU16 hp3.Buffers], vU64 feats]) Try.func5 rfl rfl (fun R0 w0 B => ?_)
 refine Tk_seq (Tk_region (Tops_ex rfl (OpT_box rfl rfl rfl rfl) fun b1 => ?_))
 refine Tops_ex rfl (OpT_box rfl rfl rfl rfl) fun b2 => ?_
 refine Tops_ex rfl (OpT_box rfl rfl rfl rfl) fun b3 => ?_
 refine Tops_step rfl (OpT_assign rfl rfl rfl rfl) ?_
 refine Tops_nil (Tk_wkS (fr' := [(1, some (vB up)), (4, some (vU64 feats)), (5, some (.pointer (some ⟨b1, 0, none⟩))), (7, some (.pointer (some ⟨b2, 0, none⟩))), (8, some (.pointer (some ⟨b3, 0, none⟩)))]) (own' := [some (cellsR b1 22 [vU8 mac.a0, vU8 mac.a1, vU8 mac.a2, vU8 mac.a3, vU8 mac.a4, vU8 mac.a5]), some (cellsR b2 26 [vU8 f.Dst.a0, vU8 f.Dst.a1, vU8 f.Dst.a2, vU8 f.Dst.a3, vU8 f.Dst.a4, vU8 f.Dst.a5, vU8 f.Src.a0, vU8 f.Src.a1, vU8 f.Src.a2, vU8 f.Src.a3, vU8 f.Src.a4, vU8 f.Src.a5, vI f.Vlan, vU16 f.Type_, vf1]), some (cellsR b3 50 [vU8 hp3.Flags, vU16 hp3.Start, vU16 hp3.Off, vU16 hp3.Buffers])]) (shr' := [Fact.sl u8S vf1 f.Data]) [1, 4, 5, 7, 8] [0, 1, 2] [0] rfl rfl rfl rfl ?_)
 refine Tk_seq (Tk_seq (Tk_region ?_))
 obtain ⟨lives1, hx1, h⟩ := ob_e h
 refine Tops_exP rfl (OpT_call (w_law25zlives hx1) [] [] rfl rfl rfl rfl rfl callee7 rfl rfl rfl rfl) ?_
 rintro _ ⟨_, _, _, ⟨rfl, rfl, rfl⟩, rfl⟩
 refine Tops_step rfl (OpT_not rfl rfl rfl rfl) ?_
 refine Tops_nil (Tk_wkS (fr' := [(1, some (vB up)), (4, some (vU64 feats)), (5, some (.pointer (some ⟨b1, 0, none⟩))), (7, some (.pointer (some ⟨b2, 0, none⟩))), (8, some (.pointer (some ⟨b3, 0, none⟩))), (19, some (vB (!lives1)))]) (own' := [some (cellsR b1 22 [vU8 mac.a0, vU8 mac.a1, vU8 mac.a2, vU8 mac.a3, vU8 mac.a4, vU8 mac.a5]), some (cellsR b2 26 [vU8 f.Dst.a0, vU8 f.Dst.a1, vU8 f.Dst.a2, vU8 f.Dst.a3, vU8 f.Dst.a4, vU8 f.Dst.a5, vU8 f.Src.a0, vU8 f.Src.a1, vU8 f.Src.a2, vU8 f.Src.a3, vU8 f.Src.a4, vU8 f.Src.a5, vI f.Vlan, vU16 f.Type_, vf1]), some (cellsR b3 50 [vU8 hp3.Flags, vU16 hp3.Start, vU16 hp3.Off, vU16 hp3.Buffers])]) (shr' := [Fact.sl u8S vf1 f.Data]) [1, 4, 5, 7, 8, 19] [0, 1, 2] [0] rfl rfl rfl rfl ?_)
 obtain ⟨hg1, h⟩ := chk_e h
 replace hg1 := not_t hg1
 refine Tk_condF (congrArg (fun b => some (Value.bool b)) hg1) ?_
 refine Tk_skip (Tk_seq (Tk_region (Tops_step rfl (OpT_loadCA (vs := [vU8 mac.a0, vU8 mac.a1, vU8 mac.a2, vU8 mac.a3, vU8 mac.a4, vU8 mac.a5]) rfl rfl rfl rfl tyF22 (i := 0) rfl rfl rfl) ?_)))
 refine Tops_step rfl (OpT_move rfl rfl rfl rfl) ?_
 obtain ⟨config1, hx2, h⟩ := ob_e h
 refine Tops_exP rfl (OpT_call (w_net_Config hx2) [] [] rfl rfl rfl rfl rfl callee23 rfl rfl rfl rfl) ?_
 rintro _ ⟨v1, _, _, ⟨_, rfl, rfl, rfl⟩, rfl⟩
 refine Tops_step rfl (OpT_assign rfl rfl rfl rfl) ?_
 refine Tops_nil (Tk_wkS (fr' := [(1, some (vB up)), (4, some (vU64 feats)), (5, some (.pointer (some ⟨b1, 0, none⟩))), (7, some (.pointer (some ⟨b2, 0, none⟩))), (8, some (.pointer (some ⟨b3, 0, none⟩))), (11, some (v1))]) (own' := [some (cellsR b1 22 [vU8 mac.a0, vU8 mac.a1, vU8 mac.a2, vU8 mac.a3, vU8 mac.a4, vU8 mac.a5]), some (cellsR b2 26 [vU8 f.Dst.a0, vU8 f.Dst.a1, vU8 f.Dst.a2, vU8 f.Dst.a3, vU8 f.Dst.a4, vU8 f.Dst.a5, vU8 f.Src.a0, vU8 f.Src.a1, vU8 f.Src.a2, vU8 f.Src.a3, vU8 f.Src.a4, vU8 f.Src.a5, vI f.Vlan, vU16 f.Type_, vf1]), some (cellsR b3 50 [vU8 hp3.Flags, vU16 hp3.Start, vU16 hp3.Off, vU16 hp3.Buffers]), some (rowS u8S v1 config1)]) (shr' := [Fact.sl u8S vf1 f.Data]) [1, 4, 5, 7, 8, 11] [0, 1, 2, 3] [0] rfl rfl rfl rfl ?_)
 refine Tk_seq (Tk_seq (Tk_drawT (by kernel_rfl) ?_))
 refine TA_tb [0, 1, 3, 7, 15, 31, 15, 127, 255, 511, 1023, 2047, 1023, 8191, 16383, 32767, 65535, 131071, 262143, 524287, 1048575, 2097151, 4194303, 8388607, 2097151, 33554431, 67108863] (by kernel_rfl) fun htb => ?_
 refine TA_step htb (by kernel_rfl) rfl rfl (OpT_move rfl rfl rfl rfl) ?_
 refine TA_step htb (by kernel_rfl) rfl rfl (OpT_lenO rfl rfl rfl rfl Try.underlying24 (i := 3) rfl) ?_
 refine TA_step htb (by kernel_rfl) rfl rfl (OpT_bin rfl rfl rfl rfl rfl (bin_neq_i (a := len config1) (b := (8 : Int)))) ?_
 refine TA_step htb (by kernel_rfl) rfl rfl (OpT_move rfl rfl rfl rfl) ?_
 refine TA_wkS (fr' := [(1, some (vB up)), (4, some (vU64 feats)), (5, some (.pointer (some ⟨b1, 0, none⟩))), (7, some (.pointer (some ⟨b2, 0, none⟩))), (8, some (.pointer (some ⟨b3, 0, none⟩))), (11, some (v1)), (26, some (vB ((len config1) != (8 : Int))))]) (own' := [some (cellsR b1 22 [vU8 mac.a0, vU8 mac.a1, vU8 mac.a2, vU8 mac.a3, vU8 mac.a4, vU8 mac.a5]), some (cellsR b2 26 [vU8 f.Dst.a0, vU8 f.Dst.a1, vU8 f.Dst.a2, vU8 f.Dst.a3, vU8 f.Dst.a4, vU8 f.Dst.a5, vU8 f.Src.a0, vU8 f.Src.a1, vU8 f.Src.a2, vU8 f.Src.a3, vU8 f.Src.a4, vU8 f.Src.a5, vI f.Vlan, vU16 f.Type_, vf1]), some (cellsR b3 50 [vU8 hp3.Flags, vU16 hp3.Start, vU16 hp3.Off, vU16 hp3.Buffers]), some (rowS u8S v1 config1)]) (shr' := [Fact.sl u8S vf1 f.Data]) [1, 4, 5, 7, 8, 11, 26] [0, 1, 2, 3] [0] rfl rfl rfl rfl ?_
 obtain ⟨hg2, h⟩ := chk_e h
 replace hg2 := not_t hg2
 obtain ⟨mac1, hx3, h⟩ := ob_e h
 refine TA_seg (lo := 4) (hi := 7) htb rfl rfl (by kernel_rfl) (fun c L a w => Sat c ⟨[(1, some (vB up)), (4, some (vU64 feats)), (5, some (.pointer (some ⟨b1, 0, none⟩))), (7, some (.pointer (some ⟨b2, 0, none⟩))), (8, some (.pointer (some ⟨b3, 0, none⟩))), (11, some (v1)), (26, some (vB ((len config1) != (8 : Int)))), (27, bif L 4 then some (v1) else none), (28, bif L 5 then some (.agg #[vU8 mac1.a0, vU8 mac1.a1, vU8 mac1.a2, vU8 mac1.a3, vU8 mac1.a4, vU8 mac1.a5]) else none), (29, bif L 6 then some (.agg #[vU8 mac.a0, vU8 mac.a1, vU8 mac.a2, vU8 mac.a3, vU8 mac.a4, vU8 mac.a5]) else none)], [(some (cellsR b1 22 [vU8 mac.a0, vU8 mac.a1, vU8 mac.a2, vU8 mac.a3, vU8 mac.a4, vU8 mac.a5]) : Option Res), (some (cellsR b2 26 [vU8 f.Dst.a0, vU8 f.Dst.a1, vU8 f.Dst.a2, vU8 f.Dst.a3, vU8 f.Dst.a4, vU8 f.Dst.a5, vU8 f.Src.a0, vU8 f.Src.a1, vU8 f.Src.a2, vU8 f.Src.a3, vU8 f.Src.a4, vU8 f.Src.a5, vI f.Vlan, vU16 f.Type_, vf1]) : Option Res), (some (cellsR b3 50 [vU8 hp3.Flags, vU16 hp3.Start, vU16 hp3.Off, vU16 hp3.Buffers]) : Option Res), (some (rowS u8S v1 config1) : Option Res)], [Fact.sl u8S vf1 f.Data]⟩ a w) [([], [5]), ([4], []), ([], [])] rfl (by kernel_rfl) ?_ (steps_cons ?_ (steps_cons ?_ (steps_cons ?_ (steps_nil)))) ?_
 ·intro a w hs
  exact hs.startF [27, 28, 29] [0, 1, 2, 3] [0] rfl rfl rfl rfl
 ·intro L a w hv K Q hK
  have hs := hv
  refine wpOp_yes rfl rfl rfl hs (congrArg (fun b => some (Value.bool b)) hg2) (OpT_move rfl rfl rfl rfl) ?_
  rintro _ rfl a' w' hs'
  exact hK a' w' (hs'.putF (i := 7) rfl [0, 1, 2, 3] [0] rfl rfl rfl rfl)
 ·intro L a w hv K Q hK
  have hs := hv
  refine wpOp_yes rfl rfl rfl hs (congrArg (fun b => some (Value.bool b)) hg2) (OpT_callB [3] [0, 1, 2, 3] (w_net_Mac hx3) [] rfl rfl rfl rfl rfl callee24 rfl rfl rfl rfl rfl rfl (bor_cons (bor_row 3 rfl rfl) bor_nil) (by rintro _ _ _ ⟨rfl, rfl, rfl⟩; exact ⟨rfl, ri_nil⟩)) ?_
  rintro _ ⟨_, _, _, ⟨rfl, rfl, rfl⟩, rfl⟩ a' w' hs'
  exact hK a' w' (hs'.putF (i := 8) rfl [0, 1, 2, 3] [0] rfl rfl rfl rfl)
 ·intro L a w hv K Q hK
  have hs := hv
  refine wpOp_yes rfl rfl rfl hs (congrArg (fun b => some (Value.bool b)) hg2) (OpT_loadCA (vs := [vU8 mac.a0, vU8 mac.a1, vU8 mac.a2, vU8 mac.a3, vU8 mac.a4, vU8 mac.a5]) rfl rfl rfl rfl tyF22 (i := 0) rfl rfl rfl) ?_
  rintro _ rfl a' w' hs'
  exact hK a' w' (hs'.putF (i := 9) rfl [0, 1, 2, 3] [0] rfl rfl rfl rfl)
 ·intro L a w hL hv
  rw [allTrue hL] at hv
  have hs := hv
  refine (show TA _ _ _ 7 ⟨[(1, some (vB up)), (4, some (vU64 feats)), (7, some (.pointer (some ⟨b2, 0, none⟩))), (8, some (.pointer (some ⟨b3, 0, none⟩))), (11, some (v1)), (26, some (vB ((len config1) != (8 : Int)))), (28, some (.agg #[vU8 mac1.a0, vU8 mac1.a1, vU8 mac1.a2, vU8 mac1.a3, vU8 mac1.a4, vU8 mac1.a5])), (29, some (.agg #[vU8 mac.a0, vU8 mac.a1, vU8 mac.a2, vU8 mac.a3, vU8 mac.a4, vU8 mac.a5]))], [some (cellsR b2 26 [vU8 f.Dst.a0, vU8 f.Dst.a1, vU8 f.Dst.a2, vU8 f.Dst.a3, vU8 f.Dst.a4, vU8 f.Dst.a5, vU8 f.Src.a0, vU8 f.Src.a1, vU8 f.Src.a2, vU8 f.Src.a3, vU8 f.Src.a4, vU8 f.Src.a5, vI f.Vlan, vU16 f.Type_, vf1]), some (cellsR b3 50 [vU8 hp3.Flags, vU16 hp3.Start, vU16 hp3.Off, vU16 hp3.Buffers]), some (rowS u8S v1 config1)], [Fact.sl u8S vf1 f.Data]⟩ from ?_) a w (hs.wkS [1, 4, 7, 8, 11, 26, 28, 29] [1, 2, 3] [0] rfl rfl rfl rfl)
  clear hs hL
  refine TA_yes htb (by kernel_rfl) rfl rfl rfl (congrArg (fun b => some (Value.bool b)) hg2) (OpT_bin rfl rfl rfl rfl rfl (eqT22_neq mac1 mac)) ?_
  rintro _ rfl
  refine TA_step htb (by kernel_rfl) rfl rfl (OpT_pickF rfl rfl rfl (congrArg (fun b => some (Value.bool b)) hg2) rfl) ?_
  refine TA_step htb (by kernel_rfl) rfl rfl (OpT_move rfl rfl rfl rfl) ?_
  refine TA_wkS (fr' := [(1, some (vB up)), (4, some (vU64 feats)), (7, some (.pointer (some ⟨b2, 0, none⟩))), (8, some (.pointer (some ⟨b3, 0, none⟩))), (11, some (v1)), (32, some (vB (mac1 != mac)))]) (own' := [some (cellsR b2 26 [vU8 f.Dst.a0, vU8 f.Dst.a1, vU8 f.Dst.a2, vU8 f.Dst.a3, vU8 f.Dst.a4, vU8 f.Dst.a5, vU8 f.Src.a0, vU8 f.Src.a1, vU8 f.Src.a2, vU8 f.Src.a3, vU8 f.Src.a4, vU8 f.Src.a5, vI f.Vlan, vU16 f.Type_, vf1]), some (cellsR b3 50 [vU8 hp3.Flags, vU16 hp3.Start, vU16 hp3.Off, vU16 hp3.Buffers]), some (rowS u8S v1 config1)]) (shr' := [Fact.sl u8S vf1 f.Data]) [1, 4, 7, 8, 11, 32] [0, 1, 2] [0] rfl rfl rfl rfl ?_
  obtain ⟨hg3, h⟩ := chk_e h
  replace hg3 := not_t hg3
  obtain ⟨up1, hx4, h⟩ := ob_e h
  refine TA_seg (lo := 10) (hi := 13) htb rfl rfl (by kernel_rfl) (fun c L a w => Sat c ⟨[(1, some (vB up)), (4, some (vU64 feats)), (7, some (.pointer (some ⟨b2, 0, none⟩))), (8, some (.pointer (some ⟨b3, 0, none⟩))), (11, some (v1)), (32, some (vB (mac1 != mac))), (33, bif L 10 then some (v1) else none), (34, bif L 11 then some (vB up1) else none), (35, bif L 12 then some (vB up) else none)], [(some (cellsR b2 26 [vU8 f.Dst.a0, vU8 f.Dst.a1, vU8 f.Dst.a2, vU8 f.Dst.a3, vU8 f.Dst.a4, vU8 f.Dst.a5, vU8 f.Src.a0, vU8 f.Src.a1, vU8 f.Src.a2, vU8 f.Src.a3, vU8 f.Src.a4, vU8 f.Src.a5, vI f.Vlan, vU16 f.Type_, vf1]) : Option Res), (some (cellsR b3 50 [vU8 hp3.Flags, vU16 hp3.Start, vU16 hp3.Off, vU16 hp3.Buffers]) : Option Res), (some (rowS u8S v1 config1) : Option Res)], [Fact.sl u8S vf1 f.Data]⟩ a w) [([], [11]), ([10], []), ([], [])] rfl (by kernel_rfl) ?_ (steps_cons ?_ (steps_cons ?_ (steps_cons ?_ (steps_nil)))) ?_
  ·intro a w hs
   exact hs.startF [33, 34, 35] [0, 1, 2] [0] rfl rfl rfl rfl
  ·intro L a w hv K Q hK
   have hs := hv
   refine wpOp_yes rfl rfl rfl hs (congrArg (fun b => some (Value.bool b)) hg3) (OpT_move rfl rfl rfl rfl) ?_
   rintro _ rfl a' w' hs'
   exact hK a' w' (hs'.putF (i := 6) rfl [0, 1, 2] [0] rfl rfl rfl rfl)
  ·intro L a w hv K Q hK
   have hs := hv
   refine wpOp_yes rfl rfl rfl hs (congrArg (fun b => some (Value.bool b)) hg3) (OpT_callB [2] [0, 1, 2] (w_net_Up hx4) [] rfl rfl rfl rfl rfl callee25 rfl rfl rfl rfl rfl rfl (bor_cons (bor_row 2 rfl rfl) bor_nil) (by rintro _ _ _ ⟨rfl, rfl, rfl⟩; exact ⟨rfl, ri_nil⟩)) ?_
   rintro _ ⟨_, _, _, ⟨rfl, rfl, rfl⟩, rfl⟩ a' w' hs'
   exact hK a' w' (hs'.putF (i := 7) rfl [0, 1, 2] [0] rfl rfl rfl rfl)
  ·intro L a w hv K Q hK
   have hs := hv
   refine wpOp_yes rfl rfl rfl hs (congrArg (fun b => some (Value.bool b)) hg3) (OpT_move rfl rfl rfl rfl) ?_
   rintro _ rfl a' w' hs'
   exact hK a' w' (hs'.putF (i := 8) rfl [0, 1, 2] [0] rfl rfl rfl rfl)
  ·intro L a w hL hv
   rw [allTrue hL] at hv
   have hs := hv
   refine (show TA _ _ _ 13 ⟨[(4, some (vU64 feats)), (7, some (.pointer (some ⟨b2, 0, none⟩))), (8, some (.pointer (some ⟨b3, 0, none⟩))), (11, some (v1)), (32, some (vB (mac1 != mac))), (34, some (vB up1)), (35, some (vB up))], [some (cellsR b2 26 [vU8 f.Dst.a0, vU8 f.Dst.a1, vU8 f.Dst.a2, vU8 f.Dst.a3, vU8 f.Dst.a4, vU8 f.Dst.a5, vU8 f.Src.a0, vU8 f.Src.a1, vU8 f.Src.a2, vU8 f.Src.a3, vU8 f.Src.a4, vU8 f.Src.a5, vI f.Vlan, vU16 f.Type_, vf1]), some (cellsR b3 50 [vU8 hp3.Flags, vU16 hp3.Start, vU16 hp3.Off, vU16 hp3.Buffers]), some (rowS u8S v1 config1)], [Fact.sl u8S vf1 f.Data]⟩ from ?_) a w (hs.wkS [4, 7, 8, 11, 32, 34, 35] [0, 1, 2] [0] rfl rfl rfl rfl)
   clear hs hL
   refine TA_yes htb (by kernel_rfl) rfl rfl rfl (congrArg (fun b => some (Value.bool b)) hg3) (OpT_bin rfl rfl rfl rfl rfl (bin_neq_b (a := up1) (b := up) Try.underlying4)) ?_
   rintro _ rfl
   refine TA_step htb (by kernel_rfl) rfl rfl (OpT_pickF rfl rfl rfl (congrArg (fun b => some (Value.bool b)) hg3) rfl) ?_
   refine TA_step htb (by kernel_rfl) rfl rfl (OpT_move rfl rfl rfl rfl) ?_
   obtain ⟨hg4, h⟩ := chk_e h
   replace hg4 := not_t hg4
   refine TA_yes htb (by kernel_rfl) rfl rfl rfl (congrArg (fun b => some (Value.bool b)) hg4) (OpT_move rfl rfl rfl rfl) ?_
   rintro _ rfl
   obtain ⟨hc1, h⟩ := chk_e h
   refine TA_yes htb (by kernel_rfl) rfl rfl rfl (congrArg (fun b => some (Value.bool b)) hg4) (OpT_subH (S := u8S) (m := (7 : Int)) rfl rfl rfl rfl rfl slF24 (i := 2) rfl hc1) ?_
   rintro _ rfl
   obtain ⟨up2, hx5, h⟩ := ob_e h
   refine TA_yes htb (by kernel_rfl) rfl rfl rfl (congrArg (fun b => some (Value.bool b)) hg4) (OpT_callB [2] [0, 1, 2] (w_net_Up hx5) [] rfl rfl rfl rfl rfl callee25 rfl rfl rfl rfl rfl rfl (bor_cons (bor_sub (S := u8S) (l := (0 : Int)) (m := (7 : Int)) 2 rfl rfl hc1) bor_nil) (by rintro _ _ _ ⟨rfl, rfl, rfl⟩; exact ⟨rfl, ri_nil⟩)) ?_
   rintro _ ⟨_, _, _, ⟨rfl, rfl, rfl⟩, rfl⟩
   refine TA_step htb (by kernel_rfl) rfl rfl (OpT_pickF rfl rfl rfl (congrArg (fun b => some (Value.bool b)) hg4) rfl) ?_
   refine TA_wkS (fr' := [(4, some (vU64 feats)), (7, some (.pointer (some ⟨b2, 0, none⟩))), (8, some (.pointer (some ⟨b3, 0, none⟩))), (11, some (v1)), (42, some (vB up2))]) (own' := [some (cellsR b2 26 [vU8 f.Dst.a0, vU8 f.Dst.a1, vU8 f.Dst.a2, vU8 f.Dst.a3, vU8 f.Dst.a4, vU8 f.Dst.a5, vU8 f.Src.a0, vU8 f.Src.a1, vU8 f.Src.a2, vU8 f.Src.a3, vU8 f.Src.a4, vU8 f.Src.a5, vI f.Vlan, vU16 f.Type_, vf1]), some (cellsR b3 50 [vU8 hp3.Flags, vU16 hp3.Start, vU16 hp3.Off, vU16 hp3.Buffers]), some (rowS u8S v1 config1)]) (shr' := [Fact.sl u8S vf1 f.Data]) [4, 7, 8, 11, 42] [0, 1, 2] [0] rfl rfl rfl rfl ?_
   refine TA_step htb (by kernel_rfl) rfl rfl (OpT_move rfl rfl rfl rfl) ?_
   refine TA_wkS (fr' := [(4, some (vU64 feats)), (7, some (.pointer (some ⟨b2, 0, none⟩))), (8, some (.pointer (some ⟨b3, 0, none⟩))), (11, some (v1)), (43, some (vB up2))]) (own' := [some (cellsR b2 26 [vU8 f.Dst.a0, vU8 f.Dst.a1, vU8 f.Dst.a2, vU8 f.Dst.a3, vU8 f.Dst.a4, vU8 f.Dst.a5, vU8 f.Src.a0, vU8 f.Src.a1, vU8 f.Src.a2, vU8 f.Src.a3, vU8 f.Src.a4, vU8 f.Src.a5, vI f.Vlan, vU16 f.Type_, vf1]), some (cellsR b3 50 [vU8 hp3.Flags, vU16 hp3.Start, vU16 hp3.Off, vU16 hp3.Buffers]), some (rowS u8S v1 config1)]) (shr' := [Fact.sl u8S vf1 f.Data]) [4, 7, 8, 11, 43] [0, 1, 2] [0] rfl rfl rfl rfl ?_
   obtain ⟨hg5, h⟩ := chk_e h
   replace hg5 := not_t hg5
   obtain ⟨hc2, h⟩ := chk_e h
   obtain ⟨mac2, hx6, h⟩ := ob_e h
   refine TA_seg (lo := 21) (hi := 25) htb rfl rfl (by kernel_rfl) (fun c L a w => Sat c ⟨[(4, some (vU64 feats)), (7, some (.pointer (some ⟨b2, 0, none⟩))), (8, some (.pointer (some ⟨b3, 0, none⟩))), (11, some (v1)), (43, some (vB up2)), (44, bif L 21 then some (v1) else none), (45, bif L 22 then some (subV v1 1 (Int.toNat (0 : Int)) (Int.toNat (7 : Int))) else none), (46, bif L 23 then some (.agg #[vU8 mac2.a0, vU8 mac2.a1, vU8 mac2.a2, vU8 mac2.a3, vU8 mac2.a4, vU8 mac2.a5]) else none), (47, bif L 24 then some (.agg #[vU8 (0 : UInt8), vU8 (0 : UInt8), vU8 (0 : UInt8), vU8 (0 : UInt8), vU8 (0 : UInt8), vU8 (0 : UInt8)]) else none)], [(some (cellsR b2 26 [vU8 f.Dst.a0, vU8 f.Dst.a1, vU8 f.Dst.a2, vU8 f.Dst.a3, vU8 f.Dst.a4, vU8 f.Dst.a5, vU8 f.Src.a0, vU8 f.Src.a1, vU8 f.Src.a2, vU8 f.Src.a3, vU8 f.Src.a4, vU8 f.Src.a5, vI f.Vlan, vU16 f.Type_, vf1]) : Option Res), (some (cellsR b3 50 [vU8 hp3.Flags, vU16 hp3.Start, vU16 hp3.Off, vU16 hp3.Buffers]) : Option Res), (some (rowS u8S v1 config1) : Option Res)], [Fact.sl u8S vf1 f.Data]⟩ a w) [([], [22, 23]), ([21], [23]), ([21, 22], []), ([], [])] rfl (by kernel_rfl) ?_ (steps_cons ?_ (steps_cons ?_ (steps_cons ?_ (steps_cons ?_ (steps_nil))))) ?_
   ·intro a w hs
    exact hs.startF [44, 45, 46, 47] [0, 1, 2] [0] rfl rfl rfl rfl
   ·intro L a w hv K Q hK
    have hs := hv
    refine wpOp_yes rfl rfl rfl hs (congrArg (fun b => some (Value.bool b)) hg5) (OpT_move rfl rfl rfl rfl) ?_
    rintro _ rfl a' w' hs'
    exact hK a' w' (hs'.putF (i := 5) rfl [0, 1, 2] [0] rfl rfl rfl rfl)
   ·intro L a w hv K Q hK
    have hs := hv
    refine wpOp_yes rfl rfl rfl hs (congrArg (fun b => some (Value.bool b)) hg5) (OpT_subH (S := u8S) (m := (7 : Int)) rfl rfl rfl rfl rfl slF24 (i := 2) rfl hc2) ?_
    rintro _ rfl a' w' hs'
    exact hK a' w' (hs'.putF (i := 6) rfl [0, 1, 2] [0] rfl rfl rfl rfl)
   ·intro L a w hv K Q hK
    have hs := hv
    refine wpOp_yes rfl rfl rfl hs (congrArg (fun b => some (Value.bool b)) hg5) (OpT_callB [2] [0, 1, 2] (w_net_Mac hx6) [] rfl rfl rfl rfl rfl callee24 rfl rfl rfl rfl rfl rfl (bor_cons (bor_sub (S := u8S) (l := (0 : Int)) (m := (7 : Int)) 2 rfl rfl hc2) bor_nil) (by rintro _ _ _ ⟨rfl, rfl, rfl⟩; exact ⟨rfl, ri_nil⟩)) ?_
    rintro _ ⟨_, _, _, ⟨rfl, rfl, rfl⟩, rfl⟩ a' w' hs'
    exact hK a' w' (hs'.putF (i := 7) rfl [0, 1, 2] [0] rfl rfl rfl rfl)
   ·intro L a w hv K Q hK
    have hs := hv
    refine wpOp_yes rfl rfl rfl hs (congrArg (fun b => some (Value.bool b)) hg5) (OpT_build (v := .agg #[vU8 (0 : UInt8), vU8 (0 : UInt8), vU8 (0 : UInt8), vU8 (0 : UInt8), vU8 (0 : UInt8), vU8 (0 : UInt8)]) rfl rfl rfl rfl (bldV (by kernel_rfl))) ?_
    rintro _ rfl a' w' hs'
    exact hK a' w' (hs'.putF (i := 8) rfl [0, 1, 2] [0] rfl rfl rfl rfl)
   ·intro L a w hL hv
    rw [allTrue hL] at hv
    have hs := hv
    refine (show TA _ _ _ 25 ⟨[(4, some (vU64 feats)), (7, some (.pointer (some ⟨b2, 0, none⟩))), (8, some (.pointer (some ⟨b3, 0, none⟩))), (43, some (vB up2)), (46, some (.agg #[vU8 mac2.a0, vU8 mac2.a1, vU8 mac2.a2, vU8 mac2.a3, vU8 mac2.a4, vU8 mac2.a5])), (47, some (.agg #[vU8 (0 : UInt8), vU8 (0 : UInt8), vU8 (0 : UInt8), vU8 (0 : UInt8), vU8 (0 : UInt8), vU8 (0 : UInt8)]))], [some (cellsR b2 26 [vU8 f.Dst.a0, vU8 f.Dst.a1, vU8 f.Dst.a2, vU8 f.Dst.a3, vU8 f.Dst.a4, vU8 f.Dst.a5, vU8 f.Src.a0, vU8 f.Src.a1, vU8 f.Src.a2, vU8 f.Src.a3, vU8 f.Src.a4, vU8 f.Src.a5, vI f.Vlan, vU16 f.Type_, vf1]), some (cellsR b3 50 [vU8 hp3.Flags, vU16 hp3.Start, vU16 hp3.Off, vU16 hp3.Buffers])], [Fact.sl u8S vf1 f.Data]⟩ from ?_) a w (hs.wkS [4, 7, 8, 43, 46, 47] [0, 1] [0] rfl rfl rfl rfl)
    clear hs hL
    refine TA_yes htb (by kernel_rfl) rfl rfl rfl (congrArg (fun b => some (Value.bool b)) hg5) (OpT_bin rfl rfl rfl rfl rfl (eqT22_neq mac2 (A6.mk (0 : UInt8) (0 : UInt8) (0 : UInt8) (0 : UInt8) (0 : UInt8) (0 : UInt8)))) ?_
    rintro _ rfl
    refine TA_step htb (by kernel_rfl) rfl rfl (OpT_pickF rfl rfl rfl (congrArg (fun b => some (Value.bool b)) hg5) rfl) ?_
    refine TA_end rfl ?_
    refine Tk_wkS (fr' := [(4, some (vU64 feats)), (7, some (.pointer (some ⟨b2, 0, none⟩))), (8, some (.pointer (some ⟨b3, 0, none⟩))), (49, some (vB (mac2 != (A6.mk (0 : UInt8) (0 : UInt8) (0 : UInt8) (0 : UInt8) (0 : UInt8) (0 : UInt8)))))]) (own' := [some (cellsR b2 26 [vU8 f.Dst.a0, vU8 f.Dst.a1, vU8 f.Dst.a2, vU8 f.Dst.a3, vU8 f.Dst.a4, vU8 f.Dst.a5, vU8 f.Src.a0, vU8 f.Src.a1, vU8 f.Src.a2, vU8 f.Src.a3, vU8 f.Src.a4, vU8 f.Src.a5, vI f.Vlan, vU16 f.Type_, vf1]), some (cellsR b3 50 [vU8 hp3.Flags, vU16 hp3.Start, vU16 hp3.Off, vU16 hp3.Buffers])]) (shr' := [Fact.sl u8S vf1 f.Data]) [4, 7, 8, 49] [0, 1] [0] rfl rfl rfl rfl ?_
    obtain ⟨hg6, h⟩ := chk_e h
    replace hg6 := not_t hg6
    refine Tk_condF (congrArg (fun b => some (Value.bool b)) hg6) ?_
    refine Tk_skip (Tk_seq (Tk_seq (Tk_region (Tops_step rfl (OpT_loadCA (vs := [vU8 f.Dst.a0, vU8 f.Dst.a1, vU8 f.Dst.a2, vU8 f.Dst.a3, vU8 f.Dst.a4, vU8 f.Dst.a5, vU8 f.Src.a0, vU8 f.Src.a1, vU8 f.Src.a2, vU8 f.Src.a3, vU8 f.Src.a4, vU8 f.Src.a5, vI f.Vlan, vU16 f.Type_, vf1]) rfl rfl rfl rfl tyF26 (i := 0) rfl rfl rfl) ?_))))
    obtain ⟨check1, hx7, h⟩ := ob_e h
    refine Tops_exP rfl (OpT_call (w_ref_Check23 hx7) [] [0] rfl rfl rfl rfl rfl callee8 rfl rfl rfl rfl) ?_
    rintro _ ⟨_, _, _, ⟨rfl, rfl, rfl⟩, rfl⟩
    refine Tops_step rfl (OpT_bin rfl rfl rfl rfl rfl (bin_neq_i (a := check1) (b := (0 : Int)))) ?_
    refine Tops_nil (Tk_wkS (fr' := [(4, some (vU64 feats)), (7, some (.pointer (some ⟨b2, 0, none⟩))), (8, some (.pointer (some ⟨b3, 0, none⟩))), (52, some (vB (check1 != (0 : Int))))]) (own' := [some (cellsR b2 26 [vU8 f.Dst.a0, vU8 f.Dst.a1, vU8 f.Dst.a2, vU8 f.Dst.a3, vU8 f.Dst.a4, vU8 f.Dst.a5, vU8 f.Src.a0, vU8 f.Src.a1, vU8 f.Src.a2, vU8 f.Src.a3, vU8 f.Src.a4, vU8 f.Src.a5, vI f.Vlan, vU16 f.Type_, vf1]), some (cellsR b3 50 [vU8 hp3.Flags, vU16 hp3.Start, vU16 hp3.Off, vU16 hp3.Buffers])]) (shr' := [Fact.sl u8S vf1 f.Data]) [4, 7, 8, 52] [0, 1] [0] rfl rfl rfl rfl ?_)
    rcases Bool.eq_false_or_eq_true (check1 != (0 : Int)) with hg7 | hg7
    ·replace h := br_t hg7 h
     refine Tk_condT (congrArg (fun b => some (Value.bool b)) hg7) ?_
     refine Tk_seq (Tk_region (Tops_step rfl (OpT_assign rfl rfl rfl rfl) ?_))
     refine Tops_nil (Tk_wkS (fr' := [(10, some (vB true))]) (own' := []) (shr' := []) [10] [] [] rfl rfl rfl rfl ?_)
     exact Tk_retV rfl rfl (resA (vs := [.bool true]) rfl ⟨rfl, trivial⟩) [] [] rfl rfl rfl ⟨rfl, rfl, rfl⟩
    ·replace h := br_f hg7 h
     refine Tk_condF (congrArg (fun b => some (Value.bool b)) hg7) ?_
     refine Tk_skip (Tk_seq (Tk_region (Tops_step rfl (OpT_fieldC rfl rfl rfl rfl fldF50x0) ?_)))
     refine Tops_step rfl (OpT_loadC rfl rfl rfl rfl tyF5 (i := 1) rfl rfl) ?_
     refine Tops_step rfl (OpT_bin rfl rfl rfl rfl rfl (bin_andNot_u8 (a := hp3.Flags) (b := (1 : UInt8)))) ?_
     refine Tops_step rfl (OpT_fieldC rfl rfl rfl rfl fldF50x0) ?_
     refine Tops_step rfl (OpT_storeC (cs' := [vU8 (hp3.Flags &&& ~~~(1 : UInt8)), vU16 hp3.Start, vU16 hp3.Off, vU16 hp3.Buffers]) rfl rfl rfl rfl tyF5 (i := 1) rfl rfl rfl (one_of rfl) rfl) ?_
     refine Tops_nil (Tk_wkS (fr' := [(4, some (vU64 feats)), (7, some (.pointer (some ⟨b2, 0, none⟩))), (8, some (.pointer (some ⟨b3, 0, none⟩)))]) (own' := [some (cellsR b2 26 [vU8 f.Dst.a0, vU8 f.Dst.a1, vU8 f.Dst.a2, vU8 f.Dst.a3, vU8 f.Dst.a4, vU8 f.Dst.a5, vU8 f.Src.a0, vU8 f.Src.a1, vU8 f.Src.a2, vU8 f.Src.a3, vU8 f.Src.a4, vU8 f.Src.a5, vI f.Vlan, vU16 f.Type_, vf1]), some (cellsR b3 50 [vU8 (hp3.Flags &&& ~~~(1 : UInt8)), vU16 hp3.Start, vU16 hp3.Off, vU16 hp3.Buffers])]) (shr' := [Fact.sl u8S vf1 f.Data]) [4, 7, 8] [0, 1] [0] rfl rfl rfl rfl ?_)
     refine Tk_seq (Tk_region (Tops_step rfl (OpT_loadCA (vs := [vU8 f.Dst.a0, vU8 f.Dst.a1, vU8 f.Dst.a2, vU8 f.Dst.a3, vU8 f.Dst.a4, vU8 f.Dst.a5, vU8 f.Src.a0, vU8 f.Src.a1, vU8 f.Src.a2, vU8 f.Src.a3, vU8 f.Src.a4, vU8 f.Src.a5, vI f.Vlan, vU16 f.Type_, vf1]) rfl rfl rfl rfl tyF26 (i := 0) rfl rfl rfl) ?_))
     obtain ⟨bytes1, hx8, h⟩ := ob_e h
     refine Tops_exP rfl (OpT_call (w_ref_Bytes23 hx8) [] [0] rfl rfl rfl rfl rfl callee14 rfl rfl rfl rfl) ?_
     rintro _ ⟨_, _, _, ⟨v2, rfl, rfl, rfl⟩, rfl⟩
     refine Tops_step rfl (OpT_move rfl rfl rfl rfl) ?_
     refine Tops_step rfl (OpT_extract rfl rfl rfl rfl rfl) ?_
     refine Tops_step rfl (OpT_extract rfl rfl rfl rfl rfl) ?_
     refine Tops_step rfl (OpT_assign rfl rfl rfl rfl) ?_
     refine Tops_step rfl (OpT_assign rfl rfl rfl rfl) ?_
     refine Tops_nil (Tk_wkS (fr' := [(4, some (vU64 feats)), (7, some (.pointer (some ⟨b2, 0, none⟩))), (8, some (.pointer (some ⟨b3, 0, none⟩))), (12, some (v2))]) (own' := [some (cellsR b2 26 [vU8 f.Dst.a0, vU8 f.Dst.a1, vU8 f.Dst.a2, vU8 f.Dst.a3, vU8 f.Dst.a4, vU8 f.Dst.a5, vU8 f.Src.a0, vU8 f.Src.a1, vU8 f.Src.a2, vU8 f.Src.a3, vU8 f.Src.a4, vU8 f.Src.a5, vI f.Vlan, vU16 f.Type_, vf1]), some (cellsR b3 50 [vU8 (hp3.Flags &&& ~~~(1 : UInt8)), vU16 hp3.Start, vU16 hp3.Off, vU16 hp3.Buffers]), some (rowS u8S v2 bytes1.1)]) (shr' := [Fact.sl u8S vf1 f.Data]) [4, 7, 8, 12] [0, 1, 2] [0] rfl rfl rfl rfl ?_)
     refine Tk_seq (Tk_region (Tops_step rfl (OpT_loadCA (vs := [vU8 (hp3.Flags &&& ~~~(1 : UInt8)), vU16 hp3.Start, vU16 hp3.Off, vU16 hp3.Buffers]) rfl rfl rfl rfl tyF50 (i := 1) rfl rfl rfl) ?_))
     obtain ⟨hdrof1, hx9, h⟩ := ob_e h
     refine Tops_exP rfl (OpT_call (w_ref_HdrOf23 hx9) [] [] rfl rfl rfl rfl rfl callee19 rfl rfl rfl rfl) ?_
     rintro _ ⟨v3, _, _, ⟨_, rfl, rfl, rfl⟩, rfl⟩
     refine Tops_step rfl (OpT_move rfl rfl rfl rfl) ?_
     obtain ⟨hc3, h⟩ := chk_e h
     refine Tops_ex rfl (OpT_appendB (S := u8S) rfl rfl rfl rfl rfl rfl slF24 (i := 3) (j := 2) rfl rfl hc3) fun v4 => ?_
     refine Tops_step rfl (OpT_assign rfl rfl rfl rfl) ?_
     refine Tops_nil (Tk_wkS (fr' := [(4, some (vU64 feats)), (7, some (.pointer (some ⟨b2, 0, none⟩))), (14, some (v4))]) (own' := [some (cellsR b2 26 [vU8 f.Dst.a0, vU8 f.Dst.a1, vU8 f.Dst.a2, vU8 f.Dst.a3, vU8 f.Dst.a4, vU8 f.Dst.a5, vU8 f.Src.a0, vU8 f.Src.a1, vU8 f.Src.a2, vU8 f.Src.a3, vU8 f.Src.a4, vU8 f.Src.a5, vI f.Vlan, vU16 f.Type_, vf1]), some (rowS u8S v4 (hdrof1 ++ bytes1.1))]) (shr' := [Fact.sl u8S vf1 f.Data]) [4, 7, 14] [0, 3] [0] rfl rfl rfl rfl ?_)
     refine Tk_seq (Tk_region ?_)
     obtain ⟨memory1, hx10, h⟩ := ob_e h
     refine Tops_exP rfl (OpT_call (w_law25zmemory hx10) [] [] rfl rfl rfl rfl rfl callee12 rfl rfl rfl rfl) ?_
     rintro _ ⟨v5, _, _, ⟨_, rfl, rfl, rfl⟩, rfl⟩
     refine Tops_retire (i := 2) rfl ?_
     obtain ⟨new1, hx11, h⟩ := ob_e h
     refine Tops_exP rfl (OpT_call (w_gmem_New hx11) [] [1] rfl rfl rfl rfl rfl callee11 rfl rfl rfl rfl) ?_
     rintro _ ⟨_, _, _, ⟨v6, rfl, rfl, rfl⟩, rfl⟩
     refine Tops_step rfl (OpT_move rfl rfl rfl rfl) ?_
     refine Tops_step rfl (OpT_extract rfl rfl rfl rfl rfl) ?_
     refine Tops_step rfl (OpT_extract rfl rfl rfl rfl rfl) ?_
     refine Tops_step rfl (OpT_assign rfl rfl rfl rfl) ?_
     refine Tops_step rfl (OpT_assign rfl rfl rfl rfl) ?_
     refine Tops_nil (Tk_wkS (fr' := [(4, some (vU64 feats)), (7, some (.pointer (some ⟨b2, 0, none⟩))), (14, some (v4)), (15, some (v6)), (16, some (vI new1.2))]) (own' := [some (cellsR b2 26 [vU8 f.Dst.a0, vU8 f.Dst.a1, vU8 f.Dst.a2, vU8 f.Dst.a3, vU8 f.Dst.a4, vU8 f.Dst.a5, vU8 f.Src.a0, vU8 f.Src.a1, vU8 f.Src.a2, vU8 f.Src.a3, vU8 f.Src.a4, vU8 f.Src.a5, vI f.Vlan, vU16 f.Type_, vf1]), some (rowS u8S v4 (hdrof1 ++ bytes1.1)), some (optR 78 RegionS u8S true gmem_Mem.l gmem_Mem.b v6 new1.1)]) (shr' := [Fact.sl u8S vf1 f.Data]) [4, 7, 14, 15, 16] [0, 1, 3] [0] rfl rfl rfl rfl ?_)
     rcases onO_cases h with ⟨ho1, h⟩ | ⟨mem1, ho1, h⟩
     ·cases h
     ·refine Tk_optS (i := 2) rfl ho1 ?_
      rintro b4 v7 v8 vs1 rfl
      refine Tk_seq (Tk_seq (Tk_region (Tops_step rfl (OpT_move rfl rfl rfl rfl) ?_)))
      refine Tops_step rfl (OpT_bin rfl rfl rfl rfl rfl (bin_neq_i (a := new1.2) (b := (0 : Int)))) ?_
      refine Tops_step rfl (OpT_move rfl rfl rfl rfl) ?_
      obtain ⟨hg8, h⟩ := chk_e h
      replace hg8 := not_t hg8
      refine Tops_yes rfl rfl (congrArg (fun b => some (Value.bool b)) hg8) (OpT_move rfl rfl rfl rfl) ?_
      rintro _ rfl
      refine Tops_yes rfl rfl (congrArg (fun b => some (Value.bool b)) hg8) (OpT_move rfl rfl rfl rfl) ?_
      rintro _ rfl
      obtain ⟨write1, hx12, h⟩ := ob_e h
      refine Tops_yes rfl rfl (congrArg (fun b => some (Value.bool b)) hg8) (OpT_callB [1] [0, 1, 4, 5] (w_gmem_Mem_Write hx12) [2, 3] rfl rfl rfl rfl rfl callee13 rfl rfl rfl rfl rfl rfl (bor_cons (bor_shr 1 rfl) (bor_cons (bor_row 1 rfl rfl) bor_nil)) (by rintro _ _ _ ⟨rfl, rfl, rfl⟩; exact ⟨rfl, (ri_cons (ri_cells _ _ _) (ri_cons (ri_rows rfl _ _ _ _ _) ri_nil))⟩)) ?_
      rintro _ ⟨_, _, _, ⟨rfl, rfl, rfl⟩, rfl⟩
      refine Tops_yes rfl rfl (congrArg (fun b => some (Value.bool b)) hg8) (OpT_bin rfl rfl rfl rfl rfl (bin_neq_i (a := write1.1) (b := (0 : Int)))) ?_
      rintro _ rfl
      refine Tops_step rfl (OpT_pickF rfl rfl rfl (congrArg (fun b => some (Value.bool b)) hg8) rfl) ?_
      refine Tops_nil (Tk_wkS (fr' := [(4, some (vU64 feats)), (7, some (.pointer (some ⟨b2, 0, none⟩))), (14, some (v4)), (15, some (.pointer (some ⟨b4, 0, none⟩))), (78, some (vB (write1.1 != (0 : Int))))]) (own' := [some (cellsR b2 26 [vU8 f.Dst.a0, vU8 f.Dst.a1, vU8 f.Dst.a2, vU8 f.Dst.a3, vU8 f.Dst.a4, vU8 f.Dst.a5, vU8 f.Src.a0, vU8 f.Src.a1, vU8 f.Src.a2, vU8 f.Src.a3, vU8 f.Src.a4, vU8 f.Src.a5, vI f.Vlan, vU16 f.Type_, vf1]), some (rowS u8S v4 (hdrof1 ++ bytes1.1)), some (cellsR b4 78 [v7, v8]), some (rowsX u8S true v8 vs1 write1.2 none)]) (shr' := [Fact.sl u8S vf1 f.Data, Fact.sl RegionS v7 mem1.l]) [4, 7, 14, 15, 78] [0, 1, 2, 3] [0, 1] rfl rfl rfl rfl ?_)
      obtain ⟨hg9, h⟩ := chk_e h
      replace hg9 := not_t hg9
      refine Tk_condF (congrArg (fun b => some (Value.bool b)) hg9) ?_
      refine Tk_skip (Tk_seq (Tk_region (Tops_step rfl (OpT_move rfl rfl rfl rfl) ?_)))
      refine Tops_step rfl (OpT_move rfl rfl rfl rfl) ?_
      refine Tops_step rfl (OpT_build (v := .agg #[vU64 (7 : UInt64), vU32 (5 : UInt32), vB false]) rfl rfl rfl rfl (bldV (by kernel_rfl))) ?_
      refine Tops_step rfl (OpT_move rfl rfl rfl rfl) ?_
      refine Tops_step rfl (OpT_lenO rfl rfl rfl rfl Try.underlying24 (i := 1) rfl) ?_
      refine Tops_step rfl (OpT_bin rfl rfl rfl rfl rfl (bin_sub_i (a := len (hdrof1 ++ bytes1.1)) (b := (5 : Int)))) ?_
      refine Tops_step rfl (OpT_cnv rfl rfl rfl rfl (cnv_i_u32 (n := wi ((len (hdrof1 ++ bytes1.1)) - (5 : Int))) Try.underlying3 Try.underlying48)) ?_
      refine Tops_step rfl (OpT_build (v := .agg #[vU64 (12 : UInt64), vU32 (u32 (wi ((len (hdrof1 ++ bytes1.1)) - (5 : Int)))), vB false]) rfl rfl rfl rfl (bldV (by kernel_rfl))) ?_
      refine Tops_step rfl (OpT_build (v := .agg #[vU64 (9000 : UInt64), vU32 (3 : UInt32), vB true]) rfl rfl rfl rfl (bldV (by kernel_rfl))) ?_
      refine Tops_ex rfl (OpT_buildSlice (S := SegS) (xs := [(Seg.mk (7 : UInt64) (5 : UInt32) false), (Seg.mk (12 : UInt64) (u32 (wi ((len (hdrof1 ++ bytes1.1)) - (5 : Int)))) false), (Seg.mk (9000 : UInt64) (3 : UInt32) true)]) (css := [[vU64 (7 : UInt64), vU32 (5 : UInt32), vB false], [vU64 (12 : UInt64), vU32 (u32 (wi ((len (hdrof1 ++ bytes1.1)) - (5 : Int)))), vB false], [vU64 (9000 : UInt64), vU32 (3 : UInt32), vB true]]) (cs := [vU64 (7 : UInt64), vU32 (5 : UInt32), vB false, vU64 (12 : UInt64), vU32 (u32 (wi ((len (hdrof1 ++ bytes1.1)) - (5 : Int)))), vB false, vU64 (9000 : UInt64), vU32 (3 : UInt32), vB true]) (e := 57) rfl rfl rfl rfl (bldF slF58 (by decide) (by kernel_rfl)) rfl rfl rfl rfl (rel_plainD (S := SegS) (xs := [(Seg.mk (7 : UInt64) (5 : UInt32) false), (Seg.mk (12 : UInt64) (u32 (wi ((len (hdrof1 ++ bytes1.1)) - (5 : Int)))) false), (Seg.mk (9000 : UInt64) (3 : UInt32) true)]) (css := [[vU64 (7 : UInt64), vU32 (5 : UInt32), vB false], [vU64 (12 : UInt64), vU32 (u32 (wi ((len (hdrof1 ++ bytes1.1)) - (5 : Int)))), vB false], [vU64 (9000 : UInt64), vU32 (3 : UInt32), vB true]]) rfl rfl)) fun v9 => ?_
      obtain ⟨sent1, hx13, h⟩ := ob_e h
      refine Tops_exP rfl (OpT_callB [4] [0, 1, 5, 6, 4, 7] (w_net_Sent hx13) [2, 3] rfl rfl rfl rfl rfl callee20 rfl rfl rfl rfl rfl rfl (bor_cons (bor_shr 1 rfl) (bor_cons (bor_row 4 rfl rfl) bor_nil)) (by rintro _ _ _ ⟨_, rfl, rfl, rfl⟩; exact ⟨rfl, (ri_cons (ri_cells _ _ _) (ri_cons (ri_rows rfl _ _ _ _ _) (ri_cons (ri_row (S := u8S) rfl _ _) ri_nil)))⟩)) ?_
      rintro _ ⟨_, _, _, ⟨v10, rfl, rfl, rfl⟩, rfl⟩
      refine Tops_step rfl (OpT_move rfl rfl rfl rfl) ?_
      refine Tops_step rfl (OpT_extract rfl rfl rfl rfl rfl) ?_
      refine Tops_step rfl (OpT_extract rfl rfl rfl rfl rfl) ?_
      refine Tops_ex rfl (OpT_alloc rfl rfl rfl tyZ26) fun b5 => ?_
      refine Tops_step rfl (OpT_storeA1 (fun z0 => [vU8 sent1.1.Dst.a0, vU8 sent1.1.Dst.a1, vU8 sent1.1.Dst.a2, vU8 sent1.1.Dst.a3, vU8 sent1.1.Dst.a4, vU8 sent1.1.Dst.a5, vU8 sent1.1.Src.a0, vU8 sent1.1.Src.a1, vU8 sent1.1.Src.a2, vU8 sent1.1.Src.a3, vU8 sent1.1.Src.a4, vU8 sent1.1.Src.a5, vI sent1.1.Vlan, vU16 sent1.1.Type_, z0]) (cs' := [vU8 sent1.1.Dst.a0, vU8 sent1.1.Dst.a1, vU8 sent1.1.Dst.a2, vU8 sent1.1.Dst.a3, vU8 sent1.1.Dst.a4, vU8 sent1.1.Dst.a5, vU8 sent1.1.Src.a0, vU8 sent1.1.Src.a1, vU8 sent1.1.Src.a2, vU8 sent1.1.Src.a3, vU8 sent1.1.Src.a4, vU8 sent1.1.Src.a5, vI sent1.1.Vlan, vU16 sent1.1.Type_, v10]) rfl rfl rfl rfl tyF26 (i := 6) rfl (is_row (i := 5) rfl) (fun _ _ _ => rfl) rfl rfl rfl) ?_
      refine Tops_step rfl (OpT_assign rfl rfl rfl rfl) ?_
      refine Tops_nil (Tk_wkS (fr' := [(7, some (.pointer (some ⟨b2, 0, none⟩))), (17, some (.pointer (some ⟨b5, 0, none⟩))), (16, some (vI sent1.2))]) (own' := [some (cellsR b2 26 [vU8 f.Dst.a0, vU8 f.Dst.a1, vU8 f.Dst.a2, vU8 f.Dst.a3, vU8 f.Dst.a4, vU8 f.Dst.a5, vU8 f.Src.a0, vU8 f.Src.a1, vU8 f.Src.a2, vU8 f.Src.a3, vU8 f.Src.a4, vU8 f.Src.a5, vI f.Vlan, vU16 f.Type_, vf1]), some (rowS u8S v10 sent1.1.Data), some (cellsR b5 26 [vU8 sent1.1.Dst.a0, vU8 sent1.1.Dst.a1, vU8 sent1.1.Dst.a2, vU8 sent1.1.Dst.a3, vU8 sent1.1.Dst.a4, vU8 sent1.1.Dst.a5, vU8 sent1.1.Src.a0, vU8 sent1.1.Src.a1, vU8 sent1.1.Src.a2, vU8 sent1.1.Src.a3, vU8 sent1.1.Src.a4, vU8 sent1.1.Src.a5, vI sent1.1.Vlan, vU16 sent1.1.Type_, v10])]) (shr' := [Fact.sl u8S vf1 f.Data]) [7, 17, 16] [0, 5, 6] [0] rfl rfl rfl rfl ?_)
      refine Tk_seq (Tk_region (Tops_step rfl (OpT_move rfl rfl rfl rfl) ?_))
      refine Tops_step rfl (OpT_bin rfl rfl rfl rfl rfl (bin_eql_i (a := sent1.2) (b := (0 : Int)))) ?_
      refine Tops_step rfl (OpT_move rfl rfl rfl rfl) ?_
      obtain ⟨hg10, h⟩ := chk_e h
      refine Tops_yes rfl rfl (congrArg (fun b => some (Value.bool b)) hg10) (OpT_loadCA (vs := [vU8 sent1.1.Dst.a0, vU8 sent1.1.Dst.a1, vU8 sent1.1.Dst.a2, vU8 sent1.1.Dst.a3, vU8 sent1.1.Dst.a4, vU8 sent1.1.Dst.a5, vU8 sent1.1.Src.a0, vU8 sent1.1.Src.a1, vU8 sent1.1.Src.a2, vU8 sent1.1.Src.a3, vU8 sent1.1.Src.a4, vU8 sent1.1.Src.a5, vI sent1.1.Vlan, vU16 sent1.1.Type_, v10]) rfl rfl rfl rfl tyF26 (i := 2) rfl rfl rfl) ?_
      rintro _ rfl
      refine Tops_yes rfl rfl (congrArg (fun b => some (Value.bool b)) hg10) (OpT_loadCA (vs := [vU8 f.Dst.a0, vU8 f.Dst.a1, vU8 f.Dst.a2, vU8 f.Dst.a3, vU8 f.Dst.a4, vU8 f.Dst.a5, vU8 f.Src.a0, vU8 f.Src.a1, vU8 f.Src.a2, vU8 f.Src.a3, vU8 f.Src.a4, vU8 f.Src.a5, vI f.Vlan, vU16 f.Type_, vf1]) rfl rfl rfl rfl tyF26 (i := 0) rfl rfl rfl) ?_
      rintro _ rfl
      obtain ⟨frame1, hx14, h⟩ := ob_e h
      refine Tops_yes rfl rfl (congrArg (fun b => some (Value.bool b)) hg10) (OpT_callB [1] [0, 1, 2] (w_kit_Frame hx14) [] rfl rfl rfl rfl rfl callee21 rfl rfl rfl rfl rfl rfl (bor_cons (bor_row 1 rfl rfl) (bor_cons (bor_shr 0 rfl) bor_nil)) (by rintro _ _ _ ⟨rfl, rfl, rfl⟩; exact ⟨rfl, ri_nil⟩)) ?_
      rintro _ ⟨_, _, _, ⟨rfl, rfl, rfl⟩, rfl⟩
      refine Tops_step rfl (OpT_pickT rfl rfl rfl (congrArg (fun b => some (Value.bool b)) hg10) rfl) ?_
      refine Tops_step rfl (OpT_assign rfl rfl rfl rfl) ?_
      refine Tops_nil (Tk_wkS (fr' := [(10, some (vB frame1))]) (own' := []) (shr' := []) [10] [] [] rfl rfl rfl rfl ?_)
      obtain ⟨hg11, h⟩ := chk_e h
      exact Tk_retV rfl rfl (resA (vs := [.bool true]) rfl ⟨(congrArg (fun b => some (Value.bool b)) hg11), trivial⟩) [] [] rfl rfl rfl ⟨rfl, rfl, rfl⟩
end Go.Proofs.Ytdaijemhibbgeaa
