/- The law DescFields is walked: it returns what its plain words say. No condition. -/
import Derived.Test.YtamdpkddehhocaaWa1
namespace Go.Proofs.Ytamdpkddehhocaa

set_option maxRecDepth 100000 in
set_option maxHeartbeats 4000000 in
theorem w_law_DescFields {dp0 : Desc} {pp1 : Packed} {atp2 : Int} {byp3 : UInt8} {l : List Desc} {cut : Int} {vl1 : Value}  (h : law_DescFields dp0 pp1 atp2 byp3 l cut = some true) :
    Ctr Try.prog 4 #[.agg #[vU64 dp0.Addr, vU32 dp0.Len, vU16 dp0.Flags, vU16 dp0.Next], .agg #[vU64 pp1.Addr, vU32 pp1.Len, vU16 pp1.ID, vU16 pp1.Flags], vI atp2, vU8 byp3, vl1, vI cut] [] [Fact.sl DescS vl1 l]
      (fun rv own shr => rv = .bool true ∧ own = [] ∧ shr = []) := by
  unfold law_DescFields at h
  refine Ctr.mk (args := [.agg #[vU64 dp0.Addr, vU32 dp0.Len, vU16 dp0.Flags, vU16 dp0.Next], .agg #[vU64 pp1.Addr, vU32 pp1.Len, vU16 pp1.ID, vU16 pp1.Flags], vI atp2, vU8 byp3, vl1, vI cut]) Try.func4 rfl rfl (fun R0 w0 B => ?_)
  refine Tk_seq ?_
  refine Tk_region ?_
  refine Tops_ex rfl (OpT_box rfl rfl rfl rfl) fun b1 => ?_
  refine Tops_ex rfl (OpT_box rfl rfl rfl rfl) fun b2 => ?_
  refine Tops_step rfl (OpT_assign rfl rfl rfl rfl) ?_
  refine Tops_nil ?_
  refine Tk_wkS (fr' := [(2, some (vI atp2)), (3, some (vU8 byp3)), (4, some (vl1)), (5, some (vI cut)), (6, some (.pointer (some ⟨b1, 0, none⟩))), (7, some (.pointer (some ⟨b2, 0, none⟩)))]) (own' := [some (cellsR b1 29 [vU64 dp0.Addr, vU32 dp0.Len, vU16 dp0.Flags, vU16 dp0.Next]), some (cellsR b2 31 [vU64 pp1.Addr, vU32 pp1.Len, vU16 pp1.ID, vU16 pp1.Flags])]) (shr' := [Fact.sl DescS vl1 l]) [2, 3, 4, 5, 6, 7] [0, 1] [0] rfl rfl rfl rfl ?_
  refine Tk_seq ?_
  refine Tk_seq ?_
  refine Tk_region ?_
  obtain ⟨lives1, hx1, h⟩ := ob_e h
  refine Tops_exP rfl (OpT_call (w_law_lives hx1) [] [] rfl rfl rfl rfl rfl callee8 rfl rfl rfl rfl) ?_
  rintro _ ⟨_, _, _, ⟨rfl, rfl, rfl⟩, rfl⟩
  refine Tops_step rfl (OpT_not rfl rfl rfl rfl) ?_
  refine Tops_nil ?_
  refine Tk_wkS (fr' := [(2, some (vI atp2)), (3, some (vU8 byp3)), (4, some (vl1)), (5, some (vI cut)), (6, some (.pointer (some ⟨b1, 0, none⟩))), (7, some (.pointer (some ⟨b2, 0, none⟩))), (24, some (vB (!lives1)))]) (own' := [some (cellsR b1 29 [vU64 dp0.Addr, vU32 dp0.Len, vU16 dp0.Flags, vU16 dp0.Next]), some (cellsR b2 31 [vU64 pp1.Addr, vU32 pp1.Len, vU16 pp1.ID, vU16 pp1.Flags])]) (shr' := [Fact.sl DescS vl1 l]) [2, 3, 4, 5, 6, 7, 24] [0, 1] [0] rfl rfl rfl rfl ?_
  obtain ⟨hg1, h⟩ := chk_e h
  replace hg1 := not_t hg1
  refine Tk_condF (congrArg (fun b => some (Value.bool b)) hg1) ?_
  refine Tk_skip ?_
  refine Tk_seq ?_
  refine Tk_seq ?_
  refine Tk_region ?_
  refine Tops_step rfl (OpT_move rfl rfl rfl rfl) ?_
  refine Tops_step rfl (OpT_lenS rfl rfl rfl rfl Try.underlying32 (i := 0) rfl) ?_
  refine Tops_step rfl (OpT_bin rfl rfl rfl rfl rfl (bin_gtr_i (a := len l) (b := (300 : Int)))) ?_
  refine Tops_step rfl (OpT_move rfl rfl rfl rfl) ?_
  rcases Bool.eq_false_or_eq_true (decide ((len l) > (300 : Int))) with hg2 | hg2
  · replace h := br_t hg2 h
    refine Tops_no rfl rfl (congrArg (fun b => some (Value.bool b)) hg2) rfl rfl ?_
    refine Tops_no rfl rfl (congrArg (fun b => some (Value.bool b)) hg2) rfl rfl ?_
    refine Tops_step rfl (OpT_pickT rfl rfl rfl (congrArg (fun b => some (Value.bool b)) hg2) rfl) ?_
    refine Tops_nil ?_
    refine Tk_wkS (fr' := [(2, some (vI atp2)), (3, some (vU8 byp3)), (4, some (vl1)), (5, some (vI cut)), (6, some (.pointer (some ⟨b1, 0, none⟩))), (7, some (.pointer (some ⟨b2, 0, none⟩))), (31, some (vB true))]) (own' := [some (cellsR b1 29 [vU64 dp0.Addr, vU32 dp0.Len, vU16 dp0.Flags, vU16 dp0.Next]), some (cellsR b2 31 [vU64 pp1.Addr, vU32 pp1.Len, vU16 pp1.ID, vU16 pp1.Flags])]) (shr' := [Fact.sl DescS vl1 l]) [2, 3, 4, 5, 6, 7, 31] [0, 1] [0] rfl rfl rfl rfl ?_
    refine Tk_condT rfl ?_
    refine Tk_seq ?_
    refine Tk_region ?_
    refine Tops_step rfl (OpT_assign rfl rfl rfl rfl) ?_
    refine Tops_nil ?_
    refine Tk_wkS (fr' := [(12, some (vB true))]) (own' := []) (shr' := []) [12] [] [] rfl rfl rfl rfl ?_
    exact Tk_retV rfl (resA (vs := [.bool true]) rfl ⟨rfl, trivial⟩) [] [] rfl rfl rfl ⟨rfl, rfl, rfl⟩
  · replace h := br_f hg2 h
    refine Tops_yes rfl rfl (congrArg (fun b => some (Value.bool b)) hg2) (OpT_move rfl rfl rfl rfl) ?_
    rintro _ rfl
    refine Tops_yes rfl rfl (congrArg (fun b => some (Value.bool b)) hg2) (OpT_bin rfl rfl rfl rfl rfl (bin_eql_u8 (a := byp3) (b := (0 : UInt8)))) ?_
    rintro _ rfl
    refine Tops_step rfl (OpT_pickF rfl rfl rfl (congrArg (fun b => some (Value.bool b)) hg2) rfl) ?_
    refine Tops_nil ?_
    refine Tk_wkS (fr' := [(2, some (vI atp2)), (3, some (vU8 byp3)), (4, some (vl1)), (5, some (vI cut)), (6, some (.pointer (some ⟨b1, 0, none⟩))), (7, some (.pointer (some ⟨b2, 0, none⟩))), (31, some (vB (byp3 == (0 : UInt8))))]) (own' := [some (cellsR b1 29 [vU64 dp0.Addr, vU32 dp0.Len, vU16 dp0.Flags, vU16 dp0.Next]), some (cellsR b2 31 [vU64 pp1.Addr, vU32 pp1.Len, vU16 pp1.ID, vU16 pp1.Flags])]) (shr' := [Fact.sl DescS vl1 l]) [2, 3, 4, 5, 6, 7, 31] [0, 1] [0] rfl rfl rfl rfl ?_
    rcases Bool.eq_false_or_eq_true (byp3 == (0 : UInt8)) with hg3 | hg3
    · replace h := br_t hg3 h
      refine Tk_condT (congrArg (fun b => some (Value.bool b)) hg3) ?_
      refine Tk_seq ?_
      refine Tk_region ?_
      refine Tops_step rfl (OpT_assign rfl rfl rfl rfl) ?_
      refine Tops_nil ?_
      refine Tk_wkS (fr' := [(12, some (vB true))]) (own' := []) (shr' := []) [12] [] [] rfl rfl rfl rfl ?_
      exact Tk_retV rfl (resA (vs := [.bool true]) rfl ⟨rfl, trivial⟩) [] [] rfl rfl rfl ⟨rfl, rfl, rfl⟩
    · replace h := br_f hg3 h
      refine Tk_condF (congrArg (fun b => some (Value.bool b)) hg3) ?_
      refine Tk_skip ?_
      refine Tk_seq ?_
      refine Tk_region ?_
      refine Tops_step rfl (OpT_move rfl rfl rfl rfl) ?_
      obtain ⟨pick1, hx2, h⟩ := ob_e h
      refine Tops_exP rfl (OpT_call (w_kit_Pick hx2) [] [] rfl rfl rfl rfl rfl callee12 rfl rfl rfl rfl) ?_
      rintro _ ⟨_, _, _, ⟨rfl, rfl, rfl⟩, rfl⟩
      refine Tops_step rfl (OpT_assign rfl rfl rfl rfl) ?_
      refine Tops_nil ?_
      refine Tk_wkS (fr' := [(2, some (vI pick1)), (3, some (vU8 byp3)), (4, some (vl1)), (5, some (vI cut)), (6, some (.pointer (some ⟨b1, 0, none⟩))), (7, some (.pointer (some ⟨b2, 0, none⟩)))]) (own' := [some (cellsR b1 29 [vU64 dp0.Addr, vU32 dp0.Len, vU16 dp0.Flags, vU16 dp0.Next]), some (cellsR b2 31 [vU64 pp1.Addr, vU32 pp1.Len, vU16 pp1.ID, vU16 pp1.Flags])]) (shr' := [Fact.sl DescS vl1 l]) [2, 3, 4, 5, 6, 7] [0, 1] [0] rfl rfl rfl rfl ?_
      refine Tk_seq ?_
      refine Tk_drawT (by kernel_rfl) ?_
      refine TA_tb [0, 1, 0, 7, 15, 31] (by kernel_rfl) fun htb => ?_
      obtain ⟨bytes1, hx3, h⟩ := ob_e h
      refine TA_seg (lo := 0) (hi := 3) htb rfl rfl (by kernel_rfl) (fun c L a w => ∃ (v1 : Value), Sat c ⟨[(2, some (vI pick1)), (3, some (vU8 byp3)), (4, some (vl1)), (5, some (vI cut)), (6, some (.pointer (some ⟨b1, 0, none⟩))), (7, some (.pointer (some ⟨b2, 0, none⟩))), (34, bif L 0 then some (.agg #[vU64 dp0.Addr, vU32 dp0.Len, vU16 dp0.Flags, vU16 dp0.Next]) else none), (35, bif L 1 then some (v1) else none), (36, bif L 2 then some (.agg #[vU64 pp1.Addr, vU32 pp1.Len, vU16 pp1.ID, vU16 pp1.Flags]) else none)], [(some (cellsR b1 29 [vU64 dp0.Addr, vU32 dp0.Len, vU16 dp0.Flags, vU16 dp0.Next]) : Option Res), (some (cellsR b2 31 [vU64 pp1.Addr, vU32 pp1.Len, vU16 pp1.ID, vU16 pp1.Flags]) : Option Res), (bif L 1 then some (rowS u8S v1 bytes1) else none : Option Res)], [Fact.sl DescS vl1 l]⟩ a w) [([], [1]), ([0], []), ([], [])] rfl (by kernel_rfl) ?_ (steps_cons ?_ (steps_cons ?_ (steps_cons ?_ (steps_nil)))) ?_
      · intro a w hs
        exact ⟨undef, hs.startF [34, 35, 36] [0, 1, 2] [0] rfl rfl rfl rfl⟩
      · intro L a w hv K Q hK
        obtain ⟨v1, hs⟩ := hv
        refine wpOp_go rfl rfl hs (OpT_loadCA (vs := [vU64 dp0.Addr, vU32 dp0.Len, vU16 dp0.Flags, vU16 dp0.Next]) rfl rfl rfl rfl tyF29 (i := 0) rfl rfl rfl) ?_
        rintro _ rfl a' w' hs'
        exact hK a' w' ⟨v1, hs'.putF (i := 6) rfl [0, 1, 2] [0] rfl rfl rfl rfl⟩
      · intro L a w hv K Q hK
        obtain ⟨v1, hs⟩ := hv
        refine wpOp_go rfl rfl hs (OpT_call (w_desc_Bytes hx3) [] [] rfl rfl rfl rfl rfl callee13 rfl rfl rfl rfl) ?_
        rintro _ ⟨v1', _, _, ⟨_, rfl, rfl, rfl⟩, rfl⟩ a' w' hs'
        exact hK a' w' ⟨v1', hs'.putF (i := 7) rfl [0, 1, 3] [0] rfl rfl rfl rfl⟩
      · intro L a w hv K Q hK
        obtain ⟨v1, hs⟩ := hv
        refine wpOp_go rfl rfl hs (OpT_loadCA (vs := [vU64 pp1.Addr, vU32 pp1.Len, vU16 pp1.ID, vU16 pp1.Flags]) rfl rfl rfl rfl tyF31 (i := 1) rfl rfl rfl) ?_
        rintro _ rfl a' w' hs'
        exact hK a' w' ⟨v1, hs'.putF (i := 8) rfl [0, 1, 2] [0] rfl rfl rfl rfl⟩
      · intro L a w hL hv
        rw [allTrue hL] at hv
        obtain ⟨v1, hs⟩ := hv
        refine (show TA _ _ _ 3 ⟨[(2, some (vI pick1)), (3, some (vU8 byp3)), (4, some (vl1)), (5, some (vI cut)), (6, some (.pointer (some ⟨b1, 0, none⟩))), (7, some (.pointer (some ⟨b2, 0, none⟩))), (35, some (v1)), (36, some (.agg #[vU64 pp1.Addr, vU32 pp1.Len, vU16 pp1.ID, vU16 pp1.Flags]))], [some (cellsR b1 29 [vU64 dp0.Addr, vU32 dp0.Len, vU16 dp0.Flags, vU16 dp0.Next]), some (cellsR b2 31 [vU64 pp1.Addr, vU32 pp1.Len, vU16 pp1.ID, vU16 pp1.Flags]), some (rowS u8S v1 bytes1)], [Fact.sl DescS vl1 l]⟩ from ?_) a w (hs.wkS [2, 3, 4, 5, 6, 7, 35, 36] [0, 1, 2] [0] rfl rfl rfl rfl)
        clear hs hL
        obtain ⟨packed1, hx4, h⟩ := ob_e h
        refine TA_exP htb (by kernel_rfl) rfl rfl (OpT_call (w_desc_PackedBytes hx4) [] [] rfl rfl rfl rfl rfl callee14 rfl rfl rfl rfl) ?_
        rintro _ ⟨v2, _, _, ⟨_, rfl, rfl, rfl⟩, rfl⟩
        refine TA_step htb (by kernel_rfl) rfl rfl (OpT_assign rfl rfl rfl rfl) ?_
        refine TA_step htb (by kernel_rfl) rfl rfl (OpT_assign rfl rfl rfl rfl) ?_
        refine TA_end rfl ?_
        refine Tk_wkS (fr' := [(2, some (vI pick1)), (3, some (vU8 byp3)), (4, some (vl1)), (5, some (vI cut)), (6, some (.pointer (some ⟨b1, 0, none⟩))), (7, some (.pointer (some ⟨b2, 0, none⟩))), (13, some (v1)), (14, some (v2))]) (own' := [some (cellsR b1 29 [vU64 dp0.Addr, vU32 dp0.Len, vU16 dp0.Flags, vU16 dp0.Next]), some (cellsR b2 31 [vU64 pp1.Addr, vU32 pp1.Len, vU16 pp1.ID, vU16 pp1.Flags]), some (rowS u8S v1 bytes1), some (rowS u8S v2 packed1)]) (shr' := [Fact.sl DescS vl1 l]) [2, 3, 4, 5, 6, 7, 13, 14] [0, 1, 2, 3] [0] rfl rfl rfl rfl ?_
        refine Tk_seq ?_
        refine Tk_seq ?_
        refine Tk_region ?_
        refine Tops_step rfl (OpT_move rfl rfl rfl rfl) ?_
        refine Tops_step rfl (OpT_lenO rfl rfl rfl rfl Try.underlying34 (i := 2) rfl) ?_
        refine Tops_step rfl (OpT_bin rfl rfl rfl rfl rfl (bin_neq_i (a := len bytes1) (b := (16 : Int)))) ?_
        refine Tops_step rfl (OpT_move rfl rfl rfl rfl) ?_
        obtain ⟨hg4, h⟩ := chk_e h
        replace hg4 := not_t hg4
        refine Tops_yes rfl rfl (congrArg (fun b => some (Value.bool b)) hg4) (OpT_move rfl rfl rfl rfl) ?_
        rintro _ rfl
        refine Tops_yes rfl rfl (congrArg (fun b => some (Value.bool b)) hg4) (OpT_lenO rfl rfl rfl rfl Try.underlying34 (i := 3) rfl) ?_
        rintro _ rfl
        refine Tops_yes rfl rfl (congrArg (fun b => some (Value.bool b)) hg4) (OpT_bin rfl rfl rfl rfl rfl (bin_neq_i (a := len packed1) (b := (16 : Int)))) ?_
        rintro _ rfl
        refine Tops_step rfl (OpT_pickF rfl rfl rfl (congrArg (fun b => some (Value.bool b)) hg4) rfl) ?_
        refine Tops_nil ?_
        refine Tk_wkS (fr' := [(2, some (vI pick1)), (3, some (vU8 byp3)), (4, some (vl1)), (5, some (vI cut)), (6, some (.pointer (some ⟨b1, 0, none⟩))), (7, some (.pointer (some ⟨b2, 0, none⟩))), (13, some (v1)), (14, some (v2)), (45, some (vB ((len packed1) != (16 : Int))))]) (own' := [some (cellsR b1 29 [vU64 dp0.Addr, vU32 dp0.Len, vU16 dp0.Flags, vU16 dp0.Next]), some (cellsR b2 31 [vU64 pp1.Addr, vU32 pp1.Len, vU16 pp1.ID, vU16 pp1.Flags]), some (rowS u8S v1 bytes1), some (rowS u8S v2 packed1)]) (shr' := [Fact.sl DescS vl1 l]) [2, 3, 4, 5, 6, 7, 13, 14, 45] [0, 1, 2, 3] [0] rfl rfl rfl rfl ?_
        obtain ⟨hg5, h⟩ := chk_e h
        replace hg5 := not_t hg5
        refine Tk_condF (congrArg (fun b => some (Value.bool b)) hg5) ?_
        refine Tk_skip ?_
        refine Tk_seq ?_
        refine Tk_drawT (by kernel_rfl) ?_
        refine TA_tb [0, 0, 0, 0, 0, 0, 48, 112, 0, 496, 0, 0, 3072, 7168, 0, 31744, 16371, 81907, 262143, 524287] (by kernel_rfl) fun htb => ?_
        refine TA_wkS (fr' := [(2, some (vI pick1)), (3, some (vU8 byp3)), (4, some (vl1)), (5, some (vI cut)), (6, some (.pointer (some ⟨b1, 0, none⟩))), (7, some (.pointer (some ⟨b2, 0, none⟩))), (13, some (v1)), (14, some (v2))]) (own' := [some (cellsR b1 29 [vU64 dp0.Addr, vU32 dp0.Len, vU16 dp0.Flags, vU16 dp0.Next]), some (cellsR b2 31 [vU64 pp1.Addr, vU32 pp1.Len, vU16 pp1.ID, vU16 pp1.Flags]), some (rowS u8S v1 bytes1), some (rowS u8S v2 packed1)]) (shr' := [Fact.sl DescS vl1 l]) [2, 3, 4, 5, 6, 7, 13, 14] [0, 1, 2, 3] [0] rfl rfl rfl rfl ?_
        obtain ⟨y1, hx5, h⟩ := ob_e h
        obtain ⟨y2, hx6, h⟩ := ob_e h
        obtain ⟨y3, hx7, h⟩ := ob_e h
        refine TA_seg (lo := 0) (hi := 18) htb rfl rfl (by kernel_rfl) (fun c L a w => Sat c ⟨[(2, some (vI pick1)), (3, some (vU8 byp3)), (4, some (vl1)), (5, some (vI cut)), (6, some (.pointer (some ⟨b1, 0, none⟩))), (7, some (.pointer (some ⟨b2, 0, none⟩))), (13, some (v1)), (14, some (v2)), (46, bif L 0 then some (v1) else none), (47, bif L 1 then some (vI pick1) else none), (48, bif L 2 then some (v2) else none), (49, bif L 3 then some (vI pick1) else none), (50, bif L 4 then some (v1) else none), (51, bif L 5 then some (vI pick1) else none), (52, bif L 6 then some (rowPtr v1 (Int.toNat pick1 * 1)) else none), (53, bif L 7 then some (vU8 y1) else none), (54, bif L 8 then some (vU8 byp3) else none), (55, bif L 9 then some (vU8 (y1 ^^^ byp3)) else none), (56, bif L 10 then some (v2) else none), (57, bif L 11 then some (vI pick1) else none), (58, bif L 12 then some (rowPtr v2 (Int.toNat pick1 * 1)) else none), (59, bif L 13 then some (vU8 y2) else none), (60, bif L 14 then some (vU8 byp3) else none), (61, bif L 15 then some (vU8 (y2 ^^^ byp3)) else none), (62, bif L 16 then some (rowPtr v1 (Int.toNat pick1 * 1)) else none)], [(some (cellsR b1 29 [vU64 dp0.Addr, vU32 dp0.Len, vU16 dp0.Flags, vU16 dp0.Next]) : Option Res), (some (cellsR b2 31 [vU64 pp1.Addr, vU32 pp1.Len, vU16 pp1.ID, vU16 pp1.Flags]) : Option Res), (bif L 17 then some (rowS u8S v1 (bytes1.set pick1.toNat (y1 ^^^ byp3))) else some (rowS u8S v1 bytes1) : Option Res), (some (rowS u8S v2 packed1) : Option Res)], [Fact.sl DescS vl1 l]⟩ a w) [([], [16, 17]), ([], [16, 17]), ([], []), ([], []), ([], [6, 7, 9, 16, 17]), ([], [6, 7, 9, 16, 17]), ([4, 5], [7, 9, 16, 17]), ([4, 5, 6], [9, 16, 17]), ([], [9, 16, 17]), ([4, 5, 6, 7, 8], [16, 17]), ([], [12, 13, 15, 16, 17]), ([], [12, 13, 15, 16, 17]), ([10, 11], [13, 15, 16, 17]), ([10, 11, 12], [15, 16, 17]), ([], [15]), ([10, 11, 12, 13, 14], []), ([0, 1, 4, 5, 6, 7, 8, 9, 10, 11, 12, 13], [17]), ([0, 1, 4, 5, 6, 7, 8, 9, 10, 11, 12, 13, 16], [])] rfl (by kernel_rfl) ?_ (steps_cons ?_ (steps_cons ?_ (steps_cons ?_ (steps_cons ?_ (steps_cons ?_ (steps_cons ?_ (steps_cons ?_ (steps_cons ?_ (steps_cons ?_ (steps_cons ?_ (steps_cons ?_ (steps_cons ?_ (steps_cons ?_ (steps_cons ?_ (steps_cons ?_ (steps_cons ?_ (steps_cons ?_ (steps_cons ?_ (steps_nil))))))))))))))))))) ?_
        · intro a w hs
          exact hs.startF [46, 47, 48, 49, 50, 51, 52, 53, 54, 55, 56, 57, 58, 59, 60, 61, 62] [0, 1, 2, 3] [0] rfl rfl rfl rfl
        · intro L a w hv K Q hK
          have hs := hv
          refine wpOp_go rfl rfl hs (OpT_move rfl rfl rfl rfl) ?_
          rintro _ rfl a' w' hs'
          exact hK a' w' (hs'.putF (i := 8) rfl [0, 1, 2, 3] [0] rfl rfl rfl rfl)
        · intro L a w hv K Q hK
          have hs := hv
          refine wpOp_go rfl rfl hs (OpT_move rfl rfl rfl rfl) ?_
          rintro _ rfl a' w' hs'
          exact hK a' w' (hs'.putF (i := 9) rfl [0, 1, 2, 3] [0] rfl rfl rfl rfl)
        · intro L a w hv K Q hK
          have hs := hv
          refine wpOp_go rfl rfl hs (OpT_move rfl rfl rfl rfl) ?_
          rintro _ rfl a' w' hs'
          exact hK a' w' (hs'.putF (i := 10) rfl [0, 1, 2, 3] [0] rfl rfl rfl rfl)
        · intro L a w hv K Q hK
          have hs := hv
          refine wpOp_go rfl rfl hs (OpT_move rfl rfl rfl rfl) ?_
          rintro _ rfl a' w' hs'
          exact hK a' w' (hs'.putF (i := 11) rfl [0, 1, 2, 3] [0] rfl rfl rfl rfl)
        · intro L a w hv K Q hK
          have hs := hv
          refine wpOp_go rfl rfl hs (OpT_move rfl rfl rfl rfl) ?_
          rintro _ rfl a' w' hs'
          exact hK a' w' (hs'.putF (i := 12) rfl [0, 1, 2, 3] [0] rfl rfl rfl rfl)
        · intro L a w hv K Q hK
          have hs := hv
          refine wpOp_go rfl rfl hs (OpT_move rfl rfl rfl rfl) ?_
          rintro _ rfl a' w' hs'
          exact hK a' w' (hs'.putF (i := 13) rfl [0, 1, 2, 3] [0] rfl rfl rfl rfl)
        · intro L a w hv K Q hK
          have hs := hv
          refine wpOp_go rfl rfl hs (OpT_idxO rfl rfl rfl rfl rfl slF34 (i := 2) rfl hx5) ?_
          rintro _ rfl a' w' hs'
          exact hK a' w' (hs'.putF (i := 14) rfl [0, 1, 2, 3] [0] rfl rfl rfl rfl)
        · intro L a w hv K Q hK
          have hs := hv
          refine wpOp_go rfl rfl hs (OpT_loadO (S := u8S) rfl rfl rfl rfl rfl tyF5 (i := 2) rfl hx5 rfl rfl) ?_
          rintro _ rfl a' w' hs'
          exact hK a' w' (hs'.putF (i := 15) rfl [0, 1, 2, 3] [0] rfl rfl rfl rfl)
        · intro L a w hv K Q hK
          have hs := hv
          refine wpOp_go rfl rfl hs (OpT_move rfl rfl rfl rfl) ?_
          rintro _ rfl a' w' hs'
          exact hK a' w' (hs'.putF (i := 16) rfl [0, 1, 2, 3] [0] rfl rfl rfl rfl)
        · intro L a w hv K Q hK
          have hs := hv
          refine wpOp_go rfl rfl hs (OpT_bin rfl rfl rfl rfl rfl (bin_xor_u8 (a := y1) (b := byp3))) ?_
          rintro _ rfl a' w' hs'
          exact hK a' w' (hs'.putF (i := 17) rfl [0, 1, 2, 3] [0] rfl rfl rfl rfl)
        · intro L a w hv K Q hK
          have hs := hv
          refine wpOp_go rfl rfl hs (OpT_move rfl rfl rfl rfl) ?_
          rintro _ rfl a' w' hs'
          exact hK a' w' (hs'.putF (i := 18) rfl [0, 1, 2, 3] [0] rfl rfl rfl rfl)
        · intro L a w hv K Q hK
          have hs := hv
          refine wpOp_go rfl rfl hs (OpT_move rfl rfl rfl rfl) ?_
          rintro _ rfl a' w' hs'
          exact hK a' w' (hs'.putF (i := 19) rfl [0, 1, 2, 3] [0] rfl rfl rfl rfl)
        · intro L a w hv K Q hK
          have hs := hv
          refine wpOp_go rfl rfl hs (OpT_idxO rfl rfl rfl rfl rfl slF34 (i := 3) rfl hx6) ?_
          rintro _ rfl a' w' hs'
          exact hK a' w' (hs'.putF (i := 20) rfl [0, 1, 2, 3] [0] rfl rfl rfl rfl)
        · intro L a w hv K Q hK
          have hs := hv
          refine wpOp_go rfl rfl hs (OpT_loadO (S := u8S) rfl rfl rfl rfl rfl tyF5 (i := 3) rfl hx6 rfl rfl) ?_
          rintro _ rfl a' w' hs'
          exact hK a' w' (hs'.putF (i := 21) rfl [0, 1, 2, 3] [0] rfl rfl rfl rfl)
        · intro L a w hv K Q hK
          have hs := hv
          refine wpOp_go rfl rfl hs (OpT_move rfl rfl rfl rfl) ?_
          rintro _ rfl a' w' hs'
          exact hK a' w' (hs'.putF (i := 22) rfl [0, 1, 2, 3] [0] rfl rfl rfl rfl)
        · intro L a w hv K Q hK
          have hs := hv
          refine wpOp_go rfl rfl hs (OpT_bin rfl rfl rfl rfl rfl (bin_xor_u8 (a := y2) (b := byp3))) ?_
          rintro _ rfl a' w' hs'
          exact hK a' w' (hs'.putF (i := 23) rfl [0, 1, 2, 3] [0] rfl rfl rfl rfl)
        · intro L a w hv K Q hK
          have hs := hv
          refine wpOp_go rfl rfl hs (OpT_idxO rfl rfl rfl rfl rfl slF34 (i := 2) rfl hx7) ?_
          rintro _ rfl a' w' hs'
          exact hK a' w' (hs'.putF (i := 24) rfl [0, 1, 2, 3] [0] rfl rfl rfl rfl)
        · intro L a w hv K Q hK
          have hs := hv
          refine wpOp_go rfl rfl hs (OpT_storeO (S := u8S) (u := y1 ^^^ byp3) rfl rfl rfl rfl rfl tyF5 (i := 2) rfl hx7 rfl) ?_
          rintro _ rfl a' w' hs'
          exact hK a' w' (hs'.sameF [0, 1, 2, 3] [0] rfl rfl rfl rfl)
        · intro L a w hL hv
          rw [allTrue hL] at hv
          have hs := hv
          refine (show TA _ _ _ 18 ⟨[(2, some (vI pick1)), (3, some (vU8 byp3)), (4, some (vl1)), (5, some (vI cut)), (6, some (.pointer (some ⟨b1, 0, none⟩))), (7, some (.pointer (some ⟨b2, 0, none⟩))), (13, some (v1)), (14, some (v2)), (48, some (v2)), (49, some (vI pick1)), (61, some (vU8 (y2 ^^^ byp3)))], [some (cellsR b1 29 [vU64 dp0.Addr, vU32 dp0.Len, vU16 dp0.Flags, vU16 dp0.Next]), some (cellsR b2 31 [vU64 pp1.Addr, vU32 pp1.Len, vU16 pp1.ID, vU16 pp1.Flags]), some (rowS u8S v1 (bytes1.set pick1.toNat (y1 ^^^ byp3))), some (rowS u8S v2 packed1)], [Fact.sl DescS vl1 l]⟩ from ?_) a w (hs.wkS [2, 3, 4, 5, 6, 7, 13, 14, 48, 49, 61] [0, 1, 2, 3] [0] rfl rfl rfl rfl)
          clear hs hL
          obtain ⟨y4, hx8, h⟩ := ob_e h
          refine TA_step htb (by kernel_rfl) rfl rfl (OpT_idxO rfl rfl rfl rfl rfl slF34 (i := 3) rfl hx8) ?_
          refine TA_step htb (by kernel_rfl) rfl rfl (OpT_storeO (S := u8S) (u := y2 ^^^ byp3) rfl rfl rfl rfl rfl tyF5 (i := 3) rfl hx8 rfl) ?_
          refine TA_end rfl ?_
          refine Tk_wkS (fr' := [(2, some (vI pick1)), (3, some (vU8 byp3)), (4, some (vl1)), (5, some (vI cut)), (6, some (.pointer (some ⟨b1, 0, none⟩))), (7, some (.pointer (some ⟨b2, 0, none⟩))), (13, some (v1)), (14, some (v2))]) (own' := [some (cellsR b1 29 [vU64 dp0.Addr, vU32 dp0.Len, vU16 dp0.Flags, vU16 dp0.Next]), some (cellsR b2 31 [vU64 pp1.Addr, vU32 pp1.Len, vU16 pp1.ID, vU16 pp1.Flags]), some (rowS u8S v1 (bytes1.set pick1.toNat (y1 ^^^ byp3))), some (rowS u8S v2 (packed1.set pick1.toNat (y2 ^^^ byp3)))]) (shr' := [Fact.sl DescS vl1 l]) [2, 3, 4, 5, 6, 7, 13, 14] [0, 1, 2, 3] [0] rfl rfl rfl rfl ?_
          refine Tk_seq ?_
          refine Tk_region ?_
          refine Tops_step rfl (OpT_move rfl rfl rfl rfl) ?_
          refine Tops_retire (i := 2) rfl ?_
          obtain ⟨read1, hx9, h⟩ := ob_e h
          refine Tops_exP rfl (OpT_call (w_desc_Read hx9) [] [1] rfl rfl rfl rfl rfl callee15 rfl rfl rfl rfl) ?_
          rintro _ ⟨_, _, _, ⟨rfl, rfl, rfl⟩, rfl⟩
          refine Tops_step rfl (OpT_move rfl rfl rfl rfl) ?_
          refine Tops_step rfl (OpT_extract rfl rfl rfl rfl rfl) ?_
          refine Tops_step rfl (OpT_extract rfl rfl rfl rfl rfl) ?_
          refine Tops_ex rfl (OpT_alloc rfl rfl rfl tyZ29) fun b3 => ?_
          refine Tops_step rfl (OpT_storeC (cs' := [vU64 read1.1.Addr, vU32 read1.1.Len, vU16 read1.1.Flags, vU16 read1.1.Next]) rfl rfl rfl rfl tyF29 (i := 4) rfl rfl rfl (one_of rfl) rfl) ?_
          refine Tops_step rfl (OpT_assign rfl rfl rfl rfl) ?_
          refine Tops_nil ?_
          refine Tk_wkS (fr' := [(2, some (vI pick1)), (3, some (vU8 byp3)), (4, some (vl1)), (5, some (vI cut)), (6, some (.pointer (some ⟨b1, 0, none⟩))), (7, some (.pointer (some ⟨b2, 0, none⟩))), (14, some (v2)), (15, some (.pointer (some ⟨b3, 0, none⟩))), (16, some (vI read1.2))]) (own' := [some (cellsR b1 29 [vU64 dp0.Addr, vU32 dp0.Len, vU16 dp0.Flags, vU16 dp0.Next]), some (cellsR b2 31 [vU64 pp1.Addr, vU32 pp1.Len, vU16 pp1.ID, vU16 pp1.Flags]), some (rowS u8S v2 (packed1.set pick1.toNat (y2 ^^^ byp3))), some (cellsR b3 29 [vU64 read1.1.Addr, vU32 read1.1.Len, vU16 read1.1.Flags, vU16 read1.1.Next])]) (shr' := [Fact.sl DescS vl1 l]) [2, 3, 4, 5, 6, 7, 14, 15, 16] [0, 1, 3, 4] [0] rfl rfl rfl rfl ?_
          refine Tk_seq ?_
          refine Tk_region ?_
          refine Tops_step rfl (OpT_move rfl rfl rfl rfl) ?_
          refine Tops_retire (i := 2) rfl ?_
          obtain ⟨readpa1, hx10, h⟩ := ob_e h
          refine Tops_exP rfl (OpT_call (w_desc_ReadPacked hx10) [] [1] rfl rfl rfl rfl rfl callee16 rfl rfl rfl rfl) ?_
          rintro _ ⟨_, _, _, ⟨rfl, rfl, rfl⟩, rfl⟩
          refine Tops_step rfl (OpT_move rfl rfl rfl rfl) ?_
          refine Tops_step rfl (OpT_extract rfl rfl rfl rfl rfl) ?_
          refine Tops_step rfl (OpT_extract rfl rfl rfl rfl rfl) ?_
          refine Tops_ex rfl (OpT_alloc rfl rfl rfl tyZ31) fun b4 => ?_
          refine Tops_step rfl (OpT_storeC (cs' := [vU64 readpa1.1.Addr, vU32 readpa1.1.Len, vU16 readpa1.1.ID, vU16 readpa1.1.Flags]) rfl rfl rfl rfl tyF31 (i := 4) rfl rfl rfl (one_of rfl) rfl) ?_
          refine Tops_step rfl (OpT_assign rfl rfl rfl rfl) ?_
          refine Tops_nil ?_
          refine Tk_wkS (fr' := [(2, some (vI pick1)), (3, some (vU8 byp3)), (4, some (vl1)), (5, some (vI cut)), (6, some (.pointer (some ⟨b1, 0, none⟩))), (7, some (.pointer (some ⟨b2, 0, none⟩))), (15, some (.pointer (some ⟨b3, 0, none⟩))), (16, some (vI read1.2)), (17, some (.pointer (some ⟨b4, 0, none⟩))), (18, some (vI readpa1.2))]) (own' := [some (cellsR b1 29 [vU64 dp0.Addr, vU32 dp0.Len, vU16 dp0.Flags, vU16 dp0.Next]), some (cellsR b2 31 [vU64 pp1.Addr, vU32 pp1.Len, vU16 pp1.ID, vU16 pp1.Flags]), some (cellsR b3 29 [vU64 read1.1.Addr, vU32 read1.1.Len, vU16 read1.1.Flags, vU16 read1.1.Next]), some (cellsR b4 31 [vU64 readpa1.1.Addr, vU32 readpa1.1.Len, vU16 readpa1.1.ID, vU16 readpa1.1.Flags])]) (shr' := [Fact.sl DescS vl1 l]) [2, 3, 4, 5, 6, 7, 15, 16, 17, 18] [0, 1, 3, 4] [0] rfl rfl rfl rfl ?_
          refine Tk_seq ?_
          refine Tk_drawT (by kernel_rfl) ?_
          refine TA_tb [0, 0, 0, 0, 13, 31] (by kernel_rfl) fun htb => ?_
          refine TA_seg (lo := 0) (hi := 5) htb rfl rfl (by kernel_rfl) (fun c L a w => ∃ (b5 : Nat), ∃ (b6 : Nat), Sat c ⟨[(2, some (vI pick1)), (3, some (vU8 byp3)), (4, some (vl1)), (5, some (vI cut)), (6, some (.pointer (some ⟨b1, 0, none⟩))), (7, some (.pointer (some ⟨b2, 0, none⟩))), (15, some (.pointer (some ⟨b3, 0, none⟩))), (16, some (vI read1.2)), (17, some (.pointer (some ⟨b4, 0, none⟩))), (18, some (vI readpa1.2)), (74, bif L 0 then some (.agg #[vU64 dp0.Addr, vU32 dp0.Len, vU16 dp0.Flags, vU16 dp0.Next]) else none), (75, bif L 1 then some (.agg #[vU64 pp1.Addr, vU32 pp1.Len, vU16 pp1.ID, vU16 pp1.Flags]) else none), (19, bif L 2 then some (.pointer (some ⟨b5, 0, none⟩)) else none), (20, bif L 3 then some (.pointer (some ⟨b6, 0, none⟩)) else none)], [(some (cellsR b1 29 [vU64 dp0.Addr, vU32 dp0.Len, vU16 dp0.Flags, vU16 dp0.Next]) : Option Res), (some (cellsR b2 31 [vU64 pp1.Addr, vU32 pp1.Len, vU16 pp1.ID, vU16 pp1.Flags]) : Option Res), (some (cellsR b3 29 [vU64 read1.1.Addr, vU32 read1.1.Len, vU16 read1.1.Flags, vU16 read1.1.Next]) : Option Res), (some (cellsR b4 31 [vU64 readpa1.1.Addr, vU32 readpa1.1.Len, vU16 readpa1.1.ID, vU16 readpa1.1.Flags]) : Option Res), (bif L 4 then some (cellsR b5 29 [vU64 dp0.Addr, vU32 dp0.Len, vU16 dp0.Flags, vU16 dp0.Next]) else bif L 2 then some (cellsR b5 29 [vU64 (0 : UInt64), vU32 (0 : UInt32), vU16 (0 : UInt16), vU16 (0 : UInt16)]) else none : Option Res), (bif L 3 then some (cellsR b6 31 [vU64 (0 : UInt64), vU32 (0 : UInt32), vU16 (0 : UInt16), vU16 (0 : UInt16)]) else none : Option Res)], [Fact.sl DescS vl1 l]⟩ a w) [([], [4]), ([], []), ([], [4]), ([], [4]), ([0, 2, 3], [])] rfl (by kernel_rfl) ?_ (steps_cons ?_ (steps_cons ?_ (steps_cons ?_ (steps_cons ?_ (steps_cons ?_ (steps_nil)))))) ?_
          · intro a w hs
            exact ⟨0, 0, hs.startF [74, 75, 19, 20] [0, 1, 2, 3, 4, 5] [0] rfl rfl rfl rfl⟩
          · intro L a w hv K Q hK
            obtain ⟨b5, b6, hs⟩ := hv
            refine wpOp_go rfl rfl hs (OpT_loadCA (vs := [vU64 dp0.Addr, vU32 dp0.Len, vU16 dp0.Flags, vU16 dp0.Next]) rfl rfl rfl rfl tyF29 (i := 0) rfl rfl rfl) ?_
            rintro _ rfl a' w' hs'
            exact hK a' w' ⟨b5, b6, hs'.putF (i := 10) rfl [0, 1, 2, 3, 4, 5] [0] rfl rfl rfl rfl⟩
          · intro L a w hv K Q hK
            obtain ⟨b5, b6, hs⟩ := hv
            refine wpOp_go rfl rfl hs (OpT_loadCA (vs := [vU64 pp1.Addr, vU32 pp1.Len, vU16 pp1.ID, vU16 pp1.Flags]) rfl rfl rfl rfl tyF31 (i := 1) rfl rfl rfl) ?_
            rintro _ rfl a' w' hs'
            exact hK a' w' ⟨b5, b6, hs'.putF (i := 11) rfl [0, 1, 2, 3, 4, 5] [0] rfl rfl rfl rfl⟩
          · intro L a w hv K Q hK
            obtain ⟨b5, b6, hs⟩ := hv
            refine wpOp_go rfl rfl hs (OpT_alloc rfl rfl rfl tyZ29) ?_
            rintro _ ⟨b5', rfl⟩ a' w' hs'
            exact hK a' w' ⟨b5', b6, hs'.putF (i := 12) rfl [0, 1, 2, 3, 6, 5] [0] rfl rfl rfl rfl⟩
          · intro L a w hv K Q hK
            obtain ⟨b5, b6, hs⟩ := hv
            refine wpOp_go rfl rfl hs (OpT_alloc rfl rfl rfl tyZ31) ?_
            rintro _ ⟨b6', rfl⟩ a' w' hs'
            exact hK a' w' ⟨b5, b6', hs'.putF (i := 13) rfl [0, 1, 2, 3, 4, 6] [0] rfl rfl rfl rfl⟩
          · intro L a w hv K Q hK
            obtain ⟨b5, b6, hs⟩ := hv
            refine wpOp_go rfl rfl hs (OpT_storeC (cs' := [vU64 dp0.Addr, vU32 dp0.Len, vU16 dp0.Flags, vU16 dp0.Next]) rfl rfl rfl rfl tyF29 (i := 4) rfl rfl rfl (one_of rfl) rfl) ?_
            rintro _ rfl a' w' hs'
            exact hK a' w' ⟨b5, b6, hs'.sameF [0, 1, 2, 3, 4, 5] [0] rfl rfl rfl rfl⟩
          · intro L a w hL hv
            rw [allTrue hL] at hv
            obtain ⟨b5, b6, hs⟩ := hv
            refine (show TA _ _ _ 5 ⟨[(2, some (vI pick1)), (3, some (vU8 byp3)), (4, some (vl1)), (5, some (vI cut)), (6, some (.pointer (some ⟨b1, 0, none⟩))), (7, some (.pointer (some ⟨b2, 0, none⟩))), (15, some (.pointer (some ⟨b3, 0, none⟩))), (16, some (vI read1.2)), (17, some (.pointer (some ⟨b4, 0, none⟩))), (18, some (vI readpa1.2)), (75, some (.agg #[vU64 pp1.Addr, vU32 pp1.Len, vU16 pp1.ID, vU16 pp1.Flags])), (19, some (.pointer (some ⟨b5, 0, none⟩))), (20, some (.pointer (some ⟨b6, 0, none⟩)))], [some (cellsR b1 29 [vU64 dp0.Addr, vU32 dp0.Len, vU16 dp0.Flags, vU16 dp0.Next]), some (cellsR b2 31 [vU64 pp1.Addr, vU32 pp1.Len, vU16 pp1.ID, vU16 pp1.Flags]), some (cellsR b3 29 [vU64 read1.1.Addr, vU32 read1.1.Len, vU16 read1.1.Flags, vU16 read1.1.Next]), some (cellsR b4 31 [vU64 readpa1.1.Addr, vU32 readpa1.1.Len, vU16 readpa1.1.ID, vU16 readpa1.1.Flags]), some (cellsR b5 29 [vU64 dp0.Addr, vU32 dp0.Len, vU16 dp0.Flags, vU16 dp0.Next]), some (cellsR b6 31 [vU64 (0 : UInt64), vU32 (0 : UInt32), vU16 (0 : UInt16), vU16 (0 : UInt16)])], [Fact.sl DescS vl1 l]⟩ from ?_) a w (hs.wkS [2, 3, 4, 5, 6, 7, 15, 16, 17, 18, 75, 19, 20] [0, 1, 2, 3, 4, 5] [0] rfl rfl rfl rfl)
            clear hs hL
            refine TA_step htb (by kernel_rfl) rfl rfl (OpT_storeC (cs' := [vU64 pp1.Addr, vU32 pp1.Len, vU16 pp1.ID, vU16 pp1.Flags]) rfl rfl rfl rfl tyF31 (i := 5) rfl rfl rfl (one_of rfl) rfl) ?_
            refine TA_end rfl ?_
            refine Tk_wkS (fr' := [(2, some (vI pick1)), (3, some (vU8 byp3)), (4, some (vl1)), (5, some (vI cut)), (6, some (.pointer (some ⟨b1, 0, none⟩))), (7, some (.pointer (some ⟨b2, 0, none⟩))), (15, some (.pointer (some ⟨b3, 0, none⟩))), (16, some (vI read1.2)), (17, some (.pointer (some ⟨b4, 0, none⟩))), (18, some (vI readpa1.2)), (19, some (.pointer (some ⟨b5, 0, none⟩))), (20, some (.pointer (some ⟨b6, 0, none⟩)))]) (own' := [some (cellsR b1 29 [vU64 dp0.Addr, vU32 dp0.Len, vU16 dp0.Flags, vU16 dp0.Next]), some (cellsR b2 31 [vU64 pp1.Addr, vU32 pp1.Len, vU16 pp1.ID, vU16 pp1.Flags]), some (cellsR b3 29 [vU64 read1.1.Addr, vU32 read1.1.Len, vU16 read1.1.Flags, vU16 read1.1.Next]), some (cellsR b4 31 [vU64 readpa1.1.Addr, vU32 readpa1.1.Len, vU16 readpa1.1.ID, vU16 readpa1.1.Flags]), some (cellsR b5 29 [vU64 dp0.Addr, vU32 dp0.Len, vU16 dp0.Flags, vU16 dp0.Next]), some (cellsR b6 31 [vU64 pp1.Addr, vU32 pp1.Len, vU16 pp1.ID, vU16 pp1.Flags])]) (shr' := [Fact.sl DescS vl1 l]) [2, 3, 4, 5, 6, 7, 15, 16, 17, 18, 19, 20] [0, 1, 2, 3, 4, 5] [0] rfl rfl rfl rfl ?_
            refine Tk_seq ?_
            refine Tk_join (α := Desc × Packed × Desc × Packed) (fun s => ⟨[(4, some (vl1)), (5, some (vI cut)), (15, some (.pointer (some ⟨b3, 0, none⟩))), (16, some (vI read1.2)), (17, some (.pointer (some ⟨b4, 0, none⟩))), (18, some (vI readpa1.2)), (19, some (.pointer (some ⟨b5, 0, none⟩))), (20, some (.pointer (some ⟨b6, 0, none⟩)))], [some (cellsR b3 29 [vU64 s.1.Addr, vU32 s.1.Len, vU16 s.1.Flags, vU16 s.1.Next]), some (cellsR b4 31 [vU64 s.2.1.Addr, vU32 s.2.1.Len, vU16 s.2.1.ID, vU16 s.2.1.Flags]), some (cellsR b5 29 [vU64 s.2.2.1.Addr, vU32 s.2.2.1.Len, vU16 s.2.2.1.Flags, vU16 s.2.2.1.Next]), some (cellsR b6 31 [vU64 s.2.2.2.Addr, vU32 s.2.2.2.Len, vU16 s.2.2.2.ID, vU16 s.2.2.2.Flags])], [Fact.sl DescS vl1 l]⟩) (fun s => law_DescFieldsJ1 l cut read1 readpa1 s.1 s.2.1 s.2.2.1 s.2.2.2 = some true) ?_ ?_
            · rintro ⟨m1, m2, m3, m4⟩ h
              replace h : law_DescFieldsJ1 l cut read1 readpa1 m1 m2 m3 m4 = some true := h
              unfold law_DescFieldsJ1 at h
              refine Tk_seq ?_
              refine Tk_region ?_
              refine Tops_step rfl (OpT_move rfl rfl rfl rfl) ?_
              refine Tops_step rfl (OpT_move rfl rfl rfl rfl) ?_
              refine Tops_step rfl (OpT_lenS rfl rfl rfl rfl Try.underlying32 (i := 0) rfl) ?_
              refine Tops_step rfl (OpT_bin rfl rfl rfl rfl rfl (bin_add_i (a := len l) (b := (1 : Int)))) ?_
              obtain ⟨pick2, hx11, h⟩ := ob_e h
              refine Tops_exP rfl (OpT_call (w_kit_Pick hx11) [] [] rfl rfl rfl rfl rfl callee12 rfl rfl rfl rfl) ?_
              rintro _ ⟨_, _, _, ⟨rfl, rfl, rfl⟩, rfl⟩
              refine Tops_step rfl (OpT_assign rfl rfl rfl rfl) ?_
              refine Tops_nil ?_
              refine Tk_wkS (fr' := [(4, some (vl1)), (15, some (.pointer (some ⟨b3, 0, none⟩))), (16, some (vI read1.2)), (17, some (.pointer (some ⟨b4, 0, none⟩))), (18, some (vI readpa1.2)), (19, some (.pointer (some ⟨b5, 0, none⟩))), (20, some (.pointer (some ⟨b6, 0, none⟩))), (21, some (vI pick2))]) (own' := [some (cellsR b3 29 [vU64 m1.Addr, vU32 m1.Len, vU16 m1.Flags, vU16 m1.Next]), some (cellsR b4 31 [vU64 m2.Addr, vU32 m2.Len, vU16 m2.ID, vU16 m2.Flags]), some (cellsR b5 29 [vU64 m3.Addr, vU32 m3.Len, vU16 m3.Flags, vU16 m3.Next]), some (cellsR b6 31 [vU64 m4.Addr, vU32 m4.Len, vU16 m4.ID, vU16 m4.Flags])]) (shr' := [Fact.sl DescS vl1 l]) [4, 15, 16, 17, 18, 19, 20, 21] [0, 1, 2, 3] [0] rfl rfl rfl rfl ?_
              refine Tk_seq ?_
              refine Tk_region ?_
              refine Tops_step rfl (OpT_move rfl rfl rfl rfl) ?_
              obtain ⟨table1, hx12, h⟩ := ob_e h
              refine Tops_exP rfl (OpT_call (w_desc_Table hx12) [] [0] rfl rfl rfl rfl rfl callee17 rfl rfl rfl rfl) ?_
              rintro _ ⟨v3, _, _, ⟨_, rfl, rfl, rfl⟩, rfl⟩
              refine Tops_step rfl (OpT_assign rfl rfl rfl rfl) ?_
              refine Tops_nil ?_
              refine Tk_wkS (fr' := [(4, some (vl1)), (15, some (.pointer (some ⟨b3, 0, none⟩))), (16, some (vI read1.2)), (17, some (.pointer (some ⟨b4, 0, none⟩))), (18, some (vI readpa1.2)), (19, some (.pointer (some ⟨b5, 0, none⟩))), (20, some (.pointer (some ⟨b6, 0, none⟩))), (21, some (vI pick2)), (22, some (v3))]) (own' := [some (cellsR b3 29 [vU64 m1.Addr, vU32 m1.Len, vU16 m1.Flags, vU16 m1.Next]), some (cellsR b4 31 [vU64 m2.Addr, vU32 m2.Len, vU16 m2.ID, vU16 m2.Flags]), some (cellsR b5 29 [vU64 m3.Addr, vU32 m3.Len, vU16 m3.Flags, vU16 m3.Next]), some (cellsR b6 31 [vU64 m4.Addr, vU32 m4.Len, vU16 m4.ID, vU16 m4.Flags]), some (rowS u8S v3 table1)]) (shr' := [Fact.sl DescS vl1 l]) [4, 15, 16, 17, 18, 19, 20, 21, 22] [0, 1, 2, 3, 4] [0] rfl rfl rfl rfl ?_
              refine Tk_seq ?_
              refine Tk_drawT (by kernel_rfl) ?_
              refine TA_tb [0, 1, 3, 7, 15, 31, 63, 127, 127, 511, 1023, 2047, 4095, 4095, 16383, 32767, 65535, 131071, 262143, 131071, 131071, 1703935, 3801087, 7995391, 131071, 131071, 50462719, 125435903, 259653631, 536477695, 1073741823, 2147483647, 4294967295] (by kernel_rfl) fun htb => ?_
              refine TA_step htb (by kernel_rfl) rfl rfl (OpT_move rfl rfl rfl rfl) ?_
              refine TA_step htb (by kernel_rfl) rfl rfl (OpT_bin rfl rfl rfl rfl rfl (bin_eql_i (a := read1.2) (b := (0 : Int)))) ?_
              refine TA_step htb (by kernel_rfl) rfl rfl (OpT_move rfl rfl rfl rfl) ?_
              obtain ⟨hg6, h⟩ := chk_e h
              refine TA_yes htb (by kernel_rfl) rfl rfl rfl (congrArg (fun b => some (Value.bool b)) hg6) (OpT_move rfl rfl rfl rfl) ?_
              rintro _ rfl
              refine TA_yes htb (by kernel_rfl) rfl rfl rfl (congrArg (fun b => some (Value.bool b)) hg6) (OpT_bin rfl rfl rfl rfl rfl (bin_eql_i (a := readpa1.2) (b := (0 : Int)))) ?_
              rintro _ rfl
              refine TA_step htb (by kernel_rfl) rfl rfl (OpT_pickT rfl rfl rfl (congrArg (fun b => some (Value.bool b)) hg6) rfl) ?_
              refine TA_step htb (by kernel_rfl) rfl rfl (OpT_move rfl rfl rfl rfl) ?_
              refine TA_wkS (fr' := [(4, some (vl1)), (15, some (.pointer (some ⟨b3, 0, none⟩))), (17, some (.pointer (some ⟨b4, 0, none⟩))), (19, some (.pointer (some ⟨b5, 0, none⟩))), (20, some (.pointer (some ⟨b6, 0, none⟩))), (21, some (vI pick2)), (22, some (v3)), (184, some (vB (readpa1.2 == (0 : Int))))]) (own' := [some (cellsR b3 29 [vU64 m1.Addr, vU32 m1.Len, vU16 m1.Flags, vU16 m1.Next]), some (cellsR b4 31 [vU64 m2.Addr, vU32 m2.Len, vU16 m2.ID, vU16 m2.Flags]), some (cellsR b5 29 [vU64 m3.Addr, vU32 m3.Len, vU16 m3.Flags, vU16 m3.Next]), some (cellsR b6 31 [vU64 m4.Addr, vU32 m4.Len, vU16 m4.ID, vU16 m4.Flags]), some (rowS u8S v3 table1)]) (shr' := [Fact.sl DescS vl1 l]) [4, 15, 17, 19, 20, 21, 22, 184] [0, 1, 2, 3, 4] [0] rfl rfl rfl rfl ?_
              obtain ⟨hg7, h⟩ := chk_e h
              refine TA_seg (lo := 7) (hi := 9) htb rfl rfl (by kernel_rfl) (fun c L a w => Sat c ⟨[(4, some (vl1)), (15, some (.pointer (some ⟨b3, 0, none⟩))), (17, some (.pointer (some ⟨b4, 0, none⟩))), (19, some (.pointer (some ⟨b5, 0, none⟩))), (20, some (.pointer (some ⟨b6, 0, none⟩))), (21, some (vI pick2)), (22, some (v3)), (184, some (vB (readpa1.2 == (0 : Int)))), (185, bif L 7 then some (.agg #[vU64 m1.Addr, vU32 m1.Len, vU16 m1.Flags, vU16 m1.Next]) else none), (186, bif L 8 then some (.agg #[vU64 m3.Addr, vU32 m3.Len, vU16 m3.Flags, vU16 m3.Next]) else none)], [(some (cellsR b3 29 [vU64 m1.Addr, vU32 m1.Len, vU16 m1.Flags, vU16 m1.Next]) : Option Res), (some (cellsR b4 31 [vU64 m2.Addr, vU32 m2.Len, vU16 m2.ID, vU16 m2.Flags]) : Option Res), (some (cellsR b5 29 [vU64 m3.Addr, vU32 m3.Len, vU16 m3.Flags, vU16 m3.Next]) : Option Res), (some (cellsR b6 31 [vU64 m4.Addr, vU32 m4.Len, vU16 m4.ID, vU16 m4.Flags]) : Option Res), (some (rowS u8S v3 table1) : Option Res)], [Fact.sl DescS vl1 l]⟩ a w) [([], []), ([], [])] rfl (by kernel_rfl) ?_ (steps_cons ?_ (steps_cons ?_ (steps_nil))) ?_
              · intro a w hs
                exact hs.startF [185, 186] [0, 1, 2, 3, 4] [0] rfl rfl rfl rfl
              · intro L a w hv K Q hK
                have hs := hv
                refine wpOp_yes rfl rfl rfl hs (congrArg (fun b => some (Value.bool b)) hg7) (OpT_loadCA (vs := [vU64 m1.Addr, vU32 m1.Len, vU16 m1.Flags, vU16 m1.Next]) rfl rfl rfl rfl tyF29 (i := 0) rfl rfl rfl) ?_
                rintro _ rfl a' w' hs'
                exact hK a' w' (hs'.putF (i := 8) rfl [0, 1, 2, 3, 4] [0] rfl rfl rfl rfl)
              · intro L a w hv K Q hK
                have hs := hv
                refine wpOp_yes rfl rfl rfl hs (congrArg (fun b => some (Value.bool b)) hg7) (OpT_loadCA (vs := [vU64 m3.Addr, vU32 m3.Len, vU16 m3.Flags, vU16 m3.Next]) rfl rfl rfl rfl tyF29 (i := 2) rfl rfl rfl) ?_
                rintro _ rfl a' w' hs'
                exact hK a' w' (hs'.putF (i := 9) rfl [0, 1, 2, 3, 4] [0] rfl rfl rfl rfl)
              · intro L a w hL hv
                rw [allTrue hL] at hv
                have hs := hv
                refine (show TA _ _ _ 9 ⟨[(4, some (vl1)), (17, some (.pointer (some ⟨b4, 0, none⟩))), (20, some (.pointer (some ⟨b6, 0, none⟩))), (21, some (vI pick2)), (22, some (v3)), (184, some (vB (readpa1.2 == (0 : Int)))), (185, some (.agg #[vU64 m1.Addr, vU32 m1.Len, vU16 m1.Flags, vU16 m1.Next])), (186, some (.agg #[vU64 m3.Addr, vU32 m3.Len, vU16 m3.Flags, vU16 m3.Next]))], [some (cellsR b4 31 [vU64 m2.Addr, vU32 m2.Len, vU16 m2.ID, vU16 m2.Flags]), some (cellsR b6 31 [vU64 m4.Addr, vU32 m4.Len, vU16 m4.ID, vU16 m4.Flags]), some (rowS u8S v3 table1)], [Fact.sl DescS vl1 l]⟩ from ?_) a w (hs.wkS [4, 17, 20, 21, 22, 184, 185, 186] [1, 3, 4] [0] rfl rfl rfl rfl)
                clear hs hL
                refine TA_yes htb (by kernel_rfl) rfl rfl rfl (congrArg (fun b => some (Value.bool b)) hg7) (OpT_bin rfl rfl rfl rfl rfl (eqT29_eql m1 m3)) ?_
                rintro _ rfl
                refine TA_step htb (by kernel_rfl) rfl rfl (OpT_pickT rfl rfl rfl (congrArg (fun b => some (Value.bool b)) hg7) rfl) ?_
                refine TA_step htb (by kernel_rfl) rfl rfl (OpT_move rfl rfl rfl rfl) ?_
                refine TA_wkS (fr' := [(4, some (vl1)), (17, some (.pointer (some ⟨b4, 0, none⟩))), (20, some (.pointer (some ⟨b6, 0, none⟩))), (21, some (vI pick2)), (22, some (v3)), (189, some (vB (m1 == m3)))]) (own' := [some (cellsR b4 31 [vU64 m2.Addr, vU32 m2.Len, vU16 m2.ID, vU16 m2.Flags]), some (cellsR b6 31 [vU64 m4.Addr, vU32 m4.Len, vU16 m4.ID, vU16 m4.Flags]), some (rowS u8S v3 table1)]) (shr' := [Fact.sl DescS vl1 l]) [4, 17, 20, 21, 22, 189] [0, 1, 2] [0] rfl rfl rfl rfl ?_
                obtain ⟨hg8, h⟩ := chk_e h
                refine TA_seg (lo := 12) (hi := 14) htb rfl rfl (by kernel_rfl) (fun c L a w => Sat c ⟨[(4, some (vl1)), (17, some (.pointer (some ⟨b4, 0, none⟩))), (20, some (.pointer (some ⟨b6, 0, none⟩))), (21, some (vI pick2)), (22, some (v3)), (189, some (vB (m1 == m3))), (190, bif L 12 then some (.agg #[vU64 m2.Addr, vU32 m2.Len, vU16 m2.ID, vU16 m2.Flags]) else none), (191, bif L 13 then some (.agg #[vU64 m4.Addr, vU32 m4.Len, vU16 m4.ID, vU16 m4.Flags]) else none)], [(some (cellsR b4 31 [vU64 m2.Addr, vU32 m2.Len, vU16 m2.ID, vU16 m2.Flags]) : Option Res), (some (cellsR b6 31 [vU64 m4.Addr, vU32 m4.Len, vU16 m4.ID, vU16 m4.Flags]) : Option Res), (some (rowS u8S v3 table1) : Option Res)], [Fact.sl DescS vl1 l]⟩ a w) [([], []), ([], [])] rfl (by kernel_rfl) ?_ (steps_cons ?_ (steps_cons ?_ (steps_nil))) ?_
                · intro a w hs
                  exact hs.startF [190, 191] [0, 1, 2] [0] rfl rfl rfl rfl
                · intro L a w hv K Q hK
                  have hs := hv
                  refine wpOp_yes rfl rfl rfl hs (congrArg (fun b => some (Value.bool b)) hg8) (OpT_loadCA (vs := [vU64 m2.Addr, vU32 m2.Len, vU16 m2.ID, vU16 m2.Flags]) rfl rfl rfl rfl tyF31 (i := 0) rfl rfl rfl) ?_
                  rintro _ rfl a' w' hs'
                  exact hK a' w' (hs'.putF (i := 6) rfl [0, 1, 2] [0] rfl rfl rfl rfl)
                · intro L a w hv K Q hK
                  have hs := hv
                  refine wpOp_yes rfl rfl rfl hs (congrArg (fun b => some (Value.bool b)) hg8) (OpT_loadCA (vs := [vU64 m4.Addr, vU32 m4.Len, vU16 m4.ID, vU16 m4.Flags]) rfl rfl rfl rfl tyF31 (i := 1) rfl rfl rfl) ?_
                  rintro _ rfl a' w' hs'
                  exact hK a' w' (hs'.putF (i := 7) rfl [0, 1, 2] [0] rfl rfl rfl rfl)
                · intro L a w hL hv
                  rw [allTrue hL] at hv
                  have hs := hv
                  refine (show TA _ _ _ 14 ⟨[(4, some (vl1)), (21, some (vI pick2)), (22, some (v3)), (189, some (vB (m1 == m3))), (190, some (.agg #[vU64 m2.Addr, vU32 m2.Len, vU16 m2.ID, vU16 m2.Flags])), (191, some (.agg #[vU64 m4.Addr, vU32 m4.Len, vU16 m4.ID, vU16 m4.Flags]))], [some (rowS u8S v3 table1)], [Fact.sl DescS vl1 l]⟩ from ?_) a w (hs.wkS [4, 21, 22, 189, 190, 191] [2] [0] rfl rfl rfl rfl)
                  clear hs hL
                  refine TA_yes htb (by kernel_rfl) rfl rfl rfl (congrArg (fun b => some (Value.bool b)) hg8) (OpT_bin rfl rfl rfl rfl rfl (eqT31_eql m2 m4)) ?_
                  rintro _ rfl
                  refine TA_step htb (by kernel_rfl) rfl rfl (OpT_pickT rfl rfl rfl (congrArg (fun b => some (Value.bool b)) hg8) rfl) ?_
                  refine TA_step htb (by kernel_rfl) rfl rfl (OpT_move rfl rfl rfl rfl) ?_
                  refine TA_wkS (fr' := [(4, some (vl1)), (21, some (vI pick2)), (22, some (v3)), (194, some (vB (m2 == m4)))]) (own' := [some (rowS u8S v3 table1)]) (shr' := [Fact.sl DescS vl1 l]) [4, 21, 22, 194] [0] [0] rfl rfl rfl rfl ?_
                  refine TA_retire (i := 0) rfl ?_
                  obtain ⟨hg9, h⟩ := chk_e h
                  obtain ⟨hc1, h⟩ := chk_e h
                  obtain ⟨table2, hx13, h⟩ := ob_e h
                  obtain ⟨hc2, h⟩ := chk_e h
                  obtain ⟨table3, hx14, h⟩ := ob_e h
                  obtain ⟨hc3, h⟩ := chk_e h
                  refine TA_seg (lo := 17) (hi := 30) htb rfl rfl (by kernel_rfl) (fun c L a w => ∃ (v4 : Value), ∃ (v5 : Value), ∃ (v6 : Value), ∃ (v7 : Value), Sat c ⟨[(4, some (vl1)), (21, some (vI pick2)), (22, some (v3)), (194, some (vB (m2 == m4))), (195, bif L 17 then some (v3) else none), (196, bif L 18 then some (vS table1) else none), (197, bif L 19 then some (vl1) else none), (198, bif L 20 then some (vI pick2) else none), (199, bif L 21 then some (v4) else none), (200, bif L 22 then some (v5) else none), (201, bif L 23 then some (vS table2) else none), (202, bif L 24 then some (vl1) else none), (203, bif L 25 then some (vI pick2) else none), (204, bif L 26 then some (v6) else none), (205, bif L 27 then some (v7) else none), (206, bif L 28 then some (vS table3) else none), (207, bif L 29 then some (vS (table2 ++ table3)) else none)], [(none : Option Res)], [Fact.sl DescS vl1 l, Fact.sl u8S v3 table1, (bif L 21 then Fact.sl DescS v4 (sub l (0 : Int) pick2) else Fact.tt), (bif L 22 then Fact.sl u8S v5 table2 else Fact.tt), (bif L 26 then Fact.sl DescS v6 (sub l pick2 (len l)) else Fact.tt), (bif L 27 then Fact.sl u8S v7 table3 else Fact.tt)]⟩ a w) [([], [18]), ([17], []), ([], [21, 22, 23, 27, 28, 29]), ([], [21, 22, 23, 27, 28, 29]), ([19, 20], [22, 23, 27, 28, 29]), ([19, 20, 21], [23, 27, 28, 29]), ([19, 20, 21, 22], [29]), ([], [26, 27, 28, 29]), ([], [26, 27, 28, 29]), ([24, 25], [27, 28, 29]), ([19, 20, 21, 22, 24, 25, 26], [28, 29]), ([19, 20, 21, 22, 24, 25, 26, 27], [29]), ([19, 20, 21, 22, 23, 24, 25, 26, 27, 28], [])] rfl (by kernel_rfl) ?_ (steps_cons ?_ (steps_cons ?_ (steps_cons ?_ (steps_cons ?_ (steps_cons ?_ (steps_cons ?_ (steps_cons ?_ (steps_cons ?_ (steps_cons ?_ (steps_cons ?_ (steps_cons ?_ (steps_cons ?_ (steps_cons ?_ (steps_nil)))))))))))))) ?_
                  · intro a w hs
                    exact ⟨undef, undef, undef, undef, hs.startF [195, 196, 197, 198, 199, 200, 201, 202, 203, 204, 205, 206, 207] [0] [0, 1, 2, 3, 4, 5] rfl rfl rfl rfl⟩
                  · intro L a w hv K Q hK
                    obtain ⟨v4, v5, v6, v7, hs⟩ := hv
                    refine wpOp_yes rfl rfl rfl hs (congrArg (fun b => some (Value.bool b)) hg9) (OpT_move rfl rfl rfl rfl) ?_
                    rintro _ rfl a' w' hs'
                    exact hK a' w' ⟨v4, v5, v6, v7, hs'.putF (i := 4) rfl [0] [0, 1, 2, 3, 4, 5] rfl rfl rfl rfl⟩
                  · intro L a w hv K Q hK
                    obtain ⟨v4, v5, v6, v7, hs⟩ := hv
                    refine wpOp_yes rfl rfl rfl hs (congrArg (fun b => some (Value.bool b)) hg9) (OpT_strS rfl rfl rfl rfl Try.underlying34 Try.underlying5 Try.underlying9 (i := 1) rfl) ?_
                    rintro _ rfl a' w' hs'
                    exact hK a' w' ⟨v4, v5, v6, v7, hs'.putF (i := 5) rfl [0] [0, 1, 2, 3, 4, 5] rfl rfl rfl rfl⟩
                  · intro L a w hv K Q hK
                    obtain ⟨v4, v5, v6, v7, hs⟩ := hv
                    refine wpOp_yes rfl rfl rfl hs (congrArg (fun b => some (Value.bool b)) hg9) (OpT_move rfl rfl rfl rfl) ?_
                    rintro _ rfl a' w' hs'
                    exact hK a' w' ⟨v4, v5, v6, v7, hs'.putF (i := 6) rfl [0] [0, 1, 2, 3, 4, 5] rfl rfl rfl rfl⟩
                  · intro L a w hv K Q hK
                    obtain ⟨v4, v5, v6, v7, hs⟩ := hv
                    refine wpOp_yes rfl rfl rfl hs (congrArg (fun b => some (Value.bool b)) hg9) (OpT_move rfl rfl rfl rfl) ?_
                    rintro _ rfl a' w' hs'
                    exact hK a' w' ⟨v4, v5, v6, v7, hs'.putF (i := 7) rfl [0] [0, 1, 2, 3, 4, 5] rfl rfl rfl rfl⟩
                  · intro L a w hv K Q hK
                    obtain ⟨v4, v5, v6, v7, hs⟩ := hv
                    refine wpOp_yes rfl rfl rfl hs (congrArg (fun b => some (Value.bool b)) hg9) (OpT_sliceH (m := pick2) rfl rfl rfl rfl rfl slF32 (i := 0) rfl hc1) ?_
                    rintro _ ⟨v4', rfl⟩ a' w' hs'
                    exact hK a' w' ⟨v4', v5, v6, v7, hs'.putF (i := 8) rfl [0] [0, 1, 6, 3, 4, 5] rfl rfl rfl rfl⟩
                  · intro L a w hv K Q hK
                    obtain ⟨v4, v5, v6, v7, hs⟩ := hv
                    refine wpOp_yes rfl rfl rfl hs (congrArg (fun b => some (Value.bool b)) hg9) (OpT_call (ws_desc_Table hx13) [] [2] rfl rfl rfl rfl rfl callee17 rfl rfl rfl rfl) ?_
                    rintro _ ⟨v5', _, _, ⟨_, rfl, rfl, rfl⟩, rfl⟩ a' w' hs'
                    exact hK a' w' ⟨v4, v5', v6, v7, hs'.putF (i := 9) rfl [0] [0, 1, 2, 6, 4, 5] rfl rfl rfl rfl⟩
                  · intro L a w hv K Q hK
                    obtain ⟨v4, v5, v6, v7, hs⟩ := hv
                    refine wpOp_yes rfl rfl rfl hs (congrArg (fun b => some (Value.bool b)) hg9) (OpT_strS rfl rfl rfl rfl Try.underlying34 Try.underlying5 Try.underlying9 (i := 3) rfl) ?_
                    rintro _ rfl a' w' hs'
                    exact hK a' w' ⟨v4, v5, v6, v7, hs'.putF (i := 10) rfl [0] [0, 1, 2, 3, 4, 5] rfl rfl rfl rfl⟩
                  · intro L a w hv K Q hK
                    obtain ⟨v4, v5, v6, v7, hs⟩ := hv
                    refine wpOp_yes rfl rfl rfl hs (congrArg (fun b => some (Value.bool b)) hg9) (OpT_move rfl rfl rfl rfl) ?_
                    rintro _ rfl a' w' hs'
                    exact hK a' w' ⟨v4, v5, v6, v7, hs'.putF (i := 11) rfl [0] [0, 1, 2, 3, 4, 5] rfl rfl rfl rfl⟩
                  · intro L a w hv K Q hK
                    obtain ⟨v4, v5, v6, v7, hs⟩ := hv
                    refine wpOp_yes rfl rfl rfl hs (congrArg (fun b => some (Value.bool b)) hg9) (OpT_move rfl rfl rfl rfl) ?_
                    rintro _ rfl a' w' hs'
                    exact hK a' w' ⟨v4, v5, v6, v7, hs'.putF (i := 12) rfl [0] [0, 1, 2, 3, 4, 5] rfl rfl rfl rfl⟩
                  · intro L a w hv K Q hK
                    obtain ⟨v4, v5, v6, v7, hs⟩ := hv
                    refine wpOp_yes rfl rfl rfl hs (congrArg (fun b => some (Value.bool b)) hg9) (OpT_sliceL (l := pick2) rfl rfl rfl rfl rfl slF32 (i := 0) rfl hc2) ?_
                    rintro _ ⟨v6', rfl⟩ a' w' hs'
                    exact hK a' w' ⟨v4, v5, v6', v7, hs'.putF (i := 13) rfl [0] [0, 1, 2, 3, 6, 5] rfl rfl rfl rfl⟩
                  · intro L a w hv K Q hK
                    obtain ⟨v4, v5, v6, v7, hs⟩ := hv
                    refine wpOp_yes rfl rfl rfl hs (congrArg (fun b => some (Value.bool b)) hg9) (OpT_call (ws_desc_Table hx14) [] [4] rfl rfl rfl rfl rfl callee17 rfl rfl rfl rfl) ?_
                    rintro _ ⟨v7', _, _, ⟨_, rfl, rfl, rfl⟩, rfl⟩ a' w' hs'
                    exact hK a' w' ⟨v4, v5, v6, v7', hs'.putF (i := 14) rfl [0] [0, 1, 2, 3, 4, 6] rfl rfl rfl rfl⟩
                  · intro L a w hv K Q hK
                    obtain ⟨v4, v5, v6, v7, hs⟩ := hv
                    refine wpOp_yes rfl rfl rfl hs (congrArg (fun b => some (Value.bool b)) hg9) (OpT_strS rfl rfl rfl rfl Try.underlying34 Try.underlying5 Try.underlying9 (i := 5) rfl) ?_
                    rintro _ rfl a' w' hs'
                    exact hK a' w' ⟨v4, v5, v6, v7, hs'.putF (i := 15) rfl [0] [0, 1, 2, 3, 4, 5] rfl rfl rfl rfl⟩
                  · intro L a w hv K Q hK
                    obtain ⟨v4, v5, v6, v7, hs⟩ := hv
                    refine wpOp_yes rfl rfl rfl hs (congrArg (fun b => some (Value.bool b)) hg9) (OpT_bin rfl rfl rfl rfl rfl (bin_add_s (a := table2) (b := table3) hc3)) ?_
                    rintro _ rfl a' w' hs'
                    exact hK a' w' ⟨v4, v5, v6, v7, hs'.putF (i := 16) rfl [0] [0, 1, 2, 3, 4, 5] rfl rfl rfl rfl⟩
                  · intro L a w hL hv
                    rw [allTrue hL] at hv
                    obtain ⟨v4, v5, v6, v7, hs⟩ := hv
                    refine (show TA _ _ _ 30 ⟨[(194, some (vB (m2 == m4))), (196, some (vS table1)), (207, some (vS (table2 ++ table3)))], [], []⟩ from ?_) a w (hs.wkS [194, 196, 207] [] [] rfl rfl rfl rfl)
                    clear hs hL
                    refine TA_yes htb (by kernel_rfl) rfl rfl rfl (congrArg (fun b => some (Value.bool b)) hg9) (OpT_bin rfl rfl rfl rfl rfl (bin_eql_s (a := table1) (b := table2 ++ table3))) ?_
                    rintro _ rfl
                    refine TA_step htb (by kernel_rfl) rfl rfl (OpT_pickT rfl rfl rfl (congrArg (fun b => some (Value.bool b)) hg9) rfl) ?_
                    refine TA_step htb (by kernel_rfl) rfl rfl (OpT_assign rfl rfl rfl rfl) ?_
                    refine TA_end rfl ?_
                    refine Tk_wkS (fr' := [(12, some (vB (table1 == (table2 ++ table3))))]) (own' := []) (shr' := []) [12] [] [] rfl rfl rfl rfl ?_
                    obtain ⟨hg10, h⟩ := chk_e h
                    exact Tk_retV rfl (resA (vs := [.bool true]) rfl ⟨(congrArg (fun b => some (Value.bool b)) hg10), trivial⟩) [] [] rfl rfl rfl ⟨rfl, rfl, rfl⟩
            · intro HJ1
              refine Tk_block ?_
              refine Tk_seq ?_
              refine Tk_region ?_
              refine Tops_step rfl (OpT_move rfl rfl rfl rfl) ?_
              refine Tops_step rfl (OpT_bin rfl rfl rfl rfl rfl (bin_lss_i (a := pick1) (b := (8 : Int)))) ?_
              refine Tops_step rfl (OpT_assign rfl rfl rfl rfl) ?_
              refine Tops_nil ?_
              refine Tk_wkS (fr' := [(2, some (vI pick1)), (3, some (vU8 byp3)), (4, some (vl1)), (5, some (vI cut)), (6, some (.pointer (some ⟨b1, 0, none⟩))), (7, some (.pointer (some ⟨b2, 0, none⟩))), (15, some (.pointer (some ⟨b3, 0, none⟩))), (16, some (vI read1.2)), (17, some (.pointer (some ⟨b4, 0, none⟩))), (18, some (vI readpa1.2)), (19, some (.pointer (some ⟨b5, 0, none⟩))), (20, some (.pointer (some ⟨b6, 0, none⟩))), (98, some (vB (decide (pick1 < (8 : Int)))))]) (own' := [some (cellsR b1 29 [vU64 dp0.Addr, vU32 dp0.Len, vU16 dp0.Flags, vU16 dp0.Next]), some (cellsR b2 31 [vU64 pp1.Addr, vU32 pp1.Len, vU16 pp1.ID, vU16 pp1.Flags]), some (cellsR b3 29 [vU64 read1.1.Addr, vU32 read1.1.Len, vU16 read1.1.Flags, vU16 read1.1.Next]), some (cellsR b4 31 [vU64 readpa1.1.Addr, vU32 readpa1.1.Len, vU16 readpa1.1.ID, vU16 readpa1.1.Flags]), some (cellsR b5 29 [vU64 dp0.Addr, vU32 dp0.Len, vU16 dp0.Flags, vU16 dp0.Next]), some (cellsR b6 31 [vU64 pp1.Addr, vU32 pp1.Len, vU16 pp1.ID, vU16 pp1.Flags])]) (shr' := [Fact.sl DescS vl1 l]) [2, 3, 4, 5, 6, 7, 15, 16, 17, 18, 19, 20, 98] [0, 1, 2, 3, 4, 5] [0] rfl rfl rfl rfl ?_
              refine Tk_join (α := Desc × Packed × Desc × Packed) (fun s => ⟨[(4, some (vl1)), (5, some (vI cut)), (15, some (.pointer (some ⟨b3, 0, none⟩))), (16, some (vI read1.2)), (17, some (.pointer (some ⟨b4, 0, none⟩))), (18, some (vI readpa1.2)), (19, some (.pointer (some ⟨b5, 0, none⟩))), (20, some (.pointer (some ⟨b6, 0, none⟩)))], [some (cellsR b3 29 [vU64 s.1.Addr, vU32 s.1.Len, vU16 s.1.Flags, vU16 s.1.Next]), some (cellsR b4 31 [vU64 s.2.1.Addr, vU32 s.2.1.Len, vU16 s.2.1.ID, vU16 s.2.1.Flags]), some (cellsR b5 29 [vU64 s.2.2.1.Addr, vU32 s.2.2.1.Len, vU16 s.2.2.1.Flags, vU16 s.2.2.1.Next]), some (cellsR b6 31 [vU64 s.2.2.2.Addr, vU32 s.2.2.2.Len, vU16 s.2.2.2.ID, vU16 s.2.2.2.Flags])], [Fact.sl DescS vl1 l]⟩) (fun s => law_DescFieldsJ2 l cut read1 readpa1 s.1 s.2.1 s.2.2.1 s.2.2.2 = some true) ?_ ?_
              · rintro ⟨m5, m6, m7, m8⟩ h
                replace h : law_DescFieldsJ2 l cut read1 readpa1 m5 m6 m7 m8 = some true := h
                unfold law_DescFieldsJ2 at h
                refine Tk_blk ?_
                exact Tk_jmpS (HJ1 (m5, m6, m7, m8) h) [4, 5, 15, 16, 17, 18, 19, 20] [0, 1, 2, 3] [0] rfl rfl rfl rfl
              · intro HJ2
                rcases Bool.eq_false_or_eq_true (decide (pick1 < (8 : Int))) with hg11 | hg11
                · replace h := br_t hg11 h
                  refine Tk_condT (congrArg (fun b => some (Value.bool b)) hg11) ?_
                  refine Tk_drawT (by kernel_rfl) ?_
                  refine TA_tb [0, 1, 0, 4, 0, 16, 48, 124, 255, 0, 512, 0, 2048, 0, 8192, 24576, 63488, 130560, 511, 262655, 1048575, 2097151] (by kernel_rfl) fun htb => ?_
                  refine TA_wkS (fr' := [(2, some (vI pick1)), (3, some (vU8 byp3)), (4, some (vl1)), (5, some (vI cut)), (6, some (.pointer (some ⟨b1, 0, none⟩))), (7, some (.pointer (some ⟨b2, 0, none⟩))), (15, some (.pointer (some ⟨b3, 0, none⟩))), (16, some (vI read1.2)), (17, some (.pointer (some ⟨b4, 0, none⟩))), (18, some (vI readpa1.2)), (19, some (.pointer (some ⟨b5, 0, none⟩))), (20, some (.pointer (some ⟨b6, 0, none⟩)))]) (own' := [some (cellsR b1 29 [vU64 dp0.Addr, vU32 dp0.Len, vU16 dp0.Flags, vU16 dp0.Next]), some (cellsR b2 31 [vU64 pp1.Addr, vU32 pp1.Len, vU16 pp1.ID, vU16 pp1.Flags]), some (cellsR b3 29 [vU64 read1.1.Addr, vU32 read1.1.Len, vU16 read1.1.Flags, vU16 read1.1.Next]), some (cellsR b4 31 [vU64 readpa1.1.Addr, vU32 readpa1.1.Len, vU16 readpa1.1.ID, vU16 readpa1.1.Flags]), some (cellsR b5 29 [vU64 dp0.Addr, vU32 dp0.Len, vU16 dp0.Flags, vU16 dp0.Next]), some (cellsR b6 31 [vU64 pp1.Addr, vU32 pp1.Len, vU16 pp1.ID, vU16 pp1.Flags])]) (shr' := [Fact.sl DescS vl1 l]) [2, 3, 4, 5, 6, 7, 15, 16, 17, 18, 19, 20] [0, 1, 2, 3, 4, 5] [0] rfl rfl rfl rfl ?_
                  refine TA_seg (lo := 0) (hi := 20) htb rfl rfl (by kernel_rfl) (fun c L a w => Sat c ⟨[(2, some (vI pick1)), (3, some (vU8 byp3)), (4, some (vl1)), (5, some (vI cut)), (6, some (.pointer (some ⟨b1, 0, none⟩))), (7, some (.pointer (some ⟨b2, 0, none⟩))), (15, some (.pointer (some ⟨b3, 0, none⟩))), (16, some (vI read1.2)), (17, some (.pointer (some ⟨b4, 0, none⟩))), (18, some (vI readpa1.2)), (19, some (.pointer (some ⟨b5, 0, none⟩))), (20, some (.pointer (some ⟨b6, 0, none⟩))), (101, bif L 0 then some (.pointer (some ⟨b1, 0, none⟩)) else none), (102, bif L 1 then some (vU64 dp0.Addr) else none), (103, bif L 2 then some (vU8 byp3) else none), (104, bif L 3 then some (vU64 byp3.toUInt64) else none), (105, bif L 4 then some (vI pick1) else none), (106, bif L 5 then some (vI (wi ((8 : Int) * pick1))) else none), (107, bif L 6 then some (vU64 (u64 (wi ((8 : Int) * pick1)))) else none), (108, bif L 7 then some (vU64 (shl64 byp3.toUInt64 ((u64 (wi ((8 : Int) * pick1))).toNat))) else none), (109, bif L 8 then some (vU64 (dp0.Addr ^^^ (shl64 byp3.toUInt64 ((u64 (wi ((8 : Int) * pick1))).toNat)))) else none), (110, bif L 9 then some (.pointer (some ⟨b2, 0, none⟩)) else none), (111, bif L 10 then some (vU64 pp1.Addr) else none), (112, bif L 11 then some (vU8 byp3) else none), (113, bif L 12 then some (vU64 byp3.toUInt64) else none), (114, bif L 13 then some (vI pick1) else none), (115, bif L 14 then some (vI (wi ((8 : Int) * pick1))) else none), (116, bif L 15 then some (vU64 (u64 (wi ((8 : Int) * pick1)))) else none), (117, bif L 16 then some (vU64 (shl64 byp3.toUInt64 ((u64 (wi ((8 : Int) * pick1))).toNat))) else none), (118, bif L 17 then some (vU64 (pp1.Addr ^^^ (shl64 byp3.toUInt64 ((u64 (wi ((8 : Int) * pick1))).toNat)))) else none), (119, bif L 18 then some (.pointer (some ⟨b5, 0, none⟩)) else none)], [(some (cellsR b1 29 [vU64 dp0.Addr, vU32 dp0.Len, vU16 dp0.Flags, vU16 dp0.Next]) : Option Res), (some (cellsR b2 31 [vU64 pp1.Addr, vU32 pp1.Len, vU16 pp1.ID, vU16 pp1.Flags]) : Option Res), (some (cellsR b3 29 [vU64 read1.1.Addr, vU32 read1.1.Len, vU16 read1.1.Flags, vU16 read1.1.Next]) : Option Res), (some (cellsR b4 31 [vU64 readpa1.1.Addr, vU32 readpa1.1.Len, vU16 readpa1.1.ID, vU16 readpa1.1.Flags]) : Option Res), (bif L 19 then some (cellsR b5 29 [vU64 (dp0.Addr ^^^ (shl64 byp3.toUInt64 ((u64 (wi ((8 : Int) * pick1))).toNat))), vU32 dp0.Len, vU16 dp0.Flags, vU16 dp0.Next]) else some (cellsR b5 29 [vU64 dp0.Addr, vU32 dp0.Len, vU16 dp0.Flags, vU16 dp0.Next]) : Option Res), (some (cellsR b6 31 [vU64 pp1.Addr, vU32 pp1.Len, vU16 pp1.ID, vU16 pp1.Flags]) : Option Res)], [Fact.sl DescS vl1 l]⟩ a w) [([], [1, 8, 18, 19]), ([0], [8, 18, 19]), ([], [3, 7, 8, 18, 19]), ([2], [7, 8, 18, 19]), ([], [5, 6, 7, 8, 18, 19]), ([4], [6, 7, 8, 18, 19]), ([4, 5], [7, 8, 18, 19]), ([2, 3, 4, 5, 6], [8, 18, 19]), ([0, 1, 2, 3, 4, 5, 6, 7], [18, 19]), ([], [10, 17]), ([9], [17]), ([], [12, 16, 17]), ([11], [16, 17]), ([], [14, 15, 16, 17]), ([13], [15, 16, 17]), ([13, 14], [16, 17]), ([11, 12, 13, 14, 15], [17]), ([9, 10, 11, 12, 13, 14, 15, 16], []), ([0, 1, 2, 3, 4, 5, 6, 7, 8], [19]), ([0, 1, 2, 3, 4, 5, 6, 7, 8, 18], [])] rfl (by kernel_rfl) ?_ (steps_cons ?_ (steps_cons ?_ (steps_cons ?_ (steps_cons ?_ (steps_cons ?_ (steps_cons ?_ (steps_cons ?_ (steps_cons ?_ (steps_cons ?_ (steps_cons ?_ (steps_cons ?_ (steps_cons ?_ (steps_cons ?_ (steps_cons ?_ (steps_cons ?_ (steps_cons ?_ (steps_cons ?_ (steps_cons ?_ (steps_cons ?_ (steps_cons ?_ (steps_nil))))))))))))))))))))) ?_
                  · intro a w hs
                    exact hs.startF [101, 102, 103, 104, 105, 106, 107, 108, 109, 110, 111, 112, 113, 114, 115, 116, 117, 118, 119] [0, 1, 2, 3, 4, 5] [0] rfl rfl rfl rfl
                  · intro L a w hv K Q hK
                    have hs := hv
                    refine wpOp_go rfl rfl hs (OpT_fieldC rfl rfl rfl rfl fldF29x0) ?_
                    rintro _ rfl a' w' hs'
                    exact hK a' w' (hs'.putF (i := 12) rfl [0, 1, 2, 3, 4, 5] [0] rfl rfl rfl rfl)
                  · intro L a w hv K Q hK
                    have hs := hv
                    refine wpOp_go rfl rfl hs (OpT_loadC rfl rfl rfl rfl tyF26 (i := 0) rfl rfl) ?_
                    rintro _ rfl a' w' hs'
                    exact hK a' w' (hs'.putF (i := 13) rfl [0, 1, 2, 3, 4, 5] [0] rfl rfl rfl rfl)
                  · intro L a w hv K Q hK
                    have hs := hv
                    refine wpOp_go rfl rfl hs (OpT_move rfl rfl rfl rfl) ?_
                    rintro _ rfl a' w' hs'
                    exact hK a' w' (hs'.putF (i := 14) rfl [0, 1, 2, 3, 4, 5] [0] rfl rfl rfl rfl)
                  · intro L a w hv K Q hK
                    have hs := hv
                    refine wpOp_go rfl rfl hs (OpT_cnv rfl rfl rfl rfl (cnv_u8_u64 (n := byp3) Try.underlying5 Try.underlying26)) ?_
                    rintro _ rfl a' w' hs'
                    exact hK a' w' (hs'.putF (i := 15) rfl [0, 1, 2, 3, 4, 5] [0] rfl rfl rfl rfl)
                  · intro L a w hv K Q hK
                    have hs := hv
                    refine wpOp_go rfl rfl hs (OpT_move rfl rfl rfl rfl) ?_
                    rintro _ rfl a' w' hs'
                    exact hK a' w' (hs'.putF (i := 16) rfl [0, 1, 2, 3, 4, 5] [0] rfl rfl rfl rfl)
                  · intro L a w hv K Q hK
                    have hs := hv
                    refine wpOp_go rfl rfl hs (OpT_bin rfl rfl rfl rfl rfl (bin_mul_i (a := (8 : Int)) (b := pick1))) ?_
                    rintro _ rfl a' w' hs'
                    exact hK a' w' (hs'.putF (i := 17) rfl [0, 1, 2, 3, 4, 5] [0] rfl rfl rfl rfl)
                  · intro L a w hv K Q hK
                    have hs := hv
                    refine wpOp_go rfl rfl hs (OpT_cnv rfl rfl rfl rfl (cnv_i_u64 (n := wi ((8 : Int) * pick1)) Try.underlying3 Try.underlying42)) ?_
                    rintro _ rfl a' w' hs'
                    exact hK a' w' (hs'.putF (i := 18) rfl [0, 1, 2, 3, 4, 5] [0] rfl rfl rfl rfl)
                  · intro L a w hv K Q hK
                    have hs := hv
                    refine wpOp_go rfl rfl hs (OpT_bin rfl rfl rfl rfl rfl (bin_shl_u64_u64 (a := byp3.toUInt64) (n := u64 (wi ((8 : Int) * pick1))))) ?_
                    rintro _ rfl a' w' hs'
                    exact hK a' w' (hs'.putF (i := 19) rfl [0, 1, 2, 3, 4, 5] [0] rfl rfl rfl rfl)
                  · intro L a w hv K Q hK
                    have hs := hv
                    refine wpOp_go rfl rfl hs (OpT_bin rfl rfl rfl rfl rfl (bin_xor_u64 (a := dp0.Addr) (b := shl64 byp3.toUInt64 ((u64 (wi ((8 : Int) * pick1))).toNat)))) ?_
                    rintro _ rfl a' w' hs'
                    exact hK a' w' (hs'.putF (i := 20) rfl [0, 1, 2, 3, 4, 5] [0] rfl rfl rfl rfl)
                  · intro L a w hv K Q hK
                    have hs := hv
                    refine wpOp_go rfl rfl hs (OpT_fieldC rfl rfl rfl rfl fldF31x0) ?_
                    rintro _ rfl a' w' hs'
                    exact hK a' w' (hs'.putF (i := 21) rfl [0, 1, 2, 3, 4, 5] [0] rfl rfl rfl rfl)
                  · intro L a w hv K Q hK
                    have hs := hv
                    refine wpOp_go rfl rfl hs (OpT_loadC rfl rfl rfl rfl tyF26 (i := 1) rfl rfl) ?_
                    rintro _ rfl a' w' hs'
                    exact hK a' w' (hs'.putF (i := 22) rfl [0, 1, 2, 3, 4, 5] [0] rfl rfl rfl rfl)
                  · intro L a w hv K Q hK
                    have hs := hv
                    refine wpOp_go rfl rfl hs (OpT_move rfl rfl rfl rfl) ?_
                    rintro _ rfl a' w' hs'
                    exact hK a' w' (hs'.putF (i := 23) rfl [0, 1, 2, 3, 4, 5] [0] rfl rfl rfl rfl)
                  · intro L a w hv K Q hK
                    have hs := hv
                    refine wpOp_go rfl rfl hs (OpT_cnv rfl rfl rfl rfl (cnv_u8_u64 (n := byp3) Try.underlying5 Try.underlying26)) ?_
                    rintro _ rfl a' w' hs'
                    exact hK a' w' (hs'.putF (i := 24) rfl [0, 1, 2, 3, 4, 5] [0] rfl rfl rfl rfl)
                  · intro L a w hv K Q hK
                    have hs := hv
                    refine wpOp_go rfl rfl hs (OpT_move rfl rfl rfl rfl) ?_
                    rintro _ rfl a' w' hs'
                    exact hK a' w' (hs'.putF (i := 25) rfl [0, 1, 2, 3, 4, 5] [0] rfl rfl rfl rfl)
                  · intro L a w hv K Q hK
                    have hs := hv
                    refine wpOp_go rfl rfl hs (OpT_bin rfl rfl rfl rfl rfl (bin_mul_i (a := (8 : Int)) (b := pick1))) ?_
                    rintro _ rfl a' w' hs'
                    exact hK a' w' (hs'.putF (i := 26) rfl [0, 1, 2, 3, 4, 5] [0] rfl rfl rfl rfl)
                  · intro L a w hv K Q hK
                    have hs := hv
                    refine wpOp_go rfl rfl hs (OpT_cnv rfl rfl rfl rfl (cnv_i_u64 (n := wi ((8 : Int) * pick1)) Try.underlying3 Try.underlying42)) ?_
                    rintro _ rfl a' w' hs'
                    exact hK a' w' (hs'.putF (i := 27) rfl [0, 1, 2, 3, 4, 5] [0] rfl rfl rfl rfl)
                  · intro L a w hv K Q hK
                    have hs := hv
                    refine wpOp_go rfl rfl hs (OpT_bin rfl rfl rfl rfl rfl (bin_shl_u64_u64 (a := byp3.toUInt64) (n := u64 (wi ((8 : Int) * pick1))))) ?_
                    rintro _ rfl a' w' hs'
                    exact hK a' w' (hs'.putF (i := 28) rfl [0, 1, 2, 3, 4, 5] [0] rfl rfl rfl rfl)
                  · intro L a w hv K Q hK
                    have hs := hv
                    refine wpOp_go rfl rfl hs (OpT_bin rfl rfl rfl rfl rfl (bin_xor_u64 (a := pp1.Addr) (b := shl64 byp3.toUInt64 ((u64 (wi ((8 : Int) * pick1))).toNat)))) ?_
                    rintro _ rfl a' w' hs'
                    exact hK a' w' (hs'.putF (i := 29) rfl [0, 1, 2, 3, 4, 5] [0] rfl rfl rfl rfl)
                  · intro L a w hv K Q hK
                    have hs := hv
                    refine wpOp_go rfl rfl hs (OpT_fieldC rfl rfl rfl rfl fldF29x0) ?_
                    rintro _ rfl a' w' hs'
                    exact hK a' w' (hs'.putF (i := 30) rfl [0, 1, 2, 3, 4, 5] [0] rfl rfl rfl rfl)
                  · intro L a w hv K Q hK
                    have hs := hv
                    refine wpOp_go rfl rfl hs (OpT_storeC (cs' := [vU64 (dp0.Addr ^^^ (shl64 byp3.toUInt64 ((u64 (wi ((8 : Int) * pick1))).toNat))), vU32 dp0.Len, vU16 dp0.Flags, vU16 dp0.Next]) rfl rfl rfl rfl tyF26 (i := 4) rfl rfl rfl (one_of rfl) rfl) ?_
                    rintro _ rfl a' w' hs'
                    exact hK a' w' (hs'.sameF [0, 1, 2, 3, 4, 5] [0] rfl rfl rfl rfl)
                  · intro L a w hL hv
                    rw [allTrue hL] at hv
                    have hs := hv
                    refine (show TA _ _ _ 20 ⟨[(4, some (vl1)), (5, some (vI cut)), (15, some (.pointer (some ⟨b3, 0, none⟩))), (16, some (vI read1.2)), (17, some (.pointer (some ⟨b4, 0, none⟩))), (18, some (vI readpa1.2)), (19, some (.pointer (some ⟨b5, 0, none⟩))), (20, some (.pointer (some ⟨b6, 0, none⟩))), (118, some (vU64 (pp1.Addr ^^^ (shl64 byp3.toUInt64 ((u64 (wi ((8 : Int) * pick1))).toNat)))))], [some (cellsR b3 29 [vU64 read1.1.Addr, vU32 read1.1.Len, vU16 read1.1.Flags, vU16 read1.1.Next]), some (cellsR b4 31 [vU64 readpa1.1.Addr, vU32 readpa1.1.Len, vU16 readpa1.1.ID, vU16 readpa1.1.Flags]), some (cellsR b5 29 [vU64 (dp0.Addr ^^^ (shl64 byp3.toUInt64 ((u64 (wi ((8 : Int) * pick1))).toNat))), vU32 dp0.Len, vU16 dp0.Flags, vU16 dp0.Next]), some (cellsR b6 31 [vU64 pp1.Addr, vU32 pp1.Len, vU16 pp1.ID, vU16 pp1.Flags])], [Fact.sl DescS vl1 l]⟩ from ?_) a w (hs.wkS [4, 5, 15, 16, 17, 18, 19, 20, 118] [2, 3, 4, 5] [0] rfl rfl rfl rfl)
                    clear hs hL
                    refine TA_step htb (by kernel_rfl) rfl rfl (OpT_fieldC rfl rfl rfl rfl fldF31x0) ?_
                    refine TA_step htb (by kernel_rfl) rfl rfl (OpT_storeC (cs' := [vU64 (pp1.Addr ^^^ (shl64 byp3.toUInt64 ((u64 (wi ((8 : Int) * pick1))).toNat))), vU32 pp1.Len, vU16 pp1.ID, vU16 pp1.Flags]) rfl rfl rfl rfl tyF26 (i := 3) rfl rfl rfl (one_of rfl) rfl) ?_
                    refine TA_end rfl ?_
                    refine Tk_wkS (fr' := [(4, some (vl1)), (5, some (vI cut)), (15, some (.pointer (some ⟨b3, 0, none⟩))), (16, some (vI read1.2)), (17, some (.pointer (some ⟨b4, 0, none⟩))), (18, some (vI readpa1.2)), (19, some (.pointer (some ⟨b5, 0, none⟩))), (20, some (.pointer (some ⟨b6, 0, none⟩)))]) (own' := [some (cellsR b3 29 [vU64 read1.1.Addr, vU32 read1.1.Len, vU16 read1.1.Flags, vU16 read1.1.Next]), some (cellsR b4 31 [vU64 readpa1.1.Addr, vU32 readpa1.1.Len, vU16 readpa1.1.ID, vU16 readpa1.1.Flags]), some (cellsR b5 29 [vU64 (dp0.Addr ^^^ (shl64 byp3.toUInt64 ((u64 (wi ((8 : Int) * pick1))).toNat))), vU32 dp0.Len, vU16 dp0.Flags, vU16 dp0.Next]), some (cellsR b6 31 [vU64 (pp1.Addr ^^^ (shl64 byp3.toUInt64 ((u64 (wi ((8 : Int) * pick1))).toNat))), vU32 pp1.Len, vU16 pp1.ID, vU16 pp1.Flags])]) (shr' := [Fact.sl DescS vl1 l]) [4, 5, 15, 16, 17, 18, 19, 20] [0, 1, 2, 3] [0] rfl rfl rfl rfl ?_
                    exact Tk_jmpS (HJ2 (read1.1, readpa1.1, (Desc.mk (dp0.Addr ^^^ (shl64 byp3.toUInt64 ((u64 (wi ((8 : Int) * pick1))).toNat))) dp0.Len dp0.Flags dp0.Next), (Packed.mk (pp1.Addr ^^^ (shl64 byp3.toUInt64 ((u64 (wi ((8 : Int) * pick1))).toNat))) pp1.Len pp1.ID pp1.Flags)) h) [4, 5, 15, 16, 17, 18, 19, 20] [0, 1, 2, 3] [0] rfl rfl rfl rfl
                · replace h := br_f hg11 h
                  refine Tk_condF (congrArg (fun b => some (Value.bool b)) hg11) ?_
                  refine Tk_seq ?_
                  refine Tk_region ?_
                  refine Tops_step rfl (OpT_move rfl rfl rfl rfl) ?_
                  refine Tops_step rfl (OpT_bin rfl rfl rfl rfl rfl (bin_lss_i (a := pick1) (b := (12 : Int)))) ?_
                  refine Tops_step rfl (OpT_assign rfl rfl rfl rfl) ?_
                  refine Tops_nil ?_
                  refine Tk_wkS (fr' := [(2, some (vI pick1)), (3, some (vU8 byp3)), (4, some (vl1)), (5, some (vI cut)), (6, some (.pointer (some ⟨b1, 0, none⟩))), (7, some (.pointer (some ⟨b2, 0, none⟩))), (15, some (.pointer (some ⟨b3, 0, none⟩))), (16, some (vI read1.2)), (17, some (.pointer (some ⟨b4, 0, none⟩))), (18, some (vI readpa1.2)), (19, some (.pointer (some ⟨b5, 0, none⟩))), (20, some (.pointer (some ⟨b6, 0, none⟩))), (121, some (vB (decide (pick1 < (12 : Int)))))]) (own' := [some (cellsR b1 29 [vU64 dp0.Addr, vU32 dp0.Len, vU16 dp0.Flags, vU16 dp0.Next]), some (cellsR b2 31 [vU64 pp1.Addr, vU32 pp1.Len, vU16 pp1.ID, vU16 pp1.Flags]), some (cellsR b3 29 [vU64 read1.1.Addr, vU32 read1.1.Len, vU16 read1.1.Flags, vU16 read1.1.Next]), some (cellsR b4 31 [vU64 readpa1.1.Addr, vU32 readpa1.1.Len, vU16 readpa1.1.ID, vU16 readpa1.1.Flags]), some (cellsR b5 29 [vU64 dp0.Addr, vU32 dp0.Len, vU16 dp0.Flags, vU16 dp0.Next]), some (cellsR b6 31 [vU64 pp1.Addr, vU32 pp1.Len, vU16 pp1.ID, vU16 pp1.Flags])]) (shr' := [Fact.sl DescS vl1 l]) [2, 3, 4, 5, 6, 7, 15, 16, 17, 18, 19, 20, 121] [0, 1, 2, 3, 4, 5] [0] rfl rfl rfl rfl ?_
                  rcases Bool.eq_false_or_eq_true (decide (pick1 < (12 : Int))) with hg12 | hg12
                  · replace h := br_t hg12 h
                    refine Tk_condT (congrArg (fun b => some (Value.bool b)) hg12) ?_
                    refine Tk_drawT (by kernel_rfl) ?_
                    refine TA_tb [0, 1, 0, 4, 0, 16, 48, 112, 252, 511, 0, 1024, 0, 4096, 0, 16384, 49152, 114688, 258048, 523264, 1023, 1049599, 4194303, 8388607] (by kernel_rfl) fun htb => ?_
                    refine TA_wkS (fr' := [(2, some (vI pick1)), (3, some (vU8 byp3)), (4, some (vl1)), (5, some (vI cut)), (6, some (.pointer (some ⟨b1, 0, none⟩))), (7, some (.pointer (some ⟨b2, 0, none⟩))), (15, some (.pointer (some ⟨b3, 0, none⟩))), (16, some (vI read1.2)), (17, some (.pointer (some ⟨b4, 0, none⟩))), (18, some (vI readpa1.2)), (19, some (.pointer (some ⟨b5, 0, none⟩))), (20, some (.pointer (some ⟨b6, 0, none⟩)))]) (own' := [some (cellsR b1 29 [vU64 dp0.Addr, vU32 dp0.Len, vU16 dp0.Flags, vU16 dp0.Next]), some (cellsR b2 31 [vU64 pp1.Addr, vU32 pp1.Len, vU16 pp1.ID, vU16 pp1.Flags]), some (cellsR b3 29 [vU64 read1.1.Addr, vU32 read1.1.Len, vU16 read1.1.Flags, vU16 read1.1.Next]), some (cellsR b4 31 [vU64 readpa1.1.Addr, vU32 readpa1.1.Len, vU16 readpa1.1.ID, vU16 readpa1.1.Flags]), some (cellsR b5 29 [vU64 dp0.Addr, vU32 dp0.Len, vU16 dp0.Flags, vU16 dp0.Next]), some (cellsR b6 31 [vU64 pp1.Addr, vU32 pp1.Len, vU16 pp1.ID, vU16 pp1.Flags])]) (shr' := [Fact.sl DescS vl1 l]) [2, 3, 4, 5, 6, 7, 15, 16, 17, 18, 19, 20] [0, 1, 2, 3, 4, 5] [0] rfl rfl rfl rfl ?_
                    refine TA_seg (lo := 0) (hi := 22) htb rfl rfl (by kernel_rfl) (fun c L a w => Sat c ⟨[(2, some (vI pick1)), (3, some (vU8 byp3)), (4, some (vl1)), (5, some (vI cut)), (6, some (.pointer (some ⟨b1, 0, none⟩))), (7, some (.pointer (some ⟨b2, 0, none⟩))), (15, some (.pointer (some ⟨b3, 0, none⟩))), (16, some (vI read1.2)), (17, some (.pointer (some ⟨b4, 0, none⟩))), (18, some (vI readpa1.2)), (19, some (.pointer (some ⟨b5, 0, none⟩))), (20, some (.pointer (some ⟨b6, 0, none⟩))), (124, bif L 0 then some (.pointer (some ⟨b1, 1, none⟩)) else none), (125, bif L 1 then some (vU32 dp0.Len) else none), (126, bif L 2 then some (vU8 byp3) else none), (127, bif L 3 then some (vU32 byp3.toUInt32) else none), (128, bif L 4 then some (vI pick1) else none), (129, bif L 5 then some (vI (wi ((8 : Int) * pick1))) else none), (130, bif L 6 then some (vI (wi ((wi ((8 : Int) * pick1)) - (64 : Int)))) else none), (131, bif L 7 then some (vU64 (u64 (wi ((wi ((8 : Int) * pick1)) - (64 : Int))))) else none), (132, bif L 8 then some (vU32 (shl32 byp3.toUInt32 ((u64 (wi ((wi ((8 : Int) * pick1)) - (64 : Int)))).toNat))) else none), (133, bif L 9 then some (vU32 (dp0.Len ^^^ (shl32 byp3.toUInt32 ((u64 (wi ((wi ((8 : Int) * pick1)) - (64 : Int)))).toNat)))) else none), (134, bif L 10 then some (.pointer (some ⟨b2, 1, none⟩)) else none), (135, bif L 11 then some (vU32 pp1.Len) else none), (136, bif L 12 then some (vU8 byp3) else none), (137, bif L 13 then some (vU32 byp3.toUInt32) else none), (138, bif L 14 then some (vI pick1) else none), (139, bif L 15 then some (vI (wi ((8 : Int) * pick1))) else none), (140, bif L 16 then some (vI (wi ((wi ((8 : Int) * pick1)) - (64 : Int)))) else none), (141, bif L 17 then some (vU64 (u64 (wi ((wi ((8 : Int) * pick1)) - (64 : Int))))) else none), (142, bif L 18 then some (vU32 (shl32 byp3.toUInt32 ((u64 (wi ((wi ((8 : Int) * pick1)) - (64 : Int)))).toNat))) else none), (143, bif L 19 then some (vU32 (pp1.Len ^^^ (shl32 byp3.toUInt32 ((u64 (wi ((wi ((8 : Int) * pick1)) - (64 : Int)))).toNat)))) else none), (144, bif L 20 then some (.pointer (some ⟨b5, 1, none⟩)) else none)], [(some (cellsR b1 29 [vU64 dp0.Addr, vU32 dp0.Len, vU16 dp0.Flags, vU16 dp0.Next]) : Option Res), (some (cellsR b2 31 [vU64 pp1.Addr, vU32 pp1.Len, vU16 pp1.ID, vU16 pp1.Flags]) : Option Res), (some (cellsR b3 29 [vU64 read1.1.Addr, vU32 read1.1.Len, vU16 read1.1.Flags, vU16 read1.1.Next]) : Option Res), (some (cellsR b4 31 [vU64 readpa1.1.Addr, vU32 readpa1.1.Len, vU16 readpa1.1.ID, vU16 readpa1.1.Flags]) : Option Res), (bif L 21 then some (cellsR b5 29 [vU64 dp0.Addr, vU32 (dp0.Len ^^^ (shl32 byp3.toUInt32 ((u64 (wi ((wi ((8 : Int) * pick1)) - (64 : Int)))).toNat))), vU16 dp0.Flags, vU16 dp0.Next]) else some (cellsR b5 29 [vU64 dp0.Addr, vU32 dp0.Len, vU16 dp0.Flags, vU16 dp0.Next]) : Option Res), (some (cellsR b6 31 [vU64 pp1.Addr, vU32 pp1.Len, vU16 pp1.ID, vU16 pp1.Flags]) : Option Res)], [Fact.sl DescS vl1 l]⟩ a w) [([], [1, 9, 20, 21]), ([0], [9, 20, 21]), ([], [3, 8, 9, 20, 21]), ([2], [8, 9, 20, 21]), ([], [5, 6, 7, 8, 9, 20, 21]), ([4], [6, 7, 8, 9, 20, 21]), ([4, 5], [7, 8, 9, 20, 21]), ([4, 5, 6], [8, 9, 20, 21]), ([2, 3, 4, 5, 6, 7], [9, 20, 21]), ([0, 1, 2, 3, 4, 5, 6, 7, 8], [20, 21]), ([], [11, 19]), ([10], [19]), ([], [13, 18, 19]), ([12], [18, 19]), ([], [15, 16, 17, 18, 19]), ([14], [16, 17, 18, 19]), ([14, 15], [17, 18, 19]), ([14, 15, 16], [18, 19]), ([12, 13, 14, 15, 16, 17], [19]), ([10, 11, 12, 13, 14, 15, 16, 17, 18], []), ([0, 1, 2, 3, 4, 5, 6, 7, 8, 9], [21]), ([0, 1, 2, 3, 4, 5, 6, 7, 8, 9, 20], [])] rfl (by kernel_rfl) ?_ (steps_cons ?_ (steps_cons ?_ (steps_cons ?_ (steps_cons ?_ (steps_cons ?_ (steps_cons ?_ (steps_cons ?_ (steps_cons ?_ (steps_cons ?_ (steps_cons ?_ (steps_cons ?_ (steps_cons ?_ (steps_cons ?_ (steps_cons ?_ (steps_cons ?_ (steps_cons ?_ (steps_cons ?_ (steps_cons ?_ (steps_cons ?_ (steps_cons ?_ (steps_cons ?_ (steps_cons ?_ (steps_nil))))))))))))))))))))))) ?_
                    · intro a w hs
                      exact hs.startF [124, 125, 126, 127, 128, 129, 130, 131, 132, 133, 134, 135, 136, 137, 138, 139, 140, 141, 142, 143, 144] [0, 1, 2, 3, 4, 5] [0] rfl rfl rfl rfl
                    · intro L a w hv K Q hK
                      have hs := hv
                      refine wpOp_go rfl rfl hs (OpT_fieldC rfl rfl rfl rfl fldF29x1) ?_
                      rintro _ rfl a' w' hs'
                      exact hK a' w' (hs'.putF (i := 12) rfl [0, 1, 2, 3, 4, 5] [0] rfl rfl rfl rfl)
                    · intro L a w hv K Q hK
                      have hs := hv
                      refine wpOp_go rfl rfl hs (OpT_loadC rfl rfl rfl rfl tyF27 (i := 0) rfl rfl) ?_
                      rintro _ rfl a' w' hs'
                      exact hK a' w' (hs'.putF (i := 13) rfl [0, 1, 2, 3, 4, 5] [0] rfl rfl rfl rfl)
                    · intro L a w hv K Q hK
                      have hs := hv
                      refine wpOp_go rfl rfl hs (OpT_move rfl rfl rfl rfl) ?_
                      rintro _ rfl a' w' hs'
                      exact hK a' w' (hs'.putF (i := 14) rfl [0, 1, 2, 3, 4, 5] [0] rfl rfl rfl rfl)
                    · intro L a w hv K Q hK
                      have hs := hv
                      refine wpOp_go rfl rfl hs (OpT_cnv rfl rfl rfl rfl (cnv_u8_u32 (n := byp3) Try.underlying5 Try.underlying27)) ?_
                      rintro _ rfl a' w' hs'
                      exact hK a' w' (hs'.putF (i := 15) rfl [0, 1, 2, 3, 4, 5] [0] rfl rfl rfl rfl)
                    · intro L a w hv K Q hK
                      have hs := hv
                      refine wpOp_go rfl rfl hs (OpT_move rfl rfl rfl rfl) ?_
                      rintro _ rfl a' w' hs'
                      exact hK a' w' (hs'.putF (i := 16) rfl [0, 1, 2, 3, 4, 5] [0] rfl rfl rfl rfl)
                    · intro L a w hv K Q hK
                      have hs := hv
                      refine wpOp_go rfl rfl hs (OpT_bin rfl rfl rfl rfl rfl (bin_mul_i (a := (8 : Int)) (b := pick1))) ?_
                      rintro _ rfl a' w' hs'
                      exact hK a' w' (hs'.putF (i := 17) rfl [0, 1, 2, 3, 4, 5] [0] rfl rfl rfl rfl)
                    · intro L a w hv K Q hK
                      have hs := hv
                      refine wpOp_go rfl rfl hs (OpT_bin rfl rfl rfl rfl rfl (bin_sub_i (a := wi ((8 : Int) * pick1)) (b := (64 : Int)))) ?_
                      rintro _ rfl a' w' hs'
                      exact hK a' w' (hs'.putF (i := 18) rfl [0, 1, 2, 3, 4, 5] [0] rfl rfl rfl rfl)
                    · intro L a w hv K Q hK
                      have hs := hv
                      refine wpOp_go rfl rfl hs (OpT_cnv rfl rfl rfl rfl (cnv_i_u64 (n := wi ((wi ((8 : Int) * pick1)) - (64 : Int))) Try.underlying3 Try.underlying42)) ?_
                      rintro _ rfl a' w' hs'
                      exact hK a' w' (hs'.putF (i := 19) rfl [0, 1, 2, 3, 4, 5] [0] rfl rfl rfl rfl)
                    · intro L a w hv K Q hK
                      have hs := hv
                      refine wpOp_go rfl rfl hs (OpT_bin rfl rfl rfl rfl rfl (bin_shl_u32_u64 (a := byp3.toUInt32) (n := u64 (wi ((wi ((8 : Int) * pick1)) - (64 : Int)))))) ?_
                      rintro _ rfl a' w' hs'
                      exact hK a' w' (hs'.putF (i := 20) rfl [0, 1, 2, 3, 4, 5] [0] rfl rfl rfl rfl)
                    · intro L a w hv K Q hK
                      have hs := hv
                      refine wpOp_go rfl rfl hs (OpT_bin rfl rfl rfl rfl rfl (bin_xor_u32 (a := dp0.Len) (b := shl32 byp3.toUInt32 ((u64 (wi ((wi ((8 : Int) * pick1)) - (64 : Int)))).toNat)))) ?_
                      rintro _ rfl a' w' hs'
                      exact hK a' w' (hs'.putF (i := 21) rfl [0, 1, 2, 3, 4, 5] [0] rfl rfl rfl rfl)
                    · intro L a w hv K Q hK
                      have hs := hv
                      refine wpOp_go rfl rfl hs (OpT_fieldC rfl rfl rfl rfl fldF31x1) ?_
                      rintro _ rfl a' w' hs'
                      exact hK a' w' (hs'.putF (i := 22) rfl [0, 1, 2, 3, 4, 5] [0] rfl rfl rfl rfl)
                    · intro L a w hv K Q hK
                      have hs := hv
                      refine wpOp_go rfl rfl hs (OpT_loadC rfl rfl rfl rfl tyF27 (i := 1) rfl rfl) ?_
                      rintro _ rfl a' w' hs'
                      exact hK a' w' (hs'.putF (i := 23) rfl [0, 1, 2, 3, 4, 5] [0] rfl rfl rfl rfl)
                    · intro L a w hv K Q hK
                      have hs := hv
                      refine wpOp_go rfl rfl hs (OpT_move rfl rfl rfl rfl) ?_
                      rintro _ rfl a' w' hs'
                      exact hK a' w' (hs'.putF (i := 24) rfl [0, 1, 2, 3, 4, 5] [0] rfl rfl rfl rfl)
                    · intro L a w hv K Q hK
                      have hs := hv
                      refine wpOp_go rfl rfl hs (OpT_cnv rfl rfl rfl rfl (cnv_u8_u32 (n := byp3) Try.underlying5 Try.underlying27)) ?_
                      rintro _ rfl a' w' hs'
                      exact hK a' w' (hs'.putF (i := 25) rfl [0, 1, 2, 3, 4, 5] [0] rfl rfl rfl rfl)
                    · intro L a w hv K Q hK
                      have hs := hv
                      refine wpOp_go rfl rfl hs (OpT_move rfl rfl rfl rfl) ?_
                      rintro _ rfl a' w' hs'
                      exact hK a' w' (hs'.putF (i := 26) rfl [0, 1, 2, 3, 4, 5] [0] rfl rfl rfl rfl)
                    · intro L a w hv K Q hK
                      have hs := hv
                      refine wpOp_go rfl rfl hs (OpT_bin rfl rfl rfl rfl rfl (bin_mul_i (a := (8 : Int)) (b := pick1))) ?_
                      rintro _ rfl a' w' hs'
                      exact hK a' w' (hs'.putF (i := 27) rfl [0, 1, 2, 3, 4, 5] [0] rfl rfl rfl rfl)
                    · intro L a w hv K Q hK
                      have hs := hv
                      refine wpOp_go rfl rfl hs (OpT_bin rfl rfl rfl rfl rfl (bin_sub_i (a := wi ((8 : Int) * pick1)) (b := (64 : Int)))) ?_
                      rintro _ rfl a' w' hs'
                      exact hK a' w' (hs'.putF (i := 28) rfl [0, 1, 2, 3, 4, 5] [0] rfl rfl rfl rfl)
                    · intro L a w hv K Q hK
                      have hs := hv
                      refine wpOp_go rfl rfl hs (OpT_cnv rfl rfl rfl rfl (cnv_i_u64 (n := wi ((wi ((8 : Int) * pick1)) - (64 : Int))) Try.underlying3 Try.underlying42)) ?_
                      rintro _ rfl a' w' hs'
                      exact hK a' w' (hs'.putF (i := 29) rfl [0, 1, 2, 3, 4, 5] [0] rfl rfl rfl rfl)
                    · intro L a w hv K Q hK
                      have hs := hv
                      refine wpOp_go rfl rfl hs (OpT_bin rfl rfl rfl rfl rfl (bin_shl_u32_u64 (a := byp3.toUInt32) (n := u64 (wi ((wi ((8 : Int) * pick1)) - (64 : Int)))))) ?_
                      rintro _ rfl a' w' hs'
                      exact hK a' w' (hs'.putF (i := 30) rfl [0, 1, 2, 3, 4, 5] [0] rfl rfl rfl rfl)
                    · intro L a w hv K Q hK
                      have hs := hv
                      refine wpOp_go rfl rfl hs (OpT_bin rfl rfl rfl rfl rfl (bin_xor_u32 (a := pp1.Len) (b := shl32 byp3.toUInt32 ((u64 (wi ((wi ((8 : Int) * pick1)) - (64 : Int)))).toNat)))) ?_
                      rintro _ rfl a' w' hs'
                      exact hK a' w' (hs'.putF (i := 31) rfl [0, 1, 2, 3, 4, 5] [0] rfl rfl rfl rfl)
                    · intro L a w hv K Q hK
                      have hs := hv
                      refine wpOp_go rfl rfl hs (OpT_fieldC rfl rfl rfl rfl fldF29x1) ?_
                      rintro _ rfl a' w' hs'
                      exact hK a' w' (hs'.putF (i := 32) rfl [0, 1, 2, 3, 4, 5] [0] rfl rfl rfl rfl)
                    · intro L a w hv K Q hK
                      have hs := hv
                      refine wpOp_go rfl rfl hs (OpT_storeC (cs' := [vU64 dp0.Addr, vU32 (dp0.Len ^^^ (shl32 byp3.toUInt32 ((u64 (wi ((wi ((8 : Int) * pick1)) - (64 : Int)))).toNat))), vU16 dp0.Flags, vU16 dp0.Next]) rfl rfl rfl rfl tyF27 (i := 4) rfl rfl rfl (one_of rfl) rfl) ?_
                      rintro _ rfl a' w' hs'
                      exact hK a' w' (hs'.sameF [0, 1, 2, 3, 4, 5] [0] rfl rfl rfl rfl)
                    · intro L a w hL hv
                      rw [allTrue hL] at hv
                      have hs := hv
                      refine (show TA _ _ _ 22 ⟨[(4, some (vl1)), (5, some (vI cut)), (15, some (.pointer (some ⟨b3, 0, none⟩))), (16, some (vI read1.2)), (17, some (.pointer (some ⟨b4, 0, none⟩))), (18, some (vI readpa1.2)), (19, some (.pointer (some ⟨b5, 0, none⟩))), (20, some (.pointer (some ⟨b6, 0, none⟩))), (143, some (vU32 (pp1.Len ^^^ (shl32 byp3.toUInt32 ((u64 (wi ((wi ((8 : Int) * pick1)) - (64 : Int)))).toNat)))))], [some (cellsR b3 29 [vU64 read1.1.Addr, vU32 read1.1.Len, vU16 read1.1.Flags, vU16 read1.1.Next]), some (cellsR b4 31 [vU64 readpa1.1.Addr, vU32 readpa1.1.Len, vU16 readpa1.1.ID, vU16 readpa1.1.Flags]), some (cellsR b5 29 [vU64 dp0.Addr, vU32 (dp0.Len ^^^ (shl32 byp3.toUInt32 ((u64 (wi ((wi ((8 : Int) * pick1)) - (64 : Int)))).toNat))), vU16 dp0.Flags, vU16 dp0.Next]), some (cellsR b6 31 [vU64 pp1.Addr, vU32 pp1.Len, vU16 pp1.ID, vU16 pp1.Flags])], [Fact.sl DescS vl1 l]⟩ from ?_) a w (hs.wkS [4, 5, 15, 16, 17, 18, 19, 20, 143] [2, 3, 4, 5] [0] rfl rfl rfl rfl)
                      clear hs hL
                      refine TA_step htb (by kernel_rfl) rfl rfl (OpT_fieldC rfl rfl rfl rfl fldF31x1) ?_
                      refine TA_step htb (by kernel_rfl) rfl rfl (OpT_storeC (cs' := [vU64 pp1.Addr, vU32 (pp1.Len ^^^ (shl32 byp3.toUInt32 ((u64 (wi ((wi ((8 : Int) * pick1)) - (64 : Int)))).toNat))), vU16 pp1.ID, vU16 pp1.Flags]) rfl rfl rfl rfl tyF27 (i := 3) rfl rfl rfl (one_of rfl) rfl) ?_
                      refine TA_end rfl ?_
                      refine Tk_wkS (fr' := [(4, some (vl1)), (5, some (vI cut)), (15, some (.pointer (some ⟨b3, 0, none⟩))), (16, some (vI read1.2)), (17, some (.pointer (some ⟨b4, 0, none⟩))), (18, some (vI readpa1.2)), (19, some (.pointer (some ⟨b5, 0, none⟩))), (20, some (.pointer (some ⟨b6, 0, none⟩)))]) (own' := [some (cellsR b3 29 [vU64 read1.1.Addr, vU32 read1.1.Len, vU16 read1.1.Flags, vU16 read1.1.Next]), some (cellsR b4 31 [vU64 readpa1.1.Addr, vU32 readpa1.1.Len, vU16 readpa1.1.ID, vU16 readpa1.1.Flags]), some (cellsR b5 29 [vU64 dp0.Addr, vU32 (dp0.Len ^^^ (shl32 byp3.toUInt32 ((u64 (wi ((wi ((8 : Int) * pick1)) - (64 : Int)))).toNat))), vU16 dp0.Flags, vU16 dp0.Next]), some (cellsR b6 31 [vU64 pp1.Addr, vU32 (pp1.Len ^^^ (shl32 byp3.toUInt32 ((u64 (wi ((wi ((8 : Int) * pick1)) - (64 : Int)))).toNat))), vU16 pp1.ID, vU16 pp1.Flags])]) (shr' := [Fact.sl DescS vl1 l]) [4, 5, 15, 16, 17, 18, 19, 20] [0, 1, 2, 3] [0] rfl rfl rfl rfl ?_
                      exact Tk_jmpS (HJ2 (read1.1, readpa1.1, (Desc.mk dp0.Addr (dp0.Len ^^^ (shl32 byp3.toUInt32 ((u64 (wi ((wi ((8 : Int) * pick1)) - (64 : Int)))).toNat))) dp0.Flags dp0.Next), (Packed.mk pp1.Addr (pp1.Len ^^^ (shl32 byp3.toUInt32 ((u64 (wi ((wi ((8 : Int) * pick1)) - (64 : Int)))).toNat))) pp1.ID pp1.Flags)) h) [4, 5, 15, 16, 17, 18, 19, 20] [0, 1, 2, 3] [0] rfl rfl rfl rfl
                  · replace h := br_f hg12 h
                    refine Tk_condF (congrArg (fun b => some (Value.bool b)) hg12) ?_
                    refine Tk_seq ?_
                    refine Tk_region ?_
                    refine Tops_step rfl (OpT_move rfl rfl rfl rfl) ?_
                    refine Tops_step rfl (OpT_bin rfl rfl rfl rfl rfl (bin_lss_i (a := pick1) (b := (14 : Int)))) ?_
                    refine Tops_step rfl (OpT_assign rfl rfl rfl rfl) ?_
                    refine Tops_nil ?_
                    refine Tk_wkS (fr' := [(2, some (vI pick1)), (3, some (vU8 byp3)), (4, some (vl1)), (5, some (vI cut)), (6, some (.pointer (some ⟨b1, 0, none⟩))), (7, some (.pointer (some ⟨b2, 0, none⟩))), (15, some (.pointer (some ⟨b3, 0, none⟩))), (16, some (vI read1.2)), (17, some (.pointer (some ⟨b4, 0, none⟩))), (18, some (vI readpa1.2)), (19, some (.pointer (some ⟨b5, 0, none⟩))), (20, some (.pointer (some ⟨b6, 0, none⟩))), (146, some (vB (decide (pick1 < (14 : Int)))))]) (own' := [some (cellsR b1 29 [vU64 dp0.Addr, vU32 dp0.Len, vU16 dp0.Flags, vU16 dp0.Next]), some (cellsR b2 31 [vU64 pp1.Addr, vU32 pp1.Len, vU16 pp1.ID, vU16 pp1.Flags]), some (cellsR b3 29 [vU64 read1.1.Addr, vU32 read1.1.Len, vU16 read1.1.Flags, vU16 read1.1.Next]), some (cellsR b4 31 [vU64 readpa1.1.Addr, vU32 readpa1.1.Len, vU16 readpa1.1.ID, vU16 readpa1.1.Flags]), some (cellsR b5 29 [vU64 dp0.Addr, vU32 dp0.Len, vU16 dp0.Flags, vU16 dp0.Next]), some (cellsR b6 31 [vU64 pp1.Addr, vU32 pp1.Len, vU16 pp1.ID, vU16 pp1.Flags])]) (shr' := [Fact.sl DescS vl1 l]) [2, 3, 4, 5, 6, 7, 15, 16, 17, 18, 19, 20, 146] [0, 1, 2, 3, 4, 5] [0] rfl rfl rfl rfl ?_
                    rcases Bool.eq_false_or_eq_true (decide (pick1 < (14 : Int))) with hg13 | hg13
                    · replace h := br_t hg13 h
                      refine Tk_condT (congrArg (fun b => some (Value.bool b)) hg13) ?_
                      refine Tk_drawT (by kernel_rfl) ?_
                      refine TA_tb [0, 1, 0, 4, 0, 16, 48, 112, 252, 511, 0, 1024, 0, 4096, 0, 16384, 49152, 114688, 258048, 523264, 1023, 1049599, 4194303, 8388607] (by kernel_rfl) fun htb => ?_
                      refine TA_wkS (fr' := [(2, some (vI pick1)), (3, some (vU8 byp3)), (4, some (vl1)), (5, some (vI cut)), (6, some (.pointer (some ⟨b1, 0, none⟩))), (7, some (.pointer (some ⟨b2, 0, none⟩))), (15, some (.pointer (some ⟨b3, 0, none⟩))), (16, some (vI read1.2)), (17, some (.pointer (some ⟨b4, 0, none⟩))), (18, some (vI readpa1.2)), (19, some (.pointer (some ⟨b5, 0, none⟩))), (20, some (.pointer (some ⟨b6, 0, none⟩)))]) (own' := [some (cellsR b1 29 [vU64 dp0.Addr, vU32 dp0.Len, vU16 dp0.Flags, vU16 dp0.Next]), some (cellsR b2 31 [vU64 pp1.Addr, vU32 pp1.Len, vU16 pp1.ID, vU16 pp1.Flags]), some (cellsR b3 29 [vU64 read1.1.Addr, vU32 read1.1.Len, vU16 read1.1.Flags, vU16 read1.1.Next]), some (cellsR b4 31 [vU64 readpa1.1.Addr, vU32 readpa1.1.Len, vU16 readpa1.1.ID, vU16 readpa1.1.Flags]), some (cellsR b5 29 [vU64 dp0.Addr, vU32 dp0.Len, vU16 dp0.Flags, vU16 dp0.Next]), some (cellsR b6 31 [vU64 pp1.Addr, vU32 pp1.Len, vU16 pp1.ID, vU16 pp1.Flags])]) (shr' := [Fact.sl DescS vl1 l]) [2, 3, 4, 5, 6, 7, 15, 16, 17, 18, 19, 20] [0, 1, 2, 3, 4, 5] [0] rfl rfl rfl rfl ?_
                      refine TA_seg (lo := 0) (hi := 22) htb rfl rfl (by kernel_rfl) (fun c L a w => Sat c ⟨[(2, some (vI pick1)), (3, some (vU8 byp3)), (4, some (vl1)), (5, some (vI cut)), (6, some (.pointer (some ⟨b1, 0, none⟩))), (7, some (.pointer (some ⟨b2, 0, none⟩))), (15, some (.pointer (some ⟨b3, 0, none⟩))), (16, some (vI read1.2)), (17, some (.pointer (some ⟨b4, 0, none⟩))), (18, some (vI readpa1.2)), (19, some (.pointer (some ⟨b5, 0, none⟩))), (20, some (.pointer (some ⟨b6, 0, none⟩))), (149, bif L 0 then some (.pointer (some ⟨b1, 2, none⟩)) else none), (150, bif L 1 then some (vU16 dp0.Flags) else none), (151, bif L 2 then some (vU8 byp3) else none), (152, bif L 3 then some (vU16 byp3.toUInt16) else none), (153, bif L 4 then some (vI pick1) else none), (154, bif L 5 then some (vI (wi ((8 : Int) * pick1))) else none), (155, bif L 6 then some (vI (wi ((wi ((8 : Int) * pick1)) - (96 : Int)))) else none), (156, bif L 7 then some (vU64 (u64 (wi ((wi ((8 : Int) * pick1)) - (96 : Int))))) else none), (157, bif L 8 then some (vU16 (shl16 byp3.toUInt16 ((u64 (wi ((wi ((8 : Int) * pick1)) - (96 : Int)))).toNat))) else none), (158, bif L 9 then some (vU16 (dp0.Flags ^^^ (shl16 byp3.toUInt16 ((u64 (wi ((wi ((8 : Int) * pick1)) - (96 : Int)))).toNat)))) else none), (159, bif L 10 then some (.pointer (some ⟨b2, 2, none⟩)) else none), (160, bif L 11 then some (vU16 pp1.ID) else none), (161, bif L 12 then some (vU8 byp3) else none), (162, bif L 13 then some (vU16 byp3.toUInt16) else none), (163, bif L 14 then some (vI pick1) else none), (164, bif L 15 then some (vI (wi ((8 : Int) * pick1))) else none), (165, bif L 16 then some (vI (wi ((wi ((8 : Int) * pick1)) - (96 : Int)))) else none), (166, bif L 17 then some (vU64 (u64 (wi ((wi ((8 : Int) * pick1)) - (96 : Int))))) else none), (167, bif L 18 then some (vU16 (shl16 byp3.toUInt16 ((u64 (wi ((wi ((8 : Int) * pick1)) - (96 : Int)))).toNat))) else none), (168, bif L 19 then some (vU16 (pp1.ID ^^^ (shl16 byp3.toUInt16 ((u64 (wi ((wi ((8 : Int) * pick1)) - (96 : Int)))).toNat)))) else none), (169, bif L 20 then some (.pointer (some ⟨b5, 2, none⟩)) else none)], [(some (cellsR b1 29 [vU64 dp0.Addr, vU32 dp0.Len, vU16 dp0.Flags, vU16 dp0.Next]) : Option Res), (some (cellsR b2 31 [vU64 pp1.Addr, vU32 pp1.Len, vU16 pp1.ID, vU16 pp1.Flags]) : Option Res), (some (cellsR b3 29 [vU64 read1.1.Addr, vU32 read1.1.Len, vU16 read1.1.Flags, vU16 read1.1.Next]) : Option Res), (some (cellsR b4 31 [vU64 readpa1.1.Addr, vU32 readpa1.1.Len, vU16 readpa1.1.ID, vU16 readpa1.1.Flags]) : Option Res), (bif L 21 then some (cellsR b5 29 [vU64 dp0.Addr, vU32 dp0.Len, vU16 (dp0.Flags ^^^ (shl16 byp3.toUInt16 ((u64 (wi ((wi ((8 : Int) * pick1)) - (96 : Int)))).toNat))), vU16 dp0.Next]) else some (cellsR b5 29 [vU64 dp0.Addr, vU32 dp0.Len, vU16 dp0.Flags, vU16 dp0.Next]) : Option Res), (some (cellsR b6 31 [vU64 pp1.Addr, vU32 pp1.Len, vU16 pp1.ID, vU16 pp1.Flags]) : Option Res)], [Fact.sl DescS vl1 l]⟩ a w) [([], [1, 9, 20, 21]), ([0], [9, 20, 21]), ([], [3, 8, 9, 20, 21]), ([2], [8, 9, 20, 21]), ([], [5, 6, 7, 8, 9, 20, 21]), ([4], [6, 7, 8, 9, 20, 21]), ([4, 5], [7, 8, 9, 20, 21]), ([4, 5, 6], [8, 9, 20, 21]), ([2, 3, 4, 5, 6, 7], [9, 20, 21]), ([0, 1, 2, 3, 4, 5, 6, 7, 8], [20, 21]), ([], [11, 19]), ([10], [19]), ([], [13, 18, 19]), ([12], [18, 19]), ([], [15, 16, 17, 18, 19]), ([14], [16, 17, 18, 19]), ([14, 15], [17, 18, 19]), ([14, 15, 16], [18, 19]), ([12, 13, 14, 15, 16, 17], [19]), ([10, 11, 12, 13, 14, 15, 16, 17, 18], []), ([0, 1, 2, 3, 4, 5, 6, 7, 8, 9], [21]), ([0, 1, 2, 3, 4, 5, 6, 7, 8, 9, 20], [])] rfl (by kernel_rfl) ?_ (steps_cons ?_ (steps_cons ?_ (steps_cons ?_ (steps_cons ?_ (steps_cons ?_ (steps_cons ?_ (steps_cons ?_ (steps_cons ?_ (steps_cons ?_ (steps_cons ?_ (steps_cons ?_ (steps_cons ?_ (steps_cons ?_ (steps_cons ?_ (steps_cons ?_ (steps_cons ?_ (steps_cons ?_ (steps_cons ?_ (steps_cons ?_ (steps_cons ?_ (steps_cons ?_ (steps_cons ?_ (steps_nil))))))))))))))))))))))) ?_
                      · intro a w hs
                        exact hs.startF [149, 150, 151, 152, 153, 154, 155, 156, 157, 158, 159, 160, 161, 162, 163, 164, 165, 166, 167, 168, 169] [0, 1, 2, 3, 4, 5] [0] rfl rfl rfl rfl
                      · intro L a w hv K Q hK
                        have hs := hv
                        refine wpOp_go rfl rfl hs (OpT_fieldC rfl rfl rfl rfl fldF29x2) ?_
                        rintro _ rfl a' w' hs'
                        exact hK a' w' (hs'.putF (i := 12) rfl [0, 1, 2, 3, 4, 5] [0] rfl rfl rfl rfl)
                      · intro L a w hv K Q hK
                        have hs := hv
                        refine wpOp_go rfl rfl hs (OpT_loadC rfl rfl rfl rfl tyF22 (i := 0) rfl rfl) ?_
                        rintro _ rfl a' w' hs'
                        exact hK a' w' (hs'.putF (i := 13) rfl [0, 1, 2, 3, 4, 5] [0] rfl rfl rfl rfl)
                      · intro L a w hv K Q hK
                        have hs := hv
                        refine wpOp_go rfl rfl hs (OpT_move rfl rfl rfl rfl) ?_
                        rintro _ rfl a' w' hs'
                        exact hK a' w' (hs'.putF (i := 14) rfl [0, 1, 2, 3, 4, 5] [0] rfl rfl rfl rfl)
                      · intro L a w hv K Q hK
                        have hs := hv
                        refine wpOp_go rfl rfl hs (OpT_cnv rfl rfl rfl rfl (cnv_u8_u16 (n := byp3) Try.underlying5 Try.underlying22)) ?_
                        rintro _ rfl a' w' hs'
                        exact hK a' w' (hs'.putF (i := 15) rfl [0, 1, 2, 3, 4, 5] [0] rfl rfl rfl rfl)
                      · intro L a w hv K Q hK
                        have hs := hv
                        refine wpOp_go rfl rfl hs (OpT_move rfl rfl rfl rfl) ?_
                        rintro _ rfl a' w' hs'
                        exact hK a' w' (hs'.putF (i := 16) rfl [0, 1, 2, 3, 4, 5] [0] rfl rfl rfl rfl)
                      · intro L a w hv K Q hK
                        have hs := hv
                        refine wpOp_go rfl rfl hs (OpT_bin rfl rfl rfl rfl rfl (bin_mul_i (a := (8 : Int)) (b := pick1))) ?_
                        rintro _ rfl a' w' hs'
                        exact hK a' w' (hs'.putF (i := 17) rfl [0, 1, 2, 3, 4, 5] [0] rfl rfl rfl rfl)
                      · intro L a w hv K Q hK
                        have hs := hv
                        refine wpOp_go rfl rfl hs (OpT_bin rfl rfl rfl rfl rfl (bin_sub_i (a := wi ((8 : Int) * pick1)) (b := (96 : Int)))) ?_
                        rintro _ rfl a' w' hs'
                        exact hK a' w' (hs'.putF (i := 18) rfl [0, 1, 2, 3, 4, 5] [0] rfl rfl rfl rfl)
                      · intro L a w hv K Q hK
                        have hs := hv
                        refine wpOp_go rfl rfl hs (OpT_cnv rfl rfl rfl rfl (cnv_i_u64 (n := wi ((wi ((8 : Int) * pick1)) - (96 : Int))) Try.underlying3 Try.underlying42)) ?_
                        rintro _ rfl a' w' hs'
                        exact hK a' w' (hs'.putF (i := 19) rfl [0, 1, 2, 3, 4, 5] [0] rfl rfl rfl rfl)
                      · intro L a w hv K Q hK
                        have hs := hv
                        refine wpOp_go rfl rfl hs (OpT_bin rfl rfl rfl rfl rfl (bin_shl_u16_u64 (a := byp3.toUInt16) (n := u64 (wi ((wi ((8 : Int) * pick1)) - (96 : Int)))))) ?_
                        rintro _ rfl a' w' hs'
                        exact hK a' w' (hs'.putF (i := 20) rfl [0, 1, 2, 3, 4, 5] [0] rfl rfl rfl rfl)
                      · intro L a w hv K Q hK
                        have hs := hv
                        refine wpOp_go rfl rfl hs (OpT_bin rfl rfl rfl rfl rfl (bin_xor_u16 (a := dp0.Flags) (b := shl16 byp3.toUInt16 ((u64 (wi ((wi ((8 : Int) * pick1)) - (96 : Int)))).toNat)))) ?_
                        rintro _ rfl a' w' hs'
                        exact hK a' w' (hs'.putF (i := 21) rfl [0, 1, 2, 3, 4, 5] [0] rfl rfl rfl rfl)
                      · intro L a w hv K Q hK
                        have hs := hv
                        refine wpOp_go rfl rfl hs (OpT_fieldC rfl rfl rfl rfl fldF31x2) ?_
                        rintro _ rfl a' w' hs'
                        exact hK a' w' (hs'.putF (i := 22) rfl [0, 1, 2, 3, 4, 5] [0] rfl rfl rfl rfl)
                      · intro L a w hv K Q hK
                        have hs := hv
                        refine wpOp_go rfl rfl hs (OpT_loadC rfl rfl rfl rfl tyF22 (i := 1) rfl rfl) ?_
                        rintro _ rfl a' w' hs'
                        exact hK a' w' (hs'.putF (i := 23) rfl [0, 1, 2, 3, 4, 5] [0] rfl rfl rfl rfl)
                      · intro L a w hv K Q hK
                        have hs := hv
                        refine wpOp_go rfl rfl hs (OpT_move rfl rfl rfl rfl) ?_
                        rintro _ rfl a' w' hs'
                        exact hK a' w' (hs'.putF (i := 24) rfl [0, 1, 2, 3, 4, 5] [0] rfl rfl rfl rfl)
                      · intro L a w hv K Q hK
                        have hs := hv
                        refine wpOp_go rfl rfl hs (OpT_cnv rfl rfl rfl rfl (cnv_u8_u16 (n := byp3) Try.underlying5 Try.underlying22)) ?_
                        rintro _ rfl a' w' hs'
                        exact hK a' w' (hs'.putF (i := 25) rfl [0, 1, 2, 3, 4, 5] [0] rfl rfl rfl rfl)
                      · intro L a w hv K Q hK
                        have hs := hv
                        refine wpOp_go rfl rfl hs (OpT_move rfl rfl rfl rfl) ?_
                        rintro _ rfl a' w' hs'
                        exact hK a' w' (hs'.putF (i := 26) rfl [0, 1, 2, 3, 4, 5] [0] rfl rfl rfl rfl)
                      · intro L a w hv K Q hK
                        have hs := hv
                        refine wpOp_go rfl rfl hs (OpT_bin rfl rfl rfl rfl rfl (bin_mul_i (a := (8 : Int)) (b := pick1))) ?_
                        rintro _ rfl a' w' hs'
                        exact hK a' w' (hs'.putF (i := 27) rfl [0, 1, 2, 3, 4, 5] [0] rfl rfl rfl rfl)
                      · intro L a w hv K Q hK
                        have hs := hv
                        refine wpOp_go rfl rfl hs (OpT_bin rfl rfl rfl rfl rfl (bin_sub_i (a := wi ((8 : Int) * pick1)) (b := (96 : Int)))) ?_
                        rintro _ rfl a' w' hs'
                        exact hK a' w' (hs'.putF (i := 28) rfl [0, 1, 2, 3, 4, 5] [0] rfl rfl rfl rfl)
                      · intro L a w hv K Q hK
                        have hs := hv
                        refine wpOp_go rfl rfl hs (OpT_cnv rfl rfl rfl rfl (cnv_i_u64 (n := wi ((wi ((8 : Int) * pick1)) - (96 : Int))) Try.underlying3 Try.underlying42)) ?_
                        rintro _ rfl a' w' hs'
                        exact hK a' w' (hs'.putF (i := 29) rfl [0, 1, 2, 3, 4, 5] [0] rfl rfl rfl rfl)
                      · intro L a w hv K Q hK
                        have hs := hv
                        refine wpOp_go rfl rfl hs (OpT_bin rfl rfl rfl rfl rfl (bin_shl_u16_u64 (a := byp3.toUInt16) (n := u64 (wi ((wi ((8 : Int) * pick1)) - (96 : Int)))))) ?_
                        rintro _ rfl a' w' hs'
                        exact hK a' w' (hs'.putF (i := 30) rfl [0, 1, 2, 3, 4, 5] [0] rfl rfl rfl rfl)
                      · intro L a w hv K Q hK
                        have hs := hv
                        refine wpOp_go rfl rfl hs (OpT_bin rfl rfl rfl rfl rfl (bin_xor_u16 (a := pp1.ID) (b := shl16 byp3.toUInt16 ((u64 (wi ((wi ((8 : Int) * pick1)) - (96 : Int)))).toNat)))) ?_
                        rintro _ rfl a' w' hs'
                        exact hK a' w' (hs'.putF (i := 31) rfl [0, 1, 2, 3, 4, 5] [0] rfl rfl rfl rfl)
                      · intro L a w hv K Q hK
                        have hs := hv
                        refine wpOp_go rfl rfl hs (OpT_fieldC rfl rfl rfl rfl fldF29x2) ?_
                        rintro _ rfl a' w' hs'
                        exact hK a' w' (hs'.putF (i := 32) rfl [0, 1, 2, 3, 4, 5] [0] rfl rfl rfl rfl)
                      · intro L a w hv K Q hK
                        have hs := hv
                        refine wpOp_go rfl rfl hs (OpT_storeC (cs' := [vU64 dp0.Addr, vU32 dp0.Len, vU16 (dp0.Flags ^^^ (shl16 byp3.toUInt16 ((u64 (wi ((wi ((8 : Int) * pick1)) - (96 : Int)))).toNat))), vU16 dp0.Next]) rfl rfl rfl rfl tyF22 (i := 4) rfl rfl rfl (one_of rfl) rfl) ?_
                        rintro _ rfl a' w' hs'
                        exact hK a' w' (hs'.sameF [0, 1, 2, 3, 4, 5] [0] rfl rfl rfl rfl)
                      · intro L a w hL hv
                        rw [allTrue hL] at hv
                        have hs := hv
                        refine (show TA _ _ _ 22 ⟨[(4, some (vl1)), (5, some (vI cut)), (15, some (.pointer (some ⟨b3, 0, none⟩))), (16, some (vI read1.2)), (17, some (.pointer (some ⟨b4, 0, none⟩))), (18, some (vI readpa1.2)), (19, some (.pointer (some ⟨b5, 0, none⟩))), (20, some (.pointer (some ⟨b6, 0, none⟩))), (168, some (vU16 (pp1.ID ^^^ (shl16 byp3.toUInt16 ((u64 (wi ((wi ((8 : Int) * pick1)) - (96 : Int)))).toNat)))))], [some (cellsR b3 29 [vU64 read1.1.Addr, vU32 read1.1.Len, vU16 read1.1.Flags, vU16 read1.1.Next]), some (cellsR b4 31 [vU64 readpa1.1.Addr, vU32 readpa1.1.Len, vU16 readpa1.1.ID, vU16 readpa1.1.Flags]), some (cellsR b5 29 [vU64 dp0.Addr, vU32 dp0.Len, vU16 (dp0.Flags ^^^ (shl16 byp3.toUInt16 ((u64 (wi ((wi ((8 : Int) * pick1)) - (96 : Int)))).toNat))), vU16 dp0.Next]), some (cellsR b6 31 [vU64 pp1.Addr, vU32 pp1.Len, vU16 pp1.ID, vU16 pp1.Flags])], [Fact.sl DescS vl1 l]⟩ from ?_) a w (hs.wkS [4, 5, 15, 16, 17, 18, 19, 20, 168] [2, 3, 4, 5] [0] rfl rfl rfl rfl)
                        clear hs hL
                        refine TA_step htb (by kernel_rfl) rfl rfl (OpT_fieldC rfl rfl rfl rfl fldF31x2) ?_
                        refine TA_step htb (by kernel_rfl) rfl rfl (OpT_storeC (cs' := [vU64 pp1.Addr, vU32 pp1.Len, vU16 (pp1.ID ^^^ (shl16 byp3.toUInt16 ((u64 (wi ((wi ((8 : Int) * pick1)) - (96 : Int)))).toNat))), vU16 pp1.Flags]) rfl rfl rfl rfl tyF22 (i := 3) rfl rfl rfl (one_of rfl) rfl) ?_
                        refine TA_end rfl ?_
                        refine Tk_wkS (fr' := [(4, some (vl1)), (5, some (vI cut)), (15, some (.pointer (some ⟨b3, 0, none⟩))), (16, some (vI read1.2)), (17, some (.pointer (some ⟨b4, 0, none⟩))), (18, some (vI readpa1.2)), (19, some (.pointer (some ⟨b5, 0, none⟩))), (20, some (.pointer (some ⟨b6, 0, none⟩)))]) (own' := [some (cellsR b3 29 [vU64 read1.1.Addr, vU32 read1.1.Len, vU16 read1.1.Flags, vU16 read1.1.Next]), some (cellsR b4 31 [vU64 readpa1.1.Addr, vU32 readpa1.1.Len, vU16 readpa1.1.ID, vU16 readpa1.1.Flags]), some (cellsR b5 29 [vU64 dp0.Addr, vU32 dp0.Len, vU16 (dp0.Flags ^^^ (shl16 byp3.toUInt16 ((u64 (wi ((wi ((8 : Int) * pick1)) - (96 : Int)))).toNat))), vU16 dp0.Next]), some (cellsR b6 31 [vU64 pp1.Addr, vU32 pp1.Len, vU16 (pp1.ID ^^^ (shl16 byp3.toUInt16 ((u64 (wi ((wi ((8 : Int) * pick1)) - (96 : Int)))).toNat))), vU16 pp1.Flags])]) (shr' := [Fact.sl DescS vl1 l]) [4, 5, 15, 16, 17, 18, 19, 20] [0, 1, 2, 3] [0] rfl rfl rfl rfl ?_
                        exact Tk_jmpS (HJ2 (read1.1, readpa1.1, (Desc.mk dp0.Addr dp0.Len (dp0.Flags ^^^ (shl16 byp3.toUInt16 ((u64 (wi ((wi ((8 : Int) * pick1)) - (96 : Int)))).toNat))) dp0.Next), (Packed.mk pp1.Addr pp1.Len (pp1.ID ^^^ (shl16 byp3.toUInt16 ((u64 (wi ((wi ((8 : Int) * pick1)) - (96 : Int)))).toNat))) pp1.Flags)) h) [4, 5, 15, 16, 17, 18, 19, 20] [0, 1, 2, 3] [0] rfl rfl rfl rfl
                    · replace h := br_f hg13 h
                      refine Tk_condF (congrArg (fun b => some (Value.bool b)) hg13) ?_
                      refine Tk_drawT (by kernel_rfl) ?_
                      refine TA_tb [0, 1, 0, 4, 0, 16, 48, 112, 252, 511, 0, 1024, 0, 4096, 0, 16384, 49152, 114688, 258048, 523264, 1023, 1049599, 4194303, 8388607] (by kernel_rfl) fun htb => ?_
                      refine TA_wkS (fr' := [(2, some (vI pick1)), (3, some (vU8 byp3)), (4, some (vl1)), (5, some (vI cut)), (6, some (.pointer (some ⟨b1, 0, none⟩))), (7, some (.pointer (some ⟨b2, 0, none⟩))), (15, some (.pointer (some ⟨b3, 0, none⟩))), (16, some (vI read1.2)), (17, some (.pointer (some ⟨b4, 0, none⟩))), (18, some (vI readpa1.2)), (19, some (.pointer (some ⟨b5, 0, none⟩))), (20, some (.pointer (some ⟨b6, 0, none⟩)))]) (own' := [some (cellsR b1 29 [vU64 dp0.Addr, vU32 dp0.Len, vU16 dp0.Flags, vU16 dp0.Next]), some (cellsR b2 31 [vU64 pp1.Addr, vU32 pp1.Len, vU16 pp1.ID, vU16 pp1.Flags]), some (cellsR b3 29 [vU64 read1.1.Addr, vU32 read1.1.Len, vU16 read1.1.Flags, vU16 read1.1.Next]), some (cellsR b4 31 [vU64 readpa1.1.Addr, vU32 readpa1.1.Len, vU16 readpa1.1.ID, vU16 readpa1.1.Flags]), some (cellsR b5 29 [vU64 dp0.Addr, vU32 dp0.Len, vU16 dp0.Flags, vU16 dp0.Next]), some (cellsR b6 31 [vU64 pp1.Addr, vU32 pp1.Len, vU16 pp1.ID, vU16 pp1.Flags])]) (shr' := [Fact.sl DescS vl1 l]) [2, 3, 4, 5, 6, 7, 15, 16, 17, 18, 19, 20] [0, 1, 2, 3, 4, 5] [0] rfl rfl rfl rfl ?_
                      refine TA_seg (lo := 0) (hi := 22) htb rfl rfl (by kernel_rfl) (fun c L a w => Sat c ⟨[(2, some (vI pick1)), (3, some (vU8 byp3)), (4, some (vl1)), (5, some (vI cut)), (6, some (.pointer (some ⟨b1, 0, none⟩))), (7, some (.pointer (some ⟨b2, 0, none⟩))), (15, some (.pointer (some ⟨b3, 0, none⟩))), (16, some (vI read1.2)), (17, some (.pointer (some ⟨b4, 0, none⟩))), (18, some (vI readpa1.2)), (19, some (.pointer (some ⟨b5, 0, none⟩))), (20, some (.pointer (some ⟨b6, 0, none⟩))), (76, bif L 0 then some (.pointer (some ⟨b1, 3, none⟩)) else none), (77, bif L 1 then some (vU16 dp0.Next) else none), (78, bif L 2 then some (vU8 byp3) else none), (79, bif L 3 then some (vU16 byp3.toUInt16) else none), (80, bif L 4 then some (vI pick1) else none), (81, bif L 5 then some (vI (wi ((8 : Int) * pick1))) else none), (82, bif L 6 then some (vI (wi ((wi ((8 : Int) * pick1)) - (112 : Int)))) else none), (83, bif L 7 then some (vU64 (u64 (wi ((wi ((8 : Int) * pick1)) - (112 : Int))))) else none), (84, bif L 8 then some (vU16 (shl16 byp3.toUInt16 ((u64 (wi ((wi ((8 : Int) * pick1)) - (112 : Int)))).toNat))) else none), (85, bif L 9 then some (vU16 (dp0.Next ^^^ (shl16 byp3.toUInt16 ((u64 (wi ((wi ((8 : Int) * pick1)) - (112 : Int)))).toNat)))) else none), (86, bif L 10 then some (.pointer (some ⟨b2, 3, none⟩)) else none), (87, bif L 11 then some (vU16 pp1.Flags) else none), (88, bif L 12 then some (vU8 byp3) else none), (89, bif L 13 then some (vU16 byp3.toUInt16) else none), (90, bif L 14 then some (vI pick1) else none), (91, bif L 15 then some (vI (wi ((8 : Int) * pick1))) else none), (92, bif L 16 then some (vI (wi ((wi ((8 : Int) * pick1)) - (112 : Int)))) else none), (93, bif L 17 then some (vU64 (u64 (wi ((wi ((8 : Int) * pick1)) - (112 : Int))))) else none), (94, bif L 18 then some (vU16 (shl16 byp3.toUInt16 ((u64 (wi ((wi ((8 : Int) * pick1)) - (112 : Int)))).toNat))) else none), (95, bif L 19 then some (vU16 (pp1.Flags ^^^ (shl16 byp3.toUInt16 ((u64 (wi ((wi ((8 : Int) * pick1)) - (112 : Int)))).toNat)))) else none), (96, bif L 20 then some (.pointer (some ⟨b5, 3, none⟩)) else none)], [(some (cellsR b1 29 [vU64 dp0.Addr, vU32 dp0.Len, vU16 dp0.Flags, vU16 dp0.Next]) : Option Res), (some (cellsR b2 31 [vU64 pp1.Addr, vU32 pp1.Len, vU16 pp1.ID, vU16 pp1.Flags]) : Option Res), (some (cellsR b3 29 [vU64 read1.1.Addr, vU32 read1.1.Len, vU16 read1.1.Flags, vU16 read1.1.Next]) : Option Res), (some (cellsR b4 31 [vU64 readpa1.1.Addr, vU32 readpa1.1.Len, vU16 readpa1.1.ID, vU16 readpa1.1.Flags]) : Option Res), (bif L 21 then some (cellsR b5 29 [vU64 dp0.Addr, vU32 dp0.Len, vU16 dp0.Flags, vU16 (dp0.Next ^^^ (shl16 byp3.toUInt16 ((u64 (wi ((wi ((8 : Int) * pick1)) - (112 : Int)))).toNat)))]) else some (cellsR b5 29 [vU64 dp0.Addr, vU32 dp0.Len, vU16 dp0.Flags, vU16 dp0.Next]) : Option Res), (some (cellsR b6 31 [vU64 pp1.Addr, vU32 pp1.Len, vU16 pp1.ID, vU16 pp1.Flags]) : Option Res)], [Fact.sl DescS vl1 l]⟩ a w) [([], [1, 9, 20, 21]), ([0], [9, 20, 21]), ([], [3, 8, 9, 20, 21]), ([2], [8, 9, 20, 21]), ([], [5, 6, 7, 8, 9, 20, 21]), ([4], [6, 7, 8, 9, 20, 21]), ([4, 5], [7, 8, 9, 20, 21]), ([4, 5, 6], [8, 9, 20, 21]), ([2, 3, 4, 5, 6, 7], [9, 20, 21]), ([0, 1, 2, 3, 4, 5, 6, 7, 8], [20, 21]), ([], [11, 19]), ([10], [19]), ([], [13, 18, 19]), ([12], [18, 19]), ([], [15, 16, 17, 18, 19]), ([14], [16, 17, 18, 19]), ([14, 15], [17, 18, 19]), ([14, 15, 16], [18, 19]), ([12, 13, 14, 15, 16, 17], [19]), ([10, 11, 12, 13, 14, 15, 16, 17, 18], []), ([0, 1, 2, 3, 4, 5, 6, 7, 8, 9], [21]), ([0, 1, 2, 3, 4, 5, 6, 7, 8, 9, 20], [])] rfl (by kernel_rfl) ?_ (steps_cons ?_ (steps_cons ?_ (steps_cons ?_ (steps_cons ?_ (steps_cons ?_ (steps_cons ?_ (steps_cons ?_ (steps_cons ?_ (steps_cons ?_ (steps_cons ?_ (steps_cons ?_ (steps_cons ?_ (steps_cons ?_ (steps_cons ?_ (steps_cons ?_ (steps_cons ?_ (steps_cons ?_ (steps_cons ?_ (steps_cons ?_ (steps_cons ?_ (steps_cons ?_ (steps_cons ?_ (steps_nil))))))))))))))))))))))) ?_
                      · intro a w hs
                        exact hs.startF [76, 77, 78, 79, 80, 81, 82, 83, 84, 85, 86, 87, 88, 89, 90, 91, 92, 93, 94, 95, 96] [0, 1, 2, 3, 4, 5] [0] rfl rfl rfl rfl
                      · intro L a w hv K Q hK
                        have hs := hv
                        refine wpOp_go rfl rfl hs (OpT_fieldC rfl rfl rfl rfl fldF29x3) ?_
                        rintro _ rfl a' w' hs'
                        exact hK a' w' (hs'.putF (i := 12) rfl [0, 1, 2, 3, 4, 5] [0] rfl rfl rfl rfl)
                      · intro L a w hv K Q hK
                        have hs := hv
                        refine wpOp_go rfl rfl hs (OpT_loadC rfl rfl rfl rfl tyF22 (i := 0) rfl rfl) ?_
                        rintro _ rfl a' w' hs'
                        exact hK a' w' (hs'.putF (i := 13) rfl [0, 1, 2, 3, 4, 5] [0] rfl rfl rfl rfl)
                      · intro L a w hv K Q hK
                        have hs := hv
                        refine wpOp_go rfl rfl hs (OpT_move rfl rfl rfl rfl) ?_
                        rintro _ rfl a' w' hs'
                        exact hK a' w' (hs'.putF (i := 14) rfl [0, 1, 2, 3, 4, 5] [0] rfl rfl rfl rfl)
                      · intro L a w hv K Q hK
                        have hs := hv
                        refine wpOp_go rfl rfl hs (OpT_cnv rfl rfl rfl rfl (cnv_u8_u16 (n := byp3) Try.underlying5 Try.underlying22)) ?_
                        rintro _ rfl a' w' hs'
                        exact hK a' w' (hs'.putF (i := 15) rfl [0, 1, 2, 3, 4, 5] [0] rfl rfl rfl rfl)
                      · intro L a w hv K Q hK
                        have hs := hv
                        refine wpOp_go rfl rfl hs (OpT_move rfl rfl rfl rfl) ?_
                        rintro _ rfl a' w' hs'
                        exact hK a' w' (hs'.putF (i := 16) rfl [0, 1, 2, 3, 4, 5] [0] rfl rfl rfl rfl)
                      · intro L a w hv K Q hK
                        have hs := hv
                        refine wpOp_go rfl rfl hs (OpT_bin rfl rfl rfl rfl rfl (bin_mul_i (a := (8 : Int)) (b := pick1))) ?_
                        rintro _ rfl a' w' hs'
                        exact hK a' w' (hs'.putF (i := 17) rfl [0, 1, 2, 3, 4, 5] [0] rfl rfl rfl rfl)
                      · intro L a w hv K Q hK
                        have hs := hv
                        refine wpOp_go rfl rfl hs (OpT_bin rfl rfl rfl rfl rfl (bin_sub_i (a := wi ((8 : Int) * pick1)) (b := (112 : Int)))) ?_
                        rintro _ rfl a' w' hs'
                        exact hK a' w' (hs'.putF (i := 18) rfl [0, 1, 2, 3, 4, 5] [0] rfl rfl rfl rfl)
                      · intro L a w hv K Q hK
                        have hs := hv
                        refine wpOp_go rfl rfl hs (OpT_cnv rfl rfl rfl rfl (cnv_i_u64 (n := wi ((wi ((8 : Int) * pick1)) - (112 : Int))) Try.underlying3 Try.underlying42)) ?_
                        rintro _ rfl a' w' hs'
                        exact hK a' w' (hs'.putF (i := 19) rfl [0, 1, 2, 3, 4, 5] [0] rfl rfl rfl rfl)
                      · intro L a w hv K Q hK
                        have hs := hv
                        refine wpOp_go rfl rfl hs (OpT_bin rfl rfl rfl rfl rfl (bin_shl_u16_u64 (a := byp3.toUInt16) (n := u64 (wi ((wi ((8 : Int) * pick1)) - (112 : Int)))))) ?_
                        rintro _ rfl a' w' hs'
                        exact hK a' w' (hs'.putF (i := 20) rfl [0, 1, 2, 3, 4, 5] [0] rfl rfl rfl rfl)
                      · intro L a w hv K Q hK
                        have hs := hv
                        refine wpOp_go rfl rfl hs (OpT_bin rfl rfl rfl rfl rfl (bin_xor_u16 (a := dp0.Next) (b := shl16 byp3.toUInt16 ((u64 (wi ((wi ((8 : Int) * pick1)) - (112 : Int)))).toNat)))) ?_
                        rintro _ rfl a' w' hs'
                        exact hK a' w' (hs'.putF (i := 21) rfl [0, 1, 2, 3, 4, 5] [0] rfl rfl rfl rfl)
                      · intro L a w hv K Q hK
                        have hs := hv
                        refine wpOp_go rfl rfl hs (OpT_fieldC rfl rfl rfl rfl fldF31x3) ?_
                        rintro _ rfl a' w' hs'
                        exact hK a' w' (hs'.putF (i := 22) rfl [0, 1, 2, 3, 4, 5] [0] rfl rfl rfl rfl)
                      · intro L a w hv K Q hK
                        have hs := hv
                        refine wpOp_go rfl rfl hs (OpT_loadC rfl rfl rfl rfl tyF22 (i := 1) rfl rfl) ?_
                        rintro _ rfl a' w' hs'
                        exact hK a' w' (hs'.putF (i := 23) rfl [0, 1, 2, 3, 4, 5] [0] rfl rfl rfl rfl)
                      · intro L a w hv K Q hK
                        have hs := hv
                        refine wpOp_go rfl rfl hs (OpT_move rfl rfl rfl rfl) ?_
                        rintro _ rfl a' w' hs'
                        exact hK a' w' (hs'.putF (i := 24) rfl [0, 1, 2, 3, 4, 5] [0] rfl rfl rfl rfl)
                      · intro L a w hv K Q hK
                        have hs := hv
                        refine wpOp_go rfl rfl hs (OpT_cnv rfl rfl rfl rfl (cnv_u8_u16 (n := byp3) Try.underlying5 Try.underlying22)) ?_
                        rintro _ rfl a' w' hs'
                        exact hK a' w' (hs'.putF (i := 25) rfl [0, 1, 2, 3, 4, 5] [0] rfl rfl rfl rfl)
                      · intro L a w hv K Q hK
                        have hs := hv
                        refine wpOp_go rfl rfl hs (OpT_move rfl rfl rfl rfl) ?_
                        rintro _ rfl a' w' hs'
                        exact hK a' w' (hs'.putF (i := 26) rfl [0, 1, 2, 3, 4, 5] [0] rfl rfl rfl rfl)
                      · intro L a w hv K Q hK
                        have hs := hv
                        refine wpOp_go rfl rfl hs (OpT_bin rfl rfl rfl rfl rfl (bin_mul_i (a := (8 : Int)) (b := pick1))) ?_
                        rintro _ rfl a' w' hs'
                        exact hK a' w' (hs'.putF (i := 27) rfl [0, 1, 2, 3, 4, 5] [0] rfl rfl rfl rfl)
                      · intro L a w hv K Q hK
                        have hs := hv
                        refine wpOp_go rfl rfl hs (OpT_bin rfl rfl rfl rfl rfl (bin_sub_i (a := wi ((8 : Int) * pick1)) (b := (112 : Int)))) ?_
                        rintro _ rfl a' w' hs'
                        exact hK a' w' (hs'.putF (i := 28) rfl [0, 1, 2, 3, 4, 5] [0] rfl rfl rfl rfl)
                      · intro L a w hv K Q hK
                        have hs := hv
                        refine wpOp_go rfl rfl hs (OpT_cnv rfl rfl rfl rfl (cnv_i_u64 (n := wi ((wi ((8 : Int) * pick1)) - (112 : Int))) Try.underlying3 Try.underlying42)) ?_
                        rintro _ rfl a' w' hs'
                        exact hK a' w' (hs'.putF (i := 29) rfl [0, 1, 2, 3, 4, 5] [0] rfl rfl rfl rfl)
                      · intro L a w hv K Q hK
                        have hs := hv
                        refine wpOp_go rfl rfl hs (OpT_bin rfl rfl rfl rfl rfl (bin_shl_u16_u64 (a := byp3.toUInt16) (n := u64 (wi ((wi ((8 : Int) * pick1)) - (112 : Int)))))) ?_
                        rintro _ rfl a' w' hs'
                        exact hK a' w' (hs'.putF (i := 30) rfl [0, 1, 2, 3, 4, 5] [0] rfl rfl rfl rfl)
                      · intro L a w hv K Q hK
                        have hs := hv
                        refine wpOp_go rfl rfl hs (OpT_bin rfl rfl rfl rfl rfl (bin_xor_u16 (a := pp1.Flags) (b := shl16 byp3.toUInt16 ((u64 (wi ((wi ((8 : Int) * pick1)) - (112 : Int)))).toNat)))) ?_
                        rintro _ rfl a' w' hs'
                        exact hK a' w' (hs'.putF (i := 31) rfl [0, 1, 2, 3, 4, 5] [0] rfl rfl rfl rfl)
                      · intro L a w hv K Q hK
                        have hs := hv
                        refine wpOp_go rfl rfl hs (OpT_fieldC rfl rfl rfl rfl fldF29x3) ?_
                        rintro _ rfl a' w' hs'
                        exact hK a' w' (hs'.putF (i := 32) rfl [0, 1, 2, 3, 4, 5] [0] rfl rfl rfl rfl)
                      · intro L a w hv K Q hK
                        have hs := hv
                        refine wpOp_go rfl rfl hs (OpT_storeC (cs' := [vU64 dp0.Addr, vU32 dp0.Len, vU16 dp0.Flags, vU16 (dp0.Next ^^^ (shl16 byp3.toUInt16 ((u64 (wi ((wi ((8 : Int) * pick1)) - (112 : Int)))).toNat)))]) rfl rfl rfl rfl tyF22 (i := 4) rfl rfl rfl (one_of rfl) rfl) ?_
                        rintro _ rfl a' w' hs'
                        exact hK a' w' (hs'.sameF [0, 1, 2, 3, 4, 5] [0] rfl rfl rfl rfl)
                      · intro L a w hL hv
                        rw [allTrue hL] at hv
                        have hs := hv
                        refine (show TA _ _ _ 22 ⟨[(4, some (vl1)), (5, some (vI cut)), (15, some (.pointer (some ⟨b3, 0, none⟩))), (16, some (vI read1.2)), (17, some (.pointer (some ⟨b4, 0, none⟩))), (18, some (vI readpa1.2)), (19, some (.pointer (some ⟨b5, 0, none⟩))), (20, some (.pointer (some ⟨b6, 0, none⟩))), (95, some (vU16 (pp1.Flags ^^^ (shl16 byp3.toUInt16 ((u64 (wi ((wi ((8 : Int) * pick1)) - (112 : Int)))).toNat)))))], [some (cellsR b3 29 [vU64 read1.1.Addr, vU32 read1.1.Len, vU16 read1.1.Flags, vU16 read1.1.Next]), some (cellsR b4 31 [vU64 readpa1.1.Addr, vU32 readpa1.1.Len, vU16 readpa1.1.ID, vU16 readpa1.1.Flags]), some (cellsR b5 29 [vU64 dp0.Addr, vU32 dp0.Len, vU16 dp0.Flags, vU16 (dp0.Next ^^^ (shl16 byp3.toUInt16 ((u64 (wi ((wi ((8 : Int) * pick1)) - (112 : Int)))).toNat)))]), some (cellsR b6 31 [vU64 pp1.Addr, vU32 pp1.Len, vU16 pp1.ID, vU16 pp1.Flags])], [Fact.sl DescS vl1 l]⟩ from ?_) a w (hs.wkS [4, 5, 15, 16, 17, 18, 19, 20, 95] [2, 3, 4, 5] [0] rfl rfl rfl rfl)
                        clear hs hL
                        refine TA_step htb (by kernel_rfl) rfl rfl (OpT_fieldC rfl rfl rfl rfl fldF31x3) ?_
                        refine TA_step htb (by kernel_rfl) rfl rfl (OpT_storeC (cs' := [vU64 pp1.Addr, vU32 pp1.Len, vU16 pp1.ID, vU16 (pp1.Flags ^^^ (shl16 byp3.toUInt16 ((u64 (wi ((wi ((8 : Int) * pick1)) - (112 : Int)))).toNat)))]) rfl rfl rfl rfl tyF22 (i := 3) rfl rfl rfl (one_of rfl) rfl) ?_
                        refine TA_end rfl ?_
                        refine Tk_wkS (fr' := [(4, some (vl1)), (5, some (vI cut)), (15, some (.pointer (some ⟨b3, 0, none⟩))), (16, some (vI read1.2)), (17, some (.pointer (some ⟨b4, 0, none⟩))), (18, some (vI readpa1.2)), (19, some (.pointer (some ⟨b5, 0, none⟩))), (20, some (.pointer (some ⟨b6, 0, none⟩)))]) (own' := [some (cellsR b3 29 [vU64 read1.1.Addr, vU32 read1.1.Len, vU16 read1.1.Flags, vU16 read1.1.Next]), some (cellsR b4 31 [vU64 readpa1.1.Addr, vU32 readpa1.1.Len, vU16 readpa1.1.ID, vU16 readpa1.1.Flags]), some (cellsR b5 29 [vU64 dp0.Addr, vU32 dp0.Len, vU16 dp0.Flags, vU16 (dp0.Next ^^^ (shl16 byp3.toUInt16 ((u64 (wi ((wi ((8 : Int) * pick1)) - (112 : Int)))).toNat)))]), some (cellsR b6 31 [vU64 pp1.Addr, vU32 pp1.Len, vU16 pp1.ID, vU16 (pp1.Flags ^^^ (shl16 byp3.toUInt16 ((u64 (wi ((wi ((8 : Int) * pick1)) - (112 : Int)))).toNat)))])]) (shr' := [Fact.sl DescS vl1 l]) [4, 5, 15, 16, 17, 18, 19, 20] [0, 1, 2, 3] [0] rfl rfl rfl rfl ?_
                        exact Tk_jmpS (HJ2 (read1.1, readpa1.1, (Desc.mk dp0.Addr dp0.Len dp0.Flags (dp0.Next ^^^ (shl16 byp3.toUInt16 ((u64 (wi ((wi ((8 : Int) * pick1)) - (112 : Int)))).toNat)))), (Packed.mk pp1.Addr pp1.Len pp1.ID (pp1.Flags ^^^ (shl16 byp3.toUInt16 ((u64 (wi ((wi ((8 : Int) * pick1)) - (112 : Int)))).toNat))))) h) [4, 5, 15, 16, 17, 18, 19, 20] [0, 1, 2, 3] [0] rfl rfl rfl rfl
end Go.Proofs.Ytamdpkddehhocaa
