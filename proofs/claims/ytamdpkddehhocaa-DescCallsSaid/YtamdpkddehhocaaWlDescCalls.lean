/- The law DescCalls is walked: it returns what its plain words say. No condition. -/
import Derived.Test.YtamdpkddehhocaaWa1
namespace Go.Proofs.Ytamdpkddehhocaa

set_option maxRecDepth 100000 in
set_option maxHeartbeats 4000000 in
theorem w_law_DescCalls {dp0 : Desc} {pp1 : Packed} {wp2 : UInt64} {b : List UInt8} {l : List Desc} {flags : UInt16} {wrap : Bool} {used : Bool} {vb1 : Value} {vl1 : Value}  (h : law_DescCalls dp0 pp1 wp2 b l flags wrap used = some true) :
    Ctr Try.prog 7 #[.agg #[vU64 dp0.Addr, vU32 dp0.Len, vU16 dp0.Flags, vU16 dp0.Next], .agg #[vU64 pp1.Addr, vU32 pp1.Len, vU16 pp1.ID, vU16 pp1.Flags], vU64 wp2, vb1, vl1, vU16 flags, vB wrap, vB used] [] [Fact.sl u8S vb1 b, Fact.sl DescS vl1 l]
      (fun rv own shr => rv = .bool true ∧ own = [] ∧ shr = []) := by
  unfold law_DescCalls at h
  refine Ctr.mk (args := [.agg #[vU64 dp0.Addr, vU32 dp0.Len, vU16 dp0.Flags, vU16 dp0.Next], .agg #[vU64 pp1.Addr, vU32 pp1.Len, vU16 pp1.ID, vU16 pp1.Flags], vU64 wp2, vb1, vl1, vU16 flags, vB wrap, vB used]) Try.func7 rfl rfl (fun R0 w0 B => ?_)
  refine Tk_seq ?_
  refine Tk_region ?_
  refine Tops_ex rfl (OpT_box rfl rfl rfl rfl) fun b1 => ?_
  refine Tops_ex rfl (OpT_box rfl rfl rfl rfl) fun b2 => ?_
  refine Tops_step rfl (OpT_assign rfl rfl rfl rfl) ?_
  refine Tops_nil ?_
  refine Tk_wkS (fr' := [(2, some (vU64 wp2)), (3, some (vb1)), (4, some (vl1)), (5, some (vU16 flags)), (6, some (vB wrap)), (7, some (vB used)), (8, some (.pointer (some ⟨b1, 0, none⟩))), (9, some (.pointer (some ⟨b2, 0, none⟩)))]) (own' := [some (cellsR b1 29 [vU64 dp0.Addr, vU32 dp0.Len, vU16 dp0.Flags, vU16 dp0.Next]), some (cellsR b2 31 [vU64 pp1.Addr, vU32 pp1.Len, vU16 pp1.ID, vU16 pp1.Flags])]) (shr' := [Fact.sl u8S vb1 b, Fact.sl DescS vl1 l]) [2, 3, 4, 5, 6, 7, 8, 9] [0, 1] [0, 1] rfl rfl rfl rfl ?_
  refine Tk_seq ?_
  refine Tk_seq ?_
  refine Tk_region ?_
  obtain ⟨lives1, hx1, h⟩ := ob_e h
  refine Tops_exP rfl (OpT_call (w_law_lives hx1) [] [] rfl rfl rfl rfl rfl callee8 rfl rfl rfl rfl) ?_
  rintro _ ⟨_, _, _, ⟨rfl, rfl, rfl⟩, rfl⟩
  refine Tops_step rfl (OpT_not rfl rfl rfl rfl) ?_
  refine Tops_nil ?_
  refine Tk_wkS (fr' := [(2, some (vU64 wp2)), (3, some (vb1)), (4, some (vl1)), (5, some (vU16 flags)), (6, some (vB wrap)), (7, some (vB used)), (8, some (.pointer (some ⟨b1, 0, none⟩))), (9, some (.pointer (some ⟨b2, 0, none⟩))), (32, some (vB (!lives1)))]) (own' := [some (cellsR b1 29 [vU64 dp0.Addr, vU32 dp0.Len, vU16 dp0.Flags, vU16 dp0.Next]), some (cellsR b2 31 [vU64 pp1.Addr, vU32 pp1.Len, vU16 pp1.ID, vU16 pp1.Flags])]) (shr' := [Fact.sl u8S vb1 b, Fact.sl DescS vl1 l]) [2, 3, 4, 5, 6, 7, 8, 9, 32] [0, 1] [0, 1] rfl rfl rfl rfl ?_
  obtain ⟨hg1, h⟩ := chk_e h
  replace hg1 := not_t hg1
  refine Tk_condF (congrArg (fun b => some (Value.bool b)) hg1) ?_
  refine Tk_skip ?_
  refine Tk_seq ?_
  refine Tk_seq ?_
  refine Tk_region ?_
  refine Tops_step rfl (OpT_move rfl rfl rfl rfl) ?_
  refine Tops_step rfl (OpT_lenS rfl rfl rfl rfl Try.underlying34 (i := 0) rfl) ?_
  refine Tops_step rfl (OpT_bin rfl rfl rfl rfl rfl (bin_gtr_i (a := len b) (b := (5000 : Int)))) ?_
  refine Tops_step rfl (OpT_move rfl rfl rfl rfl) ?_
  rcases Bool.eq_false_or_eq_true (decide ((len b) > (5000 : Int))) with hg2 | hg2
  · replace h := br_t hg2 h
    refine Tops_no rfl rfl (congrArg (fun b => some (Value.bool b)) hg2) rfl rfl ?_
    refine Tops_no rfl rfl (congrArg (fun b => some (Value.bool b)) hg2) rfl rfl ?_
    refine Tops_no rfl rfl (congrArg (fun b => some (Value.bool b)) hg2) rfl rfl ?_
    refine Tops_step rfl (OpT_pickT rfl rfl rfl (congrArg (fun b => some (Value.bool b)) hg2) rfl) ?_
    refine Tops_nil ?_
    refine Tk_wkS (fr' := [(2, some (vU64 wp2)), (3, some (vb1)), (4, some (vl1)), (5, some (vU16 flags)), (6, some (vB wrap)), (7, some (vB used)), (8, some (.pointer (some ⟨b1, 0, none⟩))), (9, some (.pointer (some ⟨b2, 0, none⟩))), (40, some (vB true))]) (own' := [some (cellsR b1 29 [vU64 dp0.Addr, vU32 dp0.Len, vU16 dp0.Flags, vU16 dp0.Next]), some (cellsR b2 31 [vU64 pp1.Addr, vU32 pp1.Len, vU16 pp1.ID, vU16 pp1.Flags])]) (shr' := [Fact.sl u8S vb1 b, Fact.sl DescS vl1 l]) [2, 3, 4, 5, 6, 7, 8, 9, 40] [0, 1] [0, 1] rfl rfl rfl rfl ?_
    refine Tk_condT rfl ?_
    refine Tk_seq ?_
    refine Tk_region ?_
    refine Tops_step rfl (OpT_assign rfl rfl rfl rfl) ?_
    refine Tops_nil ?_
    refine Tk_wkS (fr' := [(16, some (vB true))]) (own' := []) (shr' := []) [16] [] [] rfl rfl rfl rfl ?_
    exact Tk_retV rfl (resA (vs := [.bool true]) rfl ⟨rfl, trivial⟩) [] [] rfl rfl rfl ⟨rfl, rfl, rfl⟩
  · replace h := br_f hg2 h
    refine Tops_yes rfl rfl (congrArg (fun b => some (Value.bool b)) hg2) (OpT_move rfl rfl rfl rfl) ?_
    rintro _ rfl
    refine Tops_yes rfl rfl (congrArg (fun b => some (Value.bool b)) hg2) (OpT_lenS rfl rfl rfl rfl Try.underlying32 (i := 1) rfl) ?_
    rintro _ rfl
    refine Tops_yes rfl rfl (congrArg (fun b => some (Value.bool b)) hg2) (OpT_bin rfl rfl rfl rfl rfl (bin_gtr_i (a := len l) (b := (300 : Int)))) ?_
    rintro _ rfl
    refine Tops_step rfl (OpT_pickF rfl rfl rfl (congrArg (fun b => some (Value.bool b)) hg2) rfl) ?_
    refine Tops_nil ?_
    refine Tk_wkS (fr' := [(2, some (vU64 wp2)), (3, some (vb1)), (4, some (vl1)), (5, some (vU16 flags)), (6, some (vB wrap)), (7, some (vB used)), (8, some (.pointer (some ⟨b1, 0, none⟩))), (9, some (.pointer (some ⟨b2, 0, none⟩))), (40, some (vB (decide ((len l) > (300 : Int)))))]) (own' := [some (cellsR b1 29 [vU64 dp0.Addr, vU32 dp0.Len, vU16 dp0.Flags, vU16 dp0.Next]), some (cellsR b2 31 [vU64 pp1.Addr, vU32 pp1.Len, vU16 pp1.ID, vU16 pp1.Flags])]) (shr' := [Fact.sl u8S vb1 b, Fact.sl DescS vl1 l]) [2, 3, 4, 5, 6, 7, 8, 9, 40] [0, 1] [0, 1] rfl rfl rfl rfl ?_
    rcases Bool.eq_false_or_eq_true (decide ((len l) > (300 : Int))) with hg3 | hg3
    · replace h := br_t hg3 h
      refine Tk_condT (congrArg (fun b => some (Value.bool b)) hg3) ?_
      refine Tk_seq ?_
      refine Tk_region ?_
      refine Tops_step rfl (OpT_assign rfl rfl rfl rfl) ?_
      refine Tops_nil ?_
      refine Tk_wkS (fr' := [(16, some (vB true))]) (own' := []) (shr' := []) [16] [] [] rfl rfl rfl rfl ?_
      exact Tk_retV rfl (resA (vs := [.bool true]) rfl ⟨rfl, trivial⟩) [] [] rfl rfl rfl ⟨rfl, rfl, rfl⟩
    · replace h := br_f hg3 h
      refine Tk_condF (congrArg (fun b => some (Value.bool b)) hg3) ?_
      refine Tk_skip ?_
      refine Tk_seq ?_
      refine Tk_region ?_
      refine Tops_step rfl (OpT_move rfl rfl rfl rfl) ?_
      obtain ⟨own1, hx2, h⟩ := ob_e h
      refine Tops_exP rfl (OpT_call (w_kit_Own hx2) [] [0] rfl rfl rfl rfl rfl callee24 rfl rfl rfl rfl) ?_
      rintro _ ⟨v1, _, _, ⟨_, rfl, rfl, rfl⟩, rfl⟩
      refine Tops_retire (i := 2) rfl ?_
      obtain ⟨read1, hx3, h⟩ := ob_e h
      refine Tops_exP rfl (OpT_call (w_desc_Read hx3) [] [2] rfl rfl rfl rfl rfl callee15 rfl rfl rfl rfl) ?_
      rintro _ ⟨_, _, _, ⟨rfl, rfl, rfl⟩, rfl⟩
      refine Tops_step rfl (OpT_move rfl rfl rfl rfl) ?_
      refine Tops_step rfl (OpT_extract rfl rfl rfl rfl rfl) ?_
      refine Tops_step rfl (OpT_extract rfl rfl rfl rfl rfl) ?_
      refine Tops_ex rfl (OpT_alloc rfl rfl rfl tyZ29) fun b3 => ?_
      refine Tops_step rfl (OpT_storeC (cs' := [vU64 read1.1.Addr, vU32 read1.1.Len, vU16 read1.1.Flags, vU16 read1.1.Next]) rfl rfl rfl rfl tyF29 (i := 3) rfl rfl rfl (one_of rfl) rfl) ?_
      refine Tops_step rfl (OpT_assign rfl rfl rfl rfl) ?_
      refine Tops_nil ?_
      refine Tk_wkS (fr' := [(2, some (vU64 wp2)), (3, some (vb1)), (4, some (vl1)), (5, some (vU16 flags)), (6, some (vB wrap)), (7, some (vB used)), (8, some (.pointer (some ⟨b1, 0, none⟩))), (9, some (.pointer (some ⟨b2, 0, none⟩))), (17, some (.pointer (some ⟨b3, 0, none⟩))), (18, some (vI read1.2))]) (own' := [some (cellsR b1 29 [vU64 dp0.Addr, vU32 dp0.Len, vU16 dp0.Flags, vU16 dp0.Next]), some (cellsR b2 31 [vU64 pp1.Addr, vU32 pp1.Len, vU16 pp1.ID, vU16 pp1.Flags]), some (cellsR b3 29 [vU64 read1.1.Addr, vU32 read1.1.Len, vU16 read1.1.Flags, vU16 read1.1.Next])]) (shr' := [Fact.sl u8S vb1 b, Fact.sl DescS vl1 l]) [2, 3, 4, 5, 6, 7, 8, 9, 17, 18] [0, 1, 3] [0, 1] rfl rfl rfl rfl ?_
      refine Tk_seq ?_
      refine Tk_region ?_
      refine Tops_step rfl (OpT_move rfl rfl rfl rfl) ?_
      obtain ⟨read2, hx4, h⟩ := ob_e h
      refine Tops_exP rfl (OpT_call (w_ref_Read03 hx4) [] [0] rfl rfl rfl rfl rfl callee25 rfl rfl rfl rfl) ?_
      rintro _ ⟨_, _, _, ⟨rfl, rfl, rfl⟩, rfl⟩
      refine Tops_step rfl (OpT_move rfl rfl rfl rfl) ?_
      refine Tops_step rfl (OpT_extract rfl rfl rfl rfl rfl) ?_
      refine Tops_step rfl (OpT_extract rfl rfl rfl rfl rfl) ?_
      refine Tops_ex rfl (OpT_alloc rfl rfl rfl tyZ29) fun b4 => ?_
      refine Tops_step rfl (OpT_storeC (cs' := [vU64 read2.1.Addr, vU32 read2.1.Len, vU16 read2.1.Flags, vU16 read2.1.Next]) rfl rfl rfl rfl tyF29 (i := 3) rfl rfl rfl (one_of rfl) rfl) ?_
      refine Tops_step rfl (OpT_assign rfl rfl rfl rfl) ?_
      refine Tops_nil ?_
      refine Tk_wkS (fr' := [(2, some (vU64 wp2)), (3, some (vb1)), (4, some (vl1)), (5, some (vU16 flags)), (6, some (vB wrap)), (7, some (vB used)), (8, some (.pointer (some ⟨b1, 0, none⟩))), (9, some (.pointer (some ⟨b2, 0, none⟩))), (17, some (.pointer (some ⟨b3, 0, none⟩))), (18, some (vI read1.2)), (19, some (.pointer (some ⟨b4, 0, none⟩))), (20, some (vI read2.2))]) (own' := [some (cellsR b1 29 [vU64 dp0.Addr, vU32 dp0.Len, vU16 dp0.Flags, vU16 dp0.Next]), some (cellsR b2 31 [vU64 pp1.Addr, vU32 pp1.Len, vU16 pp1.ID, vU16 pp1.Flags]), some (cellsR b3 29 [vU64 read1.1.Addr, vU32 read1.1.Len, vU16 read1.1.Flags, vU16 read1.1.Next]), some (cellsR b4 29 [vU64 read2.1.Addr, vU32 read2.1.Len, vU16 read2.1.Flags, vU16 read2.1.Next])]) (shr' := [Fact.sl u8S vb1 b, Fact.sl DescS vl1 l]) [2, 3, 4, 5, 6, 7, 8, 9, 17, 18, 19, 20] [0, 1, 2, 3] [0, 1] rfl rfl rfl rfl ?_
      refine Tk_seq ?_
      refine Tk_region ?_
      refine Tops_step rfl (OpT_move rfl rfl rfl rfl) ?_
      obtain ⟨own2, hx5, h⟩ := ob_e h
      refine Tops_exP rfl (OpT_call (w_kit_Own hx5) [] [0] rfl rfl rfl rfl rfl callee24 rfl rfl rfl rfl) ?_
      rintro _ ⟨v2, _, _, ⟨_, rfl, rfl, rfl⟩, rfl⟩
      refine Tops_retire (i := 4) rfl ?_
      obtain ⟨readpa1, hx6, h⟩ := ob_e h
      refine Tops_exP rfl (OpT_call (w_desc_ReadPacked hx6) [] [2] rfl rfl rfl rfl rfl callee16 rfl rfl rfl rfl) ?_
      rintro _ ⟨_, _, _, ⟨rfl, rfl, rfl⟩, rfl⟩
      refine Tops_step rfl (OpT_move rfl rfl rfl rfl) ?_
      refine Tops_step rfl (OpT_extract rfl rfl rfl rfl rfl) ?_
      refine Tops_step rfl (OpT_extract rfl rfl rfl rfl rfl) ?_
      refine Tops_ex rfl (OpT_alloc rfl rfl rfl tyZ31) fun b5 => ?_
      refine Tops_step rfl (OpT_storeC (cs' := [vU64 readpa1.1.Addr, vU32 readpa1.1.Len, vU16 readpa1.1.ID, vU16 readpa1.1.Flags]) rfl rfl rfl rfl tyF31 (i := 5) rfl rfl rfl (one_of rfl) rfl) ?_
      refine Tops_step rfl (OpT_assign rfl rfl rfl rfl) ?_
      refine Tops_nil ?_
      refine Tk_wkS (fr' := [(2, some (vU64 wp2)), (3, some (vb1)), (4, some (vl1)), (5, some (vU16 flags)), (6, some (vB wrap)), (7, some (vB used)), (8, some (.pointer (some ⟨b1, 0, none⟩))), (9, some (.pointer (some ⟨b2, 0, none⟩))), (17, some (.pointer (some ⟨b3, 0, none⟩))), (18, some (vI read1.2)), (19, some (.pointer (some ⟨b4, 0, none⟩))), (20, some (vI read2.2)), (21, some (.pointer (some ⟨b5, 0, none⟩))), (22, some (vI readpa1.2))]) (own' := [some (cellsR b1 29 [vU64 dp0.Addr, vU32 dp0.Len, vU16 dp0.Flags, vU16 dp0.Next]), some (cellsR b2 31 [vU64 pp1.Addr, vU32 pp1.Len, vU16 pp1.ID, vU16 pp1.Flags]), some (cellsR b3 29 [vU64 read1.1.Addr, vU32 read1.1.Len, vU16 read1.1.Flags, vU16 read1.1.Next]), some (cellsR b4 29 [vU64 read2.1.Addr, vU32 read2.1.Len, vU16 read2.1.Flags, vU16 read2.1.Next]), some (cellsR b5 31 [vU64 readpa1.1.Addr, vU32 readpa1.1.Len, vU16 readpa1.1.ID, vU16 readpa1.1.Flags])]) (shr' := [Fact.sl u8S vb1 b, Fact.sl DescS vl1 l]) [2, 3, 4, 5, 6, 7, 8, 9, 17, 18, 19, 20, 21, 22] [0, 1, 2, 3, 5] [0, 1] rfl rfl rfl rfl ?_
      refine Tk_seq ?_
      refine Tk_region ?_
      refine Tops_step rfl (OpT_move rfl rfl rfl rfl) ?_
      obtain ⟨readpa2, hx7, h⟩ := ob_e h
      refine Tops_exP rfl (OpT_call (w_ref_ReadPacked03 hx7) [] [0] rfl rfl rfl rfl rfl callee26 rfl rfl rfl rfl) ?_
      rintro _ ⟨_, _, _, ⟨rfl, rfl, rfl⟩, rfl⟩
      refine Tops_step rfl (OpT_move rfl rfl rfl rfl) ?_
      refine Tops_step rfl (OpT_extract rfl rfl rfl rfl rfl) ?_
      refine Tops_step rfl (OpT_extract rfl rfl rfl rfl rfl) ?_
      refine Tops_ex rfl (OpT_alloc rfl rfl rfl tyZ31) fun b6 => ?_
      refine Tops_step rfl (OpT_storeC (cs' := [vU64 readpa2.1.Addr, vU32 readpa2.1.Len, vU16 readpa2.1.ID, vU16 readpa2.1.Flags]) rfl rfl rfl rfl tyF31 (i := 5) rfl rfl rfl (one_of rfl) rfl) ?_
      refine Tops_step rfl (OpT_assign rfl rfl rfl rfl) ?_
      refine Tops_nil ?_
      refine Tk_wkS (fr' := [(2, some (vU64 wp2)), (3, some (vb1)), (4, some (vl1)), (5, some (vU16 flags)), (6, some (vB wrap)), (7, some (vB used)), (8, some (.pointer (some ⟨b1, 0, none⟩))), (9, some (.pointer (some ⟨b2, 0, none⟩))), (17, some (.pointer (some ⟨b3, 0, none⟩))), (18, some (vI read1.2)), (19, some (.pointer (some ⟨b4, 0, none⟩))), (20, some (vI read2.2)), (21, some (.pointer (some ⟨b5, 0, none⟩))), (22, some (vI readpa1.2)), (23, some (.pointer (some ⟨b6, 0, none⟩))), (24, some (vI readpa2.2))]) (own' := [some (cellsR b1 29 [vU64 dp0.Addr, vU32 dp0.Len, vU16 dp0.Flags, vU16 dp0.Next]), some (cellsR b2 31 [vU64 pp1.Addr, vU32 pp1.Len, vU16 pp1.ID, vU16 pp1.Flags]), some (cellsR b3 29 [vU64 read1.1.Addr, vU32 read1.1.Len, vU16 read1.1.Flags, vU16 read1.1.Next]), some (cellsR b4 29 [vU64 read2.1.Addr, vU32 read2.1.Len, vU16 read2.1.Flags, vU16 read2.1.Next]), some (cellsR b5 31 [vU64 readpa1.1.Addr, vU32 readpa1.1.Len, vU16 readpa1.1.ID, vU16 readpa1.1.Flags]), some (cellsR b6 31 [vU64 readpa2.1.Addr, vU32 readpa2.1.Len, vU16 readpa2.1.ID, vU16 readpa2.1.Flags])]) (shr' := [Fact.sl u8S vb1 b, Fact.sl DescS vl1 l]) [2, 3, 4, 5, 6, 7, 8, 9, 17, 18, 19, 20, 21, 22, 23, 24] [0, 1, 2, 3, 4, 5] [0, 1] rfl rfl rfl rfl ?_
      refine Tk_seq ?_
      refine Tk_region ?_
      refine Tops_step rfl (OpT_move rfl rfl rfl rfl) ?_
      obtain ⟨own3, hx8, h⟩ := ob_e h
      refine Tops_exP rfl (OpT_call (w_kit_Own hx8) [] [0] rfl rfl rfl rfl rfl callee24 rfl rfl rfl rfl) ?_
      rintro _ ⟨v3, _, _, ⟨_, rfl, rfl, rfl⟩, rfl⟩
      refine Tops_retire (i := 6) rfl ?_
      obtain ⟨readta1, hx9, h⟩ := ob_e h
      refine Tops_exP rfl (OpT_call (w_desc_ReadTable hx9) [] [2] rfl rfl rfl rfl rfl callee18 rfl rfl rfl rfl) ?_
      rintro _ ⟨_, _, _, ⟨v4, rfl, rfl, rfl⟩, rfl⟩
      refine Tops_step rfl (OpT_move rfl rfl rfl rfl) ?_
      refine Tops_step rfl (OpT_extract rfl rfl rfl rfl rfl) ?_
      refine Tops_step rfl (OpT_extract rfl rfl rfl rfl rfl) ?_
      refine Tops_step rfl (OpT_assign rfl rfl rfl rfl) ?_
      refine Tops_step rfl (OpT_assign rfl rfl rfl rfl) ?_
      refine Tops_nil ?_
      refine Tk_wkS (fr' := [(2, some (vU64 wp2)), (3, some (vb1)), (4, some (vl1)), (5, some (vU16 flags)), (6, some (vB wrap)), (7, some (vB used)), (8, some (.pointer (some ⟨b1, 0, none⟩))), (9, some (.pointer (some ⟨b2, 0, none⟩))), (17, some (.pointer (some ⟨b3, 0, none⟩))), (18, some (vI read1.2)), (19, some (.pointer (some ⟨b4, 0, none⟩))), (20, some (vI read2.2)), (21, some (.pointer (some ⟨b5, 0, none⟩))), (22, some (vI readpa1.2)), (23, some (.pointer (some ⟨b6, 0, none⟩))), (24, some (vI readpa2.2)), (25, some (v4)), (26, some (vI readta1.2))]) (own' := [some (cellsR b1 29 [vU64 dp0.Addr, vU32 dp0.Len, vU16 dp0.Flags, vU16 dp0.Next]), some (cellsR b2 31 [vU64 pp1.Addr, vU32 pp1.Len, vU16 pp1.ID, vU16 pp1.Flags]), some (cellsR b3 29 [vU64 read1.1.Addr, vU32 read1.1.Len, vU16 read1.1.Flags, vU16 read1.1.Next]), some (cellsR b4 29 [vU64 read2.1.Addr, vU32 read2.1.Len, vU16 read2.1.Flags, vU16 read2.1.Next]), some (cellsR b5 31 [vU64 readpa1.1.Addr, vU32 readpa1.1.Len, vU16 readpa1.1.ID, vU16 readpa1.1.Flags]), some (cellsR b6 31 [vU64 readpa2.1.Addr, vU32 readpa2.1.Len, vU16 readpa2.1.ID, vU16 readpa2.1.Flags]), some (rowS DescS v4 readta1.1)]) (shr' := [Fact.sl u8S vb1 b, Fact.sl DescS vl1 l]) [2, 3, 4, 5, 6, 7, 8, 9, 17, 18, 19, 20, 21, 22, 23, 24, 25, 26] [0, 1, 2, 3, 4, 5, 7] [0, 1] rfl rfl rfl rfl ?_
      refine Tk_seq ?_
      refine Tk_region ?_
      refine Tops_step rfl (OpT_move rfl rfl rfl rfl) ?_
      obtain ⟨readta2, hx10, h⟩ := ob_e h
      refine Tops_exP rfl (OpT_call (w_ref_ReadTable03 hx10) [] [0] rfl rfl rfl rfl rfl callee27 rfl rfl rfl rfl) ?_
      rintro _ ⟨_, _, _, ⟨v5, rfl, rfl, rfl⟩, rfl⟩
      refine Tops_step rfl (OpT_move rfl rfl rfl rfl) ?_
      refine Tops_step rfl (OpT_extract rfl rfl rfl rfl rfl) ?_
      refine Tops_step rfl (OpT_extract rfl rfl rfl rfl rfl) ?_
      refine Tops_step rfl (OpT_assign rfl rfl rfl rfl) ?_
      refine Tops_step rfl (OpT_assign rfl rfl rfl rfl) ?_
      refine Tops_nil ?_
      refine Tk_wkS (fr' := [(2, some (vU64 wp2)), (4, some (vl1)), (5, some (vU16 flags)), (6, some (vB wrap)), (7, some (vB used)), (8, some (.pointer (some ⟨b1, 0, none⟩))), (9, some (.pointer (some ⟨b2, 0, none⟩))), (17, some (.pointer (some ⟨b3, 0, none⟩))), (18, some (vI read1.2)), (19, some (.pointer (some ⟨b4, 0, none⟩))), (20, some (vI read2.2)), (21, some (.pointer (some ⟨b5, 0, none⟩))), (22, some (vI readpa1.2)), (23, some (.pointer (some ⟨b6, 0, none⟩))), (24, some (vI readpa2.2)), (25, some (v4)), (26, some (vI readta1.2)), (27, some (v5)), (28, some (vI readta2.2))]) (own' := [some (cellsR b1 29 [vU64 dp0.Addr, vU32 dp0.Len, vU16 dp0.Flags, vU16 dp0.Next]), some (cellsR b2 31 [vU64 pp1.Addr, vU32 pp1.Len, vU16 pp1.ID, vU16 pp1.Flags]), some (cellsR b3 29 [vU64 read1.1.Addr, vU32 read1.1.Len, vU16 read1.1.Flags, vU16 read1.1.Next]), some (cellsR b4 29 [vU64 read2.1.Addr, vU32 read2.1.Len, vU16 read2.1.Flags, vU16 read2.1.Next]), some (cellsR b5 31 [vU64 readpa1.1.Addr, vU32 readpa1.1.Len, vU16 readpa1.1.ID, vU16 readpa1.1.Flags]), some (cellsR b6 31 [vU64 readpa2.1.Addr, vU32 readpa2.1.Len, vU16 readpa2.1.ID, vU16 readpa2.1.Flags]), some (rowS DescS v4 readta1.1), some (rowS DescS v5 readta2.1)]) (shr' := [Fact.sl DescS vl1 l]) [2, 4, 5, 6, 7, 8, 9, 17, 18, 19, 20, 21, 22, 23, 24, 25, 26, 27, 28] [0, 1, 2, 3, 4, 5, 6, 7] [1] rfl rfl rfl rfl ?_
      refine Tk_seq ?_
      refine Tk_seq ?_
      refine Tk_region ?_
      refine Tops_step rfl (OpT_loadCA (vs := [vU64 read1.1.Addr, vU32 read1.1.Len, vU16 read1.1.Flags, vU16 read1.1.Next]) rfl rfl rfl rfl tyF29 (i := 2) rfl rfl rfl) ?_
      refine Tops_step rfl (OpT_loadCA (vs := [vU64 read2.1.Addr, vU32 read2.1.Len, vU16 read2.1.Flags, vU16 read2.1.Next]) rfl rfl rfl rfl tyF29 (i := 3) rfl rfl rfl) ?_
      refine Tops_step rfl (OpT_bin rfl rfl rfl rfl rfl (eqT29_neq read1.1 read2.1)) ?_
      refine Tops_step rfl (OpT_move rfl rfl rfl rfl) ?_
      obtain ⟨hg4, h⟩ := chk_e h
      replace hg4 := not_t hg4
      refine Tops_yes rfl rfl (congrArg (fun b => some (Value.bool b)) hg4) (OpT_move rfl rfl rfl rfl) ?_
      rintro _ rfl
      refine Tops_yes rfl rfl (congrArg (fun b => some (Value.bool b)) hg4) (OpT_move rfl rfl rfl rfl) ?_
      rintro _ rfl
      refine Tops_yes rfl rfl (congrArg (fun b => some (Value.bool b)) hg4) (OpT_bin rfl rfl rfl rfl rfl (bin_neq_i (a := read1.2) (b := read2.2))) ?_
      rintro _ rfl
      refine Tops_step rfl (OpT_pickF rfl rfl rfl (congrArg (fun b => some (Value.bool b)) hg4) rfl) ?_
      refine Tops_step rfl (OpT_move rfl rfl rfl rfl) ?_
      obtain ⟨hg5, h⟩ := chk_e h
      replace hg5 := not_t hg5
      refine Tops_yes rfl rfl (congrArg (fun b => some (Value.bool b)) hg5) (OpT_loadCA (vs := [vU64 readpa1.1.Addr, vU32 readpa1.1.Len, vU16 readpa1.1.ID, vU16 readpa1.1.Flags]) rfl rfl rfl rfl tyF31 (i := 4) rfl rfl rfl) ?_
      rintro _ rfl
      refine Tops_yes rfl rfl (congrArg (fun b => some (Value.bool b)) hg5) (OpT_loadCA (vs := [vU64 readpa2.1.Addr, vU32 readpa2.1.Len, vU16 readpa2.1.ID, vU16 readpa2.1.Flags]) rfl rfl rfl rfl tyF31 (i := 5) rfl rfl rfl) ?_
      rintro _ rfl
      refine Tops_yes rfl rfl (congrArg (fun b => some (Value.bool b)) hg5) (OpT_bin rfl rfl rfl rfl rfl (eqT31_neq readpa1.1 readpa2.1)) ?_
      rintro _ rfl
      refine Tops_step rfl (OpT_pickF rfl rfl rfl (congrArg (fun b => some (Value.bool b)) hg5) rfl) ?_
      refine Tops_step rfl (OpT_move rfl rfl rfl rfl) ?_
      obtain ⟨hg6, h⟩ := chk_e h
      replace hg6 := not_t hg6
      refine Tops_yes rfl rfl (congrArg (fun b => some (Value.bool b)) hg6) (OpT_move rfl rfl rfl rfl) ?_
      rintro _ rfl
      refine Tops_yes rfl rfl (congrArg (fun b => some (Value.bool b)) hg6) (OpT_move rfl rfl rfl rfl) ?_
      rintro _ rfl
      refine Tops_yes rfl rfl (congrArg (fun b => some (Value.bool b)) hg6) (OpT_bin rfl rfl rfl rfl rfl (bin_neq_i (a := readpa1.2) (b := readpa2.2))) ?_
      rintro _ rfl
      refine Tops_step rfl (OpT_pickF rfl rfl rfl (congrArg (fun b => some (Value.bool b)) hg6) rfl) ?_
      refine Tops_step rfl (OpT_move rfl rfl rfl rfl) ?_
      obtain ⟨hg7, h⟩ := chk_e h
      replace hg7 := not_t hg7
      refine Tops_yes rfl rfl (congrArg (fun b => some (Value.bool b)) hg7) (OpT_move rfl rfl rfl rfl) ?_
      rintro _ rfl
      refine Tops_yes rfl rfl (congrArg (fun b => some (Value.bool b)) hg7) (OpT_move rfl rfl rfl rfl) ?_
      rintro _ rfl
      refine Tops_retire (i := 6) rfl ?_
      refine Tops_retire (i := 7) rfl ?_
      obtain ⟨samede1, hx11, h⟩ := ob_e h
      refine Tops_yes rfl rfl (congrArg (fun b => some (Value.bool b)) hg7) (OpT_call (w_kit_SameDescs hx11) [] [1, 2] rfl rfl rfl rfl rfl callee23 rfl rfl rfl rfl) ?_
      rintro _ ⟨_, _, _, ⟨rfl, rfl, rfl⟩, rfl⟩
      refine Tops_yes rfl rfl (congrArg (fun b => some (Value.bool b)) hg7) (OpT_not rfl rfl rfl rfl) ?_
      rintro _ rfl
      refine Tops_step rfl (OpT_pickF rfl rfl rfl (congrArg (fun b => some (Value.bool b)) hg7) rfl) ?_
      refine Tops_step rfl (OpT_move rfl rfl rfl rfl) ?_
      obtain ⟨hg8, h⟩ := chk_e h
      replace hg8 := not_t hg8
      refine Tops_yes rfl rfl (congrArg (fun b => some (Value.bool b)) hg8) (OpT_move rfl rfl rfl rfl) ?_
      rintro _ rfl
      refine Tops_yes rfl rfl (congrArg (fun b => some (Value.bool b)) hg8) (OpT_move rfl rfl rfl rfl) ?_
      rintro _ rfl
      refine Tops_yes rfl rfl (congrArg (fun b => some (Value.bool b)) hg8) (OpT_bin rfl rfl rfl rfl rfl (bin_neq_i (a := readta1.2) (b := readta2.2))) ?_
      rintro _ rfl
      refine Tops_step rfl (OpT_pickF rfl rfl rfl (congrArg (fun b => some (Value.bool b)) hg8) rfl) ?_
      refine Tops_nil ?_
      refine Tk_wkS (fr' := [(2, some (vU64 wp2)), (4, some (vl1)), (5, some (vU16 flags)), (6, some (vB wrap)), (7, some (vB used)), (8, some (.pointer (some ⟨b1, 0, none⟩))), (9, some (.pointer (some ⟨b2, 0, none⟩))), (102, some (vB (readta1.2 != readta2.2)))]) (own' := [some (cellsR b1 29 [vU64 dp0.Addr, vU32 dp0.Len, vU16 dp0.Flags, vU16 dp0.Next]), some (cellsR b2 31 [vU64 pp1.Addr, vU32 pp1.Len, vU16 pp1.ID, vU16 pp1.Flags])]) (shr' := [Fact.sl DescS vl1 l]) [2, 4, 5, 6, 7, 8, 9, 102] [0, 1] [0] rfl rfl rfl rfl ?_
      obtain ⟨hg9, h⟩ := chk_e h
      replace hg9 := not_t hg9
      refine Tk_condF (congrArg (fun b => some (Value.bool b)) hg9) ?_
      refine Tk_skip ?_
      refine Tk_seq ?_
      refine Tk_region ?_
      refine Tops_step rfl (OpT_move rfl rfl rfl rfl) ?_
      obtain ⟨readus1, hx12, h⟩ := ob_e h
      refine Tops_exP rfl (OpT_call (w_ref_ReadUsed03 hx12) [] [] rfl rfl rfl rfl rfl callee28 rfl rfl rfl rfl) ?_
      rintro _ ⟨_, _, _, ⟨rfl, rfl, rfl⟩, rfl⟩
      refine Tops_step rfl (OpT_move rfl rfl rfl rfl) ?_
      obtain ⟨readev1, hx13, h⟩ := ob_e h
      refine Tops_exP rfl (OpT_call (w_ref_ReadEvent03 hx13) [] [] rfl rfl rfl rfl rfl callee29 rfl rfl rfl rfl) ?_
      rintro _ ⟨_, _, _, ⟨rfl, rfl, rfl⟩, rfl⟩
      refine Tops_ex rfl (OpT_alloc rfl rfl rfl tyZ49) fun b7 => ?_
      refine Tops_ex rfl (OpT_alloc rfl rfl rfl tyZ52) fun b8 => ?_
      refine Tops_step rfl (OpT_storeC (cs' := [vU32 readus1.ID, vU32 readus1.Len]) rfl rfl rfl rfl tyF49 (i := 2) rfl rfl rfl (one_of rfl) rfl) ?_
      refine Tops_step rfl (OpT_storeC (cs' := [vU16 readev1.Off, vU16 readev1.Flags]) rfl rfl rfl rfl tyF52 (i := 3) rfl rfl rfl (one_of rfl) rfl) ?_
      refine Tops_nil ?_
      refine Tk_wkS (fr' := [(2, some (vU64 wp2)), (4, some (vl1)), (5, some (vU16 flags)), (6, some (vB wrap)), (7, some (vB used)), (8, some (.pointer (some ⟨b1, 0, none⟩))), (9, some (.pointer (some ⟨b2, 0, none⟩))), (29, some (.pointer (some ⟨b7, 0, none⟩))), (30, some (.pointer (some ⟨b8, 0, none⟩)))]) (own' := [some (cellsR b1 29 [vU64 dp0.Addr, vU32 dp0.Len, vU16 dp0.Flags, vU16 dp0.Next]), some (cellsR b2 31 [vU64 pp1.Addr, vU32 pp1.Len, vU16 pp1.ID, vU16 pp1.Flags]), some (cellsR b7 49 [vU32 readus1.ID, vU32 readus1.Len]), some (cellsR b8 52 [vU16 readev1.Off, vU16 readev1.Flags])]) (shr' := [Fact.sl DescS vl1 l]) [2, 4, 5, 6, 7, 8, 9, 29, 30] [0, 1, 2, 3] [0] rfl rfl rfl rfl ?_
      refine Tk_seq ?_
      refine Tk_drawT (by kernel_rfl) ?_
      refine TA_tb [0, 1, 3, 0, 11, 27, 63, 127, 255, 511, 1023, 255, 3071, 7167, 16383, 32767, 65535, 131071, 262143, 131071, 1048575, 2097151, 4194303, 8388607, 16777215, 8388607, 67108863, 134217727, 268435455, 536870911, 1073741823, 536870911, 4294967295, 8589934591, 17179869183, 34359738367, 68719476735, 137438953471, 68719476735, 549755813887, 1099511627775, 2199023255551, 4398046511103, 8796093022207, 17592186044415, 35184372088831, 8796093022207, 105553116266495, 246290604621823, 562949953421311, 1125899906842623, 2251799813685247, 4503599627370495, 4503599627370495, 18014398509481983, 4503599627370495, 4503599627370495, 144115188075855871, 288230376151711743, 576460752303423487, 1152921504606846975, 2305843009213693951, 2305843009213693951, 9223372036854775807, 2305843009213693951, 2305843009213693951, 73786976294838206463, 147573952589676412927, 295147905179352825855, 590295810358705651711, 1180591620717411303423, 1180591620717411303423, 1180591620717411303423, 9444732965739290427391, 1180591620717411303423, 1180591620717411303423, 1180591620717411303423, 151115727451828646838271, 302231454903657293676543, 604462909807314587353087, 1208925819614629174706175] (by kernel_rfl) fun htb => ?_
      obtain ⟨bytes1, hx14, h⟩ := ob_e h
      obtain ⟨bytes2, hx15, h⟩ := ob_e h
      refine TA_seg (lo := 0) (hi := 6) htb rfl rfl (by kernel_rfl) (fun c L a w => ∃ (v6 : Value), ∃ (v7 : Value), Sat c ⟨[(2, some (vU64 wp2)), (4, some (vl1)), (5, some (vU16 flags)), (6, some (vB wrap)), (7, some (vB used)), (8, some (.pointer (some ⟨b1, 0, none⟩))), (9, some (.pointer (some ⟨b2, 0, none⟩))), (29, some (.pointer (some ⟨b7, 0, none⟩))), (30, some (.pointer (some ⟨b8, 0, none⟩))), (107, bif L 0 then some (.agg #[vU64 dp0.Addr, vU32 dp0.Len, vU16 dp0.Flags, vU16 dp0.Next]) else none), (108, bif L 1 then some (v6) else none), (109, bif L 2 then some (vS bytes1) else none), (110, bif L 3 then some (.agg #[vU64 dp0.Addr, vU32 dp0.Len, vU16 dp0.Flags, vU16 dp0.Next]) else none), (111, bif L 4 then some (v7) else none), (112, bif L 5 then some (vS bytes2) else none)], [(some (cellsR b1 29 [vU64 dp0.Addr, vU32 dp0.Len, vU16 dp0.Flags, vU16 dp0.Next]) : Option Res), (some (cellsR b2 31 [vU64 pp1.Addr, vU32 pp1.Len, vU16 pp1.ID, vU16 pp1.Flags]) : Option Res), (some (cellsR b7 49 [vU32 readus1.ID, vU32 readus1.Len]) : Option Res), (some (cellsR b8 52 [vU16 readev1.Off, vU16 readev1.Flags]) : Option Res)], [Fact.sl DescS vl1 l, (bif L 1 then Fact.sl u8S v6 bytes1 else Fact.tt), (bif L 4 then Fact.sl u8S v7 bytes2 else Fact.tt)]⟩ a w) [([], [1, 2, 4, 5]), ([0], [2, 4, 5]), ([0, 1], []), ([], [4, 5]), ([0, 1, 3], [5]), ([0, 1, 3, 4], [])] rfl (by kernel_rfl) ?_ (steps_cons ?_ (steps_cons ?_ (steps_cons ?_ (steps_cons ?_ (steps_cons ?_ (steps_cons ?_ (steps_nil))))))) ?_
      · intro a w hs
        exact ⟨undef, undef, hs.startF [107, 108, 109, 110, 111, 112] [0, 1, 2, 3] [0, 1, 2] rfl rfl rfl rfl⟩
      · intro L a w hv K Q hK
        obtain ⟨v6, v7, hs⟩ := hv
        refine wpOp_go rfl rfl hs (OpT_loadCA (vs := [vU64 dp0.Addr, vU32 dp0.Len, vU16 dp0.Flags, vU16 dp0.Next]) rfl rfl rfl rfl tyF29 (i := 0) rfl rfl rfl) ?_
        rintro _ rfl a' w' hs'
        exact hK a' w' ⟨v6, v7, hs'.putF (i := 9) rfl [0, 1, 2, 3] [0, 1, 2] rfl rfl rfl rfl⟩
      · intro L a w hv K Q hK
        obtain ⟨v6, v7, hs⟩ := hv
        refine wpOp_go rfl rfl hs (OpT_call (ws_desc_Bytes hx14) [] [] rfl rfl rfl rfl rfl callee13 rfl rfl rfl rfl) ?_
        rintro _ ⟨v6', _, _, ⟨_, rfl, rfl, rfl⟩, rfl⟩ a' w' hs'
        exact hK a' w' ⟨v6', v7, hs'.putF (i := 10) rfl [0, 1, 2, 3] [0, 3, 2] rfl rfl rfl rfl⟩
      · intro L a w hv K Q hK
        obtain ⟨v6, v7, hs⟩ := hv
        refine wpOp_go rfl rfl hs (OpT_strS rfl rfl rfl rfl Try.underlying34 Try.underlying5 Try.underlying9 (i := 1) rfl) ?_
        rintro _ rfl a' w' hs'
        exact hK a' w' ⟨v6, v7, hs'.putF (i := 11) rfl [0, 1, 2, 3] [0, 1, 2] rfl rfl rfl rfl⟩
      · intro L a w hv K Q hK
        obtain ⟨v6, v7, hs⟩ := hv
        refine wpOp_go rfl rfl hs (OpT_loadCA (vs := [vU64 dp0.Addr, vU32 dp0.Len, vU16 dp0.Flags, vU16 dp0.Next]) rfl rfl rfl rfl tyF29 (i := 0) rfl rfl rfl) ?_
        rintro _ rfl a' w' hs'
        exact hK a' w' ⟨v6, v7, hs'.putF (i := 12) rfl [0, 1, 2, 3] [0, 1, 2] rfl rfl rfl rfl⟩
      · intro L a w hv K Q hK
        obtain ⟨v6, v7, hs⟩ := hv
        refine wpOp_go rfl rfl hs (OpT_call (ws_ref_Bytes03 hx15) [] [] rfl rfl rfl rfl rfl callee30 rfl rfl rfl rfl) ?_
        rintro _ ⟨v7', _, _, ⟨_, rfl, rfl, rfl⟩, rfl⟩ a' w' hs'
        exact hK a' w' ⟨v6, v7', hs'.putF (i := 13) rfl [0, 1, 2, 3] [0, 1, 3] rfl rfl rfl rfl⟩
      · intro L a w hv K Q hK
        obtain ⟨v6, v7, hs⟩ := hv
        refine wpOp_go rfl rfl hs (OpT_strS rfl rfl rfl rfl Try.underlying34 Try.underlying5 Try.underlying9 (i := 2) rfl) ?_
        rintro _ rfl a' w' hs'
        exact hK a' w' ⟨v6, v7, hs'.putF (i := 14) rfl [0, 1, 2, 3] [0, 1, 2] rfl rfl rfl rfl⟩
      · intro L a w hL hv
        rw [allTrue hL] at hv
        obtain ⟨v6, v7, hs⟩ := hv
        refine (show TA _ _ _ 6 ⟨[(2, some (vU64 wp2)), (4, some (vl1)), (5, some (vU16 flags)), (6, some (vB wrap)), (7, some (vB used)), (9, some (.pointer (some ⟨b2, 0, none⟩))), (29, some (.pointer (some ⟨b7, 0, none⟩))), (30, some (.pointer (some ⟨b8, 0, none⟩))), (109, some (vS bytes1)), (112, some (vS bytes2))], [some (cellsR b2 31 [vU64 pp1.Addr, vU32 pp1.Len, vU16 pp1.ID, vU16 pp1.Flags]), some (cellsR b7 49 [vU32 readus1.ID, vU32 readus1.Len]), some (cellsR b8 52 [vU16 readev1.Off, vU16 readev1.Flags])], [Fact.sl DescS vl1 l]⟩ from ?_) a w (hs.wkS [2, 4, 5, 6, 7, 9, 29, 30, 109, 112] [1, 2, 3] [0] rfl rfl rfl rfl)
        clear hs hL
        refine TA_step htb (by kernel_rfl) rfl rfl (OpT_bin rfl rfl rfl rfl rfl (bin_eql_s (a := bytes1) (b := bytes2))) ?_
        refine TA_step htb (by kernel_rfl) rfl rfl (OpT_move rfl rfl rfl rfl) ?_
        refine TA_wkS (fr' := [(2, some (vU64 wp2)), (4, some (vl1)), (5, some (vU16 flags)), (6, some (vB wrap)), (7, some (vB used)), (9, some (.pointer (some ⟨b2, 0, none⟩))), (29, some (.pointer (some ⟨b7, 0, none⟩))), (30, some (.pointer (some ⟨b8, 0, none⟩))), (114, some (vB (bytes1 == bytes2)))]) (own' := [some (cellsR b2 31 [vU64 pp1.Addr, vU32 pp1.Len, vU16 pp1.ID, vU16 pp1.Flags]), some (cellsR b7 49 [vU32 readus1.ID, vU32 readus1.Len]), some (cellsR b8 52 [vU16 readev1.Off, vU16 readev1.Flags])]) (shr' := [Fact.sl DescS vl1 l]) [2, 4, 5, 6, 7, 9, 29, 30, 114] [0, 1, 2] [0] rfl rfl rfl rfl ?_
        obtain ⟨hg10, h⟩ := chk_e h
        obtain ⟨packed1, hx16, h⟩ := ob_e h
        obtain ⟨packed2, hx17, h⟩ := ob_e h
        refine TA_seg (lo := 8) (hi := 14) htb rfl rfl (by kernel_rfl) (fun c L a w => ∃ (v8 : Value), ∃ (v9 : Value), Sat c ⟨[(2, some (vU64 wp2)), (4, some (vl1)), (5, some (vU16 flags)), (6, some (vB wrap)), (7, some (vB used)), (9, some (.pointer (some ⟨b2, 0, none⟩))), (29, some (.pointer (some ⟨b7, 0, none⟩))), (30, some (.pointer (some ⟨b8, 0, none⟩))), (114, some (vB (bytes1 == bytes2))), (115, bif L 8 then some (.agg #[vU64 pp1.Addr, vU32 pp1.Len, vU16 pp1.ID, vU16 pp1.Flags]) else none), (116, bif L 9 then some (v8) else none), (117, bif L 10 then some (vS packed1) else none), (118, bif L 11 then some (.agg #[vU64 pp1.Addr, vU32 pp1.Len, vU16 pp1.ID, vU16 pp1.Flags]) else none), (119, bif L 12 then some (v9) else none), (120, bif L 13 then some (vS packed2) else none)], [(some (cellsR b2 31 [vU64 pp1.Addr, vU32 pp1.Len, vU16 pp1.ID, vU16 pp1.Flags]) : Option Res), (some (cellsR b7 49 [vU32 readus1.ID, vU32 readus1.Len]) : Option Res), (some (cellsR b8 52 [vU16 readev1.Off, vU16 readev1.Flags]) : Option Res)], [Fact.sl DescS vl1 l, (bif L 9 then Fact.sl u8S v8 packed1 else Fact.tt), (bif L 12 then Fact.sl u8S v9 packed2 else Fact.tt)]⟩ a w) [([], [9, 10, 12, 13]), ([8], [10, 12, 13]), ([8, 9], []), ([], [12, 13]), ([8, 9, 11], [13]), ([8, 9, 11, 12], [])] rfl (by kernel_rfl) ?_ (steps_cons ?_ (steps_cons ?_ (steps_cons ?_ (steps_cons ?_ (steps_cons ?_ (steps_cons ?_ (steps_nil))))))) ?_
        · intro a w hs
          exact ⟨undef, undef, hs.startF [115, 116, 117, 118, 119, 120] [0, 1, 2] [0, 1, 2] rfl rfl rfl rfl⟩
        · intro L a w hv K Q hK
          obtain ⟨v8, v9, hs⟩ := hv
          refine wpOp_yes rfl rfl rfl hs (congrArg (fun b => some (Value.bool b)) hg10) (OpT_loadCA (vs := [vU64 pp1.Addr, vU32 pp1.Len, vU16 pp1.ID, vU16 pp1.Flags]) rfl rfl rfl rfl tyF31 (i := 0) rfl rfl rfl) ?_
          rintro _ rfl a' w' hs'
          exact hK a' w' ⟨v8, v9, hs'.putF (i := 9) rfl [0, 1, 2] [0, 1, 2] rfl rfl rfl rfl⟩
        · intro L a w hv K Q hK
          obtain ⟨v8, v9, hs⟩ := hv
          refine wpOp_yes rfl rfl rfl hs (congrArg (fun b => some (Value.bool b)) hg10) (OpT_call (ws_desc_PackedBytes hx16) [] [] rfl rfl rfl rfl rfl callee14 rfl rfl rfl rfl) ?_
          rintro _ ⟨v8', _, _, ⟨_, rfl, rfl, rfl⟩, rfl⟩ a' w' hs'
          exact hK a' w' ⟨v8', v9, hs'.putF (i := 10) rfl [0, 1, 2] [0, 3, 2] rfl rfl rfl rfl⟩
        · intro L a w hv K Q hK
          obtain ⟨v8, v9, hs⟩ := hv
          refine wpOp_yes rfl rfl rfl hs (congrArg (fun b => some (Value.bool b)) hg10) (OpT_strS rfl rfl rfl rfl Try.underlying34 Try.underlying5 Try.underlying9 (i := 1) rfl) ?_
          rintro _ rfl a' w' hs'
          exact hK a' w' ⟨v8, v9, hs'.putF (i := 11) rfl [0, 1, 2] [0, 1, 2] rfl rfl rfl rfl⟩
        · intro L a w hv K Q hK
          obtain ⟨v8, v9, hs⟩ := hv
          refine wpOp_yes rfl rfl rfl hs (congrArg (fun b => some (Value.bool b)) hg10) (OpT_loadCA (vs := [vU64 pp1.Addr, vU32 pp1.Len, vU16 pp1.ID, vU16 pp1.Flags]) rfl rfl rfl rfl tyF31 (i := 0) rfl rfl rfl) ?_
          rintro _ rfl a' w' hs'
          exact hK a' w' ⟨v8, v9, hs'.putF (i := 12) rfl [0, 1, 2] [0, 1, 2] rfl rfl rfl rfl⟩
        · intro L a w hv K Q hK
          obtain ⟨v8, v9, hs⟩ := hv
          refine wpOp_yes rfl rfl rfl hs (congrArg (fun b => some (Value.bool b)) hg10) (OpT_call (ws_ref_PackedBytes03 hx17) [] [] rfl rfl rfl rfl rfl callee31 rfl rfl rfl rfl) ?_
          rintro _ ⟨v9', _, _, ⟨_, rfl, rfl, rfl⟩, rfl⟩ a' w' hs'
          exact hK a' w' ⟨v8, v9', hs'.putF (i := 13) rfl [0, 1, 2] [0, 1, 3] rfl rfl rfl rfl⟩
        · intro L a w hv K Q hK
          obtain ⟨v8, v9, hs⟩ := hv
          refine wpOp_yes rfl rfl rfl hs (congrArg (fun b => some (Value.bool b)) hg10) (OpT_strS rfl rfl rfl rfl Try.underlying34 Try.underlying5 Try.underlying9 (i := 2) rfl) ?_
          rintro _ rfl a' w' hs'
          exact hK a' w' ⟨v8, v9, hs'.putF (i := 14) rfl [0, 1, 2] [0, 1, 2] rfl rfl rfl rfl⟩
        · intro L a w hL hv
          rw [allTrue hL] at hv
          obtain ⟨v8, v9, hs⟩ := hv
          refine (show TA _ _ _ 14 ⟨[(2, some (vU64 wp2)), (4, some (vl1)), (5, some (vU16 flags)), (6, some (vB wrap)), (7, some (vB used)), (29, some (.pointer (some ⟨b7, 0, none⟩))), (30, some (.pointer (some ⟨b8, 0, none⟩))), (114, some (vB (bytes1 == bytes2))), (117, some (vS packed1)), (120, some (vS packed2))], [some (cellsR b7 49 [vU32 readus1.ID, vU32 readus1.Len]), some (cellsR b8 52 [vU16 readev1.Off, vU16 readev1.Flags])], [Fact.sl DescS vl1 l]⟩ from ?_) a w (hs.wkS [2, 4, 5, 6, 7, 29, 30, 114, 117, 120] [1, 2] [0] rfl rfl rfl rfl)
          clear hs hL
          refine TA_yes htb (by kernel_rfl) rfl rfl rfl (congrArg (fun b => some (Value.bool b)) hg10) (OpT_bin rfl rfl rfl rfl rfl (bin_eql_s (a := packed1) (b := packed2))) ?_
          rintro _ rfl
          refine TA_step htb (by kernel_rfl) rfl rfl (OpT_pickT rfl rfl rfl (congrArg (fun b => some (Value.bool b)) hg10) rfl) ?_
          refine TA_step htb (by kernel_rfl) rfl rfl (OpT_move rfl rfl rfl rfl) ?_
          refine TA_wkS (fr' := [(2, some (vU64 wp2)), (4, some (vl1)), (5, some (vU16 flags)), (6, some (vB wrap)), (7, some (vB used)), (29, some (.pointer (some ⟨b7, 0, none⟩))), (30, some (.pointer (some ⟨b8, 0, none⟩))), (123, some (vB (packed1 == packed2)))]) (own' := [some (cellsR b7 49 [vU32 readus1.ID, vU32 readus1.Len]), some (cellsR b8 52 [vU16 readev1.Off, vU16 readev1.Flags])]) (shr' := [Fact.sl DescS vl1 l]) [2, 4, 5, 6, 7, 29, 30, 123] [0, 1] [0] rfl rfl rfl rfl ?_
          obtain ⟨hg11, h⟩ := chk_e h
          obtain ⟨readus2, hx18, h⟩ := ob_e h
          refine TA_seg (lo := 17) (hi := 20) htb rfl rfl (by kernel_rfl) (fun c L a w => Sat c ⟨[(2, some (vU64 wp2)), (4, some (vl1)), (5, some (vU16 flags)), (6, some (vB wrap)), (7, some (vB used)), (29, some (.pointer (some ⟨b7, 0, none⟩))), (30, some (.pointer (some ⟨b8, 0, none⟩))), (123, some (vB (packed1 == packed2))), (124, bif L 17 then some (vU64 wp2) else none), (125, bif L 18 then some (.agg #[vU32 readus2.ID, vU32 readus2.Len]) else none), (126, bif L 19 then some (.agg #[vU32 readus1.ID, vU32 readus1.Len]) else none)], [(some (cellsR b7 49 [vU32 readus1.ID, vU32 readus1.Len]) : Option Res), (some (cellsR b8 52 [vU16 readev1.Off, vU16 readev1.Flags]) : Option Res)], [Fact.sl DescS vl1 l]⟩ a w) [([], [18]), ([17], []), ([], [])] rfl (by kernel_rfl) ?_ (steps_cons ?_ (steps_cons ?_ (steps_cons ?_ (steps_nil)))) ?_
          · intro a w hs
            exact hs.startF [124, 125, 126] [0, 1] [0] rfl rfl rfl rfl
          · intro L a w hv K Q hK
            have hs := hv
            refine wpOp_yes rfl rfl rfl hs (congrArg (fun b => some (Value.bool b)) hg11) (OpT_move rfl rfl rfl rfl) ?_
            rintro _ rfl a' w' hs'
            exact hK a' w' (hs'.putF (i := 8) rfl [0, 1] [0] rfl rfl rfl rfl)
          · intro L a w hv K Q hK
            have hs := hv
            refine wpOp_yes rfl rfl rfl hs (congrArg (fun b => some (Value.bool b)) hg11) (OpT_call (w_desc_ReadUsed hx18) [] [] rfl rfl rfl rfl rfl callee21 rfl rfl rfl rfl) ?_
            rintro _ ⟨_, _, _, ⟨rfl, rfl, rfl⟩, rfl⟩ a' w' hs'
            exact hK a' w' (hs'.putF (i := 9) rfl [0, 1] [0] rfl rfl rfl rfl)
          · intro L a w hv K Q hK
            have hs := hv
            refine wpOp_yes rfl rfl rfl hs (congrArg (fun b => some (Value.bool b)) hg11) (OpT_loadCA (vs := [vU32 readus1.ID, vU32 readus1.Len]) rfl rfl rfl rfl tyF49 (i := 0) rfl rfl rfl) ?_
            rintro _ rfl a' w' hs'
            exact hK a' w' (hs'.putF (i := 10) rfl [0, 1] [0] rfl rfl rfl rfl)
          · intro L a w hL hv
            rw [allTrue hL] at hv
            have hs := hv
            refine (show TA _ _ _ 20 ⟨[(2, some (vU64 wp2)), (4, some (vl1)), (5, some (vU16 flags)), (6, some (vB wrap)), (7, some (vB used)), (29, some (.pointer (some ⟨b7, 0, none⟩))), (30, some (.pointer (some ⟨b8, 0, none⟩))), (123, some (vB (packed1 == packed2))), (125, some (.agg #[vU32 readus2.ID, vU32 readus2.Len])), (126, some (.agg #[vU32 readus1.ID, vU32 readus1.Len]))], [some (cellsR b7 49 [vU32 readus1.ID, vU32 readus1.Len]), some (cellsR b8 52 [vU16 readev1.Off, vU16 readev1.Flags])], [Fact.sl DescS vl1 l]⟩ from ?_) a w (hs.wkS [2, 4, 5, 6, 7, 29, 30, 123, 125, 126] [0, 1] [0] rfl rfl rfl rfl)
            clear hs hL
            refine TA_yes htb (by kernel_rfl) rfl rfl rfl (congrArg (fun b => some (Value.bool b)) hg11) (OpT_bin rfl rfl rfl rfl rfl (eqT49_eql readus2 readus1)) ?_
            rintro _ rfl
            refine TA_step htb (by kernel_rfl) rfl rfl (OpT_pickT rfl rfl rfl (congrArg (fun b => some (Value.bool b)) hg11) rfl) ?_
            refine TA_step htb (by kernel_rfl) rfl rfl (OpT_move rfl rfl rfl rfl) ?_
            refine TA_wkS (fr' := [(2, some (vU64 wp2)), (4, some (vl1)), (5, some (vU16 flags)), (6, some (vB wrap)), (7, some (vB used)), (29, some (.pointer (some ⟨b7, 0, none⟩))), (30, some (.pointer (some ⟨b8, 0, none⟩))), (129, some (vB (readus2 == readus1)))]) (own' := [some (cellsR b7 49 [vU32 readus1.ID, vU32 readus1.Len]), some (cellsR b8 52 [vU16 readev1.Off, vU16 readev1.Flags])]) (shr' := [Fact.sl DescS vl1 l]) [2, 4, 5, 6, 7, 29, 30, 129] [0, 1] [0] rfl rfl rfl rfl ?_
            obtain ⟨hg12, h⟩ := chk_e h
            obtain ⟨readev2, hx19, h⟩ := ob_e h
            refine TA_seg (lo := 23) (hi := 26) htb rfl rfl (by kernel_rfl) (fun c L a w => Sat c ⟨[(2, some (vU64 wp2)), (4, some (vl1)), (5, some (vU16 flags)), (6, some (vB wrap)), (7, some (vB used)), (29, some (.pointer (some ⟨b7, 0, none⟩))), (30, some (.pointer (some ⟨b8, 0, none⟩))), (129, some (vB (readus2 == readus1))), (130, bif L 23 then some (vU64 wp2) else none), (131, bif L 24 then some (.agg #[vU16 readev2.Off, vU16 readev2.Flags]) else none), (132, bif L 25 then some (.agg #[vU16 readev1.Off, vU16 readev1.Flags]) else none)], [(some (cellsR b7 49 [vU32 readus1.ID, vU32 readus1.Len]) : Option Res), (some (cellsR b8 52 [vU16 readev1.Off, vU16 readev1.Flags]) : Option Res)], [Fact.sl DescS vl1 l]⟩ a w) [([], [24]), ([23], []), ([], [])] rfl (by kernel_rfl) ?_ (steps_cons ?_ (steps_cons ?_ (steps_cons ?_ (steps_nil)))) ?_
            · intro a w hs
              exact hs.startF [130, 131, 132] [0, 1] [0] rfl rfl rfl rfl
            · intro L a w hv K Q hK
              have hs := hv
              refine wpOp_yes rfl rfl rfl hs (congrArg (fun b => some (Value.bool b)) hg12) (OpT_move rfl rfl rfl rfl) ?_
              rintro _ rfl a' w' hs'
              exact hK a' w' (hs'.putF (i := 8) rfl [0, 1] [0] rfl rfl rfl rfl)
            · intro L a w hv K Q hK
              have hs := hv
              refine wpOp_yes rfl rfl rfl hs (congrArg (fun b => some (Value.bool b)) hg12) (OpT_call (w_desc_ReadEvent hx19) [] [] rfl rfl rfl rfl rfl callee22 rfl rfl rfl rfl) ?_
              rintro _ ⟨_, _, _, ⟨rfl, rfl, rfl⟩, rfl⟩ a' w' hs'
              exact hK a' w' (hs'.putF (i := 9) rfl [0, 1] [0] rfl rfl rfl rfl)
            · intro L a w hv K Q hK
              have hs := hv
              refine wpOp_yes rfl rfl rfl hs (congrArg (fun b => some (Value.bool b)) hg12) (OpT_loadCA (vs := [vU16 readev1.Off, vU16 readev1.Flags]) rfl rfl rfl rfl tyF52 (i := 1) rfl rfl rfl) ?_
              rintro _ rfl a' w' hs'
              exact hK a' w' (hs'.putF (i := 10) rfl [0, 1] [0] rfl rfl rfl rfl)
            · intro L a w hL hv
              rw [allTrue hL] at hv
              have hs := hv
              refine (show TA _ _ _ 26 ⟨[(4, some (vl1)), (5, some (vU16 flags)), (6, some (vB wrap)), (7, some (vB used)), (29, some (.pointer (some ⟨b7, 0, none⟩))), (30, some (.pointer (some ⟨b8, 0, none⟩))), (129, some (vB (readus2 == readus1))), (131, some (.agg #[vU16 readev2.Off, vU16 readev2.Flags])), (132, some (.agg #[vU16 readev1.Off, vU16 readev1.Flags]))], [some (cellsR b7 49 [vU32 readus1.ID, vU32 readus1.Len]), some (cellsR b8 52 [vU16 readev1.Off, vU16 readev1.Flags])], [Fact.sl DescS vl1 l]⟩ from ?_) a w (hs.wkS [4, 5, 6, 7, 29, 30, 129, 131, 132] [0, 1] [0] rfl rfl rfl rfl)
              clear hs hL
              refine TA_yes htb (by kernel_rfl) rfl rfl rfl (congrArg (fun b => some (Value.bool b)) hg12) (OpT_bin rfl rfl rfl rfl rfl (eqT52_eql readev2 readev1)) ?_
              rintro _ rfl
              refine TA_step htb (by kernel_rfl) rfl rfl (OpT_pickT rfl rfl rfl (congrArg (fun b => some (Value.bool b)) hg12) rfl) ?_
              refine TA_step htb (by kernel_rfl) rfl rfl (OpT_move rfl rfl rfl rfl) ?_
              refine TA_wkS (fr' := [(4, some (vl1)), (5, some (vU16 flags)), (6, some (vB wrap)), (7, some (vB used)), (29, some (.pointer (some ⟨b7, 0, none⟩))), (30, some (.pointer (some ⟨b8, 0, none⟩))), (135, some (vB (readev2 == readev1)))]) (own' := [some (cellsR b7 49 [vU32 readus1.ID, vU32 readus1.Len]), some (cellsR b8 52 [vU16 readev1.Off, vU16 readev1.Flags])]) (shr' := [Fact.sl DescS vl1 l]) [4, 5, 6, 7, 29, 30, 135] [0, 1] [0] rfl rfl rfl rfl ?_
              obtain ⟨hg13, h⟩ := chk_e h
              obtain ⟨usedwo1, hx20, h⟩ := ob_e h
              refine TA_seg (lo := 29) (hi := 32) htb rfl rfl (by kernel_rfl) (fun c L a w => Sat c ⟨[(4, some (vl1)), (5, some (vU16 flags)), (6, some (vB wrap)), (7, some (vB used)), (29, some (.pointer (some ⟨b7, 0, none⟩))), (30, some (.pointer (some ⟨b8, 0, none⟩))), (135, some (vB (readev2 == readev1))), (136, bif L 29 then some (.agg #[vU32 readus1.ID, vU32 readus1.Len]) else none), (137, bif L 30 then some (vU64 usedwo1) else none), (138, bif L 31 then some (.agg #[vU32 readus1.ID, vU32 readus1.Len]) else none)], [(some (cellsR b7 49 [vU32 readus1.ID, vU32 readus1.Len]) : Option Res), (some (cellsR b8 52 [vU16 readev1.Off, vU16 readev1.Flags]) : Option Res)], [Fact.sl DescS vl1 l]⟩ a w) [([], [30]), ([29], []), ([], [])] rfl (by kernel_rfl) ?_ (steps_cons ?_ (steps_cons ?_ (steps_cons ?_ (steps_nil)))) ?_
              · intro a w hs
                exact hs.startF [136, 137, 138] [0, 1] [0] rfl rfl rfl rfl
              · intro L a w hv K Q hK
                have hs := hv
                refine wpOp_yes rfl rfl rfl hs (congrArg (fun b => some (Value.bool b)) hg13) (OpT_loadCA (vs := [vU32 readus1.ID, vU32 readus1.Len]) rfl rfl rfl rfl tyF49 (i := 0) rfl rfl rfl) ?_
                rintro _ rfl a' w' hs'
                exact hK a' w' (hs'.putF (i := 7) rfl [0, 1] [0] rfl rfl rfl rfl)
              · intro L a w hv K Q hK
                have hs := hv
                refine wpOp_yes rfl rfl rfl hs (congrArg (fun b => some (Value.bool b)) hg13) (OpT_call (w_desc_UsedWord hx20) [] [] rfl rfl rfl rfl rfl callee19 rfl rfl rfl rfl) ?_
                rintro _ ⟨_, _, _, ⟨rfl, rfl, rfl⟩, rfl⟩ a' w' hs'
                exact hK a' w' (hs'.putF (i := 8) rfl [0, 1] [0] rfl rfl rfl rfl)
              · intro L a w hv K Q hK
                have hs := hv
                refine wpOp_yes rfl rfl rfl hs (congrArg (fun b => some (Value.bool b)) hg13) (OpT_loadCA (vs := [vU32 readus1.ID, vU32 readus1.Len]) rfl rfl rfl rfl tyF49 (i := 0) rfl rfl rfl) ?_
                rintro _ rfl a' w' hs'
                exact hK a' w' (hs'.putF (i := 9) rfl [0, 1] [0] rfl rfl rfl rfl)
              · intro L a w hL hv
                rw [allTrue hL] at hv
                have hs := hv
                refine (show TA _ _ _ 32 ⟨[(4, some (vl1)), (5, some (vU16 flags)), (6, some (vB wrap)), (7, some (vB used)), (30, some (.pointer (some ⟨b8, 0, none⟩))), (135, some (vB (readev2 == readev1))), (137, some (vU64 usedwo1)), (138, some (.agg #[vU32 readus1.ID, vU32 readus1.Len]))], [some (cellsR b8 52 [vU16 readev1.Off, vU16 readev1.Flags])], [Fact.sl DescS vl1 l]⟩ from ?_) a w (hs.wkS [4, 5, 6, 7, 30, 135, 137, 138] [1] [0] rfl rfl rfl rfl)
                clear hs hL
                obtain ⟨usedwo2, hx21, h⟩ := ob_e h
                refine TA_yes htb (by kernel_rfl) rfl rfl rfl (congrArg (fun b => some (Value.bool b)) hg13) (OpT_call (w_ref_UsedWord03 hx21) [] [] rfl rfl rfl rfl rfl callee32 rfl rfl rfl rfl) ?_
                rintro _ ⟨_, _, _, ⟨rfl, rfl, rfl⟩, rfl⟩
                refine TA_yes htb (by kernel_rfl) rfl rfl rfl (congrArg (fun b => some (Value.bool b)) hg13) (OpT_bin rfl rfl rfl rfl rfl (bin_eql_u64 (a := usedwo1) (b := usedwo2))) ?_
                rintro _ rfl
                refine TA_step htb (by kernel_rfl) rfl rfl (OpT_pickT rfl rfl rfl (congrArg (fun b => some (Value.bool b)) hg13) rfl) ?_
                refine TA_step htb (by kernel_rfl) rfl rfl (OpT_move rfl rfl rfl rfl) ?_
                refine TA_wkS (fr' := [(4, some (vl1)), (5, some (vU16 flags)), (6, some (vB wrap)), (7, some (vB used)), (30, some (.pointer (some ⟨b8, 0, none⟩))), (142, some (vB (usedwo1 == usedwo2)))]) (own' := [some (cellsR b8 52 [vU16 readev1.Off, vU16 readev1.Flags])]) (shr' := [Fact.sl DescS vl1 l]) [4, 5, 6, 7, 30, 142] [0] [0] rfl rfl rfl rfl ?_
                obtain ⟨hg14, h⟩ := chk_e h
                obtain ⟨eventw1, hx22, h⟩ := ob_e h
                refine TA_seg (lo := 36) (hi := 39) htb rfl rfl (by kernel_rfl) (fun c L a w => Sat c ⟨[(4, some (vl1)), (5, some (vU16 flags)), (6, some (vB wrap)), (7, some (vB used)), (30, some (.pointer (some ⟨b8, 0, none⟩))), (142, some (vB (usedwo1 == usedwo2))), (143, bif L 36 then some (.agg #[vU16 readev1.Off, vU16 readev1.Flags]) else none), (144, bif L 37 then some (vU64 eventw1) else none), (145, bif L 38 then some (.agg #[vU16 readev1.Off, vU16 readev1.Flags]) else none)], [(some (cellsR b8 52 [vU16 readev1.Off, vU16 readev1.Flags]) : Option Res)], [Fact.sl DescS vl1 l]⟩ a w) [([], [37]), ([36], []), ([], [])] rfl (by kernel_rfl) ?_ (steps_cons ?_ (steps_cons ?_ (steps_cons ?_ (steps_nil)))) ?_
                · intro a w hs
                  exact hs.startF [143, 144, 145] [0] [0] rfl rfl rfl rfl
                · intro L a w hv K Q hK
                  have hs := hv
                  refine wpOp_yes rfl rfl rfl hs (congrArg (fun b => some (Value.bool b)) hg14) (OpT_loadCA (vs := [vU16 readev1.Off, vU16 readev1.Flags]) rfl rfl rfl rfl tyF52 (i := 0) rfl rfl rfl) ?_
                  rintro _ rfl a' w' hs'
                  exact hK a' w' (hs'.putF (i := 6) rfl [0] [0] rfl rfl rfl rfl)
                · intro L a w hv K Q hK
                  have hs := hv
                  refine wpOp_yes rfl rfl rfl hs (congrArg (fun b => some (Value.bool b)) hg14) (OpT_call (w_desc_EventWord hx22) [] [] rfl rfl rfl rfl rfl callee20 rfl rfl rfl rfl) ?_
                  rintro _ ⟨_, _, _, ⟨rfl, rfl, rfl⟩, rfl⟩ a' w' hs'
                  exact hK a' w' (hs'.putF (i := 7) rfl [0] [0] rfl rfl rfl rfl)
                · intro L a w hv K Q hK
                  have hs := hv
                  refine wpOp_yes rfl rfl rfl hs (congrArg (fun b => some (Value.bool b)) hg14) (OpT_loadCA (vs := [vU16 readev1.Off, vU16 readev1.Flags]) rfl rfl rfl rfl tyF52 (i := 0) rfl rfl rfl) ?_
                  rintro _ rfl a' w' hs'
                  exact hK a' w' (hs'.putF (i := 8) rfl [0] [0] rfl rfl rfl rfl)
                · intro L a w hL hv
                  rw [allTrue hL] at hv
                  have hs := hv
                  refine (show TA _ _ _ 39 ⟨[(4, some (vl1)), (5, some (vU16 flags)), (6, some (vB wrap)), (7, some (vB used)), (142, some (vB (usedwo1 == usedwo2))), (144, some (vU64 eventw1)), (145, some (.agg #[vU16 readev1.Off, vU16 readev1.Flags]))], [], [Fact.sl DescS vl1 l]⟩ from ?_) a w (hs.wkS [4, 5, 6, 7, 142, 144, 145] [] [0] rfl rfl rfl rfl)
                  clear hs hL
                  obtain ⟨eventw2, hx23, h⟩ := ob_e h
                  refine TA_yes htb (by kernel_rfl) rfl rfl rfl (congrArg (fun b => some (Value.bool b)) hg14) (OpT_call (w_ref_EventWord03 hx23) [] [] rfl rfl rfl rfl rfl callee33 rfl rfl rfl rfl) ?_
                  rintro _ ⟨_, _, _, ⟨rfl, rfl, rfl⟩, rfl⟩
                  refine TA_yes htb (by kernel_rfl) rfl rfl rfl (congrArg (fun b => some (Value.bool b)) hg14) (OpT_bin rfl rfl rfl rfl rfl (bin_eql_u64 (a := eventw1) (b := eventw2))) ?_
                  rintro _ rfl
                  refine TA_step htb (by kernel_rfl) rfl rfl (OpT_pickT rfl rfl rfl (congrArg (fun b => some (Value.bool b)) hg14) rfl) ?_
                  refine TA_step htb (by kernel_rfl) rfl rfl (OpT_move rfl rfl rfl rfl) ?_
                  refine TA_wkS (fr' := [(4, some (vl1)), (5, some (vU16 flags)), (6, some (vB wrap)), (7, some (vB used)), (149, some (vB (eventw1 == eventw2)))]) (own' := []) (shr' := [Fact.sl DescS vl1 l]) [4, 5, 6, 7, 149] [] [0] rfl rfl rfl rfl ?_
                  obtain ⟨hg15, h⟩ := chk_e h
                  obtain ⟨table1, hx24, h⟩ := ob_e h
                  obtain ⟨table2, hx25, h⟩ := ob_e h
                  refine TA_seg (lo := 43) (hi := 49) htb rfl rfl (by kernel_rfl) (fun c L a w => ∃ (v10 : Value), ∃ (v11 : Value), Sat c ⟨[(4, some (vl1)), (5, some (vU16 flags)), (6, some (vB wrap)), (7, some (vB used)), (149, some (vB (eventw1 == eventw2))), (150, bif L 43 then some (vl1) else none), (151, bif L 44 then some (v10) else none), (152, bif L 45 then some (vS table1) else none), (153, bif L 46 then some (vl1) else none), (154, bif L 47 then some (v11) else none), (155, bif L 48 then some (vS table2) else none)], [], [Fact.sl DescS vl1 l, (bif L 44 then Fact.sl u8S v10 table1 else Fact.tt), (bif L 47 then Fact.sl u8S v11 table2 else Fact.tt)]⟩ a w) [([], [44, 45, 47, 48]), ([43], [45, 47, 48]), ([43, 44], []), ([], [47, 48]), ([43, 44, 46], [48]), ([43, 44, 46, 47], [])] rfl (by kernel_rfl) ?_ (steps_cons ?_ (steps_cons ?_ (steps_cons ?_ (steps_cons ?_ (steps_cons ?_ (steps_cons ?_ (steps_nil))))))) ?_
                  · intro a w hs
                    exact ⟨undef, undef, hs.startF [150, 151, 152, 153, 154, 155] [] [0, 1, 2] rfl rfl rfl rfl⟩
                  · intro L a w hv K Q hK
                    obtain ⟨v10, v11, hs⟩ := hv
                    refine wpOp_yes rfl rfl rfl hs (congrArg (fun b => some (Value.bool b)) hg15) (OpT_move rfl rfl rfl rfl) ?_
                    rintro _ rfl a' w' hs'
                    exact hK a' w' ⟨v10, v11, hs'.putF (i := 5) rfl [] [0, 1, 2] rfl rfl rfl rfl⟩
                  · intro L a w hv K Q hK
                    obtain ⟨v10, v11, hs⟩ := hv
                    refine wpOp_yes rfl rfl rfl hs (congrArg (fun b => some (Value.bool b)) hg15) (OpT_call (ws_desc_Table hx24) [] [0] rfl rfl rfl rfl rfl callee17 rfl rfl rfl rfl) ?_
                    rintro _ ⟨v10', _, _, ⟨_, rfl, rfl, rfl⟩, rfl⟩ a' w' hs'
                    exact hK a' w' ⟨v10', v11, hs'.putF (i := 6) rfl [] [0, 3, 2] rfl rfl rfl rfl⟩
                  · intro L a w hv K Q hK
                    obtain ⟨v10, v11, hs⟩ := hv
                    refine wpOp_yes rfl rfl rfl hs (congrArg (fun b => some (Value.bool b)) hg15) (OpT_strS rfl rfl rfl rfl Try.underlying34 Try.underlying5 Try.underlying9 (i := 1) rfl) ?_
                    rintro _ rfl a' w' hs'
                    exact hK a' w' ⟨v10, v11, hs'.putF (i := 7) rfl [] [0, 1, 2] rfl rfl rfl rfl⟩
                  · intro L a w hv K Q hK
                    obtain ⟨v10, v11, hs⟩ := hv
                    refine wpOp_yes rfl rfl rfl hs (congrArg (fun b => some (Value.bool b)) hg15) (OpT_move rfl rfl rfl rfl) ?_
                    rintro _ rfl a' w' hs'
                    exact hK a' w' ⟨v10, v11, hs'.putF (i := 8) rfl [] [0, 1, 2] rfl rfl rfl rfl⟩
                  · intro L a w hv K Q hK
                    obtain ⟨v10, v11, hs⟩ := hv
                    refine wpOp_yes rfl rfl rfl hs (congrArg (fun b => some (Value.bool b)) hg15) (OpT_call (ws_ref_Table03 hx25) [] [0] rfl rfl rfl rfl rfl callee34 rfl rfl rfl rfl) ?_
                    rintro _ ⟨v11', _, _, ⟨_, rfl, rfl, rfl⟩, rfl⟩ a' w' hs'
                    exact hK a' w' ⟨v10, v11', hs'.putF (i := 9) rfl [] [0, 1, 3] rfl rfl rfl rfl⟩
                  · intro L a w hv K Q hK
                    obtain ⟨v10, v11, hs⟩ := hv
                    refine wpOp_yes rfl rfl rfl hs (congrArg (fun b => some (Value.bool b)) hg15) (OpT_strS rfl rfl rfl rfl Try.underlying34 Try.underlying5 Try.underlying9 (i := 2) rfl) ?_
                    rintro _ rfl a' w' hs'
                    exact hK a' w' ⟨v10, v11, hs'.putF (i := 10) rfl [] [0, 1, 2] rfl rfl rfl rfl⟩
                  · intro L a w hL hv
                    rw [allTrue hL] at hv
                    obtain ⟨v10, v11, hs⟩ := hv
                    refine (show TA _ _ _ 49 ⟨[(5, some (vU16 flags)), (6, some (vB wrap)), (7, some (vB used)), (149, some (vB (eventw1 == eventw2))), (152, some (vS table1)), (155, some (vS table2))], [], []⟩ from ?_) a w (hs.wkS [5, 6, 7, 149, 152, 155] [] [] rfl rfl rfl rfl)
                    clear hs hL
                    refine TA_yes htb (by kernel_rfl) rfl rfl rfl (congrArg (fun b => some (Value.bool b)) hg15) (OpT_bin rfl rfl rfl rfl rfl (bin_eql_s (a := table1) (b := table2))) ?_
                    rintro _ rfl
                    refine TA_step htb (by kernel_rfl) rfl rfl (OpT_pickT rfl rfl rfl (congrArg (fun b => some (Value.bool b)) hg15) rfl) ?_
                    refine TA_step htb (by kernel_rfl) rfl rfl (OpT_move rfl rfl rfl rfl) ?_
                    refine TA_wkS (fr' := [(5, some (vU16 flags)), (6, some (vB wrap)), (7, some (vB used)), (158, some (vB (table1 == table2)))]) (own' := []) (shr' := []) [5, 6, 7, 158] [] [] rfl rfl rfl rfl ?_
                    obtain ⟨hg16, h⟩ := chk_e h
                    obtain ⟨avail1, hx26, h⟩ := ob_e h
                    refine TA_seg (lo := 52) (hi := 57) htb rfl rfl (by kernel_rfl) (fun c L a w => Sat c ⟨[(5, some (vU16 flags)), (6, some (vB wrap)), (7, some (vB used)), (158, some (vB (table1 == table2))), (159, bif L 52 then some (vU16 flags) else none), (160, bif L 53 then some (vB wrap) else none), (161, bif L 54 then some (vB avail1) else none), (162, bif L 55 then some (vU16 flags) else none), (163, bif L 56 then some (vB wrap) else none)], [], []⟩ a w) [([], [54]), ([], [54]), ([52, 53], []), ([], []), ([], [])] rfl (by kernel_rfl) ?_ (steps_cons ?_ (steps_cons ?_ (steps_cons ?_ (steps_cons ?_ (steps_cons ?_ (steps_nil)))))) ?_
                    · intro a w hs
                      exact hs.startF [159, 160, 161, 162, 163] [] [] rfl rfl rfl rfl
                    · intro L a w hv K Q hK
                      have hs := hv
                      refine wpOp_yes rfl rfl rfl hs (congrArg (fun b => some (Value.bool b)) hg16) (OpT_move rfl rfl rfl rfl) ?_
                      rintro _ rfl a' w' hs'
                      exact hK a' w' (hs'.putF (i := 4) rfl [] [] rfl rfl rfl rfl)
                    · intro L a w hv K Q hK
                      have hs := hv
                      refine wpOp_yes rfl rfl rfl hs (congrArg (fun b => some (Value.bool b)) hg16) (OpT_move rfl rfl rfl rfl) ?_
                      rintro _ rfl a' w' hs'
                      exact hK a' w' (hs'.putF (i := 5) rfl [] [] rfl rfl rfl rfl)
                    · intro L a w hv K Q hK
                      have hs := hv
                      refine wpOp_yes rfl rfl rfl hs (congrArg (fun b => some (Value.bool b)) hg16) (OpT_call (w_desc_Avail hx26) [] [] rfl rfl rfl rfl rfl callee10 rfl rfl rfl rfl) ?_
                      rintro _ ⟨_, _, _, ⟨rfl, rfl, rfl⟩, rfl⟩ a' w' hs'
                      exact hK a' w' (hs'.putF (i := 6) rfl [] [] rfl rfl rfl rfl)
                    · intro L a w hv K Q hK
                      have hs := hv
                      refine wpOp_yes rfl rfl rfl hs (congrArg (fun b => some (Value.bool b)) hg16) (OpT_move rfl rfl rfl rfl) ?_
                      rintro _ rfl a' w' hs'
                      exact hK a' w' (hs'.putF (i := 7) rfl [] [] rfl rfl rfl rfl)
                    · intro L a w hv K Q hK
                      have hs := hv
                      refine wpOp_yes rfl rfl rfl hs (congrArg (fun b => some (Value.bool b)) hg16) (OpT_move rfl rfl rfl rfl) ?_
                      rintro _ rfl a' w' hs'
                      exact hK a' w' (hs'.putF (i := 8) rfl [] [] rfl rfl rfl rfl)
                    · intro L a w hL hv
                      rw [allTrue hL] at hv
                      have hs := hv
                      refine (show TA _ _ _ 57 ⟨[(5, some (vU16 flags)), (6, some (vB wrap)), (7, some (vB used)), (158, some (vB (table1 == table2))), (161, some (vB avail1)), (162, some (vU16 flags)), (163, some (vB wrap))], [], []⟩ from ?_) a w (hs.wkS [5, 6, 7, 158, 161, 162, 163] [] [] rfl rfl rfl rfl)
                      clear hs hL
                      obtain ⟨avail2, hx27, h⟩ := ob_e h
                      refine TA_yes htb (by kernel_rfl) rfl rfl rfl (congrArg (fun b => some (Value.bool b)) hg16) (OpT_call (w_ref_Avail03 hx27) [] [] rfl rfl rfl rfl rfl callee35 rfl rfl rfl rfl) ?_
                      rintro _ ⟨_, _, _, ⟨rfl, rfl, rfl⟩, rfl⟩
                      refine TA_yes htb (by kernel_rfl) rfl rfl rfl (congrArg (fun b => some (Value.bool b)) hg16) (OpT_bin rfl rfl rfl rfl rfl (bin_eql_b (a := avail1) (b := avail2) Try.underlying4)) ?_
                      rintro _ rfl
                      refine TA_step htb (by kernel_rfl) rfl rfl (OpT_pickT rfl rfl rfl (congrArg (fun b => some (Value.bool b)) hg16) rfl) ?_
                      refine TA_step htb (by kernel_rfl) rfl rfl (OpT_move rfl rfl rfl rfl) ?_
                      refine TA_wkS (fr' := [(5, some (vU16 flags)), (6, some (vB wrap)), (7, some (vB used)), (167, some (vB (avail1 == avail2)))]) (own' := []) (shr' := []) [5, 6, 7, 167] [] [] rfl rfl rfl rfl ?_
                      obtain ⟨hg17, h⟩ := chk_e h
                      obtain ⟨used1, hx28, h⟩ := ob_e h
                      refine TA_seg (lo := 61) (hi := 66) htb rfl rfl (by kernel_rfl) (fun c L a w => Sat c ⟨[(5, some (vU16 flags)), (6, some (vB wrap)), (7, some (vB used)), (167, some (vB (avail1 == avail2))), (168, bif L 61 then some (vU16 flags) else none), (169, bif L 62 then some (vB wrap) else none), (170, bif L 63 then some (vB used1) else none), (171, bif L 64 then some (vU16 flags) else none), (172, bif L 65 then some (vB wrap) else none)], [], []⟩ a w) [([], [63]), ([], [63]), ([61, 62], []), ([], []), ([], [])] rfl (by kernel_rfl) ?_ (steps_cons ?_ (steps_cons ?_ (steps_cons ?_ (steps_cons ?_ (steps_cons ?_ (steps_nil)))))) ?_
                      · intro a w hs
                        exact hs.startF [168, 169, 170, 171, 172] [] [] rfl rfl rfl rfl
                      · intro L a w hv K Q hK
                        have hs := hv
                        refine wpOp_yes rfl rfl rfl hs (congrArg (fun b => some (Value.bool b)) hg17) (OpT_move rfl rfl rfl rfl) ?_
                        rintro _ rfl a' w' hs'
                        exact hK a' w' (hs'.putF (i := 4) rfl [] [] rfl rfl rfl rfl)
                      · intro L a w hv K Q hK
                        have hs := hv
                        refine wpOp_yes rfl rfl rfl hs (congrArg (fun b => some (Value.bool b)) hg17) (OpT_move rfl rfl rfl rfl) ?_
                        rintro _ rfl a' w' hs'
                        exact hK a' w' (hs'.putF (i := 5) rfl [] [] rfl rfl rfl rfl)
                      · intro L a w hv K Q hK
                        have hs := hv
                        refine wpOp_yes rfl rfl rfl hs (congrArg (fun b => some (Value.bool b)) hg17) (OpT_call (w_desc_Used hx28) [] [] rfl rfl rfl rfl rfl callee11 rfl rfl rfl rfl) ?_
                        rintro _ ⟨_, _, _, ⟨rfl, rfl, rfl⟩, rfl⟩ a' w' hs'
                        exact hK a' w' (hs'.putF (i := 6) rfl [] [] rfl rfl rfl rfl)
                      · intro L a w hv K Q hK
                        have hs := hv
                        refine wpOp_yes rfl rfl rfl hs (congrArg (fun b => some (Value.bool b)) hg17) (OpT_move rfl rfl rfl rfl) ?_
                        rintro _ rfl a' w' hs'
                        exact hK a' w' (hs'.putF (i := 7) rfl [] [] rfl rfl rfl rfl)
                      · intro L a w hv K Q hK
                        have hs := hv
                        refine wpOp_yes rfl rfl rfl hs (congrArg (fun b => some (Value.bool b)) hg17) (OpT_move rfl rfl rfl rfl) ?_
                        rintro _ rfl a' w' hs'
                        exact hK a' w' (hs'.putF (i := 8) rfl [] [] rfl rfl rfl rfl)
                      · intro L a w hL hv
                        rw [allTrue hL] at hv
                        have hs := hv
                        refine (show TA _ _ _ 66 ⟨[(5, some (vU16 flags)), (6, some (vB wrap)), (7, some (vB used)), (167, some (vB (avail1 == avail2))), (170, some (vB used1)), (171, some (vU16 flags)), (172, some (vB wrap))], [], []⟩ from ?_) a w (hs.wkS [5, 6, 7, 167, 170, 171, 172] [] [] rfl rfl rfl rfl)
                        clear hs hL
                        obtain ⟨used2, hx29, h⟩ := ob_e h
                        refine TA_yes htb (by kernel_rfl) rfl rfl rfl (congrArg (fun b => some (Value.bool b)) hg17) (OpT_call (w_ref_Used03 hx29) [] [] rfl rfl rfl rfl rfl callee36 rfl rfl rfl rfl) ?_
                        rintro _ ⟨_, _, _, ⟨rfl, rfl, rfl⟩, rfl⟩
                        refine TA_yes htb (by kernel_rfl) rfl rfl rfl (congrArg (fun b => some (Value.bool b)) hg17) (OpT_bin rfl rfl rfl rfl rfl (bin_eql_b (a := used1) (b := used2) Try.underlying4)) ?_
                        rintro _ rfl
                        refine TA_step htb (by kernel_rfl) rfl rfl (OpT_pickT rfl rfl rfl (congrArg (fun b => some (Value.bool b)) hg17) rfl) ?_
                        refine TA_step htb (by kernel_rfl) rfl rfl (OpT_move rfl rfl rfl rfl) ?_
                        refine TA_wkS (fr' := [(5, some (vU16 flags)), (6, some (vB wrap)), (7, some (vB used)), (176, some (vB (used1 == used2)))]) (own' := []) (shr' := []) [5, 6, 7, 176] [] [] rfl rfl rfl rfl ?_
                        obtain ⟨hg18, h⟩ := chk_e h
                        obtain ⟨mark1, hx30, h⟩ := ob_e h
                        refine TA_seg (lo := 70) (hi := 77) htb rfl rfl (by kernel_rfl) (fun c L a w => Sat c ⟨[(5, some (vU16 flags)), (6, some (vB wrap)), (7, some (vB used)), (176, some (vB (used1 == used2))), (177, bif L 70 then some (vU16 flags) else none), (178, bif L 71 then some (vB wrap) else none), (179, bif L 72 then some (vB used) else none), (180, bif L 73 then some (vU16 mark1) else none), (181, bif L 74 then some (vU16 flags) else none), (182, bif L 75 then some (vB wrap) else none), (183, bif L 76 then some (vB used) else none)], [], []⟩ a w) [([], [73]), ([], [73]), ([], [73]), ([70, 71, 72], []), ([], []), ([], []), ([], [])] rfl (by kernel_rfl) ?_ (steps_cons ?_ (steps_cons ?_ (steps_cons ?_ (steps_cons ?_ (steps_cons ?_ (steps_cons ?_ (steps_cons ?_ (steps_nil)))))))) ?_
                        · intro a w hs
                          exact hs.startF [177, 178, 179, 180, 181, 182, 183] [] [] rfl rfl rfl rfl
                        · intro L a w hv K Q hK
                          have hs := hv
                          refine wpOp_yes rfl rfl rfl hs (congrArg (fun b => some (Value.bool b)) hg18) (OpT_move rfl rfl rfl rfl) ?_
                          rintro _ rfl a' w' hs'
                          exact hK a' w' (hs'.putF (i := 4) rfl [] [] rfl rfl rfl rfl)
                        · intro L a w hv K Q hK
                          have hs := hv
                          refine wpOp_yes rfl rfl rfl hs (congrArg (fun b => some (Value.bool b)) hg18) (OpT_move rfl rfl rfl rfl) ?_
                          rintro _ rfl a' w' hs'
                          exact hK a' w' (hs'.putF (i := 5) rfl [] [] rfl rfl rfl rfl)
                        · intro L a w hv K Q hK
                          have hs := hv
                          refine wpOp_yes rfl rfl rfl hs (congrArg (fun b => some (Value.bool b)) hg18) (OpT_move rfl rfl rfl rfl) ?_
                          rintro _ rfl a' w' hs'
                          exact hK a' w' (hs'.putF (i := 6) rfl [] [] rfl rfl rfl rfl)
                        · intro L a w hv K Q hK
                          have hs := hv
                          refine wpOp_yes rfl rfl rfl hs (congrArg (fun b => some (Value.bool b)) hg18) (OpT_call (w_desc_Mark hx30) [] [] rfl rfl rfl rfl rfl callee9 rfl rfl rfl rfl) ?_
                          rintro _ ⟨_, _, _, ⟨rfl, rfl, rfl⟩, rfl⟩ a' w' hs'
                          exact hK a' w' (hs'.putF (i := 7) rfl [] [] rfl rfl rfl rfl)
                        · intro L a w hv K Q hK
                          have hs := hv
                          refine wpOp_yes rfl rfl rfl hs (congrArg (fun b => some (Value.bool b)) hg18) (OpT_move rfl rfl rfl rfl) ?_
                          rintro _ rfl a' w' hs'
                          exact hK a' w' (hs'.putF (i := 8) rfl [] [] rfl rfl rfl rfl)
                        · intro L a w hv K Q hK
                          have hs := hv
                          refine wpOp_yes rfl rfl rfl hs (congrArg (fun b => some (Value.bool b)) hg18) (OpT_move rfl rfl rfl rfl) ?_
                          rintro _ rfl a' w' hs'
                          exact hK a' w' (hs'.putF (i := 9) rfl [] [] rfl rfl rfl rfl)
                        · intro L a w hv K Q hK
                          have hs := hv
                          refine wpOp_yes rfl rfl rfl hs (congrArg (fun b => some (Value.bool b)) hg18) (OpT_move rfl rfl rfl rfl) ?_
                          rintro _ rfl a' w' hs'
                          exact hK a' w' (hs'.putF (i := 10) rfl [] [] rfl rfl rfl rfl)
                        · intro L a w hL hv
                          rw [allTrue hL] at hv
                          have hs := hv
                          refine (show TA _ _ _ 77 ⟨[(176, some (vB (used1 == used2))), (180, some (vU16 mark1)), (181, some (vU16 flags)), (182, some (vB wrap)), (183, some (vB used))], [], []⟩ from ?_) a w (hs.wkS [176, 180, 181, 182, 183] [] [] rfl rfl rfl rfl)
                          clear hs hL
                          obtain ⟨mark2, hx31, h⟩ := ob_e h
                          refine TA_yes htb (by kernel_rfl) rfl rfl rfl (congrArg (fun b => some (Value.bool b)) hg18) (OpT_call (w_ref_Mark03 hx31) [] [] rfl rfl rfl rfl rfl callee37 rfl rfl rfl rfl) ?_
                          rintro _ ⟨_, _, _, ⟨rfl, rfl, rfl⟩, rfl⟩
                          refine TA_yes htb (by kernel_rfl) rfl rfl rfl (congrArg (fun b => some (Value.bool b)) hg18) (OpT_bin rfl rfl rfl rfl rfl (bin_eql_u16 (a := mark1) (b := mark2))) ?_
                          rintro _ rfl
                          refine TA_step htb (by kernel_rfl) rfl rfl (OpT_pickT rfl rfl rfl (congrArg (fun b => some (Value.bool b)) hg18) rfl) ?_
                          refine TA_step htb (by kernel_rfl) rfl rfl (OpT_assign rfl rfl rfl rfl) ?_
                          refine TA_end rfl ?_
                          refine Tk_wkS (fr' := [(16, some (vB (mark1 == mark2)))]) (own' := []) (shr' := []) [16] [] [] rfl rfl rfl rfl ?_
                          obtain ⟨hg19, h⟩ := chk_e h
                          exact Tk_retV rfl (resA (vs := [.bool true]) rfl ⟨(congrArg (fun b => some (Value.bool b)) hg19), trivial⟩) [] [] rfl rfl rfl ⟨rfl, rfl, rfl⟩
end Go.Proofs.Ytamdpkddehhocaa
