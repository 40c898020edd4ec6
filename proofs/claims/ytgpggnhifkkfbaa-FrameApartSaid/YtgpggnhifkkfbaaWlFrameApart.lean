/- The law FrameApart is walked: it returns what its plain words say. No condition. -/
import Derived.Test.YtgpggnhifkkfbaaWa3
namespace Go.Proofs.Ytgpggnhifkkfbaa

set_option maxRecDepth 100000 in
set_option maxHeartbeats 4000000 in
theorem w_law23zFrameApart {f : Frame} {g : Frame} {hp2 : Hdr} {ip3 : Hdr} {vf1 : Value} {vg1 : Value}  (h : law23zFrameApart f g hp2 ip3 = some true) :
    Ctr Try.prog 5 #[.agg #[vU8 f.Dst.a0, vU8 f.Dst.a1, vU8 f.Dst.a2, vU8 f.Dst.a3, vU8 f.Dst.a4, vU8 f.Dst.a5, vU8 f.Src.a0, vU8 f.Src.a1, vU8 f.Src.a2, vU8 f.Src.a3, vU8 f.Src.a4, vU8 f.Src.a5, vI f.Vlan, vU16 f.Type_, vf1], .agg #[vU8 g.Dst.a0, vU8 g.Dst.a1, vU8 g.Dst.a2, vU8 g.Dst.a3, vU8 g.Dst.a4, vU8 g.Dst.a5, vU8 g.Src.a0, vU8 g.Src.a1, vU8 g.Src.a2, vU8 g.Src.a3, vU8 g.Src.a4, vU8 g.Src.a5, vI g.Vlan, vU16 g.Type_, vg1], .agg #[vU8 hp2.Flags, vU16 hp2.Start, vU16 hp2.Off, vU16 hp2.Buffers], .agg #[vU8 ip3.Flags, vU16 ip3.Start, vU16 ip3.Off, vU16 ip3.Buffers]] [] [Fact.sl u8S vf1 f.Data, Fact.sl u8S vg1 g.Data]
      (fun rv own shr => rv = .bool true ∧ own = [] ∧ shr = []) := by
  unfold law23zFrameApart at h
  refine Ctr.mk (args := [.agg #[vU8 f.Dst.a0, vU8 f.Dst.a1, vU8 f.Dst.a2, vU8 f.Dst.a3, vU8 f.Dst.a4, vU8 f.Dst.a5, vU8 f.Src.a0, vU8 f.Src.a1, vU8 f.Src.a2, vU8 f.Src.a3, vU8 f.Src.a4, vU8 f.Src.a5, vI f.Vlan, vU16 f.Type_, vf1], .agg #[vU8 g.Dst.a0, vU8 g.Dst.a1, vU8 g.Dst.a2, vU8 g.Dst.a3, vU8 g.Dst.a4, vU8 g.Dst.a5, vU8 g.Src.a0, vU8 g.Src.a1, vU8 g.Src.a2, vU8 g.Src.a3, vU8 g.Src.a4, vU8 g.Src.a5, vI g.Vlan, vU16 g.Type_, vg1], .agg #[vU8 hp2.Flags, vU16 hp2.Start, vU16 hp2.Off, vU16 hp2.Buffers], .agg #[vU8 ip3.Flags, vU16 ip3.Start, vU16 ip3.Off, vU16 ip3.Buffers]]) Try.func5 rfl rfl (fun R0 w0 B => ?_)
  refine Tk_seq ?_
  refine Tk_region ?_
  refine Tops_ex rfl (OpT_box rfl rfl rfl rfl) fun b1 => ?_
  refine Tops_ex rfl (OpT_box rfl rfl rfl rfl) fun b2 => ?_
  refine Tops_ex rfl (OpT_box rfl rfl rfl rfl) fun b3 => ?_
  refine Tops_ex rfl (OpT_box rfl rfl rfl rfl) fun b4 => ?_
  refine Tops_step rfl (OpT_assign rfl rfl rfl rfl) ?_
  refine Tops_nil ?_
  refine Tk_wkS (fr' := [(4, some (.pointer (some ⟨b1, 0, none⟩))), (5, some (.pointer (some ⟨b2, 0, none⟩))), (6, some (.pointer (some ⟨b3, 0, none⟩))), (7, some (.pointer (some ⟨b4, 0, none⟩)))]) (own' := [some (cellsR b1 38 [vU8 f.Dst.a0, vU8 f.Dst.a1, vU8 f.Dst.a2, vU8 f.Dst.a3, vU8 f.Dst.a4, vU8 f.Dst.a5, vU8 f.Src.a0, vU8 f.Src.a1, vU8 f.Src.a2, vU8 f.Src.a3, vU8 f.Src.a4, vU8 f.Src.a5, vI f.Vlan, vU16 f.Type_, vf1]), some (cellsR b2 38 [vU8 g.Dst.a0, vU8 g.Dst.a1, vU8 g.Dst.a2, vU8 g.Dst.a3, vU8 g.Dst.a4, vU8 g.Dst.a5, vU8 g.Src.a0, vU8 g.Src.a1, vU8 g.Src.a2, vU8 g.Src.a3, vU8 g.Src.a4, vU8 g.Src.a5, vI g.Vlan, vU16 g.Type_, vg1]), some (cellsR b3 34 [vU8 hp2.Flags, vU16 hp2.Start, vU16 hp2.Off, vU16 hp2.Buffers]), some (cellsR b4 34 [vU8 ip3.Flags, vU16 ip3.Start, vU16 ip3.Off, vU16 ip3.Buffers])]) (shr' := [Fact.sl u8S vf1 f.Data, Fact.sl u8S vg1 g.Data]) [4, 5, 6, 7] [0, 1, 2, 3] [0, 1] rfl rfl rfl rfl ?_
  refine Tk_seq ?_
  refine Tk_seq ?_
  refine Tk_region ?_
  obtain ⟨lives1, hx1, h⟩ := ob_e h
  refine Tops_exP rfl (OpT_call (w_law23zlives hx1) [] [] rfl rfl rfl rfl rfl callee11 rfl rfl rfl rfl) ?_
  rintro _ ⟨_, _, _, ⟨rfl, rfl, rfl⟩, rfl⟩
  refine Tops_step rfl (OpT_not rfl rfl rfl rfl) ?_
  refine Tops_nil ?_
  refine Tk_wkS (fr' := [(4, some (.pointer (some ⟨b1, 0, none⟩))), (5, some (.pointer (some ⟨b2, 0, none⟩))), (6, some (.pointer (some ⟨b3, 0, none⟩))), (7, some (.pointer (some ⟨b4, 0, none⟩))), (14, some (vB (!lives1)))]) (own' := [some (cellsR b1 38 [vU8 f.Dst.a0, vU8 f.Dst.a1, vU8 f.Dst.a2, vU8 f.Dst.a3, vU8 f.Dst.a4, vU8 f.Dst.a5, vU8 f.Src.a0, vU8 f.Src.a1, vU8 f.Src.a2, vU8 f.Src.a3, vU8 f.Src.a4, vU8 f.Src.a5, vI f.Vlan, vU16 f.Type_, vf1]), some (cellsR b2 38 [vU8 g.Dst.a0, vU8 g.Dst.a1, vU8 g.Dst.a2, vU8 g.Dst.a3, vU8 g.Dst.a4, vU8 g.Dst.a5, vU8 g.Src.a0, vU8 g.Src.a1, vU8 g.Src.a2, vU8 g.Src.a3, vU8 g.Src.a4, vU8 g.Src.a5, vI g.Vlan, vU16 g.Type_, vg1]), some (cellsR b3 34 [vU8 hp2.Flags, vU16 hp2.Start, vU16 hp2.Off, vU16 hp2.Buffers]), some (cellsR b4 34 [vU8 ip3.Flags, vU16 ip3.Start, vU16 ip3.Off, vU16 ip3.Buffers])]) (shr' := [Fact.sl u8S vf1 f.Data, Fact.sl u8S vg1 g.Data]) [4, 5, 6, 7, 14] [0, 1, 2, 3] [0, 1] rfl rfl rfl rfl ?_
  obtain ⟨hg1, h⟩ := chk_e h
  replace hg1 := not_t hg1
  refine Tk_condF (congrArg (fun b => some (Value.bool b)) hg1) ?_
  refine Tk_skip ?_
  refine Tk_seq ?_
  refine Tk_seq ?_
  refine Tk_region ?_
  refine Tops_step rfl (OpT_fieldC rfl rfl rfl rfl fldF38x4) ?_
  refine Tops_step rfl (OpT_loadC rfl rfl rfl rfl tyF22 (i := 0) rfl rfl) ?_
  refine Tops_step rfl (OpT_lenS rfl rfl rfl rfl Try.underlying22 (i := 0) rfl) ?_
  refine Tops_step rfl (OpT_bin rfl rfl rfl rfl rfl (bin_gtr_i (a := len f.Data) (b := (3000 : Int)))) ?_
  refine Tops_step rfl (OpT_move rfl rfl rfl rfl) ?_
  rcases Bool.eq_false_or_eq_true (decide ((len f.Data) > (3000 : Int))) with hg2 | hg2
  · replace h := br_t hg2 h
    refine Tops_no rfl rfl (congrArg (fun b => some (Value.bool b)) hg2) rfl rfl ?_
    refine Tops_no rfl rfl (congrArg (fun b => some (Value.bool b)) hg2) rfl rfl ?_
    refine Tops_no rfl rfl (congrArg (fun b => some (Value.bool b)) hg2) rfl rfl ?_
    refine Tops_no rfl rfl (congrArg (fun b => some (Value.bool b)) hg2) rfl rfl ?_
    refine Tops_step rfl (OpT_pickT rfl rfl rfl (congrArg (fun b => some (Value.bool b)) hg2) rfl) ?_
    refine Tops_nil ?_
    refine Tk_wkS (fr' := [(4, some (.pointer (some ⟨b1, 0, none⟩))), (5, some (.pointer (some ⟨b2, 0, none⟩))), (6, some (.pointer (some ⟨b3, 0, none⟩))), (7, some (.pointer (some ⟨b4, 0, none⟩))), (24, some (vB true))]) (own' := [some (cellsR b1 38 [vU8 f.Dst.a0, vU8 f.Dst.a1, vU8 f.Dst.a2, vU8 f.Dst.a3, vU8 f.Dst.a4, vU8 f.Dst.a5, vU8 f.Src.a0, vU8 f.Src.a1, vU8 f.Src.a2, vU8 f.Src.a3, vU8 f.Src.a4, vU8 f.Src.a5, vI f.Vlan, vU16 f.Type_, vf1]), some (cellsR b2 38 [vU8 g.Dst.a0, vU8 g.Dst.a1, vU8 g.Dst.a2, vU8 g.Dst.a3, vU8 g.Dst.a4, vU8 g.Dst.a5, vU8 g.Src.a0, vU8 g.Src.a1, vU8 g.Src.a2, vU8 g.Src.a3, vU8 g.Src.a4, vU8 g.Src.a5, vI g.Vlan, vU16 g.Type_, vg1]), some (cellsR b3 34 [vU8 hp2.Flags, vU16 hp2.Start, vU16 hp2.Off, vU16 hp2.Buffers]), some (cellsR b4 34 [vU8 ip3.Flags, vU16 ip3.Start, vU16 ip3.Off, vU16 ip3.Buffers])]) (shr' := [Fact.sl u8S vf1 f.Data, Fact.sl u8S vg1 g.Data]) [4, 5, 6, 7, 24] [0, 1, 2, 3] [0, 1] rfl rfl rfl rfl ?_
    refine Tk_condT rfl ?_
    refine Tk_seq ?_
    refine Tk_region ?_
    refine Tops_step rfl (OpT_assign rfl rfl rfl rfl) ?_
    refine Tops_nil ?_
    refine Tk_wkS (fr' := [(8, some (vB true))]) (own' := []) (shr' := []) [8] [] [] rfl rfl rfl rfl ?_
    exact Tk_retV rfl rfl (resA (vs := [.bool true]) rfl ⟨rfl, trivial⟩) [] [] rfl rfl rfl ⟨rfl, rfl, rfl⟩
  · replace h := br_f hg2 h
    refine Tops_yes rfl rfl (congrArg (fun b => some (Value.bool b)) hg2) (OpT_fieldC rfl rfl rfl rfl fldF38x4) ?_
    rintro _ rfl
    refine Tops_yes rfl rfl (congrArg (fun b => some (Value.bool b)) hg2) (OpT_loadC rfl rfl rfl rfl tyF22 (i := 1) rfl rfl) ?_
    rintro _ rfl
    refine Tops_yes rfl rfl (congrArg (fun b => some (Value.bool b)) hg2) (OpT_lenS rfl rfl rfl rfl Try.underlying22 (i := 1) rfl) ?_
    rintro _ rfl
    refine Tops_yes rfl rfl (congrArg (fun b => some (Value.bool b)) hg2) (OpT_bin rfl rfl rfl rfl rfl (bin_gtr_i (a := len g.Data) (b := (3000 : Int)))) ?_
    rintro _ rfl
    refine Tops_step rfl (OpT_pickF rfl rfl rfl (congrArg (fun b => some (Value.bool b)) hg2) rfl) ?_
    refine Tops_nil ?_
    refine Tk_wkS (fr' := [(4, some (.pointer (some ⟨b1, 0, none⟩))), (5, some (.pointer (some ⟨b2, 0, none⟩))), (6, some (.pointer (some ⟨b3, 0, none⟩))), (7, some (.pointer (some ⟨b4, 0, none⟩))), (24, some (vB (decide ((len g.Data) > (3000 : Int)))))]) (own' := [some (cellsR b1 38 [vU8 f.Dst.a0, vU8 f.Dst.a1, vU8 f.Dst.a2, vU8 f.Dst.a3, vU8 f.Dst.a4, vU8 f.Dst.a5, vU8 f.Src.a0, vU8 f.Src.a1, vU8 f.Src.a2, vU8 f.Src.a3, vU8 f.Src.a4, vU8 f.Src.a5, vI f.Vlan, vU16 f.Type_, vf1]), some (cellsR b2 38 [vU8 g.Dst.a0, vU8 g.Dst.a1, vU8 g.Dst.a2, vU8 g.Dst.a3, vU8 g.Dst.a4, vU8 g.Dst.a5, vU8 g.Src.a0, vU8 g.Src.a1, vU8 g.Src.a2, vU8 g.Src.a3, vU8 g.Src.a4, vU8 g.Src.a5, vI g.Vlan, vU16 g.Type_, vg1]), some (cellsR b3 34 [vU8 hp2.Flags, vU16 hp2.Start, vU16 hp2.Off, vU16 hp2.Buffers]), some (cellsR b4 34 [vU8 ip3.Flags, vU16 ip3.Start, vU16 ip3.Off, vU16 ip3.Buffers])]) (shr' := [Fact.sl u8S vf1 f.Data, Fact.sl u8S vg1 g.Data]) [4, 5, 6, 7, 24] [0, 1, 2, 3] [0, 1] rfl rfl rfl rfl ?_
    rcases Bool.eq_false_or_eq_true (decide ((len g.Data) > (3000 : Int))) with hg3 | hg3
    · replace h := br_t hg3 h
      refine Tk_condT (congrArg (fun b => some (Value.bool b)) hg3) ?_
      refine Tk_seq ?_
      refine Tk_region ?_
      refine Tops_step rfl (OpT_assign rfl rfl rfl rfl) ?_
      refine Tops_nil ?_
      refine Tk_wkS (fr' := [(8, some (vB true))]) (own' := []) (shr' := []) [8] [] [] rfl rfl rfl rfl ?_
      exact Tk_retV rfl rfl (resA (vs := [.bool true]) rfl ⟨rfl, trivial⟩) [] [] rfl rfl rfl ⟨rfl, rfl, rfl⟩
    · replace h := br_f hg3 h
      refine Tk_condF (congrArg (fun b => some (Value.bool b)) hg3) ?_
      refine Tk_skip ?_
      refine Tk_seq ?_
      refine Tk_region ?_
      refine Tops_step rfl (OpT_loadCA (vs := [vU8 f.Dst.a0, vU8 f.Dst.a1, vU8 f.Dst.a2, vU8 f.Dst.a3, vU8 f.Dst.a4, vU8 f.Dst.a5, vU8 f.Src.a0, vU8 f.Src.a1, vU8 f.Src.a2, vU8 f.Src.a3, vU8 f.Src.a4, vU8 f.Src.a5, vI f.Vlan, vU16 f.Type_, vf1]) rfl rfl rfl rfl tyF38 (i := 0) rfl rfl rfl) ?_
      obtain ⟨bytes1, hx2, h⟩ := ob_e h
      refine Tops_exP rfl (OpT_call (w_frame_Bytes hx2) [] [0] rfl rfl rfl rfl rfl callee16 rfl rfl rfl rfl) ?_
      rintro _ ⟨_, _, _, ⟨v1, rfl, rfl, rfl⟩, rfl⟩
      refine Tops_step rfl (OpT_move rfl rfl rfl rfl) ?_
      refine Tops_step rfl (OpT_extract rfl rfl rfl rfl rfl) ?_
      refine Tops_step rfl (OpT_extract rfl rfl rfl rfl rfl) ?_
      refine Tops_step rfl (OpT_assign rfl rfl rfl rfl) ?_
      refine Tops_step rfl (OpT_assign rfl rfl rfl rfl) ?_
      refine Tops_nil ?_
      refine Tk_wkS (fr' := [(4, some (.pointer (some ⟨b1, 0, none⟩))), (5, some (.pointer (some ⟨b2, 0, none⟩))), (6, some (.pointer (some ⟨b3, 0, none⟩))), (7, some (.pointer (some ⟨b4, 0, none⟩))), (9, some (v1)), (10, some (vI bytes1.2))]) (own' := [some (cellsR b1 38 [vU8 f.Dst.a0, vU8 f.Dst.a1, vU8 f.Dst.a2, vU8 f.Dst.a3, vU8 f.Dst.a4, vU8 f.Dst.a5, vU8 f.Src.a0, vU8 f.Src.a1, vU8 f.Src.a2, vU8 f.Src.a3, vU8 f.Src.a4, vU8 f.Src.a5, vI f.Vlan, vU16 f.Type_, vf1]), some (cellsR b2 38 [vU8 g.Dst.a0, vU8 g.Dst.a1, vU8 g.Dst.a2, vU8 g.Dst.a3, vU8 g.Dst.a4, vU8 g.Dst.a5, vU8 g.Src.a0, vU8 g.Src.a1, vU8 g.Src.a2, vU8 g.Src.a3, vU8 g.Src.a4, vU8 g.Src.a5, vI g.Vlan, vU16 g.Type_, vg1]), some (cellsR b3 34 [vU8 hp2.Flags, vU16 hp2.Start, vU16 hp2.Off, vU16 hp2.Buffers]), some (cellsR b4 34 [vU8 ip3.Flags, vU16 ip3.Start, vU16 ip3.Off, vU16 ip3.Buffers]), some (rowS u8S v1 bytes1.1)]) (shr' := [Fact.sl u8S vf1 f.Data, Fact.sl u8S vg1 g.Data]) [4, 5, 6, 7, 9, 10] [0, 1, 2, 3, 4] [0, 1] rfl rfl rfl rfl ?_
      refine Tk_seq ?_
      refine Tk_region ?_
      refine Tops_step rfl (OpT_loadCA (vs := [vU8 g.Dst.a0, vU8 g.Dst.a1, vU8 g.Dst.a2, vU8 g.Dst.a3, vU8 g.Dst.a4, vU8 g.Dst.a5, vU8 g.Src.a0, vU8 g.Src.a1, vU8 g.Src.a2, vU8 g.Src.a3, vU8 g.Src.a4, vU8 g.Src.a5, vI g.Vlan, vU16 g.Type_, vg1]) rfl rfl rfl rfl tyF38 (i := 1) rfl rfl rfl) ?_
      obtain ⟨bytes2, hx3, h⟩ := ob_e h
      refine Tops_exP rfl (OpT_call (w_frame_Bytes hx3) [] [1] rfl rfl rfl rfl rfl callee16 rfl rfl rfl rfl) ?_
      rintro _ ⟨_, _, _, ⟨v2, rfl, rfl, rfl⟩, rfl⟩
      refine Tops_step rfl (OpT_move rfl rfl rfl rfl) ?_
      refine Tops_step rfl (OpT_extract rfl rfl rfl rfl rfl) ?_
      refine Tops_step rfl (OpT_extract rfl rfl rfl rfl rfl) ?_
      refine Tops_step rfl (OpT_assign rfl rfl rfl rfl) ?_
      refine Tops_step rfl (OpT_assign rfl rfl rfl rfl) ?_
      refine Tops_nil ?_
      refine Tk_wkS (fr' := [(4, some (.pointer (some ⟨b1, 0, none⟩))), (5, some (.pointer (some ⟨b2, 0, none⟩))), (6, some (.pointer (some ⟨b3, 0, none⟩))), (7, some (.pointer (some ⟨b4, 0, none⟩))), (9, some (v1)), (10, some (vI bytes1.2)), (11, some (v2)), (12, some (vI bytes2.2))]) (own' := [some (cellsR b1 38 [vU8 f.Dst.a0, vU8 f.Dst.a1, vU8 f.Dst.a2, vU8 f.Dst.a3, vU8 f.Dst.a4, vU8 f.Dst.a5, vU8 f.Src.a0, vU8 f.Src.a1, vU8 f.Src.a2, vU8 f.Src.a3, vU8 f.Src.a4, vU8 f.Src.a5, vI f.Vlan, vU16 f.Type_, vf1]), some (cellsR b2 38 [vU8 g.Dst.a0, vU8 g.Dst.a1, vU8 g.Dst.a2, vU8 g.Dst.a3, vU8 g.Dst.a4, vU8 g.Dst.a5, vU8 g.Src.a0, vU8 g.Src.a1, vU8 g.Src.a2, vU8 g.Src.a3, vU8 g.Src.a4, vU8 g.Src.a5, vI g.Vlan, vU16 g.Type_, vg1]), some (cellsR b3 34 [vU8 hp2.Flags, vU16 hp2.Start, vU16 hp2.Off, vU16 hp2.Buffers]), some (cellsR b4 34 [vU8 ip3.Flags, vU16 ip3.Start, vU16 ip3.Off, vU16 ip3.Buffers]), some (rowS u8S v1 bytes1.1), some (rowS u8S v2 bytes2.1)]) (shr' := [Fact.sl u8S vf1 f.Data, Fact.sl u8S vg1 g.Data]) [4, 5, 6, 7, 9, 10, 11, 12] [0, 1, 2, 3, 4, 5] [0, 1] rfl rfl rfl rfl ?_
      refine Tk_seq ?_
      refine Tk_seq ?_
      refine Tk_drawT (by kernel_rfl) ?_
      refine TA_tb [0, 1, 3, 0, 11, 27, 63, 0, 0, 384, 1023, 2047, 4095, 8191, 16383, 32767, 65535, 131071, 262143, 524287, 1048575, 2097151] (by kernel_rfl) fun htb => ?_
      obtain ⟨hdrof1, hx4, h⟩ := ob_e h
      obtain ⟨hdrof2, hx5, h⟩ := ob_e h
      refine TA_seg (lo := 0) (hi := 10) htb rfl rfl (by kernel_rfl) (fun c L a w => ∃ (v3 : Value), ∃ (v4 : Value), Sat c ⟨[(4, some (.pointer (some ⟨b1, 0, none⟩))), (5, some (.pointer (some ⟨b2, 0, none⟩))), (6, some (.pointer (some ⟨b3, 0, none⟩))), (7, some (.pointer (some ⟨b4, 0, none⟩))), (9, some (v1)), (10, some (vI bytes1.2)), (11, some (v2)), (12, some (vI bytes2.2)), (35, bif L 0 then some (.agg #[vU8 hp2.Flags, vU16 hp2.Start, vU16 hp2.Off, vU16 hp2.Buffers]) else none), (36, bif L 1 then some (v3) else none), (37, bif L 2 then some (vS hdrof1) else none), (38, bif L 3 then some (.agg #[vU8 ip3.Flags, vU16 ip3.Start, vU16 ip3.Off, vU16 ip3.Buffers]) else none), (39, bif L 4 then some (v4) else none), (40, bif L 5 then some (vS hdrof2) else none), (41, bif L 6 then some (vB (hdrof1 == hdrof2)) else none), (42, bif L 7 then some (.agg #[vU8 hp2.Flags, vU16 hp2.Start, vU16 hp2.Off, vU16 hp2.Buffers]) else none), (43, bif L 8 then some (.agg #[vU8 ip3.Flags, vU16 ip3.Start, vU16 ip3.Off, vU16 ip3.Buffers]) else none), (44, bif L 9 then some (vB (hp2 == ip3)) else none)], [(some (cellsR b1 38 [vU8 f.Dst.a0, vU8 f.Dst.a1, vU8 f.Dst.a2, vU8 f.Dst.a3, vU8 f.Dst.a4, vU8 f.Dst.a5, vU8 f.Src.a0, vU8 f.Src.a1, vU8 f.Src.a2, vU8 f.Src.a3, vU8 f.Src.a4, vU8 f.Src.a5, vI f.Vlan, vU16 f.Type_, vf1]) : Option Res), (some (cellsR b2 38 [vU8 g.Dst.a0, vU8 g.Dst.a1, vU8 g.Dst.a2, vU8 g.Dst.a3, vU8 g.Dst.a4, vU8 g.Dst.a5, vU8 g.Src.a0, vU8 g.Src.a1, vU8 g.Src.a2, vU8 g.Src.a3, vU8 g.Src.a4, vU8 g.Src.a5, vI g.Vlan, vU16 g.Type_, vg1]) : Option Res), (some (cellsR b3 34 [vU8 hp2.Flags, vU16 hp2.Start, vU16 hp2.Off, vU16 hp2.Buffers]) : Option Res), (some (cellsR b4 34 [vU8 ip3.Flags, vU16 ip3.Start, vU16 ip3.Off, vU16 ip3.Buffers]) : Option Res), (some (rowS u8S v1 bytes1.1) : Option Res), (some (rowS u8S v2 bytes2.1) : Option Res)], [Fact.sl u8S vf1 f.Data, Fact.sl u8S vg1 g.Data, (bif L 1 then Fact.sl u8S v3 hdrof1 else Fact.tt), (bif L 4 then Fact.sl u8S v4 hdrof2 else Fact.tt)]⟩ a w) [([], [1, 2, 4, 5, 6]), ([0], [2, 4, 5, 6]), ([0, 1], [6]), ([], [4, 5, 6]), ([0, 1, 3], [5, 6]), ([0, 1, 3, 4], [6]), ([0, 1, 2, 3, 4, 5], []), ([], [9]), ([], [9]), ([7, 8], [])] rfl (by kernel_rfl) ?_ (steps_cons ?_ (steps_cons ?_ (steps_cons ?_ (steps_cons ?_ (steps_cons ?_ (steps_cons ?_ (steps_cons ?_ (steps_cons ?_ (steps_cons ?_ (steps_cons ?_ (steps_nil))))))))))) ?_
      · intro a w hs
        exact ⟨undef, undef, hs.startF [35, 36, 37, 38, 39, 40, 41, 42, 43, 44] [0, 1, 2, 3, 4, 5] [0, 1, 2, 3] rfl rfl rfl rfl⟩
      · intro L a w hv K Q hK
        obtain ⟨v3, v4, hs⟩ := hv
        refine wpOp_go rfl rfl hs (OpT_loadCA (vs := [vU8 hp2.Flags, vU16 hp2.Start, vU16 hp2.Off, vU16 hp2.Buffers]) rfl rfl rfl rfl tyF34 (i := 2) rfl rfl rfl) ?_
        rintro _ rfl a' w' hs'
        exact hK a' w' ⟨v3, v4, hs'.putF (i := 8) rfl [0, 1, 2, 3, 4, 5] [0, 1, 2, 3] rfl rfl rfl rfl⟩
      · intro L a w hv K Q hK
        obtain ⟨v3, v4, hs⟩ := hv
        refine wpOp_go rfl rfl hs (OpT_call (ws_frame_HdrOf hx4) [] [] rfl rfl rfl rfl rfl callee17 rfl rfl rfl rfl) ?_
        rintro _ ⟨v3', _, _, ⟨_, rfl, rfl, rfl⟩, rfl⟩ a' w' hs'
        exact hK a' w' ⟨v3', v4, hs'.putF (i := 9) rfl [0, 1, 2, 3, 4, 5] [0, 1, 4, 3] rfl rfl rfl rfl⟩
      · intro L a w hv K Q hK
        obtain ⟨v3, v4, hs⟩ := hv
        refine wpOp_go rfl rfl hs (OpT_strS rfl rfl rfl rfl Try.underlying22 Try.underlying5 Try.underlying9 (i := 2) rfl) ?_
        rintro _ rfl a' w' hs'
        exact hK a' w' ⟨v3, v4, hs'.putF (i := 10) rfl [0, 1, 2, 3, 4, 5] [0, 1, 2, 3] rfl rfl rfl rfl⟩
      · intro L a w hv K Q hK
        obtain ⟨v3, v4, hs⟩ := hv
        refine wpOp_go rfl rfl hs (OpT_loadCA (vs := [vU8 ip3.Flags, vU16 ip3.Start, vU16 ip3.Off, vU16 ip3.Buffers]) rfl rfl rfl rfl tyF34 (i := 3) rfl rfl rfl) ?_
        rintro _ rfl a' w' hs'
        exact hK a' w' ⟨v3, v4, hs'.putF (i := 11) rfl [0, 1, 2, 3, 4, 5] [0, 1, 2, 3] rfl rfl rfl rfl⟩
      · intro L a w hv K Q hK
        obtain ⟨v3, v4, hs⟩ := hv
        refine wpOp_go rfl rfl hs (OpT_call (ws_frame_HdrOf hx5) [] [] rfl rfl rfl rfl rfl callee17 rfl rfl rfl rfl) ?_
        rintro _ ⟨v4', _, _, ⟨_, rfl, rfl, rfl⟩, rfl⟩ a' w' hs'
        exact hK a' w' ⟨v3, v4', hs'.putF (i := 12) rfl [0, 1, 2, 3, 4, 5] [0, 1, 2, 4] rfl rfl rfl rfl⟩
      · intro L a w hv K Q hK
        obtain ⟨v3, v4, hs⟩ := hv
        refine wpOp_go rfl rfl hs (OpT_strS rfl rfl rfl rfl Try.underlying22 Try.underlying5 Try.underlying9 (i := 3) rfl) ?_
        rintro _ rfl a' w' hs'
        exact hK a' w' ⟨v3, v4, hs'.putF (i := 13) rfl [0, 1, 2, 3, 4, 5] [0, 1, 2, 3] rfl rfl rfl rfl⟩
      · intro L a w hv K Q hK
        obtain ⟨v3, v4, hs⟩ := hv
        refine wpOp_go rfl rfl hs (OpT_bin rfl rfl rfl rfl rfl (bin_eql_s (a := hdrof1) (b := hdrof2))) ?_
        rintro _ rfl a' w' hs'
        exact hK a' w' ⟨v3, v4, hs'.putF (i := 14) rfl [0, 1, 2, 3, 4, 5] [0, 1, 2, 3] rfl rfl rfl rfl⟩
      · intro L a w hv K Q hK
        obtain ⟨v3, v4, hs⟩ := hv
        refine wpOp_go rfl rfl hs (OpT_loadCA (vs := [vU8 hp2.Flags, vU16 hp2.Start, vU16 hp2.Off, vU16 hp2.Buffers]) rfl rfl rfl rfl tyF34 (i := 2) rfl rfl rfl) ?_
        rintro _ rfl a' w' hs'
        exact hK a' w' ⟨v3, v4, hs'.putF (i := 15) rfl [0, 1, 2, 3, 4, 5] [0, 1, 2, 3] rfl rfl rfl rfl⟩
      · intro L a w hv K Q hK
        obtain ⟨v3, v4, hs⟩ := hv
        refine wpOp_go rfl rfl hs (OpT_loadCA (vs := [vU8 ip3.Flags, vU16 ip3.Start, vU16 ip3.Off, vU16 ip3.Buffers]) rfl rfl rfl rfl tyF34 (i := 3) rfl rfl rfl) ?_
        rintro _ rfl a' w' hs'
        exact hK a' w' ⟨v3, v4, hs'.putF (i := 16) rfl [0, 1, 2, 3, 4, 5] [0, 1, 2, 3] rfl rfl rfl rfl⟩
      · intro L a w hv K Q hK
        obtain ⟨v3, v4, hs⟩ := hv
        refine wpOp_go rfl rfl hs (OpT_bin rfl rfl rfl rfl rfl (eqT34_eql hp2 ip3)) ?_
        rintro _ rfl a' w' hs'
        exact hK a' w' ⟨v3, v4, hs'.putF (i := 17) rfl [0, 1, 2, 3, 4, 5] [0, 1, 2, 3] rfl rfl rfl rfl⟩
      · intro L a w hL hv
        rw [allTrue hL] at hv
        obtain ⟨v3, v4, hs⟩ := hv
        refine (show TA _ _ _ 10 ⟨[(4, some (.pointer (some ⟨b1, 0, none⟩))), (5, some (.pointer (some ⟨b2, 0, none⟩))), (9, some (v1)), (10, some (vI bytes1.2)), (11, some (v2)), (12, some (vI bytes2.2)), (41, some (vB (hdrof1 == hdrof2))), (44, some (vB (hp2 == ip3)))], [some (cellsR b1 38 [vU8 f.Dst.a0, vU8 f.Dst.a1, vU8 f.Dst.a2, vU8 f.Dst.a3, vU8 f.Dst.a4, vU8 f.Dst.a5, vU8 f.Src.a0, vU8 f.Src.a1, vU8 f.Src.a2, vU8 f.Src.a3, vU8 f.Src.a4, vU8 f.Src.a5, vI f.Vlan, vU16 f.Type_, vf1]), some (cellsR b2 38 [vU8 g.Dst.a0, vU8 g.Dst.a1, vU8 g.Dst.a2, vU8 g.Dst.a3, vU8 g.Dst.a4, vU8 g.Dst.a5, vU8 g.Src.a0, vU8 g.Src.a1, vU8 g.Src.a2, vU8 g.Src.a3, vU8 g.Src.a4, vU8 g.Src.a5, vI g.Vlan, vU16 g.Type_, vg1]), some (rowS u8S v1 bytes1.1), some (rowS u8S v2 bytes2.1)], [Fact.sl u8S vf1 f.Data, Fact.sl u8S vg1 g.Data]⟩ from ?_) a w (hs.wkS [4, 5, 9, 10, 11, 12, 41, 44] [0, 1, 4, 5] [0, 1] rfl rfl rfl rfl)
        clear hs hL
        refine TA_step htb (by kernel_rfl) rfl rfl (OpT_bin rfl rfl rfl rfl rfl (bin_neq_b (a := hdrof1 == hdrof2) (b := hp2 == ip3) Try.underlying4)) ?_
        refine TA_step htb (by kernel_rfl) rfl rfl (OpT_move rfl rfl rfl rfl) ?_
        obtain ⟨hg4, h⟩ := chk_e h
        replace hg4 := not_t hg4
        refine TA_yes htb (by kernel_rfl) rfl rfl rfl (congrArg (fun b => some (Value.bool b)) hg4) (OpT_fieldC rfl rfl rfl rfl fldF38x0) ?_
        rintro _ rfl
        refine TA_yes htb (by kernel_rfl) rfl rfl rfl (congrArg (fun b => some (Value.bool b)) hg4) (OpT_loadCA (vs := [vU8 f.Dst.a0, vU8 f.Dst.a1, vU8 f.Dst.a2, vU8 f.Dst.a3, vU8 f.Dst.a4, vU8 f.Dst.a5]) rfl rfl rfl rfl tyF36 (i := 0) rfl rfl rfl) ?_
        rintro _ rfl
        obtain ⟨all1, hx6, h⟩ := ob_e h
        refine TA_yes htb (by kernel_rfl) rfl rfl rfl (congrArg (fun b => some (Value.bool b)) hg4) (OpT_call (w_frame_All hx6) [] [] rfl rfl rfl rfl rfl callee18 rfl rfl rfl rfl) ?_
        rintro _ ⟨_, _, _, ⟨rfl, rfl, rfl⟩, rfl⟩
        refine TA_yes htb (by kernel_rfl) rfl rfl rfl (congrArg (fun b => some (Value.bool b)) hg4) (OpT_move rfl rfl rfl rfl) ?_
        rintro _ rfl
        rcases Bool.eq_false_or_eq_true (all1) with hg5 | hg5
        · replace h := br_t hg5 h
          refine TA_yes htb (by kernel_rfl) rfl rfl rfl (congrArg (fun b => some (Value.bool b)) hg5) (OpT_fieldC rfl rfl rfl rfl fldF38x0) ?_
          rintro _ rfl
          refine TA_yes htb (by kernel_rfl) rfl rfl rfl (congrArg (fun b => some (Value.bool b)) hg5) (OpT_loadCA (vs := [vU8 f.Dst.a0, vU8 f.Dst.a1, vU8 f.Dst.a2, vU8 f.Dst.a3, vU8 f.Dst.a4, vU8 f.Dst.a5]) rfl rfl rfl rfl tyF36 (i := 0) rfl rfl rfl) ?_
          rintro _ rfl
          obtain ⟨group1, hx7, h⟩ := ob_e h
          refine TA_yes htb (by kernel_rfl) rfl rfl rfl (congrArg (fun b => some (Value.bool b)) hg5) (OpT_call (w_frame_Group hx7) [] [] rfl rfl rfl rfl rfl callee19 rfl rfl rfl rfl) ?_
          rintro _ ⟨_, _, _, ⟨rfl, rfl, rfl⟩, rfl⟩
          refine TA_wkS (fr' := [(4, some (.pointer (some ⟨b1, 0, none⟩))), (5, some (.pointer (some ⟨b2, 0, none⟩))), (9, some (v1)), (10, some (vI bytes1.2)), (11, some (v2)), (12, some (vI bytes2.2)), (46, some (vB ((hdrof1 == hdrof2) != (hp2 == ip3)))), (50, some (vB all1)), (53, some (vB group1))]) (own' := [some (cellsR b1 38 [vU8 f.Dst.a0, vU8 f.Dst.a1, vU8 f.Dst.a2, vU8 f.Dst.a3, vU8 f.Dst.a4, vU8 f.Dst.a5, vU8 f.Src.a0, vU8 f.Src.a1, vU8 f.Src.a2, vU8 f.Src.a3, vU8 f.Src.a4, vU8 f.Src.a5, vI f.Vlan, vU16 f.Type_, vf1]), some (cellsR b2 38 [vU8 g.Dst.a0, vU8 g.Dst.a1, vU8 g.Dst.a2, vU8 g.Dst.a3, vU8 g.Dst.a4, vU8 g.Dst.a5, vU8 g.Src.a0, vU8 g.Src.a1, vU8 g.Src.a2, vU8 g.Src.a3, vU8 g.Src.a4, vU8 g.Src.a5, vI g.Vlan, vU16 g.Type_, vg1]), some (rowS u8S v1 bytes1.1), some (rowS u8S v2 bytes2.1)]) (shr' := [Fact.sl u8S vf1 f.Data, Fact.sl u8S vg1 g.Data]) [4, 5, 9, 10, 11, 12, 46, 50, 53] [0, 1, 2, 3] [0, 1] rfl rfl rfl rfl ?_
          refine TA_yes htb (by kernel_rfl) rfl rfl rfl (congrArg (fun b => some (Value.bool b)) hg5) (OpT_not rfl rfl rfl rfl) ?_
          rintro _ rfl
          refine TA_yes htb (by kernel_rfl) rfl rfl rfl (congrArg (fun b => some (Value.bool b)) hg4) (OpT_pickT rfl rfl rfl (congrArg (fun b => some (Value.bool b)) hg5) rfl) ?_
          rintro _ rfl
          refine TA_step htb (by kernel_rfl) rfl rfl (OpT_pickF rfl rfl rfl (congrArg (fun b => some (Value.bool b)) hg4) rfl) ?_
          refine TA_end rfl ?_
          refine Tk_wkS (fr' := [(4, some (.pointer (some ⟨b1, 0, none⟩))), (5, some (.pointer (some ⟨b2, 0, none⟩))), (9, some (v1)), (10, some (vI bytes1.2)), (11, some (v2)), (12, some (vI bytes2.2)), (56, some (vB (!group1)))]) (own' := [some (cellsR b1 38 [vU8 f.Dst.a0, vU8 f.Dst.a1, vU8 f.Dst.a2, vU8 f.Dst.a3, vU8 f.Dst.a4, vU8 f.Dst.a5, vU8 f.Src.a0, vU8 f.Src.a1, vU8 f.Src.a2, vU8 f.Src.a3, vU8 f.Src.a4, vU8 f.Src.a5, vI f.Vlan, vU16 f.Type_, vf1]), some (cellsR b2 38 [vU8 g.Dst.a0, vU8 g.Dst.a1, vU8 g.Dst.a2, vU8 g.Dst.a3, vU8 g.Dst.a4, vU8 g.Dst.a5, vU8 g.Src.a0, vU8 g.Src.a1, vU8 g.Src.a2, vU8 g.Src.a3, vU8 g.Src.a4, vU8 g.Src.a5, vI g.Vlan, vU16 g.Type_, vg1]), some (rowS u8S v1 bytes1.1), some (rowS u8S v2 bytes2.1)]) (shr' := [Fact.sl u8S vf1 f.Data, Fact.sl u8S vg1 g.Data]) [4, 5, 9, 10, 11, 12, 56] [0, 1, 2, 3] [0, 1] rfl rfl rfl rfl ?_
          obtain ⟨hg6, h⟩ := chk_e h
          replace hg6 := not_t hg6
          refine Tk_condF (congrArg (fun b => some (Value.bool b)) hg6) ?_
          refine Tk_skip ?_
          refine Tk_seq ?_
          refine Tk_seq ?_
          refine Tk_region ?_
          refine Tops_step rfl (OpT_move rfl rfl rfl rfl) ?_
          refine Tops_step rfl (OpT_bin rfl rfl rfl rfl rfl (bin_neq_i (a := bytes1.2) (b := (0 : Int)))) ?_
          refine Tops_step rfl (OpT_move rfl rfl rfl rfl) ?_
          rcases Bool.eq_false_or_eq_true (bytes1.2 != (0 : Int)) with hg7 | hg7
          · replace h := br_t hg7 h
            refine Tops_no rfl rfl (congrArg (fun b => some (Value.bool b)) hg7) rfl rfl ?_
            refine Tops_no rfl rfl (congrArg (fun b => some (Value.bool b)) hg7) rfl rfl ?_
            refine Tops_step rfl (OpT_pickT rfl rfl rfl (congrArg (fun b => some (Value.bool b)) hg7) rfl) ?_
            refine Tops_nil ?_
            refine Tk_wkS (fr' := [(4, some (.pointer (some ⟨b1, 0, none⟩))), (5, some (.pointer (some ⟨b2, 0, none⟩))), (9, some (v1)), (10, some (vI bytes1.2)), (11, some (v2)), (12, some (vI bytes2.2)), (62, some (vB true))]) (own' := [some (cellsR b1 38 [vU8 f.Dst.a0, vU8 f.Dst.a1, vU8 f.Dst.a2, vU8 f.Dst.a3, vU8 f.Dst.a4, vU8 f.Dst.a5, vU8 f.Src.a0, vU8 f.Src.a1, vU8 f.Src.a2, vU8 f.Src.a3, vU8 f.Src.a4, vU8 f.Src.a5, vI f.Vlan, vU16 f.Type_, vf1]), some (cellsR b2 38 [vU8 g.Dst.a0, vU8 g.Dst.a1, vU8 g.Dst.a2, vU8 g.Dst.a3, vU8 g.Dst.a4, vU8 g.Dst.a5, vU8 g.Src.a0, vU8 g.Src.a1, vU8 g.Src.a2, vU8 g.Src.a3, vU8 g.Src.a4, vU8 g.Src.a5, vI g.Vlan, vU16 g.Type_, vg1]), some (rowS u8S v1 bytes1.1), some (rowS u8S v2 bytes2.1)]) (shr' := [Fact.sl u8S vf1 f.Data, Fact.sl u8S vg1 g.Data]) [4, 5, 9, 10, 11, 12, 62] [0, 1, 2, 3] [0, 1] rfl rfl rfl rfl ?_
            refine Tk_condT rfl ?_
            refine Tk_seq ?_
            refine Tk_region ?_
            refine Tops_step rfl (OpT_move rfl rfl rfl rfl) ?_
            refine Tops_step rfl (OpT_loadCA (vs := [vU8 f.Dst.a0, vU8 f.Dst.a1, vU8 f.Dst.a2, vU8 f.Dst.a3, vU8 f.Dst.a4, vU8 f.Dst.a5, vU8 f.Src.a0, vU8 f.Src.a1, vU8 f.Src.a2, vU8 f.Src.a3, vU8 f.Src.a4, vU8 f.Src.a5, vI f.Vlan, vU16 f.Type_, vf1]) rfl rfl rfl rfl tyF38 (i := 0) rfl rfl rfl) ?_
            obtain ⟨check1, hx8, h⟩ := ob_e h
            refine Tops_exP rfl (OpT_call (w_frame_Check hx8) [] [0] rfl rfl rfl rfl rfl callee20 rfl rfl rfl rfl) ?_
            rintro _ ⟨_, _, _, ⟨rfl, rfl, rfl⟩, rfl⟩
            refine Tops_step rfl (OpT_bin rfl rfl rfl rfl rfl (bin_eql_i (a := bytes1.2) (b := check1))) ?_
            refine Tops_step rfl (OpT_move rfl rfl rfl rfl) ?_
            obtain ⟨hg8, h⟩ := chk_e h
            refine Tops_yes rfl rfl (congrArg (fun b => some (Value.bool b)) hg8) (OpT_move rfl rfl rfl rfl) ?_
            rintro _ rfl
            refine Tops_yes rfl rfl (congrArg (fun b => some (Value.bool b)) hg8) (OpT_loadCA (vs := [vU8 g.Dst.a0, vU8 g.Dst.a1, vU8 g.Dst.a2, vU8 g.Dst.a3, vU8 g.Dst.a4, vU8 g.Dst.a5, vU8 g.Src.a0, vU8 g.Src.a1, vU8 g.Src.a2, vU8 g.Src.a3, vU8 g.Src.a4, vU8 g.Src.a5, vI g.Vlan, vU16 g.Type_, vg1]) rfl rfl rfl rfl tyF38 (i := 1) rfl rfl rfl) ?_
            rintro _ rfl
            obtain ⟨check2, hx9, h⟩ := ob_e h
            refine Tops_yes rfl rfl (congrArg (fun b => some (Value.bool b)) hg8) (OpT_call (w_frame_Check hx9) [] [1] rfl rfl rfl rfl rfl callee20 rfl rfl rfl rfl) ?_
            rintro _ ⟨_, _, _, ⟨rfl, rfl, rfl⟩, rfl⟩
            refine Tops_yes rfl rfl (congrArg (fun b => some (Value.bool b)) hg8) (OpT_bin rfl rfl rfl rfl rfl (bin_eql_i (a := bytes2.2) (b := check2))) ?_
            rintro _ rfl
            refine Tops_step rfl (OpT_pickT rfl rfl rfl (congrArg (fun b => some (Value.bool b)) hg8) rfl) ?_
            refine Tops_step rfl (OpT_assign rfl rfl rfl rfl) ?_
            refine Tops_nil ?_
            refine Tk_wkS (fr' := [(8, some (vB (bytes2.2 == check2)))]) (own' := []) (shr' := []) [8] [] [] rfl rfl rfl rfl ?_
            obtain ⟨hg9, h⟩ := chk_e h
            exact Tk_retV rfl rfl (resA (vs := [.bool true]) rfl ⟨(congrArg (fun b => some (Value.bool b)) hg9), trivial⟩) [] [] rfl rfl rfl ⟨rfl, rfl, rfl⟩
          · replace h := br_f hg7 h
            refine Tops_yes rfl rfl (congrArg (fun b => some (Value.bool b)) hg7) (OpT_move rfl rfl rfl rfl) ?_
            rintro _ rfl
            refine Tops_yes rfl rfl (congrArg (fun b => some (Value.bool b)) hg7) (OpT_bin rfl rfl rfl rfl rfl (bin_neq_i (a := bytes2.2) (b := (0 : Int)))) ?_
            rintro _ rfl
            refine Tops_step rfl (OpT_pickF rfl rfl rfl (congrArg (fun b => some (Value.bool b)) hg7) rfl) ?_
            refine Tops_nil ?_
            refine Tk_wkS (fr' := [(4, some (.pointer (some ⟨b1, 0, none⟩))), (5, some (.pointer (some ⟨b2, 0, none⟩))), (9, some (v1)), (10, some (vI bytes1.2)), (11, some (v2)), (12, some (vI bytes2.2)), (62, some (vB (bytes2.2 != (0 : Int))))]) (own' := [some (cellsR b1 38 [vU8 f.Dst.a0, vU8 f.Dst.a1, vU8 f.Dst.a2, vU8 f.Dst.a3, vU8 f.Dst.a4, vU8 f.Dst.a5, vU8 f.Src.a0, vU8 f.Src.a1, vU8 f.Src.a2, vU8 f.Src.a3, vU8 f.Src.a4, vU8 f.Src.a5, vI f.Vlan, vU16 f.Type_, vf1]), some (cellsR b2 38 [vU8 g.Dst.a0, vU8 g.Dst.a1, vU8 g.Dst.a2, vU8 g.Dst.a3, vU8 g.Dst.a4, vU8 g.Dst.a5, vU8 g.Src.a0, vU8 g.Src.a1, vU8 g.Src.a2, vU8 g.Src.a3, vU8 g.Src.a4, vU8 g.Src.a5, vI g.Vlan, vU16 g.Type_, vg1]), some (rowS u8S v1 bytes1.1), some (rowS u8S v2 bytes2.1)]) (shr' := [Fact.sl u8S vf1 f.Data, Fact.sl u8S vg1 g.Data]) [4, 5, 9, 10, 11, 12, 62] [0, 1, 2, 3] [0, 1] rfl rfl rfl rfl ?_
            rcases Bool.eq_false_or_eq_true (bytes2.2 != (0 : Int)) with hg10 | hg10
            · replace h := br_t hg10 h
              refine Tk_condT (congrArg (fun b => some (Value.bool b)) hg10) ?_
              refine Tk_seq ?_
              refine Tk_region ?_
              refine Tops_step rfl (OpT_move rfl rfl rfl rfl) ?_
              refine Tops_step rfl (OpT_loadCA (vs := [vU8 f.Dst.a0, vU8 f.Dst.a1, vU8 f.Dst.a2, vU8 f.Dst.a3, vU8 f.Dst.a4, vU8 f.Dst.a5, vU8 f.Src.a0, vU8 f.Src.a1, vU8 f.Src.a2, vU8 f.Src.a3, vU8 f.Src.a4, vU8 f.Src.a5, vI f.Vlan, vU16 f.Type_, vf1]) rfl rfl rfl rfl tyF38 (i := 0) rfl rfl rfl) ?_
              obtain ⟨check3, hx10, h⟩ := ob_e h
              refine Tops_exP rfl (OpT_call (w_frame_Check hx10) [] [0] rfl rfl rfl rfl rfl callee20 rfl rfl rfl rfl) ?_
              rintro _ ⟨_, _, _, ⟨rfl, rfl, rfl⟩, rfl⟩
              refine Tops_step rfl (OpT_bin rfl rfl rfl rfl rfl (bin_eql_i (a := bytes1.2) (b := check3))) ?_
              refine Tops_step rfl (OpT_move rfl rfl rfl rfl) ?_
              obtain ⟨hg11, h⟩ := chk_e h
              refine Tops_yes rfl rfl (congrArg (fun b => some (Value.bool b)) hg11) (OpT_move rfl rfl rfl rfl) ?_
              rintro _ rfl
              refine Tops_yes rfl rfl (congrArg (fun b => some (Value.bool b)) hg11) (OpT_loadCA (vs := [vU8 g.Dst.a0, vU8 g.Dst.a1, vU8 g.Dst.a2, vU8 g.Dst.a3, vU8 g.Dst.a4, vU8 g.Dst.a5, vU8 g.Src.a0, vU8 g.Src.a1, vU8 g.Src.a2, vU8 g.Src.a3, vU8 g.Src.a4, vU8 g.Src.a5, vI g.Vlan, vU16 g.Type_, vg1]) rfl rfl rfl rfl tyF38 (i := 1) rfl rfl rfl) ?_
              rintro _ rfl
              obtain ⟨check4, hx11, h⟩ := ob_e h
              refine Tops_yes rfl rfl (congrArg (fun b => some (Value.bool b)) hg11) (OpT_call (w_frame_Check hx11) [] [1] rfl rfl rfl rfl rfl callee20 rfl rfl rfl rfl) ?_
              rintro _ ⟨_, _, _, ⟨rfl, rfl, rfl⟩, rfl⟩
              refine Tops_yes rfl rfl (congrArg (fun b => some (Value.bool b)) hg11) (OpT_bin rfl rfl rfl rfl rfl (bin_eql_i (a := bytes2.2) (b := check4))) ?_
              rintro _ rfl
              refine Tops_step rfl (OpT_pickT rfl rfl rfl (congrArg (fun b => some (Value.bool b)) hg11) rfl) ?_
              refine Tops_step rfl (OpT_assign rfl rfl rfl rfl) ?_
              refine Tops_nil ?_
              refine Tk_wkS (fr' := [(8, some (vB (bytes2.2 == check4)))]) (own' := []) (shr' := []) [8] [] [] rfl rfl rfl rfl ?_
              obtain ⟨hg12, h⟩ := chk_e h
              exact Tk_retV rfl rfl (resA (vs := [.bool true]) rfl ⟨(congrArg (fun b => some (Value.bool b)) hg12), trivial⟩) [] [] rfl rfl rfl ⟨rfl, rfl, rfl⟩
            · replace h := br_f hg10 h
              refine Tk_condF (congrArg (fun b => some (Value.bool b)) hg10) ?_
              refine Tk_skip ?_
              refine Tk_seq ?_
              refine Tk_drawT (by kernel_rfl) ?_
              refine TA_tb [0, 1, 0, 4, 15, 0, 0, 96, 255, 511, 1023, 2047, 4095, 1023, 9215, 25599, 65535, 131071, 262143, 524287, 1048575, 2097151, 524287, 4718591, 13107199, 33554431, 67108863, 134217727] (by kernel_rfl) fun htb => ?_
              refine TA_wkS (fr' := [(4, some (.pointer (some ⟨b1, 0, none⟩))), (5, some (.pointer (some ⟨b2, 0, none⟩))), (9, some (v1)), (11, some (v2))]) (own' := [some (cellsR b1 38 [vU8 f.Dst.a0, vU8 f.Dst.a1, vU8 f.Dst.a2, vU8 f.Dst.a3, vU8 f.Dst.a4, vU8 f.Dst.a5, vU8 f.Src.a0, vU8 f.Src.a1, vU8 f.Src.a2, vU8 f.Src.a3, vU8 f.Src.a4, vU8 f.Src.a5, vI f.Vlan, vU16 f.Type_, vf1]), some (cellsR b2 38 [vU8 g.Dst.a0, vU8 g.Dst.a1, vU8 g.Dst.a2, vU8 g.Dst.a3, vU8 g.Dst.a4, vU8 g.Dst.a5, vU8 g.Src.a0, vU8 g.Src.a1, vU8 g.Src.a2, vU8 g.Src.a3, vU8 g.Src.a4, vU8 g.Src.a5, vI g.Vlan, vU16 g.Type_, vg1]), some (rowS u8S v1 bytes1.1), some (rowS u8S v2 bytes2.1)]) (shr' := [Fact.sl u8S vf1 f.Data, Fact.sl u8S vg1 g.Data]) [4, 5, 9, 11] [0, 1, 2, 3] [0, 1] rfl rfl rfl rfl ?_
              refine TA_retire (i := 2) rfl ?_
              refine TA_retire (i := 3) rfl ?_
              obtain ⟨same1, hx12, h⟩ := ob_e h
              refine TA_seg (lo := 0) (hi := 8) htb rfl rfl (by kernel_rfl) (fun c L a w => Sat c ⟨[(4, some (.pointer (some ⟨b1, 0, none⟩))), (5, some (.pointer (some ⟨b2, 0, none⟩))), (9, some (v1)), (11, some (v2)), (73, bif L 0 then some (v1) else none), (74, bif L 1 then some (vS bytes1.1) else none), (75, bif L 2 then some (v2) else none), (76, bif L 3 then some (vS bytes2.1) else none), (77, bif L 4 then some (vB (bytes1.1 == bytes2.1)) else none), (78, bif L 5 then some (.agg #[vU8 f.Dst.a0, vU8 f.Dst.a1, vU8 f.Dst.a2, vU8 f.Dst.a3, vU8 f.Dst.a4, vU8 f.Dst.a5, vU8 f.Src.a0, vU8 f.Src.a1, vU8 f.Src.a2, vU8 f.Src.a3, vU8 f.Src.a4, vU8 f.Src.a5, vI f.Vlan, vU16 f.Type_, vf1]) else none), (79, bif L 6 then some (.agg #[vU8 g.Dst.a0, vU8 g.Dst.a1, vU8 g.Dst.a2, vU8 g.Dst.a3, vU8 g.Dst.a4, vU8 g.Dst.a5, vU8 g.Src.a0, vU8 g.Src.a1, vU8 g.Src.a2, vU8 g.Src.a3, vU8 g.Src.a4, vU8 g.Src.a5, vI g.Vlan, vU16 g.Type_, vg1]) else none), (80, bif L 7 then some (vB same1) else none)], [(some (cellsR b1 38 [vU8 f.Dst.a0, vU8 f.Dst.a1, vU8 f.Dst.a2, vU8 f.Dst.a3, vU8 f.Dst.a4, vU8 f.Dst.a5, vU8 f.Src.a0, vU8 f.Src.a1, vU8 f.Src.a2, vU8 f.Src.a3, vU8 f.Src.a4, vU8 f.Src.a5, vI f.Vlan, vU16 f.Type_, vf1]) : Option Res), (some (cellsR b2 38 [vU8 g.Dst.a0, vU8 g.Dst.a1, vU8 g.Dst.a2, vU8 g.Dst.a3, vU8 g.Dst.a4, vU8 g.Dst.a5, vU8 g.Src.a0, vU8 g.Src.a1, vU8 g.Src.a2, vU8 g.Src.a3, vU8 g.Src.a4, vU8 g.Src.a5, vI g.Vlan, vU16 g.Type_, vg1]) : Option Res), (none : Option Res), (none : Option Res)], [Fact.sl u8S vf1 f.Data, Fact.sl u8S vg1 g.Data, Fact.sl u8S v1 bytes1.1, Fact.sl u8S v2 bytes2.1]⟩ a w) [([], [1, 4]), ([0], [4]), ([], [3, 4]), ([2], [4]), ([0, 1, 2, 3], []), ([], [7]), ([], [7]), ([5, 6], [])] rfl (by kernel_rfl) ?_ (steps_cons ?_ (steps_cons ?_ (steps_cons ?_ (steps_cons ?_ (steps_cons ?_ (steps_cons ?_ (steps_cons ?_ (steps_cons ?_ (steps_nil))))))))) ?_
              · intro a w hs
                exact hs.startF [73, 74, 75, 76, 77, 78, 79, 80] [0, 1, 2, 3] [0, 1, 2, 3] rfl rfl rfl rfl
              · intro L a w hv K Q hK
                have hs := hv
                refine wpOp_go rfl rfl hs (OpT_move rfl rfl rfl rfl) ?_
                rintro _ rfl a' w' hs'
                exact hK a' w' (hs'.putF (i := 4) rfl [0, 1, 2, 3] [0, 1, 2, 3] rfl rfl rfl rfl)
              · intro L a w hv K Q hK
                have hs := hv
                refine wpOp_go rfl rfl hs (OpT_strS rfl rfl rfl rfl Try.underlying22 Try.underlying5 Try.underlying9 (i := 2) rfl) ?_
                rintro _ rfl a' w' hs'
                exact hK a' w' (hs'.putF (i := 5) rfl [0, 1, 2, 3] [0, 1, 2, 3] rfl rfl rfl rfl)
              · intro L a w hv K Q hK
                have hs := hv
                refine wpOp_go rfl rfl hs (OpT_move rfl rfl rfl rfl) ?_
                rintro _ rfl a' w' hs'
                exact hK a' w' (hs'.putF (i := 6) rfl [0, 1, 2, 3] [0, 1, 2, 3] rfl rfl rfl rfl)
              · intro L a w hv K Q hK
                have hs := hv
                refine wpOp_go rfl rfl hs (OpT_strS rfl rfl rfl rfl Try.underlying22 Try.underlying5 Try.underlying9 (i := 3) rfl) ?_
                rintro _ rfl a' w' hs'
                exact hK a' w' (hs'.putF (i := 7) rfl [0, 1, 2, 3] [0, 1, 2, 3] rfl rfl rfl rfl)
              · intro L a w hv K Q hK
                have hs := hv
                refine wpOp_go rfl rfl hs (OpT_bin rfl rfl rfl rfl rfl (bin_eql_s (a := bytes1.1) (b := bytes2.1))) ?_
                rintro _ rfl a' w' hs'
                exact hK a' w' (hs'.putF (i := 8) rfl [0, 1, 2, 3] [0, 1, 2, 3] rfl rfl rfl rfl)
              · intro L a w hv K Q hK
                have hs := hv
                refine wpOp_go rfl rfl hs (OpT_loadCA (vs := [vU8 f.Dst.a0, vU8 f.Dst.a1, vU8 f.Dst.a2, vU8 f.Dst.a3, vU8 f.Dst.a4, vU8 f.Dst.a5, vU8 f.Src.a0, vU8 f.Src.a1, vU8 f.Src.a2, vU8 f.Src.a3, vU8 f.Src.a4, vU8 f.Src.a5, vI f.Vlan, vU16 f.Type_, vf1]) rfl rfl rfl rfl tyF38 (i := 0) rfl rfl rfl) ?_
                rintro _ rfl a' w' hs'
                exact hK a' w' (hs'.putF (i := 9) rfl [0, 1, 2, 3] [0, 1, 2, 3] rfl rfl rfl rfl)
              · intro L a w hv K Q hK
                have hs := hv
                refine wpOp_go rfl rfl hs (OpT_loadCA (vs := [vU8 g.Dst.a0, vU8 g.Dst.a1, vU8 g.Dst.a2, vU8 g.Dst.a3, vU8 g.Dst.a4, vU8 g.Dst.a5, vU8 g.Src.a0, vU8 g.Src.a1, vU8 g.Src.a2, vU8 g.Src.a3, vU8 g.Src.a4, vU8 g.Src.a5, vI g.Vlan, vU16 g.Type_, vg1]) rfl rfl rfl rfl tyF38 (i := 1) rfl rfl rfl) ?_
                rintro _ rfl a' w' hs'
                exact hK a' w' (hs'.putF (i := 10) rfl [0, 1, 2, 3] [0, 1, 2, 3] rfl rfl rfl rfl)
              · intro L a w hv K Q hK
                have hs := hv
                refine wpOp_go rfl rfl hs (OpT_call (w_frame_Same hx12) [] [0, 1] rfl rfl rfl rfl rfl callee21 rfl rfl rfl rfl) ?_
                rintro _ ⟨_, _, _, ⟨rfl, rfl, rfl⟩, rfl⟩ a' w' hs'
                exact hK a' w' (hs'.putF (i := 11) rfl [0, 1, 2, 3] [0, 1, 2, 3] rfl rfl rfl rfl)
              · intro L a w hL hv
                rw [allTrue hL] at hv
                have hs := hv
                refine (show TA _ _ _ 8 ⟨[(4, some (.pointer (some ⟨b1, 0, none⟩))), (9, some (v1)), (77, some (vB (bytes1.1 == bytes2.1))), (80, some (vB same1))], [some (cellsR b1 38 [vU8 f.Dst.a0, vU8 f.Dst.a1, vU8 f.Dst.a2, vU8 f.Dst.a3, vU8 f.Dst.a4, vU8 f.Dst.a5, vU8 f.Src.a0, vU8 f.Src.a1, vU8 f.Src.a2, vU8 f.Src.a3, vU8 f.Src.a4, vU8 f.Src.a5, vI f.Vlan, vU16 f.Type_, vf1])], [Fact.sl u8S vf1 f.Data, Fact.sl u8S v1 bytes1.1]⟩ from ?_) a w (hs.wkS [4, 9, 77, 80] [0] [0, 2] rfl rfl rfl rfl)
                clear hs hL
                refine TA_step htb (by kernel_rfl) rfl rfl (OpT_bin rfl rfl rfl rfl rfl (bin_eql_b (a := bytes1.1 == bytes2.1) (b := same1) Try.underlying4)) ?_
                refine TA_step htb (by kernel_rfl) rfl rfl (OpT_move rfl rfl rfl rfl) ?_
                refine TA_wkS (fr' := [(4, some (.pointer (some ⟨b1, 0, none⟩))), (9, some (v1)), (82, some (vB ((bytes1.1 == bytes2.1) == same1)))]) (own' := [some (cellsR b1 38 [vU8 f.Dst.a0, vU8 f.Dst.a1, vU8 f.Dst.a2, vU8 f.Dst.a3, vU8 f.Dst.a4, vU8 f.Dst.a5, vU8 f.Src.a0, vU8 f.Src.a1, vU8 f.Src.a2, vU8 f.Src.a3, vU8 f.Src.a4, vU8 f.Src.a5, vI f.Vlan, vU16 f.Type_, vf1])]) (shr' := [Fact.sl u8S vf1 f.Data, Fact.sl u8S v1 bytes1.1]) [4, 9, 82] [0] [0, 1] rfl rfl rfl rfl ?_
                refine TA_vs (vs_retireP FrameS (x := f) (i := 0) rfl (rel_s1 (i := 0) rfl rfl rfl)) ?_
                obtain ⟨hg13, h⟩ := chk_e h
                obtain ⟨hc1, h⟩ := chk_e h
                refine TA_seg (lo := 10) (hi := 16) htb rfl rfl (by kernel_rfl) (fun c L a w => ∃ (v5 : Value), ∃ (p1 : Value), ∃ (v6 : Value), Sat c ⟨[(4, some (.pointer (some ⟨b1, 0, none⟩))), (9, some (v1)), (82, some (vB ((bytes1.1 == bytes2.1) == same1))), (83, bif L 10 then some (v1) else none), (84, bif L 11 then some (v5) else none), (85, bif L 12 then some (vS (sub bytes1.1 (0 : Int) (6 : Int))) else none), (86, bif L 13 then some (p1) else none), (87, bif L 14 then some (v6) else none), (88, bif L 15 then some (vS [f.Dst.a0, f.Dst.a1, f.Dst.a2, f.Dst.a3, f.Dst.a4, f.Dst.a5]) else none)], [(none : Option Res)], [Fact.sl u8S vf1 f.Data, Fact.sl u8S v1 bytes1.1, Fact.pt FrameS (.pointer (some ⟨b1, 0, none⟩)) f, (bif L 11 then Fact.sl u8S v5 (sub bytes1.1 (0 : Int) (6 : Int)) else Fact.tt), (bif L 13 then Fact.pt a6UInt8S p1 f.Dst else Fact.tt), (bif L 14 then Fact.sl u8S v6 [f.Dst.a0, f.Dst.a1, f.Dst.a2, f.Dst.a3, f.Dst.a4, f.Dst.a5] else Fact.tt)]⟩ a w) [([], [11, 12]), ([10], [12]), ([10, 11], []), ([], [14, 15]), ([13], [15]), ([13, 14], [])] rfl (by kernel_rfl) ?_ (steps_cons ?_ (steps_cons ?_ (steps_cons ?_ (steps_cons ?_ (steps_cons ?_ (steps_cons ?_ (steps_nil))))))) ?_
                · intro a w hs
                  exact ⟨undef, undef, undef, hs.startF [83, 84, 85, 86, 87, 88] [0] [0, 1, 2, 3, 4, 5] rfl rfl rfl rfl⟩
                · intro L a w hv K Q hK
                  obtain ⟨v5, p1, v6, hs⟩ := hv
                  refine wpOp_yes rfl rfl rfl hs (congrArg (fun b => some (Value.bool b)) hg13) (OpT_move rfl rfl rfl rfl) ?_
                  rintro _ rfl a' w' hs'
                  exact hK a' w' ⟨v5, p1, v6, hs'.putF (i := 3) rfl [0] [0, 1, 2, 3, 4, 5] rfl rfl rfl rfl⟩
                · intro L a w hv K Q hK
                  obtain ⟨v5, p1, v6, hs⟩ := hv
                  refine wpOp_yes rfl rfl rfl hs (congrArg (fun b => some (Value.bool b)) hg13) (OpT_sliceH (m := (6 : Int)) rfl rfl rfl rfl rfl slF22 (i := 1) rfl hc1) ?_
                  rintro _ ⟨v5', rfl⟩ a' w' hs'
                  exact hK a' w' ⟨v5', p1, v6, hs'.putF (i := 4) rfl [0] [0, 1, 2, 6, 4, 5] rfl rfl rfl rfl⟩
                · intro L a w hv K Q hK
                  obtain ⟨v5, p1, v6, hs⟩ := hv
                  refine wpOp_yes rfl rfl rfl hs (congrArg (fun b => some (Value.bool b)) hg13) (OpT_strS rfl rfl rfl rfl Try.underlying22 Try.underlying5 Try.underlying9 (i := 3) rfl) ?_
                  rintro _ rfl a' w' hs'
                  exact hK a' w' ⟨v5, p1, v6, hs'.putF (i := 5) rfl [0] [0, 1, 2, 3, 4, 5] rfl rfl rfl rfl⟩
                · intro L a w hv K Q hK
                  obtain ⟨v5, p1, v6, hs⟩ := hv
                  refine wpOp_yes rfl rfl rfl hs (congrArg (fun b => some (Value.bool b)) hg13) (OpT_fieldP (S' := a6UInt8S) (y := f.Dst) rfl rfl rfl rfl fldF38x0 (i := 2) rfl (by intro h cs hr; obtain ⟨v, rfl, _⟩ := hr; rfl)) ?_
                  rintro _ ⟨p1', rfl⟩ a' w' hs'
                  exact hK a' w' ⟨v5, p1', v6, hs'.putF (i := 6) rfl [0] [0, 1, 2, 3, 6, 5] rfl rfl rfl rfl⟩
                · intro L a w hv K Q hK
                  obtain ⟨v5, p1, v6, hs⟩ := hv
                  refine wpOp_yes rfl rfl rfl hs (congrArg (fun b => some (Value.bool b)) hg13) (OpT_sliceArrP u8S rfl (xs := [f.Dst.a0, f.Dst.a1, f.Dst.a2, f.Dst.a3, f.Dst.a4, f.Dst.a5]) rfl rfl rfl rfl arrF36 (i := 4) rfl (fun _ _ h => h) rfl rfl) ?_
                  rintro _ ⟨v6', rfl⟩ a' w' hs'
                  exact hK a' w' ⟨v5, p1, v6', hs'.putF (i := 7) rfl [0] [0, 1, 2, 3, 4, 6] rfl rfl rfl rfl⟩
                · intro L a w hv K Q hK
                  obtain ⟨v5, p1, v6, hs⟩ := hv
                  refine wpOp_yes rfl rfl rfl hs (congrArg (fun b => some (Value.bool b)) hg13) (OpT_strS rfl rfl rfl rfl Try.underlying22 Try.underlying5 Try.underlying9 (i := 5) rfl) ?_
                  rintro _ rfl a' w' hs'
                  exact hK a' w' ⟨v5, p1, v6, hs'.putF (i := 8) rfl [0] [0, 1, 2, 3, 4, 5] rfl rfl rfl rfl⟩
                · intro L a w hL hv
                  rw [allTrue hL] at hv
                  obtain ⟨v5, p1, v6, hs⟩ := hv
                  refine (show TA _ _ _ 16 ⟨[(4, some (.pointer (some ⟨b1, 0, none⟩))), (9, some (v1)), (82, some (vB ((bytes1.1 == bytes2.1) == same1))), (85, some (vS (sub bytes1.1 (0 : Int) (6 : Int)))), (88, some (vS [f.Dst.a0, f.Dst.a1, f.Dst.a2, f.Dst.a3, f.Dst.a4, f.Dst.a5]))], [], [Fact.sl u8S v1 bytes1.1, Fact.pt FrameS (.pointer (some ⟨b1, 0, none⟩)) f]⟩ from ?_) a w (hs.wkS [4, 9, 82, 85, 88] [] [1, 2] rfl rfl rfl rfl)
                  clear hs hL
                  refine TA_yes htb (by kernel_rfl) rfl rfl rfl (congrArg (fun b => some (Value.bool b)) hg13) (OpT_bin rfl rfl rfl rfl rfl (bin_eql_s (a := sub bytes1.1 (0 : Int) (6 : Int)) (b := [f.Dst.a0, f.Dst.a1, f.Dst.a2, f.Dst.a3, f.Dst.a4, f.Dst.a5]))) ?_
                  rintro _ rfl
                  refine TA_step htb (by kernel_rfl) rfl rfl (OpT_pickT rfl rfl rfl (congrArg (fun b => some (Value.bool b)) hg13) rfl) ?_
                  refine TA_step htb (by kernel_rfl) rfl rfl (OpT_move rfl rfl rfl rfl) ?_
                  refine TA_wkS (fr' := [(4, some (.pointer (some ⟨b1, 0, none⟩))), (9, some (v1)), (91, some (vB ((sub bytes1.1 (0 : Int) (6 : Int)) == [f.Dst.a0, f.Dst.a1, f.Dst.a2, f.Dst.a3, f.Dst.a4, f.Dst.a5])))]) (own' := []) (shr' := [Fact.sl u8S v1 bytes1.1, Fact.pt FrameS (.pointer (some ⟨b1, 0, none⟩)) f]) [4, 9, 91] [] [0, 1] rfl rfl rfl rfl ?_
                  obtain ⟨hg14, h⟩ := chk_e h
                  obtain ⟨hc2, h⟩ := chk_e h
                  refine TA_seg (lo := 19) (hi := 25) htb rfl rfl (by kernel_rfl) (fun c L a w => ∃ (v7 : Value), ∃ (p2 : Value), ∃ (v8 : Value), Sat c ⟨[(4, some (.pointer (some ⟨b1, 0, none⟩))), (9, some (v1)), (91, some (vB ((sub bytes1.1 (0 : Int) (6 : Int)) == [f.Dst.a0, f.Dst.a1, f.Dst.a2, f.Dst.a3, f.Dst.a4, f.Dst.a5]))), (92, bif L 19 then some (v1) else none), (93, bif L 20 then some (v7) else none), (94, bif L 21 then some (vS (sub bytes1.1 (6 : Int) (12 : Int))) else none), (95, bif L 22 then some (p2) else none), (96, bif L 23 then some (v8) else none), (97, bif L 24 then some (vS [f.Src.a0, f.Src.a1, f.Src.a2, f.Src.a3, f.Src.a4, f.Src.a5]) else none)], [], [Fact.sl u8S v1 bytes1.1, Fact.pt FrameS (.pointer (some ⟨b1, 0, none⟩)) f, (bif L 20 then Fact.sl u8S v7 (sub bytes1.1 (6 : Int) (12 : Int)) else Fact.tt), (bif L 22 then Fact.pt a6UInt8S p2 f.Src else Fact.tt), (bif L 23 then Fact.sl u8S v8 [f.Src.a0, f.Src.a1, f.Src.a2, f.Src.a3, f.Src.a4, f.Src.a5] else Fact.tt)]⟩ a w) [([], [20, 21]), ([19], [21]), ([19, 20], []), ([], [23, 24]), ([22], [24]), ([22, 23], [])] rfl (by kernel_rfl) ?_ (steps_cons ?_ (steps_cons ?_ (steps_cons ?_ (steps_cons ?_ (steps_cons ?_ (steps_cons ?_ (steps_nil))))))) ?_
                  · intro a w hs
                    exact ⟨undef, undef, undef, hs.startF [92, 93, 94, 95, 96, 97] [] [0, 1, 2, 3, 4] rfl rfl rfl rfl⟩
                  · intro L a w hv K Q hK
                    obtain ⟨v7, p2, v8, hs⟩ := hv
                    refine wpOp_yes rfl rfl rfl hs (congrArg (fun b => some (Value.bool b)) hg14) (OpT_move rfl rfl rfl rfl) ?_
                    rintro _ rfl a' w' hs'
                    exact hK a' w' ⟨v7, p2, v8, hs'.putF (i := 3) rfl [] [0, 1, 2, 3, 4] rfl rfl rfl rfl⟩
                  · intro L a w hv K Q hK
                    obtain ⟨v7, p2, v8, hs⟩ := hv
                    refine wpOp_yes rfl rfl rfl hs (congrArg (fun b => some (Value.bool b)) hg14) (OpT_sliceLH (l := (6 : Int)) (m := (12 : Int)) rfl rfl rfl rfl rfl rfl slF22 (i := 0) rfl hc2) ?_
                    rintro _ ⟨v7', rfl⟩ a' w' hs'
                    exact hK a' w' ⟨v7', p2, v8, hs'.putF (i := 4) rfl [] [0, 1, 5, 3, 4] rfl rfl rfl rfl⟩
                  · intro L a w hv K Q hK
                    obtain ⟨v7, p2, v8, hs⟩ := hv
                    refine wpOp_yes rfl rfl rfl hs (congrArg (fun b => some (Value.bool b)) hg14) (OpT_strS rfl rfl rfl rfl Try.underlying22 Try.underlying5 Try.underlying9 (i := 2) rfl) ?_
                    rintro _ rfl a' w' hs'
                    exact hK a' w' ⟨v7, p2, v8, hs'.putF (i := 5) rfl [] [0, 1, 2, 3, 4] rfl rfl rfl rfl⟩
                  · intro L a w hv K Q hK
                    obtain ⟨v7, p2, v8, hs⟩ := hv
                    refine wpOp_yes rfl rfl rfl hs (congrArg (fun b => some (Value.bool b)) hg14) (OpT_fieldP (S' := a6UInt8S) (y := f.Src) rfl rfl rfl rfl fldF38x1 (i := 1) rfl (by intro h cs hr; obtain ⟨v, rfl, _⟩ := hr; rfl)) ?_
                    rintro _ ⟨p2', rfl⟩ a' w' hs'
                    exact hK a' w' ⟨v7, p2', v8, hs'.putF (i := 6) rfl [] [0, 1, 2, 5, 4] rfl rfl rfl rfl⟩
                  · intro L a w hv K Q hK
                    obtain ⟨v7, p2, v8, hs⟩ := hv
                    refine wpOp_yes rfl rfl rfl hs (congrArg (fun b => some (Value.bool b)) hg14) (OpT_sliceArrP u8S rfl (xs := [f.Src.a0, f.Src.a1, f.Src.a2, f.Src.a3, f.Src.a4, f.Src.a5]) rfl rfl rfl rfl arrF36 (i := 3) rfl (fun _ _ h => h) rfl rfl) ?_
                    rintro _ ⟨v8', rfl⟩ a' w' hs'
                    exact hK a' w' ⟨v7, p2, v8', hs'.putF (i := 7) rfl [] [0, 1, 2, 3, 5] rfl rfl rfl rfl⟩
                  · intro L a w hv K Q hK
                    obtain ⟨v7, p2, v8, hs⟩ := hv
                    refine wpOp_yes rfl rfl rfl hs (congrArg (fun b => some (Value.bool b)) hg14) (OpT_strS rfl rfl rfl rfl Try.underlying22 Try.underlying5 Try.underlying9 (i := 4) rfl) ?_
                    rintro _ rfl a' w' hs'
                    exact hK a' w' ⟨v7, p2, v8, hs'.putF (i := 8) rfl [] [0, 1, 2, 3, 4] rfl rfl rfl rfl⟩
                  · intro L a w hL hv
                    rw [allTrue hL] at hv
                    obtain ⟨v7, p2, v8, hs⟩ := hv
                    refine (show TA _ _ _ 25 ⟨[(91, some (vB ((sub bytes1.1 (0 : Int) (6 : Int)) == [f.Dst.a0, f.Dst.a1, f.Dst.a2, f.Dst.a3, f.Dst.a4, f.Dst.a5]))), (94, some (vS (sub bytes1.1 (6 : Int) (12 : Int)))), (97, some (vS [f.Src.a0, f.Src.a1, f.Src.a2, f.Src.a3, f.Src.a4, f.Src.a5]))], [], []⟩ from ?_) a w (hs.wkS [91, 94, 97] [] [] rfl rfl rfl rfl)
                    clear hs hL
                    refine TA_yes htb (by kernel_rfl) rfl rfl rfl (congrArg (fun b => some (Value.bool b)) hg14) (OpT_bin rfl rfl rfl rfl rfl (bin_eql_s (a := sub bytes1.1 (6 : Int) (12 : Int)) (b := [f.Src.a0, f.Src.a1, f.Src.a2, f.Src.a3, f.Src.a4, f.Src.a5]))) ?_
                    rintro _ rfl
                    refine TA_step htb (by kernel_rfl) rfl rfl (OpT_pickT rfl rfl rfl (congrArg (fun b => some (Value.bool b)) hg14) rfl) ?_
                    refine TA_step htb (by kernel_rfl) rfl rfl (OpT_assign rfl rfl rfl rfl) ?_
                    refine TA_end rfl ?_
                    refine Tk_wkS (fr' := [(8, some (vB ((sub bytes1.1 (6 : Int) (12 : Int)) == [f.Src.a0, f.Src.a1, f.Src.a2, f.Src.a3, f.Src.a4, f.Src.a5])))]) (own' := []) (shr' := []) [8] [] [] rfl rfl rfl rfl ?_
                    obtain ⟨hg15, h⟩ := chk_e h
                    exact Tk_retV rfl rfl (resA (vs := [.bool true]) rfl ⟨(congrArg (fun b => some (Value.bool b)) hg15), trivial⟩) [] [] rfl rfl rfl ⟨rfl, rfl, rfl⟩
        · replace h := br_f hg5 h
          refine TA_no htb (by kernel_rfl) rfl rfl rfl (congrArg (fun b => some (Value.bool b)) hg5) rfl rfl ?_
          refine TA_no htb (by kernel_rfl) rfl rfl rfl (congrArg (fun b => some (Value.bool b)) hg5) rfl rfl ?_
          refine TA_no htb (by kernel_rfl) rfl rfl rfl (congrArg (fun b => some (Value.bool b)) hg5) rfl rfl ?_
          refine TA_no htb (by kernel_rfl) rfl rfl rfl (congrArg (fun b => some (Value.bool b)) hg5) rfl rfl ?_
          refine TA_yes htb (by kernel_rfl) rfl rfl rfl (congrArg (fun b => some (Value.bool b)) hg4) (OpT_pickF rfl rfl rfl (congrArg (fun b => some (Value.bool b)) hg5) rfl) ?_
          rintro _ rfl
          refine TA_wkS (fr' := [(4, some (.pointer (some ⟨b1, 0, none⟩))), (5, some (.pointer (some ⟨b2, 0, none⟩))), (9, some (v1)), (10, some (vI bytes1.2)), (11, some (v2)), (12, some (vI bytes2.2)), (46, some (vB ((hdrof1 == hdrof2) != (hp2 == ip3)))), (55, some (vB false))]) (own' := [some (cellsR b1 38 [vU8 f.Dst.a0, vU8 f.Dst.a1, vU8 f.Dst.a2, vU8 f.Dst.a3, vU8 f.Dst.a4, vU8 f.Dst.a5, vU8 f.Src.a0, vU8 f.Src.a1, vU8 f.Src.a2, vU8 f.Src.a3, vU8 f.Src.a4, vU8 f.Src.a5, vI f.Vlan, vU16 f.Type_, vf1]), some (cellsR b2 38 [vU8 g.Dst.a0, vU8 g.Dst.a1, vU8 g.Dst.a2, vU8 g.Dst.a3, vU8 g.Dst.a4, vU8 g.Dst.a5, vU8 g.Src.a0, vU8 g.Src.a1, vU8 g.Src.a2, vU8 g.Src.a3, vU8 g.Src.a4, vU8 g.Src.a5, vI g.Vlan, vU16 g.Type_, vg1]), some (rowS u8S v1 bytes1.1), some (rowS u8S v2 bytes2.1)]) (shr' := [Fact.sl u8S vf1 f.Data, Fact.sl u8S vg1 g.Data]) [4, 5, 9, 10, 11, 12, 46, 55] [0, 1, 2, 3] [0, 1] rfl rfl rfl rfl ?_
          refine TA_step htb (by kernel_rfl) rfl rfl (OpT_pickF rfl rfl rfl (congrArg (fun b => some (Value.bool b)) hg4) rfl) ?_
          refine TA_end rfl ?_
          refine Tk_wkS (fr' := [(4, some (.pointer (some ⟨b1, 0, none⟩))), (5, some (.pointer (some ⟨b2, 0, none⟩))), (9, some (v1)), (10, some (vI bytes1.2)), (11, some (v2)), (12, some (vI bytes2.2)), (56, some (vB false))]) (own' := [some (cellsR b1 38 [vU8 f.Dst.a0, vU8 f.Dst.a1, vU8 f.Dst.a2, vU8 f.Dst.a3, vU8 f.Dst.a4, vU8 f.Dst.a5, vU8 f.Src.a0, vU8 f.Src.a1, vU8 f.Src.a2, vU8 f.Src.a3, vU8 f.Src.a4, vU8 f.Src.a5, vI f.Vlan, vU16 f.Type_, vf1]), some (cellsR b2 38 [vU8 g.Dst.a0, vU8 g.Dst.a1, vU8 g.Dst.a2, vU8 g.Dst.a3, vU8 g.Dst.a4, vU8 g.Dst.a5, vU8 g.Src.a0, vU8 g.Src.a1, vU8 g.Src.a2, vU8 g.Src.a3, vU8 g.Src.a4, vU8 g.Src.a5, vI g.Vlan, vU16 g.Type_, vg1]), some (rowS u8S v1 bytes1.1), some (rowS u8S v2 bytes2.1)]) (shr' := [Fact.sl u8S vf1 f.Data, Fact.sl u8S vg1 g.Data]) [4, 5, 9, 10, 11, 12, 56] [0, 1, 2, 3] [0, 1] rfl rfl rfl rfl ?_
          refine Tk_condF rfl ?_
          refine Tk_skip ?_
          refine Tk_seq ?_
          refine Tk_seq ?_
          refine Tk_region ?_
          refine Tops_step rfl (OpT_move rfl rfl rfl rfl) ?_
          refine Tops_step rfl (OpT_bin rfl rfl rfl rfl rfl (bin_neq_i (a := bytes1.2) (b := (0 : Int)))) ?_
          refine Tops_step rfl (OpT_move rfl rfl rfl rfl) ?_
          rcases Bool.eq_false_or_eq_true (bytes1.2 != (0 : Int)) with hg16 | hg16
          · replace h := br_t hg16 h
            refine Tops_no rfl rfl (congrArg (fun b => some (Value.bool b)) hg16) rfl rfl ?_
            refine Tops_no rfl rfl (congrArg (fun b => some (Value.bool b)) hg16) rfl rfl ?_
            refine Tops_step rfl (OpT_pickT rfl rfl rfl (congrArg (fun b => some (Value.bool b)) hg16) rfl) ?_
            refine Tops_nil ?_
            refine Tk_wkS (fr' := [(4, some (.pointer (some ⟨b1, 0, none⟩))), (5, some (.pointer (some ⟨b2, 0, none⟩))), (9, some (v1)), (10, some (vI bytes1.2)), (11, some (v2)), (12, some (vI bytes2.2)), (62, some (vB true))]) (own' := [some (cellsR b1 38 [vU8 f.Dst.a0, vU8 f.Dst.a1, vU8 f.Dst.a2, vU8 f.Dst.a3, vU8 f.Dst.a4, vU8 f.Dst.a5, vU8 f.Src.a0, vU8 f.Src.a1, vU8 f.Src.a2, vU8 f.Src.a3, vU8 f.Src.a4, vU8 f.Src.a5, vI f.Vlan, vU16 f.Type_, vf1]), some (cellsR b2 38 [vU8 g.Dst.a0, vU8 g.Dst.a1, vU8 g.Dst.a2, vU8 g.Dst.a3, vU8 g.Dst.a4, vU8 g.Dst.a5, vU8 g.Src.a0, vU8 g.Src.a1, vU8 g.Src.a2, vU8 g.Src.a3, vU8 g.Src.a4, vU8 g.Src.a5, vI g.Vlan, vU16 g.Type_, vg1]), some (rowS u8S v1 bytes1.1), some (rowS u8S v2 bytes2.1)]) (shr' := [Fact.sl u8S vf1 f.Data, Fact.sl u8S vg1 g.Data]) [4, 5, 9, 10, 11, 12, 62] [0, 1, 2, 3] [0, 1] rfl rfl rfl rfl ?_
            refine Tk_condT rfl ?_
            refine Tk_seq ?_
            refine Tk_region ?_
            refine Tops_step rfl (OpT_move rfl rfl rfl rfl) ?_
            refine Tops_step rfl (OpT_loadCA (vs := [vU8 f.Dst.a0, vU8 f.Dst.a1, vU8 f.Dst.a2, vU8 f.Dst.a3, vU8 f.Dst.a4, vU8 f.Dst.a5, vU8 f.Src.a0, vU8 f.Src.a1, vU8 f.Src.a2, vU8 f.Src.a3, vU8 f.Src.a4, vU8 f.Src.a5, vI f.Vlan, vU16 f.Type_, vf1]) rfl rfl rfl rfl tyF38 (i := 0) rfl rfl rfl) ?_
            obtain ⟨check5, hx13, h⟩ := ob_e h
            refine Tops_exP rfl (OpT_call (w_frame_Check hx13) [] [0] rfl rfl rfl rfl rfl callee20 rfl rfl rfl rfl) ?_
            rintro _ ⟨_, _, _, ⟨rfl, rfl, rfl⟩, rfl⟩
            refine Tops_step rfl (OpT_bin rfl rfl rfl rfl rfl (bin_eql_i (a := bytes1.2) (b := check5))) ?_
            refine Tops_step rfl (OpT_move rfl rfl rfl rfl) ?_
            obtain ⟨hg17, h⟩ := chk_e h
            refine Tops_yes rfl rfl (congrArg (fun b => some (Value.bool b)) hg17) (OpT_move rfl rfl rfl rfl) ?_
            rintro _ rfl
            refine Tops_yes rfl rfl (congrArg (fun b => some (Value.bool b)) hg17) (OpT_loadCA (vs := [vU8 g.Dst.a0, vU8 g.Dst.a1, vU8 g.Dst.a2, vU8 g.Dst.a3, vU8 g.Dst.a4, vU8 g.Dst.a5, vU8 g.Src.a0, vU8 g.Src.a1, vU8 g.Src.a2, vU8 g.Src.a3, vU8 g.Src.a4, vU8 g.Src.a5, vI g.Vlan, vU16 g.Type_, vg1]) rfl rfl rfl rfl tyF38 (i := 1) rfl rfl rfl) ?_
            rintro _ rfl
            obtain ⟨check6, hx14, h⟩ := ob_e h
            refine Tops_yes rfl rfl (congrArg (fun b => some (Value.bool b)) hg17) (OpT_call (w_frame_Check hx14) [] [1] rfl rfl rfl rfl rfl callee20 rfl rfl rfl rfl) ?_
            rintro _ ⟨_, _, _, ⟨rfl, rfl, rfl⟩, rfl⟩
            refine Tops_yes rfl rfl (congrArg (fun b => some (Value.bool b)) hg17) (OpT_bin rfl rfl rfl rfl rfl (bin_eql_i (a := bytes2.2) (b := check6))) ?_
            rintro _ rfl
            refine Tops_step rfl (OpT_pickT rfl rfl rfl (congrArg (fun b => some (Value.bool b)) hg17) rfl) ?_
            refine Tops_step rfl (OpT_assign rfl rfl rfl rfl) ?_
            refine Tops_nil ?_
            refine Tk_wkS (fr' := [(8, some (vB (bytes2.2 == check6)))]) (own' := []) (shr' := []) [8] [] [] rfl rfl rfl rfl ?_
            obtain ⟨hg18, h⟩ := chk_e h
            exact Tk_retV rfl rfl (resA (vs := [.bool true]) rfl ⟨(congrArg (fun b => some (Value.bool b)) hg18), trivial⟩) [] [] rfl rfl rfl ⟨rfl, rfl, rfl⟩
          · replace h := br_f hg16 h
            refine Tops_yes rfl rfl (congrArg (fun b => some (Value.bool b)) hg16) (OpT_move rfl rfl rfl rfl) ?_
            rintro _ rfl
            refine Tops_yes rfl rfl (congrArg (fun b => some (Value.bool b)) hg16) (OpT_bin rfl rfl rfl rfl rfl (bin_neq_i (a := bytes2.2) (b := (0 : Int)))) ?_
            rintro _ rfl
            refine Tops_step rfl (OpT_pickF rfl rfl rfl (congrArg (fun b => some (Value.bool b)) hg16) rfl) ?_
            refine Tops_nil ?_
            refine Tk_wkS (fr' := [(4, some (.pointer (some ⟨b1, 0, none⟩))), (5, some (.pointer (some ⟨b2, 0, none⟩))), (9, some (v1)), (10, some (vI bytes1.2)), (11, some (v2)), (12, some (vI bytes2.2)), (62, some (vB (bytes2.2 != (0 : Int))))]) (own' := [some (cellsR b1 38 [vU8 f.Dst.a0, vU8 f.Dst.a1, vU8 f.Dst.a2, vU8 f.Dst.a3, vU8 f.Dst.a4, vU8 f.Dst.a5, vU8 f.Src.a0, vU8 f.Src.a1, vU8 f.Src.a2, vU8 f.Src.a3, vU8 f.Src.a4, vU8 f.Src.a5, vI f.Vlan, vU16 f.Type_, vf1]), some (cellsR b2 38 [vU8 g.Dst.a0, vU8 g.Dst.a1, vU8 g.Dst.a2, vU8 g.Dst.a3, vU8 g.Dst.a4, vU8 g.Dst.a5, vU8 g.Src.a0, vU8 g.Src.a1, vU8 g.Src.a2, vU8 g.Src.a3, vU8 g.Src.a4, vU8 g.Src.a5, vI g.Vlan, vU16 g.Type_, vg1]), some (rowS u8S v1 bytes1.1), some (rowS u8S v2 bytes2.1)]) (shr' := [Fact.sl u8S vf1 f.Data, Fact.sl u8S vg1 g.Data]) [4, 5, 9, 10, 11, 12, 62] [0, 1, 2, 3] [0, 1] rfl rfl rfl rfl ?_
            rcases Bool.eq_false_or_eq_true (bytes2.2 != (0 : Int)) with hg19 | hg19
            · replace h := br_t hg19 h
              refine Tk_condT (congrArg (fun b => some (Value.bool b)) hg19) ?_
              refine Tk_seq ?_
              refine Tk_region ?_
              refine Tops_step rfl (OpT_move rfl rfl rfl rfl) ?_
              refine Tops_step rfl (OpT_loadCA (vs := [vU8 f.Dst.a0, vU8 f.Dst.a1, vU8 f.Dst.a2, vU8 f.Dst.a3, vU8 f.Dst.a4, vU8 f.Dst.a5, vU8 f.Src.a0, vU8 f.Src.a1, vU8 f.Src.a2, vU8 f.Src.a3, vU8 f.Src.a4, vU8 f.Src.a5, vI f.Vlan, vU16 f.Type_, vf1]) rfl rfl rfl rfl tyF38 (i := 0) rfl rfl rfl) ?_
              obtain ⟨check7, hx15, h⟩ := ob_e h
              refine Tops_exP rfl (OpT_call (w_frame_Check hx15) [] [0] rfl rfl rfl rfl rfl callee20 rfl rfl rfl rfl) ?_
              rintro _ ⟨_, _, _, ⟨rfl, rfl, rfl⟩, rfl⟩
              refine Tops_step rfl (OpT_bin rfl rfl rfl rfl rfl (bin_eql_i (a := bytes1.2) (b := check7))) ?_
              refine Tops_step rfl (OpT_move rfl rfl rfl rfl) ?_
              obtain ⟨hg20, h⟩ := chk_e h
              refine Tops_yes rfl rfl (congrArg (fun b => some (Value.bool b)) hg20) (OpT_move rfl rfl rfl rfl) ?_
              rintro _ rfl
              refine Tops_yes rfl rfl (congrArg (fun b => some (Value.bool b)) hg20) (OpT_loadCA (vs := [vU8 g.Dst.a0, vU8 g.Dst.a1, vU8 g.Dst.a2, vU8 g.Dst.a3, vU8 g.Dst.a4, vU8 g.Dst.a5, vU8 g.Src.a0, vU8 g.Src.a1, vU8 g.Src.a2, vU8 g.Src.a3, vU8 g.Src.a4, vU8 g.Src.a5, vI g.Vlan, vU16 g.Type_, vg1]) rfl rfl rfl rfl tyF38 (i := 1) rfl rfl rfl) ?_
              rintro _ rfl
              obtain ⟨check8, hx16, h⟩ := ob_e h
              refine Tops_yes rfl rfl (congrArg (fun b => some (Value.bool b)) hg20) (OpT_call (w_frame_Check hx16) [] [1] rfl rfl rfl rfl rfl callee20 rfl rfl rfl rfl) ?_
              rintro _ ⟨_, _, _, ⟨rfl, rfl, rfl⟩, rfl⟩
              refine Tops_yes rfl rfl (congrArg (fun b => some (Value.bool b)) hg20) (OpT_bin rfl rfl rfl rfl rfl (bin_eql_i (a := bytes2.2) (b := check8))) ?_
              rintro _ rfl
              refine Tops_step rfl (OpT_pickT rfl rfl rfl (congrArg (fun b => some (Value.bool b)) hg20) rfl) ?_
              refine Tops_step rfl (OpT_assign rfl rfl rfl rfl) ?_
              refine Tops_nil ?_
              refine Tk_wkS (fr' := [(8, some (vB (bytes2.2 == check8)))]) (own' := []) (shr' := []) [8] [] [] rfl rfl rfl rfl ?_
              obtain ⟨hg21, h⟩ := chk_e h
              exact Tk_retV rfl rfl (resA (vs := [.bool true]) rfl ⟨(congrArg (fun b => some (Value.bool b)) hg21), trivial⟩) [] [] rfl rfl rfl ⟨rfl, rfl, rfl⟩
            · replace h := br_f hg19 h
              refine Tk_condF (congrArg (fun b => some (Value.bool b)) hg19) ?_
              refine Tk_skip ?_
              refine Tk_seq ?_
              refine Tk_drawT (by kernel_rfl) ?_
              refine TA_tb [0, 1, 0, 4, 15, 0, 0, 96, 255, 511, 1023, 2047, 4095, 1023, 9215, 25599, 65535, 131071, 262143, 524287, 1048575, 2097151, 524287, 4718591, 13107199, 33554431, 67108863, 134217727] (by kernel_rfl) fun htb => ?_
              refine TA_wkS (fr' := [(4, some (.pointer (some ⟨b1, 0, none⟩))), (5, some (.pointer (some ⟨b2, 0, none⟩))), (9, some (v1)), (11, some (v2))]) (own' := [some (cellsR b1 38 [vU8 f.Dst.a0, vU8 f.Dst.a1, vU8 f.Dst.a2, vU8 f.Dst.a3, vU8 f.Dst.a4, vU8 f.Dst.a5, vU8 f.Src.a0, vU8 f.Src.a1, vU8 f.Src.a2, vU8 f.Src.a3, vU8 f.Src.a4, vU8 f.Src.a5, vI f.Vlan, vU16 f.Type_, vf1]), some (cellsR b2 38 [vU8 g.Dst.a0, vU8 g.Dst.a1, vU8 g.Dst.a2, vU8 g.Dst.a3, vU8 g.Dst.a4, vU8 g.Dst.a5, vU8 g.Src.a0, vU8 g.Src.a1, vU8 g.Src.a2, vU8 g.Src.a3, vU8 g.Src.a4, vU8 g.Src.a5, vI g.Vlan, vU16 g.Type_, vg1]), some (rowS u8S v1 bytes1.1), some (rowS u8S v2 bytes2.1)]) (shr' := [Fact.sl u8S vf1 f.Data, Fact.sl u8S vg1 g.Data]) [4, 5, 9, 11] [0, 1, 2, 3] [0, 1] rfl rfl rfl rfl ?_
              refine TA_retire (i := 2) rfl ?_
              refine TA_retire (i := 3) rfl ?_
              obtain ⟨same2, hx17, h⟩ := ob_e h
              refine TA_seg (lo := 0) (hi := 8) htb rfl rfl (by kernel_rfl) (fun c L a w => Sat c ⟨[(4, some (.pointer (some ⟨b1, 0, none⟩))), (5, some (.pointer (some ⟨b2, 0, none⟩))), (9, some (v1)), (11, some (v2)), (73, bif L 0 then some (v1) else none), (74, bif L 1 then some (vS bytes1.1) else none), (75, bif L 2 then some (v2) else none), (76, bif L 3 then some (vS bytes2.1) else none), (77, bif L 4 then some (vB (bytes1.1 == bytes2.1)) else none), (78, bif L 5 then some (.agg #[vU8 f.Dst.a0, vU8 f.Dst.a1, vU8 f.Dst.a2, vU8 f.Dst.a3, vU8 f.Dst.a4, vU8 f.Dst.a5, vU8 f.Src.a0, vU8 f.Src.a1, vU8 f.Src.a2, vU8 f.Src.a3, vU8 f.Src.a4, vU8 f.Src.a5, vI f.Vlan, vU16 f.Type_, vf1]) else none), (79, bif L 6 then some (.agg #[vU8 g.Dst.a0, vU8 g.Dst.a1, vU8 g.Dst.a2, vU8 g.Dst.a3, vU8 g.Dst.a4, vU8 g.Dst.a5, vU8 g.Src.a0, vU8 g.Src.a1, vU8 g.Src.a2, vU8 g.Src.a3, vU8 g.Src.a4, vU8 g.Src.a5, vI g.Vlan, vU16 g.Type_, vg1]) else none), (80, bif L 7 then some (vB same2) else none)], [(some (cellsR b1 38 [vU8 f.Dst.a0, vU8 f.Dst.a1, vU8 f.Dst.a2, vU8 f.Dst.a3, vU8 f.Dst.a4, vU8 f.Dst.a5, vU8 f.Src.a0, vU8 f.Src.a1, vU8 f.Src.a2, vU8 f.Src.a3, vU8 f.Src.a4, vU8 f.Src.a5, vI f.Vlan, vU16 f.Type_, vf1]) : Option Res), (some (cellsR b2 38 [vU8 g.Dst.a0, vU8 g.Dst.a1, vU8 g.Dst.a2, vU8 g.Dst.a3, vU8 g.Dst.a4, vU8 g.Dst.a5, vU8 g.Src.a0, vU8 g.Src.a1, vU8 g.Src.a2, vU8 g.Src.a3, vU8 g.Src.a4, vU8 g.Src.a5, vI g.Vlan, vU16 g.Type_, vg1]) : Option Res), (none : Option Res), (none : Option Res)], [Fact.sl u8S vf1 f.Data, Fact.sl u8S vg1 g.Data, Fact.sl u8S v1 bytes1.1, Fact.sl u8S v2 bytes2.1]⟩ a w) [([], [1, 4]), ([0], [4]), ([], [3, 4]), ([2], [4]), ([0, 1, 2, 3], []), ([], [7]), ([], [7]), ([5, 6], [])] rfl (by kernel_rfl) ?_ (steps_cons ?_ (steps_cons ?_ (steps_cons ?_ (steps_cons ?_ (steps_cons ?_ (steps_cons ?_ (steps_cons ?_ (steps_cons ?_ (steps_nil))))))))) ?_
              · intro a w hs
                exact hs.startF [73, 74, 75, 76, 77, 78, 79, 80] [0, 1, 2, 3] [0, 1, 2, 3] rfl rfl rfl rfl
              · intro L a w hv K Q hK
                have hs := hv
                refine wpOp_go rfl rfl hs (OpT_move rfl rfl rfl rfl) ?_
                rintro _ rfl a' w' hs'
                exact hK a' w' (hs'.putF (i := 4) rfl [0, 1, 2, 3] [0, 1, 2, 3] rfl rfl rfl rfl)
              · intro L a w hv K Q hK
                have hs := hv
                refine wpOp_go rfl rfl hs (OpT_strS rfl rfl rfl rfl Try.underlying22 Try.underlying5 Try.underlying9 (i := 2) rfl) ?_
                rintro _ rfl a' w' hs'
                exact hK a' w' (hs'.putF (i := 5) rfl [0, 1, 2, 3] [0, 1, 2, 3] rfl rfl rfl rfl)
              · intro L a w hv K Q hK
                have hs := hv
                refine wpOp_go rfl rfl hs (OpT_move rfl rfl rfl rfl) ?_
                rintro _ rfl a' w' hs'
                exact hK a' w' (hs'.putF (i := 6) rfl [0, 1, 2, 3] [0, 1, 2, 3] rfl rfl rfl rfl)
              · intro L a w hv K Q hK
                have hs := hv
                refine wpOp_go rfl rfl hs (OpT_strS rfl rfl rfl rfl Try.underlying22 Try.underlying5 Try.underlying9 (i := 3) rfl) ?_
                rintro _ rfl a' w' hs'
                exact hK a' w' (hs'.putF (i := 7) rfl [0, 1, 2, 3] [0, 1, 2, 3] rfl rfl rfl rfl)
              · intro L a w hv K Q hK
                have hs := hv
                refine wpOp_go rfl rfl hs (OpT_bin rfl rfl rfl rfl rfl (bin_eql_s (a := bytes1.1) (b := bytes2.1))) ?_
                rintro _ rfl a' w' hs'
                exact hK a' w' (hs'.putF (i := 8) rfl [0, 1, 2, 3] [0, 1, 2, 3] rfl rfl rfl rfl)
              · intro L a w hv K Q hK
                have hs := hv
                refine wpOp_go rfl rfl hs (OpT_loadCA (vs := [vU8 f.Dst.a0, vU8 f.Dst.a1, vU8 f.Dst.a2, vU8 f.Dst.a3, vU8 f.Dst.a4, vU8 f.Dst.a5, vU8 f.Src.a0, vU8 f.Src.a1, vU8 f.Src.a2, vU8 f.Src.a3, vU8 f.Src.a4, vU8 f.Src.a5, vI f.Vlan, vU16 f.Type_, vf1]) rfl rfl rfl rfl tyF38 (i := 0) rfl rfl rfl) ?_
                rintro _ rfl a' w' hs'
                exact hK a' w' (hs'.putF (i := 9) rfl [0, 1, 2, 3] [0, 1, 2, 3] rfl rfl rfl rfl)
              · intro L a w hv K Q hK
                have hs := hv
                refine wpOp_go rfl rfl hs (OpT_loadCA (vs := [vU8 g.Dst.a0, vU8 g.Dst.a1, vU8 g.Dst.a2, vU8 g.Dst.a3, vU8 g.Dst.a4, vU8 g.Dst.a5, vU8 g.Src.a0, vU8 g.Src.a1, vU8 g.Src.a2, vU8 g.Src.a3, vU8 g.Src.a4, vU8 g.Src.a5, vI g.Vlan, vU16 g.Type_, vg1]) rfl rfl rfl rfl tyF38 (i := 1) rfl rfl rfl) ?_
                rintro _ rfl a' w' hs'
                exact hK a' w' (hs'.putF (i := 10) rfl [0, 1, 2, 3] [0, 1, 2, 3] rfl rfl rfl rfl)
              · intro L a w hv K Q hK
                have hs := hv
                refine wpOp_go rfl rfl hs (OpT_call (w_frame_Same hx17) [] [0, 1] rfl rfl rfl rfl rfl callee21 rfl rfl rfl rfl) ?_
                rintro _ ⟨_, _, _, ⟨rfl, rfl, rfl⟩, rfl⟩ a' w' hs'
                exact hK a' w' (hs'.putF (i := 11) rfl [0, 1, 2, 3] [0, 1, 2, 3] rfl rfl rfl rfl)
              · intro L a w hL hv
                rw [allTrue hL] at hv
                have hs := hv
                refine (show TA _ _ _ 8 ⟨[(4, some (.pointer (some ⟨b1, 0, none⟩))), (9, some (v1)), (77, some (vB (bytes1.1 == bytes2.1))), (80, some (vB same2))], [some (cellsR b1 38 [vU8 f.Dst.a0, vU8 f.Dst.a1, vU8 f.Dst.a2, vU8 f.Dst.a3, vU8 f.Dst.a4, vU8 f.Dst.a5, vU8 f.Src.a0, vU8 f.Src.a1, vU8 f.Src.a2, vU8 f.Src.a3, vU8 f.Src.a4, vU8 f.Src.a5, vI f.Vlan, vU16 f.Type_, vf1])], [Fact.sl u8S vf1 f.Data, Fact.sl u8S v1 bytes1.1]⟩ from ?_) a w (hs.wkS [4, 9, 77, 80] [0] [0, 2] rfl rfl rfl rfl)
                clear hs hL
                refine TA_step htb (by kernel_rfl) rfl rfl (OpT_bin rfl rfl rfl rfl rfl (bin_eql_b (a := bytes1.1 == bytes2.1) (b := same2) Try.underlying4)) ?_
                refine TA_step htb (by kernel_rfl) rfl rfl (OpT_move rfl rfl rfl rfl) ?_
                refine TA_wkS (fr' := [(4, some (.pointer (some ⟨b1, 0, none⟩))), (9, some (v1)), (82, some (vB ((bytes1.1 == bytes2.1) == same2)))]) (own' := [some (cellsR b1 38 [vU8 f.Dst.a0, vU8 f.Dst.a1, vU8 f.Dst.a2, vU8 f.Dst.a3, vU8 f.Dst.a4, vU8 f.Dst.a5, vU8 f.Src.a0, vU8 f.Src.a1, vU8 f.Src.a2, vU8 f.Src.a3, vU8 f.Src.a4, vU8 f.Src.a5, vI f.Vlan, vU16 f.Type_, vf1])]) (shr' := [Fact.sl u8S vf1 f.Data, Fact.sl u8S v1 bytes1.1]) [4, 9, 82] [0] [0, 1] rfl rfl rfl rfl ?_
                refine TA_vs (vs_retireP FrameS (x := f) (i := 0) rfl (rel_s1 (i := 0) rfl rfl rfl)) ?_
                obtain ⟨hg22, h⟩ := chk_e h
                obtain ⟨hc3, h⟩ := chk_e h
                refine TA_seg (lo := 10) (hi := 16) htb rfl rfl (by kernel_rfl) (fun c L a w => ∃ (v9 : Value), ∃ (p3 : Value), ∃ (v10 : Value), Sat c ⟨[(4, some (.pointer (some ⟨b1, 0, none⟩))), (9, some (v1)), (82, some (vB ((bytes1.1 == bytes2.1) == same2))), (83, bif L 10 then some (v1) else none), (84, bif L 11 then some (v9) else none), (85, bif L 12 then some (vS (sub bytes1.1 (0 : Int) (6 : Int))) else none), (86, bif L 13 then some (p3) else none), (87, bif L 14 then some (v10) else none), (88, bif L 15 then some (vS [f.Dst.a0, f.Dst.a1, f.Dst.a2, f.Dst.a3, f.Dst.a4, f.Dst.a5]) else none)], [(none : Option Res)], [Fact.sl u8S vf1 f.Data, Fact.sl u8S v1 bytes1.1, Fact.pt FrameS (.pointer (some ⟨b1, 0, none⟩)) f, (bif L 11 then Fact.sl u8S v9 (sub bytes1.1 (0 : Int) (6 : Int)) else Fact.tt), (bif L 13 then Fact.pt a6UInt8S p3 f.Dst else Fact.tt), (bif L 14 then Fact.sl u8S v10 [f.Dst.a0, f.Dst.a1, f.Dst.a2, f.Dst.a3, f.Dst.a4, f.Dst.a5] else Fact.tt)]⟩ a w) [([], [11, 12]), ([10], [12]), ([10, 11], []), ([], [14, 15]), ([13], [15]), ([13, 14], [])] rfl (by kernel_rfl) ?_ (steps_cons ?_ (steps_cons ?_ (steps_cons ?_ (steps_cons ?_ (steps_cons ?_ (steps_cons ?_ (steps_nil))))))) ?_
                · intro a w hs
                  exact ⟨undef, undef, undef, hs.startF [83, 84, 85, 86, 87, 88] [0] [0, 1, 2, 3, 4, 5] rfl rfl rfl rfl⟩
                · intro L a w hv K Q hK
                  obtain ⟨v9, p3, v10, hs⟩ := hv
                  refine wpOp_yes rfl rfl rfl hs (congrArg (fun b => some (Value.bool b)) hg22) (OpT_move rfl rfl rfl rfl) ?_
                  rintro _ rfl a' w' hs'
                  exact hK a' w' ⟨v9, p3, v10, hs'.putF (i := 3) rfl [0] [0, 1, 2, 3, 4, 5] rfl rfl rfl rfl⟩
                · intro L a w hv K Q hK
                  obtain ⟨v9, p3, v10, hs⟩ := hv
                  refine wpOp_yes rfl rfl rfl hs (congrArg (fun b => some (Value.bool b)) hg22) (OpT_sliceH (m := (6 : Int)) rfl rfl rfl rfl rfl slF22 (i := 1) rfl hc3) ?_
                  rintro _ ⟨v9', rfl⟩ a' w' hs'
                  exact hK a' w' ⟨v9', p3, v10, hs'.putF (i := 4) rfl [0] [0, 1, 2, 6, 4, 5] rfl rfl rfl rfl⟩
                · intro L a w hv K Q hK
                  obtain ⟨v9, p3, v10, hs⟩ := hv
                  refine wpOp_yes rfl rfl rfl hs (congrArg (fun b => some (Value.bool b)) hg22) (OpT_strS rfl rfl rfl rfl Try.underlying22 Try.underlying5 Try.underlying9 (i := 3) rfl) ?_
                  rintro _ rfl a' w' hs'
                  exact hK a' w' ⟨v9, p3, v10, hs'.putF (i := 5) rfl [0] [0, 1, 2, 3, 4, 5] rfl rfl rfl rfl⟩
                · intro L a w hv K Q hK
                  obtain ⟨v9, p3, v10, hs⟩ := hv
                  refine wpOp_yes rfl rfl rfl hs (congrArg (fun b => some (Value.bool b)) hg22) (OpT_fieldP (S' := a6UInt8S) (y := f.Dst) rfl rfl rfl rfl fldF38x0 (i := 2) rfl (by intro h cs hr; obtain ⟨v, rfl, _⟩ := hr; rfl)) ?_
                  rintro _ ⟨p3', rfl⟩ a' w' hs'
                  exact hK a' w' ⟨v9, p3', v10, hs'.putF (i := 6) rfl [0] [0, 1, 2, 3, 6, 5] rfl rfl rfl rfl⟩
                · intro L a w hv K Q hK
                  obtain ⟨v9, p3, v10, hs⟩ := hv
                  refine wpOp_yes rfl rfl rfl hs (congrArg (fun b => some (Value.bool b)) hg22) (OpT_sliceArrP u8S rfl (xs := [f.Dst.a0, f.Dst.a1, f.Dst.a2, f.Dst.a3, f.Dst.a4, f.Dst.a5]) rfl rfl rfl rfl arrF36 (i := 4) rfl (fun _ _ h => h) rfl rfl) ?_
                  rintro _ ⟨v10', rfl⟩ a' w' hs'
                  exact hK a' w' ⟨v9, p3, v10', hs'.putF (i := 7) rfl [0] [0, 1, 2, 3, 4, 6] rfl rfl rfl rfl⟩
                · intro L a w hv K Q hK
                  obtain ⟨v9, p3, v10, hs⟩ := hv
                  refine wpOp_yes rfl rfl rfl hs (congrArg (fun b => some (Value.bool b)) hg22) (OpT_strS rfl rfl rfl rfl Try.underlying22 Try.underlying5 Try.underlying9 (i := 5) rfl) ?_
                  rintro _ rfl a' w' hs'
                  exact hK a' w' ⟨v9, p3, v10, hs'.putF (i := 8) rfl [0] [0, 1, 2, 3, 4, 5] rfl rfl rfl rfl⟩
                · intro L a w hL hv
                  rw [allTrue hL] at hv
                  obtain ⟨v9, p3, v10, hs⟩ := hv
                  refine (show TA _ _ _ 16 ⟨[(4, some (.pointer (some ⟨b1, 0, none⟩))), (9, some (v1)), (82, some (vB ((bytes1.1 == bytes2.1) == same2))), (85, some (vS (sub bytes1.1 (0 : Int) (6 : Int)))), (88, some (vS [f.Dst.a0, f.Dst.a1, f.Dst.a2, f.Dst.a3, f.Dst.a4, f.Dst.a5]))], [], [Fact.sl u8S v1 bytes1.1, Fact.pt FrameS (.pointer (some ⟨b1, 0, none⟩)) f]⟩ from ?_) a w (hs.wkS [4, 9, 82, 85, 88] [] [1, 2] rfl rfl rfl rfl)
                  clear hs hL
                  refine TA_yes htb (by kernel_rfl) rfl rfl rfl (congrArg (fun b => some (Value.bool b)) hg22) (OpT_bin rfl rfl rfl rfl rfl (bin_eql_s (a := sub bytes1.1 (0 : Int) (6 : Int)) (b := [f.Dst.a0, f.Dst.a1, f.Dst.a2, f.Dst.a3, f.Dst.a4, f.Dst.a5]))) ?_
                  rintro _ rfl
                  refine TA_step htb (by kernel_rfl) rfl rfl (OpT_pickT rfl rfl rfl (congrArg (fun b => some (Value.bool b)) hg22) rfl) ?_
                  refine TA_step htb (by kernel_rfl) rfl rfl (OpT_move rfl rfl rfl rfl) ?_
                  refine TA_wkS (fr' := [(4, some (.pointer (some ⟨b1, 0, none⟩))), (9, some (v1)), (91, some (vB ((sub bytes1.1 (0 : Int) (6 : Int)) == [f.Dst.a0, f.Dst.a1, f.Dst.a2, f.Dst.a3, f.Dst.a4, f.Dst.a5])))]) (own' := []) (shr' := [Fact.sl u8S v1 bytes1.1, Fact.pt FrameS (.pointer (some ⟨b1, 0, none⟩)) f]) [4, 9, 91] [] [0, 1] rfl rfl rfl rfl ?_
                  obtain ⟨hg23, h⟩ := chk_e h
                  obtain ⟨hc4, h⟩ := chk_e h
                  refine TA_seg (lo := 19) (hi := 25) htb rfl rfl (by kernel_rfl) (fun c L a w => ∃ (v11 : Value), ∃ (p4 : Value), ∃ (v12 : Value), Sat c ⟨[(4, some (.pointer (some ⟨b1, 0, none⟩))), (9, some (v1)), (91, some (vB ((sub bytes1.1 (0 : Int) (6 : Int)) == [f.Dst.a0, f.Dst.a1, f.Dst.a2, f.Dst.a3, f.Dst.a4, f.Dst.a5]))), (92, bif L 19 then some (v1) else none), (93, bif L 20 then some (v11) else none), (94, bif L 21 then some (vS (sub bytes1.1 (6 : Int) (12 : Int))) else none), (95, bif L 22 then some (p4) else none), (96, bif L 23 then some (v12) else none), (97, bif L 24 then some (vS [f.Src.a0, f.Src.a1, f.Src.a2, f.Src.a3, f.Src.a4, f.Src.a5]) else none)], [], [Fact.sl u8S v1 bytes1.1, Fact.pt FrameS (.pointer (some ⟨b1, 0, none⟩)) f, (bif L 20 then Fact.sl u8S v11 (sub bytes1.1 (6 : Int) (12 : Int)) else Fact.tt), (bif L 22 then Fact.pt a6UInt8S p4 f.Src else Fact.tt), (bif L 23 then Fact.sl u8S v12 [f.Src.a0, f.Src.a1, f.Src.a2, f.Src.a3, f.Src.a4, f.Src.a5] else Fact.tt)]⟩ a w) [([], [20, 21]), ([19], [21]), ([19, 20], []), ([], [23, 24]), ([22], [24]), ([22, 23], [])] rfl (by kernel_rfl) ?_ (steps_cons ?_ (steps_cons ?_ (steps_cons ?_ (steps_cons ?_ (steps_cons ?_ (steps_cons ?_ (steps_nil))))))) ?_
                  · intro a w hs
                    exact ⟨undef, undef, undef, hs.startF [92, 93, 94, 95, 96, 97] [] [0, 1, 2, 3, 4] rfl rfl rfl rfl⟩
                  · intro L a w hv K Q hK
                    obtain ⟨v11, p4, v12, hs⟩ := hv
                    refine wpOp_yes rfl rfl rfl hs (congrArg (fun b => some (Value.bool b)) hg23) (OpT_move rfl rfl rfl rfl) ?_
                    rintro _ rfl a' w' hs'
                    exact hK a' w' ⟨v11, p4, v12, hs'.putF (i := 3) rfl [] [0, 1, 2, 3, 4] rfl rfl rfl rfl⟩
                  · intro L a w hv K Q hK
                    obtain ⟨v11, p4, v12, hs⟩ := hv
                    refine wpOp_yes rfl rfl rfl hs (congrArg (fun b => some (Value.bool b)) hg23) (OpT_sliceLH (l := (6 : Int)) (m := (12 : Int)) rfl rfl rfl rfl rfl rfl slF22 (i := 0) rfl hc4) ?_
                    rintro _ ⟨v11', rfl⟩ a' w' hs'
                    exact hK a' w' ⟨v11', p4, v12, hs'.putF (i := 4) rfl [] [0, 1, 5, 3, 4] rfl rfl rfl rfl⟩
                  · intro L a w hv K Q hK
                    obtain ⟨v11, p4, v12, hs⟩ := hv
                    refine wpOp_yes rfl rfl rfl hs (congrArg (fun b => some (Value.bool b)) hg23) (OpT_strS rfl rfl rfl rfl Try.underlying22 Try.underlying5 Try.underlying9 (i := 2) rfl) ?_
                    rintro _ rfl a' w' hs'
                    exact hK a' w' ⟨v11, p4, v12, hs'.putF (i := 5) rfl [] [0, 1, 2, 3, 4] rfl rfl rfl rfl⟩
                  · intro L a w hv K Q hK
                    obtain ⟨v11, p4, v12, hs⟩ := hv
                    refine wpOp_yes rfl rfl rfl hs (congrArg (fun b => some (Value.bool b)) hg23) (OpT_fieldP (S' := a6UInt8S) (y := f.Src) rfl rfl rfl rfl fldF38x1 (i := 1) rfl (by intro h cs hr; obtain ⟨v, rfl, _⟩ := hr; rfl)) ?_
                    rintro _ ⟨p4', rfl⟩ a' w' hs'
                    exact hK a' w' ⟨v11, p4', v12, hs'.putF (i := 6) rfl [] [0, 1, 2, 5, 4] rfl rfl rfl rfl⟩
                  · intro L a w hv K Q hK
                    obtain ⟨v11, p4, v12, hs⟩ := hv
                    refine wpOp_yes rfl rfl rfl hs (congrArg (fun b => some (Value.bool b)) hg23) (OpT_sliceArrP u8S rfl (xs := [f.Src.a0, f.Src.a1, f.Src.a2, f.Src.a3, f.Src.a4, f.Src.a5]) rfl rfl rfl rfl arrF36 (i := 3) rfl (fun _ _ h => h) rfl rfl) ?_
                    rintro _ ⟨v12', rfl⟩ a' w' hs'
                    exact hK a' w' ⟨v11, p4, v12', hs'.putF (i := 7) rfl [] [0, 1, 2, 3, 5] rfl rfl rfl rfl⟩
                  · intro L a w hv K Q hK
                    obtain ⟨v11, p4, v12, hs⟩ := hv
                    refine wpOp_yes rfl rfl rfl hs (congrArg (fun b => some (Value.bool b)) hg23) (OpT_strS rfl rfl rfl rfl Try.underlying22 Try.underlying5 Try.underlying9 (i := 4) rfl) ?_
                    rintro _ rfl a' w' hs'
                    exact hK a' w' ⟨v11, p4, v12, hs'.putF (i := 8) rfl [] [0, 1, 2, 3, 4] rfl rfl rfl rfl⟩
                  · intro L a w hL hv
                    rw [allTrue hL] at hv
                    obtain ⟨v11, p4, v12, hs⟩ := hv
                    refine (show TA _ _ _ 25 ⟨[(91, some (vB ((sub bytes1.1 (0 : Int) (6 : Int)) == [f.Dst.a0, f.Dst.a1, f.Dst.a2, f.Dst.a3, f.Dst.a4, f.Dst.a5]))), (94, some (vS (sub bytes1.1 (6 : Int) (12 : Int)))), (97, some (vS [f.Src.a0, f.Src.a1, f.Src.a2, f.Src.a3, f.Src.a4, f.Src.a5]))], [], []⟩ from ?_) a w (hs.wkS [91, 94, 97] [] [] rfl rfl rfl rfl)
                    clear hs hL
                    refine TA_yes htb (by kernel_rfl) rfl rfl rfl (congrArg (fun b => some (Value.bool b)) hg23) (OpT_bin rfl rfl rfl rfl rfl (bin_eql_s (a := sub bytes1.1 (6 : Int) (12 : Int)) (b := [f.Src.a0, f.Src.a1, f.Src.a2, f.Src.a3, f.Src.a4, f.Src.a5]))) ?_
                    rintro _ rfl
                    refine TA_step htb (by kernel_rfl) rfl rfl (OpT_pickT rfl rfl rfl (congrArg (fun b => some (Value.bool b)) hg23) rfl) ?_
                    refine TA_step htb (by kernel_rfl) rfl rfl (OpT_assign rfl rfl rfl rfl) ?_
                    refine TA_end rfl ?_
                    refine Tk_wkS (fr' := [(8, some (vB ((sub bytes1.1 (6 : Int) (12 : Int)) == [f.Src.a0, f.Src.a1, f.Src.a2, f.Src.a3, f.Src.a4, f.Src.a5])))]) (own' := []) (shr' := []) [8] [] [] rfl rfl rfl rfl ?_
                    obtain ⟨hg24, h⟩ := chk_e h
                    exact Tk_retV rfl rfl (resA (vs := [.bool true]) rfl ⟨(congrArg (fun b => some (Value.bool b)) hg24), trivial⟩) [] [] rfl rfl rfl ⟨rfl, rfl, rfl⟩
end Go.Proofs.Ytgpggnhifkkfbaa
