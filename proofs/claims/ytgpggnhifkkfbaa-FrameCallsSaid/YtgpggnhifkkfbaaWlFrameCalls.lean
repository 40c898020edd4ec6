/- The law FrameCalls is walked: it returns what its plain words say. No condition. -/
import Derived.Test.YtgpggnhifkkfbaaWa3
namespace Go.Proofs.Ytgpggnhifkkfbaa

set_option maxRecDepth 100000 in
set_option maxHeartbeats 4000000 in
theorem w_law23zFrameCalls {f : Frame} {g : Frame} {hp2 : Hdr} {b : List UInt8} {vf1 : Value} {vg1 : Value} {vb1 : Value}  (h : law23zFrameCalls f g hp2 b = some true) :
    Ctr Try.prog 9 #[.agg #[vU8 f.Dst.a0, vU8 f.Dst.a1, vU8 f.Dst.a2, vU8 f.Dst.a3, vU8 f.Dst.a4, vU8 f.Dst.a5, vU8 f.Src.a0, vU8 f.Src.a1, vU8 f.Src.a2, vU8 f.Src.a3, vU8 f.Src.a4, vU8 f.Src.a5, vI f.Vlan, vU16 f.Type_, vf1], .agg #[vU8 g.Dst.a0, vU8 g.Dst.a1, vU8 g.Dst.a2, vU8 g.Dst.a3, vU8 g.Dst.a4, vU8 g.Dst.a5, vU8 g.Src.a0, vU8 g.Src.a1, vU8 g.Src.a2, vU8 g.Src.a3, vU8 g.Src.a4, vU8 g.Src.a5, vI g.Vlan, vU16 g.Type_, vg1], .agg #[vU8 hp2.Flags, vU16 hp2.Start, vU16 hp2.Off, vU16 hp2.Buffers], vb1] [] [Fact.sl u8S vf1 f.Data, Fact.sl u8S vg1 g.Data, Fact.sl u8S vb1 b]
      (fun rv own shr => rv = .bool true ∧ own = [] ∧ shr = []) := by
  unfold law23zFrameCalls at h
  refine Ctr.mk (args := [.agg #[vU8 f.Dst.a0, vU8 f.Dst.a1, vU8 f.Dst.a2, vU8 f.Dst.a3, vU8 f.Dst.a4, vU8 f.Dst.a5, vU8 f.Src.a0, vU8 f.Src.a1, vU8 f.Src.a2, vU8 f.Src.a3, vU8 f.Src.a4, vU8 f.Src.a5, vI f.Vlan, vU16 f.Type_, vf1], .agg #[vU8 g.Dst.a0, vU8 g.Dst.a1, vU8 g.Dst.a2, vU8 g.Dst.a3, vU8 g.Dst.a4, vU8 g.Dst.a5, vU8 g.Src.a0, vU8 g.Src.a1, vU8 g.Src.a2, vU8 g.Src.a3, vU8 g.Src.a4, vU8 g.Src.a5, vI g.Vlan, vU16 g.Type_, vg1], .agg #[vU8 hp2.Flags, vU16 hp2.Start, vU16 hp2.Off, vU16 hp2.Buffers], vb1]) Try.func9 rfl rfl (fun R0 w0 B => ?_)
  refine Tk_seq ?_
  refine Tk_region ?_
  refine Tops_ex rfl (OpT_box rfl rfl rfl rfl) fun b1 => ?_
  refine Tops_ex rfl (OpT_box rfl rfl rfl rfl) fun b2 => ?_
  refine Tops_ex rfl (OpT_box rfl rfl rfl rfl) fun b3 => ?_
  refine Tops_step rfl (OpT_assign rfl rfl rfl rfl) ?_
  refine Tops_nil ?_
  refine Tk_wkS (fr' := [(3, some (vb1)), (4, some (.pointer (some ⟨b1, 0, none⟩))), (5, some (.pointer (some ⟨b2, 0, none⟩))), (6, some (.pointer (some ⟨b3, 0, none⟩)))]) (own' := [some (cellsR b1 38 [vU8 f.Dst.a0, vU8 f.Dst.a1, vU8 f.Dst.a2, vU8 f.Dst.a3, vU8 f.Dst.a4, vU8 f.Dst.a5, vU8 f.Src.a0, vU8 f.Src.a1, vU8 f.Src.a2, vU8 f.Src.a3, vU8 f.Src.a4, vU8 f.Src.a5, vI f.Vlan, vU16 f.Type_, vf1]), some (cellsR b2 38 [vU8 g.Dst.a0, vU8 g.Dst.a1, vU8 g.Dst.a2, vU8 g.Dst.a3, vU8 g.Dst.a4, vU8 g.Dst.a5, vU8 g.Src.a0, vU8 g.Src.a1, vU8 g.Src.a2, vU8 g.Src.a3, vU8 g.Src.a4, vU8 g.Src.a5, vI g.Vlan, vU16 g.Type_, vg1]), some (cellsR b3 34 [vU8 hp2.Flags, vU16 hp2.Start, vU16 hp2.Off, vU16 hp2.Buffers])]) (shr' := [Fact.sl u8S vf1 f.Data, Fact.sl u8S vg1 g.Data, Fact.sl u8S vb1 b]) [3, 4, 5, 6] [0, 1, 2] [0, 1, 2] rfl rfl rfl rfl ?_
  refine Tk_seq ?_
  refine Tk_seq ?_
  refine Tk_region ?_
  obtain ⟨lives1, hx1, h⟩ := ob_e h
  refine Tops_exP rfl (OpT_call (w_law23zlives hx1) [] [] rfl rfl rfl rfl rfl callee11 rfl rfl rfl rfl) ?_
  rintro _ ⟨_, _, _, ⟨rfl, rfl, rfl⟩, rfl⟩
  refine Tops_step rfl (OpT_not rfl rfl rfl rfl) ?_
  refine Tops_nil ?_
  refine Tk_wkS (fr' := [(3, some (vb1)), (4, some (.pointer (some ⟨b1, 0, none⟩))), (5, some (.pointer (some ⟨b2, 0, none⟩))), (6, some (.pointer (some ⟨b3, 0, none⟩))), (22, some (vB (!lives1)))]) (own' := [some (cellsR b1 38 [vU8 f.Dst.a0, vU8 f.Dst.a1, vU8 f.Dst.a2, vU8 f.Dst.a3, vU8 f.Dst.a4, vU8 f.Dst.a5, vU8 f.Src.a0, vU8 f.Src.a1, vU8 f.Src.a2, vU8 f.Src.a3, vU8 f.Src.a4, vU8 f.Src.a5, vI f.Vlan, vU16 f.Type_, vf1]), some (cellsR b2 38 [vU8 g.Dst.a0, vU8 g.Dst.a1, vU8 g.Dst.a2, vU8 g.Dst.a3, vU8 g.Dst.a4, vU8 g.Dst.a5, vU8 g.Src.a0, vU8 g.Src.a1, vU8 g.Src.a2, vU8 g.Src.a3, vU8 g.Src.a4, vU8 g.Src.a5, vI g.Vlan, vU16 g.Type_, vg1]), some (cellsR b3 34 [vU8 hp2.Flags, vU16 hp2.Start, vU16 hp2.Off, vU16 hp2.Buffers])]) (shr' := [Fact.sl u8S vf1 f.Data, Fact.sl u8S vg1 g.Data, Fact.sl u8S vb1 b]) [3, 4, 5, 6, 22] [0, 1, 2] [0, 1, 2] rfl rfl rfl rfl ?_
  obtain ⟨hg1, h⟩ := chk_e h
  replace hg1 := not_t hg1
  refine Tk_condF (congrArg (fun b => some (Value.bool b)) hg1) ?_
  refine Tk_skip ?_
  refine Tk_seq ?_
  refine Tk_seq ?_
  refine Tk_region ?_
  refine Tops_step rfl (OpT_fieldC rfl rfl rfl rfl fldF38x4) ?_
  refine Tops_step rfl (OpT_loadC rfl rfl rfl rfl tyF22 (i := 0) rfl rfl) ?_
  refine Tops_step rfl (OpT_lenS rfl rfl rfl rfl Try.underlying22 (i := 0) rfl) ?_
  refine Tops_step rfl (OpT_bin rfl rfl rfl rfl rfl (bin_gtr_i (a := len f.Data) (b := (3000 : Int)))) ?_
  refine Tops_step rfl (OpT_move rfl rfl rfl rfl) ?_
  rcases Bool.eq_false_or_eq_true (decide ((len f.Data) > (3000 : Int))) with hg2 | hg2
  · replace h := br_t hg2 h
    refine Tops_no rfl rfl (congrArg (fun b => some (Value.bool b)) hg2) rfl rfl ?_
    refine Tops_no rfl rfl (congrArg (fun b => some (Value.bool b)) hg2) rfl rfl ?_
    refine Tops_no rfl rfl (congrArg (fun b => some (Value.bool b)) hg2) rfl rfl ?_
    refine Tops_no rfl rfl (congrArg (fun b => some (Value.bool b)) hg2) rfl rfl ?_
    refine Tops_step rfl (OpT_pickT rfl rfl rfl (congrArg (fun b => some (Value.bool b)) hg2) rfl) ?_
    refine Tops_step rfl (OpT_move rfl rfl rfl rfl) ?_
    refine Tops_no rfl rfl rfl rfl rfl ?_
    refine Tops_no rfl rfl rfl rfl rfl ?_
    refine Tops_no rfl rfl rfl rfl rfl ?_
    refine Tops_step rfl (OpT_pickT rfl rfl rfl rfl rfl) ?_
    refine Tops_nil ?_
    refine Tk_wkS (fr' := [(3, some (vb1)), (4, some (.pointer (some ⟨b1, 0, none⟩))), (5, some (.pointer (some ⟨b2, 0, none⟩))), (6, some (.pointer (some ⟨b3, 0, none⟩))), (37, some (vB true))]) (own' := [some (cellsR b1 38 [vU8 f.Dst.a0, vU8 f.Dst.a1, vU8 f.Dst.a2, vU8 f.Dst.a3, vU8 f.Dst.a4, vU8 f.Dst.a5, vU8 f.Src.a0, vU8 f.Src.a1, vU8 f.Src.a2, vU8 f.Src.a3, vU8 f.Src.a4, vU8 f.Src.a5, vI f.Vlan, vU16 f.Type_, vf1]), some (cellsR b2 38 [vU8 g.Dst.a0, vU8 g.Dst.a1, vU8 g.Dst.a2, vU8 g.Dst.a3, vU8 g.Dst.a4, vU8 g.Dst.a5, vU8 g.Src.a0, vU8 g.Src.a1, vU8 g.Src.a2, vU8 g.Src.a3, vU8 g.Src.a4, vU8 g.Src.a5, vI g.Vlan, vU16 g.Type_, vg1]), some (cellsR b3 34 [vU8 hp2.Flags, vU16 hp2.Start, vU16 hp2.Off, vU16 hp2.Buffers])]) (shr' := [Fact.sl u8S vf1 f.Data, Fact.sl u8S vg1 g.Data, Fact.sl u8S vb1 b]) [3, 4, 5, 6, 37] [0, 1, 2] [0, 1, 2] rfl rfl rfl rfl ?_
    refine Tk_condT rfl ?_
    refine Tk_seq ?_
    refine Tk_region ?_
    refine Tops_step rfl (OpT_assign rfl rfl rfl rfl) ?_
    refine Tops_nil ?_
    refine Tk_wkS (fr' := [(8, some (vB true))]) (own' := []) (shr' := []) [8] [] [] rfl rfl rfl rfl ?_
    exact Tk_retV rfl rfl (resA (vs := [.bool true]) rfl ⟨rfl, trivial⟩) [] [] rfl rfl rfl ⟨rfl, rfl, rfl⟩
  · replace h := br_f hg2 h
    refine Tops_yes rfl rfl (congrArg (fun b => some (Value.bool b)) hg2) (OpT_fieldC rfl rfl rfl rfl fldF38x4) ?_
    rintro _ rfl
    refine Tops_yes rfl rfl (congrArg (fun b => some (Value.bool b)) hg2) (OpT_loadC rfl rfl rfl rfl tyF22 (i := 1) rfl rfl) ?_
    rintro _ rfl
    refine Tops_yes rfl rfl (congrArg (fun b => some (Value.bool b)) hg2) (OpT_lenS rfl rfl rfl rfl Try.underlying22 (i := 1) rfl) ?_
    rintro _ rfl
    refine Tops_yes rfl rfl (congrArg (fun b => some (Value.bool b)) hg2) (OpT_bin rfl rfl rfl rfl rfl (bin_gtr_i (a := len g.Data) (b := (3000 : Int)))) ?_
    rintro _ rfl
    refine Tops_step rfl (OpT_pickF rfl rfl rfl (congrArg (fun b => some (Value.bool b)) hg2) rfl) ?_
    refine Tops_step rfl (OpT_move rfl rfl rfl rfl) ?_
    rcases Bool.eq_false_or_eq_true (decide ((len g.Data) > (3000 : Int))) with hg3 | hg3
    · replace h := br_t hg3 h
      refine Tops_no rfl rfl (congrArg (fun b => some (Value.bool b)) hg3) rfl rfl ?_
      refine Tops_no rfl rfl (congrArg (fun b => some (Value.bool b)) hg3) rfl rfl ?_
      refine Tops_no rfl rfl (congrArg (fun b => some (Value.bool b)) hg3) rfl rfl ?_
      refine Tops_step rfl (OpT_pickT rfl rfl rfl (congrArg (fun b => some (Value.bool b)) hg3) rfl) ?_
      refine Tops_nil ?_
      refine Tk_wkS (fr' := [(3, some (vb1)), (4, some (.pointer (some ⟨b1, 0, none⟩))), (5, some (.pointer (some ⟨b2, 0, none⟩))), (6, some (.pointer (some ⟨b3, 0, none⟩))), (37, some (vB true))]) (own' := [some (cellsR b1 38 [vU8 f.Dst.a0, vU8 f.Dst.a1, vU8 f.Dst.a2, vU8 f.Dst.a3, vU8 f.Dst.a4, vU8 f.Dst.a5, vU8 f.Src.a0, vU8 f.Src.a1, vU8 f.Src.a2, vU8 f.Src.a3, vU8 f.Src.a4, vU8 f.Src.a5, vI f.Vlan, vU16 f.Type_, vf1]), some (cellsR b2 38 [vU8 g.Dst.a0, vU8 g.Dst.a1, vU8 g.Dst.a2, vU8 g.Dst.a3, vU8 g.Dst.a4, vU8 g.Dst.a5, vU8 g.Src.a0, vU8 g.Src.a1, vU8 g.Src.a2, vU8 g.Src.a3, vU8 g.Src.a4, vU8 g.Src.a5, vI g.Vlan, vU16 g.Type_, vg1]), some (cellsR b3 34 [vU8 hp2.Flags, vU16 hp2.Start, vU16 hp2.Off, vU16 hp2.Buffers])]) (shr' := [Fact.sl u8S vf1 f.Data, Fact.sl u8S vg1 g.Data, Fact.sl u8S vb1 b]) [3, 4, 5, 6, 37] [0, 1, 2] [0, 1, 2] rfl rfl rfl rfl ?_
      refine Tk_condT rfl ?_
      refine Tk_seq ?_
      refine Tk_region ?_
      refine Tops_step rfl (OpT_assign rfl rfl rfl rfl) ?_
      refine Tops_nil ?_
      refine Tk_wkS (fr' := [(8, some (vB true))]) (own' := []) (shr' := []) [8] [] [] rfl rfl rfl rfl ?_
      exact Tk_retV rfl rfl (resA (vs := [.bool true]) rfl ⟨rfl, trivial⟩) [] [] rfl rfl rfl ⟨rfl, rfl, rfl⟩
    · replace h := br_f hg3 h
      refine Tops_yes rfl rfl (congrArg (fun b => some (Value.bool b)) hg3) (OpT_move rfl rfl rfl rfl) ?_
      rintro _ rfl
      refine Tops_yes rfl rfl (congrArg (fun b => some (Value.bool b)) hg3) (OpT_lenS rfl rfl rfl rfl Try.underlying22 (i := 2) rfl) ?_
      rintro _ rfl
      refine Tops_yes rfl rfl (congrArg (fun b => some (Value.bool b)) hg3) (OpT_bin rfl rfl rfl rfl rfl (bin_gtr_i (a := len b) (b := (3000 : Int)))) ?_
      rintro _ rfl
      refine Tops_step rfl (OpT_pickF rfl rfl rfl (congrArg (fun b => some (Value.bool b)) hg3) rfl) ?_
      refine Tops_nil ?_
      refine Tk_wkS (fr' := [(3, some (vb1)), (4, some (.pointer (some ⟨b1, 0, none⟩))), (5, some (.pointer (some ⟨b2, 0, none⟩))), (6, some (.pointer (some ⟨b3, 0, none⟩))), (37, some (vB (decide ((len b) > (3000 : Int)))))]) (own' := [some (cellsR b1 38 [vU8 f.Dst.a0, vU8 f.Dst.a1, vU8 f.Dst.a2, vU8 f.Dst.a3, vU8 f.Dst.a4, vU8 f.Dst.a5, vU8 f.Src.a0, vU8 f.Src.a1, vU8 f.Src.a2, vU8 f.Src.a3, vU8 f.Src.a4, vU8 f.Src.a5, vI f.Vlan, vU16 f.Type_, vf1]), some (cellsR b2 38 [vU8 g.Dst.a0, vU8 g.Dst.a1, vU8 g.Dst.a2, vU8 g.Dst.a3, vU8 g.Dst.a4, vU8 g.Dst.a5, vU8 g.Src.a0, vU8 g.Src.a1, vU8 g.Src.a2, vU8 g.Src.a3, vU8 g.Src.a4, vU8 g.Src.a5, vI g.Vlan, vU16 g.Type_, vg1]), some (cellsR b3 34 [vU8 hp2.Flags, vU16 hp2.Start, vU16 hp2.Off, vU16 hp2.Buffers])]) (shr' := [Fact.sl u8S vf1 f.Data, Fact.sl u8S vg1 g.Data, Fact.sl u8S vb1 b]) [3, 4, 5, 6, 37] [0, 1, 2] [0, 1, 2] rfl rfl rfl rfl ?_
      rcases Bool.eq_false_or_eq_true (decide ((len b) > (3000 : Int))) with hg4 | hg4
      · replace h := br_t hg4 h
        refine Tk_condT (congrArg (fun b => some (Value.bool b)) hg4) ?_
        refine Tk_seq ?_
        refine Tk_region ?_
        refine Tops_step rfl (OpT_assign rfl rfl rfl rfl) ?_
        refine Tops_nil ?_
        refine Tk_wkS (fr' := [(8, some (vB true))]) (own' := []) (shr' := []) [8] [] [] rfl rfl rfl rfl ?_
        exact Tk_retV rfl rfl (resA (vs := [.bool true]) rfl ⟨rfl, trivial⟩) [] [] rfl rfl rfl ⟨rfl, rfl, rfl⟩
      · replace h := br_f hg4 h
        refine Tk_condF (congrArg (fun b => some (Value.bool b)) hg4) ?_
        refine Tk_skip ?_
        refine Tk_seq ?_
        refine Tk_region ?_
        refine Tops_step rfl (OpT_loadCA (vs := [vU8 f.Dst.a0, vU8 f.Dst.a1, vU8 f.Dst.a2, vU8 f.Dst.a3, vU8 f.Dst.a4, vU8 f.Dst.a5, vU8 f.Src.a0, vU8 f.Src.a1, vU8 f.Src.a2, vU8 f.Src.a3, vU8 f.Src.a4, vU8 f.Src.a5, vI f.Vlan, vU16 f.Type_, vf1]) rfl rfl rfl rfl tyF38 (i := 0) rfl rfl rfl) ?_
        obtain ⟨bytes1, hx2, h⟩ := ob_e h
        refine Tops_exP rfl (OpT_call (w_frame_Bytes hx2) [] [0] rfl rfl rfl rfl rfl callee16 rfl rfl rfl rfl) ?_
        rintro _ ⟨_, _, _, ⟨v1, rfl, rfl, rfl⟩, rfl⟩
        refine Tops_step rfl (OpT_move rfl rfl rfl rfl) ?_
        refine Tops_step rfl (OpT_extract rfl rfl rfl rfl rfl) ?_
        refine Tops_step rfl (OpT_extract rfl rfl rfl rfl rfl) ?_
        refine Tops_step rfl (OpT_assign rfl rfl rfl rfl) ?_
        refine Tops_step rfl (OpT_assign rfl rfl rfl rfl) ?_
        refine Tops_nil ?_
        refine Tk_wkS (fr' := [(3, some (vb1)), (4, some (.pointer (some ⟨b1, 0, none⟩))), (5, some (.pointer (some ⟨b2, 0, none⟩))), (6, some (.pointer (some ⟨b3, 0, none⟩))), (9, some (v1)), (10, some (vI bytes1.2))]) (own' := [some (cellsR b1 38 [vU8 f.Dst.a0, vU8 f.Dst.a1, vU8 f.Dst.a2, vU8 f.Dst.a3, vU8 f.Dst.a4, vU8 f.Dst.a5, vU8 f.Src.a0, vU8 f.Src.a1, vU8 f.Src.a2, vU8 f.Src.a3, vU8 f.Src.a4, vU8 f.Src.a5, vI f.Vlan, vU16 f.Type_, vf1]), some (cellsR b2 38 [vU8 g.Dst.a0, vU8 g.Dst.a1, vU8 g.Dst.a2, vU8 g.Dst.a3, vU8 g.Dst.a4, vU8 g.Dst.a5, vU8 g.Src.a0, vU8 g.Src.a1, vU8 g.Src.a2, vU8 g.Src.a3, vU8 g.Src.a4, vU8 g.Src.a5, vI g.Vlan, vU16 g.Type_, vg1]), some (cellsR b3 34 [vU8 hp2.Flags, vU16 hp2.Start, vU16 hp2.Off, vU16 hp2.Buffers]), some (rowS u8S v1 bytes1.1)]) (shr' := [Fact.sl u8S vf1 f.Data, Fact.sl u8S vg1 g.Data, Fact.sl u8S vb1 b]) [3, 4, 5, 6, 9, 10] [0, 1, 2, 3] [0, 1, 2] rfl rfl rfl rfl ?_
        refine Tk_seq ?_
        refine Tk_region ?_
        refine Tops_step rfl (OpT_loadCA (vs := [vU8 f.Dst.a0, vU8 f.Dst.a1, vU8 f.Dst.a2, vU8 f.Dst.a3, vU8 f.Dst.a4, vU8 f.Dst.a5, vU8 f.Src.a0, vU8 f.Src.a1, vU8 f.Src.a2, vU8 f.Src.a3, vU8 f.Src.a4, vU8 f.Src.a5, vI f.Vlan, vU16 f.Type_, vf1]) rfl rfl rfl rfl tyF38 (i := 0) rfl rfl rfl) ?_
        obtain ⟨bytes2, hx3, h⟩ := ob_e h
        refine Tops_exP rfl (OpT_call (w_ref_Bytes23 hx3) [] [0] rfl rfl rfl rfl rfl callee24 rfl rfl rfl rfl) ?_
        rintro _ ⟨_, _, _, ⟨v2, rfl, rfl, rfl⟩, rfl⟩
        refine Tops_step rfl (OpT_move rfl rfl rfl rfl) ?_
        refine Tops_step rfl (OpT_extract rfl rfl rfl rfl rfl) ?_
        refine Tops_step rfl (OpT_extract rfl rfl rfl rfl rfl) ?_
        refine Tops_step rfl (OpT_assign rfl rfl rfl rfl) ?_
        refine Tops_step rfl (OpT_assign rfl rfl rfl rfl) ?_
        refine Tops_nil ?_
        refine Tk_wkS (fr' := [(3, some (vb1)), (4, some (.pointer (some ⟨b1, 0, none⟩))), (5, some (.pointer (some ⟨b2, 0, none⟩))), (6, some (.pointer (some ⟨b3, 0, none⟩))), (9, some (v1)), (10, some (vI bytes1.2)), (11, some (v2)), (12, some (vI bytes2.2))]) (own' := [some (cellsR b1 38 [vU8 f.Dst.a0, vU8 f.Dst.a1, vU8 f.Dst.a2, vU8 f.Dst.a3, vU8 f.Dst.a4, vU8 f.Dst.a5, vU8 f.Src.a0, vU8 f.Src.a1, vU8 f.Src.a2, vU8 f.Src.a3, vU8 f.Src.a4, vU8 f.Src.a5, vI f.Vlan, vU16 f.Type_, vf1]), some (cellsR b2 38 [vU8 g.Dst.a0, vU8 g.Dst.a1, vU8 g.Dst.a2, vU8 g.Dst.a3, vU8 g.Dst.a4, vU8 g.Dst.a5, vU8 g.Src.a0, vU8 g.Src.a1, vU8 g.Src.a2, vU8 g.Src.a3, vU8 g.Src.a4, vU8 g.Src.a5, vI g.Vlan, vU16 g.Type_, vg1]), some (cellsR b3 34 [vU8 hp2.Flags, vU16 hp2.Start, vU16 hp2.Off, vU16 hp2.Buffers]), some (rowS u8S v1 bytes1.1), some (rowS u8S v2 bytes2.1)]) (shr' := [Fact.sl u8S vf1 f.Data, Fact.sl u8S vg1 g.Data, Fact.sl u8S vb1 b]) [3, 4, 5, 6, 9, 10, 11, 12] [0, 1, 2, 3, 4] [0, 1, 2] rfl rfl rfl rfl ?_
        refine Tk_seq ?_
        refine Tk_region ?_
        refine Tops_step rfl (OpT_move rfl rfl rfl rfl) ?_
        obtain ⟨own1, hx4, h⟩ := ob_e h
        refine Tops_exP rfl (OpT_call (w_kit_Own hx4) [] [2] rfl rfl rfl rfl rfl callee13 rfl rfl rfl rfl) ?_
        rintro _ ⟨v3, _, _, ⟨_, rfl, rfl, rfl⟩, rfl⟩
        refine Tops_retire (i := 5) rfl ?_
        obtain ⟨read1, hx5, h⟩ := ob_e h
        refine Tops_exP rfl (OpT_call (w_frame_Read hx5) [] [3] rfl rfl rfl rfl rfl callee22 rfl rfl rfl rfl) ?_
        rintro _ ⟨_, _, _, ⟨v4, rfl, rfl, rfl⟩, rfl⟩
        refine Tops_step rfl (OpT_move rfl rfl rfl rfl) ?_
        refine Tops_step rfl (OpT_extract rfl rfl rfl rfl rfl) ?_
        refine Tops_step rfl (OpT_extract rfl rfl rfl rfl rfl) ?_
        refine Tops_ex rfl (OpT_alloc rfl rfl rfl tyZ38) fun b4 => ?_
        refine Tops_step rfl (OpT_storeA1 (fun z0 => [vU8 read1.1.Dst.a0, vU8 read1.1.Dst.a1, vU8 read1.1.Dst.a2, vU8 read1.1.Dst.a3, vU8 read1.1.Dst.a4, vU8 read1.1.Dst.a5, vU8 read1.1.Src.a0, vU8 read1.1.Src.a1, vU8 read1.1.Src.a2, vU8 read1.1.Src.a3, vU8 read1.1.Src.a4, vU8 read1.1.Src.a5, vI read1.1.Vlan, vU16 read1.1.Type_, z0]) (cs' := [vU8 read1.1.Dst.a0, vU8 read1.1.Dst.a1, vU8 read1.1.Dst.a2, vU8 read1.1.Dst.a3, vU8 read1.1.Dst.a4, vU8 read1.1.Dst.a5, vU8 read1.1.Src.a0, vU8 read1.1.Src.a1, vU8 read1.1.Src.a2, vU8 read1.1.Src.a3, vU8 read1.1.Src.a4, vU8 read1.1.Src.a5, vI read1.1.Vlan, vU16 read1.1.Type_, v4]) rfl rfl rfl rfl tyF38 (i := 6) rfl (is_sl (i := 4) rfl) (fun _ _ _ => rfl) rfl rfl rfl) ?_
        refine Tops_step rfl (OpT_assign rfl rfl rfl rfl) ?_
        refine Tops_nil ?_
        refine Tk_wkS (fr' := [(3, some (vb1)), (4, some (.pointer (some ⟨b1, 0, none⟩))), (5, some (.pointer (some ⟨b2, 0, none⟩))), (6, some (.pointer (some ⟨b3, 0, none⟩))), (9, some (v1)), (10, some (vI bytes1.2)), (11, some (v2)), (12, some (vI bytes2.2)), (13, some (.pointer (some ⟨b4, 0, none⟩))), (14, some (vI read1.2))]) (own' := [some (cellsR b1 38 [vU8 f.Dst.a0, vU8 f.Dst.a1, vU8 f.Dst.a2, vU8 f.Dst.a3, vU8 f.Dst.a4, vU8 f.Dst.a5, vU8 f.Src.a0, vU8 f.Src.a1, vU8 f.Src.a2, vU8 f.Src.a3, vU8 f.Src.a4, vU8 f.Src.a5, vI f.Vlan, vU16 f.Type_, vf1]), some (cellsR b2 38 [vU8 g.Dst.a0, vU8 g.Dst.a1, vU8 g.Dst.a2, vU8 g.Dst.a3, vU8 g.Dst.a4, vU8 g.Dst.a5, vU8 g.Src.a0, vU8 g.Src.a1, vU8 g.Src.a2, vU8 g.Src.a3, vU8 g.Src.a4, vU8 g.Src.a5, vI g.Vlan, vU16 g.Type_, vg1]), some (cellsR b3 34 [vU8 hp2.Flags, vU16 hp2.Start, vU16 hp2.Off, vU16 hp2.Buffers]), some (rowS u8S v1 bytes1.1), some (rowS u8S v2 bytes2.1), some (cellsR b4 38 [vU8 read1.1.Dst.a0, vU8 read1.1.Dst.a1, vU8 read1.1.Dst.a2, vU8 read1.1.Dst.a3, vU8 read1.1.Dst.a4, vU8 read1.1.Dst.a5, vU8 read1.1.Src.a0, vU8 read1.1.Src.a1, vU8 read1.1.Src.a2, vU8 read1.1.Src.a3, vU8 read1.1.Src.a4, vU8 read1.1.Src.a5, vI read1.1.Vlan, vU16 read1.1.Type_, v4])]) (shr' := [Fact.sl u8S vf1 f.Data, Fact.sl u8S vg1 g.Data, Fact.sl u8S vb1 b, Fact.sl u8S v4 read1.1.Data]) [3, 4, 5, 6, 9, 10, 11, 12, 13, 14] [0, 1, 2, 3, 4, 6] [0, 1, 2, 4] rfl rfl rfl rfl ?_
        refine Tk_seq ?_
        refine Tk_region ?_
        refine Tops_step rfl (OpT_move rfl rfl rfl rfl) ?_
        obtain ⟨read2, hx6, h⟩ := ob_e h
        refine Tops_exP rfl (OpT_call (w_ref_Read23 hx6) [] [2] rfl rfl rfl rfl rfl callee25 rfl rfl rfl rfl) ?_
        rintro _ ⟨_, _, _, ⟨v5, rfl, rfl, rfl⟩, rfl⟩
        refine Tops_step rfl (OpT_move rfl rfl rfl rfl) ?_
        refine Tops_step rfl (OpT_extract rfl rfl rfl rfl rfl) ?_
        refine Tops_step rfl (OpT_extract rfl rfl rfl rfl rfl) ?_
        refine Tops_ex rfl (OpT_alloc rfl rfl rfl tyZ38) fun b5 => ?_
        refine Tops_step rfl (OpT_storeA1 (fun z0 => [vU8 read2.1.Dst.a0, vU8 read2.1.Dst.a1, vU8 read2.1.Dst.a2, vU8 read2.1.Dst.a3, vU8 read2.1.Dst.a4, vU8 read2.1.Dst.a5, vU8 read2.1.Src.a0, vU8 read2.1.Src.a1, vU8 read2.1.Src.a2, vU8 read2.1.Src.a3, vU8 read2.1.Src.a4, vU8 read2.1.Src.a5, vI read2.1.Vlan, vU16 read2.1.Type_, z0]) (cs' := [vU8 read2.1.Dst.a0, vU8 read2.1.Dst.a1, vU8 read2.1.Dst.a2, vU8 read2.1.Dst.a3, vU8 read2.1.Dst.a4, vU8 read2.1.Dst.a5, vU8 read2.1.Src.a0, vU8 read2.1.Src.a1, vU8 read2.1.Src.a2, vU8 read2.1.Src.a3, vU8 read2.1.Src.a4, vU8 read2.1.Src.a5, vI read2.1.Vlan, vU16 read2.1.Type_, v5]) rfl rfl rfl rfl tyF38 (i := 7) rfl (is_row (i := 6) rfl) (fun _ _ _ => rfl) rfl rfl rfl) ?_
        refine Tops_step rfl (OpT_assign rfl rfl rfl rfl) ?_
        refine Tops_nil ?_
        refine Tk_wkS (fr' := [(3, some (vb1)), (4, some (.pointer (some ⟨b1, 0, none⟩))), (5, some (.pointer (some ⟨b2, 0, none⟩))), (6, some (.pointer (some ⟨b3, 0, none⟩))), (9, some (v1)), (10, some (vI bytes1.2)), (11, some (v2)), (12, some (vI bytes2.2)), (13, some (.pointer (some ⟨b4, 0, none⟩))), (14, some (vI read1.2)), (15, some (.pointer (some ⟨b5, 0, none⟩))), (16, some (vI read2.2))]) (own' := [some (cellsR b1 38 [vU8 f.Dst.a0, vU8 f.Dst.a1, vU8 f.Dst.a2, vU8 f.Dst.a3, vU8 f.Dst.a4, vU8 f.Dst.a5, vU8 f.Src.a0, vU8 f.Src.a1, vU8 f.Src.a2, vU8 f.Src.a3, vU8 f.Src.a4, vU8 f.Src.a5, vI f.Vlan, vU16 f.Type_, vf1]), some (cellsR b2 38 [vU8 g.Dst.a0, vU8 g.Dst.a1, vU8 g.Dst.a2, vU8 g.Dst.a3, vU8 g.Dst.a4, vU8 g.Dst.a5, vU8 g.Src.a0, vU8 g.Src.a1, vU8 g.Src.a2, vU8 g.Src.a3, vU8 g.Src.a4, vU8 g.Src.a5, vI g.Vlan, vU16 g.Type_, vg1]), some (cellsR b3 34 [vU8 hp2.Flags, vU16 hp2.Start, vU16 hp2.Off, vU16 hp2.Buffers]), some (rowS u8S v1 bytes1.1), some (rowS u8S v2 bytes2.1), some (cellsR b4 38 [vU8 read1.1.Dst.a0, vU8 read1.1.Dst.a1, vU8 read1.1.Dst.a2, vU8 read1.1.Dst.a3, vU8 read1.1.Dst.a4, vU8 read1.1.Dst.a5, vU8 read1.1.Src.a0, vU8 read1.1.Src.a1, vU8 read1.1.Src.a2, vU8 read1.1.Src.a3, vU8 read1.1.Src.a4, vU8 read1.1.Src.a5, vI read1.1.Vlan, vU16 read1.1.Type_, v4]), some (rowS u8S v5 read2.1.Data), some (cellsR b5 38 [vU8 read2.1.Dst.a0, vU8 read2.1.Dst.a1, vU8 read2.1.Dst.a2, vU8 read2.1.Dst.a3, vU8 read2.1.Dst.a4, vU8 read2.1.Dst.a5, vU8 read2.1.Src.a0, vU8 read2.1.Src.a1, vU8 read2.1.Src.a2, vU8 read2.1.Src.a3, vU8 read2.1.Src.a4, vU8 read2.1.Src.a5, vI read2.1.Vlan, vU16 read2.1.Type_, v5])]) (shr' := [Fact.sl u8S vf1 f.Data, Fact.sl u8S vg1 g.Data, Fact.sl u8S vb1 b, Fact.sl u8S v4 read1.1.Data]) [3, 4, 5, 6, 9, 10, 11, 12, 13, 14, 15, 16] [0, 1, 2, 3, 4, 5, 6, 7] [0, 1, 2, 3] rfl rfl rfl rfl ?_
        refine Tk_seq ?_
        refine Tk_seq ?_
        refine Tk_drawT (by kernel_rfl) ?_
        refine TA_tb [0, 1, 0, 4, 15, 31, 63, 63, 255, 511, 1023, 2047, 2047, 8191, 16383, 32767, 65535, 131071, 131071, 524287, 1048575, 2097151, 4194303, 8388607, 4194303, 33554431, 67108863, 134217727, 268435455, 536870911, 536870911, 2147483647, 536870911, 536870911, 17179869183, 34359738367, 68719476735, 137438953471, 274877906943, 549755813887, 1099511627775, 274877906943, 2473901162495, 8796093022207, 17592186044415, 35184372088831, 70368744177663, 140737488355327, 281474976710655, 562949953421311, 140737488355327, 1266637395197951, 4503599627370495, 9007199254740991, 18014398509481983] (by kernel_rfl) fun htb => ?_
        refine TA_retire (i := 3) rfl ?_
        refine TA_retire (i := 4) rfl ?_
        refine TA_seg (lo := 0) (hi := 4) htb rfl rfl (by kernel_rfl) (fun c L a w => Sat c ⟨[(3, some (vb1)), (4, some (.pointer (some ⟨b1, 0, none⟩))), (5, some (.pointer (some ⟨b2, 0, none⟩))), (6, some (.pointer (some ⟨b3, 0, none⟩))), (9, some (v1)), (10, some (vI bytes1.2)), (11, some (v2)), (12, some (vI bytes2.2)), (13, some (.pointer (some ⟨b4, 0, none⟩))), (14, some (vI read1.2)), (15, some (.pointer (some ⟨b5, 0, none⟩))), (16, some (vI read2.2)), (59, bif L 0 then some (v1) else none), (60, bif L 1 then some (vS bytes1.1) else none), (61, bif L 2 then some (v2) else none), (62, bif L 3 then some (vS bytes2.1) else none)], [(some (cellsR b1 38 [vU8 f.Dst.a0, vU8 f.Dst.a1, vU8 f.Dst.a2, vU8 f.Dst.a3, vU8 f.Dst.a4, vU8 f.Dst.a5, vU8 f.Src.a0, vU8 f.Src.a1, vU8 f.Src.a2, vU8 f.Src.a3, vU8 f.Src.a4, vU8 f.Src.a5, vI f.Vlan, vU16 f.Type_, vf1]) : Option Res), (some (cellsR b2 38 [vU8 g.Dst.a0, vU8 g.Dst.a1, vU8 g.Dst.a2, vU8 g.Dst.a3, vU8 g.Dst.a4, vU8 g.Dst.a5, vU8 g.Src.a0, vU8 g.Src.a1, vU8 g.Src.a2, vU8 g.Src.a3, vU8 g.Src.a4, vU8 g.Src.a5, vI g.Vlan, vU16 g.Type_, vg1]) : Option Res), (some (cellsR b3 34 [vU8 hp2.Flags, vU16 hp2.Start, vU16 hp2.Off, vU16 hp2.Buffers]) : Option Res), (none : Option Res), (none : Option Res), (some (cellsR b4 38 [vU8 read1.1.Dst.a0, vU8 read1.1.Dst.a1, vU8 read1.1.Dst.a2, vU8 read1.1.Dst.a3, vU8 read1.1.Dst.a4, vU8 read1.1.Dst.a5, vU8 read1.1.Src.a0, vU8 read1.1.Src.a1, vU8 read1.1.Src.a2, vU8 read1.1.Src.a3, vU8 read1.1.Src.a4, vU8 read1.1.Src.a5, vI read1.1.Vlan, vU16 read1.1.Type_, v4]) : Option Res), (some (rowS u8S v5 read2.1.Data) : Option Res), (some (cellsR b5 38 [vU8 read2.1.Dst.a0, vU8 read2.1.Dst.a1, vU8 read2.1.Dst.a2, vU8 read2.1.Dst.a3, vU8 read2.1.Dst.a4, vU8 read2.1.Dst.a5, vU8 read2.1.Src.a0, vU8 read2.1.Src.a1, vU8 read2.1.Src.a2, vU8 read2.1.Src.a3, vU8 read2.1.Src.a4, vU8 read2.1.Src.a5, vI read2.1.Vlan, vU16 read2.1.Type_, v5]) : Option Res)], [Fact.sl u8S vf1 f.Data, Fact.sl u8S vg1 g.Data, Fact.sl u8S vb1 b, Fact.sl u8S v4 read1.1.Data, Fact.sl u8S v1 bytes1.1, Fact.sl u8S v2 bytes2.1]⟩ a w) [([], [1]), ([0], []), ([], [3]), ([2], [])] rfl (by kernel_rfl) ?_ (steps_cons ?_ (steps_cons ?_ (steps_cons ?_ (steps_cons ?_ (steps_nil))))) ?_
        · intro a w hs
          exact hs.startF [59, 60, 61, 62] [0, 1, 2, 3, 4, 5, 6, 7] [0, 1, 2, 3, 4, 5] rfl rfl rfl rfl
        · intro L a w hv K Q hK
          have hs := hv
          refine wpOp_go rfl rfl hs (OpT_move rfl rfl rfl rfl) ?_
          rintro _ rfl a' w' hs'
          exact hK a' w' (hs'.putF (i := 12) rfl [0, 1, 2, 3, 4, 5, 6, 7] [0, 1, 2, 3, 4, 5] rfl rfl rfl rfl)
        · intro L a w hv K Q hK
          have hs := hv
          refine wpOp_go rfl rfl hs (OpT_strS rfl rfl rfl rfl Try.underlying22 Try.underlying5 Try.underlying9 (i := 4) rfl) ?_
          rintro _ rfl a' w' hs'
          exact hK a' w' (hs'.putF (i := 13) rfl [0, 1, 2, 3, 4, 5, 6, 7] [0, 1, 2, 3, 4, 5] rfl rfl rfl rfl)
        · intro L a w hv K Q hK
          have hs := hv
          refine wpOp_go rfl rfl hs (OpT_move rfl rfl rfl rfl) ?_
          rintro _ rfl a' w' hs'
          exact hK a' w' (hs'.putF (i := 14) rfl [0, 1, 2, 3, 4, 5, 6, 7] [0, 1, 2, 3, 4, 5] rfl rfl rfl rfl)
        · intro L a w hv K Q hK
          have hs := hv
          refine wpOp_go rfl rfl hs (OpT_strS rfl rfl rfl rfl Try.underlying22 Try.underlying5 Try.underlying9 (i := 5) rfl) ?_
          rintro _ rfl a' w' hs'
          exact hK a' w' (hs'.putF (i := 15) rfl [0, 1, 2, 3, 4, 5, 6, 7] [0, 1, 2, 3, 4, 5] rfl rfl rfl rfl)
        · intro L a w hL hv
          rw [allTrue hL] at hv
          have hs := hv
          refine (show TA _ _ _ 4 ⟨[(3, some (vb1)), (4, some (.pointer (some ⟨b1, 0, none⟩))), (5, some (.pointer (some ⟨b2, 0, none⟩))), (6, some (.pointer (some ⟨b3, 0, none⟩))), (10, some (vI bytes1.2)), (12, some (vI bytes2.2)), (13, some (.pointer (some ⟨b4, 0, none⟩))), (14, some (vI read1.2)), (15, some (.pointer (some ⟨b5, 0, none⟩))), (16, some (vI read2.2)), (60, some (vS bytes1.1)), (62, some (vS bytes2.1))], [some (cellsR b1 38 [vU8 f.Dst.a0, vU8 f.Dst.a1, vU8 f.Dst.a2, vU8 f.Dst.a3, vU8 f.Dst.a4, vU8 f.Dst.a5, vU8 f.Src.a0, vU8 f.Src.a1, vU8 f.Src.a2, vU8 f.Src.a3, vU8 f.Src.a4, vU8 f.Src.a5, vI f.Vlan, vU16 f.Type_, vf1]), some (cellsR b2 38 [vU8 g.Dst.a0, vU8 g.Dst.a1, vU8 g.Dst.a2, vU8 g.Dst.a3, vU8 g.Dst.a4, vU8 g.Dst.a5, vU8 g.Src.a0, vU8 g.Src.a1, vU8 g.Src.a2, vU8 g.Src.a3, vU8 g.Src.a4, vU8 g.Src.a5, vI g.Vlan, vU16 g.Type_, vg1]), some (cellsR b3 34 [vU8 hp2.Flags, vU16 hp2.Start, vU16 hp2.Off, vU16 hp2.Buffers]), some (cellsR b4 38 [vU8 read1.1.Dst.a0, vU8 read1.1.Dst.a1, vU8 read1.1.Dst.a2, vU8 read1.1.Dst.a3, vU8 read1.1.Dst.a4, vU8 read1.1.Dst.a5, vU8 read1.1.Src.a0, vU8 read1.1.Src.a1, vU8 read1.1.Src.a2, vU8 read1.1.Src.a3, vU8 read1.1.Src.a4, vU8 read1.1.Src.a5, vI read1.1.Vlan, vU16 read1.1.Type_, v4]), some (rowS u8S v5 read2.1.Data), some (cellsR b5 38 [vU8 read2.1.Dst.a0, vU8 read2.1.Dst.a1, vU8 read2.1.Dst.a2, vU8 read2.1.Dst.a3, vU8 read2.1.Dst.a4, vU8 read2.1.Dst.a5, vU8 read2.1.Src.a0, vU8 read2.1.Src.a1, vU8 read2.1.Src.a2, vU8 read2.1.Src.a3, vU8 read2.1.Src.a4, vU8 read2.1.Src.a5, vI read2.1.Vlan, vU16 read2.1.Type_, v5])], [Fact.sl u8S vf1 f.Data, Fact.sl u8S vg1 g.Data, Fact.sl u8S vb1 b, Fact.sl u8S v4 read1.1.Data]⟩ from ?_) a w (hs.wkS [3, 4, 5, 6, 10, 12, 13, 14, 15, 16, 60, 62] [0, 1, 2, 5, 6, 7] [0, 1, 2, 3] rfl rfl rfl rfl)
          clear hs hL
          refine TA_step htb (by kernel_rfl) rfl rfl (OpT_bin rfl rfl rfl rfl rfl (bin_neq_s (a := bytes1.1) (b := bytes2.1))) ?_
          refine TA_step htb (by kernel_rfl) rfl rfl (OpT_move rfl rfl rfl rfl) ?_
          refine TA_wkS (fr' := [(3, some (vb1)), (4, some (.pointer (some ⟨b1, 0, none⟩))), (5, some (.pointer (some ⟨b2, 0, none⟩))), (6, some (.pointer (some ⟨b3, 0, none⟩))), (10, some (vI bytes1.2)), (12, some (vI bytes2.2)), (13, some (.pointer (some ⟨b4, 0, none⟩))), (14, some (vI read1.2)), (15, some (.pointer (some ⟨b5, 0, none⟩))), (16, some (vI read2.2)), (64, some (vB (bytes1.1 != bytes2.1)))]) (own' := [some (cellsR b1 38 [vU8 f.Dst.a0, vU8 f.Dst.a1, vU8 f.Dst.a2, vU8 f.Dst.a3, vU8 f.Dst.a4, vU8 f.Dst.a5, vU8 f.Src.a0, vU8 f.Src.a1, vU8 f.Src.a2, vU8 f.Src.a3, vU8 f.Src.a4, vU8 f.Src.a5, vI f.Vlan, vU16 f.Type_, vf1]), some (cellsR b2 38 [vU8 g.Dst.a0, vU8 g.Dst.a1, vU8 g.Dst.a2, vU8 g.Dst.a3, vU8 g.Dst.a4, vU8 g.Dst.a5, vU8 g.Src.a0, vU8 g.Src.a1, vU8 g.Src.a2, vU8 g.Src.a3, vU8 g.Src.a4, vU8 g.Src.a5, vI g.Vlan, vU16 g.Type_, vg1]), some (cellsR b3 34 [vU8 hp2.Flags, vU16 hp2.Start, vU16 hp2.Off, vU16 hp2.Buffers]), some (cellsR b4 38 [vU8 read1.1.Dst.a0, vU8 read1.1.Dst.a1, vU8 read1.1.Dst.a2, vU8 read1.1.Dst.a3, vU8 read1.1.Dst.a4, vU8 read1.1.Dst.a5, vU8 read1.1.Src.a0, vU8 read1.1.Src.a1, vU8 read1.1.Src.a2, vU8 read1.1.Src.a3, vU8 read1.1.Src.a4, vU8 read1.1.Src.a5, vI read1.1.Vlan, vU16 read1.1.Type_, v4]), some (rowS u8S v5 read2.1.Data), some (cellsR b5 38 [vU8 read2.1.Dst.a0, vU8 read2.1.Dst.a1, vU8 read2.1.Dst.a2, vU8 read2.1.Dst.a3, vU8 read2.1.Dst.a4, vU8 read2.1.Dst.a5, vU8 read2.1.Src.a0, vU8 read2.1.Src.a1, vU8 read2.1.Src.a2, vU8 read2.1.Src.a3, vU8 read2.1.Src.a4, vU8 read2.1.Src.a5, vI read2.1.Vlan, vU16 read2.1.Type_, v5])]) (shr' := [Fact.sl u8S vf1 f.Data, Fact.sl u8S vg1 g.Data, Fact.sl u8S vb1 b, Fact.sl u8S v4 read1.1.Data]) [3, 4, 5, 6, 10, 12, 13, 14, 15, 16, 64] [0, 1, 2, 3, 4, 5] [0, 1, 2, 3] rfl rfl rfl rfl ?_
          obtain ⟨hg5, h⟩ := chk_e h
          replace hg5 := not_t hg5
          refine TA_seg (lo := 6) (hi := 8) htb rfl rfl (by kernel_rfl) (fun c L a w => Sat c ⟨[(3, some (vb1)), (4, some (.pointer (some ⟨b1, 0, none⟩))), (5, some (.pointer (some ⟨b2, 0, none⟩))), (6, some (.pointer (some ⟨b3, 0, none⟩))), (10, some (vI bytes1.2)), (12, some (vI bytes2.2)), (13, some (.pointer (some ⟨b4, 0, none⟩))), (14, some (vI read1.2)), (15, some (.pointer (some ⟨b5, 0, none⟩))), (16, some (vI read2.2)), (64, some (vB (bytes1.1 != bytes2.1))), (65, bif L 6 then some (vI bytes1.2) else none), (66, bif L 7 then some (vI bytes2.2) else none)], [(some (cellsR b1 38 [vU8 f.Dst.a0, vU8 f.Dst.a1, vU8 f.Dst.a2, vU8 f.Dst.a3, vU8 f.Dst.a4, vU8 f.Dst.a5, vU8 f.Src.a0, vU8 f.Src.a1, vU8 f.Src.a2, vU8 f.Src.a3, vU8 f.Src.a4, vU8 f.Src.a5, vI f.Vlan, vU16 f.Type_, vf1]) : Option Res), (some (cellsR b2 38 [vU8 g.Dst.a0, vU8 g.Dst.a1, vU8 g.Dst.a2, vU8 g.Dst.a3, vU8 g.Dst.a4, vU8 g.Dst.a5, vU8 g.Src.a0, vU8 g.Src.a1, vU8 g.Src.a2, vU8 g.Src.a3, vU8 g.Src.a4, vU8 g.Src.a5, vI g.Vlan, vU16 g.Type_, vg1]) : Option Res), (some (cellsR b3 34 [vU8 hp2.Flags, vU16 hp2.Start, vU16 hp2.Off, vU16 hp2.Buffers]) : Option Res), (some (cellsR b4 38 [vU8 read1.1.Dst.a0, vU8 read1.1.Dst.a1, vU8 read1.1.Dst.a2, vU8 read1.1.Dst.a3, vU8 read1.1.Dst.a4, vU8 read1.1.Dst.a5, vU8 read1.1.Src.a0, vU8 read1.1.Src.a1, vU8 read1.1.Src.a2, vU8 read1.1.Src.a3, vU8 read1.1.Src.a4, vU8 read1.1.Src.a5, vI read1.1.Vlan, vU16 read1.1.Type_, v4]) : Option Res), (some (rowS u8S v5 read2.1.Data) : Option Res), (some (cellsR b5 38 [vU8 read2.1.Dst.a0, vU8 read2.1.Dst.a1, vU8 read2.1.Dst.a2, vU8 read2.1.Dst.a3, vU8 read2.1.Dst.a4, vU8 read2.1.Dst.a5, vU8 read2.1.Src.a0, vU8 read2.1.Src.a1, vU8 read2.1.Src.a2, vU8 read2.1.Src.a3, vU8 read2.1.Src.a4, vU8 read2.1.Src.a5, vI read2.1.Vlan, vU16 read2.1.Type_, v5]) : Option Res)], [Fact.sl u8S vf1 f.Data, Fact.sl u8S vg1 g.Data, Fact.sl u8S vb1 b, Fact.sl u8S v4 read1.1.Data]⟩ a w) [([], []), ([], [])] rfl (by kernel_rfl) ?_ (steps_cons ?_ (steps_cons ?_ (steps_nil))) ?_
          · intro a w hs
            exact hs.startF [65, 66] [0, 1, 2, 3, 4, 5] [0, 1, 2, 3] rfl rfl rfl rfl
          · intro L a w hv K Q hK
            have hs := hv
            refine wpOp_yes rfl rfl rfl hs (congrArg (fun b => some (Value.bool b)) hg5) (OpT_move rfl rfl rfl rfl) ?_
            rintro _ rfl a' w' hs'
            exact hK a' w' (hs'.putF (i := 11) rfl [0, 1, 2, 3, 4, 5] [0, 1, 2, 3] rfl rfl rfl rfl)
          · intro L a w hv K Q hK
            have hs := hv
            refine wpOp_yes rfl rfl rfl hs (congrArg (fun b => some (Value.bool b)) hg5) (OpT_move rfl rfl rfl rfl) ?_
            rintro _ rfl a' w' hs'
            exact hK a' w' (hs'.putF (i := 12) rfl [0, 1, 2, 3, 4, 5] [0, 1, 2, 3] rfl rfl rfl rfl)
          · intro L a w hL hv
            rw [allTrue hL] at hv
            have hs := hv
            refine (show TA _ _ _ 8 ⟨[(3, some (vb1)), (4, some (.pointer (some ⟨b1, 0, none⟩))), (5, some (.pointer (some ⟨b2, 0, none⟩))), (6, some (.pointer (some ⟨b3, 0, none⟩))), (13, some (.pointer (some ⟨b4, 0, none⟩))), (14, some (vI read1.2)), (15, some (.pointer (some ⟨b5, 0, none⟩))), (16, some (vI read2.2)), (64, some (vB (bytes1.1 != bytes2.1))), (65, some (vI bytes1.2)), (66, some (vI bytes2.2))], [some (cellsR b1 38 [vU8 f.Dst.a0, vU8 f.Dst.a1, vU8 f.Dst.a2, vU8 f.Dst.a3, vU8 f.Dst.a4, vU8 f.Dst.a5, vU8 f.Src.a0, vU8 f.Src.a1, vU8 f.Src.a2, vU8 f.Src.a3, vU8 f.Src.a4, vU8 f.Src.a5, vI f.Vlan, vU16 f.Type_, vf1]), some (cellsR b2 38 [vU8 g.Dst.a0, vU8 g.Dst.a1, vU8 g.Dst.a2, vU8 g.Dst.a3, vU8 g.Dst.a4, vU8 g.Dst.a5, vU8 g.Src.a0, vU8 g.Src.a1, vU8 g.Src.a2, vU8 g.Src.a3, vU8 g.Src.a4, vU8 g.Src.a5, vI g.Vlan, vU16 g.Type_, vg1]), some (cellsR b3 34 [vU8 hp2.Flags, vU16 hp2.Start, vU16 hp2.Off, vU16 hp2.Buffers]), some (cellsR b4 38 [vU8 read1.1.Dst.a0, vU8 read1.1.Dst.a1, vU8 read1.1.Dst.a2, vU8 read1.1.Dst.a3, vU8 read1.1.Dst.a4, vU8 read1.1.Dst.a5, vU8 read1.1.Src.a0, vU8 read1.1.Src.a1, vU8 read1.1.Src.a2, vU8 read1.1.Src.a3, vU8 read1.1.Src.a4, vU8 read1.1.Src.a5, vI read1.1.Vlan, vU16 read1.1.Type_, v4]), some (rowS u8S v5 read2.1.Data), some (cellsR b5 38 [vU8 read2.1.Dst.a0, vU8 read2.1.Dst.a1, vU8 read2.1.Dst.a2, vU8 read2.1.Dst.a3, vU8 read2.1.Dst.a4, vU8 read2.1.Dst.a5, vU8 read2.1.Src.a0, vU8 read2.1.Src.a1, vU8 read2.1.Src.a2, vU8 read2.1.Src.a3, vU8 read2.1.Src.a4, vU8 read2.1.Src.a5, vI read2.1.Vlan, vU16 read2.1.Type_, v5])], [Fact.sl u8S vf1 f.Data, Fact.sl u8S vg1 g.Data, Fact.sl u8S vb1 b, Fact.sl u8S v4 read1.1.Data]⟩ from ?_) a w (hs.wkS [3, 4, 5, 6, 13, 14, 15, 16, 64, 65, 66] [0, 1, 2, 3, 4, 5] [0, 1, 2, 3] rfl rfl rfl rfl)
            clear hs hL
            refine TA_yes htb (by kernel_rfl) rfl rfl rfl (congrArg (fun b => some (Value.bool b)) hg5) (OpT_bin rfl rfl rfl rfl rfl (bin_neq_i (a := bytes1.2) (b := bytes2.2))) ?_
            rintro _ rfl
            refine TA_step htb (by kernel_rfl) rfl rfl (OpT_pickF rfl rfl rfl (congrArg (fun b => some (Value.bool b)) hg5) rfl) ?_
            refine TA_step htb (by kernel_rfl) rfl rfl (OpT_move rfl rfl rfl rfl) ?_
            refine TA_wkS (fr' := [(3, some (vb1)), (4, some (.pointer (some ⟨b1, 0, none⟩))), (5, some (.pointer (some ⟨b2, 0, none⟩))), (6, some (.pointer (some ⟨b3, 0, none⟩))), (13, some (.pointer (some ⟨b4, 0, none⟩))), (14, some (vI read1.2)), (15, some (.pointer (some ⟨b5, 0, none⟩))), (16, some (vI read2.2)), (69, some (vB (bytes1.2 != bytes2.2)))]) (own' := [some (cellsR b1 38 [vU8 f.Dst.a0, vU8 f.Dst.a1, vU8 f.Dst.a2, vU8 f.Dst.a3, vU8 f.Dst.a4, vU8 f.Dst.a5, vU8 f.Src.a0, vU8 f.Src.a1, vU8 f.Src.a2, vU8 f.Src.a3, vU8 f.Src.a4, vU8 f.Src.a5, vI f.Vlan, vU16 f.Type_, vf1]), some (cellsR b2 38 [vU8 g.Dst.a0, vU8 g.Dst.a1, vU8 g.Dst.a2, vU8 g.Dst.a3, vU8 g.Dst.a4, vU8 g.Dst.a5, vU8 g.Src.a0, vU8 g.Src.a1, vU8 g.Src.a2, vU8 g.Src.a3, vU8 g.Src.a4, vU8 g.Src.a5, vI g.Vlan, vU16 g.Type_, vg1]), some (cellsR b3 34 [vU8 hp2.Flags, vU16 hp2.Start, vU16 hp2.Off, vU16 hp2.Buffers]), some (cellsR b4 38 [vU8 read1.1.Dst.a0, vU8 read1.1.Dst.a1, vU8 read1.1.Dst.a2, vU8 read1.1.Dst.a3, vU8 read1.1.Dst.a4, vU8 read1.1.Dst.a5, vU8 read1.1.Src.a0, vU8 read1.1.Src.a1, vU8 read1.1.Src.a2, vU8 read1.1.Src.a3, vU8 read1.1.Src.a4, vU8 read1.1.Src.a5, vI read1.1.Vlan, vU16 read1.1.Type_, v4]), some (rowS u8S v5 read2.1.Data), some (cellsR b5 38 [vU8 read2.1.Dst.a0, vU8 read2.1.Dst.a1, vU8 read2.1.Dst.a2, vU8 read2.1.Dst.a3, vU8 read2.1.Dst.a4, vU8 read2.1.Dst.a5, vU8 read2.1.Src.a0, vU8 read2.1.Src.a1, vU8 read2.1.Src.a2, vU8 read2.1.Src.a3, vU8 read2.1.Src.a4, vU8 read2.1.Src.a5, vI read2.1.Vlan, vU16 read2.1.Type_, v5])]) (shr' := [Fact.sl u8S vf1 f.Data, Fact.sl u8S vg1 g.Data, Fact.sl u8S vb1 b, Fact.sl u8S v4 read1.1.Data]) [3, 4, 5, 6, 13, 14, 15, 16, 69] [0, 1, 2, 3, 4, 5] [0, 1, 2, 3] rfl rfl rfl rfl ?_
            obtain ⟨hg6, h⟩ := chk_e h
            replace hg6 := not_t hg6
            refine TA_seg (lo := 11) (hi := 13) htb rfl rfl (by kernel_rfl) (fun c L a w => Sat c ⟨[(3, some (vb1)), (4, some (.pointer (some ⟨b1, 0, none⟩))), (5, some (.pointer (some ⟨b2, 0, none⟩))), (6, some (.pointer (some ⟨b3, 0, none⟩))), (13, some (.pointer (some ⟨b4, 0, none⟩))), (14, some (vI read1.2)), (15, some (.pointer (some ⟨b5, 0, none⟩))), (16, some (vI read2.2)), (69, some (vB (bytes1.2 != bytes2.2))), (70, bif L 11 then some (.agg #[vU8 read1.1.Dst.a0, vU8 read1.1.Dst.a1, vU8 read1.1.Dst.a2, vU8 read1.1.Dst.a3, vU8 read1.1.Dst.a4, vU8 read1.1.Dst.a5, vU8 read1.1.Src.a0, vU8 read1.1.Src.a1, vU8 read1.1.Src.a2, vU8 read1.1.Src.a3, vU8 read1.1.Src.a4, vU8 read1.1.Src.a5, vI read1.1.Vlan, vU16 read1.1.Type_, v4]) else none), (71, bif L 12 then some (.agg #[vU8 read2.1.Dst.a0, vU8 read2.1.Dst.a1, vU8 read2.1.Dst.a2, vU8 read2.1.Dst.a3, vU8 read2.1.Dst.a4, vU8 read2.1.Dst.a5, vU8 read2.1.Src.a0, vU8 read2.1.Src.a1, vU8 read2.1.Src.a2, vU8 read2.1.Src.a3, vU8 read2.1.Src.a4, vU8 read2.1.Src.a5, vI read2.1.Vlan, vU16 read2.1.Type_, v5]) else none)], [(some (cellsR b1 38 [vU8 f.Dst.a0, vU8 f.Dst.a1, vU8 f.Dst.a2, vU8 f.Dst.a3, vU8 f.Dst.a4, vU8 f.Dst.a5, vU8 f.Src.a0, vU8 f.Src.a1, vU8 f.Src.a2, vU8 f.Src.a3, vU8 f.Src.a4, vU8 f.Src.a5, vI f.Vlan, vU16 f.Type_, vf1]) : Option Res), (some (cellsR b2 38 [vU8 g.Dst.a0, vU8 g.Dst.a1, vU8 g.Dst.a2, vU8 g.Dst.a3, vU8 g.Dst.a4, vU8 g.Dst.a5, vU8 g.Src.a0, vU8 g.Src.a1, vU8 g.Src.a2, vU8 g.Src.a3, vU8 g.Src.a4, vU8 g.Src.a5, vI g.Vlan, vU16 g.Type_, vg1]) : Option Res), (some (cellsR b3 34 [vU8 hp2.Flags, vU16 hp2.Start, vU16 hp2.Off, vU16 hp2.Buffers]) : Option Res), (some (cellsR b4 38 [vU8 read1.1.Dst.a0, vU8 read1.1.Dst.a1, vU8 read1.1.Dst.a2, vU8 read1.1.Dst.a3, vU8 read1.1.Dst.a4, vU8 read1.1.Dst.a5, vU8 read1.1.Src.a0, vU8 read1.1.Src.a1, vU8 read1.1.Src.a2, vU8 read1.1.Src.a3, vU8 read1.1.Src.a4, vU8 read1.1.Src.a5, vI read1.1.Vlan, vU16 read1.1.Type_, v4]) : Option Res), (some (rowS u8S v5 read2.1.Data) : Option Res), (some (cellsR b5 38 [vU8 read2.1.Dst.a0, vU8 read2.1.Dst.a1, vU8 read2.1.Dst.a2, vU8 read2.1.Dst.a3, vU8 read2.1.Dst.a4, vU8 read2.1.Dst.a5, vU8 read2.1.Src.a0, vU8 read2.1.Src.a1, vU8 read2.1.Src.a2, vU8 read2.1.Src.a3, vU8 read2.1.Src.a4, vU8 read2.1.Src.a5, vI read2.1.Vlan, vU16 read2.1.Type_, v5]) : Option Res)], [Fact.sl u8S vf1 f.Data, Fact.sl u8S vg1 g.Data, Fact.sl u8S vb1 b, Fact.sl u8S v4 read1.1.Data]⟩ a w) [([], []), ([], [])] rfl (by kernel_rfl) ?_ (steps_cons ?_ (steps_cons ?_ (steps_nil))) ?_
            · intro a w hs
              exact hs.startF [70, 71] [0, 1, 2, 3, 4, 5] [0, 1, 2, 3] rfl rfl rfl rfl
            · intro L a w hv K Q hK
              have hs := hv
              refine wpOp_yes rfl rfl rfl hs (congrArg (fun b => some (Value.bool b)) hg6) (OpT_loadCA (vs := [vU8 read1.1.Dst.a0, vU8 read1.1.Dst.a1, vU8 read1.1.Dst.a2, vU8 read1.1.Dst.a3, vU8 read1.1.Dst.a4, vU8 read1.1.Dst.a5, vU8 read1.1.Src.a0, vU8 read1.1.Src.a1, vU8 read1.1.Src.a2, vU8 read1.1.Src.a3, vU8 read1.1.Src.a4, vU8 read1.1.Src.a5, vI read1.1.Vlan, vU16 read1.1.Type_, v4]) rfl rfl rfl rfl tyF38 (i := 3) rfl rfl rfl) ?_
              rintro _ rfl a' w' hs'
              exact hK a' w' (hs'.putF (i := 9) rfl [0, 1, 2, 3, 4, 5] [0, 1, 2, 3] rfl rfl rfl rfl)
            · intro L a w hv K Q hK
              have hs := hv
              refine wpOp_yes rfl rfl rfl hs (congrArg (fun b => some (Value.bool b)) hg6) (OpT_loadCA (vs := [vU8 read2.1.Dst.a0, vU8 read2.1.Dst.a1, vU8 read2.1.Dst.a2, vU8 read2.1.Dst.a3, vU8 read2.1.Dst.a4, vU8 read2.1.Dst.a5, vU8 read2.1.Src.a0, vU8 read2.1.Src.a1, vU8 read2.1.Src.a2, vU8 read2.1.Src.a3, vU8 read2.1.Src.a4, vU8 read2.1.Src.a5, vI read2.1.Vlan, vU16 read2.1.Type_, v5]) rfl rfl rfl rfl tyF38 (i := 5) rfl rfl rfl) ?_
              rintro _ rfl a' w' hs'
              exact hK a' w' (hs'.putF (i := 10) rfl [0, 1, 2, 3, 4, 5] [0, 1, 2, 3] rfl rfl rfl rfl)
            · intro L a w hL hv
              rw [allTrue hL] at hv
              have hs := hv
              refine (show TA _ _ _ 13 ⟨[(3, some (vb1)), (4, some (.pointer (some ⟨b1, 0, none⟩))), (5, some (.pointer (some ⟨b2, 0, none⟩))), (6, some (.pointer (some ⟨b3, 0, none⟩))), (14, some (vI read1.2)), (16, some (vI read2.2)), (69, some (vB (bytes1.2 != bytes2.2))), (70, some (.agg #[vU8 read1.1.Dst.a0, vU8 read1.1.Dst.a1, vU8 read1.1.Dst.a2, vU8 read1.1.Dst.a3, vU8 read1.1.Dst.a4, vU8 read1.1.Dst.a5, vU8 read1.1.Src.a0, vU8 read1.1.Src.a1, vU8 read1.1.Src.a2, vU8 read1.1.Src.a3, vU8 read1.1.Src.a4, vU8 read1.1.Src.a5, vI read1.1.Vlan, vU16 read1.1.Type_, v4])), (71, some (.agg #[vU8 read2.1.Dst.a0, vU8 read2.1.Dst.a1, vU8 read2.1.Dst.a2, vU8 read2.1.Dst.a3, vU8 read2.1.Dst.a4, vU8 read2.1.Dst.a5, vU8 read2.1.Src.a0, vU8 read2.1.Src.a1, vU8 read2.1.Src.a2, vU8 read2.1.Src.a3, vU8 read2.1.Src.a4, vU8 read2.1.Src.a5, vI read2.1.Vlan, vU16 read2.1.Type_, v5]))], [some (cellsR b1 38 [vU8 f.Dst.a0, vU8 f.Dst.a1, vU8 f.Dst.a2, vU8 f.Dst.a3, vU8 f.Dst.a4, vU8 f.Dst.a5, vU8 f.Src.a0, vU8 f.Src.a1, vU8 f.Src.a2, vU8 f.Src.a3, vU8 f.Src.a4, vU8 f.Src.a5, vI f.Vlan, vU16 f.Type_, vf1]), some (cellsR b2 38 [vU8 g.Dst.a0, vU8 g.Dst.a1, vU8 g.Dst.a2, vU8 g.Dst.a3, vU8 g.Dst.a4, vU8 g.Dst.a5, vU8 g.Src.a0, vU8 g.Src.a1, vU8 g.Src.a2, vU8 g.Src.a3, vU8 g.Src.a4, vU8 g.Src.a5, vI g.Vlan, vU16 g.Type_, vg1]), some (cellsR b3 34 [vU8 hp2.Flags, vU16 hp2.Start, vU16 hp2.Off, vU16 hp2.Buffers]), some (rowS u8S v5 read2.1.Data)], [Fact.sl u8S vf1 f.Data, Fact.sl u8S vg1 g.Data, Fact.sl u8S vb1 b, Fact.sl u8S v4 read1.1.Data]⟩ from ?_) a w (hs.wkS [3, 4, 5, 6, 14, 16, 69, 70, 71] [0, 1, 2, 4] [0, 1, 2, 3] rfl rfl rfl rfl)
              clear hs hL
              obtain ⟨frame1, hx7, h⟩ := ob_e h
              refine TA_yes htb (by kernel_rfl) rfl rfl rfl (congrArg (fun b => some (Value.bool b)) hg6) (OpT_callB [3] [0, 1, 2, 3] (w_kit_Frame hx7) [] rfl rfl rfl rfl rfl callee26 rfl rfl rfl rfl rfl rfl (bor_cons (bor_shr 3 rfl) (bor_cons (bor_row 3 rfl rfl) bor_nil)) (by rintro _ _ _ ⟨rfl, rfl, rfl⟩; exact ⟨rfl, ri_nil⟩)) ?_
              rintro _ ⟨_, _, _, ⟨rfl, rfl, rfl⟩, rfl⟩
              refine TA_yes htb (by kernel_rfl) rfl rfl rfl (congrArg (fun b => some (Value.bool b)) hg6) (OpT_not rfl rfl rfl rfl) ?_
              rintro _ rfl
              refine TA_step htb (by kernel_rfl) rfl rfl (OpT_pickF rfl rfl rfl (congrArg (fun b => some (Value.bool b)) hg6) rfl) ?_
              refine TA_step htb (by kernel_rfl) rfl rfl (OpT_move rfl rfl rfl rfl) ?_
              refine TA_wkS (fr' := [(3, some (vb1)), (4, some (.pointer (some ⟨b1, 0, none⟩))), (5, some (.pointer (some ⟨b2, 0, none⟩))), (6, some (.pointer (some ⟨b3, 0, none⟩))), (14, some (vI read1.2)), (16, some (vI read2.2)), (75, some (vB (!frame1)))]) (own' := [some (cellsR b1 38 [vU8 f.Dst.a0, vU8 f.Dst.a1, vU8 f.Dst.a2, vU8 f.Dst.a3, vU8 f.Dst.a4, vU8 f.Dst.a5, vU8 f.Src.a0, vU8 f.Src.a1, vU8 f.Src.a2, vU8 f.Src.a3, vU8 f.Src.a4, vU8 f.Src.a5, vI f.Vlan, vU16 f.Type_, vf1]), some (cellsR b2 38 [vU8 g.Dst.a0, vU8 g.Dst.a1, vU8 g.Dst.a2, vU8 g.Dst.a3, vU8 g.Dst.a4, vU8 g.Dst.a5, vU8 g.Src.a0, vU8 g.Src.a1, vU8 g.Src.a2, vU8 g.Src.a3, vU8 g.Src.a4, vU8 g.Src.a5, vI g.Vlan, vU16 g.Type_, vg1]), some (cellsR b3 34 [vU8 hp2.Flags, vU16 hp2.Start, vU16 hp2.Off, vU16 hp2.Buffers])]) (shr' := [Fact.sl u8S vf1 f.Data, Fact.sl u8S vg1 g.Data, Fact.sl u8S vb1 b]) [3, 4, 5, 6, 14, 16, 75] [0, 1, 2] [0, 1, 2] rfl rfl rfl rfl ?_
              obtain ⟨hg7, h⟩ := chk_e h
              replace hg7 := not_t hg7
              refine TA_seg (lo := 17) (hi := 19) htb rfl rfl (by kernel_rfl) (fun c L a w => Sat c ⟨[(3, some (vb1)), (4, some (.pointer (some ⟨b1, 0, none⟩))), (5, some (.pointer (some ⟨b2, 0, none⟩))), (6, some (.pointer (some ⟨b3, 0, none⟩))), (14, some (vI read1.2)), (16, some (vI read2.2)), (75, some (vB (!frame1))), (76, bif L 17 then some (vI read1.2) else none), (77, bif L 18 then some (vI read2.2) else none)], [(some (cellsR b1 38 [vU8 f.Dst.a0, vU8 f.Dst.a1, vU8 f.Dst.a2, vU8 f.Dst.a3, vU8 f.Dst.a4, vU8 f.Dst.a5, vU8 f.Src.a0, vU8 f.Src.a1, vU8 f.Src.a2, vU8 f.Src.a3, vU8 f.Src.a4, vU8 f.Src.a5, vI f.Vlan, vU16 f.Type_, vf1]) : Option Res), (some (cellsR b2 38 [vU8 g.Dst.a0, vU8 g.Dst.a1, vU8 g.Dst.a2, vU8 g.Dst.a3, vU8 g.Dst.a4, vU8 g.Dst.a5, vU8 g.Src.a0, vU8 g.Src.a1, vU8 g.Src.a2, vU8 g.Src.a3, vU8 g.Src.a4, vU8 g.Src.a5, vI g.Vlan, vU16 g.Type_, vg1]) : Option Res), (some (cellsR b3 34 [vU8 hp2.Flags, vU16 hp2.Start, vU16 hp2.Off, vU16 hp2.Buffers]) : Option Res)], [Fact.sl u8S vf1 f.Data, Fact.sl u8S vg1 g.Data, Fact.sl u8S vb1 b]⟩ a w) [([], []), ([], [])] rfl (by kernel_rfl) ?_ (steps_cons ?_ (steps_cons ?_ (steps_nil))) ?_
              · intro a w hs
                exact hs.startF [76, 77] [0, 1, 2] [0, 1, 2] rfl rfl rfl rfl
              · intro L a w hv K Q hK
                have hs := hv
                refine wpOp_yes rfl rfl rfl hs (congrArg (fun b => some (Value.bool b)) hg7) (OpT_move rfl rfl rfl rfl) ?_
                rintro _ rfl a' w' hs'
                exact hK a' w' (hs'.putF (i := 7) rfl [0, 1, 2] [0, 1, 2] rfl rfl rfl rfl)
              · intro L a w hv K Q hK
                have hs := hv
                refine wpOp_yes rfl rfl rfl hs (congrArg (fun b => some (Value.bool b)) hg7) (OpT_move rfl rfl rfl rfl) ?_
                rintro _ rfl a' w' hs'
                exact hK a' w' (hs'.putF (i := 8) rfl [0, 1, 2] [0, 1, 2] rfl rfl rfl rfl)
              · intro L a w hL hv
                rw [allTrue hL] at hv
                have hs := hv
                refine (show TA _ _ _ 19 ⟨[(3, some (vb1)), (4, some (.pointer (some ⟨b1, 0, none⟩))), (5, some (.pointer (some ⟨b2, 0, none⟩))), (6, some (.pointer (some ⟨b3, 0, none⟩))), (75, some (vB (!frame1))), (76, some (vI read1.2)), (77, some (vI read2.2))], [some (cellsR b1 38 [vU8 f.Dst.a0, vU8 f.Dst.a1, vU8 f.Dst.a2, vU8 f.Dst.a3, vU8 f.Dst.a4, vU8 f.Dst.a5, vU8 f.Src.a0, vU8 f.Src.a1, vU8 f.Src.a2, vU8 f.Src.a3, vU8 f.Src.a4, vU8 f.Src.a5, vI f.Vlan, vU16 f.Type_, vf1]), some (cellsR b2 38 [vU8 g.Dst.a0, vU8 g.Dst.a1, vU8 g.Dst.a2, vU8 g.Dst.a3, vU8 g.Dst.a4, vU8 g.Dst.a5, vU8 g.Src.a0, vU8 g.Src.a1, vU8 g.Src.a2, vU8 g.Src.a3, vU8 g.Src.a4, vU8 g.Src.a5, vI g.Vlan, vU16 g.Type_, vg1]), some (cellsR b3 34 [vU8 hp2.Flags, vU16 hp2.Start, vU16 hp2.Off, vU16 hp2.Buffers])], [Fact.sl u8S vf1 f.Data, Fact.sl u8S vg1 g.Data, Fact.sl u8S vb1 b]⟩ from ?_) a w (hs.wkS [3, 4, 5, 6, 75, 76, 77] [0, 1, 2] [0, 1, 2] rfl rfl rfl rfl)
                clear hs hL
                refine TA_yes htb (by kernel_rfl) rfl rfl rfl (congrArg (fun b => some (Value.bool b)) hg7) (OpT_bin rfl rfl rfl rfl rfl (bin_neq_i (a := read1.2) (b := read2.2))) ?_
                rintro _ rfl
                refine TA_step htb (by kernel_rfl) rfl rfl (OpT_pickF rfl rfl rfl (congrArg (fun b => some (Value.bool b)) hg7) rfl) ?_
                refine TA_step htb (by kernel_rfl) rfl rfl (OpT_move rfl rfl rfl rfl) ?_
                refine TA_wkS (fr' := [(3, some (vb1)), (4, some (.pointer (some ⟨b1, 0, none⟩))), (5, some (.pointer (some ⟨b2, 0, none⟩))), (6, some (.pointer (some ⟨b3, 0, none⟩))), (80, some (vB (read1.2 != read2.2)))]) (own' := [some (cellsR b1 38 [vU8 f.Dst.a0, vU8 f.Dst.a1, vU8 f.Dst.a2, vU8 f.Dst.a3, vU8 f.Dst.a4, vU8 f.Dst.a5, vU8 f.Src.a0, vU8 f.Src.a1, vU8 f.Src.a2, vU8 f.Src.a3, vU8 f.Src.a4, vU8 f.Src.a5, vI f.Vlan, vU16 f.Type_, vf1]), some (cellsR b2 38 [vU8 g.Dst.a0, vU8 g.Dst.a1, vU8 g.Dst.a2, vU8 g.Dst.a3, vU8 g.Dst.a4, vU8 g.Dst.a5, vU8 g.Src.a0, vU8 g.Src.a1, vU8 g.Src.a2, vU8 g.Src.a3, vU8 g.Src.a4, vU8 g.Src.a5, vI g.Vlan, vU16 g.Type_, vg1]), some (cellsR b3 34 [vU8 hp2.Flags, vU16 hp2.Start, vU16 hp2.Off, vU16 hp2.Buffers])]) (shr' := [Fact.sl u8S vf1 f.Data, Fact.sl u8S vg1 g.Data, Fact.sl u8S vb1 b]) [3, 4, 5, 6, 80] [0, 1, 2] [0, 1, 2] rfl rfl rfl rfl ?_
                obtain ⟨hg8, h⟩ := chk_e h
                replace hg8 := not_t hg8
                obtain ⟨check1, hx8, h⟩ := ob_e h
                refine TA_seg (lo := 22) (hi := 25) htb rfl rfl (by kernel_rfl) (fun c L a w => Sat c ⟨[(3, some (vb1)), (4, some (.pointer (some ⟨b1, 0, none⟩))), (5, some (.pointer (some ⟨b2, 0, none⟩))), (6, some (.pointer (some ⟨b3, 0, none⟩))), (80, some (vB (read1.2 != read2.2))), (81, bif L 22 then some (.agg #[vU8 f.Dst.a0, vU8 f.Dst.a1, vU8 f.Dst.a2, vU8 f.Dst.a3, vU8 f.Dst.a4, vU8 f.Dst.a5, vU8 f.Src.a0, vU8 f.Src.a1, vU8 f.Src.a2, vU8 f.Src.a3, vU8 f.Src.a4, vU8 f.Src.a5, vI f.Vlan, vU16 f.Type_, vf1]) else none), (82, bif L 23 then some (vI check1) else none), (83, bif L 24 then some (.agg #[vU8 f.Dst.a0, vU8 f.Dst.a1, vU8 f.Dst.a2, vU8 f.Dst.a3, vU8 f.Dst.a4, vU8 f.Dst.a5, vU8 f.Src.a0, vU8 f.Src.a1, vU8 f.Src.a2, vU8 f.Src.a3, vU8 f.Src.a4, vU8 f.Src.a5, vI f.Vlan, vU16 f.Type_, vf1]) else none)], [(some (cellsR b1 38 [vU8 f.Dst.a0, vU8 f.Dst.a1, vU8 f.Dst.a2, vU8 f.Dst.a3, vU8 f.Dst.a4, vU8 f.Dst.a5, vU8 f.Src.a0, vU8 f.Src.a1, vU8 f.Src.a2, vU8 f.Src.a3, vU8 f.Src.a4, vU8 f.Src.a5, vI f.Vlan, vU16 f.Type_, vf1]) : Option Res), (some (cellsR b2 38 [vU8 g.Dst.a0, vU8 g.Dst.a1, vU8 g.Dst.a2, vU8 g.Dst.a3, vU8 g.Dst.a4, vU8 g.Dst.a5, vU8 g.Src.a0, vU8 g.Src.a1, vU8 g.Src.a2, vU8 g.Src.a3, vU8 g.Src.a4, vU8 g.Src.a5, vI g.Vlan, vU16 g.Type_, vg1]) : Option Res), (some (cellsR b3 34 [vU8 hp2.Flags, vU16 hp2.Start, vU16 hp2.Off, vU16 hp2.Buffers]) : Option Res)], [Fact.sl u8S vf1 f.Data, Fact.sl u8S vg1 g.Data, Fact.sl u8S vb1 b]⟩ a w) [([], [23]), ([22], []), ([], [])] rfl (by kernel_rfl) ?_ (steps_cons ?_ (steps_cons ?_ (steps_cons ?_ (steps_nil)))) ?_
                · intro a w hs
                  exact hs.startF [81, 82, 83] [0, 1, 2] [0, 1, 2] rfl rfl rfl rfl
                · intro L a w hv K Q hK
                  have hs := hv
                  refine wpOp_yes rfl rfl rfl hs (congrArg (fun b => some (Value.bool b)) hg8) (OpT_loadCA (vs := [vU8 f.Dst.a0, vU8 f.Dst.a1, vU8 f.Dst.a2, vU8 f.Dst.a3, vU8 f.Dst.a4, vU8 f.Dst.a5, vU8 f.Src.a0, vU8 f.Src.a1, vU8 f.Src.a2, vU8 f.Src.a3, vU8 f.Src.a4, vU8 f.Src.a5, vI f.Vlan, vU16 f.Type_, vf1]) rfl rfl rfl rfl tyF38 (i := 0) rfl rfl rfl) ?_
                  rintro _ rfl a' w' hs'
                  exact hK a' w' (hs'.putF (i := 5) rfl [0, 1, 2] [0, 1, 2] rfl rfl rfl rfl)
                · intro L a w hv K Q hK
                  have hs := hv
                  refine wpOp_yes rfl rfl rfl hs (congrArg (fun b => some (Value.bool b)) hg8) (OpT_call (w_frame_Check hx8) [] [0] rfl rfl rfl rfl rfl callee20 rfl rfl rfl rfl) ?_
                  rintro _ ⟨_, _, _, ⟨rfl, rfl, rfl⟩, rfl⟩ a' w' hs'
                  exact hK a' w' (hs'.putF (i := 6) rfl [0, 1, 2] [0, 1, 2] rfl rfl rfl rfl)
                · intro L a w hv K Q hK
                  have hs := hv
                  refine wpOp_yes rfl rfl rfl hs (congrArg (fun b => some (Value.bool b)) hg8) (OpT_loadCA (vs := [vU8 f.Dst.a0, vU8 f.Dst.a1, vU8 f.Dst.a2, vU8 f.Dst.a3, vU8 f.Dst.a4, vU8 f.Dst.a5, vU8 f.Src.a0, vU8 f.Src.a1, vU8 f.Src.a2, vU8 f.Src.a3, vU8 f.Src.a4, vU8 f.Src.a5, vI f.Vlan, vU16 f.Type_, vf1]) rfl rfl rfl rfl tyF38 (i := 0) rfl rfl rfl) ?_
                  rintro _ rfl a' w' hs'
                  exact hK a' w' (hs'.putF (i := 7) rfl [0, 1, 2] [0, 1, 2] rfl rfl rfl rfl)
                · intro L a w hL hv
                  rw [allTrue hL] at hv
                  have hs := hv
                  refine (show TA _ _ _ 25 ⟨[(3, some (vb1)), (4, some (.pointer (some ⟨b1, 0, none⟩))), (5, some (.pointer (some ⟨b2, 0, none⟩))), (6, some (.pointer (some ⟨b3, 0, none⟩))), (80, some (vB (read1.2 != read2.2))), (82, some (vI check1)), (83, some (.agg #[vU8 f.Dst.a0, vU8 f.Dst.a1, vU8 f.Dst.a2, vU8 f.Dst.a3, vU8 f.Dst.a4, vU8 f.Dst.a5, vU8 f.Src.a0, vU8 f.Src.a1, vU8 f.Src.a2, vU8 f.Src.a3, vU8 f.Src.a4, vU8 f.Src.a5, vI f.Vlan, vU16 f.Type_, vf1]))], [some (cellsR b1 38 [vU8 f.Dst.a0, vU8 f.Dst.a1, vU8 f.Dst.a2, vU8 f.Dst.a3, vU8 f.Dst.a4, vU8 f.Dst.a5, vU8 f.Src.a0, vU8 f.Src.a1, vU8 f.Src.a2, vU8 f.Src.a3, vU8 f.Src.a4, vU8 f.Src.a5, vI f.Vlan, vU16 f.Type_, vf1]), some (cellsR b2 38 [vU8 g.Dst.a0, vU8 g.Dst.a1, vU8 g.Dst.a2, vU8 g.Dst.a3, vU8 g.Dst.a4, vU8 g.Dst.a5, vU8 g.Src.a0, vU8 g.Src.a1, vU8 g.Src.a2, vU8 g.Src.a3, vU8 g.Src.a4, vU8 g.Src.a5, vI g.Vlan, vU16 g.Type_, vg1]), some (cellsR b3 34 [vU8 hp2.Flags, vU16 hp2.Start, vU16 hp2.Off, vU16 hp2.Buffers])], [Fact.sl u8S vf1 f.Data, Fact.sl u8S vg1 g.Data, Fact.sl u8S vb1 b]⟩ from ?_) a w (hs.wkS [3, 4, 5, 6, 80, 82, 83] [0, 1, 2] [0, 1, 2] rfl rfl rfl rfl)
                  clear hs hL
                  obtain ⟨check2, hx9, h⟩ := ob_e h
                  refine TA_yes htb (by kernel_rfl) rfl rfl rfl (congrArg (fun b => some (Value.bool b)) hg8) (OpT_call (w_ref_Check23 hx9) [] [0] rfl rfl rfl rfl rfl callee27 rfl rfl rfl rfl) ?_
                  rintro _ ⟨_, _, _, ⟨rfl, rfl, rfl⟩, rfl⟩
                  refine TA_yes htb (by kernel_rfl) rfl rfl rfl (congrArg (fun b => some (Value.bool b)) hg8) (OpT_bin rfl rfl rfl rfl rfl (bin_neq_i (a := check1) (b := check2))) ?_
                  rintro _ rfl
                  refine TA_step htb (by kernel_rfl) rfl rfl (OpT_pickF rfl rfl rfl (congrArg (fun b => some (Value.bool b)) hg8) rfl) ?_
                  refine TA_step htb (by kernel_rfl) rfl rfl (OpT_move rfl rfl rfl rfl) ?_
                  refine TA_wkS (fr' := [(3, some (vb1)), (4, some (.pointer (some ⟨b1, 0, none⟩))), (5, some (.pointer (some ⟨b2, 0, none⟩))), (6, some (.pointer (some ⟨b3, 0, none⟩))), (87, some (vB (check1 != check2)))]) (own' := [some (cellsR b1 38 [vU8 f.Dst.a0, vU8 f.Dst.a1, vU8 f.Dst.a2, vU8 f.Dst.a3, vU8 f.Dst.a4, vU8 f.Dst.a5, vU8 f.Src.a0, vU8 f.Src.a1, vU8 f.Src.a2, vU8 f.Src.a3, vU8 f.Src.a4, vU8 f.Src.a5, vI f.Vlan, vU16 f.Type_, vf1]), some (cellsR b2 38 [vU8 g.Dst.a0, vU8 g.Dst.a1, vU8 g.Dst.a2, vU8 g.Dst.a3, vU8 g.Dst.a4, vU8 g.Dst.a5, vU8 g.Src.a0, vU8 g.Src.a1, vU8 g.Src.a2, vU8 g.Src.a3, vU8 g.Src.a4, vU8 g.Src.a5, vI g.Vlan, vU16 g.Type_, vg1]), some (cellsR b3 34 [vU8 hp2.Flags, vU16 hp2.Start, vU16 hp2.Off, vU16 hp2.Buffers])]) (shr' := [Fact.sl u8S vf1 f.Data, Fact.sl u8S vg1 g.Data, Fact.sl u8S vb1 b]) [3, 4, 5, 6, 87] [0, 1, 2] [0, 1, 2] rfl rfl rfl rfl ?_
                  obtain ⟨hg9, h⟩ := chk_e h
                  replace hg9 := not_t hg9
                  obtain ⟨same1, hx10, h⟩ := ob_e h
                  refine TA_seg (lo := 29) (hi := 34) htb rfl rfl (by kernel_rfl) (fun c L a w => Sat c ⟨[(3, some (vb1)), (4, some (.pointer (some ⟨b1, 0, none⟩))), (5, some (.pointer (some ⟨b2, 0, none⟩))), (6, some (.pointer (some ⟨b3, 0, none⟩))), (87, some (vB (check1 != check2))), (88, bif L 29 then some (.agg #[vU8 f.Dst.a0, vU8 f.Dst.a1, vU8 f.Dst.a2, vU8 f.Dst.a3, vU8 f.Dst.a4, vU8 f.Dst.a5, vU8 f.Src.a0, vU8 f.Src.a1, vU8 f.Src.a2, vU8 f.Src.a3, vU8 f.Src.a4, vU8 f.Src.a5, vI f.Vlan, vU16 f.Type_, vf1]) else none), (89, bif L 30 then some (.agg #[vU8 g.Dst.a0, vU8 g.Dst.a1, vU8 g.Dst.a2, vU8 g.Dst.a3, vU8 g.Dst.a4, vU8 g.Dst.a5, vU8 g.Src.a0, vU8 g.Src.a1, vU8 g.Src.a2, vU8 g.Src.a3, vU8 g.Src.a4, vU8 g.Src.a5, vI g.Vlan, vU16 g.Type_, vg1]) else none), (90, bif L 31 then some (vB same1) else none), (91, bif L 32 then some (.agg #[vU8 f.Dst.a0, vU8 f.Dst.a1, vU8 f.Dst.a2, vU8 f.Dst.a3, vU8 f.Dst.a4, vU8 f.Dst.a5, vU8 f.Src.a0, vU8 f.Src.a1, vU8 f.Src.a2, vU8 f.Src.a3, vU8 f.Src.a4, vU8 f.Src.a5, vI f.Vlan, vU16 f.Type_, vf1]) else none), (92, bif L 33 then some (.agg #[vU8 g.Dst.a0, vU8 g.Dst.a1, vU8 g.Dst.a2, vU8 g.Dst.a3, vU8 g.Dst.a4, vU8 g.Dst.a5, vU8 g.Src.a0, vU8 g.Src.a1, vU8 g.Src.a2, vU8 g.Src.a3, vU8 g.Src.a4, vU8 g.Src.a5, vI g.Vlan, vU16 g.Type_, vg1]) else none)], [(some (cellsR b1 38 [vU8 f.Dst.a0, vU8 f.Dst.a1, vU8 f.Dst.a2, vU8 f.Dst.a3, vU8 f.Dst.a4, vU8 f.Dst.a5, vU8 f.Src.a0, vU8 f.Src.a1, vU8 f.Src.a2, vU8 f.Src.a3, vU8 f.Src.a4, vU8 f.Src.a5, vI f.Vlan, vU16 f.Type_, vf1]) : Option Res), (some (cellsR b2 38 [vU8 g.Dst.a0, vU8 g.Dst.a1, vU8 g.Dst.a2, vU8 g.Dst.a3, vU8 g.Dst.a4, vU8 g.Dst.a5, vU8 g.Src.a0, vU8 g.Src.a1, vU8 g.Src.a2, vU8 g.Src.a3, vU8 g.Src.a4, vU8 g.Src.a5, vI g.Vlan, vU16 g.Type_, vg1]) : Option Res), (some (cellsR b3 34 [vU8 hp2.Flags, vU16 hp2.Start, vU16 hp2.Off, vU16 hp2.Buffers]) : Option Res)], [Fact.sl u8S vf1 f.Data, Fact.sl u8S vg1 g.Data, Fact.sl u8S vb1 b]⟩ a w) [([], [31]), ([], [31]), ([29, 30], []), ([], []), ([], [])] rfl (by kernel_rfl) ?_ (steps_cons ?_ (steps_cons ?_ (steps_cons ?_ (steps_cons ?_ (steps_cons ?_ (steps_nil)))))) ?_
                  · intro a w hs
                    exact hs.startF [88, 89, 90, 91, 92] [0, 1, 2] [0, 1, 2] rfl rfl rfl rfl
                  · intro L a w hv K Q hK
                    have hs := hv
                    refine wpOp_yes rfl rfl rfl hs (congrArg (fun b => some (Value.bool b)) hg9) (OpT_loadCA (vs := [vU8 f.Dst.a0, vU8 f.Dst.a1, vU8 f.Dst.a2, vU8 f.Dst.a3, vU8 f.Dst.a4, vU8 f.Dst.a5, vU8 f.Src.a0, vU8 f.Src.a1, vU8 f.Src.a2, vU8 f.Src.a3, vU8 f.Src.a4, vU8 f.Src.a5, vI f.Vlan, vU16 f.Type_, vf1]) rfl rfl rfl rfl tyF38 (i := 0) rfl rfl rfl) ?_
                    rintro _ rfl a' w' hs'
                    exact hK a' w' (hs'.putF (i := 5) rfl [0, 1, 2] [0, 1, 2] rfl rfl rfl rfl)
                  · intro L a w hv K Q hK
                    have hs := hv
                    refine wpOp_yes rfl rfl rfl hs (congrArg (fun b => some (Value.bool b)) hg9) (OpT_loadCA (vs := [vU8 g.Dst.a0, vU8 g.Dst.a1, vU8 g.Dst.a2, vU8 g.Dst.a3, vU8 g.Dst.a4, vU8 g.Dst.a5, vU8 g.Src.a0, vU8 g.Src.a1, vU8 g.Src.a2, vU8 g.Src.a3, vU8 g.Src.a4, vU8 g.Src.a5, vI g.Vlan, vU16 g.Type_, vg1]) rfl rfl rfl rfl tyF38 (i := 1) rfl rfl rfl) ?_
                    rintro _ rfl a' w' hs'
                    exact hK a' w' (hs'.putF (i := 6) rfl [0, 1, 2] [0, 1, 2] rfl rfl rfl rfl)
                  · intro L a w hv K Q hK
                    have hs := hv
                    refine wpOp_yes rfl rfl rfl hs (congrArg (fun b => some (Value.bool b)) hg9) (OpT_call (w_frame_Same hx10) [] [0, 1] rfl rfl rfl rfl rfl callee21 rfl rfl rfl rfl) ?_
                    rintro _ ⟨_, _, _, ⟨rfl, rfl, rfl⟩, rfl⟩ a' w' hs'
                    exact hK a' w' (hs'.putF (i := 7) rfl [0, 1, 2] [0, 1, 2] rfl rfl rfl rfl)
                  · intro L a w hv K Q hK
                    have hs := hv
                    refine wpOp_yes rfl rfl rfl hs (congrArg (fun b => some (Value.bool b)) hg9) (OpT_loadCA (vs := [vU8 f.Dst.a0, vU8 f.Dst.a1, vU8 f.Dst.a2, vU8 f.Dst.a3, vU8 f.Dst.a4, vU8 f.Dst.a5, vU8 f.Src.a0, vU8 f.Src.a1, vU8 f.Src.a2, vU8 f.Src.a3, vU8 f.Src.a4, vU8 f.Src.a5, vI f.Vlan, vU16 f.Type_, vf1]) rfl rfl rfl rfl tyF38 (i := 0) rfl rfl rfl) ?_
                    rintro _ rfl a' w' hs'
                    exact hK a' w' (hs'.putF (i := 8) rfl [0, 1, 2] [0, 1, 2] rfl rfl rfl rfl)
                  · intro L a w hv K Q hK
                    have hs := hv
                    refine wpOp_yes rfl rfl rfl hs (congrArg (fun b => some (Value.bool b)) hg9) (OpT_loadCA (vs := [vU8 g.Dst.a0, vU8 g.Dst.a1, vU8 g.Dst.a2, vU8 g.Dst.a3, vU8 g.Dst.a4, vU8 g.Dst.a5, vU8 g.Src.a0, vU8 g.Src.a1, vU8 g.Src.a2, vU8 g.Src.a3, vU8 g.Src.a4, vU8 g.Src.a5, vI g.Vlan, vU16 g.Type_, vg1]) rfl rfl rfl rfl tyF38 (i := 1) rfl rfl rfl) ?_
                    rintro _ rfl a' w' hs'
                    exact hK a' w' (hs'.putF (i := 9) rfl [0, 1, 2] [0, 1, 2] rfl rfl rfl rfl)
                  · intro L a w hL hv
                    rw [allTrue hL] at hv
                    have hs := hv
                    refine (show TA _ _ _ 34 ⟨[(3, some (vb1)), (4, some (.pointer (some ⟨b1, 0, none⟩))), (6, some (.pointer (some ⟨b3, 0, none⟩))), (87, some (vB (check1 != check2))), (90, some (vB same1)), (91, some (.agg #[vU8 f.Dst.a0, vU8 f.Dst.a1, vU8 f.Dst.a2, vU8 f.Dst.a3, vU8 f.Dst.a4, vU8 f.Dst.a5, vU8 f.Src.a0, vU8 f.Src.a1, vU8 f.Src.a2, vU8 f.Src.a3, vU8 f.Src.a4, vU8 f.Src.a5, vI f.Vlan, vU16 f.Type_, vf1])), (92, some (.agg #[vU8 g.Dst.a0, vU8 g.Dst.a1, vU8 g.Dst.a2, vU8 g.Dst.a3, vU8 g.Dst.a4, vU8 g.Dst.a5, vU8 g.Src.a0, vU8 g.Src.a1, vU8 g.Src.a2, vU8 g.Src.a3, vU8 g.Src.a4, vU8 g.Src.a5, vI g.Vlan, vU16 g.Type_, vg1]))], [some (cellsR b1 38 [vU8 f.Dst.a0, vU8 f.Dst.a1, vU8 f.Dst.a2, vU8 f.Dst.a3, vU8 f.Dst.a4, vU8 f.Dst.a5, vU8 f.Src.a0, vU8 f.Src.a1, vU8 f.Src.a2, vU8 f.Src.a3, vU8 f.Src.a4, vU8 f.Src.a5, vI f.Vlan, vU16 f.Type_, vf1]), some (cellsR b3 34 [vU8 hp2.Flags, vU16 hp2.Start, vU16 hp2.Off, vU16 hp2.Buffers])], [Fact.sl u8S vf1 f.Data, Fact.sl u8S vg1 g.Data, Fact.sl u8S vb1 b]⟩ from ?_) a w (hs.wkS [3, 4, 6, 87, 90, 91, 92] [0, 2] [0, 1, 2] rfl rfl rfl rfl)
                    clear hs hL
                    obtain ⟨frame2, hx11, h⟩ := ob_e h
                    refine TA_yes htb (by kernel_rfl) rfl rfl rfl (congrArg (fun b => some (Value.bool b)) hg9) (OpT_call (w_kit_Frame hx11) [] [0, 1] rfl rfl rfl rfl rfl callee26 rfl rfl rfl rfl) ?_
                    rintro _ ⟨_, _, _, ⟨rfl, rfl, rfl⟩, rfl⟩
                    refine TA_yes htb (by kernel_rfl) rfl rfl rfl (congrArg (fun b => some (Value.bool b)) hg9) (OpT_bin rfl rfl rfl rfl rfl (bin_neq_b (a := same1) (b := frame2) Try.underlying4)) ?_
                    rintro _ rfl
                    refine TA_step htb (by kernel_rfl) rfl rfl (OpT_pickF rfl rfl rfl (congrArg (fun b => some (Value.bool b)) hg9) rfl) ?_
                    refine TA_step htb (by kernel_rfl) rfl rfl (OpT_move rfl rfl rfl rfl) ?_
                    refine TA_wkS (fr' := [(3, some (vb1)), (4, some (.pointer (some ⟨b1, 0, none⟩))), (6, some (.pointer (some ⟨b3, 0, none⟩))), (96, some (vB (same1 != frame2)))]) (own' := [some (cellsR b1 38 [vU8 f.Dst.a0, vU8 f.Dst.a1, vU8 f.Dst.a2, vU8 f.Dst.a3, vU8 f.Dst.a4, vU8 f.Dst.a5, vU8 f.Src.a0, vU8 f.Src.a1, vU8 f.Src.a2, vU8 f.Src.a3, vU8 f.Src.a4, vU8 f.Src.a5, vI f.Vlan, vU16 f.Type_, vf1]), some (cellsR b3 34 [vU8 hp2.Flags, vU16 hp2.Start, vU16 hp2.Off, vU16 hp2.Buffers])]) (shr' := [Fact.sl u8S vf1 f.Data, Fact.sl u8S vb1 b]) [3, 4, 6, 96] [0, 1] [0, 2] rfl rfl rfl rfl ?_
                    obtain ⟨hg10, h⟩ := chk_e h
                    replace hg10 := not_t hg10
                    obtain ⟨group1, hx12, h⟩ := ob_e h
                    refine TA_seg (lo := 38) (hi := 43) htb rfl rfl (by kernel_rfl) (fun c L a w => Sat c ⟨[(3, some (vb1)), (4, some (.pointer (some ⟨b1, 0, none⟩))), (6, some (.pointer (some ⟨b3, 0, none⟩))), (96, some (vB (same1 != frame2))), (97, bif L 38 then some (.pointer (some ⟨b1, 0, none⟩)) else none), (98, bif L 39 then some (.agg #[vU8 f.Dst.a0, vU8 f.Dst.a1, vU8 f.Dst.a2, vU8 f.Dst.a3, vU8 f.Dst.a4, vU8 f.Dst.a5]) else none), (99, bif L 40 then some (vB group1) else none), (100, bif L 41 then some (.pointer (some ⟨b1, 0, none⟩)) else none), (101, bif L 42 then some (.agg #[vU8 f.Dst.a0, vU8 f.Dst.a1, vU8 f.Dst.a2, vU8 f.Dst.a3, vU8 f.Dst.a4, vU8 f.Dst.a5]) else none)], [(some (cellsR b1 38 [vU8 f.Dst.a0, vU8 f.Dst.a1, vU8 f.Dst.a2, vU8 f.Dst.a3, vU8 f.Dst.a4, vU8 f.Dst.a5, vU8 f.Src.a0, vU8 f.Src.a1, vU8 f.Src.a2, vU8 f.Src.a3, vU8 f.Src.a4, vU8 f.Src.a5, vI f.Vlan, vU16 f.Type_, vf1]) : Option Res), (some (cellsR b3 34 [vU8 hp2.Flags, vU16 hp2.Start, vU16 hp2.Off, vU16 hp2.Buffers]) : Option Res)], [Fact.sl u8S vf1 f.Data, Fact.sl u8S vb1 b]⟩ a w) [([], [39, 40]), ([38], [40]), ([38, 39], []), ([], [42]), ([41], [])] rfl (by kernel_rfl) ?_ (steps_cons ?_ (steps_cons ?_ (steps_cons ?_ (steps_cons ?_ (steps_cons ?_ (steps_nil)))))) ?_
                    · intro a w hs
                      exact hs.startF [97, 98, 99, 100, 101] [0, 1] [0, 1] rfl rfl rfl rfl
                    · intro L a w hv K Q hK
                      have hs := hv
                      refine wpOp_yes rfl rfl rfl hs (congrArg (fun b => some (Value.bool b)) hg10) (OpT_fieldC rfl rfl rfl rfl fldF38x0) ?_
                      rintro _ rfl a' w' hs'
                      exact hK a' w' (hs'.putF (i := 4) rfl [0, 1] [0, 1] rfl rfl rfl rfl)
                    · intro L a w hv K Q hK
                      have hs := hv
                      refine wpOp_yes rfl rfl rfl hs (congrArg (fun b => some (Value.bool b)) hg10) (OpT_loadCA (vs := [vU8 f.Dst.a0, vU8 f.Dst.a1, vU8 f.Dst.a2, vU8 f.Dst.a3, vU8 f.Dst.a4, vU8 f.Dst.a5]) rfl rfl rfl rfl tyF36 (i := 0) rfl rfl rfl) ?_
                      rintro _ rfl a' w' hs'
                      exact hK a' w' (hs'.putF (i := 5) rfl [0, 1] [0, 1] rfl rfl rfl rfl)
                    · intro L a w hv K Q hK
                      have hs := hv
                      refine wpOp_yes rfl rfl rfl hs (congrArg (fun b => some (Value.bool b)) hg10) (OpT_call (w_frame_Group hx12) [] [] rfl rfl rfl rfl rfl callee19 rfl rfl rfl rfl) ?_
                      rintro _ ⟨_, _, _, ⟨rfl, rfl, rfl⟩, rfl⟩ a' w' hs'
                      exact hK a' w' (hs'.putF (i := 6) rfl [0, 1] [0, 1] rfl rfl rfl rfl)
                    · intro L a w hv K Q hK
                      have hs := hv
                      refine wpOp_yes rfl rfl rfl hs (congrArg (fun b => some (Value.bool b)) hg10) (OpT_fieldC rfl rfl rfl rfl fldF38x0) ?_
                      rintro _ rfl a' w' hs'
                      exact hK a' w' (hs'.putF (i := 7) rfl [0, 1] [0, 1] rfl rfl rfl rfl)
                    · intro L a w hv K Q hK
                      have hs := hv
                      refine wpOp_yes rfl rfl rfl hs (congrArg (fun b => some (Value.bool b)) hg10) (OpT_loadCA (vs := [vU8 f.Dst.a0, vU8 f.Dst.a1, vU8 f.Dst.a2, vU8 f.Dst.a3, vU8 f.Dst.a4, vU8 f.Dst.a5]) rfl rfl rfl rfl tyF36 (i := 0) rfl rfl rfl) ?_
                      rintro _ rfl a' w' hs'
                      exact hK a' w' (hs'.putF (i := 8) rfl [0, 1] [0, 1] rfl rfl rfl rfl)
                    · intro L a w hL hv
                      rw [allTrue hL] at hv
                      have hs := hv
                      refine (show TA _ _ _ 43 ⟨[(3, some (vb1)), (4, some (.pointer (some ⟨b1, 0, none⟩))), (6, some (.pointer (some ⟨b3, 0, none⟩))), (96, some (vB (same1 != frame2))), (99, some (vB group1)), (101, some (.agg #[vU8 f.Dst.a0, vU8 f.Dst.a1, vU8 f.Dst.a2, vU8 f.Dst.a3, vU8 f.Dst.a4, vU8 f.Dst.a5]))], [some (cellsR b1 38 [vU8 f.Dst.a0, vU8 f.Dst.a1, vU8 f.Dst.a2, vU8 f.Dst.a3, vU8 f.Dst.a4, vU8 f.Dst.a5, vU8 f.Src.a0, vU8 f.Src.a1, vU8 f.Src.a2, vU8 f.Src.a3, vU8 f.Src.a4, vU8 f.Src.a5, vI f.Vlan, vU16 f.Type_, vf1]), some (cellsR b3 34 [vU8 hp2.Flags, vU16 hp2.Start, vU16 hp2.Off, vU16 hp2.Buffers])], [Fact.sl u8S vf1 f.Data, Fact.sl u8S vb1 b]⟩ from ?_) a w (hs.wkS [3, 4, 6, 96, 99, 101] [0, 1] [0, 1] rfl rfl rfl rfl)
                      clear hs hL
                      obtain ⟨group2, hx13, h⟩ := ob_e h
                      refine TA_yes htb (by kernel_rfl) rfl rfl rfl (congrArg (fun b => some (Value.bool b)) hg10) (OpT_call (w_ref_Group23 hx13) [] [] rfl rfl rfl rfl rfl callee28 rfl rfl rfl rfl) ?_
                      rintro _ ⟨_, _, _, ⟨rfl, rfl, rfl⟩, rfl⟩
                      refine TA_yes htb (by kernel_rfl) rfl rfl rfl (congrArg (fun b => some (Value.bool b)) hg10) (OpT_bin rfl rfl rfl rfl rfl (bin_neq_b (a := group1) (b := group2) Try.underlying4)) ?_
                      rintro _ rfl
                      refine TA_step htb (by kernel_rfl) rfl rfl (OpT_pickF rfl rfl rfl (congrArg (fun b => some (Value.bool b)) hg10) rfl) ?_
                      refine TA_step htb (by kernel_rfl) rfl rfl (OpT_move rfl rfl rfl rfl) ?_
                      refine TA_wkS (fr' := [(3, some (vb1)), (4, some (.pointer (some ⟨b1, 0, none⟩))), (6, some (.pointer (some ⟨b3, 0, none⟩))), (105, some (vB (group1 != group2)))]) (own' := [some (cellsR b1 38 [vU8 f.Dst.a0, vU8 f.Dst.a1, vU8 f.Dst.a2, vU8 f.Dst.a3, vU8 f.Dst.a4, vU8 f.Dst.a5, vU8 f.Src.a0, vU8 f.Src.a1, vU8 f.Src.a2, vU8 f.Src.a3, vU8 f.Src.a4, vU8 f.Src.a5, vI f.Vlan, vU16 f.Type_, vf1]), some (cellsR b3 34 [vU8 hp2.Flags, vU16 hp2.Start, vU16 hp2.Off, vU16 hp2.Buffers])]) (shr' := [Fact.sl u8S vf1 f.Data, Fact.sl u8S vb1 b]) [3, 4, 6, 105] [0, 1] [0, 1] rfl rfl rfl rfl ?_
                      obtain ⟨hg11, h⟩ := chk_e h
                      replace hg11 := not_t hg11
                      obtain ⟨all1, hx14, h⟩ := ob_e h
                      refine TA_seg (lo := 47) (hi := 52) htb rfl rfl (by kernel_rfl) (fun c L a w => Sat c ⟨[(3, some (vb1)), (4, some (.pointer (some ⟨b1, 0, none⟩))), (6, some (.pointer (some ⟨b3, 0, none⟩))), (105, some (vB (group1 != group2))), (106, bif L 47 then some (.pointer (some ⟨b1, 0, none⟩)) else none), (107, bif L 48 then some (.agg #[vU8 f.Dst.a0, vU8 f.Dst.a1, vU8 f.Dst.a2, vU8 f.Dst.a3, vU8 f.Dst.a4, vU8 f.Dst.a5]) else none), (108, bif L 49 then some (vB all1) else none), (109, bif L 50 then some (.pointer (some ⟨b1, 0, none⟩)) else none), (110, bif L 51 then some (.agg #[vU8 f.Dst.a0, vU8 f.Dst.a1, vU8 f.Dst.a2, vU8 f.Dst.a3, vU8 f.Dst.a4, vU8 f.Dst.a5]) else none)], [(some (cellsR b1 38 [vU8 f.Dst.a0, vU8 f.Dst.a1, vU8 f.Dst.a2, vU8 f.Dst.a3, vU8 f.Dst.a4, vU8 f.Dst.a5, vU8 f.Src.a0, vU8 f.Src.a1, vU8 f.Src.a2, vU8 f.Src.a3, vU8 f.Src.a4, vU8 f.Src.a5, vI f.Vlan, vU16 f.Type_, vf1]) : Option Res), (some (cellsR b3 34 [vU8 hp2.Flags, vU16 hp2.Start, vU16 hp2.Off, vU16 hp2.Buffers]) : Option Res)], [Fact.sl u8S vf1 f.Data, Fact.sl u8S vb1 b]⟩ a w) [([], [48, 49]), ([47], [49]), ([47, 48], []), ([], [51]), ([50], [])] rfl (by kernel_rfl) ?_ (steps_cons ?_ (steps_cons ?_ (steps_cons ?_ (steps_cons ?_ (steps_cons ?_ (steps_nil)))))) ?_
                      · intro a w hs
                        exact hs.startF [106, 107, 108, 109, 110] [0, 1] [0, 1] rfl rfl rfl rfl
                      · intro L a w hv K Q hK
                        have hs := hv
                        refine wpOp_yes rfl rfl rfl hs (congrArg (fun b => some (Value.bool b)) hg11) (OpT_fieldC rfl rfl rfl rfl fldF38x0) ?_
                        rintro _ rfl a' w' hs'
                        exact hK a' w' (hs'.putF (i := 4) rfl [0, 1] [0, 1] rfl rfl rfl rfl)
                      · intro L a w hv K Q hK
                        have hs := hv
                        refine wpOp_yes rfl rfl rfl hs (congrArg (fun b => some (Value.bool b)) hg11) (OpT_loadCA (vs := [vU8 f.Dst.a0, vU8 f.Dst.a1, vU8 f.Dst.a2, vU8 f.Dst.a3, vU8 f.Dst.a4, vU8 f.Dst.a5]) rfl rfl rfl rfl tyF36 (i := 0) rfl rfl rfl) ?_
                        rintro _ rfl a' w' hs'
                        exact hK a' w' (hs'.putF (i := 5) rfl [0, 1] [0, 1] rfl rfl rfl rfl)
                      · intro L a w hv K Q hK
                        have hs := hv
                        refine wpOp_yes rfl rfl rfl hs (congrArg (fun b => some (Value.bool b)) hg11) (OpT_call (w_frame_All hx14) [] [] rfl rfl rfl rfl rfl callee18 rfl rfl rfl rfl) ?_
                        rintro _ ⟨_, _, _, ⟨rfl, rfl, rfl⟩, rfl⟩ a' w' hs'
                        exact hK a' w' (hs'.putF (i := 6) rfl [0, 1] [0, 1] rfl rfl rfl rfl)
                      · intro L a w hv K Q hK
                        have hs := hv
                        refine wpOp_yes rfl rfl rfl hs (congrArg (fun b => some (Value.bool b)) hg11) (OpT_fieldC rfl rfl rfl rfl fldF38x0) ?_
                        rintro _ rfl a' w' hs'
                        exact hK a' w' (hs'.putF (i := 7) rfl [0, 1] [0, 1] rfl rfl rfl rfl)
                      · intro L a w hv K Q hK
                        have hs := hv
                        refine wpOp_yes rfl rfl rfl hs (congrArg (fun b => some (Value.bool b)) hg11) (OpT_loadCA (vs := [vU8 f.Dst.a0, vU8 f.Dst.a1, vU8 f.Dst.a2, vU8 f.Dst.a3, vU8 f.Dst.a4, vU8 f.Dst.a5]) rfl rfl rfl rfl tyF36 (i := 0) rfl rfl rfl) ?_
                        rintro _ rfl a' w' hs'
                        exact hK a' w' (hs'.putF (i := 8) rfl [0, 1] [0, 1] rfl rfl rfl rfl)
                      · intro L a w hL hv
                        rw [allTrue hL] at hv
                        have hs := hv
                        refine (show TA _ _ _ 52 ⟨[(3, some (vb1)), (6, some (.pointer (some ⟨b3, 0, none⟩))), (105, some (vB (group1 != group2))), (108, some (vB all1)), (110, some (.agg #[vU8 f.Dst.a0, vU8 f.Dst.a1, vU8 f.Dst.a2, vU8 f.Dst.a3, vU8 f.Dst.a4, vU8 f.Dst.a5]))], [some (cellsR b3 34 [vU8 hp2.Flags, vU16 hp2.Start, vU16 hp2.Off, vU16 hp2.Buffers])], [Fact.sl u8S vb1 b]⟩ from ?_) a w (hs.wkS [3, 6, 105, 108, 110] [1] [1] rfl rfl rfl rfl)
                        clear hs hL
                        obtain ⟨all2, hx15, h⟩ := ob_e h
                        refine TA_yes htb (by kernel_rfl) rfl rfl rfl (congrArg (fun b => some (Value.bool b)) hg11) (OpT_call (w_ref_All23 hx15) [] [] rfl rfl rfl rfl rfl callee29 rfl rfl rfl rfl) ?_
                        rintro _ ⟨_, _, _, ⟨rfl, rfl, rfl⟩, rfl⟩
                        refine TA_yes htb (by kernel_rfl) rfl rfl rfl (congrArg (fun b => some (Value.bool b)) hg11) (OpT_bin rfl rfl rfl rfl rfl (bin_neq_b (a := all1) (b := all2) Try.underlying4)) ?_
                        rintro _ rfl
                        refine TA_step htb (by kernel_rfl) rfl rfl (OpT_pickF rfl rfl rfl (congrArg (fun b => some (Value.bool b)) hg11) rfl) ?_
                        refine TA_end rfl ?_
                        refine Tk_wkS (fr' := [(3, some (vb1)), (6, some (.pointer (some ⟨b3, 0, none⟩))), (113, some (vB (all1 != all2)))]) (own' := [some (cellsR b3 34 [vU8 hp2.Flags, vU16 hp2.Start, vU16 hp2.Off, vU16 hp2.Buffers])]) (shr' := [Fact.sl u8S vb1 b]) [3, 6, 113] [0] [0] rfl rfl rfl rfl ?_
                        obtain ⟨hg12, h⟩ := chk_e h
                        replace hg12 := not_t hg12
                        refine Tk_condF (congrArg (fun b => some (Value.bool b)) hg12) ?_
                        refine Tk_skip ?_
                        refine Tk_seq ?_
                        refine Tk_region ?_
                        refine Tops_step rfl (OpT_move rfl rfl rfl rfl) ?_
                        obtain ⟨own2, hx16, h⟩ := ob_e h
                        refine Tops_exP rfl (OpT_call (w_kit_Own hx16) [] [0] rfl rfl rfl rfl rfl callee13 rfl rfl rfl rfl) ?_
                        rintro _ ⟨v6, _, _, ⟨_, rfl, rfl, rfl⟩, rfl⟩
                        obtain ⟨readhd1, hx17, h⟩ := ob_e h
                        refine Tops_exP rfl (OpT_callB [1] [0, 1] (w_frame_ReadHdr hx17) [] rfl rfl rfl rfl rfl callee23 rfl rfl rfl rfl rfl rfl (bor_cons (bor_row 1 rfl rfl) bor_nil) (by rintro _ _ _ ⟨rfl, rfl, rfl⟩; exact ⟨rfl, ri_nil⟩)) ?_
                        rintro _ ⟨_, _, _, ⟨rfl, rfl, rfl⟩, rfl⟩
                        refine Tops_step rfl (OpT_move rfl rfl rfl rfl) ?_
                        refine Tops_step rfl (OpT_extract rfl rfl rfl rfl rfl) ?_
                        refine Tops_step rfl (OpT_extract rfl rfl rfl rfl rfl) ?_
                        refine Tops_ex rfl (OpT_alloc rfl rfl rfl tyZ34) fun b6 => ?_
                        refine Tops_step rfl (OpT_storeC (cs' := [vU8 readhd1.1.Flags, vU16 readhd1.1.Start, vU16 readhd1.1.Off, vU16 readhd1.1.Buffers]) rfl rfl rfl rfl tyF34 (i := 2) rfl rfl rfl (one_of rfl) rfl) ?_
                        refine Tops_step rfl (OpT_assign rfl rfl rfl rfl) ?_
                        refine Tops_nil ?_
                        refine Tk_wkS (fr' := [(3, some (vb1)), (6, some (.pointer (some ⟨b3, 0, none⟩))), (17, some (.pointer (some ⟨b6, 0, none⟩))), (10, some (vI readhd1.2))]) (own' := [some (cellsR b3 34 [vU8 hp2.Flags, vU16 hp2.Start, vU16 hp2.Off, vU16 hp2.Buffers]), some (cellsR b6 34 [vU8 readhd1.1.Flags, vU16 readhd1.1.Start, vU16 readhd1.1.Off, vU16 readhd1.1.Buffers])]) (shr' := [Fact.sl u8S vb1 b]) [3, 6, 17, 10] [0, 2] [0] rfl rfl rfl rfl ?_
                        refine Tk_seq ?_
                        refine Tk_region ?_
                        refine Tops_step rfl (OpT_move rfl rfl rfl rfl) ?_
                        obtain ⟨readhd2, hx18, h⟩ := ob_e h
                        refine Tops_exP rfl (OpT_call (w_ref_ReadHdr23 hx18) [] [0] rfl rfl rfl rfl rfl callee30 rfl rfl rfl rfl) ?_
                        rintro _ ⟨_, _, _, ⟨rfl, rfl, rfl⟩, rfl⟩
                        refine Tops_step rfl (OpT_move rfl rfl rfl rfl) ?_
                        refine Tops_step rfl (OpT_extract rfl rfl rfl rfl rfl) ?_
                        refine Tops_step rfl (OpT_extract rfl rfl rfl rfl rfl) ?_
                        refine Tops_ex rfl (OpT_alloc rfl rfl rfl tyZ34) fun b7 => ?_
                        refine Tops_step rfl (OpT_storeC (cs' := [vU8 readhd2.1.Flags, vU16 readhd2.1.Start, vU16 readhd2.1.Off, vU16 readhd2.1.Buffers]) rfl rfl rfl rfl tyF34 (i := 2) rfl rfl rfl (one_of rfl) rfl) ?_
                        refine Tops_step rfl (OpT_assign rfl rfl rfl rfl) ?_
                        refine Tops_nil ?_
                        refine Tk_wkS (fr' := [(3, some (vb1)), (6, some (.pointer (some ⟨b3, 0, none⟩))), (17, some (.pointer (some ⟨b6, 0, none⟩))), (10, some (vI readhd1.2)), (18, some (.pointer (some ⟨b7, 0, none⟩))), (12, some (vI readhd2.2))]) (own' := [some (cellsR b3 34 [vU8 hp2.Flags, vU16 hp2.Start, vU16 hp2.Off, vU16 hp2.Buffers]), some (cellsR b6 34 [vU8 readhd1.1.Flags, vU16 readhd1.1.Start, vU16 readhd1.1.Off, vU16 readhd1.1.Buffers]), some (cellsR b7 34 [vU8 readhd2.1.Flags, vU16 readhd2.1.Start, vU16 readhd2.1.Off, vU16 readhd2.1.Buffers])]) (shr' := [Fact.sl u8S vb1 b]) [3, 6, 17, 10, 18, 12] [0, 1, 2] [0] rfl rfl rfl rfl ?_
                        refine Tk_seq ?_
                        refine Tk_drawT (by kernel_rfl) ?_
                        refine TA_tb [0, 1, 0, 7, 15, 31, 31, 63, 255] (by kernel_rfl) fun htb => ?_
                        obtain ⟨own3, hx19, h⟩ := ob_e h
                        refine TA_seg (lo := 0) (hi := 3) htb rfl rfl (by kernel_rfl) (fun c L a w => ∃ (v7 : Value), Sat c ⟨[(3, some (vb1)), (6, some (.pointer (some ⟨b3, 0, none⟩))), (17, some (.pointer (some ⟨b6, 0, none⟩))), (10, some (vI readhd1.2)), (18, some (.pointer (some ⟨b7, 0, none⟩))), (12, some (vI readhd2.2)), (126, bif L 0 then some (vb1) else none), (127, bif L 1 then some (v7) else none), (128, bif L 2 then some (.agg #[vU8 hp2.Flags, vU16 hp2.Start, vU16 hp2.Off, vU16 hp2.Buffers]) else none)], [(some (cellsR b3 34 [vU8 hp2.Flags, vU16 hp2.Start, vU16 hp2.Off, vU16 hp2.Buffers]) : Option Res), (some (cellsR b6 34 [vU8 readhd1.1.Flags, vU16 readhd1.1.Start, vU16 readhd1.1.Off, vU16 readhd1.1.Buffers]) : Option Res), (some (cellsR b7 34 [vU8 readhd2.1.Flags, vU16 readhd2.1.Start, vU16 readhd2.1.Off, vU16 readhd2.1.Buffers]) : Option Res)], [Fact.sl u8S vb1 b, (bif L 1 then Fact.sl u8S v7 own3 else Fact.tt)]⟩ a w) [([], [1]), ([0], []), ([], [])] rfl (by kernel_rfl) ?_ (steps_cons ?_ (steps_cons ?_ (steps_cons ?_ (steps_nil)))) ?_
                        · intro a w hs
                          exact ⟨undef, hs.startF [126, 127, 128] [0, 1, 2] [0, 1] rfl rfl rfl rfl⟩
                        · intro L a w hv K Q hK
                          obtain ⟨v7, hs⟩ := hv
                          refine wpOp_go rfl rfl hs (OpT_move rfl rfl rfl rfl) ?_
                          rintro _ rfl a' w' hs'
                          exact hK a' w' ⟨v7, hs'.putF (i := 6) rfl [0, 1, 2] [0, 1] rfl rfl rfl rfl⟩
                        · intro L a w hv K Q hK
                          obtain ⟨v7, hs⟩ := hv
                          refine wpOp_go rfl rfl hs (OpT_call (ws_kit_Own hx19) [] [0] rfl rfl rfl rfl rfl callee13 rfl rfl rfl rfl) ?_
                          rintro _ ⟨v7', _, _, ⟨_, rfl, rfl, rfl⟩, rfl⟩ a' w' hs'
                          exact hK a' w' ⟨v7', hs'.putF (i := 7) rfl [0, 1, 2] [0, 2] rfl rfl rfl rfl⟩
                        · intro L a w hv K Q hK
                          obtain ⟨v7, hs⟩ := hv
                          refine wpOp_go rfl rfl hs (OpT_loadCA (vs := [vU8 hp2.Flags, vU16 hp2.Start, vU16 hp2.Off, vU16 hp2.Buffers]) rfl rfl rfl rfl tyF34 (i := 0) rfl rfl rfl) ?_
                          rintro _ rfl a' w' hs'
                          exact hK a' w' ⟨v7, hs'.putF (i := 8) rfl [0, 1, 2] [0, 1] rfl rfl rfl rfl⟩
                        · intro L a w hL hv
                          rw [allTrue hL] at hv
                          obtain ⟨v7, hs⟩ := hv
                          refine (show TA _ _ _ 3 ⟨[(3, some (vb1)), (6, some (.pointer (some ⟨b3, 0, none⟩))), (17, some (.pointer (some ⟨b6, 0, none⟩))), (10, some (vI readhd1.2)), (18, some (.pointer (some ⟨b7, 0, none⟩))), (12, some (vI readhd2.2)), (127, some (v7)), (128, some (.agg #[vU8 hp2.Flags, vU16 hp2.Start, vU16 hp2.Off, vU16 hp2.Buffers]))], [some (cellsR b3 34 [vU8 hp2.Flags, vU16 hp2.Start, vU16 hp2.Off, vU16 hp2.Buffers]), some (cellsR b6 34 [vU8 readhd1.1.Flags, vU16 readhd1.1.Start, vU16 readhd1.1.Off, vU16 readhd1.1.Buffers]), some (cellsR b7 34 [vU8 readhd2.1.Flags, vU16 readhd2.1.Start, vU16 readhd2.1.Off, vU16 readhd2.1.Buffers])], [Fact.sl u8S vb1 b, Fact.sl u8S v7 own3]⟩ from ?_) a w (hs.wkS [3, 6, 17, 10, 18, 12, 127, 128] [0, 1, 2] [0, 1] rfl rfl rfl rfl)
                          clear hs hL
                          obtain ⟨fill1, hx20, h⟩ := ob_e h
                          refine TA_exP htb (by kernel_rfl) rfl rfl (OpT_call (w_frame_Fill hx20) [] [1] rfl rfl rfl rfl rfl callee15 rfl rfl rfl rfl) ?_
                          rintro _ ⟨_, _, _, ⟨v8, rfl, rfl, rfl⟩, rfl⟩
                          refine TA_step htb (by kernel_rfl) rfl rfl (OpT_move rfl rfl rfl rfl) ?_
                          refine TA_wkS (fr' := [(3, some (vb1)), (6, some (.pointer (some ⟨b3, 0, none⟩))), (17, some (.pointer (some ⟨b6, 0, none⟩))), (10, some (vI readhd1.2)), (18, some (.pointer (some ⟨b7, 0, none⟩))), (12, some (vI readhd2.2)), (125, some (.tuple #[v8, vI fill1.2]))]) (own' := [some (cellsR b3 34 [vU8 hp2.Flags, vU16 hp2.Start, vU16 hp2.Off, vU16 hp2.Buffers]), some (cellsR b6 34 [vU8 readhd1.1.Flags, vU16 readhd1.1.Start, vU16 readhd1.1.Off, vU16 readhd1.1.Buffers]), some (cellsR b7 34 [vU8 readhd2.1.Flags, vU16 readhd2.1.Start, vU16 readhd2.1.Off, vU16 readhd2.1.Buffers]), some (rowS u8S v8 fill1.1)]) (shr' := [Fact.sl u8S vb1 b]) [3, 6, 17, 10, 18, 12, 125] [0, 1, 2, 3] [0] rfl rfl rfl rfl ?_
                          refine TA_seg (lo := 5) (hi := 8) htb rfl rfl (by kernel_rfl) (fun c L a w => Sat c ⟨[(3, some (vb1)), (6, some (.pointer (some ⟨b3, 0, none⟩))), (17, some (.pointer (some ⟨b6, 0, none⟩))), (10, some (vI readhd1.2)), (18, some (.pointer (some ⟨b7, 0, none⟩))), (12, some (vI readhd2.2)), (125, some (.tuple #[v8, vI fill1.2])), (130, bif L 5 then some (v8) else none), (131, bif L 6 then some (vI fill1.2) else none), (19, bif L 7 then some (v8) else none)], [(some (cellsR b3 34 [vU8 hp2.Flags, vU16 hp2.Start, vU16 hp2.Off, vU16 hp2.Buffers]) : Option Res), (some (cellsR b6 34 [vU8 readhd1.1.Flags, vU16 readhd1.1.Start, vU16 readhd1.1.Off, vU16 readhd1.1.Buffers]) : Option Res), (some (cellsR b7 34 [vU8 readhd2.1.Flags, vU16 readhd2.1.Start, vU16 readhd2.1.Off, vU16 readhd2.1.Buffers]) : Option Res), (some (rowS u8S v8 fill1.1) : Option Res)], [Fact.sl u8S vb1 b]⟩ a w) [([], [7]), ([], []), ([5], [])] rfl (by kernel_rfl) ?_ (steps_cons ?_ (steps_cons ?_ (steps_cons ?_ (steps_nil)))) ?_
                          · intro a w hs
                            exact hs.startF [130, 131, 19] [0, 1, 2, 3] [0] rfl rfl rfl rfl
                          · intro L a w hv K Q hK
                            have hs := hv
                            refine wpOp_go rfl rfl hs (OpT_extract rfl rfl rfl rfl rfl) ?_
                            rintro _ rfl a' w' hs'
                            exact hK a' w' (hs'.putF (i := 7) rfl [0, 1, 2, 3] [0] rfl rfl rfl rfl)
                          · intro L a w hv K Q hK
                            have hs := hv
                            refine wpOp_go rfl rfl hs (OpT_extract rfl rfl rfl rfl rfl) ?_
                            rintro _ rfl a' w' hs'
                            exact hK a' w' (hs'.putF (i := 8) rfl [0, 1, 2, 3] [0] rfl rfl rfl rfl)
                          · intro L a w hv K Q hK
                            have hs := hv
                            refine wpOp_go rfl rfl hs (OpT_assign rfl rfl rfl rfl) ?_
                            rintro _ rfl a' w' hs'
                            exact hK a' w' (hs'.putF (i := 9) rfl [0, 1, 2, 3] [0] rfl rfl rfl rfl)
                          · intro L a w hL hv
                            rw [allTrue hL] at hv
                            have hs := hv
                            refine (show TA _ _ _ 8 ⟨[(3, some (vb1)), (6, some (.pointer (some ⟨b3, 0, none⟩))), (17, some (.pointer (some ⟨b6, 0, none⟩))), (10, some (vI readhd1.2)), (18, some (.pointer (some ⟨b7, 0, none⟩))), (12, some (vI readhd2.2)), (131, some (vI fill1.2)), (19, some (v8))], [some (cellsR b3 34 [vU8 hp2.Flags, vU16 hp2.Start, vU16 hp2.Off, vU16 hp2.Buffers]), some (cellsR b6 34 [vU8 readhd1.1.Flags, vU16 readhd1.1.Start, vU16 readhd1.1.Off, vU16 readhd1.1.Buffers]), some (cellsR b7 34 [vU8 readhd2.1.Flags, vU16 readhd2.1.Start, vU16 readhd2.1.Off, vU16 readhd2.1.Buffers]), some (rowS u8S v8 fill1.1)], [Fact.sl u8S vb1 b]⟩ from ?_) a w (hs.wkS [3, 6, 17, 10, 18, 12, 131, 19] [0, 1, 2, 3] [0] rfl rfl rfl rfl)
                            clear hs hL
                            refine TA_step htb (by kernel_rfl) rfl rfl (OpT_assign rfl rfl rfl rfl) ?_
                            refine TA_end rfl ?_
                            refine Tk_wkS (fr' := [(3, some (vb1)), (6, some (.pointer (some ⟨b3, 0, none⟩))), (17, some (.pointer (some ⟨b6, 0, none⟩))), (10, some (vI readhd1.2)), (18, some (.pointer (some ⟨b7, 0, none⟩))), (12, some (vI readhd2.2)), (19, some (v8)), (14, some (vI fill1.2))]) (own' := [some (cellsR b3 34 [vU8 hp2.Flags, vU16 hp2.Start, vU16 hp2.Off, vU16 hp2.Buffers]), some (cellsR b6 34 [vU8 readhd1.1.Flags, vU16 readhd1.1.Start, vU16 readhd1.1.Off, vU16 readhd1.1.Buffers]), some (cellsR b7 34 [vU8 readhd2.1.Flags, vU16 readhd2.1.Start, vU16 readhd2.1.Off, vU16 readhd2.1.Buffers]), some (rowS u8S v8 fill1.1)]) (shr' := [Fact.sl u8S vb1 b]) [3, 6, 17, 10, 18, 12, 19, 14] [0, 1, 2, 3] [0] rfl rfl rfl rfl ?_
                            refine Tk_seq ?_
                            refine Tk_region ?_
                            refine Tops_step rfl (OpT_move rfl rfl rfl rfl) ?_
                            refine Tops_step rfl (OpT_loadCA (vs := [vU8 hp2.Flags, vU16 hp2.Start, vU16 hp2.Off, vU16 hp2.Buffers]) rfl rfl rfl rfl tyF34 (i := 0) rfl rfl rfl) ?_
                            obtain ⟨fill2, hx21, h⟩ := ob_e h
                            refine Tops_exP rfl (OpT_call (w_ref_Fill23 hx21) [] [0] rfl rfl rfl rfl rfl callee31 rfl rfl rfl rfl) ?_
                            rintro _ ⟨_, _, _, ⟨v9, rfl, rfl, rfl⟩, rfl⟩
                            refine Tops_step rfl (OpT_move rfl rfl rfl rfl) ?_
                            refine Tops_step rfl (OpT_extract rfl rfl rfl rfl rfl) ?_
                            refine Tops_step rfl (OpT_extract rfl rfl rfl rfl rfl) ?_
                            refine Tops_step rfl (OpT_assign rfl rfl rfl rfl) ?_
                            refine Tops_step rfl (OpT_assign rfl rfl rfl rfl) ?_
                            refine Tops_nil ?_
                            refine Tk_wkS (fr' := [(3, some (vb1)), (6, some (.pointer (some ⟨b3, 0, none⟩))), (17, some (.pointer (some ⟨b6, 0, none⟩))), (10, some (vI readhd1.2)), (18, some (.pointer (some ⟨b7, 0, none⟩))), (12, some (vI readhd2.2)), (19, some (v8)), (14, some (vI fill1.2)), (20, some (v9)), (16, some (vI fill2.2))]) (own' := [some (cellsR b3 34 [vU8 hp2.Flags, vU16 hp2.Start, vU16 hp2.Off, vU16 hp2.Buffers]), some (cellsR b6 34 [vU8 readhd1.1.Flags, vU16 readhd1.1.Start, vU16 readhd1.1.Off, vU16 readhd1.1.Buffers]), some (cellsR b7 34 [vU8 readhd2.1.Flags, vU16 readhd2.1.Start, vU16 readhd2.1.Off, vU16 readhd2.1.Buffers]), some (rowS u8S v8 fill1.1), some (rowS u8S v9 fill2.1)]) (shr' := [Fact.sl u8S vb1 b]) [3, 6, 17, 10, 18, 12, 19, 14, 20, 16] [0, 1, 2, 3, 4] [0] rfl rfl rfl rfl ?_
                            refine Tk_seq ?_
                            refine Tk_drawT (by kernel_rfl) ?_
                            refine TA_tb [0, 0, 3, 7, 15, 15, 63, 127, 255, 511, 1023, 511, 2559, 8191, 16383, 32767, 65535, 65535, 262143, 524287, 1048575, 2097151, 4194303, 8388607, 2097151, 25165823, 58720255, 134217727, 268435455, 536870911, 1073741823, 2147483647, 1073741823, 8589934591, 17179869183, 34359738367, 68719476735] (by kernel_rfl) fun htb => ?_
                            refine TA_seg (lo := 0) (hi := 2) htb rfl rfl (by kernel_rfl) (fun c L a w => Sat c ⟨[(3, some (vb1)), (6, some (.pointer (some ⟨b3, 0, none⟩))), (17, some (.pointer (some ⟨b6, 0, none⟩))), (10, some (vI readhd1.2)), (18, some (.pointer (some ⟨b7, 0, none⟩))), (12, some (vI readhd2.2)), (19, some (v8)), (14, some (vI fill1.2)), (20, some (v9)), (16, some (vI fill2.2)), (138, bif L 0 then some (.agg #[vU8 readhd1.1.Flags, vU16 readhd1.1.Start, vU16 readhd1.1.Off, vU16 readhd1.1.Buffers]) else none), (139, bif L 1 then some (.agg #[vU8 readhd2.1.Flags, vU16 readhd2.1.Start, vU16 readhd2.1.Off, vU16 readhd2.1.Buffers]) else none)], [(some (cellsR b3 34 [vU8 hp2.Flags, vU16 hp2.Start, vU16 hp2.Off, vU16 hp2.Buffers]) : Option Res), (some (cellsR b6 34 [vU8 readhd1.1.Flags, vU16 readhd1.1.Start, vU16 readhd1.1.Off, vU16 readhd1.1.Buffers]) : Option Res), (some (cellsR b7 34 [vU8 readhd2.1.Flags, vU16 readhd2.1.Start, vU16 readhd2.1.Off, vU16 readhd2.1.Buffers]) : Option Res), (some (rowS u8S v8 fill1.1) : Option Res), (some (rowS u8S v9 fill2.1) : Option Res)], [Fact.sl u8S vb1 b]⟩ a w) [([], []), ([], [])] rfl (by kernel_rfl) ?_ (steps_cons ?_ (steps_cons ?_ (steps_nil))) ?_
                            · intro a w hs
                              exact hs.startF [138, 139] [0, 1, 2, 3, 4] [0] rfl rfl rfl rfl
                            · intro L a w hv K Q hK
                              have hs := hv
                              refine wpOp_go rfl rfl hs (OpT_loadCA (vs := [vU8 readhd1.1.Flags, vU16 readhd1.1.Start, vU16 readhd1.1.Off, vU16 readhd1.1.Buffers]) rfl rfl rfl rfl tyF34 (i := 1) rfl rfl rfl) ?_
                              rintro _ rfl a' w' hs'
                              exact hK a' w' (hs'.putF (i := 10) rfl [0, 1, 2, 3, 4] [0] rfl rfl rfl rfl)
                            · intro L a w hv K Q hK
                              have hs := hv
                              refine wpOp_go rfl rfl hs (OpT_loadCA (vs := [vU8 readhd2.1.Flags, vU16 readhd2.1.Start, vU16 readhd2.1.Off, vU16 readhd2.1.Buffers]) rfl rfl rfl rfl tyF34 (i := 2) rfl rfl rfl) ?_
                              rintro _ rfl a' w' hs'
                              exact hK a' w' (hs'.putF (i := 11) rfl [0, 1, 2, 3, 4] [0] rfl rfl rfl rfl)
                            · intro L a w hL hv
                              rw [allTrue hL] at hv
                              have hs := hv
                              refine (show TA _ _ _ 2 ⟨[(3, some (vb1)), (6, some (.pointer (some ⟨b3, 0, none⟩))), (10, some (vI readhd1.2)), (12, some (vI readhd2.2)), (19, some (v8)), (14, some (vI fill1.2)), (20, some (v9)), (16, some (vI fill2.2)), (138, some (.agg #[vU8 readhd1.1.Flags, vU16 readhd1.1.Start, vU16 readhd1.1.Off, vU16 readhd1.1.Buffers])), (139, some (.agg #[vU8 readhd2.1.Flags, vU16 readhd2.1.Start, vU16 readhd2.1.Off, vU16 readhd2.1.Buffers]))], [some (cellsR b3 34 [vU8 hp2.Flags, vU16 hp2.Start, vU16 hp2.Off, vU16 hp2.Buffers]), some (rowS u8S v8 fill1.1), some (rowS u8S v9 fill2.1)], [Fact.sl u8S vb1 b]⟩ from ?_) a w (hs.wkS [3, 6, 10, 12, 19, 14, 20, 16, 138, 139] [0, 3, 4] [0] rfl rfl rfl rfl)
                              clear hs hL
                              refine TA_step htb (by kernel_rfl) rfl rfl (OpT_bin rfl rfl rfl rfl rfl (eqT34_eql readhd1.1 readhd2.1)) ?_
                              refine TA_step htb (by kernel_rfl) rfl rfl (OpT_move rfl rfl rfl rfl) ?_
                              refine TA_wkS (fr' := [(3, some (vb1)), (6, some (.pointer (some ⟨b3, 0, none⟩))), (10, some (vI readhd1.2)), (12, some (vI readhd2.2)), (19, some (v8)), (14, some (vI fill1.2)), (20, some (v9)), (16, some (vI fill2.2)), (141, some (vB (readhd1.1 == readhd2.1)))]) (own' := [some (cellsR b3 34 [vU8 hp2.Flags, vU16 hp2.Start, vU16 hp2.Off, vU16 hp2.Buffers]), some (rowS u8S v8 fill1.1), some (rowS u8S v9 fill2.1)]) (shr' := [Fact.sl u8S vb1 b]) [3, 6, 10, 12, 19, 14, 20, 16, 141] [0, 1, 2] [0] rfl rfl rfl rfl ?_
                              obtain ⟨hg13, h⟩ := chk_e h
                              refine TA_seg (lo := 4) (hi := 6) htb rfl rfl (by kernel_rfl) (fun c L a w => Sat c ⟨[(3, some (vb1)), (6, some (.pointer (some ⟨b3, 0, none⟩))), (10, some (vI readhd1.2)), (12, some (vI readhd2.2)), (19, some (v8)), (14, some (vI fill1.2)), (20, some (v9)), (16, some (vI fill2.2)), (141, some (vB (readhd1.1 == readhd2.1))), (142, bif L 4 then some (vI readhd1.2) else none), (143, bif L 5 then some (vI readhd2.2) else none)], [(some (cellsR b3 34 [vU8 hp2.Flags, vU16 hp2.Start, vU16 hp2.Off, vU16 hp2.Buffers]) : Option Res), (some (rowS u8S v8 fill1.1) : Option Res), (some (rowS u8S v9 fill2.1) : Option Res)], [Fact.sl u8S vb1 b]⟩ a w) [([], []), ([], [])] rfl (by kernel_rfl) ?_ (steps_cons ?_ (steps_cons ?_ (steps_nil))) ?_
                              · intro a w hs
                                exact hs.startF [142, 143] [0, 1, 2] [0] rfl rfl rfl rfl
                              · intro L a w hv K Q hK
                                have hs := hv
                                refine wpOp_yes rfl rfl rfl hs (congrArg (fun b => some (Value.bool b)) hg13) (OpT_move rfl rfl rfl rfl) ?_
                                rintro _ rfl a' w' hs'
                                exact hK a' w' (hs'.putF (i := 9) rfl [0, 1, 2] [0] rfl rfl rfl rfl)
                              · intro L a w hv K Q hK
                                have hs := hv
                                refine wpOp_yes rfl rfl rfl hs (congrArg (fun b => some (Value.bool b)) hg13) (OpT_move rfl rfl rfl rfl) ?_
                                rintro _ rfl a' w' hs'
                                exact hK a' w' (hs'.putF (i := 10) rfl [0, 1, 2] [0] rfl rfl rfl rfl)
                              · intro L a w hL hv
                                rw [allTrue hL] at hv
                                have hs := hv
                                refine (show TA _ _ _ 6 ⟨[(3, some (vb1)), (6, some (.pointer (some ⟨b3, 0, none⟩))), (19, some (v8)), (14, some (vI fill1.2)), (20, some (v9)), (16, some (vI fill2.2)), (141, some (vB (readhd1.1 == readhd2.1))), (142, some (vI readhd1.2)), (143, some (vI readhd2.2))], [some (cellsR b3 34 [vU8 hp2.Flags, vU16 hp2.Start, vU16 hp2.Off, vU16 hp2.Buffers]), some (rowS u8S v8 fill1.1), some (rowS u8S v9 fill2.1)], [Fact.sl u8S vb1 b]⟩ from ?_) a w (hs.wkS [3, 6, 19, 14, 20, 16, 141, 142, 143] [0, 1, 2] [0] rfl rfl rfl rfl)
                                clear hs hL
                                refine TA_yes htb (by kernel_rfl) rfl rfl rfl (congrArg (fun b => some (Value.bool b)) hg13) (OpT_bin rfl rfl rfl rfl rfl (bin_eql_i (a := readhd1.2) (b := readhd2.2))) ?_
                                rintro _ rfl
                                refine TA_step htb (by kernel_rfl) rfl rfl (OpT_pickT rfl rfl rfl (congrArg (fun b => some (Value.bool b)) hg13) rfl) ?_
                                refine TA_step htb (by kernel_rfl) rfl rfl (OpT_move rfl rfl rfl rfl) ?_
                                refine TA_wkS (fr' := [(3, some (vb1)), (6, some (.pointer (some ⟨b3, 0, none⟩))), (19, some (v8)), (14, some (vI fill1.2)), (20, some (v9)), (16, some (vI fill2.2)), (146, some (vB (readhd1.2 == readhd2.2)))]) (own' := [some (cellsR b3 34 [vU8 hp2.Flags, vU16 hp2.Start, vU16 hp2.Off, vU16 hp2.Buffers]), some (rowS u8S v8 fill1.1), some (rowS u8S v9 fill2.1)]) (shr' := [Fact.sl u8S vb1 b]) [3, 6, 19, 14, 20, 16, 146] [0, 1, 2] [0] rfl rfl rfl rfl ?_
                                refine TA_retire (i := 1) rfl ?_
                                refine TA_retire (i := 2) rfl ?_
                                obtain ⟨hg14, h⟩ := chk_e h
                                refine TA_seg (lo := 9) (hi := 13) htb rfl rfl (by kernel_rfl) (fun c L a w => Sat c ⟨[(3, some (vb1)), (6, some (.pointer (some ⟨b3, 0, none⟩))), (19, some (v8)), (14, some (vI fill1.2)), (20, some (v9)), (16, some (vI fill2.2)), (146, some (vB (readhd1.2 == readhd2.2))), (147, bif L 9 then some (v8) else none), (148, bif L 10 then some (vS fill1.1) else none), (149, bif L 11 then some (v9) else none), (150, bif L 12 then some (vS fill2.1) else none)], [(some (cellsR b3 34 [vU8 hp2.Flags, vU16 hp2.Start, vU16 hp2.Off, vU16 hp2.Buffers]) : Option Res), (none : Option Res), (none : Option Res)], [Fact.sl u8S vb1 b, Fact.sl u8S v8 fill1.1, Fact.sl u8S v9 fill2.1]⟩ a w) [([], [10]), ([9], []), ([], [12]), ([11], [])] rfl (by kernel_rfl) ?_ (steps_cons ?_ (steps_cons ?_ (steps_cons ?_ (steps_cons ?_ (steps_nil))))) ?_
                                · intro a w hs
                                  exact hs.startF [147, 148, 149, 150] [0, 1, 2] [0, 1, 2] rfl rfl rfl rfl
                                · intro L a w hv K Q hK
                                  have hs := hv
                                  refine wpOp_yes rfl rfl rfl hs (congrArg (fun b => some (Value.bool b)) hg14) (OpT_move rfl rfl rfl rfl) ?_
                                  rintro _ rfl a' w' hs'
                                  exact hK a' w' (hs'.putF (i := 7) rfl [0, 1, 2] [0, 1, 2] rfl rfl rfl rfl)
                                · intro L a w hv K Q hK
                                  have hs := hv
                                  refine wpOp_yes rfl rfl rfl hs (congrArg (fun b => some (Value.bool b)) hg14) (OpT_strS rfl rfl rfl rfl Try.underlying22 Try.underlying5 Try.underlying9 (i := 1) rfl) ?_
                                  rintro _ rfl a' w' hs'
                                  exact hK a' w' (hs'.putF (i := 8) rfl [0, 1, 2] [0, 1, 2] rfl rfl rfl rfl)
                                · intro L a w hv K Q hK
                                  have hs := hv
                                  refine wpOp_yes rfl rfl rfl hs (congrArg (fun b => some (Value.bool b)) hg14) (OpT_move rfl rfl rfl rfl) ?_
                                  rintro _ rfl a' w' hs'
                                  exact hK a' w' (hs'.putF (i := 9) rfl [0, 1, 2] [0, 1, 2] rfl rfl rfl rfl)
                                · intro L a w hv K Q hK
                                  have hs := hv
                                  refine wpOp_yes rfl rfl rfl hs (congrArg (fun b => some (Value.bool b)) hg14) (OpT_strS rfl rfl rfl rfl Try.underlying22 Try.underlying5 Try.underlying9 (i := 2) rfl) ?_
                                  rintro _ rfl a' w' hs'
                                  exact hK a' w' (hs'.putF (i := 10) rfl [0, 1, 2] [0, 1, 2] rfl rfl rfl rfl)
                                · intro L a w hL hv
                                  rw [allTrue hL] at hv
                                  have hs := hv
                                  refine (show TA _ _ _ 13 ⟨[(3, some (vb1)), (6, some (.pointer (some ⟨b3, 0, none⟩))), (14, some (vI fill1.2)), (16, some (vI fill2.2)), (146, some (vB (readhd1.2 == readhd2.2))), (148, some (vS fill1.1)), (150, some (vS fill2.1))], [some (cellsR b3 34 [vU8 hp2.Flags, vU16 hp2.Start, vU16 hp2.Off, vU16 hp2.Buffers])], [Fact.sl u8S vb1 b]⟩ from ?_) a w (hs.wkS [3, 6, 14, 16, 146, 148, 150] [0] [0] rfl rfl rfl rfl)
                                  clear hs hL
                                  refine TA_yes htb (by kernel_rfl) rfl rfl rfl (congrArg (fun b => some (Value.bool b)) hg14) (OpT_bin rfl rfl rfl rfl rfl (bin_eql_s (a := fill1.1) (b := fill2.1))) ?_
                                  rintro _ rfl
                                  refine TA_step htb (by kernel_rfl) rfl rfl (OpT_pickT rfl rfl rfl (congrArg (fun b => some (Value.bool b)) hg14) rfl) ?_
                                  refine TA_step htb (by kernel_rfl) rfl rfl (OpT_move rfl rfl rfl rfl) ?_
                                  refine TA_wkS (fr' := [(3, some (vb1)), (6, some (.pointer (some ⟨b3, 0, none⟩))), (14, some (vI fill1.2)), (16, some (vI fill2.2)), (153, some (vB (fill1.1 == fill2.1)))]) (own' := [some (cellsR b3 34 [vU8 hp2.Flags, vU16 hp2.Start, vU16 hp2.Off, vU16 hp2.Buffers])]) (shr' := [Fact.sl u8S vb1 b]) [3, 6, 14, 16, 153] [0] [0] rfl rfl rfl rfl ?_
                                  obtain ⟨hg15, h⟩ := chk_e h
                                  refine TA_seg (lo := 16) (hi := 18) htb rfl rfl (by kernel_rfl) (fun c L a w => Sat c ⟨[(3, some (vb1)), (6, some (.pointer (some ⟨b3, 0, none⟩))), (14, some (vI fill1.2)), (16, some (vI fill2.2)), (153, some (vB (fill1.1 == fill2.1))), (154, bif L 16 then some (vI fill1.2) else none), (155, bif L 17 then some (vI fill2.2) else none)], [(some (cellsR b3 34 [vU8 hp2.Flags, vU16 hp2.Start, vU16 hp2.Off, vU16 hp2.Buffers]) : Option Res)], [Fact.sl u8S vb1 b]⟩ a w) [([], []), ([], [])] rfl (by kernel_rfl) ?_ (steps_cons ?_ (steps_cons ?_ (steps_nil))) ?_
                                  · intro a w hs
                                    exact hs.startF [154, 155] [0] [0] rfl rfl rfl rfl
                                  · intro L a w hv K Q hK
                                    have hs := hv
                                    refine wpOp_yes rfl rfl rfl hs (congrArg (fun b => some (Value.bool b)) hg15) (OpT_move rfl rfl rfl rfl) ?_
                                    rintro _ rfl a' w' hs'
                                    exact hK a' w' (hs'.putF (i := 5) rfl [0] [0] rfl rfl rfl rfl)
                                  · intro L a w hv K Q hK
                                    have hs := hv
                                    refine wpOp_yes rfl rfl rfl hs (congrArg (fun b => some (Value.bool b)) hg15) (OpT_move rfl rfl rfl rfl) ?_
                                    rintro _ rfl a' w' hs'
                                    exact hK a' w' (hs'.putF (i := 6) rfl [0] [0] rfl rfl rfl rfl)
                                  · intro L a w hL hv
                                    rw [allTrue hL] at hv
                                    have hs := hv
                                    refine (show TA _ _ _ 18 ⟨[(3, some (vb1)), (6, some (.pointer (some ⟨b3, 0, none⟩))), (153, some (vB (fill1.1 == fill2.1))), (154, some (vI fill1.2)), (155, some (vI fill2.2))], [some (cellsR b3 34 [vU8 hp2.Flags, vU16 hp2.Start, vU16 hp2.Off, vU16 hp2.Buffers])], [Fact.sl u8S vb1 b]⟩ from ?_) a w (hs.wkS [3, 6, 153, 154, 155] [0] [0] rfl rfl rfl rfl)
                                    clear hs hL
                                    refine TA_yes htb (by kernel_rfl) rfl rfl rfl (congrArg (fun b => some (Value.bool b)) hg15) (OpT_bin rfl rfl rfl rfl rfl (bin_eql_i (a := fill1.2) (b := fill2.2))) ?_
                                    rintro _ rfl
                                    refine TA_step htb (by kernel_rfl) rfl rfl (OpT_pickT rfl rfl rfl (congrArg (fun b => some (Value.bool b)) hg15) rfl) ?_
                                    refine TA_step htb (by kernel_rfl) rfl rfl (OpT_move rfl rfl rfl rfl) ?_
                                    refine TA_wkS (fr' := [(3, some (vb1)), (6, some (.pointer (some ⟨b3, 0, none⟩))), (158, some (vB (fill1.2 == fill2.2)))]) (own' := [some (cellsR b3 34 [vU8 hp2.Flags, vU16 hp2.Start, vU16 hp2.Off, vU16 hp2.Buffers])]) (shr' := [Fact.sl u8S vb1 b]) [3, 6, 158] [0] [0] rfl rfl rfl rfl ?_
                                    obtain ⟨hg16, h⟩ := chk_e h
                                    obtain ⟨hdrof1, hx22, h⟩ := ob_e h
                                    obtain ⟨hdrof2, hx23, h⟩ := ob_e h
                                    refine TA_seg (lo := 21) (hi := 27) htb rfl rfl (by kernel_rfl) (fun c L a w => ∃ (v10 : Value), ∃ (v11 : Value), Sat c ⟨[(3, some (vb1)), (6, some (.pointer (some ⟨b3, 0, none⟩))), (158, some (vB (fill1.2 == fill2.2))), (159, bif L 21 then some (.agg #[vU8 hp2.Flags, vU16 hp2.Start, vU16 hp2.Off, vU16 hp2.Buffers]) else none), (160, bif L 22 then some (v10) else none), (161, bif L 23 then some (vS hdrof1) else none), (162, bif L 24 then some (.agg #[vU8 hp2.Flags, vU16 hp2.Start, vU16 hp2.Off, vU16 hp2.Buffers]) else none), (163, bif L 25 then some (v11) else none), (164, bif L 26 then some (vS hdrof2) else none)], [(some (cellsR b3 34 [vU8 hp2.Flags, vU16 hp2.Start, vU16 hp2.Off, vU16 hp2.Buffers]) : Option Res)], [Fact.sl u8S vb1 b, (bif L 22 then Fact.sl u8S v10 hdrof1 else Fact.tt), (bif L 25 then Fact.sl u8S v11 hdrof2 else Fact.tt)]⟩ a w) [([], [22, 23, 25, 26]), ([21], [23, 25, 26]), ([21, 22], []), ([], [25, 26]), ([21, 22, 24], [26]), ([21, 22, 24, 25], [])] rfl (by kernel_rfl) ?_ (steps_cons ?_ (steps_cons ?_ (steps_cons ?_ (steps_cons ?_ (steps_cons ?_ (steps_cons ?_ (steps_nil))))))) ?_
                                    · intro a w hs
                                      exact ⟨undef, undef, hs.startF [159, 160, 161, 162, 163, 164] [0] [0, 1, 2] rfl rfl rfl rfl⟩
                                    · intro L a w hv K Q hK
                                      obtain ⟨v10, v11, hs⟩ := hv
                                      refine wpOp_yes rfl rfl rfl hs (congrArg (fun b => some (Value.bool b)) hg16) (OpT_loadCA (vs := [vU8 hp2.Flags, vU16 hp2.Start, vU16 hp2.Off, vU16 hp2.Buffers]) rfl rfl rfl rfl tyF34 (i := 0) rfl rfl rfl) ?_
                                      rintro _ rfl a' w' hs'
                                      exact hK a' w' ⟨v10, v11, hs'.putF (i := 3) rfl [0] [0, 1, 2] rfl rfl rfl rfl⟩
                                    · intro L a w hv K Q hK
                                      obtain ⟨v10, v11, hs⟩ := hv
                                      refine wpOp_yes rfl rfl rfl hs (congrArg (fun b => some (Value.bool b)) hg16) (OpT_call (ws_frame_HdrOf hx22) [] [] rfl rfl rfl rfl rfl callee17 rfl rfl rfl rfl) ?_
                                      rintro _ ⟨v10', _, _, ⟨_, rfl, rfl, rfl⟩, rfl⟩ a' w' hs'
                                      exact hK a' w' ⟨v10', v11, hs'.putF (i := 4) rfl [0] [0, 3, 2] rfl rfl rfl rfl⟩
                                    · intro L a w hv K Q hK
                                      obtain ⟨v10, v11, hs⟩ := hv
                                      refine wpOp_yes rfl rfl rfl hs (congrArg (fun b => some (Value.bool b)) hg16) (OpT_strS rfl rfl rfl rfl Try.underlying22 Try.underlying5 Try.underlying9 (i := 1) rfl) ?_
                                      rintro _ rfl a' w' hs'
                                      exact hK a' w' ⟨v10, v11, hs'.putF (i := 5) rfl [0] [0, 1, 2] rfl rfl rfl rfl⟩
                                    · intro L a w hv K Q hK
                                      obtain ⟨v10, v11, hs⟩ := hv
                                      refine wpOp_yes rfl rfl rfl hs (congrArg (fun b => some (Value.bool b)) hg16) (OpT_loadCA (vs := [vU8 hp2.Flags, vU16 hp2.Start, vU16 hp2.Off, vU16 hp2.Buffers]) rfl rfl rfl rfl tyF34 (i := 0) rfl rfl rfl) ?_
                                      rintro _ rfl a' w' hs'
                                      exact hK a' w' ⟨v10, v11, hs'.putF (i := 6) rfl [0] [0, 1, 2] rfl rfl rfl rfl⟩
                                    · intro L a w hv K Q hK
                                      obtain ⟨v10, v11, hs⟩ := hv
                                      refine wpOp_yes rfl rfl rfl hs (congrArg (fun b => some (Value.bool b)) hg16) (OpT_call (ws_ref_HdrOf23 hx23) [] [] rfl rfl rfl rfl rfl callee32 rfl rfl rfl rfl) ?_
                                      rintro _ ⟨v11', _, _, ⟨_, rfl, rfl, rfl⟩, rfl⟩ a' w' hs'
                                      exact hK a' w' ⟨v10, v11', hs'.putF (i := 7) rfl [0] [0, 1, 3] rfl rfl rfl rfl⟩
                                    · intro L a w hv K Q hK
                                      obtain ⟨v10, v11, hs⟩ := hv
                                      refine wpOp_yes rfl rfl rfl hs (congrArg (fun b => some (Value.bool b)) hg16) (OpT_strS rfl rfl rfl rfl Try.underlying22 Try.underlying5 Try.underlying9 (i := 2) rfl) ?_
                                      rintro _ rfl a' w' hs'
                                      exact hK a' w' ⟨v10, v11, hs'.putF (i := 8) rfl [0] [0, 1, 2] rfl rfl rfl rfl⟩
                                    · intro L a w hL hv
                                      rw [allTrue hL] at hv
                                      obtain ⟨v10, v11, hs⟩ := hv
                                      refine (show TA _ _ _ 27 ⟨[(3, some (vb1)), (158, some (vB (fill1.2 == fill2.2))), (161, some (vS hdrof1)), (164, some (vS hdrof2))], [], [Fact.sl u8S vb1 b]⟩ from ?_) a w (hs.wkS [3, 158, 161, 164] [] [0] rfl rfl rfl rfl)
                                      clear hs hL
                                      refine TA_yes htb (by kernel_rfl) rfl rfl rfl (congrArg (fun b => some (Value.bool b)) hg16) (OpT_bin rfl rfl rfl rfl rfl (bin_eql_s (a := hdrof1) (b := hdrof2))) ?_
                                      rintro _ rfl
                                      refine TA_step htb (by kernel_rfl) rfl rfl (OpT_pickT rfl rfl rfl (congrArg (fun b => some (Value.bool b)) hg16) rfl) ?_
                                      refine TA_step htb (by kernel_rfl) rfl rfl (OpT_move rfl rfl rfl rfl) ?_
                                      refine TA_wkS (fr' := [(3, some (vb1)), (167, some (vB (hdrof1 == hdrof2)))]) (own' := []) (shr' := [Fact.sl u8S vb1 b]) [3, 167] [] [0] rfl rfl rfl rfl ?_
                                      obtain ⟨hg17, h⟩ := chk_e h
                                      obtain ⟨sum1, hx24, h⟩ := ob_e h
                                      refine TA_seg (lo := 30) (hi := 33) htb rfl rfl (by kernel_rfl) (fun c L a w => Sat c ⟨[(3, some (vb1)), (167, some (vB (hdrof1 == hdrof2))), (168, bif L 30 then some (vb1) else none), (169, bif L 31 then some (vU16 sum1) else none), (170, bif L 32 then some (vb1) else none)], [], [Fact.sl u8S vb1 b]⟩ a w) [([], [31]), ([30], []), ([], [])] rfl (by kernel_rfl) ?_ (steps_cons ?_ (steps_cons ?_ (steps_cons ?_ (steps_nil)))) ?_
                                      · intro a w hs
                                        exact hs.startF [168, 169, 170] [] [0] rfl rfl rfl rfl
                                      · intro L a w hv K Q hK
                                        have hs := hv
                                        refine wpOp_yes rfl rfl rfl hs (congrArg (fun b => some (Value.bool b)) hg17) (OpT_move rfl rfl rfl rfl) ?_
                                        rintro _ rfl a' w' hs'
                                        exact hK a' w' (hs'.putF (i := 2) rfl [] [0] rfl rfl rfl rfl)
                                      · intro L a w hv K Q hK
                                        have hs := hv
                                        refine wpOp_yes rfl rfl rfl hs (congrArg (fun b => some (Value.bool b)) hg17) (OpT_call (w_frame_Sum hx24) [] [0] rfl rfl rfl rfl rfl callee12 rfl rfl rfl rfl) ?_
                                        rintro _ ⟨_, _, _, ⟨rfl, rfl, rfl⟩, rfl⟩ a' w' hs'
                                        exact hK a' w' (hs'.putF (i := 3) rfl [] [0] rfl rfl rfl rfl)
                                      · intro L a w hv K Q hK
                                        have hs := hv
                                        refine wpOp_yes rfl rfl rfl hs (congrArg (fun b => some (Value.bool b)) hg17) (OpT_move rfl rfl rfl rfl) ?_
                                        rintro _ rfl a' w' hs'
                                        exact hK a' w' (hs'.putF (i := 4) rfl [] [0] rfl rfl rfl rfl)
                                      · intro L a w hL hv
                                        rw [allTrue hL] at hv
                                        have hs := hv
                                        refine (show TA _ _ _ 33 ⟨[(167, some (vB (hdrof1 == hdrof2))), (169, some (vU16 sum1)), (170, some (vb1))], [], [Fact.sl u8S vb1 b]⟩ from ?_) a w (hs.wkS [167, 169, 170] [] [0] rfl rfl rfl rfl)
                                        clear hs hL
                                        obtain ⟨sum2, hx25, h⟩ := ob_e h
                                        refine TA_yes htb (by kernel_rfl) rfl rfl rfl (congrArg (fun b => some (Value.bool b)) hg17) (OpT_call (w_ref_Sum23 hx25) [] [0] rfl rfl rfl rfl rfl callee33 rfl rfl rfl rfl) ?_
                                        rintro _ ⟨_, _, _, ⟨rfl, rfl, rfl⟩, rfl⟩
                                        refine TA_yes htb (by kernel_rfl) rfl rfl rfl (congrArg (fun b => some (Value.bool b)) hg17) (OpT_bin rfl rfl rfl rfl rfl (bin_eql_u16 (a := sum1) (b := sum2))) ?_
                                        rintro _ rfl
                                        refine TA_step htb (by kernel_rfl) rfl rfl (OpT_pickT rfl rfl rfl (congrArg (fun b => some (Value.bool b)) hg17) rfl) ?_
                                        refine TA_step htb (by kernel_rfl) rfl rfl (OpT_assign rfl rfl rfl rfl) ?_
                                        refine TA_end rfl ?_
                                        refine Tk_wkS (fr' := [(8, some (vB (sum1 == sum2)))]) (own' := []) (shr' := []) [8] [] [] rfl rfl rfl rfl ?_
                                        obtain ⟨hg18, h⟩ := chk_e h
                                        exact Tk_retV rfl rfl (resA (vs := [.bool true]) rfl ⟨(congrArg (fun b => some (Value.bool b)) hg18), trivial⟩) [] [] rfl rfl rfl ⟨rfl, rfl, rfl⟩
end Go.Proofs.Ytgpggnhifkkfbaa
