/- The law FrameBack is walked: it returns what its plain words say. No condition. -/
import Derived.Test.YtgpggnhifkkfbaaWa3
namespace Go.Proofs.Ytgpggnhifkkfbaa

set_option maxRecDepth 100000 in
set_option maxHeartbeats 4000000 in
theorem w_law23zFrameBack {f : Frame} {hp1 : Hdr} {b : List UInt8} {vf1 : Value} {vb1 : Value}  (h : law23zFrameBack f hp1 b = some true) :
    Ctr Try.prog 8 #[.agg #[vU8 f.Dst.a0, vU8 f.Dst.a1, vU8 f.Dst.a2, vU8 f.Dst.a3, vU8 f.Dst.a4, vU8 f.Dst.a5, vU8 f.Src.a0, vU8 f.Src.a1, vU8 f.Src.a2, vU8 f.Src.a3, vU8 f.Src.a4, vU8 f.Src.a5, vI f.Vlan, vU16 f.Type_, vf1], .agg #[vU8 hp1.Flags, vU16 hp1.Start, vU16 hp1.Off, vU16 hp1.Buffers], vb1] [] [Fact.sl u8S vf1 f.Data, Fact.sl u8S vb1 b]
      (fun rv own shr => rv = .bool true ∧ own = [] ∧ shr = []) := by
  unfold law23zFrameBack at h
  refine Ctr.mk (args := [.agg #[vU8 f.Dst.a0, vU8 f.Dst.a1, vU8 f.Dst.a2, vU8 f.Dst.a3, vU8 f.Dst.a4, vU8 f.Dst.a5, vU8 f.Src.a0, vU8 f.Src.a1, vU8 f.Src.a2, vU8 f.Src.a3, vU8 f.Src.a4, vU8 f.Src.a5, vI f.Vlan, vU16 f.Type_, vf1], .agg #[vU8 hp1.Flags, vU16 hp1.Start, vU16 hp1.Off, vU16 hp1.Buffers], vb1]) Try.func8 rfl rfl (fun R0 w0 B => ?_)
  refine Tk_seq ?_
  refine Tk_region ?_
  refine Tops_ex rfl (OpT_box rfl rfl rfl rfl) fun b1 => ?_
  refine Tops_ex rfl (OpT_box rfl rfl rfl rfl) fun b2 => ?_
  refine Tops_step rfl (OpT_assign rfl rfl rfl rfl) ?_
  refine Tops_nil ?_
  refine Tk_wkS (fr' := [(2, some (vb1)), (3, some (.pointer (some ⟨b1, 0, none⟩))), (4, some (.pointer (some ⟨b2, 0, none⟩)))]) (own' := [some (cellsR b1 38 [vU8 f.Dst.a0, vU8 f.Dst.a1, vU8 f.Dst.a2, vU8 f.Dst.a3, vU8 f.Dst.a4, vU8 f.Dst.a5, vU8 f.Src.a0, vU8 f.Src.a1, vU8 f.Src.a2, vU8 f.Src.a3, vU8 f.Src.a4, vU8 f.Src.a5, vI f.Vlan, vU16 f.Type_, vf1]), some (cellsR b2 34 [vU8 hp1.Flags, vU16 hp1.Start, vU16 hp1.Off, vU16 hp1.Buffers])]) (shr' := [Fact.sl u8S vf1 f.Data, Fact.sl u8S vb1 b]) [2, 3, 4] [0, 1] [0, 1] rfl rfl rfl rfl ?_
  refine Tk_seq ?_
  refine Tk_seq ?_
  refine Tk_region ?_
  obtain ⟨lives1, hx1, h⟩ := ob_e h
  refine Tops_exP rfl (OpT_call (w_law23zlives hx1) [] [] rfl rfl rfl rfl rfl callee11 rfl rfl rfl rfl) ?_
  rintro _ ⟨_, _, _, ⟨rfl, rfl, rfl⟩, rfl⟩
  refine Tops_step rfl (OpT_not rfl rfl rfl rfl) ?_
  refine Tops_nil ?_
  refine Tk_wkS (fr' := [(2, some (vb1)), (3, some (.pointer (some ⟨b1, 0, none⟩))), (4, some (.pointer (some ⟨b2, 0, none⟩))), (15, some (vB (!lives1)))]) (own' := [some (cellsR b1 38 [vU8 f.Dst.a0, vU8 f.Dst.a1, vU8 f.Dst.a2, vU8 f.Dst.a3, vU8 f.Dst.a4, vU8 f.Dst.a5, vU8 f.Src.a0, vU8 f.Src.a1, vU8 f.Src.a2, vU8 f.Src.a3, vU8 f.Src.a4, vU8 f.Src.a5, vI f.Vlan, vU16 f.Type_, vf1]), some (cellsR b2 34 [vU8 hp1.Flags, vU16 hp1.Start, vU16 hp1.Off, vU16 hp1.Buffers])]) (shr' := [Fact.sl u8S vf1 f.Data, Fact.sl u8S vb1 b]) [2, 3, 4, 15] [0, 1] [0, 1] rfl rfl rfl rfl ?_
  obtain ⟨hg1, h⟩ := chk_e h
  replace hg1 := not_t hg1
  refine Tk_condF (congrArg (fun b => some (Value.bool b)) hg1) ?_
  refine Tk_skip ?_
  refine Tk_seq ?_
  refine Tk_seq ?_
  refine Tk_region ?_
  refine Tops_step rfl (OpT_fieldC rfl rfl rfl rfl fldF38x4) ?_
  refine Tops_step rfl (OpT_loadC rfl rfl rfl rfl tyF22 (i := 0) rfl rfl) ?_
  refine Tops_step rfl (OpT_lenS rfl rfl rfl rfl Try.underlying22 (i := 0) rfl) ?_
  refine Tops_step rfl (OpT_bin rfl rfl rfl rfl rfl (bin_gtr_i (a := len f.Data) (b := (3000 : Int)))) ?_
  refine Tops_step rfl (OpT_move rfl rfl rfl rfl) ?_
  rcases Bool.eq_false_or_eq_true (decide ((len f.Data) > (3000 : Int))) with hg2 | hg2
  · replace h := br_t hg2 h
    refine Tops_no rfl rfl (congrArg (fun b => some (Value.bool b)) hg2) rfl rfl ?_
    refine Tops_no rfl rfl (congrArg (fun b => some (Value.bool b)) hg2) rfl rfl ?_
    refine Tops_no rfl rfl (congrArg (fun b => some (Value.bool b)) hg2) rfl rfl ?_
    refine Tops_step rfl (OpT_pickT rfl rfl rfl (congrArg (fun b => some (Value.bool b)) hg2) rfl) ?_
    refine Tops_nil ?_
    refine Tk_wkS (fr' := [(2, some (vb1)), (3, some (.pointer (some ⟨b1, 0, none⟩))), (4, some (.pointer (some ⟨b2, 0, none⟩))), (24, some (vB true))]) (own' := [some (cellsR b1 38 [vU8 f.Dst.a0, vU8 f.Dst.a1, vU8 f.Dst.a2, vU8 f.Dst.a3, vU8 f.Dst.a4, vU8 f.Dst.a5, vU8 f.Src.a0, vU8 f.Src.a1, vU8 f.Src.a2, vU8 f.Src.a3, vU8 f.Src.a4, vU8 f.Src.a5, vI f.Vlan, vU16 f.Type_, vf1]), some (cellsR b2 34 [vU8 hp1.Flags, vU16 hp1.Start, vU16 hp1.Off, vU16 hp1.Buffers])]) (shr' := [Fact.sl u8S vf1 f.Data, Fact.sl u8S vb1 b]) [2, 3, 4, 24] [0, 1] [0, 1] rfl rfl rfl rfl ?_
    refine Tk_condT rfl ?_
    refine Tk_seq ?_
    refine Tk_region ?_
    refine Tops_step rfl (OpT_assign rfl rfl rfl rfl) ?_
    refine Tops_nil ?_
    refine Tk_wkS (fr' := [(6, some (vB true))]) (own' := []) (shr' := []) [6] [] [] rfl rfl rfl rfl ?_
    exact Tk_retV rfl rfl (resA (vs := [.bool true]) rfl ⟨rfl, trivial⟩) [] [] rfl rfl rfl ⟨rfl, rfl, rfl⟩
  · replace h := br_f hg2 h
    refine Tops_yes rfl rfl (congrArg (fun b => some (Value.bool b)) hg2) (OpT_move rfl rfl rfl rfl) ?_
    rintro _ rfl
    refine Tops_yes rfl rfl (congrArg (fun b => some (Value.bool b)) hg2) (OpT_lenS rfl rfl rfl rfl Try.underlying22 (i := 1) rfl) ?_
    rintro _ rfl
    refine Tops_yes rfl rfl (congrArg (fun b => some (Value.bool b)) hg2) (OpT_bin rfl rfl rfl rfl rfl (bin_gtr_i (a := len b) (b := (3000 : Int)))) ?_
    rintro _ rfl
    refine Tops_step rfl (OpT_pickF rfl rfl rfl (congrArg (fun b => some (Value.bool b)) hg2) rfl) ?_
    refine Tops_nil ?_
    refine Tk_wkS (fr' := [(2, some (vb1)), (3, some (.pointer (some ⟨b1, 0, none⟩))), (4, some (.pointer (some ⟨b2, 0, none⟩))), (24, some (vB (decide ((len b) > (3000 : Int)))))]) (own' := [some (cellsR b1 38 [vU8 f.Dst.a0, vU8 f.Dst.a1, vU8 f.Dst.a2, vU8 f.Dst.a3, vU8 f.Dst.a4, vU8 f.Dst.a5, vU8 f.Src.a0, vU8 f.Src.a1, vU8 f.Src.a2, vU8 f.Src.a3, vU8 f.Src.a4, vU8 f.Src.a5, vI f.Vlan, vU16 f.Type_, vf1]), some (cellsR b2 34 [vU8 hp1.Flags, vU16 hp1.Start, vU16 hp1.Off, vU16 hp1.Buffers])]) (shr' := [Fact.sl u8S vf1 f.Data, Fact.sl u8S vb1 b]) [2, 3, 4, 24] [0, 1] [0, 1] rfl rfl rfl rfl ?_
    rcases Bool.eq_false_or_eq_true (decide ((len b) > (3000 : Int))) with hg3 | hg3
    · replace h := br_t hg3 h
      refine Tk_condT (congrArg (fun b => some (Value.bool b)) hg3) ?_
      refine Tk_seq ?_
      refine Tk_region ?_
      refine Tops_step rfl (OpT_assign rfl rfl rfl rfl) ?_
      refine Tops_nil ?_
      refine Tk_wkS (fr' := [(6, some (vB true))]) (own' := []) (shr' := []) [6] [] [] rfl rfl rfl rfl ?_
      exact Tk_retV rfl rfl (resA (vs := [.bool true]) rfl ⟨rfl, trivial⟩) [] [] rfl rfl rfl ⟨rfl, rfl, rfl⟩
    · replace h := br_f hg3 h
      refine Tk_condF (congrArg (fun b => some (Value.bool b)) hg3) ?_
      refine Tk_skip ?_
      refine Tk_seq ?_
      refine Tk_region ?_
      refine Tops_step rfl (OpT_move rfl rfl rfl rfl) ?_
      obtain ⟨own1, hx2, h⟩ := ob_e h
      refine Tops_exP rfl (OpT_call (w_kit_Own hx2) [] [1] rfl rfl rfl rfl rfl callee13 rfl rfl rfl rfl) ?_
      rintro _ ⟨v1, _, _, ⟨_, rfl, rfl, rfl⟩, rfl⟩
      refine Tops_retire (i := 2) rfl ?_
      obtain ⟨read1, hx3, h⟩ := ob_e h
      refine Tops_exP rfl (OpT_call (w_frame_Read hx3) [] [2] rfl rfl rfl rfl rfl callee22 rfl rfl rfl rfl) ?_
      rintro _ ⟨_, _, _, ⟨v2, rfl, rfl, rfl⟩, rfl⟩
      refine Tops_step rfl (OpT_move rfl rfl rfl rfl) ?_
      refine Tops_step rfl (OpT_extract rfl rfl rfl rfl rfl) ?_
      refine Tops_step rfl (OpT_extract rfl rfl rfl rfl rfl) ?_
      refine Tops_ex rfl (OpT_alloc rfl rfl rfl tyZ38) fun b3 => ?_
      refine Tops_step rfl (OpT_storeA1 (fun z0 => [vU8 read1.1.Dst.a0, vU8 read1.1.Dst.a1, vU8 read1.1.Dst.a2, vU8 read1.1.Dst.a3, vU8 read1.1.Dst.a4, vU8 read1.1.Dst.a5, vU8 read1.1.Src.a0, vU8 read1.1.Src.a1, vU8 read1.1.Src.a2, vU8 read1.1.Src.a3, vU8 read1.1.Src.a4, vU8 read1.1.Src.a5, vI read1.1.Vlan, vU16 read1.1.Type_, z0]) (cs' := [vU8 read1.1.Dst.a0, vU8 read1.1.Dst.a1, vU8 read1.1.Dst.a2, vU8 read1.1.Dst.a3, vU8 read1.1.Dst.a4, vU8 read1.1.Dst.a5, vU8 read1.1.Src.a0, vU8 read1.1.Src.a1, vU8 read1.1.Src.a2, vU8 read1.1.Src.a3, vU8 read1.1.Src.a4, vU8 read1.1.Src.a5, vI read1.1.Vlan, vU16 read1.1.Type_, v2]) rfl rfl rfl rfl tyF38 (i := 3) rfl (is_sl (i := 3) rfl) (fun _ _ _ => rfl) rfl rfl rfl) ?_
      refine Tops_step rfl (OpT_assign rfl rfl rfl rfl) ?_
      refine Tops_nil ?_
      refine Tk_wkS (fr' := [(2, some (vb1)), (3, some (.pointer (some ⟨b1, 0, none⟩))), (4, some (.pointer (some ⟨b2, 0, none⟩))), (7, some (.pointer (some ⟨b3, 0, none⟩))), (8, some (vI read1.2))]) (own' := [some (cellsR b1 38 [vU8 f.Dst.a0, vU8 f.Dst.a1, vU8 f.Dst.a2, vU8 f.Dst.a3, vU8 f.Dst.a4, vU8 f.Dst.a5, vU8 f.Src.a0, vU8 f.Src.a1, vU8 f.Src.a2, vU8 f.Src.a3, vU8 f.Src.a4, vU8 f.Src.a5, vI f.Vlan, vU16 f.Type_, vf1]), some (cellsR b2 34 [vU8 hp1.Flags, vU16 hp1.Start, vU16 hp1.Off, vU16 hp1.Buffers]), some (cellsR b3 38 [vU8 read1.1.Dst.a0, vU8 read1.1.Dst.a1, vU8 read1.1.Dst.a2, vU8 read1.1.Dst.a3, vU8 read1.1.Dst.a4, vU8 read1.1.Dst.a5, vU8 read1.1.Src.a0, vU8 read1.1.Src.a1, vU8 read1.1.Src.a2, vU8 read1.1.Src.a3, vU8 read1.1.Src.a4, vU8 read1.1.Src.a5, vI read1.1.Vlan, vU16 read1.1.Type_, v2])]) (shr' := [Fact.sl u8S vf1 f.Data, Fact.sl u8S vb1 b, Fact.sl u8S v2 read1.1.Data]) [2, 3, 4, 7, 8] [0, 1, 3] [0, 1, 3] rfl rfl rfl rfl ?_
      refine Tk_seq ?_
      refine Tk_seq ?_
      refine Tk_region ?_
      refine Tops_step rfl (OpT_move rfl rfl rfl rfl) ?_
      refine Tops_step rfl (OpT_bin rfl rfl rfl rfl rfl (bin_eql_i (a := read1.2) (b := (0 : Int)))) ?_
      refine Tops_nil ?_
      refine Tk_wkS (fr' := [(2, some (vb1)), (3, some (.pointer (some ⟨b1, 0, none⟩))), (4, some (.pointer (some ⟨b2, 0, none⟩))), (7, some (.pointer (some ⟨b3, 0, none⟩))), (32, some (vB (read1.2 == (0 : Int))))]) (own' := [some (cellsR b1 38 [vU8 f.Dst.a0, vU8 f.Dst.a1, vU8 f.Dst.a2, vU8 f.Dst.a3, vU8 f.Dst.a4, vU8 f.Dst.a5, vU8 f.Src.a0, vU8 f.Src.a1, vU8 f.Src.a2, vU8 f.Src.a3, vU8 f.Src.a4, vU8 f.Src.a5, vI f.Vlan, vU16 f.Type_, vf1]), some (cellsR b2 34 [vU8 hp1.Flags, vU16 hp1.Start, vU16 hp1.Off, vU16 hp1.Buffers]), some (cellsR b3 38 [vU8 read1.1.Dst.a0, vU8 read1.1.Dst.a1, vU8 read1.1.Dst.a2, vU8 read1.1.Dst.a3, vU8 read1.1.Dst.a4, vU8 read1.1.Dst.a5, vU8 read1.1.Src.a0, vU8 read1.1.Src.a1, vU8 read1.1.Src.a2, vU8 read1.1.Src.a3, vU8 read1.1.Src.a4, vU8 read1.1.Src.a5, vI read1.1.Vlan, vU16 read1.1.Type_, v2])]) (shr' := [Fact.sl u8S vf1 f.Data, Fact.sl u8S vb1 b, Fact.sl u8S v2 read1.1.Data]) [2, 3, 4, 7, 32] [0, 1, 2] [0, 1, 2] rfl rfl rfl rfl ?_
      refine Tk_join (α := (A6 UInt8) × (A6 UInt8) × Int × UInt16 × (List UInt8) × Hdr × (A6 UInt8) × (A6 UInt8) × Int × UInt16 × (List UInt8) × Value × Value) (fun s => ⟨[(3, some (.pointer (some ⟨b1, 0, none⟩))), (4, some (.pointer (some ⟨b2, 0, none⟩))), (7, some (.pointer (some ⟨b3, 0, none⟩)))], [some (cellsR b1 38 [vU8 s.1.a0, vU8 s.1.a1, vU8 s.1.a2, vU8 s.1.a3, vU8 s.1.a4, vU8 s.1.a5, vU8 s.2.1.a0, vU8 s.2.1.a1, vU8 s.2.1.a2, vU8 s.2.1.a3, vU8 s.2.1.a4, vU8 s.2.1.a5, vI s.2.2.1, vU16 s.2.2.2.1, s.2.2.2.2.2.2.2.2.2.2.2.1]), some (cellsR b2 34 [vU8 s.2.2.2.2.2.1.Flags, vU16 s.2.2.2.2.2.1.Start, vU16 s.2.2.2.2.2.1.Off, vU16 s.2.2.2.2.2.1.Buffers]), some (cellsR b3 38 [vU8 s.2.2.2.2.2.2.1.a0, vU8 s.2.2.2.2.2.2.1.a1, vU8 s.2.2.2.2.2.2.1.a2, vU8 s.2.2.2.2.2.2.1.a3, vU8 s.2.2.2.2.2.2.1.a4, vU8 s.2.2.2.2.2.2.1.a5, vU8 s.2.2.2.2.2.2.2.1.a0, vU8 s.2.2.2.2.2.2.2.1.a1, vU8 s.2.2.2.2.2.2.2.1.a2, vU8 s.2.2.2.2.2.2.2.1.a3, vU8 s.2.2.2.2.2.2.2.1.a4, vU8 s.2.2.2.2.2.2.2.1.a5, vI s.2.2.2.2.2.2.2.2.1, vU16 s.2.2.2.2.2.2.2.2.2.1, s.2.2.2.2.2.2.2.2.2.2.2.2])], [Fact.sl u8S s.2.2.2.2.2.2.2.2.2.2.2.1 s.2.2.2.2.1, Fact.sl u8S s.2.2.2.2.2.2.2.2.2.2.2.2 s.2.2.2.2.2.2.2.2.2.2.1]⟩) (fun s => law23zFrameBackJ1 s.1 s.2.1 s.2.2.1 s.2.2.2.1 s.2.2.2.2.1 s.2.2.2.2.2.1 s.2.2.2.2.2.2.1 s.2.2.2.2.2.2.2.1 s.2.2.2.2.2.2.2.2.1 s.2.2.2.2.2.2.2.2.2.1 s.2.2.2.2.2.2.2.2.2.2.1 = some true) ?_ ?_
      · rintro ⟨Dst1, Src1, Vlan1, Type1, Data1, m1, Dst2, Src2, Vlan2, Type2, Data2, v3, v4⟩ h
        replace h : law23zFrameBackJ1 Dst1 Src1 Vlan1 Type1 Data1 m1 Dst2 Src2 Vlan2 Type2 Data2 = some true := h
        unfold law23zFrameBackJ1 at h
        refine Tk_seq ?_
        refine Tk_region ?_
        refine Tops_step rfl (OpT_loadCA (vs := [vU8 m1.Flags, vU16 m1.Start, vU16 m1.Off, vU16 m1.Buffers]) rfl rfl rfl rfl tyF34 (i := 1) rfl rfl rfl) ?_
        obtain ⟨hdrof1, hx4, h⟩ := ob_e h
        refine Tops_exP rfl (OpT_call (w_frame_HdrOf hx4) [] [] rfl rfl rfl rfl rfl callee17 rfl rfl rfl rfl) ?_
        rintro _ ⟨v5, _, _, ⟨_, rfl, rfl, rfl⟩, rfl⟩
        obtain ⟨readhd1, hx5, h⟩ := ob_e h
        refine Tops_exP rfl (OpT_callB [3] [0, 1, 2, 3] (w_frame_ReadHdr hx5) [] rfl rfl rfl rfl rfl callee23 rfl rfl rfl rfl rfl rfl (bor_cons (bor_row 3 rfl rfl) bor_nil) (by rintro _ _ _ ⟨rfl, rfl, rfl⟩; exact ⟨rfl, ri_nil⟩)) ?_
        rintro _ ⟨_, _, _, ⟨rfl, rfl, rfl⟩, rfl⟩
        refine Tops_step rfl (OpT_move rfl rfl rfl rfl) ?_
        refine Tops_step rfl (OpT_extract rfl rfl rfl rfl rfl) ?_
        refine Tops_step rfl (OpT_extract rfl rfl rfl rfl rfl) ?_
        refine Tops_ex rfl (OpT_alloc rfl rfl rfl tyZ34) fun b4 => ?_
        refine Tops_step rfl (OpT_storeC (cs' := [vU8 readhd1.1.Flags, vU16 readhd1.1.Start, vU16 readhd1.1.Off, vU16 readhd1.1.Buffers]) rfl rfl rfl rfl tyF34 (i := 4) rfl rfl rfl (one_of rfl) rfl) ?_
        refine Tops_step rfl (OpT_assign rfl rfl rfl rfl) ?_
        refine Tops_nil ?_
        refine Tk_wkS (fr' := [(3, some (.pointer (some ⟨b1, 0, none⟩))), (4, some (.pointer (some ⟨b2, 0, none⟩))), (7, some (.pointer (some ⟨b3, 0, none⟩))), (11, some (.pointer (some ⟨b4, 0, none⟩))), (8, some (vI readhd1.2))]) (own' := [some (cellsR b1 38 [vU8 Dst1.a0, vU8 Dst1.a1, vU8 Dst1.a2, vU8 Dst1.a3, vU8 Dst1.a4, vU8 Dst1.a5, vU8 Src1.a0, vU8 Src1.a1, vU8 Src1.a2, vU8 Src1.a3, vU8 Src1.a4, vU8 Src1.a5, vI Vlan1, vU16 Type1, v3]), some (cellsR b2 34 [vU8 m1.Flags, vU16 m1.Start, vU16 m1.Off, vU16 m1.Buffers]), some (cellsR b3 38 [vU8 Dst2.a0, vU8 Dst2.a1, vU8 Dst2.a2, vU8 Dst2.a3, vU8 Dst2.a4, vU8 Dst2.a5, vU8 Src2.a0, vU8 Src2.a1, vU8 Src2.a2, vU8 Src2.a3, vU8 Src2.a4, vU8 Src2.a5, vI Vlan2, vU16 Type2, v4]), some (cellsR b4 34 [vU8 readhd1.1.Flags, vU16 readhd1.1.Start, vU16 readhd1.1.Off, vU16 readhd1.1.Buffers])]) (shr' := [Fact.sl u8S v3 Data1, Fact.sl u8S v4 Data2]) [3, 4, 7, 11, 8] [0, 1, 2, 4] [0, 1] rfl rfl rfl rfl ?_
        refine Tk_seq ?_
        refine Tk_seq ?_
        refine Tk_region ?_
        refine Tops_step rfl (OpT_move rfl rfl rfl rfl) ?_
        refine Tops_step rfl (OpT_bin rfl rfl rfl rfl rfl (bin_neq_i (a := readhd1.2) (b := (0 : Int)))) ?_
        refine Tops_step rfl (OpT_move rfl rfl rfl rfl) ?_
        obtain ⟨hg4, h⟩ := chk_e h
        replace hg4 := not_t hg4
        refine Tops_yes rfl rfl (congrArg (fun b => some (Value.bool b)) hg4) (OpT_loadCA (vs := [vU8 readhd1.1.Flags, vU16 readhd1.1.Start, vU16 readhd1.1.Off, vU16 readhd1.1.Buffers]) rfl rfl rfl rfl tyF34 (i := 3) rfl rfl rfl) ?_
        rintro _ rfl
        refine Tops_yes rfl rfl (congrArg (fun b => some (Value.bool b)) hg4) (OpT_loadCA (vs := [vU8 m1.Flags, vU16 m1.Start, vU16 m1.Off, vU16 m1.Buffers]) rfl rfl rfl rfl tyF34 (i := 1) rfl rfl rfl) ?_
        rintro _ rfl
        refine Tops_yes rfl rfl (congrArg (fun b => some (Value.bool b)) hg4) (OpT_bin rfl rfl rfl rfl rfl (eqT34_neq readhd1.1 m1)) ?_
        rintro _ rfl
        refine Tops_step rfl (OpT_pickF rfl rfl rfl (congrArg (fun b => some (Value.bool b)) hg4) rfl) ?_
        refine Tops_step rfl (OpT_move rfl rfl rfl rfl) ?_
        obtain ⟨hg5, h⟩ := chk_e h
        replace hg5 := not_t hg5
        refine Tops_yes rfl rfl (congrArg (fun b => some (Value.bool b)) hg5) (OpT_loadCA (vs := [vU8 m1.Flags, vU16 m1.Start, vU16 m1.Off, vU16 m1.Buffers]) rfl rfl rfl rfl tyF34 (i := 1) rfl rfl rfl) ?_
        rintro _ rfl
        obtain ⟨hdrof2, hx6, h⟩ := ob_e h
        refine Tops_yes rfl rfl (congrArg (fun b => some (Value.bool b)) hg5) (OpT_call (w_frame_HdrOf hx6) [] [] rfl rfl rfl rfl rfl callee17 rfl rfl rfl rfl) ?_
        rintro _ ⟨v6, _, _, ⟨_, rfl, rfl, rfl⟩, rfl⟩
        refine Tops_yes rfl rfl (congrArg (fun b => some (Value.bool b)) hg5) (OpT_lenO rfl rfl rfl rfl Try.underlying22 (i := 4) rfl) ?_
        rintro _ rfl
        refine Tops_yes rfl rfl (congrArg (fun b => some (Value.bool b)) hg5) (OpT_bin rfl rfl rfl rfl rfl (bin_neq_i (a := len hdrof2) (b := (12 : Int)))) ?_
        rintro _ rfl
        refine Tops_step rfl (OpT_pickF rfl rfl rfl (congrArg (fun b => some (Value.bool b)) hg5) rfl) ?_
        refine Tops_nil ?_
        refine Tk_wkS (fr' := [(3, some (.pointer (some ⟨b1, 0, none⟩))), (7, some (.pointer (some ⟨b3, 0, none⟩))), (65, some (vB ((len hdrof2) != (12 : Int))))]) (own' := [some (cellsR b1 38 [vU8 Dst1.a0, vU8 Dst1.a1, vU8 Dst1.a2, vU8 Dst1.a3, vU8 Dst1.a4, vU8 Dst1.a5, vU8 Src1.a0, vU8 Src1.a1, vU8 Src1.a2, vU8 Src1.a3, vU8 Src1.a4, vU8 Src1.a5, vI Vlan1, vU16 Type1, v3]), some (cellsR b3 38 [vU8 Dst2.a0, vU8 Dst2.a1, vU8 Dst2.a2, vU8 Dst2.a3, vU8 Dst2.a4, vU8 Dst2.a5, vU8 Src2.a0, vU8 Src2.a1, vU8 Src2.a2, vU8 Src2.a3, vU8 Src2.a4, vU8 Src2.a5, vI Vlan2, vU16 Type2, v4])]) (shr' := [Fact.sl u8S v3 Data1, Fact.sl u8S v4 Data2]) [3, 7, 65] [0, 2] [0, 1] rfl rfl rfl rfl ?_
        obtain ⟨hg6, h⟩ := chk_e h
        replace hg6 := not_t hg6
        refine Tk_condF (congrArg (fun b => some (Value.bool b)) hg6) ?_
        refine Tk_skip ?_
        refine Tk_seq ?_
        refine Tk_region ?_
        refine Tops_step rfl (OpT_loadCA (vs := [vU8 Dst1.a0, vU8 Dst1.a1, vU8 Dst1.a2, vU8 Dst1.a3, vU8 Dst1.a4, vU8 Dst1.a5, vU8 Src1.a0, vU8 Src1.a1, vU8 Src1.a2, vU8 Src1.a3, vU8 Src1.a4, vU8 Src1.a5, vI Vlan1, vU16 Type1, v3]) rfl rfl rfl rfl tyF38 (i := 0) rfl rfl rfl) ?_
        obtain ⟨bytes1, hx7, h⟩ := ob_e h
        refine Tops_exP rfl (OpT_call (w_frame_Bytes hx7) [] [0] rfl rfl rfl rfl rfl callee16 rfl rfl rfl rfl) ?_
        rintro _ ⟨_, _, _, ⟨v7, rfl, rfl, rfl⟩, rfl⟩
        refine Tops_step rfl (OpT_move rfl rfl rfl rfl) ?_
        refine Tops_step rfl (OpT_extract rfl rfl rfl rfl rfl) ?_
        refine Tops_step rfl (OpT_extract rfl rfl rfl rfl rfl) ?_
        refine Tops_step rfl (OpT_assign rfl rfl rfl rfl) ?_
        refine Tops_step rfl (OpT_assign rfl rfl rfl rfl) ?_
        refine Tops_nil ?_
        refine Tk_wkS (fr' := [(3, some (.pointer (some ⟨b1, 0, none⟩))), (7, some (.pointer (some ⟨b3, 0, none⟩))), (12, some (v7)), (8, some (vI bytes1.2))]) (own' := [some (cellsR b1 38 [vU8 Dst1.a0, vU8 Dst1.a1, vU8 Dst1.a2, vU8 Dst1.a3, vU8 Dst1.a4, vU8 Dst1.a5, vU8 Src1.a0, vU8 Src1.a1, vU8 Src1.a2, vU8 Src1.a3, vU8 Src1.a4, vU8 Src1.a5, vI Vlan1, vU16 Type1, v3]), some (cellsR b3 38 [vU8 Dst2.a0, vU8 Dst2.a1, vU8 Dst2.a2, vU8 Dst2.a3, vU8 Dst2.a4, vU8 Dst2.a5, vU8 Src2.a0, vU8 Src2.a1, vU8 Src2.a2, vU8 Src2.a3, vU8 Src2.a4, vU8 Src2.a5, vI Vlan2, vU16 Type2, v4]), some (rowS u8S v7 bytes1.1)]) (shr' := [Fact.sl u8S v3 Data1, Fact.sl u8S v4 Data2]) [3, 7, 12, 8] [0, 1, 2] [0, 1] rfl rfl rfl rfl ?_
        refine Tk_seq ?_
        refine Tk_seq ?_
        refine Tk_region ?_
        refine Tops_step rfl (OpT_move rfl rfl rfl rfl) ?_
        refine Tops_step rfl (OpT_bin rfl rfl rfl rfl rfl (bin_neq_i (a := bytes1.2) (b := (0 : Int)))) ?_
        refine Tops_nil ?_
        refine Tk_wkS (fr' := [(3, some (.pointer (some ⟨b1, 0, none⟩))), (7, some (.pointer (some ⟨b3, 0, none⟩))), (12, some (v7)), (8, some (vI bytes1.2)), (72, some (vB (bytes1.2 != (0 : Int))))]) (own' := [some (cellsR b1 38 [vU8 Dst1.a0, vU8 Dst1.a1, vU8 Dst1.a2, vU8 Dst1.a3, vU8 Dst1.a4, vU8 Dst1.a5, vU8 Src1.a0, vU8 Src1.a1, vU8 Src1.a2, vU8 Src1.a3, vU8 Src1.a4, vU8 Src1.a5, vI Vlan1, vU16 Type1, v3]), some (cellsR b3 38 [vU8 Dst2.a0, vU8 Dst2.a1, vU8 Dst2.a2, vU8 Dst2.a3, vU8 Dst2.a4, vU8 Dst2.a5, vU8 Src2.a0, vU8 Src2.a1, vU8 Src2.a2, vU8 Src2.a3, vU8 Src2.a4, vU8 Src2.a5, vI Vlan2, vU16 Type2, v4]), some (rowS u8S v7 bytes1.1)]) (shr' := [Fact.sl u8S v3 Data1, Fact.sl u8S v4 Data2]) [3, 7, 12, 8, 72] [0, 1, 2] [0, 1] rfl rfl rfl rfl ?_
        rcases Bool.eq_false_or_eq_true (bytes1.2 != (0 : Int)) with hg7 | hg7
        · replace h := br_t hg7 h
          refine Tk_condT (congrArg (fun b => some (Value.bool b)) hg7) ?_
          refine Tk_seq ?_
          refine Tk_region ?_
          refine Tops_step rfl (OpT_move rfl rfl rfl rfl) ?_
          refine Tops_step rfl (OpT_loadCA (vs := [vU8 Dst1.a0, vU8 Dst1.a1, vU8 Dst1.a2, vU8 Dst1.a3, vU8 Dst1.a4, vU8 Dst1.a5, vU8 Src1.a0, vU8 Src1.a1, vU8 Src1.a2, vU8 Src1.a3, vU8 Src1.a4, vU8 Src1.a5, vI Vlan1, vU16 Type1, v3]) rfl rfl rfl rfl tyF38 (i := 0) rfl rfl rfl) ?_
          obtain ⟨check1, hx8, h⟩ := ob_e h
          refine Tops_exP rfl (OpT_call (w_frame_Check hx8) [] [0] rfl rfl rfl rfl rfl callee20 rfl rfl rfl rfl) ?_
          rintro _ ⟨_, _, _, ⟨rfl, rfl, rfl⟩, rfl⟩
          refine Tops_step rfl (OpT_bin rfl rfl rfl rfl rfl (bin_eql_i (a := bytes1.2) (b := check1))) ?_
          refine Tops_step rfl (OpT_move rfl rfl rfl rfl) ?_
          obtain ⟨hg8, h⟩ := chk_e h
          refine Tops_yes rfl rfl (congrArg (fun b => some (Value.bool b)) hg8) (OpT_move rfl rfl rfl rfl) ?_
          rintro _ rfl
          refine Tops_yes rfl rfl (congrArg (fun b => some (Value.bool b)) hg8) (OpT_lenO rfl rfl rfl rfl Try.underlying22 (i := 2) rfl) ?_
          rintro _ rfl
          refine Tops_yes rfl rfl (congrArg (fun b => some (Value.bool b)) hg8) (OpT_bin rfl rfl rfl rfl rfl (bin_eql_i (a := len bytes1.1) (b := (0 : Int)))) ?_
          rintro _ rfl
          refine Tops_step rfl (OpT_pickT rfl rfl rfl (congrArg (fun b => some (Value.bool b)) hg8) rfl) ?_
          refine Tops_step rfl (OpT_assign rfl rfl rfl rfl) ?_
          refine Tops_nil ?_
          refine Tk_wkS (fr' := [(6, some (vB ((len bytes1.1) == (0 : Int))))]) (own' := []) (shr' := []) [6] [] [] rfl rfl rfl rfl ?_
          obtain ⟨hg9, h⟩ := chk_e h
          exact Tk_retV rfl rfl (resA (vs := [.bool true]) rfl ⟨(congrArg (fun b => some (Value.bool b)) hg9), trivial⟩) [] [] rfl rfl rfl ⟨rfl, rfl, rfl⟩
        · replace h := br_f hg7 h
          refine Tk_condF (congrArg (fun b => some (Value.bool b)) hg7) ?_
          refine Tk_skip ?_
          refine Tk_seq ?_
          refine Tk_region ?_
          refine Tops_step rfl (OpT_move rfl rfl rfl rfl) ?_
          refine Tops_retire (i := 2) rfl ?_
          obtain ⟨read2, hx9, h⟩ := ob_e h
          refine Tops_exP rfl (OpT_call (w_frame_Read hx9) [] [2] rfl rfl rfl rfl rfl callee22 rfl rfl rfl rfl) ?_
          rintro _ ⟨_, _, _, ⟨v8, rfl, rfl, rfl⟩, rfl⟩
          refine Tops_step rfl (OpT_move rfl rfl rfl rfl) ?_
          refine Tops_step rfl (OpT_extract rfl rfl rfl rfl rfl) ?_
          refine Tops_step rfl (OpT_extract rfl rfl rfl rfl rfl) ?_
          refine Tops_step rfl (OpT_storeA1 (fun z0 => [vU8 read2.1.Dst.a0, vU8 read2.1.Dst.a1, vU8 read2.1.Dst.a2, vU8 read2.1.Dst.a3, vU8 read2.1.Dst.a4, vU8 read2.1.Dst.a5, vU8 read2.1.Src.a0, vU8 read2.1.Src.a1, vU8 read2.1.Src.a2, vU8 read2.1.Src.a3, vU8 read2.1.Src.a4, vU8 read2.1.Src.a5, vI read2.1.Vlan, vU16 read2.1.Type_, z0]) (cs' := [vU8 read2.1.Dst.a0, vU8 read2.1.Dst.a1, vU8 read2.1.Dst.a2, vU8 read2.1.Dst.a3, vU8 read2.1.Dst.a4, vU8 read2.1.Dst.a5, vU8 read2.1.Src.a0, vU8 read2.1.Src.a1, vU8 read2.1.Src.a2, vU8 read2.1.Src.a3, vU8 read2.1.Src.a4, vU8 read2.1.Src.a5, vI read2.1.Vlan, vU16 read2.1.Type_, v8]) rfl rfl rfl rfl tyF38 (i := 1) rfl (is_sl (i := 3) rfl) (fun _ _ _ => rfl) rfl rfl rfl) ?_
          refine Tops_step rfl (OpT_assign rfl rfl rfl rfl) ?_
          refine Tops_nil ?_
          refine Tk_wkS (fr' := [(3, some (.pointer (some ⟨b1, 0, none⟩))), (7, some (.pointer (some ⟨b3, 0, none⟩))), (12, some (v7)), (8, some (vI read2.2))]) (own' := [some (cellsR b1 38 [vU8 Dst1.a0, vU8 Dst1.a1, vU8 Dst1.a2, vU8 Dst1.a3, vU8 Dst1.a4, vU8 Dst1.a5, vU8 Src1.a0, vU8 Src1.a1, vU8 Src1.a2, vU8 Src1.a3, vU8 Src1.a4, vU8 Src1.a5, vI Vlan1, vU16 Type1, v3]), some (cellsR b3 38 [vU8 read2.1.Dst.a0, vU8 read2.1.Dst.a1, vU8 read2.1.Dst.a2, vU8 read2.1.Dst.a3, vU8 read2.1.Dst.a4, vU8 read2.1.Dst.a5, vU8 read2.1.Src.a0, vU8 read2.1.Src.a1, vU8 read2.1.Src.a2, vU8 read2.1.Src.a3, vU8 read2.1.Src.a4, vU8 read2.1.Src.a5, vI read2.1.Vlan, vU16 read2.1.Type_, v8])]) (shr' := [Fact.sl u8S v3 Data1, Fact.sl u8S v7 bytes1.1, Fact.sl u8S v8 read2.1.Data]) [3, 7, 12, 8] [0, 1] [0, 2, 3] rfl rfl rfl rfl ?_
          refine Tk_seq ?_
          refine Tk_region ?_
          refine Tops_step rfl (OpT_fieldC rfl rfl rfl rfl fldF38x4) ?_
          refine Tops_step rfl (OpT_loadC rfl rfl rfl rfl tyF22 (i := 0) rfl rfl) ?_
          refine Tops_step rfl (OpT_lenS rfl rfl rfl rfl Try.underlying22 (i := 0) rfl) ?_
          refine Tops_step rfl (OpT_bin rfl rfl rfl rfl rfl (bin_add_i (a := (14 : Int)) (b := len Data1))) ?_
          refine Tops_step rfl (OpT_assign rfl rfl rfl rfl) ?_
          refine Tops_nil ?_
          refine Tk_wkS (fr' := [(3, some (.pointer (some ⟨b1, 0, none⟩))), (7, some (.pointer (some ⟨b3, 0, none⟩))), (12, some (v7)), (8, some (vI read2.2)), (13, some (vI (wi ((14 : Int) + (len Data1)))))]) (own' := [some (cellsR b1 38 [vU8 Dst1.a0, vU8 Dst1.a1, vU8 Dst1.a2, vU8 Dst1.a3, vU8 Dst1.a4, vU8 Dst1.a5, vU8 Src1.a0, vU8 Src1.a1, vU8 Src1.a2, vU8 Src1.a3, vU8 Src1.a4, vU8 Src1.a5, vI Vlan1, vU16 Type1, v3]), some (cellsR b3 38 [vU8 read2.1.Dst.a0, vU8 read2.1.Dst.a1, vU8 read2.1.Dst.a2, vU8 read2.1.Dst.a3, vU8 read2.1.Dst.a4, vU8 read2.1.Dst.a5, vU8 read2.1.Src.a0, vU8 read2.1.Src.a1, vU8 read2.1.Src.a2, vU8 read2.1.Src.a3, vU8 read2.1.Src.a4, vU8 read2.1.Src.a5, vI read2.1.Vlan, vU16 read2.1.Type_, v8])]) (shr' := [Fact.sl u8S v3 Data1, Fact.sl u8S v7 bytes1.1, Fact.sl u8S v8 read2.1.Data]) [3, 7, 12, 8, 13] [0, 1] [0, 1, 2] rfl rfl rfl rfl ?_
          refine Tk_seq ?_
          refine Tk_seq ?_
          refine Tk_region ?_
          refine Tops_step rfl (OpT_fieldC rfl rfl rfl rfl fldF38x2) ?_
          refine Tops_step rfl (OpT_loadC rfl rfl rfl rfl tyF3 (i := 0) rfl rfl) ?_
          refine Tops_step rfl (OpT_bin rfl rfl rfl rfl rfl (bin_geq_i (a := Vlan1) (b := (0 : Int)))) ?_
          refine Tops_nil ?_
          refine Tk_wkS (fr' := [(3, some (.pointer (some ⟨b1, 0, none⟩))), (7, some (.pointer (some ⟨b3, 0, none⟩))), (12, some (v7)), (8, some (vI read2.2)), (13, some (vI (wi ((14 : Int) + (len Data1))))), (93, some (vB (decide (Vlan1 ≥ (0 : Int)))))]) (own' := [some (cellsR b1 38 [vU8 Dst1.a0, vU8 Dst1.a1, vU8 Dst1.a2, vU8 Dst1.a3, vU8 Dst1.a4, vU8 Dst1.a5, vU8 Src1.a0, vU8 Src1.a1, vU8 Src1.a2, vU8 Src1.a3, vU8 Src1.a4, vU8 Src1.a5, vI Vlan1, vU16 Type1, v3]), some (cellsR b3 38 [vU8 read2.1.Dst.a0, vU8 read2.1.Dst.a1, vU8 read2.1.Dst.a2, vU8 read2.1.Dst.a3, vU8 read2.1.Dst.a4, vU8 read2.1.Dst.a5, vU8 read2.1.Src.a0, vU8 read2.1.Src.a1, vU8 read2.1.Src.a2, vU8 read2.1.Src.a3, vU8 read2.1.Src.a4, vU8 read2.1.Src.a5, vI read2.1.Vlan, vU16 read2.1.Type_, v8])]) (shr' := [Fact.sl u8S v3 Data1, Fact.sl u8S v7 bytes1.1, Fact.sl u8S v8 read2.1.Data]) [3, 7, 12, 8, 13, 93] [0, 1] [0, 1, 2] rfl rfl rfl rfl ?_
          refine Tk_join (α := Int) (fun s => ⟨[(3, some (.pointer (some ⟨b1, 0, none⟩))), (7, some (.pointer (some ⟨b3, 0, none⟩))), (12, some (v7)), (8, some (vI read2.2)), (13, some (vI s))], [some (cellsR b1 38 [vU8 Dst1.a0, vU8 Dst1.a1, vU8 Dst1.a2, vU8 Dst1.a3, vU8 Dst1.a4, vU8 Dst1.a5, vU8 Src1.a0, vU8 Src1.a1, vU8 Src1.a2, vU8 Src1.a3, vU8 Src1.a4, vU8 Src1.a5, vI Vlan1, vU16 Type1, v3]), some (cellsR b3 38 [vU8 read2.1.Dst.a0, vU8 read2.1.Dst.a1, vU8 read2.1.Dst.a2, vU8 read2.1.Dst.a3, vU8 read2.1.Dst.a4, vU8 read2.1.Dst.a5, vU8 read2.1.Src.a0, vU8 read2.1.Src.a1, vU8 read2.1.Src.a2, vU8 read2.1.Src.a3, vU8 read2.1.Src.a4, vU8 read2.1.Src.a5, vI read2.1.Vlan, vU16 read2.1.Type_, v8])], [Fact.sl u8S v3 Data1, Fact.sl u8S v8 read2.1.Data, Fact.sl u8S v7 bytes1.1]⟩) (fun s => law23zFrameBackJ2 Dst1 Src1 Vlan1 Type1 Data1 bytes1 read2 s = some true) ?_ ?_
          · rintro size1 h
            replace h : law23zFrameBackJ2 Dst1 Src1 Vlan1 Type1 Data1 bytes1 read2 size1 = some true := h
            unfold law23zFrameBackJ2 at h
            refine Tk_seq ?_
            refine Tk_seq ?_
            refine Tk_region ?_
            refine Tops_step rfl (OpT_move rfl rfl rfl rfl) ?_
            refine Tops_step rfl (OpT_bin rfl rfl rfl rfl rfl (bin_neq_i (a := read2.2) (b := (0 : Int)))) ?_
            refine Tops_step rfl (OpT_move rfl rfl rfl rfl) ?_
            obtain ⟨hg10, h⟩ := chk_e h
            replace hg10 := not_t hg10
            refine Tops_yes rfl rfl (congrArg (fun b => some (Value.bool b)) hg10) (OpT_loadCA (vs := [vU8 Dst1.a0, vU8 Dst1.a1, vU8 Dst1.a2, vU8 Dst1.a3, vU8 Dst1.a4, vU8 Dst1.a5, vU8 Src1.a0, vU8 Src1.a1, vU8 Src1.a2, vU8 Src1.a3, vU8 Src1.a4, vU8 Src1.a5, vI Vlan1, vU16 Type1, v3]) rfl rfl rfl rfl tyF38 (i := 0) rfl rfl rfl) ?_
            rintro _ rfl
            refine Tops_yes rfl rfl (congrArg (fun b => some (Value.bool b)) hg10) (OpT_loadCA (vs := [vU8 read2.1.Dst.a0, vU8 read2.1.Dst.a1, vU8 read2.1.Dst.a2, vU8 read2.1.Dst.a3, vU8 read2.1.Dst.a4, vU8 read2.1.Dst.a5, vU8 read2.1.Src.a0, vU8 read2.1.Src.a1, vU8 read2.1.Src.a2, vU8 read2.1.Src.a3, vU8 read2.1.Src.a4, vU8 read2.1.Src.a5, vI read2.1.Vlan, vU16 read2.1.Type_, v8]) rfl rfl rfl rfl tyF38 (i := 1) rfl rfl rfl) ?_
            rintro _ rfl
            obtain ⟨same1, hx10, h⟩ := ob_e h
            refine Tops_yes rfl rfl (congrArg (fun b => some (Value.bool b)) hg10) (OpT_call (w_frame_Same hx10) [] [0, 1] rfl rfl rfl rfl rfl callee21 rfl rfl rfl rfl) ?_
            rintro _ ⟨_, _, _, ⟨rfl, rfl, rfl⟩, rfl⟩
            refine Tops_yes rfl rfl (congrArg (fun b => some (Value.bool b)) hg10) (OpT_not rfl rfl rfl rfl) ?_
            rintro _ rfl
            refine Tops_step rfl (OpT_pickF rfl rfl rfl (congrArg (fun b => some (Value.bool b)) hg10) rfl) ?_
            refine Tops_step rfl (OpT_move rfl rfl rfl rfl) ?_
            obtain ⟨hg11, h⟩ := chk_e h
            replace hg11 := not_t hg11
            refine Tops_yes rfl rfl (congrArg (fun b => some (Value.bool b)) hg11) (OpT_move rfl rfl rfl rfl) ?_
            rintro _ rfl
            refine Tops_yes rfl rfl (congrArg (fun b => some (Value.bool b)) hg11) (OpT_lenS rfl rfl rfl rfl Try.underlying22 (i := 2) rfl) ?_
            rintro _ rfl
            refine Tops_yes rfl rfl (congrArg (fun b => some (Value.bool b)) hg11) (OpT_move rfl rfl rfl rfl) ?_
            rintro _ rfl
            refine Tops_yes rfl rfl (congrArg (fun b => some (Value.bool b)) hg11) (OpT_bin rfl rfl rfl rfl rfl (bin_neq_i (a := len bytes1.1) (b := size1))) ?_
            rintro _ rfl
            refine Tops_step rfl (OpT_pickF rfl rfl rfl (congrArg (fun b => some (Value.bool b)) hg11) rfl) ?_
            refine Tops_nil ?_
            refine Tk_wkS (fr' := [(3, some (.pointer (some ⟨b1, 0, none⟩))), (7, some (.pointer (some ⟨b3, 0, none⟩))), (12, some (v7)), (109, some (vB ((len bytes1.1) != size1)))]) (own' := [some (cellsR b1 38 [vU8 Dst1.a0, vU8 Dst1.a1, vU8 Dst1.a2, vU8 Dst1.a3, vU8 Dst1.a4, vU8 Dst1.a5, vU8 Src1.a0, vU8 Src1.a1, vU8 Src1.a2, vU8 Src1.a3, vU8 Src1.a4, vU8 Src1.a5, vI Vlan1, vU16 Type1, v3]), some (cellsR b3 38 [vU8 read2.1.Dst.a0, vU8 read2.1.Dst.a1, vU8 read2.1.Dst.a2, vU8 read2.1.Dst.a3, vU8 read2.1.Dst.a4, vU8 read2.1.Dst.a5, vU8 read2.1.Src.a0, vU8 read2.1.Src.a1, vU8 read2.1.Src.a2, vU8 read2.1.Src.a3, vU8 read2.1.Src.a4, vU8 read2.1.Src.a5, vI read2.1.Vlan, vU16 read2.1.Type_, v8])]) (shr' := [Fact.sl u8S v3 Data1, Fact.sl u8S v8 read2.1.Data, Fact.sl u8S v7 bytes1.1]) [3, 7, 12, 109] [0, 1] [0, 1, 2] rfl rfl rfl rfl ?_
            obtain ⟨hg12, h⟩ := chk_e h
            replace hg12 := not_t hg12
            refine Tk_condF (congrArg (fun b => some (Value.bool b)) hg12) ?_
            refine Tk_skip ?_
            refine Tk_seq ?_
            refine Tk_region ?_
            refine Tops_step rfl (OpT_move rfl rfl rfl rfl) ?_
            obtain ⟨own2, hx11, h⟩ := ob_e h
            refine Tops_exP rfl (OpT_call (w_kit_Own hx11) [] [2] rfl rfl rfl rfl rfl callee13 rfl rfl rfl rfl) ?_
            rintro _ ⟨v9, _, _, ⟨_, rfl, rfl, rfl⟩, rfl⟩
            refine Tops_ex rfl (OpT_buildSlice (S := u8S) (xs := [(7 : UInt8)]) (css := [[vU8 (7 : UInt8)]]) (cs := [vU8 (7 : UInt8)]) (e := 5) rfl rfl rfl rfl (bldF slF22 (by decide) (by kernel_rfl)) rfl rfl rfl rfl (rel_plainD (S := u8S) (xs := [(7 : UInt8)]) (css := [[vU8 (7 : UInt8)]]) rfl rfl)) fun v10 => ?_
            obtain ⟨hc1, h⟩ := chk_e h
            refine Tops_ex rfl (OpT_appendB (S := u8S) rfl rfl rfl rfl rfl rfl slF22 (i := 2) (j := 3) rfl rfl hc1) fun v11 => ?_
            refine Tops_retire (i := 2) rfl ?_
            obtain ⟨read3, hx12, h⟩ := ob_e h
            refine Tops_exP rfl (OpT_call (w_frame_Read hx12) [] [3] rfl rfl rfl rfl rfl callee22 rfl rfl rfl rfl) ?_
            rintro _ ⟨_, _, _, ⟨v12, rfl, rfl, rfl⟩, rfl⟩
            refine Tops_step rfl (OpT_move rfl rfl rfl rfl) ?_
            refine Tops_step rfl (OpT_extract rfl rfl rfl rfl rfl) ?_
            refine Tops_step rfl (OpT_extract rfl rfl rfl rfl rfl) ?_
            refine Tops_step rfl (OpT_storeA1 (fun z0 => [vU8 read3.1.Dst.a0, vU8 read3.1.Dst.a1, vU8 read3.1.Dst.a2, vU8 read3.1.Dst.a3, vU8 read3.1.Dst.a4, vU8 read3.1.Dst.a5, vU8 read3.1.Src.a0, vU8 read3.1.Src.a1, vU8 read3.1.Src.a2, vU8 read3.1.Src.a3, vU8 read3.1.Src.a4, vU8 read3.1.Src.a5, vI read3.1.Vlan, vU16 read3.1.Type_, z0]) (cs' := [vU8 read3.1.Dst.a0, vU8 read3.1.Dst.a1, vU8 read3.1.Dst.a2, vU8 read3.1.Dst.a3, vU8 read3.1.Dst.a4, vU8 read3.1.Dst.a5, vU8 read3.1.Src.a0, vU8 read3.1.Src.a1, vU8 read3.1.Src.a2, vU8 read3.1.Src.a3, vU8 read3.1.Src.a4, vU8 read3.1.Src.a5, vI read3.1.Vlan, vU16 read3.1.Type_, v12]) rfl rfl rfl rfl tyF38 (i := 1) rfl (is_sl (i := 4) rfl) (fun _ _ _ => rfl) rfl rfl rfl) ?_
            refine Tops_step rfl (OpT_assign rfl rfl rfl rfl) ?_
            refine Tops_nil ?_
            refine Tk_wkS (fr' := [(3, some (.pointer (some ⟨b1, 0, none⟩))), (7, some (.pointer (some ⟨b3, 0, none⟩))), (8, some (vI read3.2))]) (own' := [some (cellsR b1 38 [vU8 Dst1.a0, vU8 Dst1.a1, vU8 Dst1.a2, vU8 Dst1.a3, vU8 Dst1.a4, vU8 Dst1.a5, vU8 Src1.a0, vU8 Src1.a1, vU8 Src1.a2, vU8 Src1.a3, vU8 Src1.a4, vU8 Src1.a5, vI Vlan1, vU16 Type1, v3]), some (cellsR b3 38 [vU8 read3.1.Dst.a0, vU8 read3.1.Dst.a1, vU8 read3.1.Dst.a2, vU8 read3.1.Dst.a3, vU8 read3.1.Dst.a4, vU8 read3.1.Dst.a5, vU8 read3.1.Src.a0, vU8 read3.1.Src.a1, vU8 read3.1.Src.a2, vU8 read3.1.Src.a3, vU8 read3.1.Src.a4, vU8 read3.1.Src.a5, vI read3.1.Vlan, vU16 read3.1.Type_, v12])]) (shr' := [Fact.sl u8S v3 Data1, Fact.sl u8S v12 read3.1.Data]) [3, 7, 8] [0, 1] [0, 4] rfl rfl rfl rfl ?_
            refine Tk_seq ?_
            refine Tk_region ?_
            refine Tops_step rfl (OpT_move rfl rfl rfl rfl) ?_
            refine Tops_step rfl (OpT_bin rfl rfl rfl rfl rfl (bin_eql_i (a := read3.2) (b := (4 : Int)))) ?_
            refine Tops_step rfl (OpT_move rfl rfl rfl rfl) ?_
            rcases Bool.eq_false_or_eq_true (read3.2 == (4 : Int)) with hg13 | hg13
            · replace h := br_t hg13 h
              refine Tops_yes rfl rfl (congrArg (fun b => some (Value.bool b)) hg13) (OpT_fieldC rfl rfl rfl rfl fldF38x4) ?_
              rintro _ rfl
              refine Tops_yes rfl rfl (congrArg (fun b => some (Value.bool b)) hg13) (OpT_loadC rfl rfl rfl rfl tyF22 (i := 0) rfl rfl) ?_
              rintro _ rfl
              refine Tops_yes rfl rfl (congrArg (fun b => some (Value.bool b)) hg13) (OpT_lenS rfl rfl rfl rfl Try.underlying22 (i := 0) rfl) ?_
              rintro _ rfl
              refine Tops_yes rfl rfl (congrArg (fun b => some (Value.bool b)) hg13) (OpT_bin rfl rfl rfl rfl rfl (bin_eql_i (a := len Data1) (b := (1500 : Int)))) ?_
              rintro _ rfl
              refine Tops_step rfl (OpT_pickT rfl rfl rfl (congrArg (fun b => some (Value.bool b)) hg13) rfl) ?_
              refine Tops_step rfl (OpT_move rfl rfl rfl rfl) ?_
              rcases Bool.eq_false_or_eq_true ((len Data1) == (1500 : Int)) with hg14 | hg14
              · replace h := br_t hg14 h
                refine Tops_no rfl rfl (congrArg (fun b => some (Value.bool b)) hg14) rfl rfl ?_
                refine Tops_no rfl rfl (congrArg (fun b => some (Value.bool b)) hg14) rfl rfl ?_
                refine Tops_no rfl rfl (congrArg (fun b => some (Value.bool b)) hg14) rfl rfl ?_
                refine Tops_noU rfl rfl rfl rfl rfl ?_
                refine Tops_noU rfl rfl rfl rfl rfl ?_
                refine Tops_noU rfl rfl rfl rfl rfl ?_
                refine Tops_noU rfl rfl rfl rfl rfl ?_
                refine Tops_no rfl rfl (congrArg (fun b => some (Value.bool b)) hg14) rfl rfl ?_
                refine Tops_step rfl (OpT_pickT rfl rfl rfl (congrArg (fun b => some (Value.bool b)) hg14) rfl) ?_
                refine Tops_step rfl (OpT_assign rfl rfl rfl rfl) ?_
                refine Tops_nil ?_
                refine Tk_wkS (fr' := [(6, some (vB true))]) (own' := []) (shr' := []) [6] [] [] rfl rfl rfl rfl ?_
                exact Tk_retV rfl rfl (resA (vs := [.bool true]) rfl ⟨rfl, trivial⟩) [] [] rfl rfl rfl ⟨rfl, rfl, rfl⟩
              · replace h := br_f hg14 h
                refine Tops_yes rfl rfl (congrArg (fun b => some (Value.bool b)) hg14) (OpT_move rfl rfl rfl rfl) ?_
                rintro _ rfl
                refine Tops_yes rfl rfl (congrArg (fun b => some (Value.bool b)) hg14) (OpT_bin rfl rfl rfl rfl rfl (bin_eql_i (a := read3.2) (b := (0 : Int)))) ?_
                rintro _ rfl
                refine Tops_yes rfl rfl (congrArg (fun b => some (Value.bool b)) hg14) (OpT_move rfl rfl rfl rfl) ?_
                rintro _ rfl
                obtain ⟨hg15, h⟩ := chk_e h
                refine Tops_yes rfl rfl (congrArg (fun b => some (Value.bool b)) hg15) (OpT_loadCA (vs := [vU8 Dst1.a0, vU8 Dst1.a1, vU8 Dst1.a2, vU8 Dst1.a3, vU8 Dst1.a4, vU8 Dst1.a5, vU8 Src1.a0, vU8 Src1.a1, vU8 Src1.a2, vU8 Src1.a3, vU8 Src1.a4, vU8 Src1.a5, vI Vlan1, vU16 Type1, v3]) rfl rfl rfl rfl tyF38 (i := 0) rfl rfl rfl) ?_
                rintro _ rfl
                refine Tops_yes rfl rfl (congrArg (fun b => some (Value.bool b)) hg15) (OpT_loadCA (vs := [vU8 read3.1.Dst.a0, vU8 read3.1.Dst.a1, vU8 read3.1.Dst.a2, vU8 read3.1.Dst.a3, vU8 read3.1.Dst.a4, vU8 read3.1.Dst.a5, vU8 read3.1.Src.a0, vU8 read3.1.Src.a1, vU8 read3.1.Src.a2, vU8 read3.1.Src.a3, vU8 read3.1.Src.a4, vU8 read3.1.Src.a5, vI read3.1.Vlan, vU16 read3.1.Type_, v12]) rfl rfl rfl rfl tyF38 (i := 1) rfl rfl rfl) ?_
                rintro _ rfl
                obtain ⟨same2, hx13, h⟩ := ob_e h
                refine Tops_yes rfl rfl (congrArg (fun b => some (Value.bool b)) hg15) (OpT_call (w_frame_Same hx13) [] [0, 1] rfl rfl rfl rfl rfl callee21 rfl rfl rfl rfl) ?_
                rintro _ ⟨_, _, _, ⟨rfl, rfl, rfl⟩, rfl⟩
                refine Tops_yes rfl rfl (congrArg (fun b => some (Value.bool b)) hg15) (OpT_not rfl rfl rfl rfl) ?_
                rintro _ rfl
                refine Tops_yes rfl rfl (congrArg (fun b => some (Value.bool b)) hg14) (OpT_pickT rfl rfl rfl (congrArg (fun b => some (Value.bool b)) hg15) rfl) ?_
                rintro _ rfl
                refine Tops_step rfl (OpT_pickF rfl rfl rfl (congrArg (fun b => some (Value.bool b)) hg14) rfl) ?_
                refine Tops_step rfl (OpT_assign rfl rfl rfl rfl) ?_
                refine Tops_nil ?_
                refine Tk_wkS (fr' := [(6, some (vB (!same2)))]) (own' := []) (shr' := []) [6] [] [] rfl rfl rfl rfl ?_
                obtain ⟨hg16, h⟩ := chk_e h
                exact Tk_retV rfl rfl (resA (vs := [.bool true]) rfl ⟨(congrArg (fun b => some (Value.bool b)) hg16), trivial⟩) [] [] rfl rfl rfl ⟨rfl, rfl, rfl⟩
            · replace h := br_f hg13 h
              refine Tops_no rfl rfl (congrArg (fun b => some (Value.bool b)) hg13) rfl rfl ?_
              refine Tops_no rfl rfl (congrArg (fun b => some (Value.bool b)) hg13) rfl rfl ?_
              refine Tops_no rfl rfl (congrArg (fun b => some (Value.bool b)) hg13) rfl rfl ?_
              refine Tops_no rfl rfl (congrArg (fun b => some (Value.bool b)) hg13) rfl rfl ?_
              refine Tops_step rfl (OpT_pickF rfl rfl rfl (congrArg (fun b => some (Value.bool b)) hg13) rfl) ?_
              refine Tops_step rfl (OpT_move rfl rfl rfl rfl) ?_
              refine Tops_yes rfl rfl rfl (OpT_move rfl rfl rfl rfl) ?_
              rintro _ rfl
              refine Tops_yes rfl rfl rfl (OpT_bin rfl rfl rfl rfl rfl (bin_eql_i (a := read3.2) (b := (0 : Int)))) ?_
              rintro _ rfl
              refine Tops_yes rfl rfl rfl (OpT_move rfl rfl rfl rfl) ?_
              rintro _ rfl
              obtain ⟨hg17, h⟩ := chk_e h
              refine Tops_yes rfl rfl (congrArg (fun b => some (Value.bool b)) hg17) (OpT_loadCA (vs := [vU8 Dst1.a0, vU8 Dst1.a1, vU8 Dst1.a2, vU8 Dst1.a3, vU8 Dst1.a4, vU8 Dst1.a5, vU8 Src1.a0, vU8 Src1.a1, vU8 Src1.a2, vU8 Src1.a3, vU8 Src1.a4, vU8 Src1.a5, vI Vlan1, vU16 Type1, v3]) rfl rfl rfl rfl tyF38 (i := 0) rfl rfl rfl) ?_
              rintro _ rfl
              refine Tops_yes rfl rfl (congrArg (fun b => some (Value.bool b)) hg17) (OpT_loadCA (vs := [vU8 read3.1.Dst.a0, vU8 read3.1.Dst.a1, vU8 read3.1.Dst.a2, vU8 read3.1.Dst.a3, vU8 read3.1.Dst.a4, vU8 read3.1.Dst.a5, vU8 read3.1.Src.a0, vU8 read3.1.Src.a1, vU8 read3.1.Src.a2, vU8 read3.1.Src.a3, vU8 read3.1.Src.a4, vU8 read3.1.Src.a5, vI read3.1.Vlan, vU16 read3.1.Type_, v12]) rfl rfl rfl rfl tyF38 (i := 1) rfl rfl rfl) ?_
              rintro _ rfl
              obtain ⟨same3, hx14, h⟩ := ob_e h
              refine Tops_yes rfl rfl (congrArg (fun b => some (Value.bool b)) hg17) (OpT_call (w_frame_Same hx14) [] [0, 1] rfl rfl rfl rfl rfl callee21 rfl rfl rfl rfl) ?_
              rintro _ ⟨_, _, _, ⟨rfl, rfl, rfl⟩, rfl⟩
              refine Tops_yes rfl rfl (congrArg (fun b => some (Value.bool b)) hg17) (OpT_not rfl rfl rfl rfl) ?_
              rintro _ rfl
              refine Tops_yes rfl rfl rfl (OpT_pickT rfl rfl rfl (congrArg (fun b => some (Value.bool b)) hg17) rfl) ?_
              rintro _ rfl
              refine Tops_step rfl (OpT_pickF rfl rfl rfl rfl rfl) ?_
              refine Tops_step rfl (OpT_assign rfl rfl rfl rfl) ?_
              refine Tops_nil ?_
              refine Tk_wkS (fr' := [(6, some (vB (!same3)))]) (own' := []) (shr' := []) [6] [] [] rfl rfl rfl rfl ?_
              obtain ⟨hg18, h⟩ := chk_e h
              exact Tk_retV rfl rfl (resA (vs := [.bool true]) rfl ⟨(congrArg (fun b => some (Value.bool b)) hg18), trivial⟩) [] [] rfl rfl rfl ⟨rfl, rfl, rfl⟩
          · intro HJ1
            rcases Bool.eq_false_or_eq_true (decide (Vlan1 ≥ (0 : Int))) with hg19 | hg19
            · replace h := br_t hg19 h
              refine Tk_condT (congrArg (fun b => some (Value.bool b)) hg19) ?_
              refine Tk_region ?_
              refine Tops_step rfl (OpT_move rfl rfl rfl rfl) ?_
              refine Tops_step rfl (OpT_bin rfl rfl rfl rfl rfl (bin_add_i (a := wi ((14 : Int) + (len Data1))) (b := (4 : Int)))) ?_
              refine Tops_step rfl (OpT_assign rfl rfl rfl rfl) ?_
              refine Tops_nil ?_
              refine Tk_wkS (fr' := [(3, some (.pointer (some ⟨b1, 0, none⟩))), (7, some (.pointer (some ⟨b3, 0, none⟩))), (12, some (v7)), (8, some (vI read2.2)), (13, some (vI (wi ((wi ((14 : Int) + (len Data1))) + (4 : Int)))))]) (own' := [some (cellsR b1 38 [vU8 Dst1.a0, vU8 Dst1.a1, vU8 Dst1.a2, vU8 Dst1.a3, vU8 Dst1.a4, vU8 Dst1.a5, vU8 Src1.a0, vU8 Src1.a1, vU8 Src1.a2, vU8 Src1.a3, vU8 Src1.a4, vU8 Src1.a5, vI Vlan1, vU16 Type1, v3]), some (cellsR b3 38 [vU8 read2.1.Dst.a0, vU8 read2.1.Dst.a1, vU8 read2.1.Dst.a2, vU8 read2.1.Dst.a3, vU8 read2.1.Dst.a4, vU8 read2.1.Dst.a5, vU8 read2.1.Src.a0, vU8 read2.1.Src.a1, vU8 read2.1.Src.a2, vU8 read2.1.Src.a3, vU8 read2.1.Src.a4, vU8 read2.1.Src.a5, vI read2.1.Vlan, vU16 read2.1.Type_, v8])]) (shr' := [Fact.sl u8S v3 Data1, Fact.sl u8S v7 bytes1.1, Fact.sl u8S v8 read2.1.Data]) [3, 7, 12, 8, 13] [0, 1] [0, 1, 2] rfl rfl rfl rfl ?_
              exact Tk_jmpS (HJ1 (wi ((wi ((14 : Int) + (len Data1))) + (4 : Int))) h) [3, 7, 12, 8, 13] [0, 1] [0, 2, 1] rfl rfl rfl rfl
            · replace h := br_f hg19 h
              refine Tk_condF (congrArg (fun b => some (Value.bool b)) hg19) ?_
              refine Tk_skip ?_
              exact Tk_jmpS (HJ1 (wi ((14 : Int) + (len Data1))) h) [3, 7, 12, 8, 13] [0, 1] [0, 2, 1] rfl rfl rfl rfl
      · intro HJ2
        rcases Bool.eq_false_or_eq_true (read1.2 == (0 : Int)) with hg20 | hg20
        · replace h := br_t hg20 h
          refine Tk_condT (congrArg (fun b => some (Value.bool b)) hg20) ?_
          refine Tk_seq ?_
          refine Tk_region ?_
          refine Tops_step rfl (OpT_loadCA (vs := [vU8 read1.1.Dst.a0, vU8 read1.1.Dst.a1, vU8 read1.1.Dst.a2, vU8 read1.1.Dst.a3, vU8 read1.1.Dst.a4, vU8 read1.1.Dst.a5, vU8 read1.1.Src.a0, vU8 read1.1.Src.a1, vU8 read1.1.Src.a2, vU8 read1.1.Src.a3, vU8 read1.1.Src.a4, vU8 read1.1.Src.a5, vI read1.1.Vlan, vU16 read1.1.Type_, v2]) rfl rfl rfl rfl tyF38 (i := 2) rfl rfl rfl) ?_
          obtain ⟨bytes2, hx15, h⟩ := ob_e h
          refine Tops_exP rfl (OpT_call (w_frame_Bytes hx15) [] [2] rfl rfl rfl rfl rfl callee16 rfl rfl rfl rfl) ?_
          rintro _ ⟨_, _, _, ⟨v13, rfl, rfl, rfl⟩, rfl⟩
          refine Tops_step rfl (OpT_move rfl rfl rfl rfl) ?_
          refine Tops_step rfl (OpT_extract rfl rfl rfl rfl rfl) ?_
          refine Tops_step rfl (OpT_extract rfl rfl rfl rfl rfl) ?_
          refine Tops_step rfl (OpT_assign rfl rfl rfl rfl) ?_
          refine Tops_step rfl (OpT_assign rfl rfl rfl rfl) ?_
          refine Tops_nil ?_
          refine Tk_wkS (fr' := [(2, some (vb1)), (3, some (.pointer (some ⟨b1, 0, none⟩))), (4, some (.pointer (some ⟨b2, 0, none⟩))), (7, some (.pointer (some ⟨b3, 0, none⟩))), (9, some (v13)), (10, some (vI bytes2.2))]) (own' := [some (cellsR b1 38 [vU8 f.Dst.a0, vU8 f.Dst.a1, vU8 f.Dst.a2, vU8 f.Dst.a3, vU8 f.Dst.a4, vU8 f.Dst.a5, vU8 f.Src.a0, vU8 f.Src.a1, vU8 f.Src.a2, vU8 f.Src.a3, vU8 f.Src.a4, vU8 f.Src.a5, vI f.Vlan, vU16 f.Type_, vf1]), some (cellsR b2 34 [vU8 hp1.Flags, vU16 hp1.Start, vU16 hp1.Off, vU16 hp1.Buffers]), some (cellsR b3 38 [vU8 read1.1.Dst.a0, vU8 read1.1.Dst.a1, vU8 read1.1.Dst.a2, vU8 read1.1.Dst.a3, vU8 read1.1.Dst.a4, vU8 read1.1.Dst.a5, vU8 read1.1.Src.a0, vU8 read1.1.Src.a1, vU8 read1.1.Src.a2, vU8 read1.1.Src.a3, vU8 read1.1.Src.a4, vU8 read1.1.Src.a5, vI read1.1.Vlan, vU16 read1.1.Type_, v2]), some (rowS u8S v13 bytes2.1)]) (shr' := [Fact.sl u8S vf1 f.Data, Fact.sl u8S vb1 b, Fact.sl u8S v2 read1.1.Data]) [2, 3, 4, 7, 9, 10] [0, 1, 2, 3] [0, 1, 2] rfl rfl rfl rfl ?_
          refine Tk_seq ?_
          refine Tk_region ?_
          refine Tops_step rfl (OpT_move rfl rfl rfl rfl) ?_
          refine Tops_step rfl (OpT_bin rfl rfl rfl rfl rfl (bin_neq_i (a := bytes2.2) (b := (0 : Int)))) ?_
          refine Tops_step rfl (OpT_move rfl rfl rfl rfl) ?_
          obtain ⟨hg21, h⟩ := chk_e h
          replace hg21 := not_t hg21
          refine Tops_yes rfl rfl (congrArg (fun b => some (Value.bool b)) hg21) (OpT_move rfl rfl rfl rfl) ?_
          rintro _ rfl
          refine Tops_retire (i := 3) rfl ?_
          refine Tops_yes rfl rfl (congrArg (fun b => some (Value.bool b)) hg21) (OpT_strS rfl rfl rfl rfl Try.underlying22 Try.underlying5 Try.underlying9 (i := 3) rfl) ?_
          rintro _ rfl
          refine Tops_yes rfl rfl (congrArg (fun b => some (Value.bool b)) hg21) (OpT_move rfl rfl rfl rfl) ?_
          rintro _ rfl
          refine Tops_yes rfl rfl (congrArg (fun b => some (Value.bool b)) hg21) (OpT_strS rfl rfl rfl rfl Try.underlying22 Try.underlying5 Try.underlying9 (i := 1) rfl) ?_
          rintro _ rfl
          refine Tops_yes rfl rfl (congrArg (fun b => some (Value.bool b)) hg21) (OpT_bin rfl rfl rfl rfl rfl (bin_neq_s (a := bytes2.1) (b := b))) ?_
          rintro _ rfl
          refine Tops_step rfl (OpT_pickF rfl rfl rfl (congrArg (fun b => some (Value.bool b)) hg21) rfl) ?_
          refine Tops_nil ?_
          refine Tk_wkS (fr' := [(3, some (.pointer (some ⟨b1, 0, none⟩))), (4, some (.pointer (some ⟨b2, 0, none⟩))), (7, some (.pointer (some ⟨b3, 0, none⟩))), (46, some (vB (bytes2.1 != b)))]) (own' := [some (cellsR b1 38 [vU8 f.Dst.a0, vU8 f.Dst.a1, vU8 f.Dst.a2, vU8 f.Dst.a3, vU8 f.Dst.a4, vU8 f.Dst.a5, vU8 f.Src.a0, vU8 f.Src.a1, vU8 f.Src.a2, vU8 f.Src.a3, vU8 f.Src.a4, vU8 f.Src.a5, vI f.Vlan, vU16 f.Type_, vf1]), some (cellsR b2 34 [vU8 hp1.Flags, vU16 hp1.Start, vU16 hp1.Off, vU16 hp1.Buffers]), some (cellsR b3 38 [vU8 read1.1.Dst.a0, vU8 read1.1.Dst.a1, vU8 read1.1.Dst.a2, vU8 read1.1.Dst.a3, vU8 read1.1.Dst.a4, vU8 read1.1.Dst.a5, vU8 read1.1.Src.a0, vU8 read1.1.Src.a1, vU8 read1.1.Src.a2, vU8 read1.1.Src.a3, vU8 read1.1.Src.a4, vU8 read1.1.Src.a5, vI read1.1.Vlan, vU16 read1.1.Type_, v2])]) (shr' := [Fact.sl u8S vf1 f.Data, Fact.sl u8S v2 read1.1.Data]) [3, 4, 7, 46] [0, 1, 2] [0, 2] rfl rfl rfl rfl ?_
          obtain ⟨hg22, h⟩ := chk_e h
          replace hg22 := not_t hg22
          refine Tk_condF (congrArg (fun b => some (Value.bool b)) hg22) ?_
          refine Tk_skip ?_
          exact Tk_jmpS (HJ2 (f.Dst, f.Src, f.Vlan, f.Type_, f.Data, hp1, read1.1.Dst, read1.1.Src, read1.1.Vlan, read1.1.Type_, read1.1.Data, vf1, v2) h) [3, 4, 7] [0, 1, 2] [0, 1] rfl rfl rfl rfl
        · replace h := br_f hg20 h
          refine Tk_condF (congrArg (fun b => some (Value.bool b)) hg20) ?_
          refine Tk_skip ?_
          exact Tk_jmpS (HJ2 (f.Dst, f.Src, f.Vlan, f.Type_, f.Data, hp1, read1.1.Dst, read1.1.Src, read1.1.Vlan, read1.1.Type_, read1.1.Data, vf1, v2) h) [3, 4, 7] [0, 1, 2] [0, 2] rfl rfl rfl rfl
end Go.Proofs.Ytgpggnhifkkfbaa
