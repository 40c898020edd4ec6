/- The law FrameNames is walked: it returns what its plain words say. No condition. -/
import Derived.Test.YtgpggnhifkkfbaaWa3
namespace Go.Proofs.Ytgpggnhifkkfbaa

set_option maxRecDepth 100000 in
set_option maxHeartbeats 4000000 in
theorem w_law23zFrameNames   (h : law23zFrameNames = some true) :
    Ctr Try.prog 7 #[] [] []
      (fun rv own shr => rv = .bool true ∧ own = [] ∧ shr = []) := by
  unfold law23zFrameNames at h
  refine Ctr.mk (args := []) Try.func7 rfl rfl (fun R0 w0 B => ?_)
  refine Tk_seq ?_
  refine Tk_region ?_
  refine Tops_step rfl (OpT_assign rfl rfl rfl rfl) ?_
  refine Tops_nil ?_
  refine Tk_wkS (fr' := []) (own' := []) (shr' := []) [] [] [] rfl rfl rfl rfl ?_
  refine Tk_seq ?_
  refine Tk_region ?_
  refine Tops_step rfl (OpT_build (v := .agg #[vU8 (0 : UInt8), vU8 (0 : UInt8), vU8 (0 : UInt8), vU8 (0 : UInt8), vU8 (0 : UInt8), vU8 (0 : UInt8), vU8 (0 : UInt8), vU8 (0 : UInt8), vU8 (0 : UInt8), vU8 (0 : UInt8), vU8 (0 : UInt8), vU8 (0 : UInt8), vI ((-1) : Int), vU16 (33024 : UInt16), .slice none 0 0]) rfl rfl rfl rfl (bldV (by kernel_rfl))) ?_
  refine Tops_nilfact u8S ?_
  obtain ⟨bytes1, hx1, h⟩ := ob_e h
  refine Tops_exP rfl (OpT_call (w_frame_Bytes hx1) [] [0] rfl rfl rfl rfl rfl callee16 rfl rfl rfl rfl) ?_
  rintro _ ⟨_, _, _, ⟨v1, rfl, rfl, rfl⟩, rfl⟩
  refine Tops_step rfl (OpT_move rfl rfl rfl rfl) ?_
  refine Tops_step rfl (OpT_extract rfl rfl rfl rfl rfl) ?_
  refine Tops_step rfl (OpT_extract rfl rfl rfl rfl rfl) ?_
  refine Tops_step rfl (OpT_assign rfl rfl rfl rfl) ?_
  refine Tops_step rfl (OpT_assign rfl rfl rfl rfl) ?_
  refine Tops_nil ?_
  refine Tk_wkS (fr' := [(2, some (vI bytes1.2))]) (own' := []) (shr' := []) [2] [] [] rfl rfl rfl rfl ?_
  refine Tk_seq ?_
  refine Tk_region ?_
  obtain ⟨hc1, h⟩ := chk_e h
  refine Tops_ex rfl (OpT_makeD u8S rfl (u := (0 : UInt8)) rfl rfl rfl rfl rfl slF22 rfl hc1) fun v2 => ?_
  refine Tops_retire (i := 0) rfl ?_
  obtain ⟨read1, hx2, h⟩ := ob_e h
  refine Tops_exP rfl (OpT_call (w_frame_Read hx2) [] [0] rfl rfl rfl rfl rfl callee22 rfl rfl rfl rfl) ?_
  rintro _ ⟨_, _, _, ⟨v3, rfl, rfl, rfl⟩, rfl⟩
  refine Tops_step rfl (OpT_move rfl rfl rfl rfl) ?_
  refine Tops_step rfl (OpT_extract rfl rfl rfl rfl rfl) ?_
  refine Tops_step rfl (OpT_extract rfl rfl rfl rfl rfl) ?_
  refine Tops_ex rfl (OpT_alloc rfl rfl rfl tyZ38) fun b1 => ?_
  refine Tops_step rfl (OpT_storeA1 (fun z0 => [vU8 read1.1.Dst.a0, vU8 read1.1.Dst.a1, vU8 read1.1.Dst.a2, vU8 read1.1.Dst.a3, vU8 read1.1.Dst.a4, vU8 read1.1.Dst.a5, vU8 read1.1.Src.a0, vU8 read1.1.Src.a1, vU8 read1.1.Src.a2, vU8 read1.1.Src.a3, vU8 read1.1.Src.a4, vU8 read1.1.Src.a5, vI read1.1.Vlan, vU16 read1.1.Type_, z0]) (cs' := [vU8 read1.1.Dst.a0, vU8 read1.1.Dst.a1, vU8 read1.1.Dst.a2, vU8 read1.1.Dst.a3, vU8 read1.1.Dst.a4, vU8 read1.1.Dst.a5, vU8 read1.1.Src.a0, vU8 read1.1.Src.a1, vU8 read1.1.Src.a2, vU8 read1.1.Src.a3, vU8 read1.1.Src.a4, vU8 read1.1.Src.a5, vI read1.1.Vlan, vU16 read1.1.Type_, v3]) rfl rfl rfl rfl tyF38 (i := 1) rfl (is_sl (i := 1) rfl) (fun _ _ _ => rfl) rfl rfl rfl) ?_
  refine Tops_step rfl (OpT_assign rfl rfl rfl rfl) ?_
  refine Tops_nil ?_
  refine Tk_wkS (fr' := [(2, some (vI bytes1.2)), (4, some (vI read1.2))]) (own' := []) (shr' := []) [2, 4] [] [] rfl rfl rfl rfl ?_
  refine Tk_seq ?_
  refine Tk_region ?_
  obtain ⟨hc2, h⟩ := chk_e h
  refine Tops_ex rfl (OpT_makeD u8S rfl (u := (0 : UInt8)) rfl rfl rfl rfl rfl slF22 rfl hc2) fun v4 => ?_
  obtain ⟨readhd1, hx3, h⟩ := ob_e h
  refine Tops_exP rfl (OpT_callB [0] [0] (w_frame_ReadHdr hx3) [] rfl rfl rfl rfl rfl callee23 rfl rfl rfl rfl rfl rfl (bor_cons (bor_row 0 rfl rfl) bor_nil) (by rintro _ _ _ ⟨rfl, rfl, rfl⟩; exact ⟨rfl, ri_nil⟩)) ?_
  rintro _ ⟨_, _, _, ⟨rfl, rfl, rfl⟩, rfl⟩
  refine Tops_step rfl (OpT_move rfl rfl rfl rfl) ?_
  refine Tops_step rfl (OpT_extract rfl rfl rfl rfl rfl) ?_
  refine Tops_step rfl (OpT_extract rfl rfl rfl rfl rfl) ?_
  refine Tops_ex rfl (OpT_alloc rfl rfl rfl tyZ34) fun b2 => ?_
  refine Tops_step rfl (OpT_storeC (cs' := [vU8 readhd1.1.Flags, vU16 readhd1.1.Start, vU16 readhd1.1.Off, vU16 readhd1.1.Buffers]) rfl rfl rfl rfl tyF34 (i := 1) rfl rfl rfl (one_of rfl) rfl) ?_
  refine Tops_step rfl (OpT_assign rfl rfl rfl rfl) ?_
  refine Tops_nil ?_
  refine Tk_wkS (fr' := [(2, some (vI bytes1.2)), (4, some (vI read1.2)), (6, some (vI readhd1.2))]) (own' := []) (shr' := []) [2, 4, 6] [] [] rfl rfl rfl rfl ?_
  refine Tk_seq ?_
  refine Tk_region ?_
  refine Tops_ex rfl (OpT_buildSlice (S := u8S) (xs := [(1 : UInt8), (9 : UInt8), (9 : UInt8), (9 : UInt8), (9 : UInt8), (9 : UInt8), (2 : UInt8), (0 : UInt8), (3 : UInt8), (0 : UInt8), (4 : UInt8), (1 : UInt8)]) (css := [[vU8 (1 : UInt8)], [vU8 (9 : UInt8)], [vU8 (9 : UInt8)], [vU8 (9 : UInt8)], [vU8 (9 : UInt8)], [vU8 (9 : UInt8)], [vU8 (2 : UInt8)], [vU8 (0 : UInt8)], [vU8 (3 : UInt8)], [vU8 (0 : UInt8)], [vU8 (4 : UInt8)], [vU8 (1 : UInt8)]]) (cs := [vU8 (1 : UInt8), vU8 (9 : UInt8), vU8 (9 : UInt8), vU8 (9 : UInt8), vU8 (9 : UInt8), vU8 (9 : UInt8), vU8 (2 : UInt8), vU8 (0 : UInt8), vU8 (3 : UInt8), vU8 (0 : UInt8), vU8 (4 : UInt8), vU8 (1 : UInt8)]) (e := 5) rfl rfl rfl rfl (bldF slF22 (by decide) (by kernel_rfl)) rfl rfl rfl rfl (rel_plainD (S := u8S) (xs := [(1 : UInt8), (9 : UInt8), (9 : UInt8), (9 : UInt8), (9 : UInt8), (9 : UInt8), (2 : UInt8), (0 : UInt8), (3 : UInt8), (0 : UInt8), (4 : UInt8), (1 : UInt8)]) (css := [[vU8 (1 : UInt8)], [vU8 (9 : UInt8)], [vU8 (9 : UInt8)], [vU8 (9 : UInt8)], [vU8 (9 : UInt8)], [vU8 (9 : UInt8)], [vU8 (2 : UInt8)], [vU8 (0 : UInt8)], [vU8 (3 : UInt8)], [vU8 (0 : UInt8)], [vU8 (4 : UInt8)], [vU8 (1 : UInt8)]]) rfl rfl)) fun v5 => ?_
  obtain ⟨readhd2, hx4, h⟩ := ob_e h
  refine Tops_exP rfl (OpT_callB [0] [0] (w_frame_ReadHdr hx4) [] rfl rfl rfl rfl rfl callee23 rfl rfl rfl rfl rfl rfl (bor_cons (bor_row 0 rfl rfl) bor_nil) (by rintro _ _ _ ⟨rfl, rfl, rfl⟩; exact ⟨rfl, ri_nil⟩)) ?_
  rintro _ ⟨_, _, _, ⟨rfl, rfl, rfl⟩, rfl⟩
  refine Tops_step rfl (OpT_move rfl rfl rfl rfl) ?_
  refine Tops_step rfl (OpT_extract rfl rfl rfl rfl rfl) ?_
  refine Tops_step rfl (OpT_extract rfl rfl rfl rfl rfl) ?_
  refine Tops_ex rfl (OpT_alloc rfl rfl rfl tyZ34) fun b3 => ?_
  refine Tops_step rfl (OpT_storeC (cs' := [vU8 readhd2.1.Flags, vU16 readhd2.1.Start, vU16 readhd2.1.Off, vU16 readhd2.1.Buffers]) rfl rfl rfl rfl tyF34 (i := 1) rfl rfl rfl (one_of rfl) rfl) ?_
  refine Tops_step rfl (OpT_assign rfl rfl rfl rfl) ?_
  refine Tops_nil ?_
  refine Tk_wkS (fr' := [(2, some (vI bytes1.2)), (4, some (vI read1.2)), (6, some (vI readhd1.2)), (7, some (.pointer (some ⟨b3, 0, none⟩))), (8, some (vI readhd2.2))]) (own' := [some (cellsR b3 34 [vU8 readhd2.1.Flags, vU16 readhd2.1.Start, vU16 readhd2.1.Off, vU16 readhd2.1.Buffers])]) (shr' := []) [2, 4, 6, 7, 8] [1] [] rfl rfl rfl rfl ?_
  refine Tk_seq ?_
  refine Tk_region ?_
  refine Tops_ex rfl (OpT_buildSlice (S := u8S) (xs := [(0 : UInt8), (1 : UInt8), (242 : UInt8), (3 : UInt8), (244 : UInt8), (245 : UInt8), (246 : UInt8), (247 : UInt8), (0 : UInt8), (0 : UInt8)]) (css := [[vU8 (0 : UInt8)], [vU8 (1 : UInt8)], [vU8 (242 : UInt8)], [vU8 (3 : UInt8)], [vU8 (244 : UInt8)], [vU8 (245 : UInt8)], [vU8 (246 : UInt8)], [vU8 (247 : UInt8)], [vU8 (0 : UInt8)], [vU8 (0 : UInt8)]]) (cs := [vU8 (0 : UInt8), vU8 (1 : UInt8), vU8 (242 : UInt8), vU8 (3 : UInt8), vU8 (244 : UInt8), vU8 (245 : UInt8), vU8 (246 : UInt8), vU8 (247 : UInt8), vU8 (0 : UInt8), vU8 (0 : UInt8)]) (e := 5) rfl rfl rfl rfl (bldF slF22 (by decide) (by kernel_rfl)) rfl rfl rfl rfl (rel_plainD (S := u8S) (xs := [(0 : UInt8), (1 : UInt8), (242 : UInt8), (3 : UInt8), (244 : UInt8), (245 : UInt8), (246 : UInt8), (247 : UInt8), (0 : UInt8), (0 : UInt8)]) (css := [[vU8 (0 : UInt8)], [vU8 (1 : UInt8)], [vU8 (242 : UInt8)], [vU8 (3 : UInt8)], [vU8 (244 : UInt8)], [vU8 (245 : UInt8)], [vU8 (246 : UInt8)], [vU8 (247 : UInt8)], [vU8 (0 : UInt8)], [vU8 (0 : UInt8)]]) rfl rfl)) fun v6 => ?_
  refine Tops_step rfl (OpT_build (v := .agg #[vU8 (1 : UInt8), vU16 (0 : UInt16), vU16 (8 : UInt16), vU16 (0 : UInt16)]) rfl rfl rfl rfl (bldV (by kernel_rfl))) ?_
  obtain ⟨fill1, hx5, h⟩ := ob_e h
  refine Tops_exP rfl (OpT_callB [1] [0, 1, 2] (w_frame_Fill hx5) [] rfl rfl rfl rfl rfl callee15 rfl rfl rfl rfl rfl rfl (bor_cons (bor_row 1 rfl rfl) bor_nil) (by rintro _ _ _ ⟨_, rfl, rfl, rfl⟩; exact ⟨rfl, (ri_cons (ri_row (S := u8S) rfl _ _) ri_nil)⟩)) ?_
  rintro _ ⟨_, _, _, ⟨v7, rfl, rfl, rfl⟩, rfl⟩
  refine Tops_step rfl (OpT_move rfl rfl rfl rfl) ?_
  refine Tops_step rfl (OpT_extract rfl rfl rfl rfl rfl) ?_
  refine Tops_step rfl (OpT_extract rfl rfl rfl rfl rfl) ?_
  refine Tops_step rfl (OpT_assign rfl rfl rfl rfl) ?_
  refine Tops_step rfl (OpT_assign rfl rfl rfl rfl) ?_
  refine Tops_nil ?_
  refine Tk_wkS (fr' := [(2, some (vI bytes1.2)), (4, some (vI read1.2)), (6, some (vI readhd1.2)), (7, some (.pointer (some ⟨b3, 0, none⟩))), (8, some (vI readhd2.2)), (9, some (v7)), (10, some (vI fill1.2))]) (own' := [some (cellsR b3 34 [vU8 readhd2.1.Flags, vU16 readhd2.1.Start, vU16 readhd2.1.Off, vU16 readhd2.1.Buffers]), some (rowS u8S v7 fill1.1)]) (shr' := []) [2, 4, 6, 7, 8, 9, 10] [0, 2] [] rfl rfl rfl rfl ?_
  refine Tk_seq ?_
  refine Tk_region ?_
  refine Tops_ex rfl (OpT_buildSlice (S := u8S) (xs := [(1 : UInt8), (2 : UInt8)]) (css := [[vU8 (1 : UInt8)], [vU8 (2 : UInt8)]]) (cs := [vU8 (1 : UInt8), vU8 (2 : UInt8)]) (e := 5) rfl rfl rfl rfl (bldF slF22 (by decide) (by kernel_rfl)) rfl rfl rfl rfl (rel_plainD (S := u8S) (xs := [(1 : UInt8), (2 : UInt8)]) (css := [[vU8 (1 : UInt8)], [vU8 (2 : UInt8)]]) rfl rfl)) fun v8 => ?_
  refine Tops_step rfl (OpT_build (v := .agg #[vU8 (1 : UInt8), vU16 (2 : UInt16), vU16 (0 : UInt16), vU16 (0 : UInt16)]) rfl rfl rfl rfl (bldV (by kernel_rfl))) ?_
  obtain ⟨fill2, hx6, h⟩ := ob_e h
  refine Tops_exP rfl (OpT_callB [2] [0, 1, 2, 3] (w_frame_Fill hx6) [] rfl rfl rfl rfl rfl callee15 rfl rfl rfl rfl rfl rfl (bor_cons (bor_row 2 rfl rfl) bor_nil) (by rintro _ _ _ ⟨_, rfl, rfl, rfl⟩; exact ⟨rfl, (ri_cons (ri_row (S := u8S) rfl _ _) ri_nil)⟩)) ?_
  rintro _ ⟨_, _, _, ⟨v9, rfl, rfl, rfl⟩, rfl⟩
  refine Tops_step rfl (OpT_move rfl rfl rfl rfl) ?_
  refine Tops_step rfl (OpT_extract rfl rfl rfl rfl rfl) ?_
  refine Tops_step rfl (OpT_extract rfl rfl rfl rfl rfl) ?_
  refine Tops_step rfl (OpT_assign rfl rfl rfl rfl) ?_
  refine Tops_step rfl (OpT_assign rfl rfl rfl rfl) ?_
  refine Tops_nil ?_
  refine Tk_wkS (fr' := [(2, some (vI bytes1.2)), (4, some (vI read1.2)), (6, some (vI readhd1.2)), (7, some (.pointer (some ⟨b3, 0, none⟩))), (8, some (vI readhd2.2)), (9, some (v7)), (10, some (vI fill1.2)), (12, some (vI fill2.2))]) (own' := [some (cellsR b3 34 [vU8 readhd2.1.Flags, vU16 readhd2.1.Start, vU16 readhd2.1.Off, vU16 readhd2.1.Buffers]), some (rowS u8S v7 fill1.1)]) (shr' := []) [2, 4, 6, 7, 8, 9, 10, 12] [0, 1] [] rfl rfl rfl rfl ?_
  refine Tk_seq ?_
  refine Tk_region ?_
  obtain ⟨lives1, hx7, h⟩ := ob_e h
  refine Tops_exP rfl (OpT_call (w_law23zlives hx7) [] [] rfl rfl rfl rfl rfl callee11 rfl rfl rfl rfl) ?_
  rintro _ ⟨_, _, _, ⟨rfl, rfl, rfl⟩, rfl⟩
  refine Tops_step rfl (OpT_move rfl rfl rfl rfl) ?_
  obtain ⟨hg1, h⟩ := chk_e h
  refine Tops_yes rfl rfl (congrArg (fun b => some (Value.bool b)) hg1) (OpT_move rfl rfl rfl rfl) ?_
  rintro _ rfl
  refine Tops_yes rfl rfl (congrArg (fun b => some (Value.bool b)) hg1) (OpT_bin rfl rfl rfl rfl rfl (bin_eql_i (a := bytes1.2) (b := (2 : Int)))) ?_
  rintro _ rfl
  refine Tops_step rfl (OpT_pickT rfl rfl rfl (congrArg (fun b => some (Value.bool b)) hg1) rfl) ?_
  refine Tops_step rfl (OpT_move rfl rfl rfl rfl) ?_
  obtain ⟨hg2, h⟩ := chk_e h
  refine Tops_yes rfl rfl (congrArg (fun b => some (Value.bool b)) hg2) (OpT_move rfl rfl rfl rfl) ?_
  rintro _ rfl
  refine Tops_yes rfl rfl (congrArg (fun b => some (Value.bool b)) hg2) (OpT_bin rfl rfl rfl rfl rfl (bin_eql_i (a := read1.2) (b := (4 : Int)))) ?_
  rintro _ rfl
  refine Tops_step rfl (OpT_pickT rfl rfl rfl (congrArg (fun b => some (Value.bool b)) hg2) rfl) ?_
  refine Tops_step rfl (OpT_move rfl rfl rfl rfl) ?_
  obtain ⟨hg3, h⟩ := chk_e h
  refine Tops_yes rfl rfl (congrArg (fun b => some (Value.bool b)) hg3) (OpT_move rfl rfl rfl rfl) ?_
  rintro _ rfl
  refine Tops_yes rfl rfl (congrArg (fun b => some (Value.bool b)) hg3) (OpT_bin rfl rfl rfl rfl rfl (bin_eql_i (a := readhd1.2) (b := (4 : Int)))) ?_
  rintro _ rfl
  refine Tops_step rfl (OpT_pickT rfl rfl rfl (congrArg (fun b => some (Value.bool b)) hg3) rfl) ?_
  refine Tops_step rfl (OpT_move rfl rfl rfl rfl) ?_
  obtain ⟨hg4, h⟩ := chk_e h
  refine Tops_yes rfl rfl (congrArg (fun b => some (Value.bool b)) hg4) (OpT_move rfl rfl rfl rfl) ?_
  rintro _ rfl
  refine Tops_yes rfl rfl (congrArg (fun b => some (Value.bool b)) hg4) (OpT_bin rfl rfl rfl rfl rfl (bin_eql_i (a := readhd2.2) (b := (0 : Int)))) ?_
  rintro _ rfl
  refine Tops_step rfl (OpT_pickT rfl rfl rfl (congrArg (fun b => some (Value.bool b)) hg4) rfl) ?_
  refine Tops_step rfl (OpT_move rfl rfl rfl rfl) ?_
  obtain ⟨hg5, h⟩ := chk_e h
  refine Tops_yes rfl rfl (congrArg (fun b => some (Value.bool b)) hg5) (OpT_loadCA (vs := [vU8 readhd2.1.Flags, vU16 readhd2.1.Start, vU16 readhd2.1.Off, vU16 readhd2.1.Buffers]) rfl rfl rfl rfl tyF34 (i := 0) rfl rfl rfl) ?_
  rintro _ rfl
  refine Tops_yes rfl rfl (congrArg (fun b => some (Value.bool b)) hg5) (OpT_build (v := .agg #[vU8 (1 : UInt8), vU16 (2 : UInt16), vU16 (3 : UInt16), vU16 (260 : UInt16)]) rfl rfl rfl rfl (bldV (by kernel_rfl))) ?_
  rintro _ rfl
  refine Tops_yes rfl rfl (congrArg (fun b => some (Value.bool b)) hg5) (OpT_bin rfl rfl rfl rfl rfl (eqT34_eql readhd2.1 (Hdr.mk (1 : UInt8) (2 : UInt16) (3 : UInt16) (260 : UInt16)))) ?_
  rintro _ rfl
  refine Tops_step rfl (OpT_pickT rfl rfl rfl (congrArg (fun b => some (Value.bool b)) hg5) rfl) ?_
  refine Tops_step rfl (OpT_move rfl rfl rfl rfl) ?_
  obtain ⟨hg6, h⟩ := chk_e h
  refine Tops_yes rfl rfl (congrArg (fun b => some (Value.bool b)) hg6) (OpT_move rfl rfl rfl rfl) ?_
  rintro _ rfl
  refine Tops_yes rfl rfl (congrArg (fun b => some (Value.bool b)) hg6) (OpT_bin rfl rfl rfl rfl rfl (bin_eql_i (a := fill1.2) (b := (0 : Int)))) ?_
  rintro _ rfl
  refine Tops_step rfl (OpT_pickT rfl rfl rfl (congrArg (fun b => some (Value.bool b)) hg6) rfl) ?_
  refine Tops_step rfl (OpT_move rfl rfl rfl rfl) ?_
  obtain ⟨hg7, h⟩ := chk_e h
  refine Tops_yes rfl rfl (congrArg (fun b => some (Value.bool b)) hg7) (OpT_move rfl rfl rfl rfl) ?_
  rintro _ rfl
  refine Tops_yes rfl rfl (congrArg (fun b => some (Value.bool b)) hg7) (OpT_lenO rfl rfl rfl rfl Try.underlying22 (i := 1) rfl) ?_
  rintro _ rfl
  refine Tops_yes rfl rfl (congrArg (fun b => some (Value.bool b)) hg7) (OpT_bin rfl rfl rfl rfl rfl (bin_eql_i (a := len fill1.1) (b := (10 : Int)))) ?_
  rintro _ rfl
  refine Tops_step rfl (OpT_pickT rfl rfl rfl (congrArg (fun b => some (Value.bool b)) hg7) rfl) ?_
  refine Tops_step rfl (OpT_move rfl rfl rfl rfl) ?_
  obtain ⟨hg8, h⟩ := chk_e h
  refine Tops_yes rfl rfl (congrArg (fun b => some (Value.bool b)) hg8) (OpT_move rfl rfl rfl rfl) ?_
  rintro _ rfl
  obtain ⟨y1, hx8, h⟩ := ob_e h
  refine Tops_yes rfl rfl (congrArg (fun b => some (Value.bool b)) hg8) (OpT_idxO rfl rfl rfl rfl rfl slF22 (i := 1) rfl hx8) ?_
  rintro _ rfl
  refine Tops_yes rfl rfl (congrArg (fun b => some (Value.bool b)) hg8) (OpT_loadO (S := u8S) rfl rfl rfl rfl rfl tyF5 (i := 1) rfl hx8 rfl rfl) ?_
  rintro _ rfl
  refine Tops_yes rfl rfl (congrArg (fun b => some (Value.bool b)) hg8) (OpT_bin rfl rfl rfl rfl rfl (bin_eql_u8 (a := y1) (b := (34 : UInt8)))) ?_
  rintro _ rfl
  refine Tops_step rfl (OpT_pickT rfl rfl rfl (congrArg (fun b => some (Value.bool b)) hg8) rfl) ?_
  refine Tops_step rfl (OpT_move rfl rfl rfl rfl) ?_
  obtain ⟨hg9, h⟩ := chk_e h
  refine Tops_yes rfl rfl (congrArg (fun b => some (Value.bool b)) hg9) (OpT_move rfl rfl rfl rfl) ?_
  rintro _ rfl
  obtain ⟨y2, hx9, h⟩ := ob_e h
  refine Tops_yes rfl rfl (congrArg (fun b => some (Value.bool b)) hg9) (OpT_idxO rfl rfl rfl rfl rfl slF22 (i := 1) rfl hx9) ?_
  rintro _ rfl
  refine Tops_yes rfl rfl (congrArg (fun b => some (Value.bool b)) hg9) (OpT_loadO (S := u8S) rfl rfl rfl rfl rfl tyF5 (i := 1) rfl hx9 rfl rfl) ?_
  rintro _ rfl
  refine Tops_yes rfl rfl (congrArg (fun b => some (Value.bool b)) hg9) (OpT_bin rfl rfl rfl rfl rfl (bin_eql_u8 (a := y2) (b := (13 : UInt8)))) ?_
  rintro _ rfl
  refine Tops_step rfl (OpT_pickT rfl rfl rfl (congrArg (fun b => some (Value.bool b)) hg9) rfl) ?_
  refine Tops_step rfl (OpT_move rfl rfl rfl rfl) ?_
  obtain ⟨hg10, h⟩ := chk_e h
  refine Tops_yes rfl rfl (congrArg (fun b => some (Value.bool b)) hg10) (OpT_move rfl rfl rfl rfl) ?_
  rintro _ rfl
  refine Tops_yes rfl rfl (congrArg (fun b => some (Value.bool b)) hg10) (OpT_bin rfl rfl rfl rfl rfl (bin_eql_i (a := fill2.2) (b := (4 : Int)))) ?_
  rintro _ rfl
  refine Tops_step rfl (OpT_pickT rfl rfl rfl (congrArg (fun b => some (Value.bool b)) hg10) rfl) ?_
  refine Tops_step rfl (OpT_move rfl rfl rfl rfl) ?_
  obtain ⟨hg11, h⟩ := chk_e h
  refine Tops_nilfact u8S ?_
  obtain ⟨sum1, hx10, h⟩ := ob_e h
  refine Tops_yes rfl rfl (congrArg (fun b => some (Value.bool b)) hg11) (OpT_call (w_frame_Sum hx10) [] [0] rfl rfl rfl rfl rfl callee12 rfl rfl rfl rfl) ?_
  rintro _ ⟨_, _, _, ⟨rfl, rfl, rfl⟩, rfl⟩
  refine Tops_yes rfl rfl (congrArg (fun b => some (Value.bool b)) hg11) (OpT_bin rfl rfl rfl rfl rfl (bin_eql_u16 (a := sum1) (b := (65535 : UInt16)))) ?_
  rintro _ rfl
  refine Tops_step rfl (OpT_pickT rfl rfl rfl (congrArg (fun b => some (Value.bool b)) hg11) rfl) ?_
  refine Tops_step rfl (OpT_move rfl rfl rfl rfl) ?_
  obtain ⟨hg12, h⟩ := chk_e h
  refine Tops_yes rfl rfl (congrArg (fun b => some (Value.bool b)) hg12) (OpT_build (v := .agg #[vU8 (1 : UInt8), vU8 (0 : UInt8), vU8 (0 : UInt8), vU8 (0 : UInt8), vU8 (0 : UInt8), vU8 (0 : UInt8)]) rfl rfl rfl rfl (bldV (by kernel_rfl))) ?_
  rintro _ rfl
  obtain ⟨group1, hx11, h⟩ := ob_e h
  refine Tops_yes rfl rfl (congrArg (fun b => some (Value.bool b)) hg12) (OpT_call (w_frame_Group hx11) [] [] rfl rfl rfl rfl rfl callee19 rfl rfl rfl rfl) ?_
  rintro _ ⟨_, _, _, ⟨rfl, rfl, rfl⟩, rfl⟩
  refine Tops_step rfl (OpT_pickT rfl rfl rfl (congrArg (fun b => some (Value.bool b)) hg12) rfl) ?_
  refine Tops_step rfl (OpT_move rfl rfl rfl rfl) ?_
  obtain ⟨hg13, h⟩ := chk_e h
  refine Tops_yes rfl rfl (congrArg (fun b => some (Value.bool b)) hg13) (OpT_build (v := .agg #[vU8 (2 : UInt8), vU8 (0 : UInt8), vU8 (0 : UInt8), vU8 (0 : UInt8), vU8 (0 : UInt8), vU8 (0 : UInt8)]) rfl rfl rfl rfl (bldV (by kernel_rfl))) ?_
  rintro _ rfl
  obtain ⟨group2, hx12, h⟩ := ob_e h
  refine Tops_yes rfl rfl (congrArg (fun b => some (Value.bool b)) hg13) (OpT_call (w_frame_Group hx12) [] [] rfl rfl rfl rfl rfl callee19 rfl rfl rfl rfl) ?_
  rintro _ ⟨_, _, _, ⟨rfl, rfl, rfl⟩, rfl⟩
  refine Tops_yes rfl rfl (congrArg (fun b => some (Value.bool b)) hg13) (OpT_not rfl rfl rfl rfl) ?_
  rintro _ rfl
  refine Tops_step rfl (OpT_pickT rfl rfl rfl (congrArg (fun b => some (Value.bool b)) hg13) rfl) ?_
  refine Tops_step rfl (OpT_move rfl rfl rfl rfl) ?_
  obtain ⟨hg14, h⟩ := chk_e h
  refine Tops_yes rfl rfl (congrArg (fun b => some (Value.bool b)) hg14) (OpT_build (v := .agg #[vU8 (255 : UInt8), vU8 (0 : UInt8), vU8 (0 : UInt8), vU8 (0 : UInt8), vU8 (0 : UInt8), vU8 (0 : UInt8)]) rfl rfl rfl rfl (bldV (by kernel_rfl))) ?_
  rintro _ rfl
  obtain ⟨all1, hx13, h⟩ := ob_e h
  refine Tops_yes rfl rfl (congrArg (fun b => some (Value.bool b)) hg14) (OpT_call (w_frame_All hx13) [] [] rfl rfl rfl rfl rfl callee18 rfl rfl rfl rfl) ?_
  rintro _ ⟨_, _, _, ⟨rfl, rfl, rfl⟩, rfl⟩
  refine Tops_yes rfl rfl (congrArg (fun b => some (Value.bool b)) hg14) (OpT_not rfl rfl rfl rfl) ?_
  rintro _ rfl
  refine Tops_step rfl (OpT_pickT rfl rfl rfl (congrArg (fun b => some (Value.bool b)) hg14) rfl) ?_
  refine Tops_step rfl (OpT_move rfl rfl rfl rfl) ?_
  obtain ⟨hg15, h⟩ := chk_e h
  refine Tops_step rfl (OpT_pickT rfl rfl rfl (congrArg (fun b => some (Value.bool b)) hg15) rfl) ?_
  refine Tops_step rfl (OpT_assign rfl rfl rfl rfl) ?_
  refine Tops_nil ?_
  refine Tk_wkS (fr' := [(0, some (vB true))]) (own' := []) (shr' := []) [0] [] [] rfl rfl rfl rfl ?_
  exact Tk_retV rfl rfl (resA (vs := [.bool true]) rfl ⟨rfl, trivial⟩) [] [] rfl rfl rfl ⟨rfl, rfl, rfl⟩
end Go.Proofs.Ytgpggnhifkkfbaa
