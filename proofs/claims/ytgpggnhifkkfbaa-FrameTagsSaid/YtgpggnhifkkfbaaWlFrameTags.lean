/- The law FrameTags is walked: it returns what its plain words say. No condition. -/
import Derived.Test.YtgpggnhifkkfbaaWa3
namespace Go.Proofs.Ytgpggnhifkkfbaa

set_option maxRecDepth 100000 in
set_option maxHeartbeats 4000000 in
theorem w_law23zFrameTags {f : Frame} {np1 : Int} {vf1 : Value}  (h : law23zFrameTags f np1 = some true) :
    Ctr Try.prog 6 #[.agg #[vU8 f.Dst.a0, vU8 f.Dst.a1, vU8 f.Dst.a2, vU8 f.Dst.a3, vU8 f.Dst.a4, vU8 f.Dst.a5, vU8 f.Src.a0, vU8 f.Src.a1, vU8 f.Src.a2, vU8 f.Src.a3, vU8 f.Src.a4, vU8 f.Src.a5, vI f.Vlan, vU16 f.Type_, vf1], vI np1] [] [Fact.sl u8S vf1 f.Data]
      (fun rv own shr => rv = .bool true ∧ own = [] ∧ shr = []) := by
  unfold law23zFrameTags at h
  refine Ctr.mk (args := [.agg #[vU8 f.Dst.a0, vU8 f.Dst.a1, vU8 f.Dst.a2, vU8 f.Dst.a3, vU8 f.Dst.a4, vU8 f.Dst.a5, vU8 f.Src.a0, vU8 f.Src.a1, vU8 f.Src.a2, vU8 f.Src.a3, vU8 f.Src.a4, vU8 f.Src.a5, vI f.Vlan, vU16 f.Type_, vf1], vI np1]) Try.func6 rfl rfl (fun R0 w0 B => ?_)
  refine Tk_seq ?_
  refine Tk_region ?_
  refine Tops_ex rfl (OpT_box rfl rfl rfl rfl) fun b1 => ?_
  refine Tops_step rfl (OpT_assign rfl rfl rfl rfl) ?_
  refine Tops_nil ?_
  refine Tk_wkS (fr' := [(1, some (vI np1)), (2, some (.pointer (some ⟨b1, 0, none⟩)))]) (own' := [some (cellsR b1 38 [vU8 f.Dst.a0, vU8 f.Dst.a1, vU8 f.Dst.a2, vU8 f.Dst.a3, vU8 f.Dst.a4, vU8 f.Dst.a5, vU8 f.Src.a0, vU8 f.Src.a1, vU8 f.Src.a2, vU8 f.Src.a3, vU8 f.Src.a4, vU8 f.Src.a5, vI f.Vlan, vU16 f.Type_, vf1])]) (shr' := [Fact.sl u8S vf1 f.Data]) [1, 2] [0] [0] rfl rfl rfl rfl ?_
  refine Tk_seq ?_
  refine Tk_seq ?_
  refine Tk_region ?_
  obtain ⟨lives1, hx1, h⟩ := ob_e h
  refine Tops_exP rfl (OpT_call (w_law23zlives hx1) [] [] rfl rfl rfl rfl rfl callee11 rfl rfl rfl rfl) ?_
  rintro _ ⟨_, _, _, ⟨rfl, rfl, rfl⟩, rfl⟩
  refine Tops_step rfl (OpT_not rfl rfl rfl rfl) ?_
  refine Tops_nil ?_
  refine Tk_wkS (fr' := [(1, some (vI np1)), (2, some (.pointer (some ⟨b1, 0, none⟩))), (13, some (vB (!lives1)))]) (own' := [some (cellsR b1 38 [vU8 f.Dst.a0, vU8 f.Dst.a1, vU8 f.Dst.a2, vU8 f.Dst.a3, vU8 f.Dst.a4, vU8 f.Dst.a5, vU8 f.Src.a0, vU8 f.Src.a1, vU8 f.Src.a2, vU8 f.Src.a3, vU8 f.Src.a4, vU8 f.Src.a5, vI f.Vlan, vU16 f.Type_, vf1])]) (shr' := [Fact.sl u8S vf1 f.Data]) [1, 2, 13] [0] [0] rfl rfl rfl rfl ?_
  obtain ⟨hg1, h⟩ := chk_e h
  replace hg1 := not_t hg1
  refine Tk_condF (congrArg (fun b => some (Value.bool b)) hg1) ?_
  refine Tk_skip ?_
  refine Tk_seq ?_
  refine Tk_seq ?_
  refine Tk_region ?_
  refine Tops_step rfl (OpT_fieldC rfl rfl rfl rfl fldF38x4) ?_
  refine Tops_step rfl (OpT_loadC rfl rfl rfl rfl tyF22 (i := 0) rfl rfl) ?_
  refine Tops_step rfl (OpT_lenS rfl rfl rfl rfl Try.underlying22 (i := 0) rfl) ?_
  refine Tops_step rfl (OpT_bin rfl rfl rfl rfl rfl (bin_gtr_i (a := len f.Data) (b := (3000 : Int)))) ?_
  refine Tops_nil ?_
  refine Tk_wkS (fr' := [(1, some (vI np1)), (2, some (.pointer (some ⟨b1, 0, none⟩))), (17, some (vB (decide ((len f.Data) > (3000 : Int)))))]) (own' := [some (cellsR b1 38 [vU8 f.Dst.a0, vU8 f.Dst.a1, vU8 f.Dst.a2, vU8 f.Dst.a3, vU8 f.Dst.a4, vU8 f.Dst.a5, vU8 f.Src.a0, vU8 f.Src.a1, vU8 f.Src.a2, vU8 f.Src.a3, vU8 f.Src.a4, vU8 f.Src.a5, vI f.Vlan, vU16 f.Type_, vf1])]) (shr' := [Fact.sl u8S vf1 f.Data]) [1, 2, 17] [0] [0] rfl rfl rfl rfl ?_
  rcases Bool.eq_false_or_eq_true (decide ((len f.Data) > (3000 : Int))) with hg2 | hg2
  · replace h := br_t hg2 h
    refine Tk_condT (congrArg (fun b => some (Value.bool b)) hg2) ?_
    refine Tk_seq ?_
    refine Tk_region ?_
    refine Tops_step rfl (OpT_assign rfl rfl rfl rfl) ?_
    refine Tops_nil ?_
    refine Tk_wkS (fr' := [(4, some (vB true))]) (own' := []) (shr' := []) [4] [] [] rfl rfl rfl rfl ?_
    exact Tk_retV rfl rfl (resA (vs := [.bool true]) rfl ⟨rfl, trivial⟩) [] [] rfl rfl rfl ⟨rfl, rfl, rfl⟩
  · replace h := br_f hg2 h
    refine Tk_condF (congrArg (fun b => some (Value.bool b)) hg2) ?_
    refine Tk_skip ?_
    refine Tk_seq ?_
    refine Tk_region ?_
    refine Tops_step rfl (OpT_fieldC rfl rfl rfl rfl fldF38x2) ?_
    refine Tops_step rfl (OpT_storeC (cs' := [vU8 f.Dst.a0, vU8 f.Dst.a1, vU8 f.Dst.a2, vU8 f.Dst.a3, vU8 f.Dst.a4, vU8 f.Dst.a5, vU8 f.Src.a0, vU8 f.Src.a1, vU8 f.Src.a2, vU8 f.Src.a3, vU8 f.Src.a4, vU8 f.Src.a5, vI ((-1) : Int), vU16 f.Type_, vf1]) rfl rfl rfl rfl tyF3 (i := 0) rfl rfl rfl (one_of rfl) rfl) ?_
    refine Tops_nil ?_
    refine Tk_wkS (fr' := [(1, some (vI np1)), (2, some (.pointer (some ⟨b1, 0, none⟩)))]) (own' := [some (cellsR b1 38 [vU8 f.Dst.a0, vU8 f.Dst.a1, vU8 f.Dst.a2, vU8 f.Dst.a3, vU8 f.Dst.a4, vU8 f.Dst.a5, vU8 f.Src.a0, vU8 f.Src.a1, vU8 f.Src.a2, vU8 f.Src.a3, vU8 f.Src.a4, vU8 f.Src.a5, vI ((-1) : Int), vU16 f.Type_, vf1])]) (shr' := [Fact.sl u8S vf1 f.Data]) [1, 2] [0] [0] rfl rfl rfl rfl ?_
    refine Tk_seq ?_
    refine Tk_region ?_
    refine Tops_step rfl (OpT_loadCA (vs := [vU8 f.Dst.a0, vU8 f.Dst.a1, vU8 f.Dst.a2, vU8 f.Dst.a3, vU8 f.Dst.a4, vU8 f.Dst.a5, vU8 f.Src.a0, vU8 f.Src.a1, vU8 f.Src.a2, vU8 f.Src.a3, vU8 f.Src.a4, vU8 f.Src.a5, vI ((-1) : Int), vU16 f.Type_, vf1]) rfl rfl rfl rfl tyF38 (i := 0) rfl rfl rfl) ?_
    obtain ⟨bytes1, hx2, h⟩ := ob_e h
    refine Tops_exP rfl (OpT_call (w_frame_Bytes hx2) [] [0] rfl rfl rfl rfl rfl callee16 rfl rfl rfl rfl) ?_
    rintro _ ⟨_, _, _, ⟨v1, rfl, rfl, rfl⟩, rfl⟩
    refine Tops_step rfl (OpT_move rfl rfl rfl rfl) ?_
    refine Tops_step rfl (OpT_extract rfl rfl rfl rfl rfl) ?_
    refine Tops_step rfl (OpT_extract rfl rfl rfl rfl rfl) ?_
    refine Tops_step rfl (OpT_assign rfl rfl rfl rfl) ?_
    refine Tops_step rfl (OpT_assign rfl rfl rfl rfl) ?_
    refine Tops_nil ?_
    refine Tk_wkS (fr' := [(1, some (vI np1)), (2, some (.pointer (some ⟨b1, 0, none⟩))), (5, some (v1)), (6, some (vI bytes1.2))]) (own' := [some (cellsR b1 38 [vU8 f.Dst.a0, vU8 f.Dst.a1, vU8 f.Dst.a2, vU8 f.Dst.a3, vU8 f.Dst.a4, vU8 f.Dst.a5, vU8 f.Src.a0, vU8 f.Src.a1, vU8 f.Src.a2, vU8 f.Src.a3, vU8 f.Src.a4, vU8 f.Src.a5, vI ((-1) : Int), vU16 f.Type_, vf1]), some (rowS u8S v1 bytes1.1)]) (shr' := [Fact.sl u8S vf1 f.Data]) [1, 2, 5, 6] [0, 1] [0] rfl rfl rfl rfl ?_
    refine Tk_seq ?_
    refine Tk_region ?_
    refine Tops_step rfl (OpT_loadCA (vs := [vU8 f.Dst.a0, vU8 f.Dst.a1, vU8 f.Dst.a2, vU8 f.Dst.a3, vU8 f.Dst.a4, vU8 f.Dst.a5, vU8 f.Src.a0, vU8 f.Src.a1, vU8 f.Src.a2, vU8 f.Src.a3, vU8 f.Src.a4, vU8 f.Src.a5, vI ((-1) : Int), vU16 f.Type_, vf1]) rfl rfl rfl rfl tyF38 (i := 0) rfl rfl rfl) ?_
    refine Tops_ex rfl (OpT_alloc rfl rfl rfl tyZ38) fun b2 => ?_
    refine Tops_step rfl (OpT_storeA1 (fun z0 => [vU8 f.Dst.a0, vU8 f.Dst.a1, vU8 f.Dst.a2, vU8 f.Dst.a3, vU8 f.Dst.a4, vU8 f.Dst.a5, vU8 f.Src.a0, vU8 f.Src.a1, vU8 f.Src.a2, vU8 f.Src.a3, vU8 f.Src.a4, vU8 f.Src.a5, vI ((-1) : Int), vU16 f.Type_, z0]) (cs' := [vU8 f.Dst.a0, vU8 f.Dst.a1, vU8 f.Dst.a2, vU8 f.Dst.a3, vU8 f.Dst.a4, vU8 f.Dst.a5, vU8 f.Src.a0, vU8 f.Src.a1, vU8 f.Src.a2, vU8 f.Src.a3, vU8 f.Src.a4, vU8 f.Src.a5, vI ((-1) : Int), vU16 f.Type_, vf1]) rfl rfl rfl rfl tyF38 (i := 2) rfl (is_sl (i := 0) rfl) (fun _ _ _ => rfl) rfl rfl rfl) ?_
    refine Tops_nil ?_
    refine Tk_wkS (fr' := [(1, some (vI np1)), (2, some (.pointer (some ⟨b1, 0, none⟩))), (5, some (v1)), (6, some (vI bytes1.2)), (7, some (.pointer (some ⟨b2, 0, none⟩)))]) (own' := [some (cellsR b1 38 [vU8 f.Dst.a0, vU8 f.Dst.a1, vU8 f.Dst.a2, vU8 f.Dst.a3, vU8 f.Dst.a4, vU8 f.Dst.a5, vU8 f.Src.a0, vU8 f.Src.a1, vU8 f.Src.a2, vU8 f.Src.a3, vU8 f.Src.a4, vU8 f.Src.a5, vI ((-1) : Int), vU16 f.Type_, vf1]), some (rowS u8S v1 bytes1.1), some (cellsR b2 38 [vU8 f.Dst.a0, vU8 f.Dst.a1, vU8 f.Dst.a2, vU8 f.Dst.a3, vU8 f.Dst.a4, vU8 f.Dst.a5, vU8 f.Src.a0, vU8 f.Src.a1, vU8 f.Src.a2, vU8 f.Src.a3, vU8 f.Src.a4, vU8 f.Src.a5, vI ((-1) : Int), vU16 f.Type_, vf1])]) (shr' := [Fact.sl u8S vf1 f.Data]) [1, 2, 5, 6, 7] [0, 1, 2] [0] rfl rfl rfl rfl ?_
    refine Tk_seq ?_
    refine Tk_region ?_
    refine Tops_step rfl (OpT_move rfl rfl rfl rfl) ?_
    obtain ⟨pick1, hx3, h⟩ := ob_e h
    refine Tops_exP rfl (OpT_call (w_kit_Pick hx3) [] [] rfl rfl rfl rfl rfl callee14 rfl rfl rfl rfl) ?_
    rintro _ ⟨_, _, _, ⟨rfl, rfl, rfl⟩, rfl⟩
    refine Tops_step rfl (OpT_fieldC rfl rfl rfl rfl fldF38x2) ?_
    refine Tops_step rfl (OpT_storeC (cs' := [vU8 f.Dst.a0, vU8 f.Dst.a1, vU8 f.Dst.a2, vU8 f.Dst.a3, vU8 f.Dst.a4, vU8 f.Dst.a5, vU8 f.Src.a0, vU8 f.Src.a1, vU8 f.Src.a2, vU8 f.Src.a3, vU8 f.Src.a4, vU8 f.Src.a5, vI pick1, vU16 f.Type_, vf1]) rfl rfl rfl rfl tyF3 (i := 2) rfl rfl rfl (one_of rfl) rfl) ?_
    refine Tops_nil ?_
    refine Tk_wkS (fr' := [(2, some (.pointer (some ⟨b1, 0, none⟩))), (5, some (v1)), (6, some (vI bytes1.2)), (7, some (.pointer (some ⟨b2, 0, none⟩)))]) (own' := [some (cellsR b1 38 [vU8 f.Dst.a0, vU8 f.Dst.a1, vU8 f.Dst.a2, vU8 f.Dst.a3, vU8 f.Dst.a4, vU8 f.Dst.a5, vU8 f.Src.a0, vU8 f.Src.a1, vU8 f.Src.a2, vU8 f.Src.a3, vU8 f.Src.a4, vU8 f.Src.a5, vI ((-1) : Int), vU16 f.Type_, vf1]), some (rowS u8S v1 bytes1.1), some (cellsR b2 38 [vU8 f.Dst.a0, vU8 f.Dst.a1, vU8 f.Dst.a2, vU8 f.Dst.a3, vU8 f.Dst.a4, vU8 f.Dst.a5, vU8 f.Src.a0, vU8 f.Src.a1, vU8 f.Src.a2, vU8 f.Src.a3, vU8 f.Src.a4, vU8 f.Src.a5, vI pick1, vU16 f.Type_, vf1])]) (shr' := [Fact.sl u8S vf1 f.Data]) [2, 5, 6, 7] [0, 1, 2] [0] rfl rfl rfl rfl ?_
    refine Tk_seq ?_
    refine Tk_region ?_
    refine Tops_step rfl (OpT_loadCA (vs := [vU8 f.Dst.a0, vU8 f.Dst.a1, vU8 f.Dst.a2, vU8 f.Dst.a3, vU8 f.Dst.a4, vU8 f.Dst.a5, vU8 f.Src.a0, vU8 f.Src.a1, vU8 f.Src.a2, vU8 f.Src.a3, vU8 f.Src.a4, vU8 f.Src.a5, vI pick1, vU16 f.Type_, vf1]) rfl rfl rfl rfl tyF38 (i := 2) rfl rfl rfl) ?_
    obtain ⟨bytes2, hx4, h⟩ := ob_e h
    refine Tops_exP rfl (OpT_call (w_frame_Bytes hx4) [] [0] rfl rfl rfl rfl rfl callee16 rfl rfl rfl rfl) ?_
    rintro _ ⟨_, _, _, ⟨v2, rfl, rfl, rfl⟩, rfl⟩
    refine Tops_step rfl (OpT_move rfl rfl rfl rfl) ?_
    refine Tops_step rfl (OpT_extract rfl rfl rfl rfl rfl) ?_
    refine Tops_step rfl (OpT_extract rfl rfl rfl rfl rfl) ?_
    refine Tops_step rfl (OpT_assign rfl rfl rfl rfl) ?_
    refine Tops_step rfl (OpT_assign rfl rfl rfl rfl) ?_
    refine Tops_nil ?_
    refine Tk_wkS (fr' := [(2, some (.pointer (some ⟨b1, 0, none⟩))), (5, some (v1)), (6, some (vI bytes1.2)), (7, some (.pointer (some ⟨b2, 0, none⟩))), (8, some (v2)), (9, some (vI bytes2.2))]) (own' := [some (cellsR b1 38 [vU8 f.Dst.a0, vU8 f.Dst.a1, vU8 f.Dst.a2, vU8 f.Dst.a3, vU8 f.Dst.a4, vU8 f.Dst.a5, vU8 f.Src.a0, vU8 f.Src.a1, vU8 f.Src.a2, vU8 f.Src.a3, vU8 f.Src.a4, vU8 f.Src.a5, vI ((-1) : Int), vU16 f.Type_, vf1]), some (rowS u8S v1 bytes1.1), some (cellsR b2 38 [vU8 f.Dst.a0, vU8 f.Dst.a1, vU8 f.Dst.a2, vU8 f.Dst.a3, vU8 f.Dst.a4, vU8 f.Dst.a5, vU8 f.Src.a0, vU8 f.Src.a1, vU8 f.Src.a2, vU8 f.Src.a3, vU8 f.Src.a4, vU8 f.Src.a5, vI pick1, vU16 f.Type_, vf1]), some (rowS u8S v2 bytes2.1)]) (shr' := [Fact.sl u8S vf1 f.Data]) [2, 5, 6, 7, 8, 9] [0, 1, 2, 3] [0] rfl rfl rfl rfl ?_
    refine Tk_seq ?_
    refine Tk_seq ?_
    refine Tk_region ?_
    refine Tops_step rfl (OpT_move rfl rfl rfl rfl) ?_
    refine Tops_step rfl (OpT_bin rfl rfl rfl rfl rfl (bin_neq_i (a := bytes1.2) (b := (0 : Int)))) ?_
    refine Tops_nil ?_
    refine Tk_wkS (fr' := [(2, some (.pointer (some ⟨b1, 0, none⟩))), (5, some (v1)), (6, some (vI bytes1.2)), (7, some (.pointer (some ⟨b2, 0, none⟩))), (8, some (v2)), (9, some (vI bytes2.2)), (34, some (vB (bytes1.2 != (0 : Int))))]) (own' := [some (cellsR b1 38 [vU8 f.Dst.a0, vU8 f.Dst.a1, vU8 f.Dst.a2, vU8 f.Dst.a3, vU8 f.Dst.a4, vU8 f.Dst.a5, vU8 f.Src.a0, vU8 f.Src.a1, vU8 f.Src.a2, vU8 f.Src.a3, vU8 f.Src.a4, vU8 f.Src.a5, vI ((-1) : Int), vU16 f.Type_, vf1]), some (rowS u8S v1 bytes1.1), some (cellsR b2 38 [vU8 f.Dst.a0, vU8 f.Dst.a1, vU8 f.Dst.a2, vU8 f.Dst.a3, vU8 f.Dst.a4, vU8 f.Dst.a5, vU8 f.Src.a0, vU8 f.Src.a1, vU8 f.Src.a2, vU8 f.Src.a3, vU8 f.Src.a4, vU8 f.Src.a5, vI pick1, vU16 f.Type_, vf1]), some (rowS u8S v2 bytes2.1)]) (shr' := [Fact.sl u8S vf1 f.Data]) [2, 5, 6, 7, 8, 9, 34] [0, 1, 2, 3] [0] rfl rfl rfl rfl ?_
    rcases Bool.eq_false_or_eq_true (bytes1.2 != (0 : Int)) with hg3 | hg3
    · replace h := br_t hg3 h
      refine Tk_condT (congrArg (fun b => some (Value.bool b)) hg3) ?_
      refine Tk_seq ?_
      refine Tk_region ?_
      refine Tops_step rfl (OpT_move rfl rfl rfl rfl) ?_
      refine Tops_step rfl (OpT_bin rfl rfl rfl rfl rfl (bin_eql_i (a := bytes1.2) (b := (2 : Int)))) ?_
      refine Tops_step rfl (OpT_move rfl rfl rfl rfl) ?_
      obtain ⟨hg4, h⟩ := chk_e h
      refine Tops_yes rfl rfl (congrArg (fun b => some (Value.bool b)) hg4) (OpT_move rfl rfl rfl rfl) ?_
      rintro _ rfl
      refine Tops_yes rfl rfl (congrArg (fun b => some (Value.bool b)) hg4) (OpT_bin rfl rfl rfl rfl rfl (bin_eql_i (a := bytes2.2) (b := (2 : Int)))) ?_
      rintro _ rfl
      refine Tops_step rfl (OpT_pickT rfl rfl rfl (congrArg (fun b => some (Value.bool b)) hg4) rfl) ?_
      refine Tops_step rfl (OpT_assign rfl rfl rfl rfl) ?_
      refine Tops_nil ?_
      refine Tk_wkS (fr' := [(4, some (vB (bytes2.2 == (2 : Int))))]) (own' := []) (shr' := []) [4] [] [] rfl rfl rfl rfl ?_
      obtain ⟨hg5, h⟩ := chk_e h
      exact Tk_retV rfl rfl (resA (vs := [.bool true]) rfl ⟨(congrArg (fun b => some (Value.bool b)) hg5), trivial⟩) [] [] rfl rfl rfl ⟨rfl, rfl, rfl⟩
    · replace h := br_f hg3 h
      refine Tk_condF (congrArg (fun b => some (Value.bool b)) hg3) ?_
      refine Tk_skip ?_
      refine Tk_seq ?_
      refine Tk_seq ?_
      refine Tk_drawT (by kernel_rfl) ?_
      refine TA_tb [0, 1, 3, 7, 15, 7, 39, 103, 255, 511, 1023, 2047, 4095, 8191, 2047, 18431, 51199, 131071, 262143, 524287, 1048575, 2097151, 4194303, 1048575, 9437183, 26214399, 67108863, 134217727, 268435455, 536870911, 1073741823, 2147483647, 4294967295, 8589934591, 17179869183, 34359738367, 68719476735, 137438953471, 274877906943, 549755813887, 1099511627775, 2199023255551, 4398046511103, 8796093022207, 17592186044415, 35184372088831, 2199023255551, 72567767433215, 213305255788543, 494780232499199, 1125899906842623, 2199023255551, 2253998836940799, 9007199254740991, 18014398509481983] (by kernel_rfl) fun htb => ?_
      refine TA_step htb (by kernel_rfl) rfl rfl (OpT_move rfl rfl rfl rfl) ?_
      refine TA_step htb (by kernel_rfl) rfl rfl (OpT_bin rfl rfl rfl rfl rfl (bin_neq_i (a := bytes2.2) (b := (0 : Int)))) ?_
      refine TA_step htb (by kernel_rfl) rfl rfl (OpT_move rfl rfl rfl rfl) ?_
      refine TA_wkS (fr' := [(2, some (.pointer (some ⟨b1, 0, none⟩))), (5, some (v1)), (7, some (.pointer (some ⟨b2, 0, none⟩))), (8, some (v2)), (43, some (vB (bytes2.2 != (0 : Int))))]) (own' := [some (cellsR b1 38 [vU8 f.Dst.a0, vU8 f.Dst.a1, vU8 f.Dst.a2, vU8 f.Dst.a3, vU8 f.Dst.a4, vU8 f.Dst.a5, vU8 f.Src.a0, vU8 f.Src.a1, vU8 f.Src.a2, vU8 f.Src.a3, vU8 f.Src.a4, vU8 f.Src.a5, vI ((-1) : Int), vU16 f.Type_, vf1]), some (rowS u8S v1 bytes1.1), some (cellsR b2 38 [vU8 f.Dst.a0, vU8 f.Dst.a1, vU8 f.Dst.a2, vU8 f.Dst.a3, vU8 f.Dst.a4, vU8 f.Dst.a5, vU8 f.Src.a0, vU8 f.Src.a1, vU8 f.Src.a2, vU8 f.Src.a3, vU8 f.Src.a4, vU8 f.Src.a5, vI pick1, vU16 f.Type_, vf1]), some (rowS u8S v2 bytes2.1)]) (shr' := [Fact.sl u8S vf1 f.Data]) [2, 5, 7, 8, 43] [0, 1, 2, 3] [0] rfl rfl rfl rfl ?_
      obtain ⟨hg6, h⟩ := chk_e h
      replace hg6 := not_t hg6
      refine TA_seg (lo := 3) (hi := 8) htb rfl rfl (by kernel_rfl) (fun c L a w => Sat c ⟨[(2, some (.pointer (some ⟨b1, 0, none⟩))), (5, some (v1)), (7, some (.pointer (some ⟨b2, 0, none⟩))), (8, some (v2)), (43, some (vB (bytes2.2 != (0 : Int)))), (44, bif L 3 then some (v2) else none), (45, bif L 4 then some (vI (len bytes2.1)) else none), (46, bif L 5 then some (v1) else none), (47, bif L 6 then some (vI (len bytes1.1)) else none), (48, bif L 7 then some (vI (wi ((len bytes1.1) + (4 : Int)))) else none)], [(some (cellsR b1 38 [vU8 f.Dst.a0, vU8 f.Dst.a1, vU8 f.Dst.a2, vU8 f.Dst.a3, vU8 f.Dst.a4, vU8 f.Dst.a5, vU8 f.Src.a0, vU8 f.Src.a1, vU8 f.Src.a2, vU8 f.Src.a3, vU8 f.Src.a4, vU8 f.Src.a5, vI ((-1) : Int), vU16 f.Type_, vf1]) : Option Res), (some (rowS u8S v1 bytes1.1) : Option Res), (some (cellsR b2 38 [vU8 f.Dst.a0, vU8 f.Dst.a1, vU8 f.Dst.a2, vU8 f.Dst.a3, vU8 f.Dst.a4, vU8 f.Dst.a5, vU8 f.Src.a0, vU8 f.Src.a1, vU8 f.Src.a2, vU8 f.Src.a3, vU8 f.Src.a4, vU8 f.Src.a5, vI pick1, vU16 f.Type_, vf1]) : Option Res), (some (rowS u8S v2 bytes2.1) : Option Res)], [Fact.sl u8S vf1 f.Data]⟩ a w) [([], [4]), ([3], []), ([], [6, 7]), ([5], [7]), ([5, 6], [])] rfl (by kernel_rfl) ?_ (steps_cons ?_ (steps_cons ?_ (steps_cons ?_ (steps_cons ?_ (steps_cons ?_ (steps_nil)))))) ?_
      · intro a w hs
        exact hs.startF [44, 45, 46, 47, 48] [0, 1, 2, 3] [0] rfl rfl rfl rfl
      · intro L a w hv K Q hK
        have hs := hv
        refine wpOp_yes rfl rfl rfl hs (congrArg (fun b => some (Value.bool b)) hg6) (OpT_move rfl rfl rfl rfl) ?_
        rintro _ rfl a' w' hs'
        exact hK a' w' (hs'.putF (i := 5) rfl [0, 1, 2, 3] [0] rfl rfl rfl rfl)
      · intro L a w hv K Q hK
        have hs := hv
        refine wpOp_yes rfl rfl rfl hs (congrArg (fun b => some (Value.bool b)) hg6) (OpT_lenO rfl rfl rfl rfl Try.underlying22 (i := 3) rfl) ?_
        rintro _ rfl a' w' hs'
        exact hK a' w' (hs'.putF (i := 6) rfl [0, 1, 2, 3] [0] rfl rfl rfl rfl)
      · intro L a w hv K Q hK
        have hs := hv
        refine wpOp_yes rfl rfl rfl hs (congrArg (fun b => some (Value.bool b)) hg6) (OpT_move rfl rfl rfl rfl) ?_
        rintro _ rfl a' w' hs'
        exact hK a' w' (hs'.putF (i := 7) rfl [0, 1, 2, 3] [0] rfl rfl rfl rfl)
      · intro L a w hv K Q hK
        have hs := hv
        refine wpOp_yes rfl rfl rfl hs (congrArg (fun b => some (Value.bool b)) hg6) (OpT_lenO rfl rfl rfl rfl Try.underlying22 (i := 1) rfl) ?_
        rintro _ rfl a' w' hs'
        exact hK a' w' (hs'.putF (i := 8) rfl [0, 1, 2, 3] [0] rfl rfl rfl rfl)
      · intro L a w hv K Q hK
        have hs := hv
        refine wpOp_yes rfl rfl rfl hs (congrArg (fun b => some (Value.bool b)) hg6) (OpT_bin rfl rfl rfl rfl rfl (bin_add_i (a := len bytes1.1) (b := (4 : Int)))) ?_
        rintro _ rfl a' w' hs'
        exact hK a' w' (hs'.putF (i := 9) rfl [0, 1, 2, 3] [0] rfl rfl rfl rfl)
      · intro L a w hL hv
        rw [allTrue hL] at hv
        have hs := hv
        refine (show TA _ _ _ 8 ⟨[(2, some (.pointer (some ⟨b1, 0, none⟩))), (5, some (v1)), (7, some (.pointer (some ⟨b2, 0, none⟩))), (8, some (v2)), (43, some (vB (bytes2.2 != (0 : Int)))), (45, some (vI (len bytes2.1))), (48, some (vI (wi ((len bytes1.1) + (4 : Int)))))], [some (cellsR b1 38 [vU8 f.Dst.a0, vU8 f.Dst.a1, vU8 f.Dst.a2, vU8 f.Dst.a3, vU8 f.Dst.a4, vU8 f.Dst.a5, vU8 f.Src.a0, vU8 f.Src.a1, vU8 f.Src.a2, vU8 f.Src.a3, vU8 f.Src.a4, vU8 f.Src.a5, vI ((-1) : Int), vU16 f.Type_, vf1]), some (rowS u8S v1 bytes1.1), some (cellsR b2 38 [vU8 f.Dst.a0, vU8 f.Dst.a1, vU8 f.Dst.a2, vU8 f.Dst.a3, vU8 f.Dst.a4, vU8 f.Dst.a5, vU8 f.Src.a0, vU8 f.Src.a1, vU8 f.Src.a2, vU8 f.Src.a3, vU8 f.Src.a4, vU8 f.Src.a5, vI pick1, vU16 f.Type_, vf1]), some (rowS u8S v2 bytes2.1)], [Fact.sl u8S vf1 f.Data]⟩ from ?_) a w (hs.wkS [2, 5, 7, 8, 43, 45, 48] [0, 1, 2, 3] [0] rfl rfl rfl rfl)
        clear hs hL
        refine TA_yes htb (by kernel_rfl) rfl rfl rfl (congrArg (fun b => some (Value.bool b)) hg6) (OpT_bin rfl rfl rfl rfl rfl (bin_neq_i (a := len bytes2.1) (b := wi ((len bytes1.1) + (4 : Int))))) ?_
        rintro _ rfl
        refine TA_step htb (by kernel_rfl) rfl rfl (OpT_pickF rfl rfl rfl (congrArg (fun b => some (Value.bool b)) hg6) rfl) ?_
        refine TA_step htb (by kernel_rfl) rfl rfl (OpT_move rfl rfl rfl rfl) ?_
        refine TA_wkS (fr' := [(2, some (.pointer (some ⟨b1, 0, none⟩))), (5, some (v1)), (7, some (.pointer (some ⟨b2, 0, none⟩))), (8, some (v2)), (51, some (vB ((len bytes2.1) != (wi ((len bytes1.1) + (4 : Int))))))]) (own' := [some (cellsR b1 38 [vU8 f.Dst.a0, vU8 f.Dst.a1, vU8 f.Dst.a2, vU8 f.Dst.a3, vU8 f.Dst.a4, vU8 f.Dst.a5, vU8 f.Src.a0, vU8 f.Src.a1, vU8 f.Src.a2, vU8 f.Src.a3, vU8 f.Src.a4, vU8 f.Src.a5, vI ((-1) : Int), vU16 f.Type_, vf1]), some (rowS u8S v1 bytes1.1), some (cellsR b2 38 [vU8 f.Dst.a0, vU8 f.Dst.a1, vU8 f.Dst.a2, vU8 f.Dst.a3, vU8 f.Dst.a4, vU8 f.Dst.a5, vU8 f.Src.a0, vU8 f.Src.a1, vU8 f.Src.a2, vU8 f.Src.a3, vU8 f.Src.a4, vU8 f.Src.a5, vI pick1, vU16 f.Type_, vf1]), some (rowS u8S v2 bytes2.1)]) (shr' := [Fact.sl u8S vf1 f.Data]) [2, 5, 7, 8, 51] [0, 1, 2, 3] [0] rfl rfl rfl rfl ?_
        refine TA_retire (i := 3) rfl ?_
        refine TA_retire (i := 1) rfl ?_
        obtain ⟨hg7, h⟩ := chk_e h
        replace hg7 := not_t hg7
        obtain ⟨hc1, h⟩ := chk_e h
        obtain ⟨hc2, h⟩ := chk_e h
        refine TA_seg (lo := 11) (hi := 17) htb rfl rfl (by kernel_rfl) (fun c L a w => ∃ (v3 : Value), ∃ (v4 : Value), Sat c ⟨[(2, some (.pointer (some ⟨b1, 0, none⟩))), (5, some (v1)), (7, some (.pointer (some ⟨b2, 0, none⟩))), (8, some (v2)), (51, some (vB ((len bytes2.1) != (wi ((len bytes1.1) + (4 : Int)))))), (52, bif L 11 then some (v2) else none), (53, bif L 12 then some (v3) else none), (54, bif L 13 then some (vS (sub bytes2.1 (0 : Int) (12 : Int))) else none), (55, bif L 14 then some (v1) else none), (56, bif L 15 then some (v4) else none), (57, bif L 16 then some (vS (sub bytes1.1 (0 : Int) (12 : Int))) else none)], [(some (cellsR b1 38 [vU8 f.Dst.a0, vU8 f.Dst.a1, vU8 f.Dst.a2, vU8 f.Dst.a3, vU8 f.Dst.a4, vU8 f.Dst.a5, vU8 f.Src.a0, vU8 f.Src.a1, vU8 f.Src.a2, vU8 f.Src.a3, vU8 f.Src.a4, vU8 f.Src.a5, vI ((-1) : Int), vU16 f.Type_, vf1]) : Option Res), (none : Option Res), (some (cellsR b2 38 [vU8 f.Dst.a0, vU8 f.Dst.a1, vU8 f.Dst.a2, vU8 f.Dst.a3, vU8 f.Dst.a4, vU8 f.Dst.a5, vU8 f.Src.a0, vU8 f.Src.a1, vU8 f.Src.a2, vU8 f.Src.a3, vU8 f.Src.a4, vU8 f.Src.a5, vI pick1, vU16 f.Type_, vf1]) : Option Res), (none : Option Res)], [Fact.sl u8S vf1 f.Data, Fact.sl u8S v2 bytes2.1, Fact.sl u8S v1 bytes1.1, (bif L 12 then Fact.sl u8S v3 (sub bytes2.1 (0 : Int) (12 : Int)) else Fact.tt), (bif L 15 then Fact.sl u8S v4 (sub bytes1.1 (0 : Int) (12 : Int)) else Fact.tt)]⟩ a w) [([], [12, 13]), ([11], [13]), ([11, 12], []), ([], [15, 16]), ([14], [16]), ([14, 15], [])] rfl (by kernel_rfl) ?_ (steps_cons ?_ (steps_cons ?_ (steps_cons ?_ (steps_cons ?_ (steps_cons ?_ (steps_cons ?_ (steps_nil))))))) ?_
        · intro a w hs
          exact ⟨undef, undef, hs.startF [52, 53, 54, 55, 56, 57] [0, 1, 2, 3] [0, 1, 2, 3, 4] rfl rfl rfl rfl⟩
        · intro L a w hv K Q hK
          obtain ⟨v3, v4, hs⟩ := hv
          refine wpOp_yes rfl rfl rfl hs (congrArg (fun b => some (Value.bool b)) hg7) (OpT_move rfl rfl rfl rfl) ?_
          rintro _ rfl a' w' hs'
          exact hK a' w' ⟨v3, v4, hs'.putF (i := 5) rfl [0, 1, 2, 3] [0, 1, 2, 3, 4] rfl rfl rfl rfl⟩
        · intro L a w hv K Q hK
          obtain ⟨v3, v4, hs⟩ := hv
          refine wpOp_yes rfl rfl rfl hs (congrArg (fun b => some (Value.bool b)) hg7) (OpT_sliceH (m := (12 : Int)) rfl rfl rfl rfl rfl slF22 (i := 1) rfl hc1) ?_
          rintro _ ⟨v3', rfl⟩ a' w' hs'
          exact hK a' w' ⟨v3', v4, hs'.putF (i := 6) rfl [0, 1, 2, 3] [0, 1, 2, 5, 4] rfl rfl rfl rfl⟩
        · intro L a w hv K Q hK
          obtain ⟨v3, v4, hs⟩ := hv
          refine wpOp_yes rfl rfl rfl hs (congrArg (fun b => some (Value.bool b)) hg7) (OpT_strS rfl rfl rfl rfl Try.underlying22 Try.underlying5 Try.underlying9 (i := 3) rfl) ?_
          rintro _ rfl a' w' hs'
          exact hK a' w' ⟨v3, v4, hs'.putF (i := 7) rfl [0, 1, 2, 3] [0, 1, 2, 3, 4] rfl rfl rfl rfl⟩
        · intro L a w hv K Q hK
          obtain ⟨v3, v4, hs⟩ := hv
          refine wpOp_yes rfl rfl rfl hs (congrArg (fun b => some (Value.bool b)) hg7) (OpT_move rfl rfl rfl rfl) ?_
          rintro _ rfl a' w' hs'
          exact hK a' w' ⟨v3, v4, hs'.putF (i := 8) rfl [0, 1, 2, 3] [0, 1, 2, 3, 4] rfl rfl rfl rfl⟩
        · intro L a w hv K Q hK
          obtain ⟨v3, v4, hs⟩ := hv
          refine wpOp_yes rfl rfl rfl hs (congrArg (fun b => some (Value.bool b)) hg7) (OpT_sliceH (m := (12 : Int)) rfl rfl rfl rfl rfl slF22 (i := 2) rfl hc2) ?_
          rintro _ ⟨v4', rfl⟩ a' w' hs'
          exact hK a' w' ⟨v3, v4', hs'.putF (i := 9) rfl [0, 1, 2, 3] [0, 1, 2, 3, 5] rfl rfl rfl rfl⟩
        · intro L a w hv K Q hK
          obtain ⟨v3, v4, hs⟩ := hv
          refine wpOp_yes rfl rfl rfl hs (congrArg (fun b => some (Value.bool b)) hg7) (OpT_strS rfl rfl rfl rfl Try.underlying22 Try.underlying5 Try.underlying9 (i := 4) rfl) ?_
          rintro _ rfl a' w' hs'
          exact hK a' w' ⟨v3, v4, hs'.putF (i := 10) rfl [0, 1, 2, 3] [0, 1, 2, 3, 4] rfl rfl rfl rfl⟩
        · intro L a w hL hv
          rw [allTrue hL] at hv
          obtain ⟨v3, v4, hs⟩ := hv
          refine (show TA _ _ _ 17 ⟨[(2, some (.pointer (some ⟨b1, 0, none⟩))), (5, some (v1)), (7, some (.pointer (some ⟨b2, 0, none⟩))), (8, some (v2)), (51, some (vB ((len bytes2.1) != (wi ((len bytes1.1) + (4 : Int)))))), (54, some (vS (sub bytes2.1 (0 : Int) (12 : Int)))), (57, some (vS (sub bytes1.1 (0 : Int) (12 : Int))))], [some (cellsR b1 38 [vU8 f.Dst.a0, vU8 f.Dst.a1, vU8 f.Dst.a2, vU8 f.Dst.a3, vU8 f.Dst.a4, vU8 f.Dst.a5, vU8 f.Src.a0, vU8 f.Src.a1, vU8 f.Src.a2, vU8 f.Src.a3, vU8 f.Src.a4, vU8 f.Src.a5, vI ((-1) : Int), vU16 f.Type_, vf1]), some (cellsR b2 38 [vU8 f.Dst.a0, vU8 f.Dst.a1, vU8 f.Dst.a2, vU8 f.Dst.a3, vU8 f.Dst.a4, vU8 f.Dst.a5, vU8 f.Src.a0, vU8 f.Src.a1, vU8 f.Src.a2, vU8 f.Src.a3, vU8 f.Src.a4, vU8 f.Src.a5, vI pick1, vU16 f.Type_, vf1])], [Fact.sl u8S vf1 f.Data, Fact.sl u8S v2 bytes2.1, Fact.sl u8S v1 bytes1.1]⟩ from ?_) a w (hs.wkS [2, 5, 7, 8, 51, 54, 57] [0, 2] [0, 1, 2] rfl rfl rfl rfl)
          clear hs hL
          refine TA_yes htb (by kernel_rfl) rfl rfl rfl (congrArg (fun b => some (Value.bool b)) hg7) (OpT_bin rfl rfl rfl rfl rfl (bin_neq_s (a := sub bytes2.1 (0 : Int) (12 : Int)) (b := sub bytes1.1 (0 : Int) (12 : Int)))) ?_
          rintro _ rfl
          refine TA_step htb (by kernel_rfl) rfl rfl (OpT_pickF rfl rfl rfl (congrArg (fun b => some (Value.bool b)) hg7) rfl) ?_
          refine TA_step htb (by kernel_rfl) rfl rfl (OpT_move rfl rfl rfl rfl) ?_
          refine TA_wkS (fr' := [(2, some (.pointer (some ⟨b1, 0, none⟩))), (5, some (v1)), (7, some (.pointer (some ⟨b2, 0, none⟩))), (8, some (v2)), (60, some (vB ((sub bytes2.1 (0 : Int) (12 : Int)) != (sub bytes1.1 (0 : Int) (12 : Int)))))]) (own' := [some (cellsR b1 38 [vU8 f.Dst.a0, vU8 f.Dst.a1, vU8 f.Dst.a2, vU8 f.Dst.a3, vU8 f.Dst.a4, vU8 f.Dst.a5, vU8 f.Src.a0, vU8 f.Src.a1, vU8 f.Src.a2, vU8 f.Src.a3, vU8 f.Src.a4, vU8 f.Src.a5, vI ((-1) : Int), vU16 f.Type_, vf1]), some (cellsR b2 38 [vU8 f.Dst.a0, vU8 f.Dst.a1, vU8 f.Dst.a2, vU8 f.Dst.a3, vU8 f.Dst.a4, vU8 f.Dst.a5, vU8 f.Src.a0, vU8 f.Src.a1, vU8 f.Src.a2, vU8 f.Src.a3, vU8 f.Src.a4, vU8 f.Src.a5, vI pick1, vU16 f.Type_, vf1])]) (shr' := [Fact.sl u8S vf1 f.Data, Fact.sl u8S v2 bytes2.1, Fact.sl u8S v1 bytes1.1]) [2, 5, 7, 8, 60] [0, 1] [0, 1, 2] rfl rfl rfl rfl ?_
          obtain ⟨hg8, h⟩ := chk_e h
          replace hg8 := not_t hg8
          obtain ⟨hc3, h⟩ := chk_e h
          obtain ⟨hc4, h⟩ := chk_e h
          refine TA_seg (lo := 20) (hi := 26) htb rfl rfl (by kernel_rfl) (fun c L a w => ∃ (v5 : Value), ∃ (v6 : Value), Sat c ⟨[(2, some (.pointer (some ⟨b1, 0, none⟩))), (5, some (v1)), (7, some (.pointer (some ⟨b2, 0, none⟩))), (8, some (v2)), (60, some (vB ((sub bytes2.1 (0 : Int) (12 : Int)) != (sub bytes1.1 (0 : Int) (12 : Int))))), (61, bif L 20 then some (v2) else none), (62, bif L 21 then some (v5) else none), (63, bif L 22 then some (vS (sub bytes2.1 (16 : Int) (len bytes2.1))) else none), (64, bif L 23 then some (v1) else none), (65, bif L 24 then some (v6) else none), (66, bif L 25 then some (vS (sub bytes1.1 (12 : Int) (len bytes1.1))) else none)], [(some (cellsR b1 38 [vU8 f.Dst.a0, vU8 f.Dst.a1, vU8 f.Dst.a2, vU8 f.Dst.a3, vU8 f.Dst.a4, vU8 f.Dst.a5, vU8 f.Src.a0, vU8 f.Src.a1, vU8 f.Src.a2, vU8 f.Src.a3, vU8 f.Src.a4, vU8 f.Src.a5, vI ((-1) : Int), vU16 f.Type_, vf1]) : Option Res), (some (cellsR b2 38 [vU8 f.Dst.a0, vU8 f.Dst.a1, vU8 f.Dst.a2, vU8 f.Dst.a3, vU8 f.Dst.a4, vU8 f.Dst.a5, vU8 f.Src.a0, vU8 f.Src.a1, vU8 f.Src.a2, vU8 f.Src.a3, vU8 f.Src.a4, vU8 f.Src.a5, vI pick1, vU16 f.Type_, vf1]) : Option Res)], [Fact.sl u8S vf1 f.Data, Fact.sl u8S v2 bytes2.1, Fact.sl u8S v1 bytes1.1, (bif L 21 then Fact.sl u8S v5 (sub bytes2.1 (16 : Int) (len bytes2.1)) else Fact.tt), (bif L 24 then Fact.sl u8S v6 (sub bytes1.1 (12 : Int) (len bytes1.1)) else Fact.tt)]⟩ a w) [([], [21, 22]), ([20], [22]), ([20, 21], []), ([], [24, 25]), ([23], [25]), ([23, 24], [])] rfl (by kernel_rfl) ?_ (steps_cons ?_ (steps_cons ?_ (steps_cons ?_ (steps_cons ?_ (steps_cons ?_ (steps_cons ?_ (steps_nil))))))) ?_
          · intro a w hs
            exact ⟨undef, undef, hs.startF [61, 62, 63, 64, 65, 66] [0, 1] [0, 1, 2, 3, 4] rfl rfl rfl rfl⟩
          · intro L a w hv K Q hK
            obtain ⟨v5, v6, hs⟩ := hv
            refine wpOp_yes rfl rfl rfl hs (congrArg (fun b => some (Value.bool b)) hg8) (OpT_move rfl rfl rfl rfl) ?_
            rintro _ rfl a' w' hs'
            exact hK a' w' ⟨v5, v6, hs'.putF (i := 5) rfl [0, 1] [0, 1, 2, 3, 4] rfl rfl rfl rfl⟩
          · intro L a w hv K Q hK
            obtain ⟨v5, v6, hs⟩ := hv
            refine wpOp_yes rfl rfl rfl hs (congrArg (fun b => some (Value.bool b)) hg8) (OpT_sliceL (l := (16 : Int)) rfl rfl rfl rfl rfl slF22 (i := 1) rfl hc3) ?_
            rintro _ ⟨v5', rfl⟩ a' w' hs'
            exact hK a' w' ⟨v5', v6, hs'.putF (i := 6) rfl [0, 1] [0, 1, 2, 5, 4] rfl rfl rfl rfl⟩
          · intro L a w hv K Q hK
            obtain ⟨v5, v6, hs⟩ := hv
            refine wpOp_yes rfl rfl rfl hs (congrArg (fun b => some (Value.bool b)) hg8) (OpT_strS rfl rfl rfl rfl Try.underlying22 Try.underlying5 Try.underlying9 (i := 3) rfl) ?_
            rintro _ rfl a' w' hs'
            exact hK a' w' ⟨v5, v6, hs'.putF (i := 7) rfl [0, 1] [0, 1, 2, 3, 4] rfl rfl rfl rfl⟩
          · intro L a w hv K Q hK
            obtain ⟨v5, v6, hs⟩ := hv
            refine wpOp_yes rfl rfl rfl hs (congrArg (fun b => some (Value.bool b)) hg8) (OpT_move rfl rfl rfl rfl) ?_
            rintro _ rfl a' w' hs'
            exact hK a' w' ⟨v5, v6, hs'.putF (i := 8) rfl [0, 1] [0, 1, 2, 3, 4] rfl rfl rfl rfl⟩
          · intro L a w hv K Q hK
            obtain ⟨v5, v6, hs⟩ := hv
            refine wpOp_yes rfl rfl rfl hs (congrArg (fun b => some (Value.bool b)) hg8) (OpT_sliceL (l := (12 : Int)) rfl rfl rfl rfl rfl slF22 (i := 2) rfl hc4) ?_
            rintro _ ⟨v6', rfl⟩ a' w' hs'
            exact hK a' w' ⟨v5, v6', hs'.putF (i := 9) rfl [0, 1] [0, 1, 2, 3, 5] rfl rfl rfl rfl⟩
          · intro L a w hv K Q hK
            obtain ⟨v5, v6, hs⟩ := hv
            refine wpOp_yes rfl rfl rfl hs (congrArg (fun b => some (Value.bool b)) hg8) (OpT_strS rfl rfl rfl rfl Try.underlying22 Try.underlying5 Try.underlying9 (i := 4) rfl) ?_
            rintro _ rfl a' w' hs'
            exact hK a' w' ⟨v5, v6, hs'.putF (i := 10) rfl [0, 1] [0, 1, 2, 3, 4] rfl rfl rfl rfl⟩
          · intro L a w hL hv
            rw [allTrue hL] at hv
            obtain ⟨v5, v6, hs⟩ := hv
            refine (show TA _ _ _ 26 ⟨[(2, some (.pointer (some ⟨b1, 0, none⟩))), (5, some (v1)), (7, some (.pointer (some ⟨b2, 0, none⟩))), (8, some (v2)), (60, some (vB ((sub bytes2.1 (0 : Int) (12 : Int)) != (sub bytes1.1 (0 : Int) (12 : Int))))), (63, some (vS (sub bytes2.1 (16 : Int) (len bytes2.1)))), (66, some (vS (sub bytes1.1 (12 : Int) (len bytes1.1))))], [some (cellsR b1 38 [vU8 f.Dst.a0, vU8 f.Dst.a1, vU8 f.Dst.a2, vU8 f.Dst.a3, vU8 f.Dst.a4, vU8 f.Dst.a5, vU8 f.Src.a0, vU8 f.Src.a1, vU8 f.Src.a2, vU8 f.Src.a3, vU8 f.Src.a4, vU8 f.Src.a5, vI ((-1) : Int), vU16 f.Type_, vf1]), some (cellsR b2 38 [vU8 f.Dst.a0, vU8 f.Dst.a1, vU8 f.Dst.a2, vU8 f.Dst.a3, vU8 f.Dst.a4, vU8 f.Dst.a5, vU8 f.Src.a0, vU8 f.Src.a1, vU8 f.Src.a2, vU8 f.Src.a3, vU8 f.Src.a4, vU8 f.Src.a5, vI pick1, vU16 f.Type_, vf1])], [Fact.sl u8S vf1 f.Data, Fact.sl u8S v2 bytes2.1, Fact.sl u8S v1 bytes1.1]⟩ from ?_) a w (hs.wkS [2, 5, 7, 8, 60, 63, 66] [0, 1] [0, 1, 2] rfl rfl rfl rfl)
            clear hs hL
            refine TA_yes htb (by kernel_rfl) rfl rfl rfl (congrArg (fun b => some (Value.bool b)) hg8) (OpT_bin rfl rfl rfl rfl rfl (bin_neq_s (a := sub bytes2.1 (16 : Int) (len bytes2.1)) (b := sub bytes1.1 (12 : Int) (len bytes1.1)))) ?_
            rintro _ rfl
            refine TA_step htb (by kernel_rfl) rfl rfl (OpT_pickF rfl rfl rfl (congrArg (fun b => some (Value.bool b)) hg8) rfl) ?_
            refine TA_step htb (by kernel_rfl) rfl rfl (OpT_move rfl rfl rfl rfl) ?_
            obtain ⟨hg9, h⟩ := chk_e h
            replace hg9 := not_t hg9
            refine TA_yes htb (by kernel_rfl) rfl rfl rfl (congrArg (fun b => some (Value.bool b)) hg9) (OpT_move rfl rfl rfl rfl) ?_
            rintro _ rfl
            obtain ⟨y1, hx5, h⟩ := ob_e h
            refine TA_yes htb (by kernel_rfl) rfl rfl rfl (congrArg (fun b => some (Value.bool b)) hg9) (OpT_idxS rfl rfl rfl rfl rfl slF22 (i := 1) rfl hx5) ?_
            rintro _ ⟨p1, rfl⟩
            refine TA_yes htb (by kernel_rfl) rfl rfl rfl (congrArg (fun b => some (Value.bool b)) hg9) (OpT_loadP rfl rfl rfl rfl tyF5 (i := 3) rfl rfl) ?_
            rintro _ rfl
            refine TA_yes htb (by kernel_rfl) rfl rfl rfl (congrArg (fun b => some (Value.bool b)) hg9) (OpT_bin rfl rfl rfl rfl rfl (bin_neq_u8 (a := y1) (b := (129 : UInt8)))) ?_
            rintro _ rfl
            refine TA_wkS (fr' := [(2, some (.pointer (some ⟨b1, 0, none⟩))), (5, some (v1)), (7, some (.pointer (some ⟨b2, 0, none⟩))), (8, some (v2)), (69, some (vB ((sub bytes2.1 (16 : Int) (len bytes2.1)) != (sub bytes1.1 (12 : Int) (len bytes1.1))))), (73, some (vB (y1 != (129 : UInt8))))]) (own' := [some (cellsR b1 38 [vU8 f.Dst.a0, vU8 f.Dst.a1, vU8 f.Dst.a2, vU8 f.Dst.a3, vU8 f.Dst.a4, vU8 f.Dst.a5, vU8 f.Src.a0, vU8 f.Src.a1, vU8 f.Src.a2, vU8 f.Src.a3, vU8 f.Src.a4, vU8 f.Src.a5, vI ((-1) : Int), vU16 f.Type_, vf1]), some (cellsR b2 38 [vU8 f.Dst.a0, vU8 f.Dst.a1, vU8 f.Dst.a2, vU8 f.Dst.a3, vU8 f.Dst.a4, vU8 f.Dst.a5, vU8 f.Src.a0, vU8 f.Src.a1, vU8 f.Src.a2, vU8 f.Src.a3, vU8 f.Src.a4, vU8 f.Src.a5, vI pick1, vU16 f.Type_, vf1])]) (shr' := [Fact.sl u8S vf1 f.Data, Fact.sl u8S v2 bytes2.1, Fact.sl u8S v1 bytes1.1]) [2, 5, 7, 8, 69, 73] [0, 1] [0, 1, 2] rfl rfl rfl rfl ?_
            refine TA_step htb (by kernel_rfl) rfl rfl (OpT_pickF rfl rfl rfl (congrArg (fun b => some (Value.bool b)) hg9) rfl) ?_
            refine TA_step htb (by kernel_rfl) rfl rfl (OpT_move rfl rfl rfl rfl) ?_
            obtain ⟨hg10, h⟩ := chk_e h
            replace hg10 := not_t hg10
            refine TA_yes htb (by kernel_rfl) rfl rfl rfl (congrArg (fun b => some (Value.bool b)) hg10) (OpT_move rfl rfl rfl rfl) ?_
            rintro _ rfl
            obtain ⟨y2, hx6, h⟩ := ob_e h
            refine TA_yes htb (by kernel_rfl) rfl rfl rfl (congrArg (fun b => some (Value.bool b)) hg10) (OpT_idxS rfl rfl rfl rfl rfl slF22 (i := 1) rfl hx6) ?_
            rintro _ ⟨p2, rfl⟩
            refine TA_yes htb (by kernel_rfl) rfl rfl rfl (congrArg (fun b => some (Value.bool b)) hg10) (OpT_loadP rfl rfl rfl rfl tyF5 (i := 3) rfl rfl) ?_
            rintro _ rfl
            refine TA_yes htb (by kernel_rfl) rfl rfl rfl (congrArg (fun b => some (Value.bool b)) hg10) (OpT_bin rfl rfl rfl rfl rfl (bin_neq_u8 (a := y2) (b := (0 : UInt8)))) ?_
            rintro _ rfl
            refine TA_step htb (by kernel_rfl) rfl rfl (OpT_pickF rfl rfl rfl (congrArg (fun b => some (Value.bool b)) hg10) rfl) ?_
            refine TA_wkS (fr' := [(2, some (.pointer (some ⟨b1, 0, none⟩))), (5, some (v1)), (7, some (.pointer (some ⟨b2, 0, none⟩))), (8, some (v2)), (80, some (vB (y2 != (0 : UInt8))))]) (own' := [some (cellsR b1 38 [vU8 f.Dst.a0, vU8 f.Dst.a1, vU8 f.Dst.a2, vU8 f.Dst.a3, vU8 f.Dst.a4, vU8 f.Dst.a5, vU8 f.Src.a0, vU8 f.Src.a1, vU8 f.Src.a2, vU8 f.Src.a3, vU8 f.Src.a4, vU8 f.Src.a5, vI ((-1) : Int), vU16 f.Type_, vf1]), some (cellsR b2 38 [vU8 f.Dst.a0, vU8 f.Dst.a1, vU8 f.Dst.a2, vU8 f.Dst.a3, vU8 f.Dst.a4, vU8 f.Dst.a5, vU8 f.Src.a0, vU8 f.Src.a1, vU8 f.Src.a2, vU8 f.Src.a3, vU8 f.Src.a4, vU8 f.Src.a5, vI pick1, vU16 f.Type_, vf1])]) (shr' := [Fact.sl u8S vf1 f.Data, Fact.sl u8S v2 bytes2.1, Fact.sl u8S v1 bytes1.1]) [2, 5, 7, 8, 80] [0, 1] [0, 1, 2] rfl rfl rfl rfl ?_
            refine TA_step htb (by kernel_rfl) rfl rfl (OpT_move rfl rfl rfl rfl) ?_
            refine TA_wkS (fr' := [(2, some (.pointer (some ⟨b1, 0, none⟩))), (5, some (v1)), (7, some (.pointer (some ⟨b2, 0, none⟩))), (8, some (v2)), (81, some (vB (y2 != (0 : UInt8))))]) (own' := [some (cellsR b1 38 [vU8 f.Dst.a0, vU8 f.Dst.a1, vU8 f.Dst.a2, vU8 f.Dst.a3, vU8 f.Dst.a4, vU8 f.Dst.a5, vU8 f.Src.a0, vU8 f.Src.a1, vU8 f.Src.a2, vU8 f.Src.a3, vU8 f.Src.a4, vU8 f.Src.a5, vI ((-1) : Int), vU16 f.Type_, vf1]), some (cellsR b2 38 [vU8 f.Dst.a0, vU8 f.Dst.a1, vU8 f.Dst.a2, vU8 f.Dst.a3, vU8 f.Dst.a4, vU8 f.Dst.a5, vU8 f.Src.a0, vU8 f.Src.a1, vU8 f.Src.a2, vU8 f.Src.a3, vU8 f.Src.a4, vU8 f.Src.a5, vI pick1, vU16 f.Type_, vf1])]) (shr' := [Fact.sl u8S vf1 f.Data, Fact.sl u8S v2 bytes2.1, Fact.sl u8S v1 bytes1.1]) [2, 5, 7, 8, 81] [0, 1] [0, 1, 2] rfl rfl rfl rfl ?_
            obtain ⟨hg11, h⟩ := chk_e h
            replace hg11 := not_t hg11
            obtain ⟨y3, hx7, h⟩ := ob_e h
            obtain ⟨y4, hx8, h⟩ := ob_e h
            refine TA_seg (lo := 41) (hi := 53) htb rfl rfl (by kernel_rfl) (fun c L a w => ∃ (p3 : Value), ∃ (p4 : Value), Sat c ⟨[(2, some (.pointer (some ⟨b1, 0, none⟩))), (5, some (v1)), (7, some (.pointer (some ⟨b2, 0, none⟩))), (8, some (v2)), (81, some (vB (y2 != (0 : UInt8)))), (82, bif L 41 then some (v2) else none), (83, bif L 42 then some (p3) else none), (84, bif L 43 then some (vU8 y3) else none), (85, bif L 44 then some (vI (i8 y3)) else none), (86, bif L 45 then some (vI (wi ((i8 y3) * (256 : Int)))) else none), (87, bif L 46 then some (v2) else none), (88, bif L 47 then some (p4) else none), (89, bif L 48 then some (vU8 y4) else none), (90, bif L 49 then some (vI (i8 y4)) else none), (91, bif L 50 then some (vI (wi ((wi ((i8 y3) * (256 : Int))) + (i8 y4)))) else none), (92, bif L 51 then some (.pointer (some ⟨b2, 12, none⟩)) else none), (93, bif L 52 then some (vI pick1) else none)], [(some (cellsR b1 38 [vU8 f.Dst.a0, vU8 f.Dst.a1, vU8 f.Dst.a2, vU8 f.Dst.a3, vU8 f.Dst.a4, vU8 f.Dst.a5, vU8 f.Src.a0, vU8 f.Src.a1, vU8 f.Src.a2, vU8 f.Src.a3, vU8 f.Src.a4, vU8 f.Src.a5, vI ((-1) : Int), vU16 f.Type_, vf1]) : Option Res), (some (cellsR b2 38 [vU8 f.Dst.a0, vU8 f.Dst.a1, vU8 f.Dst.a2, vU8 f.Dst.a3, vU8 f.Dst.a4, vU8 f.Dst.a5, vU8 f.Src.a0, vU8 f.Src.a1, vU8 f.Src.a2, vU8 f.Src.a3, vU8 f.Src.a4, vU8 f.Src.a5, vI pick1, vU16 f.Type_, vf1]) : Option Res)], [Fact.sl u8S vf1 f.Data, Fact.sl u8S v2 bytes2.1, Fact.sl u8S v1 bytes1.1, (bif L 42 then Fact.pt u8S p3 y3 else Fact.tt), (bif L 47 then Fact.pt u8S p4 y4 else Fact.tt)]⟩ a w) [([], [42, 43, 44, 45, 50]), ([41], [43, 44, 45, 50]), ([41, 42], [44, 45, 50]), ([41, 42, 43], [45, 50]), ([41, 42, 43, 44], [50]), ([], [47, 48, 49, 50]), ([46], [48, 49, 50]), ([46, 47], [49, 50]), ([46, 47, 48], [50]), ([41, 42, 43, 44, 45, 46, 47, 48, 49], []), ([], [52]), ([51], [])] rfl (by kernel_rfl) ?_ (steps_cons ?_ (steps_cons ?_ (steps_cons ?_ (steps_cons ?_ (steps_cons ?_ (steps_cons ?_ (steps_cons ?_ (steps_cons ?_ (steps_cons ?_ (steps_cons ?_ (steps_cons ?_ (steps_cons ?_ (steps_nil))))))))))))) ?_
            · intro a w hs
              exact ⟨undef, undef, hs.startF [82, 83, 84, 85, 86, 87, 88, 89, 90, 91, 92, 93] [0, 1] [0, 1, 2, 3, 4] rfl rfl rfl rfl⟩
            · intro L a w hv K Q hK
              obtain ⟨p3, p4, hs⟩ := hv
              refine wpOp_yes rfl rfl rfl hs (congrArg (fun b => some (Value.bool b)) hg11) (OpT_move rfl rfl rfl rfl) ?_
              rintro _ rfl a' w' hs'
              exact hK a' w' ⟨p3, p4, hs'.putF (i := 5) rfl [0, 1] [0, 1, 2, 3, 4] rfl rfl rfl rfl⟩
            · intro L a w hv K Q hK
              obtain ⟨p3, p4, hs⟩ := hv
              refine wpOp_yes rfl rfl rfl hs (congrArg (fun b => some (Value.bool b)) hg11) (OpT_idxS rfl rfl rfl rfl rfl slF22 (i := 1) rfl hx7) ?_
              rintro _ ⟨p3', rfl⟩ a' w' hs'
              exact hK a' w' ⟨p3', p4, hs'.putF (i := 6) rfl [0, 1] [0, 1, 2, 5, 4] rfl rfl rfl rfl⟩
            · intro L a w hv K Q hK
              obtain ⟨p3, p4, hs⟩ := hv
              refine wpOp_yes rfl rfl rfl hs (congrArg (fun b => some (Value.bool b)) hg11) (OpT_loadP rfl rfl rfl rfl tyF5 (i := 3) rfl rfl) ?_
              rintro _ rfl a' w' hs'
              exact hK a' w' ⟨p3, p4, hs'.putF (i := 7) rfl [0, 1] [0, 1, 2, 3, 4] rfl rfl rfl rfl⟩
            · intro L a w hv K Q hK
              obtain ⟨p3, p4, hs⟩ := hv
              refine wpOp_yes rfl rfl rfl hs (congrArg (fun b => some (Value.bool b)) hg11) (OpT_cnv rfl rfl rfl rfl (cnv_u8_i (n := y3) Try.underlying5 Try.underlying3)) ?_
              rintro _ rfl a' w' hs'
              exact hK a' w' ⟨p3, p4, hs'.putF (i := 8) rfl [0, 1] [0, 1, 2, 3, 4] rfl rfl rfl rfl⟩
            · intro L a w hv K Q hK
              obtain ⟨p3, p4, hs⟩ := hv
              refine wpOp_yes rfl rfl rfl hs (congrArg (fun b => some (Value.bool b)) hg11) (OpT_bin rfl rfl rfl rfl rfl (bin_mul_i (a := i8 y3) (b := (256 : Int)))) ?_
              rintro _ rfl a' w' hs'
              exact hK a' w' ⟨p3, p4, hs'.putF (i := 9) rfl [0, 1] [0, 1, 2, 3, 4] rfl rfl rfl rfl⟩
            · intro L a w hv K Q hK
              obtain ⟨p3, p4, hs⟩ := hv
              refine wpOp_yes rfl rfl rfl hs (congrArg (fun b => some (Value.bool b)) hg11) (OpT_move rfl rfl rfl rfl) ?_
              rintro _ rfl a' w' hs'
              exact hK a' w' ⟨p3, p4, hs'.putF (i := 10) rfl [0, 1] [0, 1, 2, 3, 4] rfl rfl rfl rfl⟩
            · intro L a w hv K Q hK
              obtain ⟨p3, p4, hs⟩ := hv
              refine wpOp_yes rfl rfl rfl hs (congrArg (fun b => some (Value.bool b)) hg11) (OpT_idxS rfl rfl rfl rfl rfl slF22 (i := 1) rfl hx8) ?_
              rintro _ ⟨p4', rfl⟩ a' w' hs'
              exact hK a' w' ⟨p3, p4', hs'.putF (i := 11) rfl [0, 1] [0, 1, 2, 3, 5] rfl rfl rfl rfl⟩
            · intro L a w hv K Q hK
              obtain ⟨p3, p4, hs⟩ := hv
              refine wpOp_yes rfl rfl rfl hs (congrArg (fun b => some (Value.bool b)) hg11) (OpT_loadP rfl rfl rfl rfl tyF5 (i := 4) rfl rfl) ?_
              rintro _ rfl a' w' hs'
              exact hK a' w' ⟨p3, p4, hs'.putF (i := 12) rfl [0, 1] [0, 1, 2, 3, 4] rfl rfl rfl rfl⟩
            · intro L a w hv K Q hK
              obtain ⟨p3, p4, hs⟩ := hv
              refine wpOp_yes rfl rfl rfl hs (congrArg (fun b => some (Value.bool b)) hg11) (OpT_cnv rfl rfl rfl rfl (cnv_u8_i (n := y4) Try.underlying5 Try.underlying3)) ?_
              rintro _ rfl a' w' hs'
              exact hK a' w' ⟨p3, p4, hs'.putF (i := 13) rfl [0, 1] [0, 1, 2, 3, 4] rfl rfl rfl rfl⟩
            · intro L a w hv K Q hK
              obtain ⟨p3, p4, hs⟩ := hv
              refine wpOp_yes rfl rfl rfl hs (congrArg (fun b => some (Value.bool b)) hg11) (OpT_bin rfl rfl rfl rfl rfl (bin_add_i (a := wi ((i8 y3) * (256 : Int))) (b := i8 y4))) ?_
              rintro _ rfl a' w' hs'
              exact hK a' w' ⟨p3, p4, hs'.putF (i := 14) rfl [0, 1] [0, 1, 2, 3, 4] rfl rfl rfl rfl⟩
            · intro L a w hv K Q hK
              obtain ⟨p3, p4, hs⟩ := hv
              refine wpOp_yes rfl rfl rfl hs (congrArg (fun b => some (Value.bool b)) hg11) (OpT_fieldC rfl rfl rfl rfl fldF38x2) ?_
              rintro _ rfl a' w' hs'
              exact hK a' w' ⟨p3, p4, hs'.putF (i := 15) rfl [0, 1] [0, 1, 2, 3, 4] rfl rfl rfl rfl⟩
            · intro L a w hv K Q hK
              obtain ⟨p3, p4, hs⟩ := hv
              refine wpOp_yes rfl rfl rfl hs (congrArg (fun b => some (Value.bool b)) hg11) (OpT_loadC rfl rfl rfl rfl tyF3 (i := 1) rfl rfl) ?_
              rintro _ rfl a' w' hs'
              exact hK a' w' ⟨p3, p4, hs'.putF (i := 16) rfl [0, 1] [0, 1, 2, 3, 4] rfl rfl rfl rfl⟩
            · intro L a w hL hv
              rw [allTrue hL] at hv
              obtain ⟨p3, p4, hs⟩ := hv
              refine (show TA _ _ _ 53 ⟨[(2, some (.pointer (some ⟨b1, 0, none⟩))), (5, some (v1)), (7, some (.pointer (some ⟨b2, 0, none⟩))), (8, some (v2)), (81, some (vB (y2 != (0 : UInt8)))), (91, some (vI (wi ((wi ((i8 y3) * (256 : Int))) + (i8 y4))))), (93, some (vI pick1))], [some (cellsR b1 38 [vU8 f.Dst.a0, vU8 f.Dst.a1, vU8 f.Dst.a2, vU8 f.Dst.a3, vU8 f.Dst.a4, vU8 f.Dst.a5, vU8 f.Src.a0, vU8 f.Src.a1, vU8 f.Src.a2, vU8 f.Src.a3, vU8 f.Src.a4, vU8 f.Src.a5, vI ((-1) : Int), vU16 f.Type_, vf1]), some (cellsR b2 38 [vU8 f.Dst.a0, vU8 f.Dst.a1, vU8 f.Dst.a2, vU8 f.Dst.a3, vU8 f.Dst.a4, vU8 f.Dst.a5, vU8 f.Src.a0, vU8 f.Src.a1, vU8 f.Src.a2, vU8 f.Src.a3, vU8 f.Src.a4, vU8 f.Src.a5, vI pick1, vU16 f.Type_, vf1])], [Fact.sl u8S vf1 f.Data, Fact.sl u8S v2 bytes2.1, Fact.sl u8S v1 bytes1.1]⟩ from ?_) a w (hs.wkS [2, 5, 7, 8, 81, 91, 93] [0, 1] [0, 1, 2] rfl rfl rfl rfl)
              clear hs hL
              refine TA_yes htb (by kernel_rfl) rfl rfl rfl (congrArg (fun b => some (Value.bool b)) hg11) (OpT_bin rfl rfl rfl rfl rfl (bin_neq_i (a := wi ((wi ((i8 y3) * (256 : Int))) + (i8 y4))) (b := pick1))) ?_
              rintro _ rfl
              refine TA_step htb (by kernel_rfl) rfl rfl (OpT_pickF rfl rfl rfl (congrArg (fun b => some (Value.bool b)) hg11) rfl) ?_
              refine TA_end rfl ?_
              refine Tk_wkS (fr' := [(2, some (.pointer (some ⟨b1, 0, none⟩))), (5, some (v1)), (7, some (.pointer (some ⟨b2, 0, none⟩))), (8, some (v2)), (95, some (vB ((wi ((wi ((i8 y3) * (256 : Int))) + (i8 y4))) != pick1)))]) (own' := [some (cellsR b1 38 [vU8 f.Dst.a0, vU8 f.Dst.a1, vU8 f.Dst.a2, vU8 f.Dst.a3, vU8 f.Dst.a4, vU8 f.Dst.a5, vU8 f.Src.a0, vU8 f.Src.a1, vU8 f.Src.a2, vU8 f.Src.a3, vU8 f.Src.a4, vU8 f.Src.a5, vI ((-1) : Int), vU16 f.Type_, vf1]), some (cellsR b2 38 [vU8 f.Dst.a0, vU8 f.Dst.a1, vU8 f.Dst.a2, vU8 f.Dst.a3, vU8 f.Dst.a4, vU8 f.Dst.a5, vU8 f.Src.a0, vU8 f.Src.a1, vU8 f.Src.a2, vU8 f.Src.a3, vU8 f.Src.a4, vU8 f.Src.a5, vI pick1, vU16 f.Type_, vf1])]) (shr' := [Fact.sl u8S vf1 f.Data, Fact.sl u8S v2 bytes2.1, Fact.sl u8S v1 bytes1.1]) [2, 5, 7, 8, 95] [0, 1] [0, 1, 2] rfl rfl rfl rfl ?_
              obtain ⟨hg12, h⟩ := chk_e h
              replace hg12 := not_t hg12
              refine Tk_condF (congrArg (fun b => some (Value.bool b)) hg12) ?_
              refine Tk_skip ?_
              refine Tk_seq ?_
              refine Tk_region ?_
              refine Tops_step rfl (OpT_move rfl rfl rfl rfl) ?_
              obtain ⟨read1, hx9, h⟩ := ob_e h
              refine Tops_exP rfl (OpT_call (w_frame_Read hx9) [] [2] rfl rfl rfl rfl rfl callee22 rfl rfl rfl rfl) ?_
              rintro _ ⟨_, _, _, ⟨v7, rfl, rfl, rfl⟩, rfl⟩
              refine Tops_step rfl (OpT_move rfl rfl rfl rfl) ?_
              refine Tops_step rfl (OpT_extract rfl rfl rfl rfl rfl) ?_
              refine Tops_step rfl (OpT_extract rfl rfl rfl rfl rfl) ?_
              refine Tops_ex rfl (OpT_alloc rfl rfl rfl tyZ38) fun b3 => ?_
              refine Tops_step rfl (OpT_storeA1 (fun z0 => [vU8 read1.1.Dst.a0, vU8 read1.1.Dst.a1, vU8 read1.1.Dst.a2, vU8 read1.1.Dst.a3, vU8 read1.1.Dst.a4, vU8 read1.1.Dst.a5, vU8 read1.1.Src.a0, vU8 read1.1.Src.a1, vU8 read1.1.Src.a2, vU8 read1.1.Src.a3, vU8 read1.1.Src.a4, vU8 read1.1.Src.a5, vI read1.1.Vlan, vU16 read1.1.Type_, z0]) (cs' := [vU8 read1.1.Dst.a0, vU8 read1.1.Dst.a1, vU8 read1.1.Dst.a2, vU8 read1.1.Dst.a3, vU8 read1.1.Dst.a4, vU8 read1.1.Dst.a5, vU8 read1.1.Src.a0, vU8 read1.1.Src.a1, vU8 read1.1.Src.a2, vU8 read1.1.Src.a3, vU8 read1.1.Src.a4, vU8 read1.1.Src.a5, vI read1.1.Vlan, vU16 read1.1.Type_, v7]) rfl rfl rfl rfl tyF38 (i := 2) rfl (is_sl (i := 3) rfl) (fun _ _ _ => rfl) rfl rfl rfl) ?_
              refine Tops_step rfl (OpT_assign rfl rfl rfl rfl) ?_
              refine Tops_nil ?_
              refine Tk_wkS (fr' := [(2, some (.pointer (some ⟨b1, 0, none⟩))), (7, some (.pointer (some ⟨b2, 0, none⟩))), (8, some (v2)), (10, some (.pointer (some ⟨b3, 0, none⟩))), (6, some (vI read1.2))]) (own' := [some (cellsR b1 38 [vU8 f.Dst.a0, vU8 f.Dst.a1, vU8 f.Dst.a2, vU8 f.Dst.a3, vU8 f.Dst.a4, vU8 f.Dst.a5, vU8 f.Src.a0, vU8 f.Src.a1, vU8 f.Src.a2, vU8 f.Src.a3, vU8 f.Src.a4, vU8 f.Src.a5, vI ((-1) : Int), vU16 f.Type_, vf1]), some (cellsR b2 38 [vU8 f.Dst.a0, vU8 f.Dst.a1, vU8 f.Dst.a2, vU8 f.Dst.a3, vU8 f.Dst.a4, vU8 f.Dst.a5, vU8 f.Src.a0, vU8 f.Src.a1, vU8 f.Src.a2, vU8 f.Src.a3, vU8 f.Src.a4, vU8 f.Src.a5, vI pick1, vU16 f.Type_, vf1]), some (cellsR b3 38 [vU8 read1.1.Dst.a0, vU8 read1.1.Dst.a1, vU8 read1.1.Dst.a2, vU8 read1.1.Dst.a3, vU8 read1.1.Dst.a4, vU8 read1.1.Dst.a5, vU8 read1.1.Src.a0, vU8 read1.1.Src.a1, vU8 read1.1.Src.a2, vU8 read1.1.Src.a3, vU8 read1.1.Src.a4, vU8 read1.1.Src.a5, vI read1.1.Vlan, vU16 read1.1.Type_, v7])]) (shr' := [Fact.sl u8S vf1 f.Data, Fact.sl u8S v2 bytes2.1, Fact.sl u8S v7 read1.1.Data]) [2, 7, 8, 10, 6] [0, 1, 2] [0, 1, 3] rfl rfl rfl rfl ?_
              refine Tk_seq ?_
              refine Tk_region ?_
              refine Tops_step rfl (OpT_move rfl rfl rfl rfl) ?_
              obtain ⟨read2, hx10, h⟩ := ob_e h
              refine Tops_exP rfl (OpT_call (w_frame_Read hx10) [] [1] rfl rfl rfl rfl rfl callee22 rfl rfl rfl rfl) ?_
              rintro _ ⟨_, _, _, ⟨v8, rfl, rfl, rfl⟩, rfl⟩
              refine Tops_step rfl (OpT_move rfl rfl rfl rfl) ?_
              refine Tops_step rfl (OpT_extract rfl rfl rfl rfl rfl) ?_
              refine Tops_step rfl (OpT_extract rfl rfl rfl rfl rfl) ?_
              refine Tops_ex rfl (OpT_alloc rfl rfl rfl tyZ38) fun b4 => ?_
              refine Tops_step rfl (OpT_storeA1 (fun z0 => [vU8 read2.1.Dst.a0, vU8 read2.1.Dst.a1, vU8 read2.1.Dst.a2, vU8 read2.1.Dst.a3, vU8 read2.1.Dst.a4, vU8 read2.1.Dst.a5, vU8 read2.1.Src.a0, vU8 read2.1.Src.a1, vU8 read2.1.Src.a2, vU8 read2.1.Src.a3, vU8 read2.1.Src.a4, vU8 read2.1.Src.a5, vI read2.1.Vlan, vU16 read2.1.Type_, z0]) (cs' := [vU8 read2.1.Dst.a0, vU8 read2.1.Dst.a1, vU8 read2.1.Dst.a2, vU8 read2.1.Dst.a3, vU8 read2.1.Dst.a4, vU8 read2.1.Dst.a5, vU8 read2.1.Src.a0, vU8 read2.1.Src.a1, vU8 read2.1.Src.a2, vU8 read2.1.Src.a3, vU8 read2.1.Src.a4, vU8 read2.1.Src.a5, vI read2.1.Vlan, vU16 read2.1.Type_, v8]) rfl rfl rfl rfl tyF38 (i := 3) rfl (is_sl (i := 3) rfl) (fun _ _ _ => rfl) rfl rfl rfl) ?_
              refine Tops_step rfl (OpT_assign rfl rfl rfl rfl) ?_
              refine Tops_nil ?_
              refine Tk_wkS (fr' := [(2, some (.pointer (some ⟨b1, 0, none⟩))), (7, some (.pointer (some ⟨b2, 0, none⟩))), (10, some (.pointer (some ⟨b3, 0, none⟩))), (6, some (vI read1.2)), (11, some (.pointer (some ⟨b4, 0, none⟩))), (9, some (vI read2.2))]) (own' := [some (cellsR b1 38 [vU8 f.Dst.a0, vU8 f.Dst.a1, vU8 f.Dst.a2, vU8 f.Dst.a3, vU8 f.Dst.a4, vU8 f.Dst.a5, vU8 f.Src.a0, vU8 f.Src.a1, vU8 f.Src.a2, vU8 f.Src.a3, vU8 f.Src.a4, vU8 f.Src.a5, vI ((-1) : Int), vU16 f.Type_, vf1]), some (cellsR b2 38 [vU8 f.Dst.a0, vU8 f.Dst.a1, vU8 f.Dst.a2, vU8 f.Dst.a3, vU8 f.Dst.a4, vU8 f.Dst.a5, vU8 f.Src.a0, vU8 f.Src.a1, vU8 f.Src.a2, vU8 f.Src.a3, vU8 f.Src.a4, vU8 f.Src.a5, vI pick1, vU16 f.Type_, vf1]), some (cellsR b3 38 [vU8 read1.1.Dst.a0, vU8 read1.1.Dst.a1, vU8 read1.1.Dst.a2, vU8 read1.1.Dst.a3, vU8 read1.1.Dst.a4, vU8 read1.1.Dst.a5, vU8 read1.1.Src.a0, vU8 read1.1.Src.a1, vU8 read1.1.Src.a2, vU8 read1.1.Src.a3, vU8 read1.1.Src.a4, vU8 read1.1.Src.a5, vI read1.1.Vlan, vU16 read1.1.Type_, v7]), some (cellsR b4 38 [vU8 read2.1.Dst.a0, vU8 read2.1.Dst.a1, vU8 read2.1.Dst.a2, vU8 read2.1.Dst.a3, vU8 read2.1.Dst.a4, vU8 read2.1.Dst.a5, vU8 read2.1.Src.a0, vU8 read2.1.Src.a1, vU8 read2.1.Src.a2, vU8 read2.1.Src.a3, vU8 read2.1.Src.a4, vU8 read2.1.Src.a5, vI read2.1.Vlan, vU16 read2.1.Type_, v8])]) (shr' := [Fact.sl u8S vf1 f.Data, Fact.sl u8S v7 read1.1.Data, Fact.sl u8S v8 read2.1.Data]) [2, 7, 10, 6, 11, 9] [0, 1, 2, 3] [0, 2, 3] rfl rfl rfl rfl ?_
              refine Tk_seq ?_
              refine Tk_region ?_
              refine Tops_step rfl (OpT_move rfl rfl rfl rfl) ?_
              refine Tops_step rfl (OpT_bin rfl rfl rfl rfl rfl (bin_eql_i (a := read1.2) (b := (0 : Int)))) ?_
              refine Tops_step rfl (OpT_move rfl rfl rfl rfl) ?_
              obtain ⟨hg13, h⟩ := chk_e h
              refine Tops_yes rfl rfl (congrArg (fun b => some (Value.bool b)) hg13) (OpT_move rfl rfl rfl rfl) ?_
              rintro _ rfl
              refine Tops_yes rfl rfl (congrArg (fun b => some (Value.bool b)) hg13) (OpT_bin rfl rfl rfl rfl rfl (bin_eql_i (a := read2.2) (b := (0 : Int)))) ?_
              rintro _ rfl
              refine Tops_step rfl (OpT_pickT rfl rfl rfl (congrArg (fun b => some (Value.bool b)) hg13) rfl) ?_
              refine Tops_step rfl (OpT_move rfl rfl rfl rfl) ?_
              obtain ⟨hg14, h⟩ := chk_e h
              refine Tops_yes rfl rfl (congrArg (fun b => some (Value.bool b)) hg14) (OpT_loadCA (vs := [vU8 read1.1.Dst.a0, vU8 read1.1.Dst.a1, vU8 read1.1.Dst.a2, vU8 read1.1.Dst.a3, vU8 read1.1.Dst.a4, vU8 read1.1.Dst.a5, vU8 read1.1.Src.a0, vU8 read1.1.Src.a1, vU8 read1.1.Src.a2, vU8 read1.1.Src.a3, vU8 read1.1.Src.a4, vU8 read1.1.Src.a5, vI read1.1.Vlan, vU16 read1.1.Type_, v7]) rfl rfl rfl rfl tyF38 (i := 2) rfl rfl rfl) ?_
              rintro _ rfl
              refine Tops_yes rfl rfl (congrArg (fun b => some (Value.bool b)) hg14) (OpT_loadCA (vs := [vU8 f.Dst.a0, vU8 f.Dst.a1, vU8 f.Dst.a2, vU8 f.Dst.a3, vU8 f.Dst.a4, vU8 f.Dst.a5, vU8 f.Src.a0, vU8 f.Src.a1, vU8 f.Src.a2, vU8 f.Src.a3, vU8 f.Src.a4, vU8 f.Src.a5, vI ((-1) : Int), vU16 f.Type_, vf1]) rfl rfl rfl rfl tyF38 (i := 0) rfl rfl rfl) ?_
              rintro _ rfl
              obtain ⟨same1, hx11, h⟩ := ob_e h
              refine Tops_yes rfl rfl (congrArg (fun b => some (Value.bool b)) hg14) (OpT_call (w_frame_Same hx11) [] [1, 0] rfl rfl rfl rfl rfl callee21 rfl rfl rfl rfl) ?_
              rintro _ ⟨_, _, _, ⟨rfl, rfl, rfl⟩, rfl⟩
              refine Tops_step rfl (OpT_pickT rfl rfl rfl (congrArg (fun b => some (Value.bool b)) hg14) rfl) ?_
              refine Tops_step rfl (OpT_move rfl rfl rfl rfl) ?_
              obtain ⟨hg15, h⟩ := chk_e h
              refine Tops_yes rfl rfl (congrArg (fun b => some (Value.bool b)) hg15) (OpT_loadCA (vs := [vU8 read2.1.Dst.a0, vU8 read2.1.Dst.a1, vU8 read2.1.Dst.a2, vU8 read2.1.Dst.a3, vU8 read2.1.Dst.a4, vU8 read2.1.Dst.a5, vU8 read2.1.Src.a0, vU8 read2.1.Src.a1, vU8 read2.1.Src.a2, vU8 read2.1.Src.a3, vU8 read2.1.Src.a4, vU8 read2.1.Src.a5, vI read2.1.Vlan, vU16 read2.1.Type_, v8]) rfl rfl rfl rfl tyF38 (i := 3) rfl rfl rfl) ?_
              rintro _ rfl
              refine Tops_yes rfl rfl (congrArg (fun b => some (Value.bool b)) hg15) (OpT_loadCA (vs := [vU8 f.Dst.a0, vU8 f.Dst.a1, vU8 f.Dst.a2, vU8 f.Dst.a3, vU8 f.Dst.a4, vU8 f.Dst.a5, vU8 f.Src.a0, vU8 f.Src.a1, vU8 f.Src.a2, vU8 f.Src.a3, vU8 f.Src.a4, vU8 f.Src.a5, vI pick1, vU16 f.Type_, vf1]) rfl rfl rfl rfl tyF38 (i := 1) rfl rfl rfl) ?_
              rintro _ rfl
              obtain ⟨same2, hx12, h⟩ := ob_e h
              refine Tops_yes rfl rfl (congrArg (fun b => some (Value.bool b)) hg15) (OpT_call (w_frame_Same hx12) [] [2, 0] rfl rfl rfl rfl rfl callee21 rfl rfl rfl rfl) ?_
              rintro _ ⟨_, _, _, ⟨rfl, rfl, rfl⟩, rfl⟩
              refine Tops_step rfl (OpT_pickT rfl rfl rfl (congrArg (fun b => some (Value.bool b)) hg15) rfl) ?_
              refine Tops_step rfl (OpT_move rfl rfl rfl rfl) ?_
              obtain ⟨hg16, h⟩ := chk_e h
              refine Tops_yes rfl rfl (congrArg (fun b => some (Value.bool b)) hg16) (OpT_loadCA (vs := [vU8 read1.1.Dst.a0, vU8 read1.1.Dst.a1, vU8 read1.1.Dst.a2, vU8 read1.1.Dst.a3, vU8 read1.1.Dst.a4, vU8 read1.1.Dst.a5, vU8 read1.1.Src.a0, vU8 read1.1.Src.a1, vU8 read1.1.Src.a2, vU8 read1.1.Src.a3, vU8 read1.1.Src.a4, vU8 read1.1.Src.a5, vI read1.1.Vlan, vU16 read1.1.Type_, v7]) rfl rfl rfl rfl tyF38 (i := 2) rfl rfl rfl) ?_
              rintro _ rfl
              refine Tops_yes rfl rfl (congrArg (fun b => some (Value.bool b)) hg16) (OpT_loadCA (vs := [vU8 read2.1.Dst.a0, vU8 read2.1.Dst.a1, vU8 read2.1.Dst.a2, vU8 read2.1.Dst.a3, vU8 read2.1.Dst.a4, vU8 read2.1.Dst.a5, vU8 read2.1.Src.a0, vU8 read2.1.Src.a1, vU8 read2.1.Src.a2, vU8 read2.1.Src.a3, vU8 read2.1.Src.a4, vU8 read2.1.Src.a5, vI read2.1.Vlan, vU16 read2.1.Type_, v8]) rfl rfl rfl rfl tyF38 (i := 3) rfl rfl rfl) ?_
              rintro _ rfl
              obtain ⟨same3, hx13, h⟩ := ob_e h
              refine Tops_yes rfl rfl (congrArg (fun b => some (Value.bool b)) hg16) (OpT_call (w_frame_Same hx13) [] [1, 2] rfl rfl rfl rfl rfl callee21 rfl rfl rfl rfl) ?_
              rintro _ ⟨_, _, _, ⟨rfl, rfl, rfl⟩, rfl⟩
              refine Tops_yes rfl rfl (congrArg (fun b => some (Value.bool b)) hg16) (OpT_not rfl rfl rfl rfl) ?_
              rintro _ rfl
              refine Tops_step rfl (OpT_pickT rfl rfl rfl (congrArg (fun b => some (Value.bool b)) hg16) rfl) ?_
              refine Tops_step rfl (OpT_assign rfl rfl rfl rfl) ?_
              refine Tops_nil ?_
              refine Tk_wkS (fr' := [(4, some (vB (!same3)))]) (own' := []) (shr' := []) [4] [] [] rfl rfl rfl rfl ?_
              obtain ⟨hg17, h⟩ := chk_e h
              exact Tk_retV rfl rfl (resA (vs := [.bool true]) rfl ⟨(congrArg (fun b => some (Value.bool b)) hg17), trivial⟩) [] [] rfl rfl rfl ⟨rfl, rfl, rfl⟩
end Go.Proofs.Ytgpggnhifkkfbaa
