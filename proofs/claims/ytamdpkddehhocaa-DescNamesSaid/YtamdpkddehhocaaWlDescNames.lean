/- The law DescNames is walked: it returns what its plain words say. No condition. -/
import Derived.Test.YtamdpkddehhocaaWa1
namespace Go.Proofs.Ytamdpkddehhocaa

set_option maxRecDepth 100000 in
set_option maxHeartbeats 4000000 in
theorem w_law_DescNames   (h : law_DescNames = some true) :
    Ctr Try.prog 5 #[] [] []
      (fun rv own shr => rv = .bool true ∧ own = [] ∧ shr = []) := by
  unfold law_DescNames at h
  refine Ctr.mk (args := []) Try.func5 rfl rfl (fun R0 w0 B => ?_)
  refine Tk_seq ?_
  refine Tk_region ?_
  refine Tops_step rfl (OpT_assign rfl rfl rfl rfl) ?_
  refine Tops_nil ?_
  refine Tk_wkS (fr' := []) (own' := []) (shr' := []) [] [] [] rfl rfl rfl rfl ?_
  refine Tk_seq ?_
  refine Tk_region ?_
  obtain ⟨hc1, h⟩ := chk_e h
  refine Tops_ex rfl (OpT_makeD u8S rfl (u := (0 : UInt8)) rfl rfl rfl rfl rfl slF34 rfl hc1) fun v1 => ?_
  refine Tops_retire (i := 0) rfl ?_
  obtain ⟨read1, hx1, h⟩ := ob_e h
  refine Tops_exP rfl (OpT_call (w_desc_Read hx1) [] [0] rfl rfl rfl rfl rfl callee15 rfl rfl rfl rfl) ?_
  rintro _ ⟨_, _, _, ⟨rfl, rfl, rfl⟩, rfl⟩
  refine Tops_step rfl (OpT_move rfl rfl rfl rfl) ?_
  refine Tops_step rfl (OpT_extract rfl rfl rfl rfl rfl) ?_
  refine Tops_step rfl (OpT_extract rfl rfl rfl rfl rfl) ?_
  refine Tops_ex rfl (OpT_alloc rfl rfl rfl tyZ29) fun b1 => ?_
  refine Tops_step rfl (OpT_storeC (cs' := [vU64 read1.1.Addr, vU32 read1.1.Len, vU16 read1.1.Flags, vU16 read1.1.Next]) rfl rfl rfl rfl tyF29 (i := 1) rfl rfl rfl (one_of rfl) rfl) ?_
  refine Tops_step rfl (OpT_assign rfl rfl rfl rfl) ?_
  refine Tops_nil ?_
  refine Tk_wkS (fr' := [(2, some (vI read1.2))]) (own' := []) (shr' := []) [2] [] [] rfl rfl rfl rfl ?_
  refine Tk_seq ?_
  refine Tk_region ?_
  refine Tops_nilfact u8S ?_
  obtain ⟨readpa1, hx2, h⟩ := ob_e h
  refine Tops_exP rfl (OpT_call (w_desc_ReadPacked hx2) [] [0] rfl rfl rfl rfl rfl callee16 rfl rfl rfl rfl) ?_
  rintro _ ⟨_, _, _, ⟨rfl, rfl, rfl⟩, rfl⟩
  refine Tops_step rfl (OpT_move rfl rfl rfl rfl) ?_
  refine Tops_step rfl (OpT_extract rfl rfl rfl rfl rfl) ?_
  refine Tops_step rfl (OpT_extract rfl rfl rfl rfl rfl) ?_
  refine Tops_ex rfl (OpT_alloc rfl rfl rfl tyZ31) fun b2 => ?_
  refine Tops_step rfl (OpT_storeC (cs' := [vU64 readpa1.1.Addr, vU32 readpa1.1.Len, vU16 readpa1.1.ID, vU16 readpa1.1.Flags]) rfl rfl rfl rfl tyF31 (i := 0) rfl rfl rfl (one_of rfl) rfl) ?_
  refine Tops_step rfl (OpT_assign rfl rfl rfl rfl) ?_
  refine Tops_nil ?_
  refine Tk_wkS (fr' := [(2, some (vI read1.2)), (4, some (vI readpa1.2))]) (own' := []) (shr' := []) [2, 4] [] [] rfl rfl rfl rfl ?_
  refine Tk_seq ?_
  refine Tk_region ?_
  obtain ⟨hc2, h⟩ := chk_e h
  refine Tops_ex rfl (OpT_makeD u8S rfl (u := (0 : UInt8)) rfl rfl rfl rfl rfl slF34 rfl hc2) fun v2 => ?_
  refine Tops_retire (i := 0) rfl ?_
  obtain ⟨readta1, hx3, h⟩ := ob_e h
  refine Tops_exP rfl (OpT_call (w_desc_ReadTable hx3) [] [0] rfl rfl rfl rfl rfl callee18 rfl rfl rfl rfl) ?_
  rintro _ ⟨_, _, _, ⟨v3, rfl, rfl, rfl⟩, rfl⟩
  refine Tops_step rfl (OpT_move rfl rfl rfl rfl) ?_
  refine Tops_step rfl (OpT_extract rfl rfl rfl rfl rfl) ?_
  refine Tops_step rfl (OpT_extract rfl rfl rfl rfl rfl) ?_
  refine Tops_step rfl (OpT_assign rfl rfl rfl rfl) ?_
  refine Tops_step rfl (OpT_assign rfl rfl rfl rfl) ?_
  refine Tops_nil ?_
  refine Tk_wkS (fr' := [(2, some (vI read1.2)), (4, some (vI readpa1.2)), (6, some (vI readta1.2))]) (own' := []) (shr' := []) [2, 4, 6] [] [] rfl rfl rfl rfl ?_
  refine Tk_seq ?_
  refine Tk_region ?_
  refine Tops_nilfact u8S ?_
  obtain ⟨readta2, hx4, h⟩ := ob_e h
  refine Tops_exP rfl (OpT_call (w_desc_ReadTable hx4) [] [0] rfl rfl rfl rfl rfl callee18 rfl rfl rfl rfl) ?_
  rintro _ ⟨_, _, _, ⟨v4, rfl, rfl, rfl⟩, rfl⟩
  refine Tops_step rfl (OpT_move rfl rfl rfl rfl) ?_
  refine Tops_step rfl (OpT_extract rfl rfl rfl rfl rfl) ?_
  refine Tops_step rfl (OpT_extract rfl rfl rfl rfl rfl) ?_
  refine Tops_step rfl (OpT_assign rfl rfl rfl rfl) ?_
  refine Tops_step rfl (OpT_assign rfl rfl rfl rfl) ?_
  refine Tops_nil ?_
  refine Tk_wkS (fr' := [(2, some (vI read1.2)), (4, some (vI readpa1.2)), (6, some (vI readta1.2)), (7, some (v4)), (8, some (vI readta2.2))]) (own' := [some (rowS DescS v4 readta2.1)]) (shr' := []) [2, 4, 6, 7, 8] [0] [] rfl rfl rfl rfl ?_
  refine Tk_seq ?_
  refine Tk_region ?_
  obtain ⟨lives1, hx5, h⟩ := ob_e h
  refine Tops_exP rfl (OpT_call (w_law_lives hx5) [] [] rfl rfl rfl rfl rfl callee8 rfl rfl rfl rfl) ?_
  rintro _ ⟨_, _, _, ⟨rfl, rfl, rfl⟩, rfl⟩
  refine Tops_step rfl (OpT_move rfl rfl rfl rfl) ?_
  obtain ⟨hg1, h⟩ := chk_e h
  refine Tops_yes rfl rfl (congrArg (fun b => some (Value.bool b)) hg1) (OpT_move rfl rfl rfl rfl) ?_
  rintro _ rfl
  refine Tops_yes rfl rfl (congrArg (fun b => some (Value.bool b)) hg1) (OpT_bin rfl rfl rfl rfl rfl (bin_eql_i (a := read1.2) (b := (4 : Int)))) ?_
  rintro _ rfl
  refine Tops_step rfl (OpT_pickT rfl rfl rfl (congrArg (fun b => some (Value.bool b)) hg1) rfl) ?_
  refine Tops_step rfl (OpT_move rfl rfl rfl rfl) ?_
  obtain ⟨hg2, h⟩ := chk_e h
  refine Tops_yes rfl rfl (congrArg (fun b => some (Value.bool b)) hg2) (OpT_move rfl rfl rfl rfl) ?_
  rintro _ rfl
  refine Tops_yes rfl rfl (congrArg (fun b => some (Value.bool b)) hg2) (OpT_bin rfl rfl rfl rfl rfl (bin_eql_i (a := readpa1.2) (b := (4 : Int)))) ?_
  rintro _ rfl
  refine Tops_step rfl (OpT_pickT rfl rfl rfl (congrArg (fun b => some (Value.bool b)) hg2) rfl) ?_
  refine Tops_step rfl (OpT_move rfl rfl rfl rfl) ?_
  obtain ⟨hg3, h⟩ := chk_e h
  refine Tops_yes rfl rfl (congrArg (fun b => some (Value.bool b)) hg3) (OpT_move rfl rfl rfl rfl) ?_
  rintro _ rfl
  refine Tops_yes rfl rfl (congrArg (fun b => some (Value.bool b)) hg3) (OpT_bin rfl rfl rfl rfl rfl (bin_eql_i (a := readta1.2) (b := (4 : Int)))) ?_
  rintro _ rfl
  refine Tops_step rfl (OpT_pickT rfl rfl rfl (congrArg (fun b => some (Value.bool b)) hg3) rfl) ?_
  refine Tops_step rfl (OpT_move rfl rfl rfl rfl) ?_
  obtain ⟨hg4, h⟩ := chk_e h
  refine Tops_yes rfl rfl (congrArg (fun b => some (Value.bool b)) hg4) (OpT_move rfl rfl rfl rfl) ?_
  rintro _ rfl
  refine Tops_yes rfl rfl (congrArg (fun b => some (Value.bool b)) hg4) (OpT_bin rfl rfl rfl rfl rfl (bin_eql_i (a := readta2.2) (b := (0 : Int)))) ?_
  rintro _ rfl
  refine Tops_step rfl (OpT_pickT rfl rfl rfl (congrArg (fun b => some (Value.bool b)) hg4) rfl) ?_
  refine Tops_step rfl (OpT_move rfl rfl rfl rfl) ?_
  obtain ⟨hg5, h⟩ := chk_e h
  refine Tops_yes rfl rfl (congrArg (fun b => some (Value.bool b)) hg5) (OpT_move rfl rfl rfl rfl) ?_
  rintro _ rfl
  refine Tops_yes rfl rfl (congrArg (fun b => some (Value.bool b)) hg5) (OpT_lenO rfl rfl rfl rfl Try.underlying32 (i := 0) rfl) ?_
  rintro _ rfl
  refine Tops_yes rfl rfl (congrArg (fun b => some (Value.bool b)) hg5) (OpT_bin rfl rfl rfl rfl rfl (bin_eql_i (a := len readta2.1) (b := (0 : Int)))) ?_
  rintro _ rfl
  refine Tops_step rfl (OpT_pickT rfl rfl rfl (congrArg (fun b => some (Value.bool b)) hg5) rfl) ?_
  refine Tops_step rfl (OpT_move rfl rfl rfl rfl) ?_
  obtain ⟨hg6, h⟩ := chk_e h
  refine Tops_yes rfl rfl (congrArg (fun b => some (Value.bool b)) hg6) (OpT_build (v := .agg #[vU32 (1 : UInt32), vU32 (2 : UInt32)]) rfl rfl rfl rfl (bldV (by kernel_rfl))) ?_
  rintro _ rfl
  obtain ⟨usedwo1, hx6, h⟩ := ob_e h
  refine Tops_yes rfl rfl (congrArg (fun b => some (Value.bool b)) hg6) (OpT_call (w_desc_UsedWord hx6) [] [] rfl rfl rfl rfl rfl callee19 rfl rfl rfl rfl) ?_
  rintro _ ⟨_, _, _, ⟨rfl, rfl, rfl⟩, rfl⟩
  refine Tops_yes rfl rfl (congrArg (fun b => some (Value.bool b)) hg6) (OpT_bin rfl rfl rfl rfl rfl (bin_eql_u64 (a := usedwo1) (b := (8589934593 : UInt64)))) ?_
  rintro _ rfl
  refine Tops_step rfl (OpT_pickT rfl rfl rfl (congrArg (fun b => some (Value.bool b)) hg6) rfl) ?_
  refine Tops_step rfl (OpT_move rfl rfl rfl rfl) ?_
  obtain ⟨hg7, h⟩ := chk_e h
  refine Tops_yes rfl rfl (congrArg (fun b => some (Value.bool b)) hg7) (OpT_build (v := .agg #[vU16 (3 : UInt16), vU16 (2 : UInt16)]) rfl rfl rfl rfl (bldV (by kernel_rfl))) ?_
  rintro _ rfl
  obtain ⟨eventw1, hx7, h⟩ := ob_e h
  refine Tops_yes rfl rfl (congrArg (fun b => some (Value.bool b)) hg7) (OpT_call (w_desc_EventWord hx7) [] [] rfl rfl rfl rfl rfl callee20 rfl rfl rfl rfl) ?_
  rintro _ ⟨_, _, _, ⟨rfl, rfl, rfl⟩, rfl⟩
  refine Tops_yes rfl rfl (congrArg (fun b => some (Value.bool b)) hg7) (OpT_bin rfl rfl rfl rfl rfl (bin_eql_u64 (a := eventw1) (b := (131075 : UInt64)))) ?_
  rintro _ rfl
  refine Tops_step rfl (OpT_pickT rfl rfl rfl (congrArg (fun b => some (Value.bool b)) hg7) rfl) ?_
  refine Tops_step rfl (OpT_move rfl rfl rfl rfl) ?_
  obtain ⟨hg8, h⟩ := chk_e h
  obtain ⟨avail1, hx8, h⟩ := ob_e h
  refine Tops_yes rfl rfl (congrArg (fun b => some (Value.bool b)) hg8) (OpT_call (w_desc_Avail hx8) [] [] rfl rfl rfl rfl rfl callee10 rfl rfl rfl rfl) ?_
  rintro _ ⟨_, _, _, ⟨rfl, rfl, rfl⟩, rfl⟩
  refine Tops_step rfl (OpT_pickT rfl rfl rfl (congrArg (fun b => some (Value.bool b)) hg8) rfl) ?_
  refine Tops_step rfl (OpT_move rfl rfl rfl rfl) ?_
  obtain ⟨hg9, h⟩ := chk_e h
  obtain ⟨avail2, hx9, h⟩ := ob_e h
  refine Tops_yes rfl rfl (congrArg (fun b => some (Value.bool b)) hg9) (OpT_call (w_desc_Avail hx9) [] [] rfl rfl rfl rfl rfl callee10 rfl rfl rfl rfl) ?_
  rintro _ ⟨_, _, _, ⟨rfl, rfl, rfl⟩, rfl⟩
  refine Tops_yes rfl rfl (congrArg (fun b => some (Value.bool b)) hg9) (OpT_not rfl rfl rfl rfl) ?_
  rintro _ rfl
  refine Tops_step rfl (OpT_pickT rfl rfl rfl (congrArg (fun b => some (Value.bool b)) hg9) rfl) ?_
  refine Tops_step rfl (OpT_move rfl rfl rfl rfl) ?_
  obtain ⟨hg10, h⟩ := chk_e h
  obtain ⟨used1, hx10, h⟩ := ob_e h
  refine Tops_yes rfl rfl (congrArg (fun b => some (Value.bool b)) hg10) (OpT_call (w_desc_Used hx10) [] [] rfl rfl rfl rfl rfl callee11 rfl rfl rfl rfl) ?_
  rintro _ ⟨_, _, _, ⟨rfl, rfl, rfl⟩, rfl⟩
  refine Tops_step rfl (OpT_pickT rfl rfl rfl (congrArg (fun b => some (Value.bool b)) hg10) rfl) ?_
  refine Tops_step rfl (OpT_move rfl rfl rfl rfl) ?_
  obtain ⟨hg11, h⟩ := chk_e h
  refine Tops_step rfl (OpT_pickT rfl rfl rfl (congrArg (fun b => some (Value.bool b)) hg11) rfl) ?_
  refine Tops_step rfl (OpT_move rfl rfl rfl rfl) ?_
  refine Tops_step rfl (OpT_pickT rfl rfl rfl rfl rfl) ?_
  refine Tops_step rfl (OpT_assign rfl rfl rfl rfl) ?_
  refine Tops_nil ?_
  refine Tk_wkS (fr' := [(0, some (vB true))]) (own' := []) (shr' := []) [0] [] [] rfl rfl rfl rfl ?_
  exact Tk_retV rfl (resA (vs := [.bool true]) rfl ⟨rfl, trivial⟩) [] [] rfl rfl rfl ⟨rfl, rfl, rfl⟩
end Go.Proofs.Ytamdpkddehhocaa
