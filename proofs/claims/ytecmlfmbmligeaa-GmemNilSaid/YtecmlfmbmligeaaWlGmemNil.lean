/- The law GmemNil is walked: it returns what its plain words say. No condition. -/
import Derived.Test.YtecmlfmbmligeaaWa3
namespace Go.Proofs.Ytecmlfmbmligeaa

set_option maxRecDepth 100000 in
set_option maxHeartbeats 4000000 in
theorem w_law02zGmemNil {atp0 : UInt64} {np1 : Int} {b : List UInt8} {vb1 : Value}  (h : law02zGmemNil atp0 np1 b = some true) :
  Ctr Try.prog 7 #[vU64 atp0, vI np1, vb1] [] [Fact.sl u8S vb1 b]
   (fun rv own shr => rv = .bool true ∧ own = [] ∧ shr = []) := by
 unfold law02zGmemNil at h
 refine Ctr.mk (args := [vU64 atp0, vI np1, vb1]) Try.func7 rfl rfl (fun R0 w0 B => ?_)
 refine Tk_seq ?_
 refine Tk_region ?_
 refine Tops_step rfl (OpT_assign rfl rfl rfl rfl) ?_
 refine Tops_nil ?_
 refine Tk_wkS (fr' := [(0, some (vU64 atp0)), (1, some (vI np1)), (2, some (vb1))]) (own' := []) (shr' := [Fact.sl u8S vb1 b]) [0, 1, 2] [] [0] rfl rfl rfl rfl ?_
 refine Tk_seq ?_
 refine Tk_seq ?_
 refine Tk_region ?_
 obtain ⟨lives1, hx1, h⟩ := ob_e h
 refine Tops_exP rfl (OpT_call (w_law02zlives hx1) [] [] rfl rfl rfl rfl rfl callee8 rfl rfl rfl rfl) ?_
 rintro _ ⟨_, _, _, ⟨rfl, rfl, rfl⟩, rfl⟩
 refine Tops_step rfl (OpT_not rfl rfl rfl rfl) ?_
 refine Tops_nil ?_
 refine Tk_wkS (fr' := [(0, some (vU64 atp0)), (1, some (vI np1)), (2, some (vb1)), (13, some (vB (!lives1)))]) (own' := []) (shr' := [Fact.sl u8S vb1 b]) [0, 1, 2, 13] [] [0] rfl rfl rfl rfl ?_
 obtain ⟨hg1, h⟩ := chk_e h
 replace hg1 := not_t hg1
 refine Tk_condF (congrArg (fun b => some (Value.bool b)) hg1) ?_
 refine Tk_skip ?_
 refine Tk_seq ?_
 refine Tk_seq ?_
 refine Tk_region ?_
 refine Tops_step rfl (OpT_move rfl rfl rfl rfl) ?_
 refine Tops_step rfl (OpT_lenS rfl rfl rfl rfl Try.underlying38 (i := 0) rfl) ?_
 refine Tops_step rfl (OpT_bin rfl rfl rfl rfl rfl (bin_gtr_i (a := len b) (b := (2000 : Int)))) ?_
 refine Tops_nil ?_
 refine Tk_wkS (fr' := [(0, some (vU64 atp0)), (1, some (vI np1)), (2, some (vb1)), (16, some (vB (decide ((len b) > (2000 : Int)))))]) (own' := []) (shr' := [Fact.sl u8S vb1 b]) [0, 1, 2, 16] [] [0] rfl rfl rfl rfl ?_
 rcases Bool.eq_false_or_eq_true (decide ((len b) > (2000 : Int))) with hg2 | hg2
 ·replace h := br_t hg2 h
  refine Tk_condT (congrArg (fun b => some (Value.bool b)) hg2) ?_
  refine Tk_seq ?_
  refine Tk_region ?_
  refine Tops_step rfl (OpT_assign rfl rfl rfl rfl) ?_
  refine Tops_nil ?_
  refine Tk_wkS (fr' := [(6, some (vB true))]) (own' := []) (shr' := []) [6] [] [] rfl rfl rfl rfl ?_
  exact Tk_retV rfl rfl (resA (vs := [.bool true]) rfl ⟨rfl, trivial⟩) [] [] rfl rfl rfl ⟨rfl, rfl, rfl⟩
 ·replace h := br_f hg2 h
  refine Tk_condF (congrArg (fun b => some (Value.bool b)) hg2) ?_
  refine Tk_skip ?_
  refine Tk_seq ?_
  refine Tk_region ?_
  refine Tops_step rfl (OpT_assign rfl rfl rfl rfl) ?_
  refine Tops_nil ?_
  refine Tk_wkS (fr' := [(0, some (vU64 atp0)), (1, some (vI np1)), (2, some (vb1)), (7, some (.pointer none))]) (own' := []) (shr' := [Fact.sl u8S vb1 b]) [0, 1, 2, 7] [] [0] rfl rfl rfl rfl ?_
  refine Tk_seq ?_
  refine Tk_region ?_
  refine Tops_step rfl (OpT_move rfl rfl rfl rfl) ?_
  refine Tops_step rfl (OpT_move rfl rfl rfl rfl) ?_
  refine Tops_step rfl (OpT_move rfl rfl rfl rfl) ?_
  obtain ⟨load1, hx2, h⟩ := ob_e h
  refine Tops_exP rfl (OpT_call (w_gmem_Mem_Loadn0 hx2) [] [] rfl rfl rfl rfl rfl callee16 rfl rfl rfl rfl) ?_
  rintro _ ⟨_, _, _, ⟨rfl, rfl, rfl⟩, rfl⟩
  refine Tops_step rfl (OpT_move rfl rfl rfl rfl) ?_
  refine Tops_step rfl (OpT_extract rfl rfl rfl rfl rfl) ?_
  refine Tops_step rfl (OpT_extract rfl rfl rfl rfl rfl) ?_
  refine Tops_step rfl (OpT_assign rfl rfl rfl rfl) ?_
  refine Tops_step rfl (OpT_assign rfl rfl rfl rfl) ?_
  refine Tops_nil ?_
  refine Tk_wkS (fr' := [(0, some (vU64 atp0)), (1, some (vI np1)), (2, some (vb1)), (7, some (.pointer none)), (9, some (vI load1.2))]) (own' := []) (shr' := [Fact.sl u8S vb1 b]) [0, 1, 2, 7, 9] [] [0] rfl rfl rfl rfl ?_
  refine Tk_seq ?_
  refine Tk_region ?_
  refine Tops_step rfl (OpT_move rfl rfl rfl rfl) ?_
  refine Tops_step rfl (OpT_move rfl rfl rfl rfl) ?_
  refine Tops_step rfl (OpT_move rfl rfl rfl rfl) ?_
  obtain ⟨read1, hx3, h⟩ := ob_e h
  refine Tops_exP rfl (OpT_call (w_gmem_Mem_Readn0 hx3) [] [] rfl rfl rfl rfl rfl callee22 rfl rfl rfl rfl) ?_
  rintro _ ⟨_, _, _, ⟨v1, rfl, rfl, rfl⟩, rfl⟩
  refine Tops_step rfl (OpT_move rfl rfl rfl rfl) ?_
  refine Tops_step rfl (OpT_extract rfl rfl rfl rfl rfl) ?_
  refine Tops_step rfl (OpT_extract rfl rfl rfl rfl rfl) ?_
  refine Tops_step rfl (OpT_assign rfl rfl rfl rfl) ?_
  refine Tops_step rfl (OpT_assign rfl rfl rfl rfl) ?_
  refine Tops_nil ?_
  refine Tk_wkS (fr' := [(0, some (vU64 atp0)), (1, some (vI np1)), (2, some (vb1)), (7, some (.pointer none)), (9, some (vI load1.2)), (11, some (vI read1.2))]) (own' := []) (shr' := [Fact.sl u8S vb1 b]) [0, 1, 2, 7, 9, 11] [] [0] rfl rfl rfl rfl ?_
  refine Tk_seq ?_
  refine Tk_region ?_
  refine Tops_step rfl (OpT_move rfl rfl rfl rfl) ?_
  refine Tops_step rfl (OpT_bin rfl rfl rfl rfl rfl (bin_eql_i (a := load1.2) (b := (1 : Int)))) ?_
  refine Tops_step rfl (OpT_move rfl rfl rfl rfl) ?_
  obtain ⟨hg3, h⟩ := chk_e h
  refine Tops_yes rfl rfl (congrArg (fun b => some (Value.bool b)) hg3) (OpT_move rfl rfl rfl rfl) ?_
  rintro _ rfl
  refine Tops_yes rfl rfl (congrArg (fun b => some (Value.bool b)) hg3) (OpT_bin rfl rfl rfl rfl rfl (bin_eql_i (a := read1.2) (b := (1 : Int)))) ?_
  rintro _ rfl
  refine Tops_step rfl (OpT_pickT rfl rfl rfl (congrArg (fun b => some (Value.bool b)) hg3) rfl) ?_
  refine Tops_step rfl (OpT_move rfl rfl rfl rfl) ?_
  obtain ⟨hg4, h⟩ := chk_e h
  refine Tops_yes rfl rfl (congrArg (fun b => some (Value.bool b)) hg4) (OpT_move rfl rfl rfl rfl) ?_
  rintro _ rfl
  refine Tops_yes rfl rfl (congrArg (fun b => some (Value.bool b)) hg4) (OpT_move rfl rfl rfl rfl) ?_
  rintro _ rfl
  refine Tops_yes rfl rfl (congrArg (fun b => some (Value.bool b)) hg4) (OpT_move rfl rfl rfl rfl) ?_
  rintro _ rfl
  refine Tops_yes rfl rfl (congrArg (fun b => some (Value.bool b)) hg4) (OpT_move rfl rfl rfl rfl) ?_
  rintro _ rfl
  obtain ⟨store1, hx4, h⟩ := ob_e h
  refine Tops_yes rfl rfl (congrArg (fun b => some (Value.bool b)) hg4) (OpT_call (w_gmem_Mem_Storen0 hx4) [] [] rfl rfl rfl rfl rfl callee17 rfl rfl rfl rfl) ?_
  rintro _ ⟨_, _, _, ⟨rfl, rfl, rfl⟩, rfl⟩
  refine Tops_yes rfl rfl (congrArg (fun b => some (Value.bool b)) hg4) (OpT_bin rfl rfl rfl rfl rfl (bin_eql_i (a := store1) (b := (1 : Int)))) ?_
  rintro _ rfl
  refine Tops_step rfl (OpT_pickT rfl rfl rfl (congrArg (fun b => some (Value.bool b)) hg4) rfl) ?_
  refine Tops_step rfl (OpT_move rfl rfl rfl rfl) ?_
  obtain ⟨hg5, h⟩ := chk_e h
  refine Tops_yes rfl rfl (congrArg (fun b => some (Value.bool b)) hg5) (OpT_move rfl rfl rfl rfl) ?_
  rintro _ rfl
  refine Tops_yes rfl rfl (congrArg (fun b => some (Value.bool b)) hg5) (OpT_move rfl rfl rfl rfl) ?_
  rintro _ rfl
  refine Tops_yes rfl rfl (congrArg (fun b => some (Value.bool b)) hg5) (OpT_move rfl rfl rfl rfl) ?_
  rintro _ rfl
  obtain ⟨write1, hx5, h⟩ := ob_e h
  refine Tops_yes rfl rfl (congrArg (fun b => some (Value.bool b)) hg5) (OpT_call (w_gmem_Mem_Writen0 hx5) [] [0] rfl rfl rfl rfl rfl callee18 rfl rfl rfl rfl) ?_
  rintro _ ⟨_, _, _, ⟨rfl, rfl, rfl⟩, rfl⟩
  refine Tops_yes rfl rfl (congrArg (fun b => some (Value.bool b)) hg5) (OpT_bin rfl rfl rfl rfl rfl (bin_eql_i (a := write1) (b := (1 : Int)))) ?_
  rintro _ rfl
  refine Tops_step rfl (OpT_pickT rfl rfl rfl (congrArg (fun b => some (Value.bool b)) hg5) rfl) ?_
  refine Tops_step rfl (OpT_move rfl rfl rfl rfl) ?_
  obtain ⟨hg6, h⟩ := chk_e h
  refine Tops_yes rfl rfl (congrArg (fun b => some (Value.bool b)) hg6) (OpT_move rfl rfl rfl rfl) ?_
  rintro _ rfl
  refine Tops_yes rfl rfl (congrArg (fun b => some (Value.bool b)) hg6) (OpT_move rfl rfl rfl rfl) ?_
  rintro _ rfl
  refine Tops_yes rfl rfl (congrArg (fun b => some (Value.bool b)) hg6) (OpT_move rfl rfl rfl rfl) ?_
  rintro _ rfl
  obtain ⟨has1, hx6, h⟩ := ob_e h
  refine Tops_yes rfl rfl (congrArg (fun b => some (Value.bool b)) hg6) (OpT_call (w_gmem_Mem_Hasn0 hx6) [] [] rfl rfl rfl rfl rfl callee20 rfl rfl rfl rfl) ?_
  rintro _ ⟨_, _, _, ⟨rfl, rfl, rfl⟩, rfl⟩
  refine Tops_yes rfl rfl (congrArg (fun b => some (Value.bool b)) hg6) (OpT_not rfl rfl rfl rfl) ?_
  rintro _ rfl
  refine Tops_step rfl (OpT_pickT rfl rfl rfl (congrArg (fun b => some (Value.bool b)) hg6) rfl) ?_
  refine Tops_step rfl (OpT_move rfl rfl rfl rfl) ?_
  obtain ⟨hg7, h⟩ := chk_e h
  refine Tops_yes rfl rfl (congrArg (fun b => some (Value.bool b)) hg7) (OpT_move rfl rfl rfl rfl) ?_
  rintro _ rfl
  obtain ⟨region1, hx7, h⟩ := ob_e h
  refine Tops_yes rfl rfl (congrArg (fun b => some (Value.bool b)) hg7) (OpT_call (w_gmem_Mem_Regionsn0 hx7) [] [] rfl rfl rfl rfl rfl callee31 rfl rfl rfl rfl) ?_
  rintro _ ⟨v2, _, _, ⟨_, rfl, rfl, rfl⟩, rfl⟩
  refine Tops_yes rfl rfl (congrArg (fun b => some (Value.bool b)) hg7) (OpT_lenO rfl rfl rfl rfl Try.underlying22 (i := 0) rfl) ?_
  rintro _ rfl
  refine Tops_yes rfl rfl (congrArg (fun b => some (Value.bool b)) hg7) (OpT_move rfl rfl rfl rfl) ?_
  rintro _ rfl
  obtain ⟨image1, hx8, h⟩ := ob_e h
  refine Tops_yes rfl rfl (congrArg (fun b => some (Value.bool b)) hg7) (OpT_call (w_gmem_Mem_Imagen0 hx8) [] [] rfl rfl rfl rfl rfl callee21 rfl rfl rfl rfl) ?_
  rintro _ ⟨v3, _, _, ⟨_, rfl, rfl, rfl⟩, rfl⟩
  refine Tops_yes rfl rfl (congrArg (fun b => some (Value.bool b)) hg7) (OpT_lenO rfl rfl rfl rfl Try.underlying38 (i := 1) rfl) ?_
  rintro _ rfl
  refine Tops_yes rfl rfl (congrArg (fun b => some (Value.bool b)) hg7) (OpT_bin rfl rfl rfl rfl rfl (bin_add_i (a := len region1) (b := len image1))) ?_
  rintro _ rfl
  refine Tops_yes rfl rfl (congrArg (fun b => some (Value.bool b)) hg7) (OpT_bin rfl rfl rfl rfl rfl (bin_eql_i (a := wi ((len region1) + (len image1))) (b := (0 : Int)))) ?_
  rintro _ rfl
  refine Tops_step rfl (OpT_pickT rfl rfl rfl (congrArg (fun b => some (Value.bool b)) hg7) rfl) ?_
  refine Tops_step rfl (OpT_assign rfl rfl rfl rfl) ?_
  refine Tops_nil ?_
  refine Tk_wkS (fr' := [(6, some (vB ((wi ((len region1) + (len image1))) == (0 : Int))))]) (own' := []) (shr' := []) [6] [] [] rfl rfl rfl rfl ?_
  obtain ⟨hg8, h⟩ := chk_e h
  exact Tk_retV rfl rfl (resA (vs := [.bool true]) rfl ⟨(congrArg (fun b => some (Value.bool b)) hg8), trivial⟩) [] [] rfl rfl rfl ⟨rfl, rfl, rfl⟩
end Go.Proofs.Ytecmlfmbmligeaa
