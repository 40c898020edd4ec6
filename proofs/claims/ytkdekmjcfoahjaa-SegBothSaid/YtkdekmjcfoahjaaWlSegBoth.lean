/- The law SegBoth is walked: it returns what its plain words say. No condition. -/
import Derived.Test.YtkdekmjcfoahjaaWa4
namespace Go.Proofs.Ytkdekmjcfoahjaa

set_option maxRecDepth 100000 in
set_option maxHeartbeats 4000000 in
theorem w_law05zSegBoth {l : List Seg} {raw : List UInt8} {cut : UInt64} {vl1 : Value} {vraw1 : Value}  (h : law05zSegBoth l raw cut = some true) :
  Ctr Try.prog 5 #[vl1, vraw1, vU64 cut] [] [Fact.sl SegS vl1 l, Fact.sl u8S vraw1 raw]
   (fun rv own shr => rv = .bool true ∧ own = [] ∧ shr = []) := by
 unfold law05zSegBoth at h
 refine Ctr.mk (args := [vl1, vraw1, vU64 cut]) Try.func5 rfl rfl (fun R0 w0 B => ?_)
 refine Tk_seq ?_
 refine Tk_region ?_
 refine Tops_step rfl (OpT_assign rfl rfl rfl rfl) ?_
 refine Tops_nil ?_
 refine Tk_wkS (fr' := [(0, some (vl1)), (1, some (vraw1)), (2, some (vU64 cut))]) (own' := []) (shr' := [Fact.sl SegS vl1 l, Fact.sl u8S vraw1 raw]) [0, 1, 2] [] [0, 1] rfl rfl rfl rfl ?_
 refine Tk_seq ?_
 refine Tk_seq ?_
 refine Tk_region ?_
 obtain ⟨lives1, hx1, h⟩ := ob_e h
 refine Tops_exP rfl (OpT_call (w_law05zlives hx1) [] [] rfl rfl rfl rfl rfl callee8 rfl rfl rfl rfl) ?_
 rintro _ ⟨_, _, _, ⟨rfl, rfl, rfl⟩, rfl⟩
 refine Tops_step rfl (OpT_not rfl rfl rfl rfl) ?_
 refine Tops_nil ?_
 refine Tk_wkS (fr' := [(0, some (vl1)), (1, some (vraw1)), (2, some (vU64 cut)), (25, some (vB (!lives1)))]) (own' := []) (shr' := [Fact.sl SegS vl1 l, Fact.sl u8S vraw1 raw]) [0, 1, 2, 25] [] [0, 1] rfl rfl rfl rfl ?_
 obtain ⟨hg1, h⟩ := chk_e h
 replace hg1 := not_t hg1
 refine Tk_condF (congrArg (fun b => some (Value.bool b)) hg1) ?_
 refine Tk_skip ?_
 refine Tk_seq ?_
 refine Tk_seq ?_
 refine Tk_region ?_
 refine Tops_step rfl (OpT_move rfl rfl rfl rfl) ?_
 refine Tops_step rfl (OpT_lenS rfl rfl rfl rfl Try.underlying22 (i := 0) rfl) ?_
 refine Tops_step rfl (OpT_bin rfl rfl rfl rfl rfl (bin_gtr_i (a := len l) (b := (100 : Int)))) ?_
 refine Tops_step rfl (OpT_move rfl rfl rfl rfl) ?_
 rcases Bool.eq_false_or_eq_true (decide ((len l) > (100 : Int))) with hg2 | hg2
 ·replace h := br_t hg2 h
  refine Tops_no rfl rfl (congrArg (fun b => some (Value.bool b)) hg2) rfl rfl ?_
  refine Tops_no rfl rfl (congrArg (fun b => some (Value.bool b)) hg2) rfl rfl ?_
  refine Tops_no rfl rfl (congrArg (fun b => some (Value.bool b)) hg2) rfl rfl ?_
  refine Tops_step rfl (OpT_pickT rfl rfl rfl (congrArg (fun b => some (Value.bool b)) hg2) rfl) ?_
  refine Tops_step rfl (OpT_move rfl rfl rfl rfl) ?_
  refine Tops_no rfl rfl rfl rfl rfl ?_
  refine Tops_no rfl rfl rfl rfl rfl ?_
  refine Tops_no rfl rfl rfl rfl rfl ?_
  refine Tops_step rfl (OpT_pickT rfl rfl rfl rfl rfl) ?_
  refine Tops_nil ?_
  refine Tk_wkS (fr' := [(0, some (vl1)), (1, some (vraw1)), (2, some (vU64 cut)), (38, some (vB true))]) (own' := []) (shr' := [Fact.sl SegS vl1 l, Fact.sl u8S vraw1 raw]) [0, 1, 2, 38] [] [0, 1] rfl rfl rfl rfl ?_
  refine Tk_condT rfl ?_
  refine Tk_seq ?_
  refine Tk_region ?_
  refine Tops_step rfl (OpT_assign rfl rfl rfl rfl) ?_
  refine Tops_nil ?_
  refine Tk_wkS (fr' := [(6, some (vB true))]) (own' := []) (shr' := []) [6] [] [] rfl rfl rfl rfl ?_
  exact Tk_retV rfl rfl (resA (vs := [.bool true]) rfl ⟨rfl, trivial⟩) [] [] rfl rfl rfl ⟨rfl, rfl, rfl⟩
 ·replace h := br_f hg2 h
  refine Tops_yes rfl rfl (congrArg (fun b => some (Value.bool b)) hg2) (OpT_move rfl rfl rfl rfl) ?_
  rintro _ rfl
  refine Tops_yes rfl rfl (congrArg (fun b => some (Value.bool b)) hg2) (OpT_lenS rfl rfl rfl rfl Try.underlying33 (i := 1) rfl) ?_
  rintro _ rfl
  refine Tops_yes rfl rfl (congrArg (fun b => some (Value.bool b)) hg2) (OpT_bin rfl rfl rfl rfl rfl (bin_gtr_i (a := len raw) (b := (2000 : Int)))) ?_
  rintro _ rfl
  refine Tops_step rfl (OpT_pickF rfl rfl rfl (congrArg (fun b => some (Value.bool b)) hg2) rfl) ?_
  refine Tops_step rfl (OpT_move rfl rfl rfl rfl) ?_
  rcases Bool.eq_false_or_eq_true (decide ((len raw) > (2000 : Int))) with hg3 | hg3
  ·replace h := br_t hg3 h
   refine Tops_no rfl rfl (congrArg (fun b => some (Value.bool b)) hg3) rfl rfl ?_
   refine Tops_no rfl rfl (congrArg (fun b => some (Value.bool b)) hg3) rfl rfl ?_
   refine Tops_no rfl rfl (congrArg (fun b => some (Value.bool b)) hg3) rfl rfl ?_
   refine Tops_step rfl (OpT_pickT rfl rfl rfl (congrArg (fun b => some (Value.bool b)) hg3) rfl) ?_
   refine Tops_nil ?_
   refine Tk_wkS (fr' := [(0, some (vl1)), (1, some (vraw1)), (2, some (vU64 cut)), (38, some (vB true))]) (own' := []) (shr' := [Fact.sl SegS vl1 l, Fact.sl u8S vraw1 raw]) [0, 1, 2, 38] [] [0, 1] rfl rfl rfl rfl ?_
   refine Tk_condT rfl ?_
   refine Tk_seq ?_
   refine Tk_region ?_
   refine Tops_step rfl (OpT_assign rfl rfl rfl rfl) ?_
   refine Tops_nil ?_
   refine Tk_wkS (fr' := [(6, some (vB true))]) (own' := []) (shr' := []) [6] [] [] rfl rfl rfl rfl ?_
   exact Tk_retV rfl rfl (resA (vs := [.bool true]) rfl ⟨rfl, trivial⟩) [] [] rfl rfl rfl ⟨rfl, rfl, rfl⟩
  ·replace h := br_f hg3 h
   refine Tops_yes rfl rfl (congrArg (fun b => some (Value.bool b)) hg3) (OpT_move rfl rfl rfl rfl) ?_
   rintro _ rfl
   obtain ⟨check1, hx2, h⟩ := ob_e h
   refine Tops_yes rfl rfl (congrArg (fun b => some (Value.bool b)) hg3) (OpT_call (w_seg_Check hx2) [] [0] rfl rfl rfl rfl rfl callee9 rfl rfl rfl rfl) ?_
   rintro _ ⟨_, _, _, ⟨rfl, rfl, rfl⟩, rfl⟩
   refine Tops_yes rfl rfl (congrArg (fun b => some (Value.bool b)) hg3) (OpT_bin rfl rfl rfl rfl rfl (bin_neq_i (a := check1) (b := (0 : Int)))) ?_
   rintro _ rfl
   refine Tops_step rfl (OpT_pickF rfl rfl rfl (congrArg (fun b => some (Value.bool b)) hg3) rfl) ?_
   refine Tops_nil ?_
   refine Tk_wkS (fr' := [(0, some (vl1)), (1, some (vraw1)), (2, some (vU64 cut)), (38, some (vB (check1 != (0 : Int))))]) (own' := []) (shr' := [Fact.sl SegS vl1 l, Fact.sl u8S vraw1 raw]) [0, 1, 2, 38] [] [0, 1] rfl rfl rfl rfl ?_
   rcases Bool.eq_false_or_eq_true (check1 != (0 : Int)) with hg4 | hg4
   ·replace h := br_t hg4 h
    refine Tk_condT (congrArg (fun b => some (Value.bool b)) hg4) ?_
    refine Tk_seq ?_
    refine Tk_region ?_
    refine Tops_step rfl (OpT_assign rfl rfl rfl rfl) ?_
    refine Tops_nil ?_
    refine Tk_wkS (fr' := [(6, some (vB true))]) (own' := []) (shr' := []) [6] [] [] rfl rfl rfl rfl ?_
    exact Tk_retV rfl rfl (resA (vs := [.bool true]) rfl ⟨rfl, trivial⟩) [] [] rfl rfl rfl ⟨rfl, rfl, rfl⟩
   ·replace h := br_f hg4 h
    refine Tk_condF (congrArg (fun b => some (Value.bool b)) hg4) ?_
    refine Tk_skip ?_
    refine Tk_seq ?_
    refine Tk_region ?_
    refine Tops_step rfl (OpT_build (v := .agg #[vU64 (0 : UInt64), vU64 (2000 : UInt64)]) rfl rfl rfl rfl (bldV (by kernel_rfl))) ?_
    refine Tops_ex rfl (OpT_buildSlice (S := RegionS) (xs := [(Region.mk (0 : UInt64) (2000 : UInt64))]) (css := [[vU64 (0 : UInt64), vU64 (2000 : UInt64)]]) (cs := [vU64 (0 : UInt64), vU64 (2000 : UInt64)]) (e := 38) rfl rfl rfl rfl (bldF slF39 (by decide) (by kernel_rfl)) rfl rfl rfl rfl (rel_plainD (S := RegionS) (xs := [(Region.mk (0 : UInt64) (2000 : UInt64))]) (css := [[vU64 (0 : UInt64), vU64 (2000 : UInt64)]]) rfl rfl)) fun v1 => ?_
    refine Tops_retire (i := 0) rfl ?_
    obtain ⟨new1, hx3, h⟩ := ob_e h
    refine Tops_exP rfl (OpT_call (w_gmem_New hx3) [] [2] rfl rfl rfl rfl rfl callee14 rfl rfl rfl rfl) ?_
    rintro _ ⟨_, _, _, ⟨v2, rfl, rfl, rfl⟩, rfl⟩
    refine Tops_step rfl (OpT_move rfl rfl rfl rfl) ?_
    refine Tops_step rfl (OpT_extract rfl rfl rfl rfl rfl) ?_
    refine Tops_step rfl (OpT_extract rfl rfl rfl rfl rfl) ?_
    refine Tops_step rfl (OpT_assign rfl rfl rfl rfl) ?_
    refine Tops_step rfl (OpT_assign rfl rfl rfl rfl) ?_
    refine Tops_nil ?_
    refine Tk_wkS (fr' := [(0, some (vl1)), (1, some (vraw1)), (2, some (vU64 cut)), (7, some (v2)), (8, some (vI new1.2))]) (own' := [some (optR 71 RegionS u8S true gmem_Mem.l gmem_Mem.b v2 new1.1)]) (shr' := [Fact.sl SegS vl1 l, Fact.sl u8S vraw1 raw]) [0, 1, 2, 7, 8] [1] [0, 1] rfl rfl rfl rfl ?_
    rcases onO_cases h with ⟨ho1, h⟩ | ⟨mem1, ho1, h⟩
    ·refine Tk_optN (i := 0) rfl ho1 ?_
     rintro rfl
     refine Tk_seq ?_
     refine Tk_seq ?_
     refine Tk_region ?_
     refine Tops_step rfl (OpT_move rfl rfl rfl rfl) ?_
     refine Tops_step rfl (OpT_bin rfl rfl rfl rfl rfl (bin_neq_i (a := new1.2) (b := (0 : Int)))) ?_
     refine Tops_step rfl (OpT_move rfl rfl rfl rfl) ?_
     obtain ⟨hg5, h⟩ := chk_e h
     replace hg5 := not_t hg5
     refine Tops_yes rfl rfl (congrArg (fun b => some (Value.bool b)) hg5) (OpT_move rfl rfl rfl rfl) ?_
     rintro _ rfl
     refine Tops_yes rfl rfl (congrArg (fun b => some (Value.bool b)) hg5) (OpT_move rfl rfl rfl rfl) ?_
     rintro _ rfl
     obtain ⟨own1, hx4, h⟩ := ob_e h
     refine Tops_yes rfl rfl (congrArg (fun b => some (Value.bool b)) hg5) (OpT_call (w_kit_Own hx4) [] [1] rfl rfl rfl rfl rfl callee17 rfl rfl rfl rfl) ?_
     rintro _ ⟨v3, _, _, ⟨_, rfl, rfl, rfl⟩, rfl⟩
     obtain ⟨write1, hx5, h⟩ := ob_e h
     refine Tops_yes rfl rfl (congrArg (fun b => some (Value.bool b)) hg5) (OpT_callB [1] [0, 1] (w_gmem_Mem_Writen0 hx5) [] rfl rfl rfl rfl rfl callee16 rfl rfl rfl rfl rfl rfl (bor_cons (bor_row 1 rfl rfl) bor_nil) (by rintro _ _ _ ⟨rfl, rfl, rfl⟩; exact ⟨rfl, ri_nil⟩)) ?_
     rintro _ ⟨_, _, _, ⟨rfl, rfl, rfl⟩, rfl⟩
     refine Tops_yes rfl rfl (congrArg (fun b => some (Value.bool b)) hg5) (OpT_bin rfl rfl rfl rfl rfl (bin_neq_i (a := write1) (b := (0 : Int)))) ?_
     rintro _ rfl
     refine Tops_step rfl (OpT_pickF rfl rfl rfl (congrArg (fun b => some (Value.bool b)) hg5) rfl) ?_
     refine Tops_nil ?_
     refine Tk_wkS (fr' := [(0, some (vl1)), (1, some (vraw1)), (2, some (vU64 cut)), (7, some (.pointer none)), (53, some (vB (write1 != (0 : Int))))]) (own' := []) (shr' := [Fact.sl SegS vl1 l, Fact.sl u8S vraw1 raw]) [0, 1, 2, 7, 53] [] [0, 1] rfl rfl rfl rfl ?_
     obtain ⟨hg6, h⟩ := chk_e h
     replace hg6 := not_t hg6
     refine Tk_condF (congrArg (fun b => some (Value.bool b)) hg6) ?_
     refine Tk_skip ?_
     refine Tk_seq ?_
     refine Tk_seq ?_
     refine Tk_region ?_
     refine Tops_step rfl (OpT_move rfl rfl rfl rfl) ?_
     refine Tops_step rfl (OpT_move rfl rfl rfl rfl) ?_
     obtain ⟨in1, hx6, h⟩ := ob_e h
     refine Tops_exP rfl (OpT_call (w_seg_Inn0 hx6) [] [0] rfl rfl rfl rfl rfl callee15 rfl rfl rfl rfl) ?_
     rintro _ ⟨_, _, _, ⟨rfl, rfl, rfl⟩, rfl⟩
     refine Tops_step rfl (OpT_bin rfl rfl rfl rfl rfl (bin_neq_i (a := in1) (b := (0 : Int)))) ?_
     refine Tops_nil ?_
     refine Tk_wkS (fr' := [(0, some (vl1)), (1, some (vraw1)), (2, some (vU64 cut)), (7, some (.pointer none)), (57, some (vB (in1 != (0 : Int))))]) (own' := []) (shr' := [Fact.sl SegS vl1 l, Fact.sl u8S vraw1 raw]) [0, 1, 2, 7, 57] [] [0, 1] rfl rfl rfl rfl ?_
     rcases Bool.eq_false_or_eq_true (in1 != (0 : Int)) with hg7 | hg7
     ·replace h := br_t hg7 h
      refine Tk_condT (congrArg (fun b => some (Value.bool b)) hg7) ?_
      refine Tk_seq ?_
      refine Tk_region ?_
      refine Tops_step rfl (OpT_move rfl rfl rfl rfl) ?_
      refine Tops_step rfl (OpT_move rfl rfl rfl rfl) ?_
      obtain ⟨gather1, hx7, h⟩ := ob_e h
      refine Tops_exP rfl (OpT_call (w_seg_Gathern0 hx7) [] [0] rfl rfl rfl rfl rfl callee19 rfl rfl rfl rfl) ?_
      rintro _ ⟨_, _, _, ⟨v4, rfl, rfl, rfl⟩, rfl⟩
      refine Tops_step rfl (OpT_move rfl rfl rfl rfl) ?_
      refine Tops_step rfl (OpT_extract rfl rfl rfl rfl rfl) ?_
      refine Tops_step rfl (OpT_extract rfl rfl rfl rfl rfl) ?_
      refine Tops_step rfl (OpT_assign rfl rfl rfl rfl) ?_
      refine Tops_step rfl (OpT_assign rfl rfl rfl rfl) ?_
      refine Tops_nil ?_
      refine Tk_wkS (fr' := [(0, some (vl1)), (1, some (vraw1)), (7, some (.pointer none)), (9, some (v4)), (10, some (vI gather1.2))]) (own' := [some (rowS u8S v4 gather1.1)]) (shr' := [Fact.sl SegS vl1 l, Fact.sl u8S vraw1 raw]) [0, 1, 7, 9, 10] [0] [0, 1] rfl rfl rfl rfl ?_
      refine Tk_seq ?_
      refine Tk_region ?_
      refine Tops_step rfl (OpT_move rfl rfl rfl rfl) ?_
      refine Tops_step rfl (OpT_move rfl rfl rfl rfl) ?_
      refine Tops_step rfl (OpT_move rfl rfl rfl rfl) ?_
      obtain ⟨scatte1, hx8, h⟩ := ob_e h
      refine Tops_exP rfl (OpT_call (w_seg_Scattern0 hx8) [] [0, 1] rfl rfl rfl rfl rfl callee18 rfl rfl rfl rfl) ?_
      rintro _ ⟨_, _, _, ⟨rfl, rfl, rfl⟩, rfl⟩
      refine Tops_step rfl (OpT_move rfl rfl rfl rfl) ?_
      refine Tops_step rfl (OpT_extract rfl rfl rfl rfl rfl) ?_
      refine Tops_step rfl (OpT_extract rfl rfl rfl rfl rfl) ?_
      refine Tops_step rfl (OpT_assign rfl rfl rfl rfl) ?_
      refine Tops_step rfl (OpT_assign rfl rfl rfl rfl) ?_
      refine Tops_nil ?_
      refine Tk_wkS (fr' := [(9, some (v4)), (10, some (vI gather1.2)), (11, some (vI scatte1.1)), (12, some (vI scatte1.2))]) (own' := [some (rowS u8S v4 gather1.1)]) (shr' := []) [9, 10, 11, 12] [0] [] rfl rfl rfl rfl ?_
      refine Tk_seq ?_
      refine Tk_region ?_
      refine Tops_step rfl (OpT_move rfl rfl rfl rfl) ?_
      refine Tops_step rfl (OpT_bin rfl rfl rfl rfl rfl (bin_eql_i (a := gather1.2) (b := (5 : Int)))) ?_
      refine Tops_step rfl (OpT_move rfl rfl rfl rfl) ?_
      obtain ⟨hg8, h⟩ := chk_e h
      refine Tops_yes rfl rfl (congrArg (fun b => some (Value.bool b)) hg8) (OpT_move rfl rfl rfl rfl) ?_
      rintro _ rfl
      refine Tops_yes rfl rfl (congrArg (fun b => some (Value.bool b)) hg8) (OpT_bin rfl rfl rfl rfl rfl (bin_eql_i (a := scatte1.2) (b := (5 : Int)))) ?_
      rintro _ rfl
      refine Tops_step rfl (OpT_pickT rfl rfl rfl (congrArg (fun b => some (Value.bool b)) hg8) rfl) ?_
      refine Tops_step rfl (OpT_move rfl rfl rfl rfl) ?_
      obtain ⟨hg9, h⟩ := chk_e h
      refine Tops_yes rfl rfl (congrArg (fun b => some (Value.bool b)) hg9) (OpT_move rfl rfl rfl rfl) ?_
      rintro _ rfl
      refine Tops_yes rfl rfl (congrArg (fun b => some (Value.bool b)) hg9) (OpT_lenO rfl rfl rfl rfl Try.underlying33 (i := 0) rfl) ?_
      rintro _ rfl
      refine Tops_yes rfl rfl (congrArg (fun b => some (Value.bool b)) hg9) (OpT_bin rfl rfl rfl rfl rfl (bin_eql_i (a := len gather1.1) (b := (0 : Int)))) ?_
      rintro _ rfl
      refine Tops_step rfl (OpT_pickT rfl rfl rfl (congrArg (fun b => some (Value.bool b)) hg9) rfl) ?_
      refine Tops_step rfl (OpT_move rfl rfl rfl rfl) ?_
      obtain ⟨hg10, h⟩ := chk_e h
      refine Tops_yes rfl rfl (congrArg (fun b => some (Value.bool b)) hg10) (OpT_move rfl rfl rfl rfl) ?_
      rintro _ rfl
      refine Tops_yes rfl rfl (congrArg (fun b => some (Value.bool b)) hg10) (OpT_bin rfl rfl rfl rfl rfl (bin_eql_i (a := scatte1.1) (b := (0 : Int)))) ?_
      rintro _ rfl
      refine Tops_step rfl (OpT_pickT rfl rfl rfl (congrArg (fun b => some (Value.bool b)) hg10) rfl) ?_
      refine Tops_step rfl (OpT_assign rfl rfl rfl rfl) ?_
      refine Tops_nil ?_
      refine Tk_wkS (fr' := [(6, some (vB (scatte1.1 == (0 : Int))))]) (own' := []) (shr' := []) [6] [] [] rfl rfl rfl rfl ?_
      obtain ⟨hg11, h⟩ := chk_e h
      exact Tk_retV rfl rfl (resA (vs := [.bool true]) rfl ⟨(congrArg (fun b => some (Value.bool b)) hg11), trivial⟩) [] [] rfl rfl rfl ⟨rfl, rfl, rfl⟩
     ·replace h := br_f hg7 h
      refine Tk_condF (congrArg (fun b => some (Value.bool b)) hg7) ?_
      refine Tk_skip ?_
      refine Tk_seq ?_
      refine Tk_region ?_
      refine Tops_step rfl (OpT_move rfl rfl rfl rfl) ?_
      obtain ⟨total1, hx9, h⟩ := ob_e h
      refine Tops_exP rfl (OpT_call (w_seg_Total hx9) [] [0] rfl rfl rfl rfl rfl callee10 rfl rfl rfl rfl) ?_
      rintro _ ⟨_, _, _, ⟨rfl, rfl, rfl⟩, rfl⟩
      refine Tops_step rfl (OpT_move rfl rfl rfl rfl) ?_
      refine Tops_step rfl (OpT_extract rfl rfl rfl rfl rfl) ?_
      refine Tops_step rfl (OpT_extract rfl rfl rfl rfl rfl) ?_
      refine Tops_step rfl (OpT_assign rfl rfl rfl rfl) ?_
      refine Tops_step rfl (OpT_assign rfl rfl rfl rfl) ?_
      refine Tops_nil ?_
      refine Tk_wkS (fr' := [(0, some (vl1)), (2, some (vU64 cut)), (7, some (.pointer none)), (13, some (vU64 total1.1)), (14, some (vU64 total1.2))]) (own' := []) (shr' := [Fact.sl SegS vl1 l]) [0, 2, 7, 13, 14] [] [0] rfl rfl rfl rfl ?_
      refine Tk_seq ?_
      refine Tk_region ?_
      refine Tops_step rfl (OpT_move rfl rfl rfl rfl) ?_
      obtain ⟨part1, hx10, h⟩ := ob_e h
      refine Tops_exP rfl (OpT_call (w_seg_Part hx10) [] [0] rfl rfl rfl rfl rfl callee13 rfl rfl rfl rfl) ?_
      rintro _ ⟨v5, _, _, ⟨_, rfl, rfl, rfl⟩, rfl⟩
      refine Tops_step rfl (OpT_assign rfl rfl rfl rfl) ?_
      refine Tops_nil ?_
      refine Tk_wkS (fr' := [(0, some (vl1)), (2, some (vU64 cut)), (7, some (.pointer none)), (13, some (vU64 total1.1)), (14, some (vU64 total1.2)), (15, some (v5))]) (own' := [some (rowS SegS v5 part1)]) (shr' := [Fact.sl SegS vl1 l]) [0, 2, 7, 13, 14, 15] [0] [0] rfl rfl rfl rfl ?_
      refine Tk_seq ?_
      refine Tk_region ?_
      refine Tops_step rfl (OpT_move rfl rfl rfl rfl) ?_
      refine Tops_step rfl (OpT_move rfl rfl rfl rfl) ?_
      refine Tops_step rfl (OpT_bin rfl rfl rfl rfl rfl (bin_add_u64 (a := total1.1) (b := (1 : UInt64)))) ?_
      obtain ⟨hc1, h⟩ := chk_e h
      refine Tops_step rfl (OpT_bin rfl rfl rfl rfl rfl (bin_rem_u64 (a := cut) (b := total1.1 + (1 : UInt64)) (not_t hc1))) ?_
      refine Tops_step rfl (OpT_assign rfl rfl rfl rfl) ?_
      refine Tops_nil ?_
      refine Tk_wkS (fr' := [(0, some (vl1)), (2, some (vU64 (cut % (total1.1 + (1 : UInt64))))), (7, some (.pointer none)), (13, some (vU64 total1.1)), (14, some (vU64 total1.2)), (15, some (v5))]) (own' := [some (rowS SegS v5 part1)]) (shr' := [Fact.sl SegS vl1 l]) [0, 2, 7, 13, 14, 15] [0] [0] rfl rfl rfl rfl ?_
      refine Tk_seq ?_
      refine Tk_region ?_
      refine Tops_step rfl (OpT_move rfl rfl rfl rfl) ?_
      refine Tops_step rfl (OpT_move rfl rfl rfl rfl) ?_
      obtain ⟨gather2, hx11, h⟩ := ob_e h
      refine Tops_exP rfl (OpT_call (w_seg_Gathern0 hx11) [] [0] rfl rfl rfl rfl rfl callee19 rfl rfl rfl rfl) ?_
      rintro _ ⟨_, _, _, ⟨v6, rfl, rfl, rfl⟩, rfl⟩
      refine Tops_step rfl (OpT_move rfl rfl rfl rfl) ?_
      refine Tops_step rfl (OpT_extract rfl rfl rfl rfl rfl) ?_
      refine Tops_step rfl (OpT_extract rfl rfl rfl rfl rfl) ?_
      refine Tops_step rfl (OpT_assign rfl rfl rfl rfl) ?_
      refine Tops_step rfl (OpT_assign rfl rfl rfl rfl) ?_
      refine Tops_nil ?_
      refine Tk_wkS (fr' := [(0, some (vl1)), (2, some (vU64 (cut % (total1.1 + (1 : UInt64))))), (7, some (.pointer none)), (13, some (vU64 total1.1)), (14, some (vU64 total1.2)), (15, some (v5)), (16, some (v6)), (8, some (vI gather2.2))]) (own' := [some (rowS SegS v5 part1), some (rowS u8S v6 gather2.1)]) (shr' := [Fact.sl SegS vl1 l]) [0, 2, 7, 13, 14, 15, 16, 8] [0, 1] [0] rfl rfl rfl rfl ?_
      refine Tk_seq ?_
      refine Tk_region ?_
      refine Tops_step rfl (OpT_move rfl rfl rfl rfl) ?_
      refine Tops_step rfl (OpT_move rfl rfl rfl rfl) ?_
      refine Tops_step rfl (OpT_move rfl rfl rfl rfl) ?_
      obtain ⟨cut1, hx12, h⟩ := ob_e h
      refine Tops_exP rfl (OpT_callB [0] [0, 1, 2] (w_seg_Cut hx12) [] rfl rfl rfl rfl rfl callee11 rfl rfl rfl rfl rfl rfl (bor_cons (bor_row 0 rfl rfl) bor_nil) (by rintro _ _ _ ⟨_, rfl, rfl, rfl⟩; exact ⟨rfl, (ri_cons (ri_row (S := SegS) rfl _ _) ri_nil)⟩)) ?_
      rintro _ ⟨v7, _, _, ⟨_, rfl, rfl, rfl⟩, rfl⟩
      obtain ⟨gather3, hx13, h⟩ := ob_e h
      refine Tops_exP rfl (OpT_callB [2] [0, 1, 2, 3] (w_seg_Gathern0 hx13) [] rfl rfl rfl rfl rfl callee19 rfl rfl rfl rfl rfl rfl (bor_cons (bor_row 2 rfl rfl) bor_nil) (by rintro _ _ _ ⟨_, rfl, rfl, rfl⟩; exact ⟨rfl, (ri_cons (ri_row (S := u8S) rfl _ _) ri_nil)⟩)) ?_
      rintro _ ⟨_, _, _, ⟨v8, rfl, rfl, rfl⟩, rfl⟩
      refine Tops_step rfl (OpT_move rfl rfl rfl rfl) ?_
      refine Tops_step rfl (OpT_extract rfl rfl rfl rfl rfl) ?_
      refine Tops_step rfl (OpT_extract rfl rfl rfl rfl rfl) ?_
      refine Tops_step rfl (OpT_assign rfl rfl rfl rfl) ?_
      refine Tops_step rfl (OpT_assign rfl rfl rfl rfl) ?_
      refine Tops_nil ?_
      refine Tk_wkS (fr' := [(0, some (vl1)), (2, some (vU64 (cut % (total1.1 + (1 : UInt64))))), (7, some (.pointer none)), (13, some (vU64 total1.1)), (14, some (vU64 total1.2)), (15, some (v5)), (16, some (v6)), (8, some (vI gather2.2)), (17, some (v8)), (18, some (vI gather3.2))]) (own' := [some (rowS SegS v5 part1), some (rowS u8S v6 gather2.1), some (rowS u8S v8 gather3.1)]) (shr' := [Fact.sl SegS vl1 l]) [0, 2, 7, 13, 14, 15, 16, 8, 17, 18] [0, 1, 3] [0] rfl rfl rfl rfl ?_
      refine Tk_seq ?_
      refine Tk_region ?_
      refine Tops_step rfl (OpT_move rfl rfl rfl rfl) ?_
      refine Tops_step rfl (OpT_move rfl rfl rfl rfl) ?_
      refine Tops_step rfl (OpT_move rfl rfl rfl rfl) ?_
      refine Tops_step rfl (OpT_move rfl rfl rfl rfl) ?_
      obtain ⟨cut2, hx14, h⟩ := ob_e h
      refine Tops_exP rfl (OpT_callB [0] [0, 1, 2, 3] (w_seg_Cut hx14) [] rfl rfl rfl rfl rfl callee11 rfl rfl rfl rfl rfl rfl (bor_cons (bor_row 0 rfl rfl) bor_nil) (by rintro _ _ _ ⟨_, rfl, rfl, rfl⟩; exact ⟨rfl, (ri_cons (ri_row (S := SegS) rfl _ _) ri_nil)⟩)) ?_
      rintro _ ⟨v9, _, _, ⟨_, rfl, rfl, rfl⟩, rfl⟩
      obtain ⟨gather4, hx15, h⟩ := ob_e h
      refine Tops_exP rfl (OpT_callB [3] [0, 1, 2, 3, 4] (w_seg_Gathern0 hx15) [] rfl rfl rfl rfl rfl callee19 rfl rfl rfl rfl rfl rfl (bor_cons (bor_row 3 rfl rfl) bor_nil) (by rintro _ _ _ ⟨_, rfl, rfl, rfl⟩; exact ⟨rfl, (ri_cons (ri_row (S := u8S) rfl _ _) ri_nil)⟩)) ?_
      rintro _ ⟨_, _, _, ⟨v10, rfl, rfl, rfl⟩, rfl⟩
      refine Tops_step rfl (OpT_move rfl rfl rfl rfl) ?_
      refine Tops_step rfl (OpT_extract rfl rfl rfl rfl rfl) ?_
      refine Tops_step rfl (OpT_extract rfl rfl rfl rfl rfl) ?_
      refine Tops_step rfl (OpT_assign rfl rfl rfl rfl) ?_
      refine Tops_step rfl (OpT_assign rfl rfl rfl rfl) ?_
      refine Tops_nil ?_
      refine Tk_wkS (fr' := [(0, some (vl1)), (7, some (.pointer none)), (13, some (vU64 total1.1)), (14, some (vU64 total1.2)), (16, some (v6)), (8, some (vI gather2.2)), (17, some (v8)), (18, some (vI gather3.2)), (19, some (v10)), (20, some (vI gather4.2))]) (own' := [some (rowS u8S v6 gather2.1), some (rowS u8S v8 gather3.1), some (rowS u8S v10 gather4.1)]) (shr' := [Fact.sl SegS vl1 l]) [0, 7, 13, 14, 16, 8, 17, 18, 19, 20] [1, 2, 4] [0] rfl rfl rfl rfl ?_
      refine Tk_seq ?_
      refine Tk_region ?_
      refine Tops_step rfl (OpT_move rfl rfl rfl rfl) ?_
      obtain ⟨image1, hx16, h⟩ := ob_e h
      refine Tops_exP rfl (OpT_call (w_gmem_Mem_Imagen0 hx16) [] [] rfl rfl rfl rfl rfl callee20 rfl rfl rfl rfl) ?_
      rintro _ ⟨v11, _, _, ⟨_, rfl, rfl, rfl⟩, rfl⟩
      refine Tops_retire (i := 3) rfl ?_
      refine Tops_step rfl (OpT_strS rfl rfl rfl rfl Try.underlying33 Try.underlying5 Try.underlying9 (i := 1) rfl) ?_
      refine Tops_step rfl (OpT_assign rfl rfl rfl rfl) ?_
      refine Tops_nil ?_
      refine Tk_wkS (fr' := [(0, some (vl1)), (7, some (.pointer none)), (13, some (vU64 total1.1)), (14, some (vU64 total1.2)), (16, some (v6)), (8, some (vI gather2.2)), (17, some (v8)), (18, some (vI gather3.2)), (19, some (v10)), (20, some (vI gather4.2)), (21, some (vS image1))]) (own' := [some (rowS u8S v6 gather2.1), some (rowS u8S v8 gather3.1), some (rowS u8S v10 gather4.1)]) (shr' := [Fact.sl SegS vl1 l]) [0, 7, 13, 14, 16, 8, 17, 18, 19, 20, 21] [0, 1, 2] [0] rfl rfl rfl rfl ?_
      refine Tk_seq ?_
      refine Tk_region ?_
      refine Tops_step rfl (OpT_move rfl rfl rfl rfl) ?_
      refine Tops_step rfl (OpT_move rfl rfl rfl rfl) ?_
      refine Tops_nilfact u8S ?_
      obtain ⟨scatte2, hx17, h⟩ := ob_e h
      refine Tops_exP rfl (OpT_call (w_seg_Scattern0 hx17) [] [0, 1] rfl rfl rfl rfl rfl callee18 rfl rfl rfl rfl) ?_
      rintro _ ⟨_, _, _, ⟨rfl, rfl, rfl⟩, rfl⟩
      refine Tops_step rfl (OpT_move rfl rfl rfl rfl) ?_
      refine Tops_step rfl (OpT_extract rfl rfl rfl rfl rfl) ?_
      refine Tops_step rfl (OpT_extract rfl rfl rfl rfl rfl) ?_
      refine Tops_step rfl (OpT_assign rfl rfl rfl rfl) ?_
      refine Tops_step rfl (OpT_assign rfl rfl rfl rfl) ?_
      refine Tops_nil ?_
      refine Tk_wkS (fr' := [(0, some (vl1)), (7, some (.pointer none)), (13, some (vU64 total1.1)), (14, some (vU64 total1.2)), (16, some (v6)), (8, some (vI gather2.2)), (17, some (v8)), (18, some (vI gather3.2)), (19, some (v10)), (20, some (vI gather4.2)), (21, some (vS image1)), (22, some (vI scatte2.1)), (23, some (vI scatte2.2))]) (own' := [some (rowS u8S v6 gather2.1), some (rowS u8S v8 gather3.1), some (rowS u8S v10 gather4.1)]) (shr' := [Fact.sl SegS vl1 l]) [0, 7, 13, 14, 16, 8, 17, 18, 19, 20, 21, 22, 23] [0, 1, 2] [0] rfl rfl rfl rfl ?_
      refine Tk_seq ?_
      refine Tk_seq ?_
      refine Tk_region ?_
      refine Tops_step rfl (OpT_move rfl rfl rfl rfl) ?_
      refine Tops_step rfl (OpT_bin rfl rfl rfl rfl rfl (bin_neq_i (a := gather2.2) (b := (0 : Int)))) ?_
      refine Tops_step rfl (OpT_move rfl rfl rfl rfl) ?_
      obtain ⟨hg12, h⟩ := chk_e h
      replace hg12 := not_t hg12
      refine Tops_yes rfl rfl (congrArg (fun b => some (Value.bool b)) hg12) (OpT_move rfl rfl rfl rfl) ?_
      rintro _ rfl
      refine Tops_yes rfl rfl (congrArg (fun b => some (Value.bool b)) hg12) (OpT_bin rfl rfl rfl rfl rfl (bin_neq_i (a := gather3.2) (b := (0 : Int)))) ?_
      rintro _ rfl
      refine Tops_step rfl (OpT_pickF rfl rfl rfl (congrArg (fun b => some (Value.bool b)) hg12) rfl) ?_
      refine Tops_step rfl (OpT_move rfl rfl rfl rfl) ?_
      obtain ⟨hg13, h⟩ := chk_e h
      replace hg13 := not_t hg13
      refine Tops_yes rfl rfl (congrArg (fun b => some (Value.bool b)) hg13) (OpT_move rfl rfl rfl rfl) ?_
      rintro _ rfl
      refine Tops_yes rfl rfl (congrArg (fun b => some (Value.bool b)) hg13) (OpT_bin rfl rfl rfl rfl rfl (bin_neq_i (a := gather4.2) (b := (0 : Int)))) ?_
      rintro _ rfl
      refine Tops_step rfl (OpT_pickF rfl rfl rfl (congrArg (fun b => some (Value.bool b)) hg13) rfl) ?_
      refine Tops_step rfl (OpT_move rfl rfl rfl rfl) ?_
      obtain ⟨hg14, h⟩ := chk_e h
      replace hg14 := not_t hg14
      refine Tops_yes rfl rfl (congrArg (fun b => some (Value.bool b)) hg14) (OpT_move rfl rfl rfl rfl) ?_
      rintro _ rfl
      refine Tops_yes rfl rfl (congrArg (fun b => some (Value.bool b)) hg14) (OpT_bin rfl rfl rfl rfl rfl (bin_neq_i (a := scatte2.2) (b := (0 : Int)))) ?_
      rintro _ rfl
      refine Tops_step rfl (OpT_pickF rfl rfl rfl (congrArg (fun b => some (Value.bool b)) hg14) rfl) ?_
      refine Tops_step rfl (OpT_move rfl rfl rfl rfl) ?_
      obtain ⟨hg15, h⟩ := chk_e h
      replace hg15 := not_t hg15
      refine Tops_yes rfl rfl (congrArg (fun b => some (Value.bool b)) hg15) (OpT_move rfl rfl rfl rfl) ?_
      rintro _ rfl
      refine Tops_yes rfl rfl (congrArg (fun b => some (Value.bool b)) hg15) (OpT_bin rfl rfl rfl rfl rfl (bin_neq_i (a := scatte2.1) (b := (0 : Int)))) ?_
      rintro _ rfl
      refine Tops_step rfl (OpT_pickF rfl rfl rfl (congrArg (fun b => some (Value.bool b)) hg15) rfl) ?_
      refine Tops_step rfl (OpT_move rfl rfl rfl rfl) ?_
      obtain ⟨hg16, h⟩ := chk_e h
      replace hg16 := not_t hg16
      refine Tops_yes rfl rfl (congrArg (fun b => some (Value.bool b)) hg16) (OpT_move rfl rfl rfl rfl) ?_
      rintro _ rfl
      refine Tops_yes rfl rfl (congrArg (fun b => some (Value.bool b)) hg16) (OpT_lenO rfl rfl rfl rfl Try.underlying33 (i := 0) rfl) ?_
      rintro _ rfl
      refine Tops_yes rfl rfl (congrArg (fun b => some (Value.bool b)) hg16) (OpT_cnv rfl rfl rfl rfl (cnv_i_u64 (n := len gather2.1) Try.underlying3 Try.underlying23)) ?_
      rintro _ rfl
      refine Tops_yes rfl rfl (congrArg (fun b => some (Value.bool b)) hg16) (OpT_move rfl rfl rfl rfl) ?_
      rintro _ rfl
      refine Tops_yes rfl rfl (congrArg (fun b => some (Value.bool b)) hg16) (OpT_bin rfl rfl rfl rfl rfl (bin_neq_u64 (a := u64 (len gather2.1)) (b := total1.1))) ?_
      rintro _ rfl
      refine Tops_step rfl (OpT_pickF rfl rfl rfl (congrArg (fun b => some (Value.bool b)) hg16) rfl) ?_
      refine Tops_step rfl (OpT_move rfl rfl rfl rfl) ?_
      obtain ⟨hg17, h⟩ := chk_e h
      replace hg17 := not_t hg17
      refine Tops_yes rfl rfl (congrArg (fun b => some (Value.bool b)) hg17) (OpT_move rfl rfl rfl rfl) ?_
      rintro _ rfl
      refine Tops_retire (i := 1) rfl ?_
      refine Tops_yes rfl rfl (congrArg (fun b => some (Value.bool b)) hg17) (OpT_strS rfl rfl rfl rfl Try.underlying33 Try.underlying5 Try.underlying9 (i := 1) rfl) ?_
      rintro _ rfl
      refine Tops_yes rfl rfl (congrArg (fun b => some (Value.bool b)) hg17) (OpT_move rfl rfl rfl rfl) ?_
      rintro _ rfl
      refine Tops_retire (i := 2) rfl ?_
      refine Tops_yes rfl rfl (congrArg (fun b => some (Value.bool b)) hg17) (OpT_strS rfl rfl rfl rfl Try.underlying33 Try.underlying5 Try.underlying9 (i := 2) rfl) ?_
      rintro _ rfl
      obtain ⟨hc2, h⟩ := chk_e h
      refine Tops_yes rfl rfl (congrArg (fun b => some (Value.bool b)) hg17) (OpT_bin rfl rfl rfl rfl rfl (bin_add_s (a := gather3.1) (b := gather4.1) hc2)) ?_
      rintro _ rfl
      refine Tops_yes rfl rfl (congrArg (fun b => some (Value.bool b)) hg17) (OpT_move rfl rfl rfl rfl) ?_
      rintro _ rfl
      refine Tops_retire (i := 0) rfl ?_
      refine Tops_yes rfl rfl (congrArg (fun b => some (Value.bool b)) hg17) (OpT_strS rfl rfl rfl rfl Try.underlying33 Try.underlying5 Try.underlying9 (i := 3) rfl) ?_
      rintro _ rfl
      refine Tops_yes rfl rfl (congrArg (fun b => some (Value.bool b)) hg17) (OpT_bin rfl rfl rfl rfl rfl (bin_neq_s (a := gather3.1 ++ gather4.1) (b := gather2.1))) ?_
      rintro _ rfl
      refine Tops_step rfl (OpT_pickF rfl rfl rfl (congrArg (fun b => some (Value.bool b)) hg17) rfl) ?_
      refine Tops_step rfl (OpT_move rfl rfl rfl rfl) ?_
      obtain ⟨hg18, h⟩ := chk_e h
      replace hg18 := not_t hg18
      refine Tops_yes rfl rfl (congrArg (fun b => some (Value.bool b)) hg18) (OpT_move rfl rfl rfl rfl) ?_
      rintro _ rfl
      obtain ⟨image2, hx18, h⟩ := ob_e h
      refine Tops_yes rfl rfl (congrArg (fun b => some (Value.bool b)) hg18) (OpT_call (w_gmem_Mem_Imagen0 hx18) [] [] rfl rfl rfl rfl rfl callee20 rfl rfl rfl rfl) ?_
      rintro _ ⟨v12, _, _, ⟨_, rfl, rfl, rfl⟩, rfl⟩
      refine Tops_retire (i := 3) rfl ?_
      refine Tops_yes rfl rfl (congrArg (fun b => some (Value.bool b)) hg18) (OpT_strS rfl rfl rfl rfl Try.underlying33 Try.underlying5 Try.underlying9 (i := 4) rfl) ?_
      rintro _ rfl
      refine Tops_yes rfl rfl (congrArg (fun b => some (Value.bool b)) hg18) (OpT_move rfl rfl rfl rfl) ?_
      rintro _ rfl
      refine Tops_yes rfl rfl (congrArg (fun b => some (Value.bool b)) hg18) (OpT_bin rfl rfl rfl rfl rfl (bin_neq_s (a := image2) (b := image1))) ?_
      rintro _ rfl
      refine Tops_step rfl (OpT_pickF rfl rfl rfl (congrArg (fun b => some (Value.bool b)) hg18) rfl) ?_
      refine Tops_nil ?_
      refine Tk_wkS (fr' := [(0, some (vl1)), (7, some (.pointer none)), (14, some (vU64 total1.2)), (170, some (vB (image2 != image1)))]) (own' := []) (shr' := [Fact.sl SegS vl1 l]) [0, 7, 14, 170] [] [0] rfl rfl rfl rfl ?_
      obtain ⟨hg19, h⟩ := chk_e h
      replace hg19 := not_t hg19
      refine Tk_condF (congrArg (fun b => some (Value.bool b)) hg19) ?_
      refine Tk_skip ?_
      refine Tk_seq ?_
      refine Tk_region ?_
      refine Tops_step rfl (OpT_move rfl rfl rfl rfl) ?_
      refine Tops_step rfl (OpT_move rfl rfl rfl rfl) ?_
      refine Tops_step rfl (OpT_move rfl rfl rfl rfl) ?_
      refine Tops_step rfl (OpT_cnv rfl rfl rfl rfl (cnv_u64_i (n := total1.2) Try.underlying23 Try.underlying3)) ?_
      refine Tops_step rfl (OpT_bin rfl rfl rfl rfl rfl (bin_add_i (a := i64 total1.2) (b := (5 : Int)))) ?_
      obtain ⟨hc3, h⟩ := chk_e h
      refine Tops_ex rfl (OpT_makeD u8S rfl (u := (0 : UInt8)) rfl rfl rfl rfl rfl slF33 rfl hc3) fun v13 => ?_
      obtain ⟨scatte3, hx19, h⟩ := ob_e h
      refine Tops_exP rfl (OpT_callB [0] [0] (w_seg_Scattern0 hx19) [] rfl rfl rfl rfl rfl callee18 rfl rfl rfl rfl rfl rfl (bor_cons (bor_shr 0 rfl) (bor_cons (bor_row 0 rfl rfl) bor_nil)) (by rintro _ _ _ ⟨rfl, rfl, rfl⟩; exact ⟨rfl, ri_nil⟩)) ?_
      rintro _ ⟨_, _, _, ⟨rfl, rfl, rfl⟩, rfl⟩
      refine Tops_step rfl (OpT_move rfl rfl rfl rfl) ?_
      refine Tops_step rfl (OpT_extract rfl rfl rfl rfl rfl) ?_
      refine Tops_step rfl (OpT_extract rfl rfl rfl rfl rfl) ?_
      refine Tops_step rfl (OpT_assign rfl rfl rfl rfl) ?_
      refine Tops_step rfl (OpT_assign rfl rfl rfl rfl) ?_
      refine Tops_nil ?_
      refine Tk_wkS (fr' := [(14, some (vU64 total1.2)), (22, some (vI scatte3.1)), (23, some (vI scatte3.2))]) (own' := []) (shr' := []) [14, 22, 23] [] [] rfl rfl rfl rfl ?_
      refine Tk_seq ?_
      refine Tk_region ?_
      refine Tops_step rfl (OpT_move rfl rfl rfl rfl) ?_
      refine Tops_step rfl (OpT_bin rfl rfl rfl rfl rfl (bin_eql_i (a := scatte3.2) (b := (0 : Int)))) ?_
      refine Tops_step rfl (OpT_move rfl rfl rfl rfl) ?_
      obtain ⟨hg20, h⟩ := chk_e h
      refine Tops_yes rfl rfl (congrArg (fun b => some (Value.bool b)) hg20) (OpT_move rfl rfl rfl rfl) ?_
      rintro _ rfl
      refine Tops_yes rfl rfl (congrArg (fun b => some (Value.bool b)) hg20) (OpT_cnv rfl rfl rfl rfl (cnv_i_u64 (n := scatte3.1) Try.underlying3 Try.underlying23)) ?_
      rintro _ rfl
      refine Tops_yes rfl rfl (congrArg (fun b => some (Value.bool b)) hg20) (OpT_move rfl rfl rfl rfl) ?_
      rintro _ rfl
      refine Tops_yes rfl rfl (congrArg (fun b => some (Value.bool b)) hg20) (OpT_bin rfl rfl rfl rfl rfl (bin_eql_u64 (a := u64 scatte3.1) (b := total1.2))) ?_
      rintro _ rfl
      refine Tops_step rfl (OpT_pickT rfl rfl rfl (congrArg (fun b => some (Value.bool b)) hg20) rfl) ?_
      refine Tops_step rfl (OpT_assign rfl rfl rfl rfl) ?_
      refine Tops_nil ?_
      refine Tk_wkS (fr' := [(6, some (vB ((u64 scatte3.1) == total1.2)))]) (own' := []) (shr' := []) [6] [] [] rfl rfl rfl rfl ?_
      obtain ⟨hg21, h⟩ := chk_e h
      exact Tk_retV rfl rfl (resA (vs := [.bool true]) rfl ⟨(congrArg (fun b => some (Value.bool b)) hg21), trivial⟩) [] [] rfl rfl rfl ⟨rfl, rfl, rfl⟩
    ·refine Tk_optS (i := 0) rfl ho1 ?_
     rintro b1 v14 v15 vs1 rfl
     refine Tk_seq ?_
     refine Tk_seq ?_
     refine Tk_region ?_
     refine Tops_step rfl (OpT_move rfl rfl rfl rfl) ?_
     refine Tops_step rfl (OpT_bin rfl rfl rfl rfl rfl (bin_neq_i (a := new1.2) (b := (0 : Int)))) ?_
     refine Tops_step rfl (OpT_move rfl rfl rfl rfl) ?_
     obtain ⟨hg22, h⟩ := chk_e h
     replace hg22 := not_t hg22
     refine Tops_yes rfl rfl (congrArg (fun b => some (Value.bool b)) hg22) (OpT_move rfl rfl rfl rfl) ?_
     rintro _ rfl
     refine Tops_yes rfl rfl (congrArg (fun b => some (Value.bool b)) hg22) (OpT_move rfl rfl rfl rfl) ?_
     rintro _ rfl
     obtain ⟨own2, hx20, h⟩ := ob_e h
     refine Tops_yes rfl rfl (congrArg (fun b => some (Value.bool b)) hg22) (OpT_call (w_kit_Own hx20) [] [1] rfl rfl rfl rfl rfl callee17 rfl rfl rfl rfl) ?_
     rintro _ ⟨v16, _, _, ⟨_, rfl, rfl, rfl⟩, rfl⟩
     obtain ⟨write2, hx21, h⟩ := ob_e h
     refine Tops_yes rfl rfl (congrArg (fun b => some (Value.bool b)) hg22) (OpT_callB [2] [3, 4, 2] (w_gmem_Mem_Write hx21) [0, 1] rfl rfl rfl rfl rfl callee16 rfl rfl rfl rfl rfl rfl (bor_cons (bor_shr 2 rfl) (bor_cons (bor_row 2 rfl rfl) bor_nil)) (by rintro _ _ _ ⟨rfl, rfl, rfl⟩; exact ⟨rfl, (ri_cons (ri_cells _ _ _) (ri_cons (ri_rows rfl _ _ _ _ _) ri_nil))⟩)) ?_
     rintro _ ⟨_, _, _, ⟨rfl, rfl, rfl⟩, rfl⟩
     refine Tops_yes rfl rfl (congrArg (fun b => some (Value.bool b)) hg22) (OpT_bin rfl rfl rfl rfl rfl (bin_neq_i (a := write2.1) (b := (0 : Int)))) ?_
     rintro _ rfl
     refine Tops_step rfl (OpT_pickF rfl rfl rfl (congrArg (fun b => some (Value.bool b)) hg22) rfl) ?_
     refine Tops_nil ?_
     refine Tk_wkS (fr' := [(0, some (vl1)), (1, some (vraw1)), (2, some (vU64 cut)), (7, some (.pointer (some ⟨b1, 0, none⟩))), (53, some (vB (write2.1 != (0 : Int))))]) (own' := [some (cellsR b1 71 [v14, v15]), some (rowsX u8S true v15 vs1 write2.2 none)]) (shr' := [Fact.sl SegS vl1 l, Fact.sl u8S vraw1 raw, Fact.sl RegionS v14 mem1.l]) [0, 1, 2, 7, 53] [0, 1] [0, 1, 2] rfl rfl rfl rfl ?_
     obtain ⟨hg23, h⟩ := chk_e h
     replace hg23 := not_t hg23
     refine Tk_condF (congrArg (fun b => some (Value.bool b)) hg23) ?_
     refine Tk_skip ?_
     refine Tk_seq ?_
     refine Tk_seq ?_
     refine Tk_region ?_
     refine Tops_step rfl (OpT_move rfl rfl rfl rfl) ?_
     refine Tops_step rfl (OpT_move rfl rfl rfl rfl) ?_
     obtain ⟨in2, hx22, h⟩ := ob_e h
     refine Tops_exP rfl (OpT_callP [2, 3] (w_seg_In hx22) [0, 1] [2, 0] rfl rfl rfl rfl rfl callee15 rfl rfl rfl rfl rfl) ?_
     rintro _ ⟨_, _, _, ⟨rfl, rfl, rfl⟩, rfl⟩
     refine Tops_step rfl (OpT_bin rfl rfl rfl rfl rfl (bin_neq_i (a := in2) (b := (0 : Int)))) ?_
     refine Tops_nil ?_
     refine Tk_wkS (fr' := [(0, some (vl1)), (1, some (vraw1)), (2, some (vU64 cut)), (7, some (.pointer (some ⟨b1, 0, none⟩))), (57, some (vB (in2 != (0 : Int))))]) (own' := [some (cellsR b1 71 [v14, v15]), some (rowsX u8S true v15 vs1 write2.2 none)]) (shr' := [Fact.sl SegS vl1 l, Fact.sl u8S vraw1 raw, Fact.sl RegionS v14 mem1.l]) [0, 1, 2, 7, 57] [0, 1] [0, 1, 2] rfl rfl rfl rfl ?_
     rcases Bool.eq_false_or_eq_true (in2 != (0 : Int)) with hg24 | hg24
     ·replace h := br_t hg24 h
      refine Tk_condT (congrArg (fun b => some (Value.bool b)) hg24) ?_
      refine Tk_seq ?_
      refine Tk_region ?_
      refine Tops_step rfl (OpT_move rfl rfl rfl rfl) ?_
      refine Tops_step rfl (OpT_move rfl rfl rfl rfl) ?_
      obtain ⟨gather5, hx23, h⟩ := ob_e h
      refine Tops_exP rfl (OpT_callP [2, 3, 4] (w_seg_Gather hx23) [0, 1] [2, 0] rfl rfl rfl rfl rfl callee19 rfl rfl rfl rfl rfl) ?_
      rintro _ ⟨_, _, _, ⟨v17, rfl, rfl, rfl⟩, rfl⟩
      refine Tops_step rfl (OpT_move rfl rfl rfl rfl) ?_
      refine Tops_step rfl (OpT_extract rfl rfl rfl rfl rfl) ?_
      refine Tops_step rfl (OpT_extract rfl rfl rfl rfl rfl) ?_
      refine Tops_step rfl (OpT_assign rfl rfl rfl rfl) ?_
      refine Tops_step rfl (OpT_assign rfl rfl rfl rfl) ?_
      refine Tops_nil ?_
      refine Tk_wkS (fr' := [(0, some (vl1)), (1, some (vraw1)), (7, some (.pointer (some ⟨b1, 0, none⟩))), (9, some (v17)), (10, some (vI gather5.2))]) (own' := [some (cellsR b1 71 [v14, v15]), some (rowsX u8S true v15 vs1 write2.2 none), some (rowS u8S v17 gather5.1)]) (shr' := [Fact.sl SegS vl1 l, Fact.sl u8S vraw1 raw, Fact.sl RegionS v14 mem1.l]) [0, 1, 7, 9, 10] [0, 1, 2] [0, 1, 2] rfl rfl rfl rfl ?_
      refine Tk_seq ?_
      refine Tk_region ?_
      refine Tops_step rfl (OpT_move rfl rfl rfl rfl) ?_
      refine Tops_step rfl (OpT_move rfl rfl rfl rfl) ?_
      refine Tops_step rfl (OpT_move rfl rfl rfl rfl) ?_
      obtain ⟨scatte4, hx24, h⟩ := ob_e h
      refine Tops_exP rfl (OpT_callP [3, 4, 2] (w_seg_Scatter hx24) [0, 1] [2, 0, 1] rfl rfl rfl rfl rfl callee18 rfl rfl rfl rfl rfl) ?_
      rintro _ ⟨_, _, _, ⟨rfl, rfl, rfl⟩, rfl⟩
      refine Tops_step rfl (OpT_move rfl rfl rfl rfl) ?_
      refine Tops_step rfl (OpT_extract rfl rfl rfl rfl rfl) ?_
      refine Tops_step rfl (OpT_extract rfl rfl rfl rfl rfl) ?_
      refine Tops_step rfl (OpT_assign rfl rfl rfl rfl) ?_
      refine Tops_step rfl (OpT_assign rfl rfl rfl rfl) ?_
      refine Tops_nil ?_
      refine Tk_wkS (fr' := [(9, some (v17)), (10, some (vI gather5.2)), (11, some (vI scatte4.1)), (12, some (vI scatte4.2.1))]) (own' := [some (rowS u8S v17 gather5.1)]) (shr' := []) [9, 10, 11, 12] [2] [] rfl rfl rfl rfl ?_
      refine Tk_seq ?_
      refine Tk_region ?_
      refine Tops_step rfl (OpT_move rfl rfl rfl rfl) ?_
      refine Tops_step rfl (OpT_bin rfl rfl rfl rfl rfl (bin_eql_i (a := gather5.2) (b := (5 : Int)))) ?_
      refine Tops_step rfl (OpT_move rfl rfl rfl rfl) ?_
      obtain ⟨hg25, h⟩ := chk_e h
      refine Tops_yes rfl rfl (congrArg (fun b => some (Value.bool b)) hg25) (OpT_move rfl rfl rfl rfl) ?_
      rintro _ rfl
      refine Tops_yes rfl rfl (congrArg (fun b => some (Value.bool b)) hg25) (OpT_bin rfl rfl rfl rfl rfl (bin_eql_i (a := scatte4.2.1) (b := (5 : Int)))) ?_
      rintro _ rfl
      refine Tops_step rfl (OpT_pickT rfl rfl rfl (congrArg (fun b => some (Value.bool b)) hg25) rfl) ?_
      refine Tops_step rfl (OpT_move rfl rfl rfl rfl) ?_
      obtain ⟨hg26, h⟩ := chk_e h
      refine Tops_yes rfl rfl (congrArg (fun b => some (Value.bool b)) hg26) (OpT_move rfl rfl rfl rfl) ?_
      rintro _ rfl
      refine Tops_yes rfl rfl (congrArg (fun b => some (Value.bool b)) hg26) (OpT_lenO rfl rfl rfl rfl Try.underlying33 (i := 0) rfl) ?_
      rintro _ rfl
      refine Tops_yes rfl rfl (congrArg (fun b => some (Value.bool b)) hg26) (OpT_bin rfl rfl rfl rfl rfl (bin_eql_i (a := len gather5.1) (b := (0 : Int)))) ?_
      rintro _ rfl
      refine Tops_step rfl (OpT_pickT rfl rfl rfl (congrArg (fun b => some (Value.bool b)) hg26) rfl) ?_
      refine Tops_step rfl (OpT_move rfl rfl rfl rfl) ?_
      obtain ⟨hg27, h⟩ := chk_e h
      refine Tops_yes rfl rfl (congrArg (fun b => some (Value.bool b)) hg27) (OpT_move rfl rfl rfl rfl) ?_
      rintro _ rfl
      refine Tops_yes rfl rfl (congrArg (fun b => some (Value.bool b)) hg27) (OpT_bin rfl rfl rfl rfl rfl (bin_eql_i (a := scatte4.1) (b := (0 : Int)))) ?_
      rintro _ rfl
      refine Tops_step rfl (OpT_pickT rfl rfl rfl (congrArg (fun b => some (Value.bool b)) hg27) rfl) ?_
      refine Tops_step rfl (OpT_assign rfl rfl rfl rfl) ?_
      refine Tops_nil ?_
      refine Tk_wkS (fr' := [(6, some (vB (scatte4.1 == (0 : Int))))]) (own' := []) (shr' := []) [6] [] [] rfl rfl rfl rfl ?_
      obtain ⟨hg28, h⟩ := chk_e h
      exact Tk_retV rfl rfl (resA (vs := [.bool true]) rfl ⟨(congrArg (fun b => some (Value.bool b)) hg28), trivial⟩) [] [] rfl rfl rfl ⟨rfl, rfl, rfl⟩
     ·replace h := br_f hg24 h
      refine Tk_condF (congrArg (fun b => some (Value.bool b)) hg24) ?_
      refine Tk_skip ?_
      refine Tk_seq ?_
      refine Tk_region ?_
      refine Tops_step rfl (OpT_move rfl rfl rfl rfl) ?_
      obtain ⟨total2, hx25, h⟩ := ob_e h
      refine Tops_exP rfl (OpT_call (w_seg_Total hx25) [] [0] rfl rfl rfl rfl rfl callee10 rfl rfl rfl rfl) ?_
      rintro _ ⟨_, _, _, ⟨rfl, rfl, rfl⟩, rfl⟩
      refine Tops_step rfl (OpT_move rfl rfl rfl rfl) ?_
      refine Tops_step rfl (OpT_extract rfl rfl rfl rfl rfl) ?_
      refine Tops_step rfl (OpT_extract rfl rfl rfl rfl rfl) ?_
      refine Tops_step rfl (OpT_assign rfl rfl rfl rfl) ?_
      refine Tops_step rfl (OpT_assign rfl rfl rfl rfl) ?_
      refine Tops_nil ?_
      refine Tk_wkS (fr' := [(0, some (vl1)), (2, some (vU64 cut)), (7, some (.pointer (some ⟨b1, 0, none⟩))), (13, some (vU64 total2.1)), (14, some (vU64 total2.2))]) (own' := [some (cellsR b1 71 [v14, v15]), some (rowsX u8S true v15 vs1 write2.2 none)]) (shr' := [Fact.sl SegS vl1 l, Fact.sl RegionS v14 mem1.l]) [0, 2, 7, 13, 14] [0, 1] [0, 2] rfl rfl rfl rfl ?_
      refine Tk_seq ?_
      refine Tk_region ?_
      refine Tops_step rfl (OpT_move rfl rfl rfl rfl) ?_
      obtain ⟨part2, hx26, h⟩ := ob_e h
      refine Tops_exP rfl (OpT_call (w_seg_Part hx26) [] [0] rfl rfl rfl rfl rfl callee13 rfl rfl rfl rfl) ?_
      rintro _ ⟨v18, _, _, ⟨_, rfl, rfl, rfl⟩, rfl⟩
      refine Tops_step rfl (OpT_assign rfl rfl rfl rfl) ?_
      refine Tops_nil ?_
      refine Tk_wkS (fr' := [(0, some (vl1)), (2, some (vU64 cut)), (7, some (.pointer (some ⟨b1, 0, none⟩))), (13, some (vU64 total2.1)), (14, some (vU64 total2.2)), (15, some (v18))]) (own' := [some (cellsR b1 71 [v14, v15]), some (rowsX u8S true v15 vs1 write2.2 none), some (rowS SegS v18 part2)]) (shr' := [Fact.sl SegS vl1 l, Fact.sl RegionS v14 mem1.l]) [0, 2, 7, 13, 14, 15] [0, 1, 2] [0, 1] rfl rfl rfl rfl ?_
      refine Tk_seq ?_
      refine Tk_region ?_
      refine Tops_step rfl (OpT_move rfl rfl rfl rfl) ?_
      refine Tops_step rfl (OpT_move rfl rfl rfl rfl) ?_
      refine Tops_step rfl (OpT_bin rfl rfl rfl rfl rfl (bin_add_u64 (a := total2.1) (b := (1 : UInt64)))) ?_
      obtain ⟨hc4, h⟩ := chk_e h
      refine Tops_step rfl (OpT_bin rfl rfl rfl rfl rfl (bin_rem_u64 (a := cut) (b := total2.1 + (1 : UInt64)) (not_t hc4))) ?_
      refine Tops_step rfl (OpT_assign rfl rfl rfl rfl) ?_
      refine Tops_nil ?_
      refine Tk_wkS (fr' := [(0, some (vl1)), (2, some (vU64 (cut % (total2.1 + (1 : UInt64))))), (7, some (.pointer (some ⟨b1, 0, none⟩))), (13, some (vU64 total2.1)), (14, some (vU64 total2.2)), (15, some (v18))]) (own' := [some (cellsR b1 71 [v14, v15]), some (rowsX u8S true v15 vs1 write2.2 none), some (rowS SegS v18 part2)]) (shr' := [Fact.sl SegS vl1 l, Fact.sl RegionS v14 mem1.l]) [0, 2, 7, 13, 14, 15] [0, 1, 2] [0, 1] rfl rfl rfl rfl ?_
      refine Tk_seq ?_
      refine Tk_region ?_
      refine Tops_step rfl (OpT_move rfl rfl rfl rfl) ?_
      refine Tops_step rfl (OpT_move rfl rfl rfl rfl) ?_
      obtain ⟨gather6, hx27, h⟩ := ob_e h
      refine Tops_exP rfl (OpT_callP [3, 4, 2, 5] (w_seg_Gather hx27) [0, 1] [1, 0] rfl rfl rfl rfl rfl callee19 rfl rfl rfl rfl rfl) ?_
      rintro _ ⟨_, _, _, ⟨v19, rfl, rfl, rfl⟩, rfl⟩
      refine Tops_step rfl (OpT_move rfl rfl rfl rfl) ?_
      refine Tops_step rfl (OpT_extract rfl rfl rfl rfl rfl) ?_
      refine Tops_step rfl (OpT_extract rfl rfl rfl rfl rfl) ?_
      refine Tops_step rfl (OpT_assign rfl rfl rfl rfl) ?_
      refine Tops_step rfl (OpT_assign rfl rfl rfl rfl) ?_
      refine Tops_nil ?_
      refine Tk_wkS (fr' := [(0, some (vl1)), (2, some (vU64 (cut % (total2.1 + (1 : UInt64))))), (7, some (.pointer (some ⟨b1, 0, none⟩))), (13, some (vU64 total2.1)), (14, some (vU64 total2.2)), (15, some (v18)), (16, some (v19)), (8, some (vI gather6.2))]) (own' := [some (cellsR b1 71 [v14, v15]), some (rowsX u8S true v15 vs1 write2.2 none), some (rowS SegS v18 part2), some (rowS u8S v19 gather6.1)]) (shr' := [Fact.sl SegS vl1 l, Fact.sl RegionS v14 mem1.l]) [0, 2, 7, 13, 14, 15, 16, 8] [0, 1, 2, 3] [0, 1] rfl rfl rfl rfl ?_
      refine Tk_seq ?_
      refine Tk_region ?_
      refine Tops_step rfl (OpT_move rfl rfl rfl rfl) ?_
      refine Tops_step rfl (OpT_move rfl rfl rfl rfl) ?_
      refine Tops_step rfl (OpT_move rfl rfl rfl rfl) ?_
      obtain ⟨cut3, hx28, h⟩ := ob_e h
      refine Tops_exP rfl (OpT_callB [2] [0, 1, 2, 3, 4] (w_seg_Cut hx28) [] rfl rfl rfl rfl rfl callee11 rfl rfl rfl rfl rfl rfl (bor_cons (bor_row 2 rfl rfl) bor_nil) (by rintro _ _ _ ⟨_, rfl, rfl, rfl⟩; exact ⟨rfl, (ri_cons (ri_row (S := SegS) rfl _ _) ri_nil)⟩)) ?_
      rintro _ ⟨v20, _, _, ⟨_, rfl, rfl, rfl⟩, rfl⟩
      obtain ⟨gather7, hx29, h⟩ := ob_e h
      refine Tops_exP rfl (OpT_callB [4] [5, 6, 2, 3, 4, 7] (w_seg_Gather hx29) [0, 1] rfl rfl rfl rfl rfl callee19 rfl rfl rfl rfl rfl rfl (bor_cons (bor_shr 1 rfl) (bor_cons (bor_row 4 rfl rfl) bor_nil)) (by rintro _ _ _ ⟨_, rfl, rfl, rfl⟩; exact ⟨rfl, (ri_cons (ri_cells _ _ _) (ri_cons (ri_rows rfl _ _ _ _ _) (ri_cons (ri_row (S := u8S) rfl _ _) ri_nil)))⟩)) ?_
      rintro _ ⟨_, _, _, ⟨v21, rfl, rfl, rfl⟩, rfl⟩
      refine Tops_step rfl (OpT_move rfl rfl rfl rfl) ?_
      refine Tops_step rfl (OpT_extract rfl rfl rfl rfl rfl) ?_
      refine Tops_step rfl (OpT_extract rfl rfl rfl rfl rfl) ?_
      refine Tops_step rfl (OpT_assign rfl rfl rfl rfl) ?_
      refine Tops_step rfl (OpT_assign rfl rfl rfl rfl) ?_
      refine Tops_nil ?_
      refine Tk_wkS (fr' := [(0, some (vl1)), (2, some (vU64 (cut % (total2.1 + (1 : UInt64))))), (7, some (.pointer (some ⟨b1, 0, none⟩))), (13, some (vU64 total2.1)), (14, some (vU64 total2.2)), (15, some (v18)), (16, some (v19)), (8, some (vI gather6.2)), (17, some (v21)), (18, some (vI gather7.2))]) (own' := [some (cellsR b1 71 [v14, v15]), some (rowsX u8S true v15 vs1 write2.2 none), some (rowS SegS v18 part2), some (rowS u8S v19 gather6.1), some (rowS u8S v21 gather7.1)]) (shr' := [Fact.sl SegS vl1 l, Fact.sl RegionS v14 mem1.l]) [0, 2, 7, 13, 14, 15, 16, 8, 17, 18] [0, 1, 2, 3, 5] [0, 1] rfl rfl rfl rfl ?_
      refine Tk_seq ?_
      refine Tk_region ?_
      refine Tops_step rfl (OpT_move rfl rfl rfl rfl) ?_
      refine Tops_step rfl (OpT_move rfl rfl rfl rfl) ?_
      refine Tops_step rfl (OpT_move rfl rfl rfl rfl) ?_
      refine Tops_step rfl (OpT_move rfl rfl rfl rfl) ?_
      obtain ⟨cut4, hx30, h⟩ := ob_e h
      refine Tops_exP rfl (OpT_callB [2] [0, 1, 2, 3, 4, 5] (w_seg_Cut hx30) [] rfl rfl rfl rfl rfl callee11 rfl rfl rfl rfl rfl rfl (bor_cons (bor_row 2 rfl rfl) bor_nil) (by rintro _ _ _ ⟨_, rfl, rfl, rfl⟩; exact ⟨rfl, (ri_cons (ri_row (S := SegS) rfl _ _) ri_nil)⟩)) ?_
      rintro _ ⟨v22, _, _, ⟨_, rfl, rfl, rfl⟩, rfl⟩
      obtain ⟨gather8, hx31, h⟩ := ob_e h
      refine Tops_exP rfl (OpT_callB [5] [6, 7, 2, 3, 4, 5, 8] (w_seg_Gather hx31) [0, 1] rfl rfl rfl rfl rfl callee19 rfl rfl rfl rfl rfl rfl (bor_cons (bor_shr 1 rfl) (bor_cons (bor_row 5 rfl rfl) bor_nil)) (by rintro _ _ _ ⟨_, rfl, rfl, rfl⟩; exact ⟨rfl, (ri_cons (ri_cells _ _ _) (ri_cons (ri_rows rfl _ _ _ _ _) (ri_cons (ri_row (S := u8S) rfl _ _) ri_nil)))⟩)) ?_
      rintro _ ⟨_, _, _, ⟨v23, rfl, rfl, rfl⟩, rfl⟩
      refine Tops_step rfl (OpT_move rfl rfl rfl rfl) ?_
      refine Tops_step rfl (OpT_extract rfl rfl rfl rfl rfl) ?_
      refine Tops_step rfl (OpT_extract rfl rfl rfl rfl rfl) ?_
      refine Tops_step rfl (OpT_assign rfl rfl rfl rfl) ?_
      refine Tops_step rfl (OpT_assign rfl rfl rfl rfl) ?_
      refine Tops_nil ?_
      refine Tk_wkS (fr' := [(0, some (vl1)), (7, some (.pointer (some ⟨b1, 0, none⟩))), (13, some (vU64 total2.1)), (14, some (vU64 total2.2)), (16, some (v19)), (8, some (vI gather6.2)), (17, some (v21)), (18, some (vI gather7.2)), (19, some (v23)), (20, some (vI gather8.2))]) (own' := [some (cellsR b1 71 [v14, v15]), some (rowsX u8S true v15 vs1 write2.2 none), some (rowS u8S v19 gather6.1), some (rowS u8S v21 gather7.1), some (rowS u8S v23 gather8.1)]) (shr' := [Fact.sl SegS vl1 l, Fact.sl RegionS v14 mem1.l]) [0, 7, 13, 14, 16, 8, 17, 18, 19, 20] [0, 1, 3, 4, 6] [0, 1] rfl rfl rfl rfl ?_
      refine Tk_seq ?_
      refine Tk_region ?_
      refine Tops_step rfl (OpT_move rfl rfl rfl rfl) ?_
      obtain ⟨image3, hx32, h⟩ := ob_e h
      refine Tops_exP rfl (OpT_callP [5, 6, 2, 3, 4, 7] (w_gmem_Mem_Image hx32) [0, 1] [1] rfl rfl rfl rfl rfl callee20 rfl rfl rfl rfl rfl) ?_
      rintro _ ⟨v24, _, _, ⟨_, rfl, rfl, rfl⟩, rfl⟩
      refine Tops_retire (i := 5) rfl ?_
      refine Tops_step rfl (OpT_strS rfl rfl rfl rfl Try.underlying33 Try.underlying5 Try.underlying9 (i := 2) rfl) ?_
      refine Tops_step rfl (OpT_assign rfl rfl rfl rfl) ?_
      refine Tops_nil ?_
      refine Tk_wkS (fr' := [(0, some (vl1)), (7, some (.pointer (some ⟨b1, 0, none⟩))), (13, some (vU64 total2.1)), (14, some (vU64 total2.2)), (16, some (v19)), (8, some (vI gather6.2)), (17, some (v21)), (18, some (vI gather7.2)), (19, some (v23)), (20, some (vI gather8.2)), (21, some (vS image3))]) (own' := [some (cellsR b1 71 [v14, v15]), some (rowsX u8S true v15 vs1 write2.2 none), some (rowS u8S v19 gather6.1), some (rowS u8S v21 gather7.1), some (rowS u8S v23 gather8.1)]) (shr' := [Fact.sl SegS vl1 l, Fact.sl RegionS v14 mem1.l]) [0, 7, 13, 14, 16, 8, 17, 18, 19, 20, 21] [0, 1, 2, 3, 4] [0, 1] rfl rfl rfl rfl ?_
      refine Tk_seq ?_
      refine Tk_region ?_
      refine Tops_step rfl (OpT_move rfl rfl rfl rfl) ?_
      refine Tops_step rfl (OpT_move rfl rfl rfl rfl) ?_
      refine Tops_nilfact u8S ?_
      obtain ⟨scatte5, hx33, h⟩ := ob_e h
      refine Tops_exP rfl (OpT_callP [5, 6, 2, 3, 4] (w_seg_Scatter hx33) [0, 1] [1, 0, 2] rfl rfl rfl rfl rfl callee18 rfl rfl rfl rfl rfl) ?_
      rintro _ ⟨_, _, _, ⟨rfl, rfl, rfl⟩, rfl⟩
      refine Tops_step rfl (OpT_move rfl rfl rfl rfl) ?_
      refine Tops_step rfl (OpT_extract rfl rfl rfl rfl rfl) ?_
      refine Tops_step rfl (OpT_extract rfl rfl rfl rfl rfl) ?_
      refine Tops_step rfl (OpT_assign rfl rfl rfl rfl) ?_
      refine Tops_step rfl (OpT_assign rfl rfl rfl rfl) ?_
      refine Tops_nil ?_
      refine Tk_wkS (fr' := [(0, some (vl1)), (7, some (.pointer (some ⟨b1, 0, none⟩))), (13, some (vU64 total2.1)), (14, some (vU64 total2.2)), (16, some (v19)), (8, some (vI gather6.2)), (17, some (v21)), (18, some (vI gather7.2)), (19, some (v23)), (20, some (vI gather8.2)), (21, some (vS image3)), (22, some (vI scatte5.1)), (23, some (vI scatte5.2.1))]) (own' := [some (cellsR b1 71 [v14, v15]), some (rowsX u8S true v15 vs1 scatte5.2.2 none), some (rowS u8S v19 gather6.1), some (rowS u8S v21 gather7.1), some (rowS u8S v23 gather8.1)]) (shr' := [Fact.sl SegS vl1 l, Fact.sl RegionS v14 mem1.l]) [0, 7, 13, 14, 16, 8, 17, 18, 19, 20, 21, 22, 23] [0, 1, 2, 3, 4] [0, 1] rfl rfl rfl rfl ?_
      refine Tk_seq ?_
      refine Tk_seq ?_
      refine Tk_region ?_
      refine Tops_step rfl (OpT_move rfl rfl rfl rfl) ?_
      refine Tops_step rfl (OpT_bin rfl rfl rfl rfl rfl (bin_neq_i (a := gather6.2) (b := (0 : Int)))) ?_
      refine Tops_step rfl (OpT_move rfl rfl rfl rfl) ?_
      obtain ⟨hg29, h⟩ := chk_e h
      replace hg29 := not_t hg29
      refine Tops_yes rfl rfl (congrArg (fun b => some (Value.bool b)) hg29) (OpT_move rfl rfl rfl rfl) ?_
      rintro _ rfl
      refine Tops_yes rfl rfl (congrArg (fun b => some (Value.bool b)) hg29) (OpT_bin rfl rfl rfl rfl rfl (bin_neq_i (a := gather7.2) (b := (0 : Int)))) ?_
      rintro _ rfl
      refine Tops_step rfl (OpT_pickF rfl rfl rfl (congrArg (fun b => some (Value.bool b)) hg29) rfl) ?_
      refine Tops_step rfl (OpT_move rfl rfl rfl rfl) ?_
      obtain ⟨hg30, h⟩ := chk_e h
      replace hg30 := not_t hg30
      refine Tops_yes rfl rfl (congrArg (fun b => some (Value.bool b)) hg30) (OpT_move rfl rfl rfl rfl) ?_
      rintro _ rfl
      refine Tops_yes rfl rfl (congrArg (fun b => some (Value.bool b)) hg30) (OpT_bin rfl rfl rfl rfl rfl (bin_neq_i (a := gather8.2) (b := (0 : Int)))) ?_
      rintro _ rfl
      refine Tops_step rfl (OpT_pickF rfl rfl rfl (congrArg (fun b => some (Value.bool b)) hg30) rfl) ?_
      refine Tops_step rfl (OpT_move rfl rfl rfl rfl) ?_
      obtain ⟨hg31, h⟩ := chk_e h
      replace hg31 := not_t hg31
      refine Tops_yes rfl rfl (congrArg (fun b => some (Value.bool b)) hg31) (OpT_move rfl rfl rfl rfl) ?_
      rintro _ rfl
      refine Tops_yes rfl rfl (congrArg (fun b => some (Value.bool b)) hg31) (OpT_bin rfl rfl rfl rfl rfl (bin_neq_i (a := scatte5.2.1) (b := (0 : Int)))) ?_
      rintro _ rfl
      refine Tops_step rfl (OpT_pickF rfl rfl rfl (congrArg (fun b => some (Value.bool b)) hg31) rfl) ?_
      refine Tops_step rfl (OpT_move rfl rfl rfl rfl) ?_
      obtain ⟨hg32, h⟩ := chk_e h
      replace hg32 := not_t hg32
      refine Tops_yes rfl rfl (congrArg (fun b => some (Value.bool b)) hg32) (OpT_move rfl rfl rfl rfl) ?_
      rintro _ rfl
      refine Tops_yes rfl rfl (congrArg (fun b => some (Value.bool b)) hg32) (OpT_bin rfl rfl rfl rfl rfl (bin_neq_i (a := scatte5.1) (b := (0 : Int)))) ?_
      rintro _ rfl
      refine Tops_step rfl (OpT_pickF rfl rfl rfl (congrArg (fun b => some (Value.bool b)) hg32) rfl) ?_
      refine Tops_step rfl (OpT_move rfl rfl rfl rfl) ?_
      obtain ⟨hg33, h⟩ := chk_e h
      replace hg33 := not_t hg33
      refine Tops_yes rfl rfl (congrArg (fun b => some (Value.bool b)) hg33) (OpT_move rfl rfl rfl rfl) ?_
      rintro _ rfl
      refine Tops_yes rfl rfl (congrArg (fun b => some (Value.bool b)) hg33) (OpT_lenO rfl rfl rfl rfl Try.underlying33 (i := 2) rfl) ?_
      rintro _ rfl
      refine Tops_yes rfl rfl (congrArg (fun b => some (Value.bool b)) hg33) (OpT_cnv rfl rfl rfl rfl (cnv_i_u64 (n := len gather6.1) Try.underlying3 Try.underlying23)) ?_
      rintro _ rfl
      refine Tops_yes rfl rfl (congrArg (fun b => some (Value.bool b)) hg33) (OpT_move rfl rfl rfl rfl) ?_
      rintro _ rfl
      refine Tops_yes rfl rfl (congrArg (fun b => some (Value.bool b)) hg33) (OpT_bin rfl rfl rfl rfl rfl (bin_neq_u64 (a := u64 (len gather6.1)) (b := total2.1))) ?_
      rintro _ rfl
      refine Tops_step rfl (OpT_pickF rfl rfl rfl (congrArg (fun b => some (Value.bool b)) hg33) rfl) ?_
      refine Tops_step rfl (OpT_move rfl rfl rfl rfl) ?_
      obtain ⟨hg34, h⟩ := chk_e h
      replace hg34 := not_t hg34
      refine Tops_yes rfl rfl (congrArg (fun b => some (Value.bool b)) hg34) (OpT_move rfl rfl rfl rfl) ?_
      rintro _ rfl
      refine Tops_retire (i := 3) rfl ?_
      refine Tops_yes rfl rfl (congrArg (fun b => some (Value.bool b)) hg34) (OpT_strS rfl rfl rfl rfl Try.underlying33 Try.underlying5 Try.underlying9 (i := 2) rfl) ?_
      rintro _ rfl
      refine Tops_yes rfl rfl (congrArg (fun b => some (Value.bool b)) hg34) (OpT_move rfl rfl rfl rfl) ?_
      rintro _ rfl
      refine Tops_retire (i := 4) rfl ?_
      refine Tops_yes rfl rfl (congrArg (fun b => some (Value.bool b)) hg34) (OpT_strS rfl rfl rfl rfl Try.underlying33 Try.underlying5 Try.underlying9 (i := 3) rfl) ?_
      rintro _ rfl
      obtain ⟨hc5, h⟩ := chk_e h
      refine Tops_yes rfl rfl (congrArg (fun b => some (Value.bool b)) hg34) (OpT_bin rfl rfl rfl rfl rfl (bin_add_s (a := gather7.1) (b := gather8.1) hc5)) ?_
      rintro _ rfl
      refine Tops_yes rfl rfl (congrArg (fun b => some (Value.bool b)) hg34) (OpT_move rfl rfl rfl rfl) ?_
      rintro _ rfl
      refine Tops_retire (i := 2) rfl ?_
      refine Tops_yes rfl rfl (congrArg (fun b => some (Value.bool b)) hg34) (OpT_strS rfl rfl rfl rfl Try.underlying33 Try.underlying5 Try.underlying9 (i := 4) rfl) ?_
      rintro _ rfl
      refine Tops_yes rfl rfl (congrArg (fun b => some (Value.bool b)) hg34) (OpT_bin rfl rfl rfl rfl rfl (bin_neq_s (a := gather7.1 ++ gather8.1) (b := gather6.1))) ?_
      rintro _ rfl
      refine Tops_step rfl (OpT_pickF rfl rfl rfl (congrArg (fun b => some (Value.bool b)) hg34) rfl) ?_
      refine Tops_step rfl (OpT_move rfl rfl rfl rfl) ?_
      obtain ⟨hg35, h⟩ := chk_e h
      replace hg35 := not_t hg35
      refine Tops_yes rfl rfl (congrArg (fun b => some (Value.bool b)) hg35) (OpT_move rfl rfl rfl rfl) ?_
      rintro _ rfl
      obtain ⟨image4, hx34, h⟩ := ob_e h
      refine Tops_yes rfl rfl (congrArg (fun b => some (Value.bool b)) hg35) (OpT_callP [5, 6, 2, 3, 4, 7] (w_gmem_Mem_Image hx34) [0, 1] [1] rfl rfl rfl rfl rfl callee20 rfl rfl rfl rfl rfl) ?_
      rintro _ ⟨v25, _, _, ⟨_, rfl, rfl, rfl⟩, rfl⟩
      refine Tops_retire (i := 5) rfl ?_
      refine Tops_yes rfl rfl (congrArg (fun b => some (Value.bool b)) hg35) (OpT_strS rfl rfl rfl rfl Try.underlying33 Try.underlying5 Try.underlying9 (i := 5) rfl) ?_
      rintro _ rfl
      refine Tops_yes rfl rfl (congrArg (fun b => some (Value.bool b)) hg35) (OpT_move rfl rfl rfl rfl) ?_
      rintro _ rfl
      refine Tops_yes rfl rfl (congrArg (fun b => some (Value.bool b)) hg35) (OpT_bin rfl rfl rfl rfl rfl (bin_neq_s (a := image4) (b := image3))) ?_
      rintro _ rfl
      refine Tops_step rfl (OpT_pickF rfl rfl rfl (congrArg (fun b => some (Value.bool b)) hg35) rfl) ?_
      refine Tops_nil ?_
      refine Tk_wkS (fr' := [(0, some (vl1)), (7, some (.pointer (some ⟨b1, 0, none⟩))), (14, some (vU64 total2.2)), (170, some (vB (image4 != image3)))]) (own' := [some (cellsR b1 71 [v14, v15]), some (rowsX u8S true v15 vs1 scatte5.2.2 none)]) (shr' := [Fact.sl SegS vl1 l, Fact.sl RegionS v14 mem1.l]) [0, 7, 14, 170] [0, 1] [0, 1] rfl rfl rfl rfl ?_
      obtain ⟨hg36, h⟩ := chk_e h
      replace hg36 := not_t hg36
      refine Tk_condF (congrArg (fun b => some (Value.bool b)) hg36) ?_
      refine Tk_skip ?_
      refine Tk_seq ?_
      refine Tk_region ?_
      refine Tops_step rfl (OpT_move rfl rfl rfl rfl) ?_
      refine Tops_step rfl (OpT_move rfl rfl rfl rfl) ?_
      refine Tops_step rfl (OpT_move rfl rfl rfl rfl) ?_
      refine Tops_step rfl (OpT_cnv rfl rfl rfl rfl (cnv_u64_i (n := total2.2) Try.underlying23 Try.underlying3)) ?_
      refine Tops_step rfl (OpT_bin rfl rfl rfl rfl rfl (bin_add_i (a := i64 total2.2) (b := (5 : Int)))) ?_
      obtain ⟨hc6, h⟩ := chk_e h
      refine Tops_ex rfl (OpT_makeD u8S rfl (u := (0 : UInt8)) rfl rfl rfl rfl rfl slF33 rfl hc6) fun v26 => ?_
      obtain ⟨scatte6, hx35, h⟩ := ob_e h
      refine Tops_exP rfl (OpT_callB [2] [3, 4, 2] (w_seg_Scatter hx35) [0, 1] rfl rfl rfl rfl rfl callee18 rfl rfl rfl rfl rfl rfl (bor_cons (bor_shr 1 rfl) (bor_cons (bor_shr 0 rfl) (bor_cons (bor_row 2 rfl rfl) bor_nil))) (by rintro _ _ _ ⟨rfl, rfl, rfl⟩; exact ⟨rfl, (ri_cons (ri_cells _ _ _) (ri_cons (ri_rows rfl _ _ _ _ _) ri_nil))⟩)) ?_
      rintro _ ⟨_, _, _, ⟨rfl, rfl, rfl⟩, rfl⟩
      refine Tops_step rfl (OpT_move rfl rfl rfl rfl) ?_
      refine Tops_step rfl (OpT_extract rfl rfl rfl rfl rfl) ?_
      refine Tops_step rfl (OpT_extract rfl rfl rfl rfl rfl) ?_
      refine Tops_step rfl (OpT_assign rfl rfl rfl rfl) ?_
      refine Tops_step rfl (OpT_assign rfl rfl rfl rfl) ?_
      refine Tops_nil ?_
      refine Tk_wkS (fr' := [(14, some (vU64 total2.2)), (22, some (vI scatte6.1)), (23, some (vI scatte6.2.1))]) (own' := []) (shr' := []) [14, 22, 23] [] [] rfl rfl rfl rfl ?_
      refine Tk_seq ?_
      refine Tk_region ?_
      refine Tops_step rfl (OpT_move rfl rfl rfl rfl) ?_
      refine Tops_step rfl (OpT_bin rfl rfl rfl rfl rfl (bin_eql_i (a := scatte6.2.1) (b := (0 : Int)))) ?_
      refine Tops_step rfl (OpT_move rfl rfl rfl rfl) ?_
      obtain ⟨hg37, h⟩ := chk_e h
      refine Tops_yes rfl rfl (congrArg (fun b => some (Value.bool b)) hg37) (OpT_move rfl rfl rfl rfl) ?_
      rintro _ rfl
      refine Tops_yes rfl rfl (congrArg (fun b => some (Value.bool b)) hg37) (OpT_cnv rfl rfl rfl rfl (cnv_i_u64 (n := scatte6.1) Try.underlying3 Try.underlying23)) ?_
      rintro _ rfl
      refine Tops_yes rfl rfl (congrArg (fun b => some (Value.bool b)) hg37) (OpT_move rfl rfl rfl rfl) ?_
      rintro _ rfl
      refine Tops_yes rfl rfl (congrArg (fun b => some (Value.bool b)) hg37) (OpT_bin rfl rfl rfl rfl rfl (bin_eql_u64 (a := u64 scatte6.1) (b := total2.2))) ?_
      rintro _ rfl
      refine Tops_step rfl (OpT_pickT rfl rfl rfl (congrArg (fun b => some (Value.bool b)) hg37) rfl) ?_
      refine Tops_step rfl (OpT_assign rfl rfl rfl rfl) ?_
      refine Tops_nil ?_
      refine Tk_wkS (fr' := [(6, some (vB ((u64 scatte6.1) == total2.2)))]) (own' := []) (shr' := []) [6] [] [] rfl rfl rfl rfl ?_
      obtain ⟨hg38, h⟩ := chk_e h
      exact Tk_retV rfl rfl (resA (vs := [.bool true]) rfl ⟨(congrArg (fun b => some (Value.bool b)) hg38), trivial⟩) [] [] rfl rfl rfl ⟨rfl, rfl, rfl⟩
end Go.Proofs.Ytkdekmjcfoahjaa
