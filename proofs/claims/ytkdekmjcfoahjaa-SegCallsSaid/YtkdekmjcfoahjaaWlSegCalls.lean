/- The law SegCalls is walked: it returns what its plain words say. No condition. -/
import Derived.Test.YtkdekmjcfoahjaaWa4
namespace Go.Proofs.Ytkdekmjcfoahjaa

set_option maxRecDepth 100000 in
set_option maxHeartbeats 4000000 in
theorem w_law05zSegCalls {regions : List Region} {l : List Seg} {op2 : List Seg} {b : List UInt8} {fromp4 : UInt64} {np5 : UInt64} {write : Bool} {vregions1 : Value} {vl1 : Value} {vop21 : Value} {vb1 : Value}  (h : law05zSegCalls regions l op2 b fromp4 np5 write = some true) :
  Ctr Try.prog 7 #[vregions1, vl1, vop21, vb1, vU64 fromp4, vU64 np5, vB write] [] [Fact.sl RegionS vregions1 regions, Fact.sl SegS vl1 l, Fact.sl SegS vop21 op2, Fact.sl u8S vb1 b]
   (fun rv own shr => rv = .bool true ∧ own = [] ∧ shr = []) := by
 unfold law05zSegCalls at h
 refine Ctr.mk (args := [vregions1, vl1, vop21, vb1, vU64 fromp4, vU64 np5, vB write]) Try.func7 rfl rfl (fun R0 w0 B => ?_)
 refine Tk_seq ?_
 refine Tk_region ?_
 refine Tops_step rfl (OpT_assign rfl rfl rfl rfl) ?_
 refine Tops_nil ?_
 refine Tk_wkS (fr' := [(0, some (vregions1)), (1, some (vl1)), (2, some (vop21)), (3, some (vb1)), (4, some (vU64 fromp4)), (5, some (vU64 np5)), (6, some (vB write))]) (own' := []) (shr' := [Fact.sl RegionS vregions1 regions, Fact.sl SegS vl1 l, Fact.sl SegS vop21 op2, Fact.sl u8S vb1 b]) [0, 1, 2, 3, 4, 5, 6] [] [0, 1, 2, 3] rfl rfl rfl rfl ?_
 refine Tk_seq ?_
 refine Tk_seq ?_
 refine Tk_region ?_
 obtain ⟨lives1, hx1, h⟩ := ob_e h
 refine Tops_exP rfl (OpT_call (w_law05zlives hx1) [] [] rfl rfl rfl rfl rfl callee8 rfl rfl rfl rfl) ?_
 rintro _ ⟨_, _, _, ⟨rfl, rfl, rfl⟩, rfl⟩
 refine Tops_step rfl (OpT_not rfl rfl rfl rfl) ?_
 refine Tops_nil ?_
 refine Tk_wkS (fr' := [(0, some (vregions1)), (1, some (vl1)), (2, some (vop21)), (3, some (vb1)), (4, some (vU64 fromp4)), (5, some (vU64 np5)), (6, some (vB write)), (30, some (vB (!lives1)))]) (own' := []) (shr' := [Fact.sl RegionS vregions1 regions, Fact.sl SegS vl1 l, Fact.sl SegS vop21 op2, Fact.sl u8S vb1 b]) [0, 1, 2, 3, 4, 5, 6, 30] [] [0, 1, 2, 3] rfl rfl rfl rfl ?_
 obtain ⟨hg1, h⟩ := chk_e h
 replace hg1 := not_t hg1
 refine Tk_condF (congrArg (fun b => some (Value.bool b)) hg1) ?_
 refine Tk_skip ?_
 refine Tk_seq ?_
 refine Tk_seq ?_
 refine Tk_region ?_
 refine Tops_step rfl (OpT_move rfl rfl rfl rfl) ?_
 obtain ⟨lightr1, hx2, h⟩ := ob_e h
 refine Tops_exP rfl (OpT_call (w_kit_LightRegions hx2) [] [0] rfl rfl rfl rfl rfl callee22 rfl rfl rfl rfl) ?_
 rintro _ ⟨_, _, _, ⟨rfl, rfl, rfl⟩, rfl⟩
 refine Tops_step rfl (OpT_not rfl rfl rfl rfl) ?_
 refine Tops_step rfl (OpT_move rfl rfl rfl rfl) ?_
 rcases Bool.eq_false_or_eq_true ((!lightr1)) with hg2 | hg2
 ·replace h := br_t hg2 h
  refine Tops_no rfl rfl (congrArg (fun b => some (Value.bool b)) hg2) rfl rfl ?_
  refine Tops_no rfl rfl (congrArg (fun b => some (Value.bool b)) hg2) rfl rfl ?_
  refine Tops_no rfl rfl (congrArg (fun b => some (Value.bool b)) hg2) rfl rfl ?_
  refine Tops_step rfl (OpT_pickT rfl rfl rfl (congrArg (fun b => some (Value.bool b)) hg2) rfl) ?_
  refine Tops_step rfl (OpT_move rfl rfl rfl rfl) ?_
  refine Tops_no rfl rfl rfl rfl rfl ?_
  refine Tops_no rfl rfl rfl rfl rfl ?_
  refine Tops_no rfl rfl rfl rfl rfl ?_
  refine Tops_step rfl (OpT_pickT rfl rfl rfl rfl rfl) ?_
  refine Tops_step rfl (OpT_move rfl rfl rfl rfl) ?_
  refine Tops_no rfl rfl rfl rfl rfl ?_
  refine Tops_no rfl rfl rfl rfl rfl ?_
  refine Tops_no rfl rfl rfl rfl rfl ?_
  refine Tops_step rfl (OpT_pickT rfl rfl rfl rfl rfl) ?_
  refine Tops_nil ?_
  refine Tk_wkS (fr' := [(0, some (vregions1)), (1, some (vl1)), (2, some (vop21)), (3, some (vb1)), (4, some (vU64 fromp4)), (5, some (vU64 np5)), (6, some (vB write)), (48, some (vB true))]) (own' := []) (shr' := [Fact.sl RegionS vregions1 regions, Fact.sl SegS vl1 l, Fact.sl SegS vop21 op2, Fact.sl u8S vb1 b]) [0, 1, 2, 3, 4, 5, 6, 48] [] [0, 1, 2, 3] rfl rfl rfl rfl ?_
  refine Tk_condT rfl ?_
  refine Tk_seq ?_
  refine Tk_region ?_
  refine Tops_step rfl (OpT_assign rfl rfl rfl rfl) ?_
  refine Tops_nil ?_
  refine Tk_wkS (fr' := [(14, some (vB true))]) (own' := []) (shr' := []) [14] [] [] rfl rfl rfl rfl ?_
  exact Tk_retV rfl rfl (resA (vs := [.bool true]) rfl ⟨rfl, trivial⟩) [] [] rfl rfl rfl ⟨rfl, rfl, rfl⟩
 ·replace h := br_f hg2 h
  refine Tops_yes rfl rfl (congrArg (fun b => some (Value.bool b)) hg2) (OpT_move rfl rfl rfl rfl) ?_
  rintro _ rfl
  refine Tops_yes rfl rfl (congrArg (fun b => some (Value.bool b)) hg2) (OpT_lenS rfl rfl rfl rfl Try.underlying22 (i := 1) rfl) ?_
  rintro _ rfl
  refine Tops_yes rfl rfl (congrArg (fun b => some (Value.bool b)) hg2) (OpT_bin rfl rfl rfl rfl rfl (bin_gtr_i (a := len l) (b := (100 : Int)))) ?_
  rintro _ rfl
  refine Tops_step rfl (OpT_pickF rfl rfl rfl (congrArg (fun b => some (Value.bool b)) hg2) rfl) ?_
  refine Tops_step rfl (OpT_move rfl rfl rfl rfl) ?_
  rcases Bool.eq_false_or_eq_true (decide ((len l) > (100 : Int))) with hg3 | hg3
  ·replace h := br_t hg3 h
   refine Tops_no rfl rfl (congrArg (fun b => some (Value.bool b)) hg3) rfl rfl ?_
   refine Tops_no rfl rfl (congrArg (fun b => some (Value.bool b)) hg3) rfl rfl ?_
   refine Tops_no rfl rfl (congrArg (fun b => some (Value.bool b)) hg3) rfl rfl ?_
   refine Tops_step rfl (OpT_pickT rfl rfl rfl (congrArg (fun b => some (Value.bool b)) hg3) rfl) ?_
   refine Tops_step rfl (OpT_move rfl rfl rfl rfl) ?_
   refine Tops_no rfl rfl rfl rfl rfl ?_
   refine Tops_no rfl rfl rfl rfl rfl ?_
   refine Tops_no rfl rfl rfl rfl rfl ?_
   refine Tops_step rfl (OpT_pickT rfl rfl rfl rfl rfl) ?_
   refine Tops_nil ?_
   refine Tk_wkS (fr' := [(0, some (vregions1)), (1, some (vl1)), (2, some (vop21)), (3, some (vb1)), (4, some (vU64 fromp4)), (5, some (vU64 np5)), (6, some (vB write)), (48, some (vB true))]) (own' := []) (shr' := [Fact.sl RegionS vregions1 regions, Fact.sl SegS vl1 l, Fact.sl SegS vop21 op2, Fact.sl u8S vb1 b]) [0, 1, 2, 3, 4, 5, 6, 48] [] [0, 1, 2, 3] rfl rfl rfl rfl ?_
   refine Tk_condT rfl ?_
   refine Tk_seq ?_
   refine Tk_region ?_
   refine Tops_step rfl (OpT_assign rfl rfl rfl rfl) ?_
   refine Tops_nil ?_
   refine Tk_wkS (fr' := [(14, some (vB true))]) (own' := []) (shr' := []) [14] [] [] rfl rfl rfl rfl ?_
   exact Tk_retV rfl rfl (resA (vs := [.bool true]) rfl ⟨rfl, trivial⟩) [] [] rfl rfl rfl ⟨rfl, rfl, rfl⟩
  ·replace h := br_f hg3 h
   refine Tops_yes rfl rfl (congrArg (fun b => some (Value.bool b)) hg3) (OpT_move rfl rfl rfl rfl) ?_
   rintro _ rfl
   refine Tops_yes rfl rfl (congrArg (fun b => some (Value.bool b)) hg3) (OpT_lenS rfl rfl rfl rfl Try.underlying22 (i := 2) rfl) ?_
   rintro _ rfl
   refine Tops_yes rfl rfl (congrArg (fun b => some (Value.bool b)) hg3) (OpT_bin rfl rfl rfl rfl rfl (bin_gtr_i (a := len op2) (b := (100 : Int)))) ?_
   rintro _ rfl
   refine Tops_step rfl (OpT_pickF rfl rfl rfl (congrArg (fun b => some (Value.bool b)) hg3) rfl) ?_
   refine Tops_step rfl (OpT_move rfl rfl rfl rfl) ?_
   rcases Bool.eq_false_or_eq_true (decide ((len op2) > (100 : Int))) with hg4 | hg4
   ·replace h := br_t hg4 h
    refine Tops_no rfl rfl (congrArg (fun b => some (Value.bool b)) hg4) rfl rfl ?_
    refine Tops_no rfl rfl (congrArg (fun b => some (Value.bool b)) hg4) rfl rfl ?_
    refine Tops_no rfl rfl (congrArg (fun b => some (Value.bool b)) hg4) rfl rfl ?_
    refine Tops_step rfl (OpT_pickT rfl rfl rfl (congrArg (fun b => some (Value.bool b)) hg4) rfl) ?_
    refine Tops_nil ?_
    refine Tk_wkS (fr' := [(0, some (vregions1)), (1, some (vl1)), (2, some (vop21)), (3, some (vb1)), (4, some (vU64 fromp4)), (5, some (vU64 np5)), (6, some (vB write)), (48, some (vB true))]) (own' := []) (shr' := [Fact.sl RegionS vregions1 regions, Fact.sl SegS vl1 l, Fact.sl SegS vop21 op2, Fact.sl u8S vb1 b]) [0, 1, 2, 3, 4, 5, 6, 48] [] [0, 1, 2, 3] rfl rfl rfl rfl ?_
    refine Tk_condT rfl ?_
    refine Tk_seq ?_
    refine Tk_region ?_
    refine Tops_step rfl (OpT_assign rfl rfl rfl rfl) ?_
    refine Tops_nil ?_
    refine Tk_wkS (fr' := [(14, some (vB true))]) (own' := []) (shr' := []) [14] [] [] rfl rfl rfl rfl ?_
    exact Tk_retV rfl rfl (resA (vs := [.bool true]) rfl ⟨rfl, trivial⟩) [] [] rfl rfl rfl ⟨rfl, rfl, rfl⟩
   ·replace h := br_f hg4 h
    refine Tops_yes rfl rfl (congrArg (fun b => some (Value.bool b)) hg4) (OpT_move rfl rfl rfl rfl) ?_
    rintro _ rfl
    refine Tops_yes rfl rfl (congrArg (fun b => some (Value.bool b)) hg4) (OpT_lenS rfl rfl rfl rfl Try.underlying33 (i := 3) rfl) ?_
    rintro _ rfl
    refine Tops_yes rfl rfl (congrArg (fun b => some (Value.bool b)) hg4) (OpT_bin rfl rfl rfl rfl rfl (bin_gtr_i (a := len b) (b := (20000 : Int)))) ?_
    rintro _ rfl
    refine Tops_step rfl (OpT_pickF rfl rfl rfl (congrArg (fun b => some (Value.bool b)) hg4) rfl) ?_
    refine Tops_nil ?_
    refine Tk_wkS (fr' := [(0, some (vregions1)), (1, some (vl1)), (2, some (vop21)), (3, some (vb1)), (4, some (vU64 fromp4)), (5, some (vU64 np5)), (6, some (vB write)), (48, some (vB (decide ((len b) > (20000 : Int)))))]) (own' := []) (shr' := [Fact.sl RegionS vregions1 regions, Fact.sl SegS vl1 l, Fact.sl SegS vop21 op2, Fact.sl u8S vb1 b]) [0, 1, 2, 3, 4, 5, 6, 48] [] [0, 1, 2, 3] rfl rfl rfl rfl ?_
    rcases Bool.eq_false_or_eq_true (decide ((len b) > (20000 : Int))) with hg5 | hg5
    ·replace h := br_t hg5 h
     refine Tk_condT (congrArg (fun b => some (Value.bool b)) hg5) ?_
     refine Tk_seq ?_
     refine Tk_region ?_
     refine Tops_step rfl (OpT_assign rfl rfl rfl rfl) ?_
     refine Tops_nil ?_
     refine Tk_wkS (fr' := [(14, some (vB true))]) (own' := []) (shr' := []) [14] [] [] rfl rfl rfl rfl ?_
     exact Tk_retV rfl rfl (resA (vs := [.bool true]) rfl ⟨rfl, trivial⟩) [] [] rfl rfl rfl ⟨rfl, rfl, rfl⟩
    ·replace h := br_f hg5 h
     refine Tk_condF (congrArg (fun b => some (Value.bool b)) hg5) ?_
     refine Tk_skip ?_
     refine Tk_seq ?_
     refine Tk_region ?_
     refine Tops_step rfl (OpT_move rfl rfl rfl rfl) ?_
     obtain ⟨region1, hx3, h⟩ := ob_e h
     refine Tops_exP rfl (OpT_call (w_kit_Regions hx3) [] [0] rfl rfl rfl rfl rfl callee23 rfl rfl rfl rfl) ?_
     rintro _ ⟨v1, _, _, ⟨_, rfl, rfl, rfl⟩, rfl⟩
     refine Tops_retire (i := 0) rfl ?_
     obtain ⟨new1, hx4, h⟩ := ob_e h
     refine Tops_exP rfl (OpT_call (w_gmem_New hx4) [] [4] rfl rfl rfl rfl rfl callee14 rfl rfl rfl rfl) ?_
     rintro _ ⟨_, _, _, ⟨v2, rfl, rfl, rfl⟩, rfl⟩
     refine Tops_step rfl (OpT_move rfl rfl rfl rfl) ?_
     refine Tops_step rfl (OpT_extract rfl rfl rfl rfl rfl) ?_
     refine Tops_step rfl (OpT_extract rfl rfl rfl rfl rfl) ?_
     refine Tops_step rfl (OpT_assign rfl rfl rfl rfl) ?_
     refine Tops_step rfl (OpT_assign rfl rfl rfl rfl) ?_
     refine Tops_nil ?_
     refine Tk_wkS (fr' := [(0, some (vregions1)), (1, some (vl1)), (2, some (vop21)), (3, some (vb1)), (4, some (vU64 fromp4)), (5, some (vU64 np5)), (6, some (vB write)), (15, some (v2)), (16, some (vI new1.2))]) (own' := [some (optR 71 RegionS u8S true gmem_Mem.l gmem_Mem.b v2 new1.1)]) (shr' := [Fact.sl RegionS vregions1 regions, Fact.sl SegS vl1 l, Fact.sl SegS vop21 op2, Fact.sl u8S vb1 b]) [0, 1, 2, 3, 4, 5, 6, 15, 16] [1] [0, 1, 2, 3] rfl rfl rfl rfl ?_
     rcases onO_cases h with ⟨ho1, h⟩ | ⟨mem2, ho1, h⟩
     ·refine Tk_optN (i := 0) rfl ho1 ?_
      rintro rfl
      refine Tk_seq ?_
      refine Tk_region ?_
      refine Tops_step rfl (OpT_move rfl rfl rfl rfl) ?_
      obtain ⟨new2, hx5, h⟩ := ob_e h
      refine Tops_exP rfl (OpT_call (w_ref_New02 hx5) [] [0] rfl rfl rfl rfl rfl callee24 rfl rfl rfl rfl) ?_
      rintro _ ⟨_, _, _, ⟨v3, rfl, rfl, rfl⟩, rfl⟩
      refine Tops_step rfl (OpT_move rfl rfl rfl rfl) ?_
      refine Tops_step rfl (OpT_extract rfl rfl rfl rfl rfl) ?_
      refine Tops_step rfl (OpT_extract rfl rfl rfl rfl rfl) ?_
      refine Tops_step rfl (OpT_assign rfl rfl rfl rfl) ?_
      refine Tops_step rfl (OpT_assign rfl rfl rfl rfl) ?_
      refine Tops_nil ?_
      refine Tk_wkS (fr' := [(1, some (vl1)), (2, some (vop21)), (3, some (vb1)), (4, some (vU64 fromp4)), (5, some (vU64 np5)), (6, some (vB write)), (15, some (.pointer none)), (16, some (vI new1.2)), (17, some (v3)), (18, some (vI new2.2))]) (own' := [some (optR 76 RegionS u8S false dumbwaiterref02_Mem.L dumbwaiterref02_Mem.B v3 new2.1)]) (shr' := [Fact.sl SegS vl1 l, Fact.sl SegS vop21 op2, Fact.sl u8S vb1 b]) [1, 2, 3, 4, 5, 6, 15, 16, 17, 18] [1] [1, 2, 3] rfl rfl rfl rfl ?_
      rcases onO_cases h with ⟨ho2, h⟩ | ⟨mem1, ho2, h⟩
      ·refine Tk_optN (i := 0) rfl ho2 ?_
       rintro rfl
       refine Tk_seq ?_
       refine Tk_seq ?_
       refine Tk_region ?_
       refine Tops_step rfl (OpT_move rfl rfl rfl rfl) ?_
       refine Tops_step rfl (OpT_move rfl rfl rfl rfl) ?_
       refine Tops_step rfl (OpT_bin rfl rfl rfl rfl rfl (bin_neq_i (a := new1.2) (b := new2.2))) ?_
       refine Tops_nil ?_
       refine Tk_wkS (fr' := [(1, some (vl1)), (2, some (vop21)), (3, some (vb1)), (4, some (vU64 fromp4)), (5, some (vU64 np5)), (6, some (vB write)), (15, some (.pointer none)), (17, some (.pointer none)), (18, some (vI new2.2)), (62, some (vB (new1.2 != new2.2)))]) (own' := []) (shr' := [Fact.sl SegS vl1 l, Fact.sl SegS vop21 op2, Fact.sl u8S vb1 b]) [1, 2, 3, 4, 5, 6, 15, 17, 18, 62] [] [0, 1, 2] rfl rfl rfl rfl ?_
       obtain ⟨hg6, h⟩ := chk_e h
       replace hg6 := not_t hg6
       refine Tk_condF (congrArg (fun b => some (Value.bool b)) hg6) ?_
       refine Tk_skip ?_
       refine Tk_seq ?_
       refine Tk_region ?_
       refine Tops_step rfl (OpT_move rfl rfl rfl rfl) ?_
       obtain ⟨total1, hx6, h⟩ := ob_e h
       refine Tops_exP rfl (OpT_call (w_seg_Total hx6) [] [0] rfl rfl rfl rfl rfl callee10 rfl rfl rfl rfl) ?_
       rintro _ ⟨_, _, _, ⟨rfl, rfl, rfl⟩, rfl⟩
       refine Tops_step rfl (OpT_move rfl rfl rfl rfl) ?_
       refine Tops_step rfl (OpT_extract rfl rfl rfl rfl rfl) ?_
       refine Tops_step rfl (OpT_extract rfl rfl rfl rfl rfl) ?_
       refine Tops_step rfl (OpT_assign rfl rfl rfl rfl) ?_
       refine Tops_step rfl (OpT_assign rfl rfl rfl rfl) ?_
       refine Tops_nil ?_
       refine Tk_wkS (fr' := [(1, some (vl1)), (2, some (vop21)), (3, some (vb1)), (4, some (vU64 fromp4)), (5, some (vU64 np5)), (6, some (vB write)), (15, some (.pointer none)), (17, some (.pointer none)), (18, some (vI new2.2)), (19, some (vU64 total1.1)), (20, some (vU64 total1.2))]) (own' := []) (shr' := [Fact.sl SegS vl1 l, Fact.sl SegS vop21 op2, Fact.sl u8S vb1 b]) [1, 2, 3, 4, 5, 6, 15, 17, 18, 19, 20] [] [0, 1, 2] rfl rfl rfl rfl ?_
       refine Tk_seq ?_
       refine Tk_region ?_
       refine Tops_step rfl (OpT_move rfl rfl rfl rfl) ?_
       obtain ⟨total2, hx7, h⟩ := ob_e h
       refine Tops_exP rfl (OpT_call (w_ref_Total05 hx7) [] [0] rfl rfl rfl rfl rfl callee25 rfl rfl rfl rfl) ?_
       rintro _ ⟨_, _, _, ⟨rfl, rfl, rfl⟩, rfl⟩
       refine Tops_step rfl (OpT_move rfl rfl rfl rfl) ?_
       refine Tops_step rfl (OpT_extract rfl rfl rfl rfl rfl) ?_
       refine Tops_step rfl (OpT_extract rfl rfl rfl rfl rfl) ?_
       refine Tops_step rfl (OpT_assign rfl rfl rfl rfl) ?_
       refine Tops_step rfl (OpT_assign rfl rfl rfl rfl) ?_
       refine Tops_nil ?_
       refine Tk_wkS (fr' := [(1, some (vl1)), (2, some (vop21)), (3, some (vb1)), (4, some (vU64 fromp4)), (5, some (vU64 np5)), (6, some (vB write)), (15, some (.pointer none)), (17, some (.pointer none)), (18, some (vI new2.2)), (19, some (vU64 total1.1)), (20, some (vU64 total1.2)), (21, some (vU64 total2.1)), (22, some (vU64 total2.2))]) (own' := []) (shr' := [Fact.sl SegS vl1 l, Fact.sl SegS vop21 op2, Fact.sl u8S vb1 b]) [1, 2, 3, 4, 5, 6, 15, 17, 18, 19, 20, 21, 22] [] [0, 1, 2] rfl rfl rfl rfl ?_
       refine Tk_seq ?_
       refine Tk_seq ?_
       refine Tk_region ?_
       refine Tops_step rfl (OpT_move rfl rfl rfl rfl) ?_
       refine Tops_step rfl (OpT_move rfl rfl rfl rfl) ?_
       refine Tops_step rfl (OpT_bin rfl rfl rfl rfl rfl (bin_neq_u64 (a := total1.1) (b := total2.1))) ?_
       refine Tops_step rfl (OpT_move rfl rfl rfl rfl) ?_
       obtain ⟨hg7, h⟩ := chk_e h
       replace hg7 := not_t hg7
       refine Tops_yes rfl rfl (congrArg (fun b => some (Value.bool b)) hg7) (OpT_move rfl rfl rfl rfl) ?_
       rintro _ rfl
       refine Tops_yes rfl rfl (congrArg (fun b => some (Value.bool b)) hg7) (OpT_move rfl rfl rfl rfl) ?_
       rintro _ rfl
       refine Tops_yes rfl rfl (congrArg (fun b => some (Value.bool b)) hg7) (OpT_bin rfl rfl rfl rfl rfl (bin_neq_u64 (a := total1.2) (b := total2.2))) ?_
       rintro _ rfl
       refine Tops_step rfl (OpT_pickF rfl rfl rfl (congrArg (fun b => some (Value.bool b)) hg7) rfl) ?_
       refine Tops_step rfl (OpT_move rfl rfl rfl rfl) ?_
       obtain ⟨hg8, h⟩ := chk_e h
       replace hg8 := not_t hg8
       refine Tops_yes rfl rfl (congrArg (fun b => some (Value.bool b)) hg8) (OpT_move rfl rfl rfl rfl) ?_
       rintro _ rfl
       obtain ⟨check1, hx8, h⟩ := ob_e h
       refine Tops_yes rfl rfl (congrArg (fun b => some (Value.bool b)) hg8) (OpT_call (w_seg_Check hx8) [] [0] rfl rfl rfl rfl rfl callee9 rfl rfl rfl rfl) ?_
       rintro _ ⟨_, _, _, ⟨rfl, rfl, rfl⟩, rfl⟩
       refine Tops_yes rfl rfl (congrArg (fun b => some (Value.bool b)) hg8) (OpT_move rfl rfl rfl rfl) ?_
       rintro _ rfl
       obtain ⟨check2, hx9, h⟩ := ob_e h
       refine Tops_yes rfl rfl (congrArg (fun b => some (Value.bool b)) hg8) (OpT_call (w_ref_Check05 hx9) [] [0] rfl rfl rfl rfl rfl callee26 rfl rfl rfl rfl) ?_
       rintro _ ⟨_, _, _, ⟨rfl, rfl, rfl⟩, rfl⟩
       refine Tops_yes rfl rfl (congrArg (fun b => some (Value.bool b)) hg8) (OpT_bin rfl rfl rfl rfl rfl (bin_neq_i (a := check1) (b := check2))) ?_
       rintro _ rfl
       refine Tops_step rfl (OpT_pickF rfl rfl rfl (congrArg (fun b => some (Value.bool b)) hg8) rfl) ?_
       refine Tops_step rfl (OpT_move rfl rfl rfl rfl) ?_
       obtain ⟨hg9, h⟩ := chk_e h
       replace hg9 := not_t hg9
       refine Tops_yes rfl rfl (congrArg (fun b => some (Value.bool b)) hg9) (OpT_move rfl rfl rfl rfl) ?_
       rintro _ rfl
       refine Tops_yes rfl rfl (congrArg (fun b => some (Value.bool b)) hg9) (OpT_move rfl rfl rfl rfl) ?_
       rintro _ rfl
       obtain ⟨in1, hx10, h⟩ := ob_e h
       refine Tops_yes rfl rfl (congrArg (fun b => some (Value.bool b)) hg9) (OpT_call (w_seg_Inn0 hx10) [] [0] rfl rfl rfl rfl rfl callee15 rfl rfl rfl rfl) ?_
       rintro _ ⟨_, _, _, ⟨rfl, rfl, rfl⟩, rfl⟩
       refine Tops_yes rfl rfl (congrArg (fun b => some (Value.bool b)) hg9) (OpT_move rfl rfl rfl rfl) ?_
       rintro _ rfl
       refine Tops_yes rfl rfl (congrArg (fun b => some (Value.bool b)) hg9) (OpT_move rfl rfl rfl rfl) ?_
       rintro _ rfl
       obtain ⟨in2, hx11, h⟩ := ob_e h
       refine Tops_yes rfl rfl (congrArg (fun b => some (Value.bool b)) hg9) (OpT_call (w_ref_In05n0 hx11) [] [0] rfl rfl rfl rfl rfl callee27 rfl rfl rfl rfl) ?_
       rintro _ ⟨_, _, _, ⟨rfl, rfl, rfl⟩, rfl⟩
       refine Tops_yes rfl rfl (congrArg (fun b => some (Value.bool b)) hg9) (OpT_bin rfl rfl rfl rfl rfl (bin_neq_i (a := in1) (b := in2))) ?_
       rintro _ rfl
       refine Tops_step rfl (OpT_pickF rfl rfl rfl (congrArg (fun b => some (Value.bool b)) hg9) rfl) ?_
       refine Tops_step rfl (OpT_move rfl rfl rfl rfl) ?_
       obtain ⟨hg10, h⟩ := chk_e h
       replace hg10 := not_t hg10
       refine Tops_yes rfl rfl (congrArg (fun b => some (Value.bool b)) hg10) (OpT_move rfl rfl rfl rfl) ?_
       rintro _ rfl
       refine Tops_yes rfl rfl (congrArg (fun b => some (Value.bool b)) hg10) (OpT_move rfl rfl rfl rfl) ?_
       rintro _ rfl
       obtain ⟨part1, hx12, h⟩ := ob_e h
       refine Tops_yes rfl rfl (congrArg (fun b => some (Value.bool b)) hg10) (OpT_call (w_seg_Part hx12) [] [0] rfl rfl rfl rfl rfl callee13 rfl rfl rfl rfl) ?_
       rintro _ ⟨v4, _, _, ⟨_, rfl, rfl, rfl⟩, rfl⟩
       refine Tops_yes rfl rfl (congrArg (fun b => some (Value.bool b)) hg10) (OpT_move rfl rfl rfl rfl) ?_
       rintro _ rfl
       refine Tops_yes rfl rfl (congrArg (fun b => some (Value.bool b)) hg10) (OpT_move rfl rfl rfl rfl) ?_
       rintro _ rfl
       obtain ⟨part2, hx13, h⟩ := ob_e h
       refine Tops_yes rfl rfl (congrArg (fun b => some (Value.bool b)) hg10) (OpT_call (w_ref_Part05 hx13) [] [0] rfl rfl rfl rfl rfl callee29 rfl rfl rfl rfl) ?_
       rintro _ ⟨v5, _, _, ⟨_, rfl, rfl, rfl⟩, rfl⟩
       obtain ⟨samese1, hx14, h⟩ := ob_e h
       refine Tops_yes rfl rfl (congrArg (fun b => some (Value.bool b)) hg10) (OpT_callB [0, 1] [0, 1] (w_kit_SameSegs hx14) [] rfl rfl rfl rfl rfl callee28 rfl rfl rfl rfl rfl rfl (bor_cons (bor_row 0 rfl rfl) (bor_cons (bor_row 1 rfl rfl) bor_nil)) (by rintro _ _ _ ⟨rfl, rfl, rfl⟩; exact ⟨rfl, ri_nil⟩)) ?_
       rintro _ ⟨_, _, _, ⟨rfl, rfl, rfl⟩, rfl⟩
       refine Tops_yes rfl rfl (congrArg (fun b => some (Value.bool b)) hg10) (OpT_not rfl rfl rfl rfl) ?_
       rintro _ rfl
       refine Tops_step rfl (OpT_pickF rfl rfl rfl (congrArg (fun b => some (Value.bool b)) hg10) rfl) ?_
       refine Tops_step rfl (OpT_move rfl rfl rfl rfl) ?_
       obtain ⟨hg11, h⟩ := chk_e h
       replace hg11 := not_t hg11
       refine Tops_yes rfl rfl (congrArg (fun b => some (Value.bool b)) hg11) (OpT_move rfl rfl rfl rfl) ?_
       rintro _ rfl
       refine Tops_yes rfl rfl (congrArg (fun b => some (Value.bool b)) hg11) (OpT_move rfl rfl rfl rfl) ?_
       rintro _ rfl
       refine Tops_yes rfl rfl (congrArg (fun b => some (Value.bool b)) hg11) (OpT_move rfl rfl rfl rfl) ?_
       rintro _ rfl
       obtain ⟨cut1, hx15, h⟩ := ob_e h
       refine Tops_yes rfl rfl (congrArg (fun b => some (Value.bool b)) hg11) (OpT_call (w_seg_Cut hx15) [] [0] rfl rfl rfl rfl rfl callee11 rfl rfl rfl rfl) ?_
       rintro _ ⟨v6, _, _, ⟨_, rfl, rfl, rfl⟩, rfl⟩
       refine Tops_yes rfl rfl (congrArg (fun b => some (Value.bool b)) hg11) (OpT_move rfl rfl rfl rfl) ?_
       rintro _ rfl
       refine Tops_yes rfl rfl (congrArg (fun b => some (Value.bool b)) hg11) (OpT_move rfl rfl rfl rfl) ?_
       rintro _ rfl
       refine Tops_yes rfl rfl (congrArg (fun b => some (Value.bool b)) hg11) (OpT_move rfl rfl rfl rfl) ?_
       rintro _ rfl
       obtain ⟨cut2, hx16, h⟩ := ob_e h
       refine Tops_yes rfl rfl (congrArg (fun b => some (Value.bool b)) hg11) (OpT_call (w_ref_Cut05 hx16) [] [0] rfl rfl rfl rfl rfl callee30 rfl rfl rfl rfl) ?_
       rintro _ ⟨v7, _, _, ⟨_, rfl, rfl, rfl⟩, rfl⟩
       obtain ⟨samese2, hx17, h⟩ := ob_e h
       refine Tops_yes rfl rfl (congrArg (fun b => some (Value.bool b)) hg11) (OpT_callB [2, 3] [0, 1, 2, 3] (w_kit_SameSegs hx17) [] rfl rfl rfl rfl rfl callee28 rfl rfl rfl rfl rfl rfl (bor_cons (bor_row 2 rfl rfl) (bor_cons (bor_row 3 rfl rfl) bor_nil)) (by rintro _ _ _ ⟨rfl, rfl, rfl⟩; exact ⟨rfl, ri_nil⟩)) ?_
       rintro _ ⟨_, _, _, ⟨rfl, rfl, rfl⟩, rfl⟩
       refine Tops_yes rfl rfl (congrArg (fun b => some (Value.bool b)) hg11) (OpT_not rfl rfl rfl rfl) ?_
       rintro _ rfl
       refine Tops_step rfl (OpT_pickF rfl rfl rfl (congrArg (fun b => some (Value.bool b)) hg11) rfl) ?_
       refine Tops_step rfl (OpT_move rfl rfl rfl rfl) ?_
       obtain ⟨hg12, h⟩ := chk_e h
       replace hg12 := not_t hg12
       refine Tops_yes rfl rfl (congrArg (fun b => some (Value.bool b)) hg12) (OpT_move rfl rfl rfl rfl) ?_
       rintro _ rfl
       refine Tops_yes rfl rfl (congrArg (fun b => some (Value.bool b)) hg12) (OpT_move rfl rfl rfl rfl) ?_
       rintro _ rfl
       obtain ⟨same1, hx18, h⟩ := ob_e h
       refine Tops_yes rfl rfl (congrArg (fun b => some (Value.bool b)) hg12) (OpT_call (w_seg_Same hx18) [] [0, 1] rfl rfl rfl rfl rfl callee12 rfl rfl rfl rfl) ?_
       rintro _ ⟨_, _, _, ⟨rfl, rfl, rfl⟩, rfl⟩
       refine Tops_yes rfl rfl (congrArg (fun b => some (Value.bool b)) hg12) (OpT_move rfl rfl rfl rfl) ?_
       rintro _ rfl
       refine Tops_yes rfl rfl (congrArg (fun b => some (Value.bool b)) hg12) (OpT_move rfl rfl rfl rfl) ?_
       rintro _ rfl
       obtain ⟨samese3, hx19, h⟩ := ob_e h
       refine Tops_yes rfl rfl (congrArg (fun b => some (Value.bool b)) hg12) (OpT_call (w_kit_SameSegs hx19) [] [0, 1] rfl rfl rfl rfl rfl callee28 rfl rfl rfl rfl) ?_
       rintro _ ⟨_, _, _, ⟨rfl, rfl, rfl⟩, rfl⟩
       refine Tops_yes rfl rfl (congrArg (fun b => some (Value.bool b)) hg12) (OpT_bin rfl rfl rfl rfl rfl (bin_neq_b (a := same1) (b := samese3) Try.underlying4)) ?_
       rintro _ rfl
       refine Tops_step rfl (OpT_pickF rfl rfl rfl (congrArg (fun b => some (Value.bool b)) hg12) rfl) ?_
       refine Tops_nil ?_
       refine Tk_wkS (fr' := [(1, some (vl1)), (2, some (vop21)), (3, some (vb1)), (15, some (.pointer none)), (17, some (.pointer none)), (18, some (vI new2.2)), (127, some (vB (same1 != samese3)))]) (own' := []) (shr' := [Fact.sl SegS vl1 l, Fact.sl SegS vop21 op2, Fact.sl u8S vb1 b]) [1, 2, 3, 15, 17, 18, 127] [] [0, 1, 2] rfl rfl rfl rfl ?_
       obtain ⟨hg13, h⟩ := chk_e h
       replace hg13 := not_t hg13
       refine Tk_condF (congrArg (fun b => some (Value.bool b)) hg13) ?_
       refine Tk_skip ?_
       refine Tk_seq ?_
       refine Tk_seq ?_
       refine Tk_region ?_
       refine Tops_step rfl (OpT_move rfl rfl rfl rfl) ?_
       refine Tops_step rfl (OpT_bin rfl rfl rfl rfl rfl (bin_neq_i (a := new2.2) (b := (0 : Int)))) ?_
       refine Tops_nil ?_
       refine Tk_wkS (fr' := [(1, some (vl1)), (2, some (vop21)), (3, some (vb1)), (15, some (.pointer none)), (17, some (.pointer none)), (129, some (vB (new2.2 != (0 : Int))))]) (own' := []) (shr' := [Fact.sl SegS vl1 l, Fact.sl SegS vop21 op2, Fact.sl u8S vb1 b]) [1, 2, 3, 15, 17, 129] [] [0, 1, 2] rfl rfl rfl rfl ?_
       rcases Bool.eq_false_or_eq_true (new2.2 != (0 : Int)) with hg14 | hg14
       ·replace h := br_t hg14 h
        refine Tk_condT (congrArg (fun b => some (Value.bool b)) hg14) ?_
        refine Tk_seq ?_
        refine Tk_region ?_
        refine Tops_step rfl (OpT_assign rfl rfl rfl rfl) ?_
        refine Tops_nil ?_
        refine Tk_wkS (fr' := [(14, some (vB true))]) (own' := []) (shr' := []) [14] [] [] rfl rfl rfl rfl ?_
        exact Tk_retV rfl rfl (resA (vs := [.bool true]) rfl ⟨rfl, trivial⟩) [] [] rfl rfl rfl ⟨rfl, rfl, rfl⟩
       ·replace h := br_f hg14 h
        refine Tk_condF (congrArg (fun b => some (Value.bool b)) hg14) ?_
        refine Tk_skip ?_
        refine Tk_seq ?_
        refine Tk_region ?_
        refine Tops_step rfl (OpT_move rfl rfl rfl rfl) ?_
        refine Tops_step rfl (OpT_move rfl rfl rfl rfl) ?_
        obtain ⟨segs1, hx20, h⟩ := ob_e h
        refine Tops_exP rfl (OpT_call (w_kit_Segs hx20) [] [0] rfl rfl rfl rfl rfl callee31 rfl rfl rfl rfl) ?_
        rintro _ ⟨v8, _, _, ⟨_, rfl, rfl, rfl⟩, rfl⟩
        refine Tops_step rfl (OpT_move rfl rfl rfl rfl) ?_
        obtain ⟨own1, hx21, h⟩ := ob_e h
        refine Tops_exP rfl (OpT_call (w_kit_Own hx21) [] [2] rfl rfl rfl rfl rfl callee17 rfl rfl rfl rfl) ?_
        rintro _ ⟨v9, _, _, ⟨_, rfl, rfl, rfl⟩, rfl⟩
        obtain ⟨scatte1, hx22, h⟩ := ob_e h
        refine Tops_exP rfl (OpT_callB [0, 1] [0, 1] (w_seg_Scattern0 hx22) [] rfl rfl rfl rfl rfl callee18 rfl rfl rfl rfl rfl rfl (bor_cons (bor_row 0 rfl rfl) (bor_cons (bor_row 1 rfl rfl) bor_nil)) (by rintro _ _ _ ⟨rfl, rfl, rfl⟩; exact ⟨rfl, ri_nil⟩)) ?_
        rintro _ ⟨_, _, _, ⟨rfl, rfl, rfl⟩, rfl⟩
        refine Tops_step rfl (OpT_move rfl rfl rfl rfl) ?_
        refine Tops_step rfl (OpT_extract rfl rfl rfl rfl rfl) ?_
        refine Tops_step rfl (OpT_extract rfl rfl rfl rfl rfl) ?_
        refine Tops_step rfl (OpT_assign rfl rfl rfl rfl) ?_
        refine Tops_step rfl (OpT_assign rfl rfl rfl rfl) ?_
        refine Tops_nil ?_
        refine Tk_wkS (fr' := [(1, some (vl1)), (2, some (vop21)), (3, some (vb1)), (15, some (.pointer none)), (17, some (.pointer none)), (23, some (vI scatte1.1)), (16, some (vI scatte1.2))]) (own' := []) (shr' := [Fact.sl SegS vl1 l, Fact.sl SegS vop21 op2, Fact.sl u8S vb1 b]) [1, 2, 3, 15, 17, 23, 16] [] [0, 1, 2] rfl rfl rfl rfl ?_
        refine Tk_seq ?_
        refine Tk_region ?_
        refine Tops_step rfl (OpT_move rfl rfl rfl rfl) ?_
        refine Tops_step rfl (OpT_move rfl rfl rfl rfl) ?_
        refine Tops_step rfl (OpT_move rfl rfl rfl rfl) ?_
        obtain ⟨scatte2, hx23, h⟩ := ob_e h
        refine Tops_exP rfl (OpT_call (w_ref_Scatter05n0 hx23) [] [0, 2] rfl rfl rfl rfl rfl callee32 rfl rfl rfl rfl) ?_
        rintro _ ⟨_, _, _, ⟨rfl, rfl, rfl⟩, rfl⟩
        refine Tops_step rfl (OpT_move rfl rfl rfl rfl) ?_
        refine Tops_step rfl (OpT_extract rfl rfl rfl rfl rfl) ?_
        refine Tops_step rfl (OpT_extract rfl rfl rfl rfl rfl) ?_
        refine Tops_step rfl (OpT_assign rfl rfl rfl rfl) ?_
        refine Tops_step rfl (OpT_assign rfl rfl rfl rfl) ?_
        refine Tops_nil ?_
        refine Tk_wkS (fr' := [(2, some (vop21)), (15, some (.pointer none)), (17, some (.pointer none)), (23, some (vI scatte1.1)), (16, some (vI scatte1.2)), (24, some (vI scatte2.1)), (18, some (vI scatte2.2))]) (own' := []) (shr' := [Fact.sl SegS vop21 op2]) [2, 15, 17, 23, 16, 24, 18] [] [1] rfl rfl rfl rfl ?_
        refine Tk_seq ?_
        refine Tk_region ?_
        refine Tops_step rfl (OpT_move rfl rfl rfl rfl) ?_
        refine Tops_step rfl (OpT_move rfl rfl rfl rfl) ?_
        obtain ⟨gather1, hx24, h⟩ := ob_e h
        refine Tops_exP rfl (OpT_call (w_seg_Gathern0 hx24) [] [0] rfl rfl rfl rfl rfl callee19 rfl rfl rfl rfl) ?_
        rintro _ ⟨_, _, _, ⟨v10, rfl, rfl, rfl⟩, rfl⟩
        refine Tops_step rfl (OpT_move rfl rfl rfl rfl) ?_
        refine Tops_step rfl (OpT_extract rfl rfl rfl rfl rfl) ?_
        refine Tops_step rfl (OpT_extract rfl rfl rfl rfl rfl) ?_
        refine Tops_step rfl (OpT_assign rfl rfl rfl rfl) ?_
        refine Tops_step rfl (OpT_assign rfl rfl rfl rfl) ?_
        refine Tops_nil ?_
        refine Tk_wkS (fr' := [(2, some (vop21)), (15, some (.pointer none)), (17, some (.pointer none)), (23, some (vI scatte1.1)), (16, some (vI scatte1.2)), (24, some (vI scatte2.1)), (18, some (vI scatte2.2)), (25, some (v10)), (26, some (vI gather1.2))]) (own' := [some (rowS u8S v10 gather1.1)]) (shr' := [Fact.sl SegS vop21 op2]) [2, 15, 17, 23, 16, 24, 18, 25, 26] [0] [0] rfl rfl rfl rfl ?_
        refine Tk_seq ?_
        refine Tk_region ?_
        refine Tops_step rfl (OpT_move rfl rfl rfl rfl) ?_
        refine Tops_step rfl (OpT_move rfl rfl rfl rfl) ?_
        obtain ⟨gather2, hx25, h⟩ := ob_e h
        refine Tops_exP rfl (OpT_call (w_ref_Gather05n0 hx25) [] [0] rfl rfl rfl rfl rfl callee33 rfl rfl rfl rfl) ?_
        rintro _ ⟨_, _, _, ⟨v11, rfl, rfl, rfl⟩, rfl⟩
        refine Tops_step rfl (OpT_move rfl rfl rfl rfl) ?_
        refine Tops_step rfl (OpT_extract rfl rfl rfl rfl rfl) ?_
        refine Tops_step rfl (OpT_extract rfl rfl rfl rfl rfl) ?_
        refine Tops_step rfl (OpT_assign rfl rfl rfl rfl) ?_
        refine Tops_step rfl (OpT_assign rfl rfl rfl rfl) ?_
        refine Tops_nil ?_
        refine Tk_wkS (fr' := [(15, some (.pointer none)), (17, some (.pointer none)), (23, some (vI scatte1.1)), (16, some (vI scatte1.2)), (24, some (vI scatte2.1)), (18, some (vI scatte2.2)), (25, some (v10)), (26, some (vI gather1.2)), (27, some (v11)), (28, some (vI gather2.2))]) (own' := [some (rowS u8S v10 gather1.1), some (rowS u8S v11 gather2.1)]) (shr' := []) [15, 17, 23, 16, 24, 18, 25, 26, 27, 28] [0, 1] [] rfl rfl rfl rfl ?_
        refine Tk_seq ?_
        refine Tk_drawT (by kernel_rfl) ?_
        refine TA_tb [0, 0, 3, 7, 15, 15, 63, 127, 255, 511, 1023, 511, 2559, 8191, 16383, 32767, 65535, 65535, 262143, 524287, 1048575, 2097151, 4194303, 8388607, 2097151, 25165823, 58720255, 134217727, 268435455, 536870911] (by kernel_rfl) fun htb => ?_
        refine TA_seg (lo := 0) (hi := 2) htb rfl rfl (by kernel_rfl) (fun c L a w => Sat c ⟨[(15, some (.pointer none)), (17, some (.pointer none)), (23, some (vI scatte1.1)), (16, some (vI scatte1.2)), (24, some (vI scatte2.1)), (18, some (vI scatte2.2)), (25, some (v10)), (26, some (vI gather1.2)), (27, some (v11)), (28, some (vI gather2.2)), (158, bif L 0 then some (vI scatte1.1) else none), (159, bif L 1 then some (vI scatte2.1) else none)], [(some (rowS u8S v10 gather1.1) : Option Res), (some (rowS u8S v11 gather2.1) : Option Res)], []⟩ a w) [([], []), ([], [])] rfl (by kernel_rfl) ?_ (steps_cons ?_ (steps_cons ?_ (steps_nil))) ?_
        ·intro a w hs
         exact hs.startF [158, 159] [0, 1] [] rfl rfl rfl rfl
        ·intro L a w hv K Q hK
         have hs := hv
         refine wpOp_go rfl rfl hs (OpT_move rfl rfl rfl rfl) ?_
         rintro _ rfl a' w' hs'
         exact hK a' w' (hs'.putF (i := 10) rfl [0, 1] [] rfl rfl rfl rfl)
        ·intro L a w hv K Q hK
         have hs := hv
         refine wpOp_go rfl rfl hs (OpT_move rfl rfl rfl rfl) ?_
         rintro _ rfl a' w' hs'
         exact hK a' w' (hs'.putF (i := 11) rfl [0, 1] [] rfl rfl rfl rfl)
        ·intro L a w hL hv
         rw [allTrue hL] at hv
         have hs := hv
         refine (show TA _ _ _ 2 ⟨[(15, some (.pointer none)), (17, some (.pointer none)), (16, some (vI scatte1.2)), (18, some (vI scatte2.2)), (25, some (v10)), (26, some (vI gather1.2)), (27, some (v11)), (28, some (vI gather2.2)), (158, some (vI scatte1.1)), (159, some (vI scatte2.1))], [some (rowS u8S v10 gather1.1), some (rowS u8S v11 gather2.1)], []⟩ from ?_) a w (hs.wkS [15, 17, 16, 18, 25, 26, 27, 28, 158, 159] [0, 1] [] rfl rfl rfl rfl)
         clear hs hL
         refine TA_step htb (by kernel_rfl) rfl rfl (OpT_bin rfl rfl rfl rfl rfl (bin_eql_i (a := scatte1.1) (b := scatte2.1))) ?_
         refine TA_step htb (by kernel_rfl) rfl rfl (OpT_move rfl rfl rfl rfl) ?_
         refine TA_wkS (fr' := [(15, some (.pointer none)), (17, some (.pointer none)), (16, some (vI scatte1.2)), (18, some (vI scatte2.2)), (25, some (v10)), (26, some (vI gather1.2)), (27, some (v11)), (28, some (vI gather2.2)), (161, some (vB (scatte1.1 == scatte2.1)))]) (own' := [some (rowS u8S v10 gather1.1), some (rowS u8S v11 gather2.1)]) (shr' := []) [15, 17, 16, 18, 25, 26, 27, 28, 161] [0, 1] [] rfl rfl rfl rfl ?_
         obtain ⟨hg15, h⟩ := chk_e h
         refine TA_seg (lo := 4) (hi := 6) htb rfl rfl (by kernel_rfl) (fun c L a w => Sat c ⟨[(15, some (.pointer none)), (17, some (.pointer none)), (16, some (vI scatte1.2)), (18, some (vI scatte2.2)), (25, some (v10)), (26, some (vI gather1.2)), (27, some (v11)), (28, some (vI gather2.2)), (161, some (vB (scatte1.1 == scatte2.1))), (162, bif L 4 then some (vI scatte1.2) else none), (163, bif L 5 then some (vI scatte2.2) else none)], [(some (rowS u8S v10 gather1.1) : Option Res), (some (rowS u8S v11 gather2.1) : Option Res)], []⟩ a w) [([], []), ([], [])] rfl (by kernel_rfl) ?_ (steps_cons ?_ (steps_cons ?_ (steps_nil))) ?_
         ·intro a w hs
          exact hs.startF [162, 163] [0, 1] [] rfl rfl rfl rfl
         ·intro L a w hv K Q hK
          have hs := hv
          refine wpOp_yes rfl rfl rfl hs (congrArg (fun b => some (Value.bool b)) hg15) (OpT_move rfl rfl rfl rfl) ?_
          rintro _ rfl a' w' hs'
          exact hK a' w' (hs'.putF (i := 9) rfl [0, 1] [] rfl rfl rfl rfl)
         ·intro L a w hv K Q hK
          have hs := hv
          refine wpOp_yes rfl rfl rfl hs (congrArg (fun b => some (Value.bool b)) hg15) (OpT_move rfl rfl rfl rfl) ?_
          rintro _ rfl a' w' hs'
          exact hK a' w' (hs'.putF (i := 10) rfl [0, 1] [] rfl rfl rfl rfl)
         ·intro L a w hL hv
          rw [allTrue hL] at hv
          have hs := hv
          refine (show TA _ _ _ 6 ⟨[(15, some (.pointer none)), (17, some (.pointer none)), (25, some (v10)), (26, some (vI gather1.2)), (27, some (v11)), (28, some (vI gather2.2)), (161, some (vB (scatte1.1 == scatte2.1))), (162, some (vI scatte1.2)), (163, some (vI scatte2.2))], [some (rowS u8S v10 gather1.1), some (rowS u8S v11 gather2.1)], []⟩ from ?_) a w (hs.wkS [15, 17, 25, 26, 27, 28, 161, 162, 163] [0, 1] [] rfl rfl rfl rfl)
          clear hs hL
          refine TA_yes htb (by kernel_rfl) rfl rfl rfl (congrArg (fun b => some (Value.bool b)) hg15) (OpT_bin rfl rfl rfl rfl rfl (bin_eql_i (a := scatte1.2) (b := scatte2.2))) ?_
          rintro _ rfl
          refine TA_step htb (by kernel_rfl) rfl rfl (OpT_pickT rfl rfl rfl (congrArg (fun b => some (Value.bool b)) hg15) rfl) ?_
          refine TA_step htb (by kernel_rfl) rfl rfl (OpT_move rfl rfl rfl rfl) ?_
          refine TA_wkS (fr' := [(15, some (.pointer none)), (17, some (.pointer none)), (25, some (v10)), (26, some (vI gather1.2)), (27, some (v11)), (28, some (vI gather2.2)), (166, some (vB (scatte1.2 == scatte2.2)))]) (own' := [some (rowS u8S v10 gather1.1), some (rowS u8S v11 gather2.1)]) (shr' := []) [15, 17, 25, 26, 27, 28, 166] [0, 1] [] rfl rfl rfl rfl ?_
          refine TA_retire (i := 0) rfl ?_
          refine TA_retire (i := 1) rfl ?_
          obtain ⟨hg16, h⟩ := chk_e h
          refine TA_seg (lo := 9) (hi := 13) htb rfl rfl (by kernel_rfl) (fun c L a w => Sat c ⟨[(15, some (.pointer none)), (17, some (.pointer none)), (25, some (v10)), (26, some (vI gather1.2)), (27, some (v11)), (28, some (vI gather2.2)), (166, some (vB (scatte1.2 == scatte2.2))), (167, bif L 9 then some (v10) else none), (168, bif L 10 then some (vS gather1.1) else none), (169, bif L 11 then some (v11) else none), (170, bif L 12 then some (vS gather2.1) else none)], [(none : Option Res), (none : Option Res)], [Fact.sl u8S v10 gather1.1, Fact.sl u8S v11 gather2.1]⟩ a w) [([], [10]), ([9], []), ([], [12]), ([11], [])] rfl (by kernel_rfl) ?_ (steps_cons ?_ (steps_cons ?_ (steps_cons ?_ (steps_cons ?_ (steps_nil))))) ?_
          ·intro a w hs
           exact hs.startF [167, 168, 169, 170] [0, 1] [0, 1] rfl rfl rfl rfl
          ·intro L a w hv K Q hK
           have hs := hv
           refine wpOp_yes rfl rfl rfl hs (congrArg (fun b => some (Value.bool b)) hg16) (OpT_move rfl rfl rfl rfl) ?_
           rintro _ rfl a' w' hs'
           exact hK a' w' (hs'.putF (i := 7) rfl [0, 1] [0, 1] rfl rfl rfl rfl)
          ·intro L a w hv K Q hK
           have hs := hv
           refine wpOp_yes rfl rfl rfl hs (congrArg (fun b => some (Value.bool b)) hg16) (OpT_strS rfl rfl rfl rfl Try.underlying33 Try.underlying5 Try.underlying9 (i := 0) rfl) ?_
           rintro _ rfl a' w' hs'
           exact hK a' w' (hs'.putF (i := 8) rfl [0, 1] [0, 1] rfl rfl rfl rfl)
          ·intro L a w hv K Q hK
           have hs := hv
           refine wpOp_yes rfl rfl rfl hs (congrArg (fun b => some (Value.bool b)) hg16) (OpT_move rfl rfl rfl rfl) ?_
           rintro _ rfl a' w' hs'
           exact hK a' w' (hs'.putF (i := 9) rfl [0, 1] [0, 1] rfl rfl rfl rfl)
          ·intro L a w hv K Q hK
           have hs := hv
           refine wpOp_yes rfl rfl rfl hs (congrArg (fun b => some (Value.bool b)) hg16) (OpT_strS rfl rfl rfl rfl Try.underlying33 Try.underlying5 Try.underlying9 (i := 1) rfl) ?_
           rintro _ rfl a' w' hs'
           exact hK a' w' (hs'.putF (i := 10) rfl [0, 1] [0, 1] rfl rfl rfl rfl)
          ·intro L a w hL hv
           rw [allTrue hL] at hv
           have hs := hv
           refine (show TA _ _ _ 13 ⟨[(15, some (.pointer none)), (17, some (.pointer none)), (26, some (vI gather1.2)), (28, some (vI gather2.2)), (166, some (vB (scatte1.2 == scatte2.2))), (168, some (vS gather1.1)), (170, some (vS gather2.1))], [], []⟩ from ?_) a w (hs.wkS [15, 17, 26, 28, 166, 168, 170] [] [] rfl rfl rfl rfl)
           clear hs hL
           refine TA_yes htb (by kernel_rfl) rfl rfl rfl (congrArg (fun b => some (Value.bool b)) hg16) (OpT_bin rfl rfl rfl rfl rfl (bin_eql_s (a := gather1.1) (b := gather2.1))) ?_
           rintro _ rfl
           refine TA_step htb (by kernel_rfl) rfl rfl (OpT_pickT rfl rfl rfl (congrArg (fun b => some (Value.bool b)) hg16) rfl) ?_
           refine TA_step htb (by kernel_rfl) rfl rfl (OpT_move rfl rfl rfl rfl) ?_
           refine TA_wkS (fr' := [(15, some (.pointer none)), (17, some (.pointer none)), (26, some (vI gather1.2)), (28, some (vI gather2.2)), (173, some (vB (gather1.1 == gather2.1)))]) (own' := []) (shr' := []) [15, 17, 26, 28, 173] [] [] rfl rfl rfl rfl ?_
           obtain ⟨hg17, h⟩ := chk_e h
           refine TA_seg (lo := 16) (hi := 18) htb rfl rfl (by kernel_rfl) (fun c L a w => Sat c ⟨[(15, some (.pointer none)), (17, some (.pointer none)), (26, some (vI gather1.2)), (28, some (vI gather2.2)), (173, some (vB (gather1.1 == gather2.1))), (174, bif L 16 then some (vI gather1.2) else none), (175, bif L 17 then some (vI gather2.2) else none)], [], []⟩ a w) [([], []), ([], [])] rfl (by kernel_rfl) ?_ (steps_cons ?_ (steps_cons ?_ (steps_nil))) ?_
           ·intro a w hs
            exact hs.startF [174, 175] [] [] rfl rfl rfl rfl
           ·intro L a w hv K Q hK
            have hs := hv
            refine wpOp_yes rfl rfl rfl hs (congrArg (fun b => some (Value.bool b)) hg17) (OpT_move rfl rfl rfl rfl) ?_
            rintro _ rfl a' w' hs'
            exact hK a' w' (hs'.putF (i := 5) rfl [] [] rfl rfl rfl rfl)
           ·intro L a w hv K Q hK
            have hs := hv
            refine wpOp_yes rfl rfl rfl hs (congrArg (fun b => some (Value.bool b)) hg17) (OpT_move rfl rfl rfl rfl) ?_
            rintro _ rfl a' w' hs'
            exact hK a' w' (hs'.putF (i := 6) rfl [] [] rfl rfl rfl rfl)
           ·intro L a w hL hv
            rw [allTrue hL] at hv
            have hs := hv
            refine (show TA _ _ _ 18 ⟨[(15, some (.pointer none)), (17, some (.pointer none)), (173, some (vB (gather1.1 == gather2.1))), (174, some (vI gather1.2)), (175, some (vI gather2.2))], [], []⟩ from ?_) a w (hs.wkS [15, 17, 173, 174, 175] [] [] rfl rfl rfl rfl)
            clear hs hL
            refine TA_yes htb (by kernel_rfl) rfl rfl rfl (congrArg (fun b => some (Value.bool b)) hg17) (OpT_bin rfl rfl rfl rfl rfl (bin_eql_i (a := gather1.2) (b := gather2.2))) ?_
            rintro _ rfl
            refine TA_step htb (by kernel_rfl) rfl rfl (OpT_pickT rfl rfl rfl (congrArg (fun b => some (Value.bool b)) hg17) rfl) ?_
            refine TA_step htb (by kernel_rfl) rfl rfl (OpT_move rfl rfl rfl rfl) ?_
            refine TA_wkS (fr' := [(15, some (.pointer none)), (17, some (.pointer none)), (178, some (vB (gather1.2 == gather2.2)))]) (own' := []) (shr' := []) [15, 17, 178] [] [] rfl rfl rfl rfl ?_
            obtain ⟨hg18, h⟩ := chk_e h
            obtain ⟨image1, hx26, h⟩ := ob_e h
            obtain ⟨image2, hx27, h⟩ := ob_e h
            refine TA_seg (lo := 21) (hi := 27) htb rfl rfl (by kernel_rfl) (fun c L a w => ∃ (v12 : Value), ∃ (v13 : Value), Sat c ⟨[(15, some (.pointer none)), (17, some (.pointer none)), (178, some (vB (gather1.2 == gather2.2))), (179, bif L 21 then some (.pointer none) else none), (180, bif L 22 then some (v12) else none), (181, bif L 23 then some (vS image1) else none), (182, bif L 24 then some (.pointer none) else none), (183, bif L 25 then some (v13) else none), (184, bif L 26 then some (vS image2) else none)], [], [(bif L 22 then Fact.sl u8S v12 image1 else Fact.tt), (bif L 25 then Fact.sl u8S v13 image2 else Fact.tt)]⟩ a w) [([], [22, 23, 25, 26]), ([21], [23, 25, 26]), ([21, 22], []), ([], [25, 26]), ([21, 22, 24], [26]), ([21, 22, 24, 25], [])] rfl (by kernel_rfl) ?_ (steps_cons ?_ (steps_cons ?_ (steps_cons ?_ (steps_cons ?_ (steps_cons ?_ (steps_cons ?_ (steps_nil))))))) ?_
            ·intro a w hs
             exact ⟨undef, undef, hs.startF [179, 180, 181, 182, 183, 184] [] [0, 1] rfl rfl rfl rfl⟩
            ·intro L a w hv K Q hK
             obtain ⟨v12, v13, hs⟩ := hv
             refine wpOp_yes rfl rfl rfl hs (congrArg (fun b => some (Value.bool b)) hg18) (OpT_move rfl rfl rfl rfl) ?_
             rintro _ rfl a' w' hs'
             exact hK a' w' ⟨v12, v13, hs'.putF (i := 3) rfl [] [0, 1] rfl rfl rfl rfl⟩
            ·intro L a w hv K Q hK
             obtain ⟨v12, v13, hs⟩ := hv
             refine wpOp_yes rfl rfl rfl hs (congrArg (fun b => some (Value.bool b)) hg18) (OpT_call (ws_gmem_Mem_Imagen0 hx26) [] [] rfl rfl rfl rfl rfl callee20 rfl rfl rfl rfl) ?_
             rintro _ ⟨v12', _, _, ⟨_, rfl, rfl, rfl⟩, rfl⟩ a' w' hs'
             exact hK a' w' ⟨v12', v13, hs'.putF (i := 4) rfl [] [2, 1] rfl rfl rfl rfl⟩
            ·intro L a w hv K Q hK
             obtain ⟨v12, v13, hs⟩ := hv
             refine wpOp_yes rfl rfl rfl hs (congrArg (fun b => some (Value.bool b)) hg18) (OpT_strS rfl rfl rfl rfl Try.underlying33 Try.underlying5 Try.underlying9 (i := 0) rfl) ?_
             rintro _ rfl a' w' hs'
             exact hK a' w' ⟨v12, v13, hs'.putF (i := 5) rfl [] [0, 1] rfl rfl rfl rfl⟩
            ·intro L a w hv K Q hK
             obtain ⟨v12, v13, hs⟩ := hv
             refine wpOp_yes rfl rfl rfl hs (congrArg (fun b => some (Value.bool b)) hg18) (OpT_move rfl rfl rfl rfl) ?_
             rintro _ rfl a' w' hs'
             exact hK a' w' ⟨v12, v13, hs'.putF (i := 6) rfl [] [0, 1] rfl rfl rfl rfl⟩
            ·intro L a w hv K Q hK
             obtain ⟨v12, v13, hs⟩ := hv
             refine wpOp_yes rfl rfl rfl hs (congrArg (fun b => some (Value.bool b)) hg18) (OpT_call (ws_ref_Mem_Image02n0 hx27) [] [] rfl rfl rfl rfl rfl callee34 rfl rfl rfl rfl) ?_
             rintro _ ⟨v13', _, _, ⟨_, rfl, rfl, rfl⟩, rfl⟩ a' w' hs'
             exact hK a' w' ⟨v12, v13', hs'.putF (i := 7) rfl [] [0, 2] rfl rfl rfl rfl⟩
            ·intro L a w hv K Q hK
             obtain ⟨v12, v13, hs⟩ := hv
             refine wpOp_yes rfl rfl rfl hs (congrArg (fun b => some (Value.bool b)) hg18) (OpT_strS rfl rfl rfl rfl Try.underlying33 Try.underlying5 Try.underlying9 (i := 1) rfl) ?_
             rintro _ rfl a' w' hs'
             exact hK a' w' ⟨v12, v13, hs'.putF (i := 8) rfl [] [0, 1] rfl rfl rfl rfl⟩
            ·intro L a w hL hv
             rw [allTrue hL] at hv
             obtain ⟨v12, v13, hs⟩ := hv
             refine (show TA _ _ _ 27 ⟨[(178, some (vB (gather1.2 == gather2.2))), (181, some (vS image1)), (184, some (vS image2))], [], []⟩ from ?_) a w (hs.wkS [178, 181, 184] [] [] rfl rfl rfl rfl)
             clear hs hL
             refine TA_yes htb (by kernel_rfl) rfl rfl rfl (congrArg (fun b => some (Value.bool b)) hg18) (OpT_bin rfl rfl rfl rfl rfl (bin_eql_s (a := image1) (b := image2))) ?_
             rintro _ rfl
             refine TA_step htb (by kernel_rfl) rfl rfl (OpT_pickT rfl rfl rfl (congrArg (fun b => some (Value.bool b)) hg18) rfl) ?_
             refine TA_step htb (by kernel_rfl) rfl rfl (OpT_assign rfl rfl rfl rfl) ?_
             refine TA_end rfl ?_
             refine Tk_wkS (fr' := [(14, some (vB (image1 == image2)))]) (own' := []) (shr' := []) [14] [] [] rfl rfl rfl rfl ?_
             obtain ⟨hg19, h⟩ := chk_e h
             exact Tk_retV rfl rfl (resA (vs := [.bool true]) rfl ⟨(congrArg (fun b => some (Value.bool b)) hg19), trivial⟩) [] [] rfl rfl rfl ⟨rfl, rfl, rfl⟩
      ·refine Tk_optS (i := 0) rfl ho2 ?_
       rintro b1 v14 v15 vs1 rfl
       refine Tk_seq ?_
       refine Tk_seq ?_
       refine Tk_region ?_
       refine Tops_step rfl (OpT_move rfl rfl rfl rfl) ?_
       refine Tops_step rfl (OpT_move rfl rfl rfl rfl) ?_
       refine Tops_step rfl (OpT_bin rfl rfl rfl rfl rfl (bin_neq_i (a := new1.2) (b := new2.2))) ?_
       refine Tops_nil ?_
       refine Tk_wkS (fr' := [(1, some (vl1)), (2, some (vop21)), (3, some (vb1)), (4, some (vU64 fromp4)), (5, some (vU64 np5)), (6, some (vB write)), (15, some (.pointer none)), (17, some (.pointer (some ⟨b1, 0, none⟩))), (18, some (vI new2.2)), (62, some (vB (new1.2 != new2.2)))]) (own' := [some (cellsR b1 76 [v14, v15]), some (rowsX u8S false v15 vs1 mem1.B none)]) (shr' := [Fact.sl SegS vl1 l, Fact.sl SegS vop21 op2, Fact.sl u8S vb1 b, Fact.sl RegionS v14 mem1.L]) [1, 2, 3, 4, 5, 6, 15, 17, 18, 62] [0, 1] [0, 1, 2, 3] rfl rfl rfl rfl ?_
       obtain ⟨hg20, h⟩ := chk_e h
       replace hg20 := not_t hg20
       refine Tk_condF (congrArg (fun b => some (Value.bool b)) hg20) ?_
       refine Tk_skip ?_
       refine Tk_seq ?_
       refine Tk_region ?_
       refine Tops_step rfl (OpT_move rfl rfl rfl rfl) ?_
       obtain ⟨total3, hx28, h⟩ := ob_e h
       refine Tops_exP rfl (OpT_call (w_seg_Total hx28) [] [0] rfl rfl rfl rfl rfl callee10 rfl rfl rfl rfl) ?_
       rintro _ ⟨_, _, _, ⟨rfl, rfl, rfl⟩, rfl⟩
       refine Tops_step rfl (OpT_move rfl rfl rfl rfl) ?_
       refine Tops_step rfl (OpT_extract rfl rfl rfl rfl rfl) ?_
       refine Tops_step rfl (OpT_extract rfl rfl rfl rfl rfl) ?_
       refine Tops_step rfl (OpT_assign rfl rfl rfl rfl) ?_
       refine Tops_step rfl (OpT_assign rfl rfl rfl rfl) ?_
       refine Tops_nil ?_
       refine Tk_wkS (fr' := [(1, some (vl1)), (2, some (vop21)), (3, some (vb1)), (4, some (vU64 fromp4)), (5, some (vU64 np5)), (6, some (vB write)), (15, some (.pointer none)), (17, some (.pointer (some ⟨b1, 0, none⟩))), (18, some (vI new2.2)), (19, some (vU64 total3.1)), (20, some (vU64 total3.2))]) (own' := [some (cellsR b1 76 [v14, v15]), some (rowsX u8S false v15 vs1 mem1.B none)]) (shr' := [Fact.sl SegS vl1 l, Fact.sl SegS vop21 op2, Fact.sl u8S vb1 b, Fact.sl RegionS v14 mem1.L]) [1, 2, 3, 4, 5, 6, 15, 17, 18, 19, 20] [0, 1] [0, 1, 2, 3] rfl rfl rfl rfl ?_
       refine Tk_seq ?_
       refine Tk_region ?_
       refine Tops_step rfl (OpT_move rfl rfl rfl rfl) ?_
       obtain ⟨total4, hx29, h⟩ := ob_e h
       refine Tops_exP rfl (OpT_call (w_ref_Total05 hx29) [] [0] rfl rfl rfl rfl rfl callee25 rfl rfl rfl rfl) ?_
       rintro _ ⟨_, _, _, ⟨rfl, rfl, rfl⟩, rfl⟩
       refine Tops_step rfl (OpT_move rfl rfl rfl rfl) ?_
       refine Tops_step rfl (OpT_extract rfl rfl rfl rfl rfl) ?_
       refine Tops_step rfl (OpT_extract rfl rfl rfl rfl rfl) ?_
       refine Tops_step rfl (OpT_assign rfl rfl rfl rfl) ?_
       refine Tops_step rfl (OpT_assign rfl rfl rfl rfl) ?_
       refine Tops_nil ?_
       refine Tk_wkS (fr' := [(1, some (vl1)), (2, some (vop21)), (3, some (vb1)), (4, some (vU64 fromp4)), (5, some (vU64 np5)), (6, some (vB write)), (15, some (.pointer none)), (17, some (.pointer (some ⟨b1, 0, none⟩))), (18, some (vI new2.2)), (19, some (vU64 total3.1)), (20, some (vU64 total3.2)), (21, some (vU64 total4.1)), (22, some (vU64 total4.2))]) (own' := [some (cellsR b1 76 [v14, v15]), some (rowsX u8S false v15 vs1 mem1.B none)]) (shr' := [Fact.sl SegS vl1 l, Fact.sl SegS vop21 op2, Fact.sl u8S vb1 b, Fact.sl RegionS v14 mem1.L]) [1, 2, 3, 4, 5, 6, 15, 17, 18, 19, 20, 21, 22] [0, 1] [0, 1, 2, 3] rfl rfl rfl rfl ?_
       refine Tk_seq ?_
       refine Tk_seq ?_
       refine Tk_region ?_
       refine Tops_step rfl (OpT_move rfl rfl rfl rfl) ?_
       refine Tops_step rfl (OpT_move rfl rfl rfl rfl) ?_
       refine Tops_step rfl (OpT_bin rfl rfl rfl rfl rfl (bin_neq_u64 (a := total3.1) (b := total4.1))) ?_
       refine Tops_step rfl (OpT_move rfl rfl rfl rfl) ?_
       obtain ⟨hg21, h⟩ := chk_e h
       replace hg21 := not_t hg21
       refine Tops_yes rfl rfl (congrArg (fun b => some (Value.bool b)) hg21) (OpT_move rfl rfl rfl rfl) ?_
       rintro _ rfl
       refine Tops_yes rfl rfl (congrArg (fun b => some (Value.bool b)) hg21) (OpT_move rfl rfl rfl rfl) ?_
       rintro _ rfl
       refine Tops_yes rfl rfl (congrArg (fun b => some (Value.bool b)) hg21) (OpT_bin rfl rfl rfl rfl rfl (bin_neq_u64 (a := total3.2) (b := total4.2))) ?_
       rintro _ rfl
       refine Tops_step rfl (OpT_pickF rfl rfl rfl (congrArg (fun b => some (Value.bool b)) hg21) rfl) ?_
       refine Tops_step rfl (OpT_move rfl rfl rfl rfl) ?_
       obtain ⟨hg22, h⟩ := chk_e h
       replace hg22 := not_t hg22
       refine Tops_yes rfl rfl (congrArg (fun b => some (Value.bool b)) hg22) (OpT_move rfl rfl rfl rfl) ?_
       rintro _ rfl
       obtain ⟨check3, hx30, h⟩ := ob_e h
       refine Tops_yes rfl rfl (congrArg (fun b => some (Value.bool b)) hg22) (OpT_call (w_seg_Check hx30) [] [0] rfl rfl rfl rfl rfl callee9 rfl rfl rfl rfl) ?_
       rintro _ ⟨_, _, _, ⟨rfl, rfl, rfl⟩, rfl⟩
       refine Tops_yes rfl rfl (congrArg (fun b => some (Value.bool b)) hg22) (OpT_move rfl rfl rfl rfl) ?_
       rintro _ rfl
       obtain ⟨check4, hx31, h⟩ := ob_e h
       refine Tops_yes rfl rfl (congrArg (fun b => some (Value.bool b)) hg22) (OpT_call (w_ref_Check05 hx31) [] [0] rfl rfl rfl rfl rfl callee26 rfl rfl rfl rfl) ?_
       rintro _ ⟨_, _, _, ⟨rfl, rfl, rfl⟩, rfl⟩
       refine Tops_yes rfl rfl (congrArg (fun b => some (Value.bool b)) hg22) (OpT_bin rfl rfl rfl rfl rfl (bin_neq_i (a := check3) (b := check4))) ?_
       rintro _ rfl
       refine Tops_step rfl (OpT_pickF rfl rfl rfl (congrArg (fun b => some (Value.bool b)) hg22) rfl) ?_
       refine Tops_step rfl (OpT_move rfl rfl rfl rfl) ?_
       obtain ⟨hg23, h⟩ := chk_e h
       replace hg23 := not_t hg23
       refine Tops_yes rfl rfl (congrArg (fun b => some (Value.bool b)) hg23) (OpT_move rfl rfl rfl rfl) ?_
       rintro _ rfl
       refine Tops_yes rfl rfl (congrArg (fun b => some (Value.bool b)) hg23) (OpT_move rfl rfl rfl rfl) ?_
       rintro _ rfl
       obtain ⟨in3, hx32, h⟩ := ob_e h
       refine Tops_yes rfl rfl (congrArg (fun b => some (Value.bool b)) hg23) (OpT_call (w_seg_Inn0 hx32) [] [0] rfl rfl rfl rfl rfl callee15 rfl rfl rfl rfl) ?_
       rintro _ ⟨_, _, _, ⟨rfl, rfl, rfl⟩, rfl⟩
       refine Tops_yes rfl rfl (congrArg (fun b => some (Value.bool b)) hg23) (OpT_move rfl rfl rfl rfl) ?_
       rintro _ rfl
       refine Tops_yes rfl rfl (congrArg (fun b => some (Value.bool b)) hg23) (OpT_move rfl rfl rfl rfl) ?_
       rintro _ rfl
       obtain ⟨in4, hx33, h⟩ := ob_e h
       refine Tops_yes rfl rfl (congrArg (fun b => some (Value.bool b)) hg23) (OpT_callP [2, 3] (w_ref_In05 hx33) [0, 1] [3, 0] rfl rfl rfl rfl rfl callee27 rfl rfl rfl rfl rfl) ?_
       rintro _ ⟨_, _, _, ⟨rfl, rfl, rfl⟩, rfl⟩
       refine Tops_yes rfl rfl (congrArg (fun b => some (Value.bool b)) hg23) (OpT_bin rfl rfl rfl rfl rfl (bin_neq_i (a := in3) (b := in4))) ?_
       rintro _ rfl
       refine Tops_step rfl (OpT_pickF rfl rfl rfl (congrArg (fun b => some (Value.bool b)) hg23) rfl) ?_
       refine Tops_step rfl (OpT_move rfl rfl rfl rfl) ?_
       obtain ⟨hg24, h⟩ := chk_e h
       replace hg24 := not_t hg24
       refine Tops_yes rfl rfl (congrArg (fun b => some (Value.bool b)) hg24) (OpT_move rfl rfl rfl rfl) ?_
       rintro _ rfl
       refine Tops_yes rfl rfl (congrArg (fun b => some (Value.bool b)) hg24) (OpT_move rfl rfl rfl rfl) ?_
       rintro _ rfl
       obtain ⟨part3, hx34, h⟩ := ob_e h
       refine Tops_yes rfl rfl (congrArg (fun b => some (Value.bool b)) hg24) (OpT_call (w_seg_Part hx34) [] [0] rfl rfl rfl rfl rfl callee13 rfl rfl rfl rfl) ?_
       rintro _ ⟨v16, _, _, ⟨_, rfl, rfl, rfl⟩, rfl⟩
       refine Tops_yes rfl rfl (congrArg (fun b => some (Value.bool b)) hg24) (OpT_move rfl rfl rfl rfl) ?_
       rintro _ rfl
       refine Tops_yes rfl rfl (congrArg (fun b => some (Value.bool b)) hg24) (OpT_move rfl rfl rfl rfl) ?_
       rintro _ rfl
       obtain ⟨part4, hx35, h⟩ := ob_e h
       refine Tops_yes rfl rfl (congrArg (fun b => some (Value.bool b)) hg24) (OpT_call (w_ref_Part05 hx35) [] [0] rfl rfl rfl rfl rfl callee29 rfl rfl rfl rfl) ?_
       rintro _ ⟨v17, _, _, ⟨_, rfl, rfl, rfl⟩, rfl⟩
       obtain ⟨samese4, hx36, h⟩ := ob_e h
       refine Tops_yes rfl rfl (congrArg (fun b => some (Value.bool b)) hg24) (OpT_callB [2, 3] [0, 1, 2, 3] (w_kit_SameSegs hx36) [] rfl rfl rfl rfl rfl callee28 rfl rfl rfl rfl rfl rfl (bor_cons (bor_row 2 rfl rfl) (bor_cons (bor_row 3 rfl rfl) bor_nil)) (by rintro _ _ _ ⟨rfl, rfl, rfl⟩; exact ⟨rfl, ri_nil⟩)) ?_
       rintro _ ⟨_, _, _, ⟨rfl, rfl, rfl⟩, rfl⟩
       refine Tops_yes rfl rfl (congrArg (fun b => some (Value.bool b)) hg24) (OpT_not rfl rfl rfl rfl) ?_
       rintro _ rfl
       refine Tops_step rfl (OpT_pickF rfl rfl rfl (congrArg (fun b => some (Value.bool b)) hg24) rfl) ?_
       refine Tops_step rfl (OpT_move rfl rfl rfl rfl) ?_
       obtain ⟨hg25, h⟩ := chk_e h
       replace hg25 := not_t hg25
       refine Tops_yes rfl rfl (congrArg (fun b => some (Value.bool b)) hg25) (OpT_move rfl rfl rfl rfl) ?_
       rintro _ rfl
       refine Tops_yes rfl rfl (congrArg (fun b => some (Value.bool b)) hg25) (OpT_move rfl rfl rfl rfl) ?_
       rintro _ rfl
       refine Tops_yes rfl rfl (congrArg (fun b => some (Value.bool b)) hg25) (OpT_move rfl rfl rfl rfl) ?_
       rintro _ rfl
       obtain ⟨cut3, hx37, h⟩ := ob_e h
       refine Tops_yes rfl rfl (congrArg (fun b => some (Value.bool b)) hg25) (OpT_call (w_seg_Cut hx37) [] [0] rfl rfl rfl rfl rfl callee11 rfl rfl rfl rfl) ?_
       rintro _ ⟨v18, _, _, ⟨_, rfl, rfl, rfl⟩, rfl⟩
       refine Tops_yes rfl rfl (congrArg (fun b => some (Value.bool b)) hg25) (OpT_move rfl rfl rfl rfl) ?_
       rintro _ rfl
       refine Tops_yes rfl rfl (congrArg (fun b => some (Value.bool b)) hg25) (OpT_move rfl rfl rfl rfl) ?_
       rintro _ rfl
       refine Tops_yes rfl rfl (congrArg (fun b => some (Value.bool b)) hg25) (OpT_move rfl rfl rfl rfl) ?_
       rintro _ rfl
       obtain ⟨cut4, hx38, h⟩ := ob_e h
       refine Tops_yes rfl rfl (congrArg (fun b => some (Value.bool b)) hg25) (OpT_call (w_ref_Cut05 hx38) [] [0] rfl rfl rfl rfl rfl callee30 rfl rfl rfl rfl) ?_
       rintro _ ⟨v19, _, _, ⟨_, rfl, rfl, rfl⟩, rfl⟩
       obtain ⟨samese5, hx39, h⟩ := ob_e h
       refine Tops_yes rfl rfl (congrArg (fun b => some (Value.bool b)) hg25) (OpT_callB [4, 5] [0, 1, 2, 3, 4, 5] (w_kit_SameSegs hx39) [] rfl rfl rfl rfl rfl callee28 rfl rfl rfl rfl rfl rfl (bor_cons (bor_row 4 rfl rfl) (bor_cons (bor_row 5 rfl rfl) bor_nil)) (by rintro _ _ _ ⟨rfl, rfl, rfl⟩; exact ⟨rfl, ri_nil⟩)) ?_
       rintro _ ⟨_, _, _, ⟨rfl, rfl, rfl⟩, rfl⟩
       refine Tops_yes rfl rfl (congrArg (fun b => some (Value.bool b)) hg25) (OpT_not rfl rfl rfl rfl) ?_
       rintro _ rfl
       refine Tops_step rfl (OpT_pickF rfl rfl rfl (congrArg (fun b => some (Value.bool b)) hg25) rfl) ?_
       refine Tops_step rfl (OpT_move rfl rfl rfl rfl) ?_
       obtain ⟨hg26, h⟩ := chk_e h
       replace hg26 := not_t hg26
       refine Tops_yes rfl rfl (congrArg (fun b => some (Value.bool b)) hg26) (OpT_move rfl rfl rfl rfl) ?_
       rintro _ rfl
       refine Tops_yes rfl rfl (congrArg (fun b => some (Value.bool b)) hg26) (OpT_move rfl rfl rfl rfl) ?_
       rintro _ rfl
       obtain ⟨same2, hx40, h⟩ := ob_e h
       refine Tops_yes rfl rfl (congrArg (fun b => some (Value.bool b)) hg26) (OpT_call (w_seg_Same hx40) [] [0, 1] rfl rfl rfl rfl rfl callee12 rfl rfl rfl rfl) ?_
       rintro _ ⟨_, _, _, ⟨rfl, rfl, rfl⟩, rfl⟩
       refine Tops_yes rfl rfl (congrArg (fun b => some (Value.bool b)) hg26) (OpT_move rfl rfl rfl rfl) ?_
       rintro _ rfl
       refine Tops_yes rfl rfl (congrArg (fun b => some (Value.bool b)) hg26) (OpT_move rfl rfl rfl rfl) ?_
       rintro _ rfl
       obtain ⟨samese6, hx41, h⟩ := ob_e h
       refine Tops_yes rfl rfl (congrArg (fun b => some (Value.bool b)) hg26) (OpT_call (w_kit_SameSegs hx41) [] [0, 1] rfl rfl rfl rfl rfl callee28 rfl rfl rfl rfl) ?_
       rintro _ ⟨_, _, _, ⟨rfl, rfl, rfl⟩, rfl⟩
       refine Tops_yes rfl rfl (congrArg (fun b => some (Value.bool b)) hg26) (OpT_bin rfl rfl rfl rfl rfl (bin_neq_b (a := same2) (b := samese6) Try.underlying4)) ?_
       rintro _ rfl
       refine Tops_step rfl (OpT_pickF rfl rfl rfl (congrArg (fun b => some (Value.bool b)) hg26) rfl) ?_
       refine Tops_nil ?_
       refine Tk_wkS (fr' := [(1, some (vl1)), (2, some (vop21)), (3, some (vb1)), (15, some (.pointer none)), (17, some (.pointer (some ⟨b1, 0, none⟩))), (18, some (vI new2.2)), (127, some (vB (same2 != samese6)))]) (own' := [some (cellsR b1 76 [v14, v15]), some (rowsX u8S false v15 vs1 mem1.B none)]) (shr' := [Fact.sl SegS vl1 l, Fact.sl SegS vop21 op2, Fact.sl u8S vb1 b, Fact.sl RegionS v14 mem1.L]) [1, 2, 3, 15, 17, 18, 127] [0, 1] [0, 1, 2, 3] rfl rfl rfl rfl ?_
       obtain ⟨hg27, h⟩ := chk_e h
       replace hg27 := not_t hg27
       refine Tk_condF (congrArg (fun b => some (Value.bool b)) hg27) ?_
       refine Tk_skip ?_
       refine Tk_seq ?_
       refine Tk_seq ?_
       refine Tk_region ?_
       refine Tops_step rfl (OpT_move rfl rfl rfl rfl) ?_
       refine Tops_step rfl (OpT_bin rfl rfl rfl rfl rfl (bin_neq_i (a := new2.2) (b := (0 : Int)))) ?_
       refine Tops_nil ?_
       refine Tk_wkS (fr' := [(1, some (vl1)), (2, some (vop21)), (3, some (vb1)), (15, some (.pointer none)), (17, some (.pointer (some ⟨b1, 0, none⟩))), (129, some (vB (new2.2 != (0 : Int))))]) (own' := [some (cellsR b1 76 [v14, v15]), some (rowsX u8S false v15 vs1 mem1.B none)]) (shr' := [Fact.sl SegS vl1 l, Fact.sl SegS vop21 op2, Fact.sl u8S vb1 b, Fact.sl RegionS v14 mem1.L]) [1, 2, 3, 15, 17, 129] [0, 1] [0, 1, 2, 3] rfl rfl rfl rfl ?_
       rcases Bool.eq_false_or_eq_true (new2.2 != (0 : Int)) with hg28 | hg28
       ·replace h := br_t hg28 h
        refine Tk_condT (congrArg (fun b => some (Value.bool b)) hg28) ?_
        refine Tk_seq ?_
        refine Tk_region ?_
        refine Tops_step rfl (OpT_assign rfl rfl rfl rfl) ?_
        refine Tops_nil ?_
        refine Tk_wkS (fr' := [(14, some (vB true))]) (own' := []) (shr' := []) [14] [] [] rfl rfl rfl rfl ?_
        exact Tk_retV rfl rfl (resA (vs := [.bool true]) rfl ⟨rfl, trivial⟩) [] [] rfl rfl rfl ⟨rfl, rfl, rfl⟩
       ·replace h := br_f hg28 h
        refine Tk_condF (congrArg (fun b => some (Value.bool b)) hg28) ?_
        refine Tk_skip ?_
        refine Tk_seq ?_
        refine Tk_region ?_
        refine Tops_step rfl (OpT_move rfl rfl rfl rfl) ?_
        refine Tops_step rfl (OpT_move rfl rfl rfl rfl) ?_
        obtain ⟨segs2, hx42, h⟩ := ob_e h
        refine Tops_exP rfl (OpT_call (w_kit_Segs hx42) [] [0] rfl rfl rfl rfl rfl callee31 rfl rfl rfl rfl) ?_
        rintro _ ⟨v20, _, _, ⟨_, rfl, rfl, rfl⟩, rfl⟩
        refine Tops_step rfl (OpT_move rfl rfl rfl rfl) ?_
        obtain ⟨own2, hx43, h⟩ := ob_e h
        refine Tops_exP rfl (OpT_call (w_kit_Own hx43) [] [2] rfl rfl rfl rfl rfl callee17 rfl rfl rfl rfl) ?_
        rintro _ ⟨v21, _, _, ⟨_, rfl, rfl, rfl⟩, rfl⟩
        obtain ⟨scatte3, hx44, h⟩ := ob_e h
        refine Tops_exP rfl (OpT_callB [2, 3] [0, 1, 2, 3] (w_seg_Scattern0 hx44) [] rfl rfl rfl rfl rfl callee18 rfl rfl rfl rfl rfl rfl (bor_cons (bor_row 2 rfl rfl) (bor_cons (bor_row 3 rfl rfl) bor_nil)) (by rintro _ _ _ ⟨rfl, rfl, rfl⟩; exact ⟨rfl, ri_nil⟩)) ?_
        rintro _ ⟨_, _, _, ⟨rfl, rfl, rfl⟩, rfl⟩
        refine Tops_step rfl (OpT_move rfl rfl rfl rfl) ?_
        refine Tops_step rfl (OpT_extract rfl rfl rfl rfl rfl) ?_
        refine Tops_step rfl (OpT_extract rfl rfl rfl rfl rfl) ?_
        refine Tops_step rfl (OpT_assign rfl rfl rfl rfl) ?_
        refine Tops_step rfl (OpT_assign rfl rfl rfl rfl) ?_
        refine Tops_nil ?_
        refine Tk_wkS (fr' := [(1, some (vl1)), (2, some (vop21)), (3, some (vb1)), (15, some (.pointer none)), (17, some (.pointer (some ⟨b1, 0, none⟩))), (23, some (vI scatte3.1)), (16, some (vI scatte3.2))]) (own' := [some (cellsR b1 76 [v14, v15]), some (rowsX u8S false v15 vs1 mem1.B none)]) (shr' := [Fact.sl SegS vl1 l, Fact.sl SegS vop21 op2, Fact.sl u8S vb1 b, Fact.sl RegionS v14 mem1.L]) [1, 2, 3, 15, 17, 23, 16] [0, 1] [0, 1, 2, 3] rfl rfl rfl rfl ?_
        refine Tk_seq ?_
        refine Tk_region ?_
        refine Tops_step rfl (OpT_move rfl rfl rfl rfl) ?_
        refine Tops_step rfl (OpT_move rfl rfl rfl rfl) ?_
        refine Tops_step rfl (OpT_move rfl rfl rfl rfl) ?_
        obtain ⟨scatte4, hx45, h⟩ := ob_e h
        refine Tops_exP rfl (OpT_callP [2, 3] (w_ref_Scatter05 hx45) [0, 1] [3, 0, 2] rfl rfl rfl rfl rfl callee32 rfl rfl rfl rfl rfl) ?_
        rintro _ ⟨_, _, _, ⟨rfl, rfl, rfl⟩, rfl⟩
        refine Tops_step rfl (OpT_move rfl rfl rfl rfl) ?_
        refine Tops_step rfl (OpT_extract rfl rfl rfl rfl rfl) ?_
        refine Tops_step rfl (OpT_extract rfl rfl rfl rfl rfl) ?_
        refine Tops_step rfl (OpT_assign rfl rfl rfl rfl) ?_
        refine Tops_step rfl (OpT_assign rfl rfl rfl rfl) ?_
        refine Tops_nil ?_
        refine Tk_wkS (fr' := [(2, some (vop21)), (15, some (.pointer none)), (17, some (.pointer (some ⟨b1, 0, none⟩))), (23, some (vI scatte3.1)), (16, some (vI scatte3.2)), (24, some (vI scatte4.1)), (18, some (vI scatte4.2.1))]) (own' := [some (cellsR b1 76 [v14, v15]), some (rowsX u8S false v15 vs1 scatte4.2.2 none)]) (shr' := [Fact.sl SegS vop21 op2, Fact.sl RegionS v14 mem1.L]) [2, 15, 17, 23, 16, 24, 18] [0, 1] [1, 3] rfl rfl rfl rfl ?_
        refine Tk_seq ?_
        refine Tk_region ?_
        refine Tops_step rfl (OpT_move rfl rfl rfl rfl) ?_
        refine Tops_step rfl (OpT_move rfl rfl rfl rfl) ?_
        obtain ⟨gather3, hx46, h⟩ := ob_e h
        refine Tops_exP rfl (OpT_call (w_seg_Gathern0 hx46) [] [0] rfl rfl rfl rfl rfl callee19 rfl rfl rfl rfl) ?_
        rintro _ ⟨_, _, _, ⟨v22, rfl, rfl, rfl⟩, rfl⟩
        refine Tops_step rfl (OpT_move rfl rfl rfl rfl) ?_
        refine Tops_step rfl (OpT_extract rfl rfl rfl rfl rfl) ?_
        refine Tops_step rfl (OpT_extract rfl rfl rfl rfl rfl) ?_
        refine Tops_step rfl (OpT_assign rfl rfl rfl rfl) ?_
        refine Tops_step rfl (OpT_assign rfl rfl rfl rfl) ?_
        refine Tops_nil ?_
        refine Tk_wkS (fr' := [(2, some (vop21)), (15, some (.pointer none)), (17, some (.pointer (some ⟨b1, 0, none⟩))), (23, some (vI scatte3.1)), (16, some (vI scatte3.2)), (24, some (vI scatte4.1)), (18, some (vI scatte4.2.1)), (25, some (v22)), (26, some (vI gather3.2))]) (own' := [some (cellsR b1 76 [v14, v15]), some (rowsX u8S false v15 vs1 scatte4.2.2 none), some (rowS u8S v22 gather3.1)]) (shr' := [Fact.sl SegS vop21 op2, Fact.sl RegionS v14 mem1.L]) [2, 15, 17, 23, 16, 24, 18, 25, 26] [0, 1, 2] [0, 1] rfl rfl rfl rfl ?_
        refine Tk_seq ?_
        refine Tk_region ?_
        refine Tops_step rfl (OpT_move rfl rfl rfl rfl) ?_
        refine Tops_step rfl (OpT_move rfl rfl rfl rfl) ?_
        obtain ⟨gather4, hx47, h⟩ := ob_e h
        refine Tops_exP rfl (OpT_callP [3, 4, 2, 5] (w_ref_Gather05 hx47) [0, 1] [1, 0] rfl rfl rfl rfl rfl callee33 rfl rfl rfl rfl rfl) ?_
        rintro _ ⟨_, _, _, ⟨v23, rfl, rfl, rfl⟩, rfl⟩
        refine Tops_step rfl (OpT_move rfl rfl rfl rfl) ?_
        refine Tops_step rfl (OpT_extract rfl rfl rfl rfl rfl) ?_
        refine Tops_step rfl (OpT_extract rfl rfl rfl rfl rfl) ?_
        refine Tops_step rfl (OpT_assign rfl rfl rfl rfl) ?_
        refine Tops_step rfl (OpT_assign rfl rfl rfl rfl) ?_
        refine Tops_nil ?_
        refine Tk_wkS (fr' := [(15, some (.pointer none)), (17, some (.pointer (some ⟨b1, 0, none⟩))), (23, some (vI scatte3.1)), (16, some (vI scatte3.2)), (24, some (vI scatte4.1)), (18, some (vI scatte4.2.1)), (25, some (v22)), (26, some (vI gather3.2)), (27, some (v23)), (28, some (vI gather4.2))]) (own' := [some (cellsR b1 76 [v14, v15]), some (rowsX u8S false v15 vs1 scatte4.2.2 none), some (rowS u8S v22 gather3.1), some (rowS u8S v23 gather4.1)]) (shr' := [Fact.sl RegionS v14 mem1.L]) [15, 17, 23, 16, 24, 18, 25, 26, 27, 28] [0, 1, 2, 3] [1] rfl rfl rfl rfl ?_
        refine Tk_seq ?_
        refine Tk_drawT (by kernel_rfl) ?_
        refine TA_tb [0, 0, 3, 7, 15, 15, 63, 127, 255, 511, 1023, 511, 2559, 8191, 16383, 32767, 65535, 65535, 262143, 524287, 1048575, 2097151, 4194303, 8388607, 2097151, 25165823, 58720255, 134217727, 268435455, 536870911] (by kernel_rfl) fun htb => ?_
        refine TA_seg (lo := 0) (hi := 2) htb rfl rfl (by kernel_rfl) (fun c L a w => Sat c ⟨[(15, some (.pointer none)), (17, some (.pointer (some ⟨b1, 0, none⟩))), (23, some (vI scatte3.1)), (16, some (vI scatte3.2)), (24, some (vI scatte4.1)), (18, some (vI scatte4.2.1)), (25, some (v22)), (26, some (vI gather3.2)), (27, some (v23)), (28, some (vI gather4.2)), (158, bif L 0 then some (vI scatte3.1) else none), (159, bif L 1 then some (vI scatte4.1) else none)], [(some (cellsR b1 76 [v14, v15]) : Option Res), (some (rowsX u8S false v15 vs1 scatte4.2.2 none) : Option Res), (some (rowS u8S v22 gather3.1) : Option Res), (some (rowS u8S v23 gather4.1) : Option Res)], [Fact.sl RegionS v14 mem1.L]⟩ a w) [([], []), ([], [])] rfl (by kernel_rfl) ?_ (steps_cons ?_ (steps_cons ?_ (steps_nil))) ?_
        ·intro a w hs
         exact hs.startF [158, 159] [0, 1, 2, 3] [0] rfl rfl rfl rfl
        ·intro L a w hv K Q hK
         have hs := hv
         refine wpOp_go rfl rfl hs (OpT_move rfl rfl rfl rfl) ?_
         rintro _ rfl a' w' hs'
         exact hK a' w' (hs'.putF (i := 10) rfl [0, 1, 2, 3] [0] rfl rfl rfl rfl)
        ·intro L a w hv K Q hK
         have hs := hv
         refine wpOp_go rfl rfl hs (OpT_move rfl rfl rfl rfl) ?_
         rintro _ rfl a' w' hs'
         exact hK a' w' (hs'.putF (i := 11) rfl [0, 1, 2, 3] [0] rfl rfl rfl rfl)
        ·intro L a w hL hv
         rw [allTrue hL] at hv
         have hs := hv
         refine (show TA _ _ _ 2 ⟨[(15, some (.pointer none)), (17, some (.pointer (some ⟨b1, 0, none⟩))), (16, some (vI scatte3.2)), (18, some (vI scatte4.2.1)), (25, some (v22)), (26, some (vI gather3.2)), (27, some (v23)), (28, some (vI gather4.2)), (158, some (vI scatte3.1)), (159, some (vI scatte4.1))], [some (cellsR b1 76 [v14, v15]), some (rowsX u8S false v15 vs1 scatte4.2.2 none), some (rowS u8S v22 gather3.1), some (rowS u8S v23 gather4.1)], [Fact.sl RegionS v14 mem1.L]⟩ from ?_) a w (hs.wkS [15, 17, 16, 18, 25, 26, 27, 28, 158, 159] [0, 1, 2, 3] [0] rfl rfl rfl rfl)
         clear hs hL
         refine TA_step htb (by kernel_rfl) rfl rfl (OpT_bin rfl rfl rfl rfl rfl (bin_eql_i (a := scatte3.1) (b := scatte4.1))) ?_
         refine TA_step htb (by kernel_rfl) rfl rfl (OpT_move rfl rfl rfl rfl) ?_
         refine TA_wkS (fr' := [(15, some (.pointer none)), (17, some (.pointer (some ⟨b1, 0, none⟩))), (16, some (vI scatte3.2)), (18, some (vI scatte4.2.1)), (25, some (v22)), (26, some (vI gather3.2)), (27, some (v23)), (28, some (vI gather4.2)), (161, some (vB (scatte3.1 == scatte4.1)))]) (own' := [some (cellsR b1 76 [v14, v15]), some (rowsX u8S false v15 vs1 scatte4.2.2 none), some (rowS u8S v22 gather3.1), some (rowS u8S v23 gather4.1)]) (shr' := [Fact.sl RegionS v14 mem1.L]) [15, 17, 16, 18, 25, 26, 27, 28, 161] [0, 1, 2, 3] [0] rfl rfl rfl rfl ?_
         obtain ⟨hg29, h⟩ := chk_e h
         refine TA_seg (lo := 4) (hi := 6) htb rfl rfl (by kernel_rfl) (fun c L a w => Sat c ⟨[(15, some (.pointer none)), (17, some (.pointer (some ⟨b1, 0, none⟩))), (16, some (vI scatte3.2)), (18, some (vI scatte4.2.1)), (25, some (v22)), (26, some (vI gather3.2)), (27, some (v23)), (28, some (vI gather4.2)), (161, some (vB (scatte3.1 == scatte4.1))), (162, bif L 4 then some (vI scatte3.2) else none), (163, bif L 5 then some (vI scatte4.2.1) else none)], [(some (cellsR b1 76 [v14, v15]) : Option Res), (some (rowsX u8S false v15 vs1 scatte4.2.2 none) : Option Res), (some (rowS u8S v22 gather3.1) : Option Res), (some (rowS u8S v23 gather4.1) : Option Res)], [Fact.sl RegionS v14 mem1.L]⟩ a w) [([], []), ([], [])] rfl (by kernel_rfl) ?_ (steps_cons ?_ (steps_cons ?_ (steps_nil))) ?_
         ·intro a w hs
          exact hs.startF [162, 163] [0, 1, 2, 3] [0] rfl rfl rfl rfl
         ·intro L a w hv K Q hK
          have hs := hv
          refine wpOp_yes rfl rfl rfl hs (congrArg (fun b => some (Value.bool b)) hg29) (OpT_move rfl rfl rfl rfl) ?_
          rintro _ rfl a' w' hs'
          exact hK a' w' (hs'.putF (i := 9) rfl [0, 1, 2, 3] [0] rfl rfl rfl rfl)
         ·intro L a w hv K Q hK
          have hs := hv
          refine wpOp_yes rfl rfl rfl hs (congrArg (fun b => some (Value.bool b)) hg29) (OpT_move rfl rfl rfl rfl) ?_
          rintro _ rfl a' w' hs'
          exact hK a' w' (hs'.putF (i := 10) rfl [0, 1, 2, 3] [0] rfl rfl rfl rfl)
         ·intro L a w hL hv
          rw [allTrue hL] at hv
          have hs := hv
          refine (show TA _ _ _ 6 ⟨[(15, some (.pointer none)), (17, some (.pointer (some ⟨b1, 0, none⟩))), (25, some (v22)), (26, some (vI gather3.2)), (27, some (v23)), (28, some (vI gather4.2)), (161, some (vB (scatte3.1 == scatte4.1))), (162, some (vI scatte3.2)), (163, some (vI scatte4.2.1))], [some (cellsR b1 76 [v14, v15]), some (rowsX u8S false v15 vs1 scatte4.2.2 none), some (rowS u8S v22 gather3.1), some (rowS u8S v23 gather4.1)], [Fact.sl RegionS v14 mem1.L]⟩ from ?_) a w (hs.wkS [15, 17, 25, 26, 27, 28, 161, 162, 163] [0, 1, 2, 3] [0] rfl rfl rfl rfl)
          clear hs hL
          refine TA_yes htb (by kernel_rfl) rfl rfl rfl (congrArg (fun b => some (Value.bool b)) hg29) (OpT_bin rfl rfl rfl rfl rfl (bin_eql_i (a := scatte3.2) (b := scatte4.2.1))) ?_
          rintro _ rfl
          refine TA_step htb (by kernel_rfl) rfl rfl (OpT_pickT rfl rfl rfl (congrArg (fun b => some (Value.bool b)) hg29) rfl) ?_
          refine TA_step htb (by kernel_rfl) rfl rfl (OpT_move rfl rfl rfl rfl) ?_
          refine TA_wkS (fr' := [(15, some (.pointer none)), (17, some (.pointer (some ⟨b1, 0, none⟩))), (25, some (v22)), (26, some (vI gather3.2)), (27, some (v23)), (28, some (vI gather4.2)), (166, some (vB (scatte3.2 == scatte4.2.1)))]) (own' := [some (cellsR b1 76 [v14, v15]), some (rowsX u8S false v15 vs1 scatte4.2.2 none), some (rowS u8S v22 gather3.1), some (rowS u8S v23 gather4.1)]) (shr' := [Fact.sl RegionS v14 mem1.L]) [15, 17, 25, 26, 27, 28, 166] [0, 1, 2, 3] [0] rfl rfl rfl rfl ?_
          refine TA_retire (i := 2) rfl ?_
          refine TA_retire (i := 3) rfl ?_
          obtain ⟨hg30, h⟩ := chk_e h
          refine TA_seg (lo := 9) (hi := 13) htb rfl rfl (by kernel_rfl) (fun c L a w => Sat c ⟨[(15, some (.pointer none)), (17, some (.pointer (some ⟨b1, 0, none⟩))), (25, some (v22)), (26, some (vI gather3.2)), (27, some (v23)), (28, some (vI gather4.2)), (166, some (vB (scatte3.2 == scatte4.2.1))), (167, bif L 9 then some (v22) else none), (168, bif L 10 then some (vS gather3.1) else none), (169, bif L 11 then some (v23) else none), (170, bif L 12 then some (vS gather4.1) else none)], [(some (cellsR b1 76 [v14, v15]) : Option Res), (some (rowsX u8S false v15 vs1 scatte4.2.2 none) : Option Res), (none : Option Res), (none : Option Res)], [Fact.sl RegionS v14 mem1.L, Fact.sl u8S v22 gather3.1, Fact.sl u8S v23 gather4.1]⟩ a w) [([], [10]), ([9], []), ([], [12]), ([11], [])] rfl (by kernel_rfl) ?_ (steps_cons ?_ (steps_cons ?_ (steps_cons ?_ (steps_cons ?_ (steps_nil))))) ?_
          ·intro a w hs
           exact hs.startF [167, 168, 169, 170] [0, 1, 2, 3] [0, 1, 2] rfl rfl rfl rfl
          ·intro L a w hv K Q hK
           have hs := hv
           refine wpOp_yes rfl rfl rfl hs (congrArg (fun b => some (Value.bool b)) hg30) (OpT_move rfl rfl rfl rfl) ?_
           rintro _ rfl a' w' hs'
           exact hK a' w' (hs'.putF (i := 7) rfl [0, 1, 2, 3] [0, 1, 2] rfl rfl rfl rfl)
          ·intro L a w hv K Q hK
           have hs := hv
           refine wpOp_yes rfl rfl rfl hs (congrArg (fun b => some (Value.bool b)) hg30) (OpT_strS rfl rfl rfl rfl Try.underlying33 Try.underlying5 Try.underlying9 (i := 1) rfl) ?_
           rintro _ rfl a' w' hs'
           exact hK a' w' (hs'.putF (i := 8) rfl [0, 1, 2, 3] [0, 1, 2] rfl rfl rfl rfl)
          ·intro L a w hv K Q hK
           have hs := hv
           refine wpOp_yes rfl rfl rfl hs (congrArg (fun b => some (Value.bool b)) hg30) (OpT_move rfl rfl rfl rfl) ?_
           rintro _ rfl a' w' hs'
           exact hK a' w' (hs'.putF (i := 9) rfl [0, 1, 2, 3] [0, 1, 2] rfl rfl rfl rfl)
          ·intro L a w hv K Q hK
           have hs := hv
           refine wpOp_yes rfl rfl rfl hs (congrArg (fun b => some (Value.bool b)) hg30) (OpT_strS rfl rfl rfl rfl Try.underlying33 Try.underlying5 Try.underlying9 (i := 2) rfl) ?_
           rintro _ rfl a' w' hs'
           exact hK a' w' (hs'.putF (i := 10) rfl [0, 1, 2, 3] [0, 1, 2] rfl rfl rfl rfl)
          ·intro L a w hL hv
           rw [allTrue hL] at hv
           have hs := hv
           refine (show TA _ _ _ 13 ⟨[(15, some (.pointer none)), (17, some (.pointer (some ⟨b1, 0, none⟩))), (26, some (vI gather3.2)), (28, some (vI gather4.2)), (166, some (vB (scatte3.2 == scatte4.2.1))), (168, some (vS gather3.1)), (170, some (vS gather4.1))], [some (cellsR b1 76 [v14, v15]), some (rowsX u8S false v15 vs1 scatte4.2.2 none)], [Fact.sl RegionS v14 mem1.L]⟩ from ?_) a w (hs.wkS [15, 17, 26, 28, 166, 168, 170] [0, 1] [0] rfl rfl rfl rfl)
           clear hs hL
           refine TA_yes htb (by kernel_rfl) rfl rfl rfl (congrArg (fun b => some (Value.bool b)) hg30) (OpT_bin rfl rfl rfl rfl rfl (bin_eql_s (a := gather3.1) (b := gather4.1))) ?_
           rintro _ rfl
           refine TA_step htb (by kernel_rfl) rfl rfl (OpT_pickT rfl rfl rfl (congrArg (fun b => some (Value.bool b)) hg30) rfl) ?_
           refine TA_step htb (by kernel_rfl) rfl rfl (OpT_move rfl rfl rfl rfl) ?_
           refine TA_wkS (fr' := [(15, some (.pointer none)), (17, some (.pointer (some ⟨b1, 0, none⟩))), (26, some (vI gather3.2)), (28, some (vI gather4.2)), (173, some (vB (gather3.1 == gather4.1)))]) (own' := [some (cellsR b1 76 [v14, v15]), some (rowsX u8S false v15 vs1 scatte4.2.2 none)]) (shr' := [Fact.sl RegionS v14 mem1.L]) [15, 17, 26, 28, 173] [0, 1] [0] rfl rfl rfl rfl ?_
           obtain ⟨hg31, h⟩ := chk_e h
           refine TA_seg (lo := 16) (hi := 18) htb rfl rfl (by kernel_rfl) (fun c L a w => Sat c ⟨[(15, some (.pointer none)), (17, some (.pointer (some ⟨b1, 0, none⟩))), (26, some (vI gather3.2)), (28, some (vI gather4.2)), (173, some (vB (gather3.1 == gather4.1))), (174, bif L 16 then some (vI gather3.2) else none), (175, bif L 17 then some (vI gather4.2) else none)], [(some (cellsR b1 76 [v14, v15]) : Option Res), (some (rowsX u8S false v15 vs1 scatte4.2.2 none) : Option Res)], [Fact.sl RegionS v14 mem1.L]⟩ a w) [([], []), ([], [])] rfl (by kernel_rfl) ?_ (steps_cons ?_ (steps_cons ?_ (steps_nil))) ?_
           ·intro a w hs
            exact hs.startF [174, 175] [0, 1] [0] rfl rfl rfl rfl
           ·intro L a w hv K Q hK
            have hs := hv
            refine wpOp_yes rfl rfl rfl hs (congrArg (fun b => some (Value.bool b)) hg31) (OpT_move rfl rfl rfl rfl) ?_
            rintro _ rfl a' w' hs'
            exact hK a' w' (hs'.putF (i := 5) rfl [0, 1] [0] rfl rfl rfl rfl)
           ·intro L a w hv K Q hK
            have hs := hv
            refine wpOp_yes rfl rfl rfl hs (congrArg (fun b => some (Value.bool b)) hg31) (OpT_move rfl rfl rfl rfl) ?_
            rintro _ rfl a' w' hs'
            exact hK a' w' (hs'.putF (i := 6) rfl [0, 1] [0] rfl rfl rfl rfl)
           ·intro L a w hL hv
            rw [allTrue hL] at hv
            have hs := hv
            refine (show TA _ _ _ 18 ⟨[(15, some (.pointer none)), (17, some (.pointer (some ⟨b1, 0, none⟩))), (173, some (vB (gather3.1 == gather4.1))), (174, some (vI gather3.2)), (175, some (vI gather4.2))], [some (cellsR b1 76 [v14, v15]), some (rowsX u8S false v15 vs1 scatte4.2.2 none)], [Fact.sl RegionS v14 mem1.L]⟩ from ?_) a w (hs.wkS [15, 17, 173, 174, 175] [0, 1] [0] rfl rfl rfl rfl)
            clear hs hL
            refine TA_yes htb (by kernel_rfl) rfl rfl rfl (congrArg (fun b => some (Value.bool b)) hg31) (OpT_bin rfl rfl rfl rfl rfl (bin_eql_i (a := gather3.2) (b := gather4.2))) ?_
            rintro _ rfl
            refine TA_step htb (by kernel_rfl) rfl rfl (OpT_pickT rfl rfl rfl (congrArg (fun b => some (Value.bool b)) hg31) rfl) ?_
            refine TA_step htb (by kernel_rfl) rfl rfl (OpT_move rfl rfl rfl rfl) ?_
            refine TA_wkS (fr' := [(15, some (.pointer none)), (17, some (.pointer (some ⟨b1, 0, none⟩))), (178, some (vB (gather3.2 == gather4.2)))]) (own' := [some (cellsR b1 76 [v14, v15]), some (rowsX u8S false v15 vs1 scatte4.2.2 none)]) (shr' := [Fact.sl RegionS v14 mem1.L]) [15, 17, 178] [0, 1] [0] rfl rfl rfl rfl ?_
            obtain ⟨hg32, h⟩ := chk_e h
            obtain ⟨image3, hx48, h⟩ := ob_e h
            obtain ⟨image4, hx49, h⟩ := ob_e h
            refine TA_seg (lo := 21) (hi := 27) htb rfl rfl (by kernel_rfl) (fun c L a w => ∃ (v24 : Value), ∃ (v25 : Value), Sat c ⟨[(15, some (.pointer none)), (17, some (.pointer (some ⟨b1, 0, none⟩))), (178, some (vB (gather3.2 == gather4.2))), (179, bif L 21 then some (.pointer none) else none), (180, bif L 22 then some (v24) else none), (181, bif L 23 then some (vS image3) else none), (182, bif L 24 then some (.pointer (some ⟨b1, 0, none⟩)) else none), (183, bif L 25 then some (v25) else none), (184, bif L 26 then some (vS image4) else none)], [(some (cellsR b1 76 [v14, v15]) : Option Res), (some (rowsX u8S false v15 vs1 scatte4.2.2 none) : Option Res)], [Fact.sl RegionS v14 mem1.L, (bif L 22 then Fact.sl u8S v24 image3 else Fact.tt), (bif L 25 then Fact.sl u8S v25 image4 else Fact.tt)]⟩ a w) [([], [22, 23, 25, 26]), ([21], [23, 25, 26]), ([21, 22], []), ([], [25, 26]), ([21, 22, 24], [26]), ([21, 22, 24, 25], [])] rfl (by kernel_rfl) ?_ (steps_cons ?_ (steps_cons ?_ (steps_cons ?_ (steps_cons ?_ (steps_cons ?_ (steps_cons ?_ (steps_nil))))))) ?_
            ·intro a w hs
             exact ⟨undef, undef, hs.startF [179, 180, 181, 182, 183, 184] [0, 1] [0, 1, 2] rfl rfl rfl rfl⟩
            ·intro L a w hv K Q hK
             obtain ⟨v24, v25, hs⟩ := hv
             refine wpOp_yes rfl rfl rfl hs (congrArg (fun b => some (Value.bool b)) hg32) (OpT_move rfl rfl rfl rfl) ?_
             rintro _ rfl a' w' hs'
             exact hK a' w' ⟨v24, v25, hs'.putF (i := 3) rfl [0, 1] [0, 1, 2] rfl rfl rfl rfl⟩
            ·intro L a w hv K Q hK
             obtain ⟨v24, v25, hs⟩ := hv
             refine wpOp_yes rfl rfl rfl hs (congrArg (fun b => some (Value.bool b)) hg32) (OpT_call (ws_gmem_Mem_Imagen0 hx48) [] [] rfl rfl rfl rfl rfl callee20 rfl rfl rfl rfl) ?_
             rintro _ ⟨v24', _, _, ⟨_, rfl, rfl, rfl⟩, rfl⟩ a' w' hs'
             exact hK a' w' ⟨v24', v25, hs'.putF (i := 4) rfl [0, 1] [0, 3, 2] rfl rfl rfl rfl⟩
            ·intro L a w hv K Q hK
             obtain ⟨v24, v25, hs⟩ := hv
             refine wpOp_yes rfl rfl rfl hs (congrArg (fun b => some (Value.bool b)) hg32) (OpT_strS rfl rfl rfl rfl Try.underlying33 Try.underlying5 Try.underlying9 (i := 1) rfl) ?_
             rintro _ rfl a' w' hs'
             exact hK a' w' ⟨v24, v25, hs'.putF (i := 5) rfl [0, 1] [0, 1, 2] rfl rfl rfl rfl⟩
            ·intro L a w hv K Q hK
             obtain ⟨v24, v25, hs⟩ := hv
             refine wpOp_yes rfl rfl rfl hs (congrArg (fun b => some (Value.bool b)) hg32) (OpT_move rfl rfl rfl rfl) ?_
             rintro _ rfl a' w' hs'
             exact hK a' w' ⟨v24, v25, hs'.putF (i := 6) rfl [0, 1] [0, 1, 2] rfl rfl rfl rfl⟩
            ·intro L a w hv K Q hK
             obtain ⟨v24, v25, hs⟩ := hv
             refine wpOp_yes rfl rfl rfl hs (congrArg (fun b => some (Value.bool b)) hg32) (OpT_callP [2, 3] (ws_ref_Mem_Image02 hx49) [0, 1] [0] rfl rfl rfl rfl rfl callee34 rfl rfl rfl rfl rfl) ?_
             rintro _ ⟨v25', _, _, ⟨_, rfl, rfl, rfl⟩, rfl⟩ a' w' hs'
             exact hK a' w' ⟨v24, v25', hs'.putF (i := 7) rfl [0, 1] [0, 1, 3] rfl rfl rfl rfl⟩
            ·intro L a w hv K Q hK
             obtain ⟨v24, v25, hs⟩ := hv
             refine wpOp_yes rfl rfl rfl hs (congrArg (fun b => some (Value.bool b)) hg32) (OpT_strS rfl rfl rfl rfl Try.underlying33 Try.underlying5 Try.underlying9 (i := 2) rfl) ?_
             rintro _ rfl a' w' hs'
             exact hK a' w' ⟨v24, v25, hs'.putF (i := 8) rfl [0, 1] [0, 1, 2] rfl rfl rfl rfl⟩
            ·intro L a w hL hv
             rw [allTrue hL] at hv
             obtain ⟨v24, v25, hs⟩ := hv
             refine (show TA _ _ _ 27 ⟨[(178, some (vB (gather3.2 == gather4.2))), (181, some (vS image3)), (184, some (vS image4))], [], []⟩ from ?_) a w (hs.wkS [178, 181, 184] [] [] rfl rfl rfl rfl)
             clear hs hL
             refine TA_yes htb (by kernel_rfl) rfl rfl rfl (congrArg (fun b => some (Value.bool b)) hg32) (OpT_bin rfl rfl rfl rfl rfl (bin_eql_s (a := image3) (b := image4))) ?_
             rintro _ rfl
             refine TA_step htb (by kernel_rfl) rfl rfl (OpT_pickT rfl rfl rfl (congrArg (fun b => some (Value.bool b)) hg32) rfl) ?_
             refine TA_step htb (by kernel_rfl) rfl rfl (OpT_assign rfl rfl rfl rfl) ?_
             refine TA_end rfl ?_
             refine Tk_wkS (fr' := [(14, some (vB (image3 == image4)))]) (own' := []) (shr' := []) [14] [] [] rfl rfl rfl rfl ?_
             obtain ⟨hg33, h⟩ := chk_e h
             exact Tk_retV rfl rfl (resA (vs := [.bool true]) rfl ⟨(congrArg (fun b => some (Value.bool b)) hg33), trivial⟩) [] [] rfl rfl rfl ⟨rfl, rfl, rfl⟩
     ·refine Tk_optS (i := 0) rfl ho1 ?_
      rintro b2 v26 v27 vs2 rfl
      refine Tk_seq ?_
      refine Tk_region ?_
      refine Tops_step rfl (OpT_move rfl rfl rfl rfl) ?_
      obtain ⟨new3, hx50, h⟩ := ob_e h
      refine Tops_exP rfl (OpT_call (w_ref_New02 hx50) [] [0] rfl rfl rfl rfl rfl callee24 rfl rfl rfl rfl) ?_
      rintro _ ⟨_, _, _, ⟨v28, rfl, rfl, rfl⟩, rfl⟩
      refine Tops_step rfl (OpT_move rfl rfl rfl rfl) ?_
      refine Tops_step rfl (OpT_extract rfl rfl rfl rfl rfl) ?_
      refine Tops_step rfl (OpT_extract rfl rfl rfl rfl rfl) ?_
      refine Tops_step rfl (OpT_assign rfl rfl rfl rfl) ?_
      refine Tops_step rfl (OpT_assign rfl rfl rfl rfl) ?_
      refine Tops_nil ?_
      refine Tk_wkS (fr' := [(1, some (vl1)), (2, some (vop21)), (3, some (vb1)), (4, some (vU64 fromp4)), (5, some (vU64 np5)), (6, some (vB write)), (15, some (.pointer (some ⟨b2, 0, none⟩))), (16, some (vI new1.2)), (17, some (v28)), (18, some (vI new3.2))]) (own' := [some (cellsR b2 71 [v26, v27]), some (rowsX u8S true v27 vs2 mem2.b none), some (optR 76 RegionS u8S false dumbwaiterref02_Mem.L dumbwaiterref02_Mem.B v28 new3.1)]) (shr' := [Fact.sl SegS vl1 l, Fact.sl SegS vop21 op2, Fact.sl u8S vb1 b, Fact.sl RegionS v26 mem2.l]) [1, 2, 3, 4, 5, 6, 15, 16, 17, 18] [0, 1, 2] [1, 2, 3, 4] rfl rfl rfl rfl ?_
      rcases onO_cases h with ⟨ho3, h⟩ | ⟨mem3, ho3, h⟩
      ·refine Tk_optN (i := 2) rfl ho3 ?_
       rintro rfl
       refine Tk_seq ?_
       refine Tk_seq ?_
       refine Tk_region ?_
       refine Tops_step rfl (OpT_move rfl rfl rfl rfl) ?_
       refine Tops_step rfl (OpT_move rfl rfl rfl rfl) ?_
       refine Tops_step rfl (OpT_bin rfl rfl rfl rfl rfl (bin_neq_i (a := new1.2) (b := new3.2))) ?_
       refine Tops_nil ?_
       refine Tk_wkS (fr' := [(1, some (vl1)), (2, some (vop21)), (3, some (vb1)), (4, some (vU64 fromp4)), (5, some (vU64 np5)), (6, some (vB write)), (15, some (.pointer (some ⟨b2, 0, none⟩))), (17, some (.pointer none)), (18, some (vI new3.2)), (62, some (vB (new1.2 != new3.2)))]) (own' := [some (cellsR b2 71 [v26, v27]), some (rowsX u8S true v27 vs2 mem2.b none)]) (shr' := [Fact.sl SegS vl1 l, Fact.sl SegS vop21 op2, Fact.sl u8S vb1 b, Fact.sl RegionS v26 mem2.l]) [1, 2, 3, 4, 5, 6, 15, 17, 18, 62] [0, 1] [0, 1, 2, 3] rfl rfl rfl rfl ?_
       obtain ⟨hg34, h⟩ := chk_e h
       replace hg34 := not_t hg34
       refine Tk_condF (congrArg (fun b => some (Value.bool b)) hg34) ?_
       refine Tk_skip ?_
       refine Tk_seq ?_
       refine Tk_region ?_
       refine Tops_step rfl (OpT_move rfl rfl rfl rfl) ?_
       obtain ⟨total5, hx51, h⟩ := ob_e h
       refine Tops_exP rfl (OpT_call (w_seg_Total hx51) [] [0] rfl rfl rfl rfl rfl callee10 rfl rfl rfl rfl) ?_
       rintro _ ⟨_, _, _, ⟨rfl, rfl, rfl⟩, rfl⟩
       refine Tops_step rfl (OpT_move rfl rfl rfl rfl) ?_
       refine Tops_step rfl (OpT_extract rfl rfl rfl rfl rfl) ?_
       refine Tops_step rfl (OpT_extract rfl rfl rfl rfl rfl) ?_
       refine Tops_step rfl (OpT_assign rfl rfl rfl rfl) ?_
       refine Tops_step rfl (OpT_assign rfl rfl rfl rfl) ?_
       refine Tops_nil ?_
       refine Tk_wkS (fr' := [(1, some (vl1)), (2, some (vop21)), (3, some (vb1)), (4, some (vU64 fromp4)), (5, some (vU64 np5)), (6, some (vB write)), (15, some (.pointer (some ⟨b2, 0, none⟩))), (17, some (.pointer none)), (18, some (vI new3.2)), (19, some (vU64 total5.1)), (20, some (vU64 total5.2))]) (own' := [some (cellsR b2 71 [v26, v27]), some (rowsX u8S true v27 vs2 mem2.b none)]) (shr' := [Fact.sl SegS vl1 l, Fact.sl SegS vop21 op2, Fact.sl u8S vb1 b, Fact.sl RegionS v26 mem2.l]) [1, 2, 3, 4, 5, 6, 15, 17, 18, 19, 20] [0, 1] [0, 1, 2, 3] rfl rfl rfl rfl ?_
       refine Tk_seq ?_
       refine Tk_region ?_
       refine Tops_step rfl (OpT_move rfl rfl rfl rfl) ?_
       obtain ⟨total6, hx52, h⟩ := ob_e h
       refine Tops_exP rfl (OpT_call (w_ref_Total05 hx52) [] [0] rfl rfl rfl rfl rfl callee25 rfl rfl rfl rfl) ?_
       rintro _ ⟨_, _, _, ⟨rfl, rfl, rfl⟩, rfl⟩
       refine Tops_step rfl (OpT_move rfl rfl rfl rfl) ?_
       refine Tops_step rfl (OpT_extract rfl rfl rfl rfl rfl) ?_
       refine Tops_step rfl (OpT_extract rfl rfl rfl rfl rfl) ?_
       refine Tops_step rfl (OpT_assign rfl rfl rfl rfl) ?_
       refine Tops_step rfl (OpT_assign rfl rfl rfl rfl) ?_
       refine Tops_nil ?_
       refine Tk_wkS (fr' := [(1, some (vl1)), (2, some (vop21)), (3, some (vb1)), (4, some (vU64 fromp4)), (5, some (vU64 np5)), (6, some (vB write)), (15, some (.pointer (some ⟨b2, 0, none⟩))), (17, some (.pointer none)), (18, some (vI new3.2)), (19, some (vU64 total5.1)), (20, some (vU64 total5.2)), (21, some (vU64 total6.1)), (22, some (vU64 total6.2))]) (own' := [some (cellsR b2 71 [v26, v27]), some (rowsX u8S true v27 vs2 mem2.b none)]) (shr' := [Fact.sl SegS vl1 l, Fact.sl SegS vop21 op2, Fact.sl u8S vb1 b, Fact.sl RegionS v26 mem2.l]) [1, 2, 3, 4, 5, 6, 15, 17, 18, 19, 20, 21, 22] [0, 1] [0, 1, 2, 3] rfl rfl rfl rfl ?_
       refine Tk_seq ?_
       refine Tk_seq ?_
       refine Tk_region ?_
       refine Tops_step rfl (OpT_move rfl rfl rfl rfl) ?_
       refine Tops_step rfl (OpT_move rfl rfl rfl rfl) ?_
       refine Tops_step rfl (OpT_bin rfl rfl rfl rfl rfl (bin_neq_u64 (a := total5.1) (b := total6.1))) ?_
       refine Tops_step rfl (OpT_move rfl rfl rfl rfl) ?_
       obtain ⟨hg35, h⟩ := chk_e h
       replace hg35 := not_t hg35
       refine Tops_yes rfl rfl (congrArg (fun b => some (Value.bool b)) hg35) (OpT_move rfl rfl rfl rfl) ?_
       rintro _ rfl
       refine Tops_yes rfl rfl (congrArg (fun b => some (Value.bool b)) hg35) (OpT_move rfl rfl rfl rfl) ?_
       rintro _ rfl
       refine Tops_yes rfl rfl (congrArg (fun b => some (Value.bool b)) hg35) (OpT_bin rfl rfl rfl rfl rfl (bin_neq_u64 (a := total5.2) (b := total6.2))) ?_
       rintro _ rfl
       refine Tops_step rfl (OpT_pickF rfl rfl rfl (congrArg (fun b => some (Value.bool b)) hg35) rfl) ?_
       refine Tops_step rfl (OpT_move rfl rfl rfl rfl) ?_
       obtain ⟨hg36, h⟩ := chk_e h
       replace hg36 := not_t hg36
       refine Tops_yes rfl rfl (congrArg (fun b => some (Value.bool b)) hg36) (OpT_move rfl rfl rfl rfl) ?_
       rintro _ rfl
       obtain ⟨check5, hx53, h⟩ := ob_e h
       refine Tops_yes rfl rfl (congrArg (fun b => some (Value.bool b)) hg36) (OpT_call (w_seg_Check hx53) [] [0] rfl rfl rfl rfl rfl callee9 rfl rfl rfl rfl) ?_
       rintro _ ⟨_, _, _, ⟨rfl, rfl, rfl⟩, rfl⟩
       refine Tops_yes rfl rfl (congrArg (fun b => some (Value.bool b)) hg36) (OpT_move rfl rfl rfl rfl) ?_
       rintro _ rfl
       obtain ⟨check6, hx54, h⟩ := ob_e h
       refine Tops_yes rfl rfl (congrArg (fun b => some (Value.bool b)) hg36) (OpT_call (w_ref_Check05 hx54) [] [0] rfl rfl rfl rfl rfl callee26 rfl rfl rfl rfl) ?_
       rintro _ ⟨_, _, _, ⟨rfl, rfl, rfl⟩, rfl⟩
       refine Tops_yes rfl rfl (congrArg (fun b => some (Value.bool b)) hg36) (OpT_bin rfl rfl rfl rfl rfl (bin_neq_i (a := check5) (b := check6))) ?_
       rintro _ rfl
       refine Tops_step rfl (OpT_pickF rfl rfl rfl (congrArg (fun b => some (Value.bool b)) hg36) rfl) ?_
       refine Tops_step rfl (OpT_move rfl rfl rfl rfl) ?_
       obtain ⟨hg37, h⟩ := chk_e h
       replace hg37 := not_t hg37
       refine Tops_yes rfl rfl (congrArg (fun b => some (Value.bool b)) hg37) (OpT_move rfl rfl rfl rfl) ?_
       rintro _ rfl
       refine Tops_yes rfl rfl (congrArg (fun b => some (Value.bool b)) hg37) (OpT_move rfl rfl rfl rfl) ?_
       rintro _ rfl
       obtain ⟨in5, hx55, h⟩ := ob_e h
       refine Tops_yes rfl rfl (congrArg (fun b => some (Value.bool b)) hg37) (OpT_callP [2, 3] (w_seg_In hx55) [0, 1] [3, 0] rfl rfl rfl rfl rfl callee15 rfl rfl rfl rfl rfl) ?_
       rintro _ ⟨_, _, _, ⟨rfl, rfl, rfl⟩, rfl⟩
       refine Tops_yes rfl rfl (congrArg (fun b => some (Value.bool b)) hg37) (OpT_move rfl rfl rfl rfl) ?_
       rintro _ rfl
       refine Tops_yes rfl rfl (congrArg (fun b => some (Value.bool b)) hg37) (OpT_move rfl rfl rfl rfl) ?_
       rintro _ rfl
       obtain ⟨in6, hx56, h⟩ := ob_e h
       refine Tops_yes rfl rfl (congrArg (fun b => some (Value.bool b)) hg37) (OpT_call (w_ref_In05n0 hx56) [] [0] rfl rfl rfl rfl rfl callee27 rfl rfl rfl rfl) ?_
       rintro _ ⟨_, _, _, ⟨rfl, rfl, rfl⟩, rfl⟩
       refine Tops_yes rfl rfl (congrArg (fun b => some (Value.bool b)) hg37) (OpT_bin rfl rfl rfl rfl rfl (bin_neq_i (a := in5) (b := in6))) ?_
       rintro _ rfl
       refine Tops_step rfl (OpT_pickF rfl rfl rfl (congrArg (fun b => some (Value.bool b)) hg37) rfl) ?_
       refine Tops_step rfl (OpT_move rfl rfl rfl rfl) ?_
       obtain ⟨hg38, h⟩ := chk_e h
       replace hg38 := not_t hg38
       refine Tops_yes rfl rfl (congrArg (fun b => some (Value.bool b)) hg38) (OpT_move rfl rfl rfl rfl) ?_
       rintro _ rfl
       refine Tops_yes rfl rfl (congrArg (fun b => some (Value.bool b)) hg38) (OpT_move rfl rfl rfl rfl) ?_
       rintro _ rfl
       obtain ⟨part5, hx57, h⟩ := ob_e h
       refine Tops_yes rfl rfl (congrArg (fun b => some (Value.bool b)) hg38) (OpT_call (w_seg_Part hx57) [] [0] rfl rfl rfl rfl rfl callee13 rfl rfl rfl rfl) ?_
       rintro _ ⟨v29, _, _, ⟨_, rfl, rfl, rfl⟩, rfl⟩
       refine Tops_yes rfl rfl (congrArg (fun b => some (Value.bool b)) hg38) (OpT_move rfl rfl rfl rfl) ?_
       rintro _ rfl
       refine Tops_yes rfl rfl (congrArg (fun b => some (Value.bool b)) hg38) (OpT_move rfl rfl rfl rfl) ?_
       rintro _ rfl
       obtain ⟨part6, hx58, h⟩ := ob_e h
       refine Tops_yes rfl rfl (congrArg (fun b => some (Value.bool b)) hg38) (OpT_call (w_ref_Part05 hx58) [] [0] rfl rfl rfl rfl rfl callee29 rfl rfl rfl rfl) ?_
       rintro _ ⟨v30, _, _, ⟨_, rfl, rfl, rfl⟩, rfl⟩
       obtain ⟨samese7, hx59, h⟩ := ob_e h
       refine Tops_yes rfl rfl (congrArg (fun b => some (Value.bool b)) hg38) (OpT_callB [2, 3] [0, 1, 2, 3] (w_kit_SameSegs hx59) [] rfl rfl rfl rfl rfl callee28 rfl rfl rfl rfl rfl rfl (bor_cons (bor_row 2 rfl rfl) (bor_cons (bor_row 3 rfl rfl) bor_nil)) (by rintro _ _ _ ⟨rfl, rfl, rfl⟩; exact ⟨rfl, ri_nil⟩)) ?_
       rintro _ ⟨_, _, _, ⟨rfl, rfl, rfl⟩, rfl⟩
       refine Tops_yes rfl rfl (congrArg (fun b => some (Value.bool b)) hg38) (OpT_not rfl rfl rfl rfl) ?_
       rintro _ rfl
       refine Tops_step rfl (OpT_pickF rfl rfl rfl (congrArg (fun b => some (Value.bool b)) hg38) rfl) ?_
       refine Tops_step rfl (OpT_move rfl rfl rfl rfl) ?_
       obtain ⟨hg39, h⟩ := chk_e h
       replace hg39 := not_t hg39
       refine Tops_yes rfl rfl (congrArg (fun b => some (Value.bool b)) hg39) (OpT_move rfl rfl rfl rfl) ?_
       rintro _ rfl
       refine Tops_yes rfl rfl (congrArg (fun b => some (Value.bool b)) hg39) (OpT_move rfl rfl rfl rfl) ?_
       rintro _ rfl
       refine Tops_yes rfl rfl (congrArg (fun b => some (Value.bool b)) hg39) (OpT_move rfl rfl rfl rfl) ?_
       rintro _ rfl
       obtain ⟨cut5, hx60, h⟩ := ob_e h
       refine Tops_yes rfl rfl (congrArg (fun b => some (Value.bool b)) hg39) (OpT_call (w_seg_Cut hx60) [] [0] rfl rfl rfl rfl rfl callee11 rfl rfl rfl rfl) ?_
       rintro _ ⟨v31, _, _, ⟨_, rfl, rfl, rfl⟩, rfl⟩
       refine Tops_yes rfl rfl (congrArg (fun b => some (Value.bool b)) hg39) (OpT_move rfl rfl rfl rfl) ?_
       rintro _ rfl
       refine Tops_yes rfl rfl (congrArg (fun b => some (Value.bool b)) hg39) (OpT_move rfl rfl rfl rfl) ?_
       rintro _ rfl
       refine Tops_yes rfl rfl (congrArg (fun b => some (Value.bool b)) hg39) (OpT_move rfl rfl rfl rfl) ?_
       rintro _ rfl
       obtain ⟨cut6, hx61, h⟩ := ob_e h
       refine Tops_yes rfl rfl (congrArg (fun b => some (Value.bool b)) hg39) (OpT_call (w_ref_Cut05 hx61) [] [0] rfl rfl rfl rfl rfl callee30 rfl rfl rfl rfl) ?_
       rintro _ ⟨v32, _, _, ⟨_, rfl, rfl, rfl⟩, rfl⟩
       obtain ⟨samese8, hx62, h⟩ := ob_e h
       refine Tops_yes rfl rfl (congrArg (fun b => some (Value.bool b)) hg39) (OpT_callB [4, 5] [0, 1, 2, 3, 4, 5] (w_kit_SameSegs hx62) [] rfl rfl rfl rfl rfl callee28 rfl rfl rfl rfl rfl rfl (bor_cons (bor_row 4 rfl rfl) (bor_cons (bor_row 5 rfl rfl) bor_nil)) (by rintro _ _ _ ⟨rfl, rfl, rfl⟩; exact ⟨rfl, ri_nil⟩)) ?_
       rintro _ ⟨_, _, _, ⟨rfl, rfl, rfl⟩, rfl⟩
       refine Tops_yes rfl rfl (congrArg (fun b => some (Value.bool b)) hg39) (OpT_not rfl rfl rfl rfl) ?_
       rintro _ rfl
       refine Tops_step rfl (OpT_pickF rfl rfl rfl (congrArg (fun b => some (Value.bool b)) hg39) rfl) ?_
       refine Tops_step rfl (OpT_move rfl rfl rfl rfl) ?_
       obtain ⟨hg40, h⟩ := chk_e h
       replace hg40 := not_t hg40
       refine Tops_yes rfl rfl (congrArg (fun b => some (Value.bool b)) hg40) (OpT_move rfl rfl rfl rfl) ?_
       rintro _ rfl
       refine Tops_yes rfl rfl (congrArg (fun b => some (Value.bool b)) hg40) (OpT_move rfl rfl rfl rfl) ?_
       rintro _ rfl
       obtain ⟨same3, hx63, h⟩ := ob_e h
       refine Tops_yes rfl rfl (congrArg (fun b => some (Value.bool b)) hg40) (OpT_call (w_seg_Same hx63) [] [0, 1] rfl rfl rfl rfl rfl callee12 rfl rfl rfl rfl) ?_
       rintro _ ⟨_, _, _, ⟨rfl, rfl, rfl⟩, rfl⟩
       refine Tops_yes rfl rfl (congrArg (fun b => some (Value.bool b)) hg40) (OpT_move rfl rfl rfl rfl) ?_
       rintro _ rfl
       refine Tops_yes rfl rfl (congrArg (fun b => some (Value.bool b)) hg40) (OpT_move rfl rfl rfl rfl) ?_
       rintro _ rfl
       obtain ⟨samese9, hx64, h⟩ := ob_e h
       refine Tops_yes rfl rfl (congrArg (fun b => some (Value.bool b)) hg40) (OpT_call (w_kit_SameSegs hx64) [] [0, 1] rfl rfl rfl rfl rfl callee28 rfl rfl rfl rfl) ?_
       rintro _ ⟨_, _, _, ⟨rfl, rfl, rfl⟩, rfl⟩
       refine Tops_yes rfl rfl (congrArg (fun b => some (Value.bool b)) hg40) (OpT_bin rfl rfl rfl rfl rfl (bin_neq_b (a := same3) (b := samese9) Try.underlying4)) ?_
       rintro _ rfl
       refine Tops_step rfl (OpT_pickF rfl rfl rfl (congrArg (fun b => some (Value.bool b)) hg40) rfl) ?_
       refine Tops_nil ?_
       refine Tk_wkS (fr' := [(1, some (vl1)), (2, some (vop21)), (3, some (vb1)), (15, some (.pointer (some ⟨b2, 0, none⟩))), (17, some (.pointer none)), (18, some (vI new3.2)), (127, some (vB (same3 != samese9)))]) (own' := [some (cellsR b2 71 [v26, v27]), some (rowsX u8S true v27 vs2 mem2.b none)]) (shr' := [Fact.sl SegS vl1 l, Fact.sl SegS vop21 op2, Fact.sl u8S vb1 b, Fact.sl RegionS v26 mem2.l]) [1, 2, 3, 15, 17, 18, 127] [0, 1] [0, 1, 2, 3] rfl rfl rfl rfl ?_
       obtain ⟨hg41, h⟩ := chk_e h
       replace hg41 := not_t hg41
       refine Tk_condF (congrArg (fun b => some (Value.bool b)) hg41) ?_
       refine Tk_skip ?_
       refine Tk_seq ?_
       refine Tk_seq ?_
       refine Tk_region ?_
       refine Tops_step rfl (OpT_move rfl rfl rfl rfl) ?_
       refine Tops_step rfl (OpT_bin rfl rfl rfl rfl rfl (bin_neq_i (a := new3.2) (b := (0 : Int)))) ?_
       refine Tops_nil ?_
       refine Tk_wkS (fr' := [(1, some (vl1)), (2, some (vop21)), (3, some (vb1)), (15, some (.pointer (some ⟨b2, 0, none⟩))), (17, some (.pointer none)), (129, some (vB (new3.2 != (0 : Int))))]) (own' := [some (cellsR b2 71 [v26, v27]), some (rowsX u8S true v27 vs2 mem2.b none)]) (shr' := [Fact.sl SegS vl1 l, Fact.sl SegS vop21 op2, Fact.sl u8S vb1 b, Fact.sl RegionS v26 mem2.l]) [1, 2, 3, 15, 17, 129] [0, 1] [0, 1, 2, 3] rfl rfl rfl rfl ?_
       rcases Bool.eq_false_or_eq_true (new3.2 != (0 : Int)) with hg42 | hg42
       ·replace h := br_t hg42 h
        refine Tk_condT (congrArg (fun b => some (Value.bool b)) hg42) ?_
        refine Tk_seq ?_
        refine Tk_region ?_
        refine Tops_step rfl (OpT_assign rfl rfl rfl rfl) ?_
        refine Tops_nil ?_
        refine Tk_wkS (fr' := [(14, some (vB true))]) (own' := []) (shr' := []) [14] [] [] rfl rfl rfl rfl ?_
        exact Tk_retV rfl rfl (resA (vs := [.bool true]) rfl ⟨rfl, trivial⟩) [] [] rfl rfl rfl ⟨rfl, rfl, rfl⟩
       ·replace h := br_f hg42 h
        refine Tk_condF (congrArg (fun b => some (Value.bool b)) hg42) ?_
        refine Tk_skip ?_
        refine Tk_seq ?_
        refine Tk_region ?_
        refine Tops_step rfl (OpT_move rfl rfl rfl rfl) ?_
        refine Tops_step rfl (OpT_move rfl rfl rfl rfl) ?_
        obtain ⟨segs3, hx65, h⟩ := ob_e h
        refine Tops_exP rfl (OpT_call (w_kit_Segs hx65) [] [0] rfl rfl rfl rfl rfl callee31 rfl rfl rfl rfl) ?_
        rintro _ ⟨v33, _, _, ⟨_, rfl, rfl, rfl⟩, rfl⟩
        refine Tops_step rfl (OpT_move rfl rfl rfl rfl) ?_
        obtain ⟨own3, hx66, h⟩ := ob_e h
        refine Tops_exP rfl (OpT_call (w_kit_Own hx66) [] [2] rfl rfl rfl rfl rfl callee17 rfl rfl rfl rfl) ?_
        rintro _ ⟨v34, _, _, ⟨_, rfl, rfl, rfl⟩, rfl⟩
        obtain ⟨scatte5, hx67, h⟩ := ob_e h
        refine Tops_exP rfl (OpT_callB [2, 3] [4, 5, 2, 3] (w_seg_Scatter hx67) [0, 1] rfl rfl rfl rfl rfl callee18 rfl rfl rfl rfl rfl rfl (bor_cons (bor_shr 3 rfl) (bor_cons (bor_row 2 rfl rfl) (bor_cons (bor_row 3 rfl rfl) bor_nil))) (by rintro _ _ _ ⟨rfl, rfl, rfl⟩; exact ⟨rfl, (ri_cons (ri_cells _ _ _) (ri_cons (ri_rows rfl _ _ _ _ _) ri_nil))⟩)) ?_
        rintro _ ⟨_, _, _, ⟨rfl, rfl, rfl⟩, rfl⟩
        refine Tops_step rfl (OpT_move rfl rfl rfl rfl) ?_
        refine Tops_step rfl (OpT_extract rfl rfl rfl rfl rfl) ?_
        refine Tops_step rfl (OpT_extract rfl rfl rfl rfl rfl) ?_
        refine Tops_step rfl (OpT_assign rfl rfl rfl rfl) ?_
        refine Tops_step rfl (OpT_assign rfl rfl rfl rfl) ?_
        refine Tops_nil ?_
        refine Tk_wkS (fr' := [(1, some (vl1)), (2, some (vop21)), (3, some (vb1)), (15, some (.pointer (some ⟨b2, 0, none⟩))), (17, some (.pointer none)), (23, some (vI scatte5.1)), (16, some (vI scatte5.2.1))]) (own' := [some (cellsR b2 71 [v26, v27]), some (rowsX u8S true v27 vs2 scatte5.2.2 none)]) (shr' := [Fact.sl SegS vl1 l, Fact.sl SegS vop21 op2, Fact.sl u8S vb1 b, Fact.sl RegionS v26 mem2.l]) [1, 2, 3, 15, 17, 23, 16] [0, 1] [0, 1, 2, 3] rfl rfl rfl rfl ?_
        refine Tk_seq ?_
        refine Tk_region ?_
        refine Tops_step rfl (OpT_move rfl rfl rfl rfl) ?_
        refine Tops_step rfl (OpT_move rfl rfl rfl rfl) ?_
        refine Tops_step rfl (OpT_move rfl rfl rfl rfl) ?_
        obtain ⟨scatte6, hx68, h⟩ := ob_e h
        refine Tops_exP rfl (OpT_call (w_ref_Scatter05n0 hx68) [] [0, 2] rfl rfl rfl rfl rfl callee32 rfl rfl rfl rfl) ?_
        rintro _ ⟨_, _, _, ⟨rfl, rfl, rfl⟩, rfl⟩
        refine Tops_step rfl (OpT_move rfl rfl rfl rfl) ?_
        refine Tops_step rfl (OpT_extract rfl rfl rfl rfl rfl) ?_
        refine Tops_step rfl (OpT_extract rfl rfl rfl rfl rfl) ?_
        refine Tops_step rfl (OpT_assign rfl rfl rfl rfl) ?_
        refine Tops_step rfl (OpT_assign rfl rfl rfl rfl) ?_
        refine Tops_nil ?_
        refine Tk_wkS (fr' := [(2, some (vop21)), (15, some (.pointer (some ⟨b2, 0, none⟩))), (17, some (.pointer none)), (23, some (vI scatte5.1)), (16, some (vI scatte5.2.1)), (24, some (vI scatte6.1)), (18, some (vI scatte6.2))]) (own' := [some (cellsR b2 71 [v26, v27]), some (rowsX u8S true v27 vs2 scatte5.2.2 none)]) (shr' := [Fact.sl SegS vop21 op2, Fact.sl RegionS v26 mem2.l]) [2, 15, 17, 23, 16, 24, 18] [0, 1] [1, 3] rfl rfl rfl rfl ?_
        refine Tk_seq ?_
        refine Tk_region ?_
        refine Tops_step rfl (OpT_move rfl rfl rfl rfl) ?_
        refine Tops_step rfl (OpT_move rfl rfl rfl rfl) ?_
        obtain ⟨gather5, hx69, h⟩ := ob_e h
        refine Tops_exP rfl (OpT_callP [2, 3, 4] (w_seg_Gather hx69) [0, 1] [1, 0] rfl rfl rfl rfl rfl callee19 rfl rfl rfl rfl rfl) ?_
        rintro _ ⟨_, _, _, ⟨v35, rfl, rfl, rfl⟩, rfl⟩
        refine Tops_step rfl (OpT_move rfl rfl rfl rfl) ?_
        refine Tops_step rfl (OpT_extract rfl rfl rfl rfl rfl) ?_
        refine Tops_step rfl (OpT_extract rfl rfl rfl rfl rfl) ?_
        refine Tops_step rfl (OpT_assign rfl rfl rfl rfl) ?_
        refine Tops_step rfl (OpT_assign rfl rfl rfl rfl) ?_
        refine Tops_nil ?_
        refine Tk_wkS (fr' := [(2, some (vop21)), (15, some (.pointer (some ⟨b2, 0, none⟩))), (17, some (.pointer none)), (23, some (vI scatte5.1)), (16, some (vI scatte5.2.1)), (24, some (vI scatte6.1)), (18, some (vI scatte6.2)), (25, some (v35)), (26, some (vI gather5.2))]) (own' := [some (cellsR b2 71 [v26, v27]), some (rowsX u8S true v27 vs2 scatte5.2.2 none), some (rowS u8S v35 gather5.1)]) (shr' := [Fact.sl SegS vop21 op2, Fact.sl RegionS v26 mem2.l]) [2, 15, 17, 23, 16, 24, 18, 25, 26] [0, 1, 2] [0, 1] rfl rfl rfl rfl ?_
        refine Tk_seq ?_
        refine Tk_region ?_
        refine Tops_step rfl (OpT_move rfl rfl rfl rfl) ?_
        refine Tops_step rfl (OpT_move rfl rfl rfl rfl) ?_
        obtain ⟨gather6, hx70, h⟩ := ob_e h
        refine Tops_exP rfl (OpT_call (w_ref_Gather05n0 hx70) [] [0] rfl rfl rfl rfl rfl callee33 rfl rfl rfl rfl) ?_
        rintro _ ⟨_, _, _, ⟨v36, rfl, rfl, rfl⟩, rfl⟩
        refine Tops_step rfl (OpT_move rfl rfl rfl rfl) ?_
        refine Tops_step rfl (OpT_extract rfl rfl rfl rfl rfl) ?_
        refine Tops_step rfl (OpT_extract rfl rfl rfl rfl rfl) ?_
        refine Tops_step rfl (OpT_assign rfl rfl rfl rfl) ?_
        refine Tops_step rfl (OpT_assign rfl rfl rfl rfl) ?_
        refine Tops_nil ?_
        refine Tk_wkS (fr' := [(15, some (.pointer (some ⟨b2, 0, none⟩))), (17, some (.pointer none)), (23, some (vI scatte5.1)), (16, some (vI scatte5.2.1)), (24, some (vI scatte6.1)), (18, some (vI scatte6.2)), (25, some (v35)), (26, some (vI gather5.2)), (27, some (v36)), (28, some (vI gather6.2))]) (own' := [some (cellsR b2 71 [v26, v27]), some (rowsX u8S true v27 vs2 scatte5.2.2 none), some (rowS u8S v35 gather5.1), some (rowS u8S v36 gather6.1)]) (shr' := [Fact.sl RegionS v26 mem2.l]) [15, 17, 23, 16, 24, 18, 25, 26, 27, 28] [0, 1, 2, 3] [1] rfl rfl rfl rfl ?_
        refine Tk_seq ?_
        refine Tk_drawT (by kernel_rfl) ?_
        refine TA_tb [0, 0, 3, 7, 15, 15, 63, 127, 255, 511, 1023, 511, 2559, 8191, 16383, 32767, 65535, 65535, 262143, 524287, 1048575, 2097151, 4194303, 8388607, 2097151, 25165823, 58720255, 134217727, 268435455, 536870911] (by kernel_rfl) fun htb => ?_
        refine TA_seg (lo := 0) (hi := 2) htb rfl rfl (by kernel_rfl) (fun c L a w => Sat c ⟨[(15, some (.pointer (some ⟨b2, 0, none⟩))), (17, some (.pointer none)), (23, some (vI scatte5.1)), (16, some (vI scatte5.2.1)), (24, some (vI scatte6.1)), (18, some (vI scatte6.2)), (25, some (v35)), (26, some (vI gather5.2)), (27, some (v36)), (28, some (vI gather6.2)), (158, bif L 0 then some (vI scatte5.1) else none), (159, bif L 1 then some (vI scatte6.1) else none)], [(some (cellsR b2 71 [v26, v27]) : Option Res), (some (rowsX u8S true v27 vs2 scatte5.2.2 none) : Option Res), (some (rowS u8S v35 gather5.1) : Option Res), (some (rowS u8S v36 gather6.1) : Option Res)], [Fact.sl RegionS v26 mem2.l]⟩ a w) [([], []), ([], [])] rfl (by kernel_rfl) ?_ (steps_cons ?_ (steps_cons ?_ (steps_nil))) ?_
        ·intro a w hs
         exact hs.startF [158, 159] [0, 1, 2, 3] [0] rfl rfl rfl rfl
        ·intro L a w hv K Q hK
         have hs := hv
         refine wpOp_go rfl rfl hs (OpT_move rfl rfl rfl rfl) ?_
         rintro _ rfl a' w' hs'
         exact hK a' w' (hs'.putF (i := 10) rfl [0, 1, 2, 3] [0] rfl rfl rfl rfl)
        ·intro L a w hv K Q hK
         have hs := hv
         refine wpOp_go rfl rfl hs (OpT_move rfl rfl rfl rfl) ?_
         rintro _ rfl a' w' hs'
         exact hK a' w' (hs'.putF (i := 11) rfl [0, 1, 2, 3] [0] rfl rfl rfl rfl)
        ·intro L a w hL hv
         rw [allTrue hL] at hv
         have hs := hv
         refine (show TA _ _ _ 2 ⟨[(15, some (.pointer (some ⟨b2, 0, none⟩))), (17, some (.pointer none)), (16, some (vI scatte5.2.1)), (18, some (vI scatte6.2)), (25, some (v35)), (26, some (vI gather5.2)), (27, some (v36)), (28, some (vI gather6.2)), (158, some (vI scatte5.1)), (159, some (vI scatte6.1))], [some (cellsR b2 71 [v26, v27]), some (rowsX u8S true v27 vs2 scatte5.2.2 none), some (rowS u8S v35 gather5.1), some (rowS u8S v36 gather6.1)], [Fact.sl RegionS v26 mem2.l]⟩ from ?_) a w (hs.wkS [15, 17, 16, 18, 25, 26, 27, 28, 158, 159] [0, 1, 2, 3] [0] rfl rfl rfl rfl)
         clear hs hL
         refine TA_step htb (by kernel_rfl) rfl rfl (OpT_bin rfl rfl rfl rfl rfl (bin_eql_i (a := scatte5.1) (b := scatte6.1))) ?_
         refine TA_step htb (by kernel_rfl) rfl rfl (OpT_move rfl rfl rfl rfl) ?_
         refine TA_wkS (fr' := [(15, some (.pointer (some ⟨b2, 0, none⟩))), (17, some (.pointer none)), (16, some (vI scatte5.2.1)), (18, some (vI scatte6.2)), (25, some (v35)), (26, some (vI gather5.2)), (27, some (v36)), (28, some (vI gather6.2)), (161, some (vB (scatte5.1 == scatte6.1)))]) (own' := [some (cellsR b2 71 [v26, v27]), some (rowsX u8S true v27 vs2 scatte5.2.2 none), some (rowS u8S v35 gather5.1), some (rowS u8S v36 gather6.1)]) (shr' := [Fact.sl RegionS v26 mem2.l]) [15, 17, 16, 18, 25, 26, 27, 28, 161] [0, 1, 2, 3] [0] rfl rfl rfl rfl ?_
         obtain ⟨hg43, h⟩ := chk_e h
         refine TA_seg (lo := 4) (hi := 6) htb rfl rfl (by kernel_rfl) (fun c L a w => Sat c ⟨[(15, some (.pointer (some ⟨b2, 0, none⟩))), (17, some (.pointer none)), (16, some (vI scatte5.2.1)), (18, some (vI scatte6.2)), (25, some (v35)), (26, some (vI gather5.2)), (27, some (v36)), (28, some (vI gather6.2)), (161, some (vB (scatte5.1 == scatte6.1))), (162, bif L 4 then some (vI scatte5.2.1) else none), (163, bif L 5 then some (vI scatte6.2) else none)], [(some (cellsR b2 71 [v26, v27]) : Option Res), (some (rowsX u8S true v27 vs2 scatte5.2.2 none) : Option Res), (some (rowS u8S v35 gather5.1) : Option Res), (some (rowS u8S v36 gather6.1) : Option Res)], [Fact.sl RegionS v26 mem2.l]⟩ a w) [([], []), ([], [])] rfl (by kernel_rfl) ?_ (steps_cons ?_ (steps_cons ?_ (steps_nil))) ?_
         ·intro a w hs
          exact hs.startF [162, 163] [0, 1, 2, 3] [0] rfl rfl rfl rfl
         ·intro L a w hv K Q hK
          have hs := hv
          refine wpOp_yes rfl rfl rfl hs (congrArg (fun b => some (Value.bool b)) hg43) (OpT_move rfl rfl rfl rfl) ?_
          rintro _ rfl a' w' hs'
          exact hK a' w' (hs'.putF (i := 9) rfl [0, 1, 2, 3] [0] rfl rfl rfl rfl)
         ·intro L a w hv K Q hK
          have hs := hv
          refine wpOp_yes rfl rfl rfl hs (congrArg (fun b => some (Value.bool b)) hg43) (OpT_move rfl rfl rfl rfl) ?_
          rintro _ rfl a' w' hs'
          exact hK a' w' (hs'.putF (i := 10) rfl [0, 1, 2, 3] [0] rfl rfl rfl rfl)
         ·intro L a w hL hv
          rw [allTrue hL] at hv
          have hs := hv
          refine (show TA _ _ _ 6 ⟨[(15, some (.pointer (some ⟨b2, 0, none⟩))), (17, some (.pointer none)), (25, some (v35)), (26, some (vI gather5.2)), (27, some (v36)), (28, some (vI gather6.2)), (161, some (vB (scatte5.1 == scatte6.1))), (162, some (vI scatte5.2.1)), (163, some (vI scatte6.2))], [some (cellsR b2 71 [v26, v27]), some (rowsX u8S true v27 vs2 scatte5.2.2 none), some (rowS u8S v35 gather5.1), some (rowS u8S v36 gather6.1)], [Fact.sl RegionS v26 mem2.l]⟩ from ?_) a w (hs.wkS [15, 17, 25, 26, 27, 28, 161, 162, 163] [0, 1, 2, 3] [0] rfl rfl rfl rfl)
          clear hs hL
          refine TA_yes htb (by kernel_rfl) rfl rfl rfl (congrArg (fun b => some (Value.bool b)) hg43) (OpT_bin rfl rfl rfl rfl rfl (bin_eql_i (a := scatte5.2.1) (b := scatte6.2))) ?_
          rintro _ rfl
          refine TA_step htb (by kernel_rfl) rfl rfl (OpT_pickT rfl rfl rfl (congrArg (fun b => some (Value.bool b)) hg43) rfl) ?_
          refine TA_step htb (by kernel_rfl) rfl rfl (OpT_move rfl rfl rfl rfl) ?_
          refine TA_wkS (fr' := [(15, some (.pointer (some ⟨b2, 0, none⟩))), (17, some (.pointer none)), (25, some (v35)), (26, some (vI gather5.2)), (27, some (v36)), (28, some (vI gather6.2)), (166, some (vB (scatte5.2.1 == scatte6.2)))]) (own' := [some (cellsR b2 71 [v26, v27]), some (rowsX u8S true v27 vs2 scatte5.2.2 none), some (rowS u8S v35 gather5.1), some (rowS u8S v36 gather6.1)]) (shr' := [Fact.sl RegionS v26 mem2.l]) [15, 17, 25, 26, 27, 28, 166] [0, 1, 2, 3] [0] rfl rfl rfl rfl ?_
          refine TA_retire (i := 2) rfl ?_
          refine TA_retire (i := 3) rfl ?_
          obtain ⟨hg44, h⟩ := chk_e h
          refine TA_seg (lo := 9) (hi := 13) htb rfl rfl (by kernel_rfl) (fun c L a w => Sat c ⟨[(15, some (.pointer (some ⟨b2, 0, none⟩))), (17, some (.pointer none)), (25, some (v35)), (26, some (vI gather5.2)), (27, some (v36)), (28, some (vI gather6.2)), (166, some (vB (scatte5.2.1 == scatte6.2))), (167, bif L 9 then some (v35) else none), (168, bif L 10 then some (vS gather5.1) else none), (169, bif L 11 then some (v36) else none), (170, bif L 12 then some (vS gather6.1) else none)], [(some (cellsR b2 71 [v26, v27]) : Option Res), (some (rowsX u8S true v27 vs2 scatte5.2.2 none) : Option Res), (none : Option Res), (none : Option Res)], [Fact.sl RegionS v26 mem2.l, Fact.sl u8S v35 gather5.1, Fact.sl u8S v36 gather6.1]⟩ a w) [([], [10]), ([9], []), ([], [12]), ([11], [])] rfl (by kernel_rfl) ?_ (steps_cons ?_ (steps_cons ?_ (steps_cons ?_ (steps_cons ?_ (steps_nil))))) ?_
          ·intro a w hs
           exact hs.startF [167, 168, 169, 170] [0, 1, 2, 3] [0, 1, 2] rfl rfl rfl rfl
          ·intro L a w hv K Q hK
           have hs := hv
           refine wpOp_yes rfl rfl rfl hs (congrArg (fun b => some (Value.bool b)) hg44) (OpT_move rfl rfl rfl rfl) ?_
           rintro _ rfl a' w' hs'
           exact hK a' w' (hs'.putF (i := 7) rfl [0, 1, 2, 3] [0, 1, 2] rfl rfl rfl rfl)
          ·intro L a w hv K Q hK
           have hs := hv
           refine wpOp_yes rfl rfl rfl hs (congrArg (fun b => some (Value.bool b)) hg44) (OpT_strS rfl rfl rfl rfl Try.underlying33 Try.underlying5 Try.underlying9 (i := 1) rfl) ?_
           rintro _ rfl a' w' hs'
           exact hK a' w' (hs'.putF (i := 8) rfl [0, 1, 2, 3] [0, 1, 2] rfl rfl rfl rfl)
          ·intro L a w hv K Q hK
           have hs := hv
           refine wpOp_yes rfl rfl rfl hs (congrArg (fun b => some (Value.bool b)) hg44) (OpT_move rfl rfl rfl rfl) ?_
           rintro _ rfl a' w' hs'
           exact hK a' w' (hs'.putF (i := 9) rfl [0, 1, 2, 3] [0, 1, 2] rfl rfl rfl rfl)
          ·intro L a w hv K Q hK
           have hs := hv
           refine wpOp_yes rfl rfl rfl hs (congrArg (fun b => some (Value.bool b)) hg44) (OpT_strS rfl rfl rfl rfl Try.underlying33 Try.underlying5 Try.underlying9 (i := 2) rfl) ?_
           rintro _ rfl a' w' hs'
           exact hK a' w' (hs'.putF (i := 10) rfl [0, 1, 2, 3] [0, 1, 2] rfl rfl rfl rfl)
          ·intro L a w hL hv
           rw [allTrue hL] at hv
           have hs := hv
           refine (show TA _ _ _ 13 ⟨[(15, some (.pointer (some ⟨b2, 0, none⟩))), (17, some (.pointer none)), (26, some (vI gather5.2)), (28, some (vI gather6.2)), (166, some (vB (scatte5.2.1 == scatte6.2))), (168, some (vS gather5.1)), (170, some (vS gather6.1))], [some (cellsR b2 71 [v26, v27]), some (rowsX u8S true v27 vs2 scatte5.2.2 none)], [Fact.sl RegionS v26 mem2.l]⟩ from ?_) a w (hs.wkS [15, 17, 26, 28, 166, 168, 170] [0, 1] [0] rfl rfl rfl rfl)
           clear hs hL
           refine TA_yes htb (by kernel_rfl) rfl rfl rfl (congrArg (fun b => some (Value.bool b)) hg44) (OpT_bin rfl rfl rfl rfl rfl (bin_eql_s (a := gather5.1) (b := gather6.1))) ?_
           rintro _ rfl
           refine TA_step htb (by kernel_rfl) rfl rfl (OpT_pickT rfl rfl rfl (congrArg (fun b => some (Value.bool b)) hg44) rfl) ?_
           refine TA_step htb (by kernel_rfl) rfl rfl (OpT_move rfl rfl rfl rfl) ?_
           refine TA_wkS (fr' := [(15, some (.pointer (some ⟨b2, 0, none⟩))), (17, some (.pointer none)), (26, some (vI gather5.2)), (28, some (vI gather6.2)), (173, some (vB (gather5.1 == gather6.1)))]) (own' := [some (cellsR b2 71 [v26, v27]), some (rowsX u8S true v27 vs2 scatte5.2.2 none)]) (shr' := [Fact.sl RegionS v26 mem2.l]) [15, 17, 26, 28, 173] [0, 1] [0] rfl rfl rfl rfl ?_
           obtain ⟨hg45, h⟩ := chk_e h
           refine TA_seg (lo := 16) (hi := 18) htb rfl rfl (by kernel_rfl) (fun c L a w => Sat c ⟨[(15, some (.pointer (some ⟨b2, 0, none⟩))), (17, some (.pointer none)), (26, some (vI gather5.2)), (28, some (vI gather6.2)), (173, some (vB (gather5.1 == gather6.1))), (174, bif L 16 then some (vI gather5.2) else none), (175, bif L 17 then some (vI gather6.2) else none)], [(some (cellsR b2 71 [v26, v27]) : Option Res), (some (rowsX u8S true v27 vs2 scatte5.2.2 none) : Option Res)], [Fact.sl RegionS v26 mem2.l]⟩ a w) [([], []), ([], [])] rfl (by kernel_rfl) ?_ (steps_cons ?_ (steps_cons ?_ (steps_nil))) ?_
           ·intro a w hs
            exact hs.startF [174, 175] [0, 1] [0] rfl rfl rfl rfl
           ·intro L a w hv K Q hK
            have hs := hv
            refine wpOp_yes rfl rfl rfl hs (congrArg (fun b => some (Value.bool b)) hg45) (OpT_move rfl rfl rfl rfl) ?_
            rintro _ rfl a' w' hs'
            exact hK a' w' (hs'.putF (i := 5) rfl [0, 1] [0] rfl rfl rfl rfl)
           ·intro L a w hv K Q hK
            have hs := hv
            refine wpOp_yes rfl rfl rfl hs (congrArg (fun b => some (Value.bool b)) hg45) (OpT_move rfl rfl rfl rfl) ?_
            rintro _ rfl a' w' hs'
            exact hK a' w' (hs'.putF (i := 6) rfl [0, 1] [0] rfl rfl rfl rfl)
           ·intro L a w hL hv
            rw [allTrue hL] at hv
            have hs := hv
            refine (show TA _ _ _ 18 ⟨[(15, some (.pointer (some ⟨b2, 0, none⟩))), (17, some (.pointer none)), (173, some (vB (gather5.1 == gather6.1))), (174, some (vI gather5.2)), (175, some (vI gather6.2))], [some (cellsR b2 71 [v26, v27]), some (rowsX u8S true v27 vs2 scatte5.2.2 none)], [Fact.sl RegionS v26 mem2.l]⟩ from ?_) a w (hs.wkS [15, 17, 173, 174, 175] [0, 1] [0] rfl rfl rfl rfl)
            clear hs hL
            refine TA_yes htb (by kernel_rfl) rfl rfl rfl (congrArg (fun b => some (Value.bool b)) hg45) (OpT_bin rfl rfl rfl rfl rfl (bin_eql_i (a := gather5.2) (b := gather6.2))) ?_
            rintro _ rfl
            refine TA_step htb (by kernel_rfl) rfl rfl (OpT_pickT rfl rfl rfl (congrArg (fun b => some (Value.bool b)) hg45) rfl) ?_
            refine TA_step htb (by kernel_rfl) rfl rfl (OpT_move rfl rfl rfl rfl) ?_
            refine TA_wkS (fr' := [(15, some (.pointer (some ⟨b2, 0, none⟩))), (17, some (.pointer none)), (178, some (vB (gather5.2 == gather6.2)))]) (own' := [some (cellsR b2 71 [v26, v27]), some (rowsX u8S true v27 vs2 scatte5.2.2 none)]) (shr' := [Fact.sl RegionS v26 mem2.l]) [15, 17, 178] [0, 1] [0] rfl rfl rfl rfl ?_
            obtain ⟨hg46, h⟩ := chk_e h
            obtain ⟨image5, hx71, h⟩ := ob_e h
            obtain ⟨image6, hx72, h⟩ := ob_e h
            refine TA_seg (lo := 21) (hi := 27) htb rfl rfl (by kernel_rfl) (fun c L a w => ∃ (v37 : Value), ∃ (v38 : Value), Sat c ⟨[(15, some (.pointer (some ⟨b2, 0, none⟩))), (17, some (.pointer none)), (178, some (vB (gather5.2 == gather6.2))), (179, bif L 21 then some (.pointer (some ⟨b2, 0, none⟩)) else none), (180, bif L 22 then some (v37) else none), (181, bif L 23 then some (vS image5) else none), (182, bif L 24 then some (.pointer none) else none), (183, bif L 25 then some (v38) else none), (184, bif L 26 then some (vS image6) else none)], [(some (cellsR b2 71 [v26, v27]) : Option Res), (some (rowsX u8S true v27 vs2 scatte5.2.2 none) : Option Res)], [Fact.sl RegionS v26 mem2.l, (bif L 22 then Fact.sl u8S v37 image5 else Fact.tt), (bif L 25 then Fact.sl u8S v38 image6 else Fact.tt)]⟩ a w) [([], [22, 23, 25, 26]), ([21], [23, 25, 26]), ([21, 22], []), ([], [25, 26]), ([21, 22, 24], [26]), ([21, 22, 24, 25], [])] rfl (by kernel_rfl) ?_ (steps_cons ?_ (steps_cons ?_ (steps_cons ?_ (steps_cons ?_ (steps_cons ?_ (steps_cons ?_ (steps_nil))))))) ?_
            ·intro a w hs
             exact ⟨undef, undef, hs.startF [179, 180, 181, 182, 183, 184] [0, 1] [0, 1, 2] rfl rfl rfl rfl⟩
            ·intro L a w hv K Q hK
             obtain ⟨v37, v38, hs⟩ := hv
             refine wpOp_yes rfl rfl rfl hs (congrArg (fun b => some (Value.bool b)) hg46) (OpT_move rfl rfl rfl rfl) ?_
             rintro _ rfl a' w' hs'
             exact hK a' w' ⟨v37, v38, hs'.putF (i := 3) rfl [0, 1] [0, 1, 2] rfl rfl rfl rfl⟩
            ·intro L a w hv K Q hK
             obtain ⟨v37, v38, hs⟩ := hv
             refine wpOp_yes rfl rfl rfl hs (congrArg (fun b => some (Value.bool b)) hg46) (OpT_callP [2, 3] (ws_gmem_Mem_Image hx71) [0, 1] [0] rfl rfl rfl rfl rfl callee20 rfl rfl rfl rfl rfl) ?_
             rintro _ ⟨v37', _, _, ⟨_, rfl, rfl, rfl⟩, rfl⟩ a' w' hs'
             exact hK a' w' ⟨v37', v38, hs'.putF (i := 4) rfl [0, 1] [0, 3, 2] rfl rfl rfl rfl⟩
            ·intro L a w hv K Q hK
             obtain ⟨v37, v38, hs⟩ := hv
             refine wpOp_yes rfl rfl rfl hs (congrArg (fun b => some (Value.bool b)) hg46) (OpT_strS rfl rfl rfl rfl Try.underlying33 Try.underlying5 Try.underlying9 (i := 1) rfl) ?_
             rintro _ rfl a' w' hs'
             exact hK a' w' ⟨v37, v38, hs'.putF (i := 5) rfl [0, 1] [0, 1, 2] rfl rfl rfl rfl⟩
            ·intro L a w hv K Q hK
             obtain ⟨v37, v38, hs⟩ := hv
             refine wpOp_yes rfl rfl rfl hs (congrArg (fun b => some (Value.bool b)) hg46) (OpT_move rfl rfl rfl rfl) ?_
             rintro _ rfl a' w' hs'
             exact hK a' w' ⟨v37, v38, hs'.putF (i := 6) rfl [0, 1] [0, 1, 2] rfl rfl rfl rfl⟩
            ·intro L a w hv K Q hK
             obtain ⟨v37, v38, hs⟩ := hv
             refine wpOp_yes rfl rfl rfl hs (congrArg (fun b => some (Value.bool b)) hg46) (OpT_call (ws_ref_Mem_Image02n0 hx72) [] [] rfl rfl rfl rfl rfl callee34 rfl rfl rfl rfl) ?_
             rintro _ ⟨v38', _, _, ⟨_, rfl, rfl, rfl⟩, rfl⟩ a' w' hs'
             exact hK a' w' ⟨v37, v38', hs'.putF (i := 7) rfl [0, 1] [0, 1, 3] rfl rfl rfl rfl⟩
            ·intro L a w hv K Q hK
             obtain ⟨v37, v38, hs⟩ := hv
             refine wpOp_yes rfl rfl rfl hs (congrArg (fun b => some (Value.bool b)) hg46) (OpT_strS rfl rfl rfl rfl Try.underlying33 Try.underlying5 Try.underlying9 (i := 2) rfl) ?_
             rintro _ rfl a' w' hs'
             exact hK a' w' ⟨v37, v38, hs'.putF (i := 8) rfl [0, 1] [0, 1, 2] rfl rfl rfl rfl⟩
            ·intro L a w hL hv
             rw [allTrue hL] at hv
             obtain ⟨v37, v38, hs⟩ := hv
             refine (show TA _ _ _ 27 ⟨[(178, some (vB (gather5.2 == gather6.2))), (181, some (vS image5)), (184, some (vS image6))], [], []⟩ from ?_) a w (hs.wkS [178, 181, 184] [] [] rfl rfl rfl rfl)
             clear hs hL
             refine TA_yes htb (by kernel_rfl) rfl rfl rfl (congrArg (fun b => some (Value.bool b)) hg46) (OpT_bin rfl rfl rfl rfl rfl (bin_eql_s (a := image5) (b := image6))) ?_
             rintro _ rfl
             refine TA_step htb (by kernel_rfl) rfl rfl (OpT_pickT rfl rfl rfl (congrArg (fun b => some (Value.bool b)) hg46) rfl) ?_
             refine TA_step htb (by kernel_rfl) rfl rfl (OpT_assign rfl rfl rfl rfl) ?_
             refine TA_end rfl ?_
             refine Tk_wkS (fr' := [(14, some (vB (image5 == image6)))]) (own' := []) (shr' := []) [14] [] [] rfl rfl rfl rfl ?_
             obtain ⟨hg47, h⟩ := chk_e h
             exact Tk_retV rfl rfl (resA (vs := [.bool true]) rfl ⟨(congrArg (fun b => some (Value.bool b)) hg47), trivial⟩) [] [] rfl rfl rfl ⟨rfl, rfl, rfl⟩
      ·refine Tk_optS (i := 2) rfl ho3 ?_
       rintro b3 v39 v40 vs3 rfl
       refine Tk_seq ?_
       refine Tk_seq ?_
       refine Tk_region ?_
       refine Tops_step rfl (OpT_move rfl rfl rfl rfl) ?_
       refine Tops_step rfl (OpT_move rfl rfl rfl rfl) ?_
       refine Tops_step rfl (OpT_bin rfl rfl rfl rfl rfl (bin_neq_i (a := new1.2) (b := new3.2))) ?_
       refine Tops_nil ?_
       refine Tk_wkS (fr' := [(1, some (vl1)), (2, some (vop21)), (3, some (vb1)), (4, some (vU64 fromp4)), (5, some (vU64 np5)), (6, some (vB write)), (15, some (.pointer (some ⟨b2, 0, none⟩))), (17, some (.pointer (some ⟨b3, 0, none⟩))), (18, some (vI new3.2)), (62, some (vB (new1.2 != new3.2)))]) (own' := [some (cellsR b2 71 [v26, v27]), some (rowsX u8S true v27 vs2 mem2.b none), some (cellsR b3 76 [v39, v40]), some (rowsX u8S false v40 vs3 mem3.B none)]) (shr' := [Fact.sl SegS vl1 l, Fact.sl SegS vop21 op2, Fact.sl u8S vb1 b, Fact.sl RegionS v26 mem2.l, Fact.sl RegionS v39 mem3.L]) [1, 2, 3, 4, 5, 6, 15, 17, 18, 62] [0, 1, 2, 3] [0, 1, 2, 3, 4] rfl rfl rfl rfl ?_
       obtain ⟨hg48, h⟩ := chk_e h
       replace hg48 := not_t hg48
       refine Tk_condF (congrArg (fun b => some (Value.bool b)) hg48) ?_
       refine Tk_skip ?_
       refine Tk_seq ?_
       refine Tk_region ?_
       refine Tops_step rfl (OpT_move rfl rfl rfl rfl) ?_
       obtain ⟨total7, hx73, h⟩ := ob_e h
       refine Tops_exP rfl (OpT_call (w_seg_Total hx73) [] [0] rfl rfl rfl rfl rfl callee10 rfl rfl rfl rfl) ?_
       rintro _ ⟨_, _, _, ⟨rfl, rfl, rfl⟩, rfl⟩
       refine Tops_step rfl (OpT_move rfl rfl rfl rfl) ?_
       refine Tops_step rfl (OpT_extract rfl rfl rfl rfl rfl) ?_
       refine Tops_step rfl (OpT_extract rfl rfl rfl rfl rfl) ?_
       refine Tops_step rfl (OpT_assign rfl rfl rfl rfl) ?_
       refine Tops_step rfl (OpT_assign rfl rfl rfl rfl) ?_
       refine Tops_nil ?_
       refine Tk_wkS (fr' := [(1, some (vl1)), (2, some (vop21)), (3, some (vb1)), (4, some (vU64 fromp4)), (5, some (vU64 np5)), (6, some (vB write)), (15, some (.pointer (some ⟨b2, 0, none⟩))), (17, some (.pointer (some ⟨b3, 0, none⟩))), (18, some (vI new3.2)), (19, some (vU64 total7.1)), (20, some (vU64 total7.2))]) (own' := [some (cellsR b2 71 [v26, v27]), some (rowsX u8S true v27 vs2 mem2.b none), some (cellsR b3 76 [v39, v40]), some (rowsX u8S false v40 vs3 mem3.B none)]) (shr' := [Fact.sl SegS vl1 l, Fact.sl SegS vop21 op2, Fact.sl u8S vb1 b, Fact.sl RegionS v26 mem2.l, Fact.sl RegionS v39 mem3.L]) [1, 2, 3, 4, 5, 6, 15, 17, 18, 19, 20] [0, 1, 2, 3] [0, 1, 2, 3, 4] rfl rfl rfl rfl ?_
       refine Tk_seq ?_
       refine Tk_region ?_
       refine Tops_step rfl (OpT_move rfl rfl rfl rfl) ?_
       obtain ⟨total8, hx74, h⟩ := ob_e h
       refine Tops_exP rfl (OpT_call (w_ref_Total05 hx74) [] [0] rfl rfl rfl rfl rfl callee25 rfl rfl rfl rfl) ?_
       rintro _ ⟨_, _, _, ⟨rfl, rfl, rfl⟩, rfl⟩
       refine Tops_step rfl (OpT_move rfl rfl rfl rfl) ?_
       refine Tops_step rfl (OpT_extract rfl rfl rfl rfl rfl) ?_
       refine Tops_step rfl (OpT_extract rfl rfl rfl rfl rfl) ?_
       refine Tops_step rfl (OpT_assign rfl rfl rfl rfl) ?_
       refine Tops_step rfl (OpT_assign rfl rfl rfl rfl) ?_
       refine Tops_nil ?_
       refine Tk_wkS (fr' := [(1, some (vl1)), (2, some (vop21)), (3, some (vb1)), (4, some (vU64 fromp4)), (5, some (vU64 np5)), (6, some (vB write)), (15, some (.pointer (some ⟨b2, 0, none⟩))), (17, some (.pointer (some ⟨b3, 0, none⟩))), (18, some (vI new3.2)), (19, some (vU64 total7.1)), (20, some (vU64 total7.2)), (21, some (vU64 total8.1)), (22, some (vU64 total8.2))]) (own' := [some (cellsR b2 71 [v26, v27]), some (rowsX u8S true v27 vs2 mem2.b none), some (cellsR b3 76 [v39, v40]), some (rowsX u8S false v40 vs3 mem3.B none)]) (shr' := [Fact.sl SegS vl1 l, Fact.sl SegS vop21 op2, Fact.sl u8S vb1 b, Fact.sl RegionS v26 mem2.l, Fact.sl RegionS v39 mem3.L]) [1, 2, 3, 4, 5, 6, 15, 17, 18, 19, 20, 21, 22] [0, 1, 2, 3] [0, 1, 2, 3, 4] rfl rfl rfl rfl ?_
       refine Tk_seq ?_
       refine Tk_seq ?_
       refine Tk_region ?_
       refine Tops_step rfl (OpT_move rfl rfl rfl rfl) ?_
       refine Tops_step rfl (OpT_move rfl rfl rfl rfl) ?_
       refine Tops_step rfl (OpT_bin rfl rfl rfl rfl rfl (bin_neq_u64 (a := total7.1) (b := total8.1))) ?_
       refine Tops_step rfl (OpT_move rfl rfl rfl rfl) ?_
       obtain ⟨hg49, h⟩ := chk_e h
       replace hg49 := not_t hg49
       refine Tops_yes rfl rfl (congrArg (fun b => some (Value.bool b)) hg49) (OpT_move rfl rfl rfl rfl) ?_
       rintro _ rfl
       refine Tops_yes rfl rfl (congrArg (fun b => some (Value.bool b)) hg49) (OpT_move rfl rfl rfl rfl) ?_
       rintro _ rfl
       refine Tops_yes rfl rfl (congrArg (fun b => some (Value.bool b)) hg49) (OpT_bin rfl rfl rfl rfl rfl (bin_neq_u64 (a := total7.2) (b := total8.2))) ?_
       rintro _ rfl
       refine Tops_step rfl (OpT_pickF rfl rfl rfl (congrArg (fun b => some (Value.bool b)) hg49) rfl) ?_
       refine Tops_step rfl (OpT_move rfl rfl rfl rfl) ?_
       obtain ⟨hg50, h⟩ := chk_e h
       replace hg50 := not_t hg50
       refine Tops_yes rfl rfl (congrArg (fun b => some (Value.bool b)) hg50) (OpT_move rfl rfl rfl rfl) ?_
       rintro _ rfl
       obtain ⟨check7, hx75, h⟩ := ob_e h
       refine Tops_yes rfl rfl (congrArg (fun b => some (Value.bool b)) hg50) (OpT_call (w_seg_Check hx75) [] [0] rfl rfl rfl rfl rfl callee9 rfl rfl rfl rfl) ?_
       rintro _ ⟨_, _, _, ⟨rfl, rfl, rfl⟩, rfl⟩
       refine Tops_yes rfl rfl (congrArg (fun b => some (Value.bool b)) hg50) (OpT_move rfl rfl rfl rfl) ?_
       rintro _ rfl
       obtain ⟨check8, hx76, h⟩ := ob_e h
       refine Tops_yes rfl rfl (congrArg (fun b => some (Value.bool b)) hg50) (OpT_call (w_ref_Check05 hx76) [] [0] rfl rfl rfl rfl rfl callee26 rfl rfl rfl rfl) ?_
       rintro _ ⟨_, _, _, ⟨rfl, rfl, rfl⟩, rfl⟩
       refine Tops_yes rfl rfl (congrArg (fun b => some (Value.bool b)) hg50) (OpT_bin rfl rfl rfl rfl rfl (bin_neq_i (a := check7) (b := check8))) ?_
       rintro _ rfl
       refine Tops_step rfl (OpT_pickF rfl rfl rfl (congrArg (fun b => some (Value.bool b)) hg50) rfl) ?_
       refine Tops_step rfl (OpT_move rfl rfl rfl rfl) ?_
       obtain ⟨hg51, h⟩ := chk_e h
       replace hg51 := not_t hg51
       refine Tops_yes rfl rfl (congrArg (fun b => some (Value.bool b)) hg51) (OpT_move rfl rfl rfl rfl) ?_
       rintro _ rfl
       refine Tops_yes rfl rfl (congrArg (fun b => some (Value.bool b)) hg51) (OpT_move rfl rfl rfl rfl) ?_
       rintro _ rfl
       obtain ⟨in7, hx77, h⟩ := ob_e h
       refine Tops_yes rfl rfl (congrArg (fun b => some (Value.bool b)) hg51) (OpT_callP [4, 5, 2, 3] (w_seg_In hx77) [0, 1] [3, 0] rfl rfl rfl rfl rfl callee15 rfl rfl rfl rfl rfl) ?_
       rintro _ ⟨_, _, _, ⟨rfl, rfl, rfl⟩, rfl⟩
       refine Tops_yes rfl rfl (congrArg (fun b => some (Value.bool b)) hg51) (OpT_move rfl rfl rfl rfl) ?_
       rintro _ rfl
       refine Tops_yes rfl rfl (congrArg (fun b => some (Value.bool b)) hg51) (OpT_move rfl rfl rfl rfl) ?_
       rintro _ rfl
       obtain ⟨in8, hx78, h⟩ := ob_e h
       refine Tops_yes rfl rfl (congrArg (fun b => some (Value.bool b)) hg51) (OpT_callP [0, 1, 4, 5] (w_ref_In05 hx78) [2, 3] [4, 0] rfl rfl rfl rfl rfl callee27 rfl rfl rfl rfl rfl) ?_
       rintro _ ⟨_, _, _, ⟨rfl, rfl, rfl⟩, rfl⟩
       refine Tops_yes rfl rfl (congrArg (fun b => some (Value.bool b)) hg51) (OpT_bin rfl rfl rfl rfl rfl (bin_neq_i (a := in7) (b := in8))) ?_
       rintro _ rfl
       refine Tops_step rfl (OpT_pickF rfl rfl rfl (congrArg (fun b => some (Value.bool b)) hg51) rfl) ?_
       refine Tops_step rfl (OpT_move rfl rfl rfl rfl) ?_
       obtain ⟨hg52, h⟩ := chk_e h
       replace hg52 := not_t hg52
       refine Tops_yes rfl rfl (congrArg (fun b => some (Value.bool b)) hg52) (OpT_move rfl rfl rfl rfl) ?_
       rintro _ rfl
       refine Tops_yes rfl rfl (congrArg (fun b => some (Value.bool b)) hg52) (OpT_move rfl rfl rfl rfl) ?_
       rintro _ rfl
       obtain ⟨part7, hx79, h⟩ := ob_e h
       refine Tops_yes rfl rfl (congrArg (fun b => some (Value.bool b)) hg52) (OpT_call (w_seg_Part hx79) [] [0] rfl rfl rfl rfl rfl callee13 rfl rfl rfl rfl) ?_
       rintro _ ⟨v41, _, _, ⟨_, rfl, rfl, rfl⟩, rfl⟩
       refine Tops_yes rfl rfl (congrArg (fun b => some (Value.bool b)) hg52) (OpT_move rfl rfl rfl rfl) ?_
       rintro _ rfl
       refine Tops_yes rfl rfl (congrArg (fun b => some (Value.bool b)) hg52) (OpT_move rfl rfl rfl rfl) ?_
       rintro _ rfl
       obtain ⟨part8, hx80, h⟩ := ob_e h
       refine Tops_yes rfl rfl (congrArg (fun b => some (Value.bool b)) hg52) (OpT_call (w_ref_Part05 hx80) [] [0] rfl rfl rfl rfl rfl callee29 rfl rfl rfl rfl) ?_
       rintro _ ⟨v42, _, _, ⟨_, rfl, rfl, rfl⟩, rfl⟩
       obtain ⟨samese10, hx81, h⟩ := ob_e h
       refine Tops_yes rfl rfl (congrArg (fun b => some (Value.bool b)) hg52) (OpT_callB [4, 5] [0, 1, 2, 3, 4, 5] (w_kit_SameSegs hx81) [] rfl rfl rfl rfl rfl callee28 rfl rfl rfl rfl rfl rfl (bor_cons (bor_row 4 rfl rfl) (bor_cons (bor_row 5 rfl rfl) bor_nil)) (by rintro _ _ _ ⟨rfl, rfl, rfl⟩; exact ⟨rfl, ri_nil⟩)) ?_
       rintro _ ⟨_, _, _, ⟨rfl, rfl, rfl⟩, rfl⟩
       refine Tops_yes rfl rfl (congrArg (fun b => some (Value.bool b)) hg52) (OpT_not rfl rfl rfl rfl) ?_
       rintro _ rfl
       refine Tops_step rfl (OpT_pickF rfl rfl rfl (congrArg (fun b => some (Value.bool b)) hg52) rfl) ?_
       refine Tops_step rfl (OpT_move rfl rfl rfl rfl) ?_
       obtain ⟨hg53, h⟩ := chk_e h
       replace hg53 := not_t hg53
       refine Tops_yes rfl rfl (congrArg (fun b => some (Value.bool b)) hg53) (OpT_move rfl rfl rfl rfl) ?_
       rintro _ rfl
       refine Tops_yes rfl rfl (congrArg (fun b => some (Value.bool b)) hg53) (OpT_move rfl rfl rfl rfl) ?_
       rintro _ rfl
       refine Tops_yes rfl rfl (congrArg (fun b => some (Value.bool b)) hg53) (OpT_move rfl rfl rfl rfl) ?_
       rintro _ rfl
       obtain ⟨cut7, hx82, h⟩ := ob_e h
       refine Tops_yes rfl rfl (congrArg (fun b => some (Value.bool b)) hg53) (OpT_call (w_seg_Cut hx82) [] [0] rfl rfl rfl rfl rfl callee11 rfl rfl rfl rfl) ?_
       rintro _ ⟨v43, _, _, ⟨_, rfl, rfl, rfl⟩, rfl⟩
       refine Tops_yes rfl rfl (congrArg (fun b => some (Value.bool b)) hg53) (OpT_move rfl rfl rfl rfl) ?_
       rintro _ rfl
       refine Tops_yes rfl rfl (congrArg (fun b => some (Value.bool b)) hg53) (OpT_move rfl rfl rfl rfl) ?_
       rintro _ rfl
       refine Tops_yes rfl rfl (congrArg (fun b => some (Value.bool b)) hg53) (OpT_move rfl rfl rfl rfl) ?_
       rintro _ rfl
       obtain ⟨cut8, hx83, h⟩ := ob_e h
       refine Tops_yes rfl rfl (congrArg (fun b => some (Value.bool b)) hg53) (OpT_call (w_ref_Cut05 hx83) [] [0] rfl rfl rfl rfl rfl callee30 rfl rfl rfl rfl) ?_
       rintro _ ⟨v44, _, _, ⟨_, rfl, rfl, rfl⟩, rfl⟩
       obtain ⟨samese11, hx84, h⟩ := ob_e h
       refine Tops_yes rfl rfl (congrArg (fun b => some (Value.bool b)) hg53) (OpT_callB [6, 7] [0, 1, 2, 3, 4, 5, 6, 7] (w_kit_SameSegs hx84) [] rfl rfl rfl rfl rfl callee28 rfl rfl rfl rfl rfl rfl (bor_cons (bor_row 6 rfl rfl) (bor_cons (bor_row 7 rfl rfl) bor_nil)) (by rintro _ _ _ ⟨rfl, rfl, rfl⟩; exact ⟨rfl, ri_nil⟩)) ?_
       rintro _ ⟨_, _, _, ⟨rfl, rfl, rfl⟩, rfl⟩
       refine Tops_yes rfl rfl (congrArg (fun b => some (Value.bool b)) hg53) (OpT_not rfl rfl rfl rfl) ?_
       rintro _ rfl
       refine Tops_step rfl (OpT_pickF rfl rfl rfl (congrArg (fun b => some (Value.bool b)) hg53) rfl) ?_
       refine Tops_step rfl (OpT_move rfl rfl rfl rfl) ?_
       obtain ⟨hg54, h⟩ := chk_e h
       replace hg54 := not_t hg54
       refine Tops_yes rfl rfl (congrArg (fun b => some (Value.bool b)) hg54) (OpT_move rfl rfl rfl rfl) ?_
       rintro _ rfl
       refine Tops_yes rfl rfl (congrArg (fun b => some (Value.bool b)) hg54) (OpT_move rfl rfl rfl rfl) ?_
       rintro _ rfl
       obtain ⟨same4, hx85, h⟩ := ob_e h
       refine Tops_yes rfl rfl (congrArg (fun b => some (Value.bool b)) hg54) (OpT_call (w_seg_Same hx85) [] [0, 1] rfl rfl rfl rfl rfl callee12 rfl rfl rfl rfl) ?_
       rintro _ ⟨_, _, _, ⟨rfl, rfl, rfl⟩, rfl⟩
       refine Tops_yes rfl rfl (congrArg (fun b => some (Value.bool b)) hg54) (OpT_move rfl rfl rfl rfl) ?_
       rintro _ rfl
       refine Tops_yes rfl rfl (congrArg (fun b => some (Value.bool b)) hg54) (OpT_move rfl rfl rfl rfl) ?_
       rintro _ rfl
       obtain ⟨samese12, hx86, h⟩ := ob_e h
       refine Tops_yes rfl rfl (congrArg (fun b => some (Value.bool b)) hg54) (OpT_call (w_kit_SameSegs hx86) [] [0, 1] rfl rfl rfl rfl rfl callee28 rfl rfl rfl rfl) ?_
       rintro _ ⟨_, _, _, ⟨rfl, rfl, rfl⟩, rfl⟩
       refine Tops_yes rfl rfl (congrArg (fun b => some (Value.bool b)) hg54) (OpT_bin rfl rfl rfl rfl rfl (bin_neq_b (a := same4) (b := samese12) Try.underlying4)) ?_
       rintro _ rfl
       refine Tops_step rfl (OpT_pickF rfl rfl rfl (congrArg (fun b => some (Value.bool b)) hg54) rfl) ?_
       refine Tops_nil ?_
       refine Tk_wkS (fr' := [(1, some (vl1)), (2, some (vop21)), (3, some (vb1)), (15, some (.pointer (some ⟨b2, 0, none⟩))), (17, some (.pointer (some ⟨b3, 0, none⟩))), (18, some (vI new3.2)), (127, some (vB (same4 != samese12)))]) (own' := [some (cellsR b2 71 [v26, v27]), some (rowsX u8S true v27 vs2 mem2.b none), some (cellsR b3 76 [v39, v40]), some (rowsX u8S false v40 vs3 mem3.B none)]) (shr' := [Fact.sl SegS vl1 l, Fact.sl SegS vop21 op2, Fact.sl u8S vb1 b, Fact.sl RegionS v26 mem2.l, Fact.sl RegionS v39 mem3.L]) [1, 2, 3, 15, 17, 18, 127] [0, 1, 2, 3] [0, 1, 2, 3, 4] rfl rfl rfl rfl ?_
       obtain ⟨hg55, h⟩ := chk_e h
       replace hg55 := not_t hg55
       refine Tk_condF (congrArg (fun b => some (Value.bool b)) hg55) ?_
       refine Tk_skip ?_
       refine Tk_seq ?_
       refine Tk_seq ?_
       refine Tk_region ?_
       refine Tops_step rfl (OpT_move rfl rfl rfl rfl) ?_
       refine Tops_step rfl (OpT_bin rfl rfl rfl rfl rfl (bin_neq_i (a := new3.2) (b := (0 : Int)))) ?_
       refine Tops_nil ?_
       refine Tk_wkS (fr' := [(1, some (vl1)), (2, some (vop21)), (3, some (vb1)), (15, some (.pointer (some ⟨b2, 0, none⟩))), (17, some (.pointer (some ⟨b3, 0, none⟩))), (129, some (vB (new3.2 != (0 : Int))))]) (own' := [some (cellsR b2 71 [v26, v27]), some (rowsX u8S true v27 vs2 mem2.b none), some (cellsR b3 76 [v39, v40]), some (rowsX u8S false v40 vs3 mem3.B none)]) (shr' := [Fact.sl SegS vl1 l, Fact.sl SegS vop21 op2, Fact.sl u8S vb1 b, Fact.sl RegionS v26 mem2.l, Fact.sl RegionS v39 mem3.L]) [1, 2, 3, 15, 17, 129] [0, 1, 2, 3] [0, 1, 2, 3, 4] rfl rfl rfl rfl ?_
       rcases Bool.eq_false_or_eq_true (new3.2 != (0 : Int)) with hg56 | hg56
       ·replace h := br_t hg56 h
        refine Tk_condT (congrArg (fun b => some (Value.bool b)) hg56) ?_
        refine Tk_seq ?_
        refine Tk_region ?_
        refine Tops_step rfl (OpT_assign rfl rfl rfl rfl) ?_
        refine Tops_nil ?_
        refine Tk_wkS (fr' := [(14, some (vB true))]) (own' := []) (shr' := []) [14] [] [] rfl rfl rfl rfl ?_
        exact Tk_retV rfl rfl (resA (vs := [.bool true]) rfl ⟨rfl, trivial⟩) [] [] rfl rfl rfl ⟨rfl, rfl, rfl⟩
       ·replace h := br_f hg56 h
        refine Tk_condF (congrArg (fun b => some (Value.bool b)) hg56) ?_
        refine Tk_skip ?_
        refine Tk_seq ?_
        refine Tk_region ?_
        refine Tops_step rfl (OpT_move rfl rfl rfl rfl) ?_
        refine Tops_step rfl (OpT_move rfl rfl rfl rfl) ?_
        obtain ⟨segs4, hx87, h⟩ := ob_e h
        refine Tops_exP rfl (OpT_call (w_kit_Segs hx87) [] [0] rfl rfl rfl rfl rfl callee31 rfl rfl rfl rfl) ?_
        rintro _ ⟨v45, _, _, ⟨_, rfl, rfl, rfl⟩, rfl⟩
        refine Tops_step rfl (OpT_move rfl rfl rfl rfl) ?_
        obtain ⟨own4, hx88, h⟩ := ob_e h
        refine Tops_exP rfl (OpT_call (w_kit_Own hx88) [] [2] rfl rfl rfl rfl rfl callee17 rfl rfl rfl rfl) ?_
        rintro _ ⟨v46, _, _, ⟨_, rfl, rfl, rfl⟩, rfl⟩
        obtain ⟨scatte7, hx89, h⟩ := ob_e h
        refine Tops_exP rfl (OpT_callB [4, 5] [6, 7, 2, 3, 4, 5] (w_seg_Scatter hx89) [0, 1] rfl rfl rfl rfl rfl callee18 rfl rfl rfl rfl rfl rfl (bor_cons (bor_shr 3 rfl) (bor_cons (bor_row 4 rfl rfl) (bor_cons (bor_row 5 rfl rfl) bor_nil))) (by rintro _ _ _ ⟨rfl, rfl, rfl⟩; exact ⟨rfl, (ri_cons (ri_cells _ _ _) (ri_cons (ri_rows rfl _ _ _ _ _) ri_nil))⟩)) ?_
        rintro _ ⟨_, _, _, ⟨rfl, rfl, rfl⟩, rfl⟩
        refine Tops_step rfl (OpT_move rfl rfl rfl rfl) ?_
        refine Tops_step rfl (OpT_extract rfl rfl rfl rfl rfl) ?_
        refine Tops_step rfl (OpT_extract rfl rfl rfl rfl rfl) ?_
        refine Tops_step rfl (OpT_assign rfl rfl rfl rfl) ?_
        refine Tops_step rfl (OpT_assign rfl rfl rfl rfl) ?_
        refine Tops_nil ?_
        refine Tk_wkS (fr' := [(1, some (vl1)), (2, some (vop21)), (3, some (vb1)), (15, some (.pointer (some ⟨b2, 0, none⟩))), (17, some (.pointer (some ⟨b3, 0, none⟩))), (23, some (vI scatte7.1)), (16, some (vI scatte7.2.1))]) (own' := [some (cellsR b2 71 [v26, v27]), some (rowsX u8S true v27 vs2 scatte7.2.2 none), some (cellsR b3 76 [v39, v40]), some (rowsX u8S false v40 vs3 mem3.B none)]) (shr' := [Fact.sl SegS vl1 l, Fact.sl SegS vop21 op2, Fact.sl u8S vb1 b, Fact.sl RegionS v26 mem2.l, Fact.sl RegionS v39 mem3.L]) [1, 2, 3, 15, 17, 23, 16] [0, 1, 2, 3] [0, 1, 2, 3, 4] rfl rfl rfl rfl ?_
        refine Tk_seq ?_
        refine Tk_region ?_
        refine Tops_step rfl (OpT_move rfl rfl rfl rfl) ?_
        refine Tops_step rfl (OpT_move rfl rfl rfl rfl) ?_
        refine Tops_step rfl (OpT_move rfl rfl rfl rfl) ?_
        obtain ⟨scatte8, hx90, h⟩ := ob_e h
        refine Tops_exP rfl (OpT_callP [0, 1, 4, 5] (w_ref_Scatter05 hx90) [2, 3] [4, 0, 2] rfl rfl rfl rfl rfl callee32 rfl rfl rfl rfl rfl) ?_
        rintro _ ⟨_, _, _, ⟨rfl, rfl, rfl⟩, rfl⟩
        refine Tops_step rfl (OpT_move rfl rfl rfl rfl) ?_
        refine Tops_step rfl (OpT_extract rfl rfl rfl rfl rfl) ?_
        refine Tops_step rfl (OpT_extract rfl rfl rfl rfl rfl) ?_
        refine Tops_step rfl (OpT_assign rfl rfl rfl rfl) ?_
        refine Tops_step rfl (OpT_assign rfl rfl rfl rfl) ?_
        refine Tops_nil ?_
        refine Tk_wkS (fr' := [(2, some (vop21)), (15, some (.pointer (some ⟨b2, 0, none⟩))), (17, some (.pointer (some ⟨b3, 0, none⟩))), (23, some (vI scatte7.1)), (16, some (vI scatte7.2.1)), (24, some (vI scatte8.1)), (18, some (vI scatte8.2.1))]) (own' := [some (cellsR b2 71 [v26, v27]), some (rowsX u8S true v27 vs2 scatte7.2.2 none), some (cellsR b3 76 [v39, v40]), some (rowsX u8S false v40 vs3 scatte8.2.2 none)]) (shr' := [Fact.sl SegS vop21 op2, Fact.sl RegionS v26 mem2.l, Fact.sl RegionS v39 mem3.L]) [2, 15, 17, 23, 16, 24, 18] [0, 1, 2, 3] [1, 3, 4] rfl rfl rfl rfl ?_
        refine Tk_seq ?_
        refine Tk_region ?_
        refine Tops_step rfl (OpT_move rfl rfl rfl rfl) ?_
        refine Tops_step rfl (OpT_move rfl rfl rfl rfl) ?_
        obtain ⟨gather7, hx91, h⟩ := ob_e h
        refine Tops_exP rfl (OpT_callP [4, 5, 2, 3, 6] (w_seg_Gather hx91) [0, 1] [1, 0] rfl rfl rfl rfl rfl callee19 rfl rfl rfl rfl rfl) ?_
        rintro _ ⟨_, _, _, ⟨v47, rfl, rfl, rfl⟩, rfl⟩
        refine Tops_step rfl (OpT_move rfl rfl rfl rfl) ?_
        refine Tops_step rfl (OpT_extract rfl rfl rfl rfl rfl) ?_
        refine Tops_step rfl (OpT_extract rfl rfl rfl rfl rfl) ?_
        refine Tops_step rfl (OpT_assign rfl rfl rfl rfl) ?_
        refine Tops_step rfl (OpT_assign rfl rfl rfl rfl) ?_
        refine Tops_nil ?_
        refine Tk_wkS (fr' := [(2, some (vop21)), (15, some (.pointer (some ⟨b2, 0, none⟩))), (17, some (.pointer (some ⟨b3, 0, none⟩))), (23, some (vI scatte7.1)), (16, some (vI scatte7.2.1)), (24, some (vI scatte8.1)), (18, some (vI scatte8.2.1)), (25, some (v47)), (26, some (vI gather7.2))]) (own' := [some (cellsR b2 71 [v26, v27]), some (rowsX u8S true v27 vs2 scatte7.2.2 none), some (cellsR b3 76 [v39, v40]), some (rowsX u8S false v40 vs3 scatte8.2.2 none), some (rowS u8S v47 gather7.1)]) (shr' := [Fact.sl SegS vop21 op2, Fact.sl RegionS v26 mem2.l, Fact.sl RegionS v39 mem3.L]) [2, 15, 17, 23, 16, 24, 18, 25, 26] [0, 1, 2, 3, 4] [0, 1, 2] rfl rfl rfl rfl ?_
        refine Tk_seq ?_
        refine Tk_region ?_
        refine Tops_step rfl (OpT_move rfl rfl rfl rfl) ?_
        refine Tops_step rfl (OpT_move rfl rfl rfl rfl) ?_
        obtain ⟨gather8, hx92, h⟩ := ob_e h
        refine Tops_exP rfl (OpT_callP [0, 1, 5, 6, 4, 7] (w_ref_Gather05 hx92) [2, 3] [2, 0] rfl rfl rfl rfl rfl callee33 rfl rfl rfl rfl rfl) ?_
        rintro _ ⟨_, _, _, ⟨v48, rfl, rfl, rfl⟩, rfl⟩
        refine Tops_step rfl (OpT_move rfl rfl rfl rfl) ?_
        refine Tops_step rfl (OpT_extract rfl rfl rfl rfl rfl) ?_
        refine Tops_step rfl (OpT_extract rfl rfl rfl rfl rfl) ?_
        refine Tops_step rfl (OpT_assign rfl rfl rfl rfl) ?_
        refine Tops_step rfl (OpT_assign rfl rfl rfl rfl) ?_
        refine Tops_nil ?_
        refine Tk_wkS (fr' := [(15, some (.pointer (some ⟨b2, 0, none⟩))), (17, some (.pointer (some ⟨b3, 0, none⟩))), (23, some (vI scatte7.1)), (16, some (vI scatte7.2.1)), (24, some (vI scatte8.1)), (18, some (vI scatte8.2.1)), (25, some (v47)), (26, some (vI gather7.2)), (27, some (v48)), (28, some (vI gather8.2))]) (own' := [some (cellsR b2 71 [v26, v27]), some (rowsX u8S true v27 vs2 scatte7.2.2 none), some (cellsR b3 76 [v39, v40]), some (rowsX u8S false v40 vs3 scatte8.2.2 none), some (rowS u8S v47 gather7.1), some (rowS u8S v48 gather8.1)]) (shr' := [Fact.sl RegionS v26 mem2.l, Fact.sl RegionS v39 mem3.L]) [15, 17, 23, 16, 24, 18, 25, 26, 27, 28] [0, 1, 2, 3, 4, 5] [1, 2] rfl rfl rfl rfl ?_
        refine Tk_seq ?_
        refine Tk_drawT (by kernel_rfl) ?_
        refine TA_tb [0, 0, 3, 7, 15, 15, 63, 127, 255, 511, 1023, 511, 2559, 8191, 16383, 32767, 65535, 65535, 262143, 524287, 1048575, 2097151, 4194303, 8388607, 2097151, 25165823, 58720255, 134217727, 268435455, 536870911] (by kernel_rfl) fun htb => ?_
        refine TA_seg (lo := 0) (hi := 2) htb rfl rfl (by kernel_rfl) (fun c L a w => Sat c ⟨[(15, some (.pointer (some ⟨b2, 0, none⟩))), (17, some (.pointer (some ⟨b3, 0, none⟩))), (23, some (vI scatte7.1)), (16, some (vI scatte7.2.1)), (24, some (vI scatte8.1)), (18, some (vI scatte8.2.1)), (25, some (v47)), (26, some (vI gather7.2)), (27, some (v48)), (28, some (vI gather8.2)), (158, bif L 0 then some (vI scatte7.1) else none), (159, bif L 1 then some (vI scatte8.1) else none)], [(some (cellsR b2 71 [v26, v27]) : Option Res), (some (rowsX u8S true v27 vs2 scatte7.2.2 none) : Option Res), (some (cellsR b3 76 [v39, v40]) : Option Res), (some (rowsX u8S false v40 vs3 scatte8.2.2 none) : Option Res), (some (rowS u8S v47 gather7.1) : Option Res), (some (rowS u8S v48 gather8.1) : Option Res)], [Fact.sl RegionS v26 mem2.l, Fact.sl RegionS v39 mem3.L]⟩ a w) [([], []), ([], [])] rfl (by kernel_rfl) ?_ (steps_cons ?_ (steps_cons ?_ (steps_nil))) ?_
        ·intro a w hs
         exact hs.startF [158, 159] [0, 1, 2, 3, 4, 5] [0, 1] rfl rfl rfl rfl
        ·intro L a w hv K Q hK
         have hs := hv
         refine wpOp_go rfl rfl hs (OpT_move rfl rfl rfl rfl) ?_
         rintro _ rfl a' w' hs'
         exact hK a' w' (hs'.putF (i := 10) rfl [0, 1, 2, 3, 4, 5] [0, 1] rfl rfl rfl rfl)
        ·intro L a w hv K Q hK
         have hs := hv
         refine wpOp_go rfl rfl hs (OpT_move rfl rfl rfl rfl) ?_
         rintro _ rfl a' w' hs'
         exact hK a' w' (hs'.putF (i := 11) rfl [0, 1, 2, 3, 4, 5] [0, 1] rfl rfl rfl rfl)
        ·intro L a w hL hv
         rw [allTrue hL] at hv
         have hs := hv
         refine (show TA _ _ _ 2 ⟨[(15, some (.pointer (some ⟨b2, 0, none⟩))), (17, some (.pointer (some ⟨b3, 0, none⟩))), (16, some (vI scatte7.2.1)), (18, some (vI scatte8.2.1)), (25, some (v47)), (26, some (vI gather7.2)), (27, some (v48)), (28, some (vI gather8.2)), (158, some (vI scatte7.1)), (159, some (vI scatte8.1))], [some (cellsR b2 71 [v26, v27]), some (rowsX u8S true v27 vs2 scatte7.2.2 none), some (cellsR b3 76 [v39, v40]), some (rowsX u8S false v40 vs3 scatte8.2.2 none), some (rowS u8S v47 gather7.1), some (rowS u8S v48 gather8.1)], [Fact.sl RegionS v26 mem2.l, Fact.sl RegionS v39 mem3.L]⟩ from ?_) a w (hs.wkS [15, 17, 16, 18, 25, 26, 27, 28, 158, 159] [0, 1, 2, 3, 4, 5] [0, 1] rfl rfl rfl rfl)
         clear hs hL
         refine TA_step htb (by kernel_rfl) rfl rfl (OpT_bin rfl rfl rfl rfl rfl (bin_eql_i (a := scatte7.1) (b := scatte8.1))) ?_
         refine TA_step htb (by kernel_rfl) rfl rfl (OpT_move rfl rfl rfl rfl) ?_
         refine TA_wkS (fr' := [(15, some (.pointer (some ⟨b2, 0, none⟩))), (17, some (.pointer (some ⟨b3, 0, none⟩))), (16, some (vI scatte7.2.1)), (18, some (vI scatte8.2.1)), (25, some (v47)), (26, some (vI gather7.2)), (27, some (v48)), (28, some (vI gather8.2)), (161, some (vB (scatte7.1 == scatte8.1)))]) (own' := [some (cellsR b2 71 [v26, v27]), some (rowsX u8S true v27 vs2 scatte7.2.2 none), some (cellsR b3 76 [v39, v40]), some (rowsX u8S false v40 vs3 scatte8.2.2 none), some (rowS u8S v47 gather7.1), some (rowS u8S v48 gather8.1)]) (shr' := [Fact.sl RegionS v26 mem2.l, Fact.sl RegionS v39 mem3.L]) [15, 17, 16, 18, 25, 26, 27, 28, 161] [0, 1, 2, 3, 4, 5] [0, 1] rfl rfl rfl rfl ?_
         obtain ⟨hg57, h⟩ := chk_e h
         refine TA_seg (lo := 4) (hi := 6) htb rfl rfl (by kernel_rfl) (fun c L a w => Sat c ⟨[(15, some (.pointer (some ⟨b2, 0, none⟩))), (17, some (.pointer (some ⟨b3, 0, none⟩))), (16, some (vI scatte7.2.1)), (18, some (vI scatte8.2.1)), (25, some (v47)), (26, some (vI gather7.2)), (27, some (v48)), (28, some (vI gather8.2)), (161, some (vB (scatte7.1 == scatte8.1))), (162, bif L 4 then some (vI scatte7.2.1) else none), (163, bif L 5 then some (vI scatte8.2.1) else none)], [(some (cellsR b2 71 [v26, v27]) : Option Res), (some (rowsX u8S true v27 vs2 scatte7.2.2 none) : Option Res), (some (cellsR b3 76 [v39, v40]) : Option Res), (some (rowsX u8S false v40 vs3 scatte8.2.2 none) : Option Res), (some (rowS u8S v47 gather7.1) : Option Res), (some (rowS u8S v48 gather8.1) : Option Res)], [Fact.sl RegionS v26 mem2.l, Fact.sl RegionS v39 mem3.L]⟩ a w) [([], []), ([], [])] rfl (by kernel_rfl) ?_ (steps_cons ?_ (steps_cons ?_ (steps_nil))) ?_
         ·intro a w hs
          exact hs.startF [162, 163] [0, 1, 2, 3, 4, 5] [0, 1] rfl rfl rfl rfl
         ·intro L a w hv K Q hK
          have hs := hv
          refine wpOp_yes rfl rfl rfl hs (congrArg (fun b => some (Value.bool b)) hg57) (OpT_move rfl rfl rfl rfl) ?_
          rintro _ rfl a' w' hs'
          exact hK a' w' (hs'.putF (i := 9) rfl [0, 1, 2, 3, 4, 5] [0, 1] rfl rfl rfl rfl)
         ·intro L a w hv K Q hK
          have hs := hv
          refine wpOp_yes rfl rfl rfl hs (congrArg (fun b => some (Value.bool b)) hg57) (OpT_move rfl rfl rfl rfl) ?_
          rintro _ rfl a' w' hs'
          exact hK a' w' (hs'.putF (i := 10) rfl [0, 1, 2, 3, 4, 5] [0, 1] rfl rfl rfl rfl)
         ·intro L a w hL hv
          rw [allTrue hL] at hv
          have hs := hv
          refine (show TA _ _ _ 6 ⟨[(15, some (.pointer (some ⟨b2, 0, none⟩))), (17, some (.pointer (some ⟨b3, 0, none⟩))), (25, some (v47)), (26, some (vI gather7.2)), (27, some (v48)), (28, some (vI gather8.2)), (161, some (vB (scatte7.1 == scatte8.1))), (162, some (vI scatte7.2.1)), (163, some (vI scatte8.2.1))], [some (cellsR b2 71 [v26, v27]), some (rowsX u8S true v27 vs2 scatte7.2.2 none), some (cellsR b3 76 [v39, v40]), some (rowsX u8S false v40 vs3 scatte8.2.2 none), some (rowS u8S v47 gather7.1), some (rowS u8S v48 gather8.1)], [Fact.sl RegionS v26 mem2.l, Fact.sl RegionS v39 mem3.L]⟩ from ?_) a w (hs.wkS [15, 17, 25, 26, 27, 28, 161, 162, 163] [0, 1, 2, 3, 4, 5] [0, 1] rfl rfl rfl rfl)
          clear hs hL
          refine TA_yes htb (by kernel_rfl) rfl rfl rfl (congrArg (fun b => some (Value.bool b)) hg57) (OpT_bin rfl rfl rfl rfl rfl (bin_eql_i (a := scatte7.2.1) (b := scatte8.2.1))) ?_
          rintro _ rfl
          refine TA_step htb (by kernel_rfl) rfl rfl (OpT_pickT rfl rfl rfl (congrArg (fun b => some (Value.bool b)) hg57) rfl) ?_
          refine TA_step htb (by kernel_rfl) rfl rfl (OpT_move rfl rfl rfl rfl) ?_
          refine TA_wkS (fr' := [(15, some (.pointer (some ⟨b2, 0, none⟩))), (17, some (.pointer (some ⟨b3, 0, none⟩))), (25, some (v47)), (26, some (vI gather7.2)), (27, some (v48)), (28, some (vI gather8.2)), (166, some (vB (scatte7.2.1 == scatte8.2.1)))]) (own' := [some (cellsR b2 71 [v26, v27]), some (rowsX u8S true v27 vs2 scatte7.2.2 none), some (cellsR b3 76 [v39, v40]), some (rowsX u8S false v40 vs3 scatte8.2.2 none), some (rowS u8S v47 gather7.1), some (rowS u8S v48 gather8.1)]) (shr' := [Fact.sl RegionS v26 mem2.l, Fact.sl RegionS v39 mem3.L]) [15, 17, 25, 26, 27, 28, 166] [0, 1, 2, 3, 4, 5] [0, 1] rfl rfl rfl rfl ?_
          refine TA_retire (i := 4) rfl ?_
          refine TA_retire (i := 5) rfl ?_
          obtain ⟨hg58, h⟩ := chk_e h
          refine TA_seg (lo := 9) (hi := 13) htb rfl rfl (by kernel_rfl) (fun c L a w => Sat c ⟨[(15, some (.pointer (some ⟨b2, 0, none⟩))), (17, some (.pointer (some ⟨b3, 0, none⟩))), (25, some (v47)), (26, some (vI gather7.2)), (27, some (v48)), (28, some (vI gather8.2)), (166, some (vB (scatte7.2.1 == scatte8.2.1))), (167, bif L 9 then some (v47) else none), (168, bif L 10 then some (vS gather7.1) else none), (169, bif L 11 then some (v48) else none), (170, bif L 12 then some (vS gather8.1) else none)], [(some (cellsR b2 71 [v26, v27]) : Option Res), (some (rowsX u8S true v27 vs2 scatte7.2.2 none) : Option Res), (some (cellsR b3 76 [v39, v40]) : Option Res), (some (rowsX u8S false v40 vs3 scatte8.2.2 none) : Option Res), (none : Option Res), (none : Option Res)], [Fact.sl RegionS v26 mem2.l, Fact.sl RegionS v39 mem3.L, Fact.sl u8S v47 gather7.1, Fact.sl u8S v48 gather8.1]⟩ a w) [([], [10]), ([9], []), ([], [12]), ([11], [])] rfl (by kernel_rfl) ?_ (steps_cons ?_ (steps_cons ?_ (steps_cons ?_ (steps_cons ?_ (steps_nil))))) ?_
          ·intro a w hs
           exact hs.startF [167, 168, 169, 170] [0, 1, 2, 3, 4, 5] [0, 1, 2, 3] rfl rfl rfl rfl
          ·intro L a w hv K Q hK
           have hs := hv
           refine wpOp_yes rfl rfl rfl hs (congrArg (fun b => some (Value.bool b)) hg58) (OpT_move rfl rfl rfl rfl) ?_
           rintro _ rfl a' w' hs'
           exact hK a' w' (hs'.putF (i := 7) rfl [0, 1, 2, 3, 4, 5] [0, 1, 2, 3] rfl rfl rfl rfl)
          ·intro L a w hv K Q hK
           have hs := hv
           refine wpOp_yes rfl rfl rfl hs (congrArg (fun b => some (Value.bool b)) hg58) (OpT_strS rfl rfl rfl rfl Try.underlying33 Try.underlying5 Try.underlying9 (i := 2) rfl) ?_
           rintro _ rfl a' w' hs'
           exact hK a' w' (hs'.putF (i := 8) rfl [0, 1, 2, 3, 4, 5] [0, 1, 2, 3] rfl rfl rfl rfl)
          ·intro L a w hv K Q hK
           have hs := hv
           refine wpOp_yes rfl rfl rfl hs (congrArg (fun b => some (Value.bool b)) hg58) (OpT_move rfl rfl rfl rfl) ?_
           rintro _ rfl a' w' hs'
           exact hK a' w' (hs'.putF (i := 9) rfl [0, 1, 2, 3, 4, 5] [0, 1, 2, 3] rfl rfl rfl rfl)
          ·intro L a w hv K Q hK
           have hs := hv
           refine wpOp_yes rfl rfl rfl hs (congrArg (fun b => some (Value.bool b)) hg58) (OpT_strS rfl rfl rfl rfl Try.underlying33 Try.underlying5 Try.underlying9 (i := 3) rfl) ?_
           rintro _ rfl a' w' hs'
           exact hK a' w' (hs'.putF (i := 10) rfl [0, 1, 2, 3, 4, 5] [0, 1, 2, 3] rfl rfl rfl rfl)
          ·intro L a w hL hv
           rw [allTrue hL] at hv
           have hs := hv
           refine (show TA _ _ _ 13 ⟨[(15, some (.pointer (some ⟨b2, 0, none⟩))), (17, some (.pointer (some ⟨b3, 0, none⟩))), (26, some (vI gather7.2)), (28, some (vI gather8.2)), (166, some (vB (scatte7.2.1 == scatte8.2.1))), (168, some (vS gather7.1)), (170, some (vS gather8.1))], [some (cellsR b2 71 [v26, v27]), some (rowsX u8S true v27 vs2 scatte7.2.2 none), some (cellsR b3 76 [v39, v40]), some (rowsX u8S false v40 vs3 scatte8.2.2 none)], [Fact.sl RegionS v26 mem2.l, Fact.sl RegionS v39 mem3.L]⟩ from ?_) a w (hs.wkS [15, 17, 26, 28, 166, 168, 170] [0, 1, 2, 3] [0, 1] rfl rfl rfl rfl)
           clear hs hL
           refine TA_yes htb (by kernel_rfl) rfl rfl rfl (congrArg (fun b => some (Value.bool b)) hg58) (OpT_bin rfl rfl rfl rfl rfl (bin_eql_s (a := gather7.1) (b := gather8.1))) ?_
           rintro _ rfl
           refine TA_step htb (by kernel_rfl) rfl rfl (OpT_pickT rfl rfl rfl (congrArg (fun b => some (Value.bool b)) hg58) rfl) ?_
           refine TA_step htb (by kernel_rfl) rfl rfl (OpT_move rfl rfl rfl rfl) ?_
           refine TA_wkS (fr' := [(15, some (.pointer (some ⟨b2, 0, none⟩))), (17, some (.pointer (some ⟨b3, 0, none⟩))), (26, some (vI gather7.2)), (28, some (vI gather8.2)), (173, some (vB (gather7.1 == gather8.1)))]) (own' := [some (cellsR b2 71 [v26, v27]), some (rowsX u8S true v27 vs2 scatte7.2.2 none), some (cellsR b3 76 [v39, v40]), some (rowsX u8S false v40 vs3 scatte8.2.2 none)]) (shr' := [Fact.sl RegionS v26 mem2.l, Fact.sl RegionS v39 mem3.L]) [15, 17, 26, 28, 173] [0, 1, 2, 3] [0, 1] rfl rfl rfl rfl ?_
           obtain ⟨hg59, h⟩ := chk_e h
           refine TA_seg (lo := 16) (hi := 18) htb rfl rfl (by kernel_rfl) (fun c L a w => Sat c ⟨[(15, some (.pointer (some ⟨b2, 0, none⟩))), (17, some (.pointer (some ⟨b3, 0, none⟩))), (26, some (vI gather7.2)), (28, some (vI gather8.2)), (173, some (vB (gather7.1 == gather8.1))), (174, bif L 16 then some (vI gather7.2) else none), (175, bif L 17 then some (vI gather8.2) else none)], [(some (cellsR b2 71 [v26, v27]) : Option Res), (some (rowsX u8S true v27 vs2 scatte7.2.2 none) : Option Res), (some (cellsR b3 76 [v39, v40]) : Option Res), (some (rowsX u8S false v40 vs3 scatte8.2.2 none) : Option Res)], [Fact.sl RegionS v26 mem2.l, Fact.sl RegionS v39 mem3.L]⟩ a w) [([], []), ([], [])] rfl (by kernel_rfl) ?_ (steps_cons ?_ (steps_cons ?_ (steps_nil))) ?_
           ·intro a w hs
            exact hs.startF [174, 175] [0, 1, 2, 3] [0, 1] rfl rfl rfl rfl
           ·intro L a w hv K Q hK
            have hs := hv
            refine wpOp_yes rfl rfl rfl hs (congrArg (fun b => some (Value.bool b)) hg59) (OpT_move rfl rfl rfl rfl) ?_
            rintro _ rfl a' w' hs'
            exact hK a' w' (hs'.putF (i := 5) rfl [0, 1, 2, 3] [0, 1] rfl rfl rfl rfl)
           ·intro L a w hv K Q hK
            have hs := hv
            refine wpOp_yes rfl rfl rfl hs (congrArg (fun b => some (Value.bool b)) hg59) (OpT_move rfl rfl rfl rfl) ?_
            rintro _ rfl a' w' hs'
            exact hK a' w' (hs'.putF (i := 6) rfl [0, 1, 2, 3] [0, 1] rfl rfl rfl rfl)
           ·intro L a w hL hv
            rw [allTrue hL] at hv
            have hs := hv
            refine (show TA _ _ _ 18 ⟨[(15, some (.pointer (some ⟨b2, 0, none⟩))), (17, some (.pointer (some ⟨b3, 0, none⟩))), (173, some (vB (gather7.1 == gather8.1))), (174, some (vI gather7.2)), (175, some (vI gather8.2))], [some (cellsR b2 71 [v26, v27]), some (rowsX u8S true v27 vs2 scatte7.2.2 none), some (cellsR b3 76 [v39, v40]), some (rowsX u8S false v40 vs3 scatte8.2.2 none)], [Fact.sl RegionS v26 mem2.l, Fact.sl RegionS v39 mem3.L]⟩ from ?_) a w (hs.wkS [15, 17, 173, 174, 175] [0, 1, 2, 3] [0, 1] rfl rfl rfl rfl)
            clear hs hL
            refine TA_yes htb (by kernel_rfl) rfl rfl rfl (congrArg (fun b => some (Value.bool b)) hg59) (OpT_bin rfl rfl rfl rfl rfl (bin_eql_i (a := gather7.2) (b := gather8.2))) ?_
            rintro _ rfl
            refine TA_step htb (by kernel_rfl) rfl rfl (OpT_pickT rfl rfl rfl (congrArg (fun b => some (Value.bool b)) hg59) rfl) ?_
            refine TA_step htb (by kernel_rfl) rfl rfl (OpT_move rfl rfl rfl rfl) ?_
            refine TA_wkS (fr' := [(15, some (.pointer (some ⟨b2, 0, none⟩))), (17, some (.pointer (some ⟨b3, 0, none⟩))), (178, some (vB (gather7.2 == gather8.2)))]) (own' := [some (cellsR b2 71 [v26, v27]), some (rowsX u8S true v27 vs2 scatte7.2.2 none), some (cellsR b3 76 [v39, v40]), some (rowsX u8S false v40 vs3 scatte8.2.2 none)]) (shr' := [Fact.sl RegionS v26 mem2.l, Fact.sl RegionS v39 mem3.L]) [15, 17, 178] [0, 1, 2, 3] [0, 1] rfl rfl rfl rfl ?_
            obtain ⟨hg60, h⟩ := chk_e h
            obtain ⟨image7, hx93, h⟩ := ob_e h
            obtain ⟨image8, hx94, h⟩ := ob_e h
            refine TA_seg (lo := 21) (hi := 27) htb rfl rfl (by kernel_rfl) (fun c L a w => ∃ (v49 : Value), ∃ (v50 : Value), Sat c ⟨[(15, some (.pointer (some ⟨b2, 0, none⟩))), (17, some (.pointer (some ⟨b3, 0, none⟩))), (178, some (vB (gather7.2 == gather8.2))), (179, bif L 21 then some (.pointer (some ⟨b2, 0, none⟩)) else none), (180, bif L 22 then some (v49) else none), (181, bif L 23 then some (vS image7) else none), (182, bif L 24 then some (.pointer (some ⟨b3, 0, none⟩)) else none), (183, bif L 25 then some (v50) else none), (184, bif L 26 then some (vS image8) else none)], [(some (cellsR b2 71 [v26, v27]) : Option Res), (some (rowsX u8S true v27 vs2 scatte7.2.2 none) : Option Res), (some (cellsR b3 76 [v39, v40]) : Option Res), (some (rowsX u8S false v40 vs3 scatte8.2.2 none) : Option Res)], [Fact.sl RegionS v26 mem2.l, Fact.sl RegionS v39 mem3.L, (bif L 22 then Fact.sl u8S v49 image7 else Fact.tt), (bif L 25 then Fact.sl u8S v50 image8 else Fact.tt)]⟩ a w) [([], [22, 23, 25, 26]), ([21], [23, 25, 26]), ([21, 22], []), ([], [25, 26]), ([21, 22, 24], [26]), ([21, 22, 24, 25], [])] rfl (by kernel_rfl) ?_ (steps_cons ?_ (steps_cons ?_ (steps_cons ?_ (steps_cons ?_ (steps_cons ?_ (steps_cons ?_ (steps_nil))))))) ?_
            ·intro a w hs
             exact ⟨undef, undef, hs.startF [179, 180, 181, 182, 183, 184] [0, 1, 2, 3] [0, 1, 2, 3] rfl rfl rfl rfl⟩
            ·intro L a w hv K Q hK
             obtain ⟨v49, v50, hs⟩ := hv
             refine wpOp_yes rfl rfl rfl hs (congrArg (fun b => some (Value.bool b)) hg60) (OpT_move rfl rfl rfl rfl) ?_
             rintro _ rfl a' w' hs'
             exact hK a' w' ⟨v49, v50, hs'.putF (i := 3) rfl [0, 1, 2, 3] [0, 1, 2, 3] rfl rfl rfl rfl⟩
            ·intro L a w hv K Q hK
             obtain ⟨v49, v50, hs⟩ := hv
             refine wpOp_yes rfl rfl rfl hs (congrArg (fun b => some (Value.bool b)) hg60) (OpT_callP [4, 5, 2, 3] (ws_gmem_Mem_Image hx93) [0, 1] [0] rfl rfl rfl rfl rfl callee20 rfl rfl rfl rfl rfl) ?_
             rintro _ ⟨v49', _, _, ⟨_, rfl, rfl, rfl⟩, rfl⟩ a' w' hs'
             exact hK a' w' ⟨v49', v50, hs'.putF (i := 4) rfl [0, 1, 2, 3] [0, 1, 4, 3] rfl rfl rfl rfl⟩
            ·intro L a w hv K Q hK
             obtain ⟨v49, v50, hs⟩ := hv
             refine wpOp_yes rfl rfl rfl hs (congrArg (fun b => some (Value.bool b)) hg60) (OpT_strS rfl rfl rfl rfl Try.underlying33 Try.underlying5 Try.underlying9 (i := 2) rfl) ?_
             rintro _ rfl a' w' hs'
             exact hK a' w' ⟨v49, v50, hs'.putF (i := 5) rfl [0, 1, 2, 3] [0, 1, 2, 3] rfl rfl rfl rfl⟩
            ·intro L a w hv K Q hK
             obtain ⟨v49, v50, hs⟩ := hv
             refine wpOp_yes rfl rfl rfl hs (congrArg (fun b => some (Value.bool b)) hg60) (OpT_move rfl rfl rfl rfl) ?_
             rintro _ rfl a' w' hs'
             exact hK a' w' ⟨v49, v50, hs'.putF (i := 6) rfl [0, 1, 2, 3] [0, 1, 2, 3] rfl rfl rfl rfl⟩
            ·intro L a w hv K Q hK
             obtain ⟨v49, v50, hs⟩ := hv
             refine wpOp_yes rfl rfl rfl hs (congrArg (fun b => some (Value.bool b)) hg60) (OpT_callP [0, 1, 4, 5] (ws_ref_Mem_Image02 hx94) [2, 3] [1] rfl rfl rfl rfl rfl callee34 rfl rfl rfl rfl rfl) ?_
             rintro _ ⟨v50', _, _, ⟨_, rfl, rfl, rfl⟩, rfl⟩ a' w' hs'
             exact hK a' w' ⟨v49, v50', hs'.putF (i := 7) rfl [0, 1, 2, 3] [0, 1, 2, 4] rfl rfl rfl rfl⟩
            ·intro L a w hv K Q hK
             obtain ⟨v49, v50, hs⟩ := hv
             refine wpOp_yes rfl rfl rfl hs (congrArg (fun b => some (Value.bool b)) hg60) (OpT_strS rfl rfl rfl rfl Try.underlying33 Try.underlying5 Try.underlying9 (i := 3) rfl) ?_
             rintro _ rfl a' w' hs'
             exact hK a' w' ⟨v49, v50, hs'.putF (i := 8) rfl [0, 1, 2, 3] [0, 1, 2, 3] rfl rfl rfl rfl⟩
            ·intro L a w hL hv
             rw [allTrue hL] at hv
             obtain ⟨v49, v50, hs⟩ := hv
             refine (show TA _ _ _ 27 ⟨[(178, some (vB (gather7.2 == gather8.2))), (181, some (vS image7)), (184, some (vS image8))], [], []⟩ from ?_) a w (hs.wkS [178, 181, 184] [] [] rfl rfl rfl rfl)
             clear hs hL
             refine TA_yes htb (by kernel_rfl) rfl rfl rfl (congrArg (fun b => some (Value.bool b)) hg60) (OpT_bin rfl rfl rfl rfl rfl (bin_eql_s (a := image7) (b := image8))) ?_
             rintro _ rfl
             refine TA_step htb (by kernel_rfl) rfl rfl (OpT_pickT rfl rfl rfl (congrArg (fun b => some (Value.bool b)) hg60) rfl) ?_
             refine TA_step htb (by kernel_rfl) rfl rfl (OpT_assign rfl rfl rfl rfl) ?_
             refine TA_end rfl ?_
             refine Tk_wkS (fr' := [(14, some (vB (image7 == image8)))]) (own' := []) (shr' := []) [14] [] [] rfl rfl rfl rfl ?_
             obtain ⟨hg61, h⟩ := chk_e h
             exact Tk_retV rfl rfl (resA (vs := [.bool true]) rfl ⟨(congrArg (fun b => some (Value.bool b)) hg61), trivial⟩) [] [] rfl rfl rfl ⟨rfl, rfl, rfl⟩
end Go.Proofs.Ytkdekmjcfoahjaa
