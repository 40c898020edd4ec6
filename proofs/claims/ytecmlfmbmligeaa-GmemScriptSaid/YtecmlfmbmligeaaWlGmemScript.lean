/- The law GmemScript is walked: it returns what its plain words say. No condition. -/
import Derived.Test.YtecmlfmbmligeaaWa3
namespace Go.Proofs.Ytecmlfmbmligeaa

set_option maxRecDepth 100000 in
set_option maxHeartbeats 4000000 in
theorem w_law02zGmemScript {l : List Region} {calls : List dumbwaiterlaw02_Act} {vl1 : Value} {vcalls1 : Value}  (h : law02zGmemScript l calls = some true) :
  Ctr Try.prog 6 #[vl1, vcalls1] [] [Fact.sl RegionS vl1 l, Fact.sl dumbwaiterlaw02_ActS vcalls1 calls]
   (fun rv own shr => rv = .bool true ∧ own = [] ∧ shr = []) := by
 unfold law02zGmemScript at h
 refine Ctr.mk (args := [vl1, vcalls1]) Try.func6 rfl rfl (fun R0 w0 B => ?_)
 refine Tk_seq (Tk_region (Tops_step rfl (OpT_assign rfl rfl rfl rfl) ?_))
 refine Tops_nil (Tk_wkS (fr' := [(0, some (vl1)), (1, some (vcalls1))]) (own' := []) (shr' := [Fact.sl RegionS vl1 l, Fact.sl dumbwaiterlaw02_ActS vcalls1 calls]) [0, 1] [] [0, 1] rfl rfl rfl rfl ?_)
 refine Tk_seq (Tk_seq (Tk_region ?_))
 obtain ⟨lives1, hx1, h⟩ := ob_e h
 refine Tops_exP rfl (OpT_call (w_law02zlives hx1) [] [] rfl rfl rfl rfl rfl callee8 rfl rfl rfl rfl) ?_
 rintro _ ⟨_, _, _, ⟨rfl, rfl, rfl⟩, rfl⟩
 refine Tops_step rfl (OpT_not rfl rfl rfl rfl) ?_
 refine Tops_nil (Tk_wkS (fr' := [(0, some (vl1)), (1, some (vcalls1)), (19, some (vB (!lives1)))]) (own' := []) (shr' := [Fact.sl RegionS vl1 l, Fact.sl dumbwaiterlaw02_ActS vcalls1 calls]) [0, 1, 19] [] [0, 1] rfl rfl rfl rfl ?_)
 obtain ⟨hg1, h⟩ := chk_e h
 replace hg1 := not_t hg1
 refine Tk_condF (congrArg (fun b => some (Value.bool b)) hg1) ?_
 refine Tk_skip (Tk_seq (Tk_seq (Tk_region (Tops_step rfl (OpT_move rfl rfl rfl rfl) ?_))))
 obtain ⟨lightr1, hx2, h⟩ := ob_e h
 refine Tops_exP rfl (OpT_call (w_kit_LightRegions hx2) [] [0] rfl rfl rfl rfl rfl callee9 rfl rfl rfl rfl) ?_
 rintro _ ⟨_, _, _, ⟨rfl, rfl, rfl⟩, rfl⟩
 refine Tops_step rfl (OpT_not rfl rfl rfl rfl) ?_
 refine Tops_step rfl (OpT_move rfl rfl rfl rfl) ?_
 rcases Bool.eq_false_or_eq_true ((!lightr1)) with hg2 | hg2
 ·replace h := br_t hg2 h
  refine Tops_no rfl rfl (congrArg (fun b => some (Value.bool b)) hg2) rfl rfl ?_
  refine Tops_no rfl rfl (congrArg (fun b => some (Value.bool b)) hg2) rfl rfl ?_
  refine Tops_no rfl rfl (congrArg (fun b => some (Value.bool b)) hg2) rfl rfl ?_
  refine Tops_step rfl (OpT_pickT rfl rfl rfl (congrArg (fun b => some (Value.bool b)) hg2) rfl) ?_
  refine Tops_nil (Tk_wkS (fr' := [(0, some (vl1)), (1, some (vcalls1)), (27, some (vB true))]) (own' := []) (shr' := [Fact.sl RegionS vl1 l, Fact.sl dumbwaiterlaw02_ActS vcalls1 calls]) [0, 1, 27] [] [0, 1] rfl rfl rfl rfl ?_)
  refine Tk_condT rfl ?_
  refine Tk_seq (Tk_region (Tops_step rfl (OpT_assign rfl rfl rfl rfl) ?_))
  refine Tops_nil (Tk_wkS (fr' := [(4, some (vB true))]) (own' := []) (shr' := []) [4] [] [] rfl rfl rfl rfl ?_)
  exact Tk_retV rfl rfl (resA (vs := [.bool true]) rfl ⟨rfl, trivial⟩) [] [] rfl rfl rfl ⟨rfl, rfl, rfl⟩
 ·replace h := br_f hg2 h
  refine Tops_yes rfl rfl (congrArg (fun b => some (Value.bool b)) hg2) (OpT_move rfl rfl rfl rfl) ?_
  rintro _ rfl
  obtain ⟨small1, hx3, h⟩ := ob_e h
  refine Tops_yes rfl rfl (congrArg (fun b => some (Value.bool b)) hg2) (OpT_call (w_law02zsmall hx3) [] [1] rfl rfl rfl rfl rfl callee10 rfl rfl rfl rfl) ?_
  rintro _ ⟨_, _, _, ⟨rfl, rfl, rfl⟩, rfl⟩
  refine Tops_yes rfl rfl (congrArg (fun b => some (Value.bool b)) hg2) (OpT_not rfl rfl rfl rfl) ?_
  rintro _ rfl
  refine Tops_step rfl (OpT_pickF rfl rfl rfl (congrArg (fun b => some (Value.bool b)) hg2) rfl) ?_
  refine Tops_nil (Tk_wkS (fr' := [(0, some (vl1)), (1, some (vcalls1)), (27, some (vB (!small1)))]) (own' := []) (shr' := [Fact.sl RegionS vl1 l, Fact.sl dumbwaiterlaw02_ActS vcalls1 calls]) [0, 1, 27] [] [0, 1] rfl rfl rfl rfl ?_)
  rcases Bool.eq_false_or_eq_true ((!small1)) with hg3 | hg3
  ·replace h := br_t hg3 h
   refine Tk_condT (congrArg (fun b => some (Value.bool b)) hg3) ?_
   refine Tk_seq (Tk_region (Tops_step rfl (OpT_assign rfl rfl rfl rfl) ?_))
   refine Tops_nil (Tk_wkS (fr' := [(4, some (vB true))]) (own' := []) (shr' := []) [4] [] [] rfl rfl rfl rfl ?_)
   exact Tk_retV rfl rfl (resA (vs := [.bool true]) rfl ⟨rfl, trivial⟩) [] [] rfl rfl rfl ⟨rfl, rfl, rfl⟩
  ·replace h := br_f hg3 h
   refine Tk_condF (congrArg (fun b => some (Value.bool b)) hg3) ?_
   refine Tk_skip (Tk_seq (Tk_region (Tops_step rfl (OpT_move rfl rfl rfl rfl) ?_)))
   obtain ⟨region1, hx4, h⟩ := ob_e h
   refine Tops_exP rfl (OpT_call (w_kit_Regions hx4) [] [0] rfl rfl rfl rfl rfl callee13 rfl rfl rfl rfl) ?_
   rintro _ ⟨v1, _, _, ⟨_, rfl, rfl, rfl⟩, rfl⟩
   refine Tops_retire (i := 0) rfl ?_
   obtain ⟨new1, hx5, h⟩ := ob_e h
   refine Tops_exP rfl (OpT_call (w_gmem_New hx5) [] [2] rfl rfl rfl rfl rfl callee12 rfl rfl rfl rfl) ?_
   rintro _ ⟨_, _, _, ⟨v2, rfl, rfl, rfl⟩, rfl⟩
   refine Tops_step rfl (OpT_move rfl rfl rfl rfl) ?_
   refine Tops_step rfl (OpT_extract rfl rfl rfl rfl rfl) ?_
   refine Tops_step rfl (OpT_extract rfl rfl rfl rfl rfl) ?_
   refine Tops_step rfl (OpT_assign rfl rfl rfl rfl) ?_
   refine Tops_step rfl (OpT_assign rfl rfl rfl rfl) ?_
   refine Tops_nil (Tk_wkS (fr' := [(0, some (vl1)), (1, some (vcalls1)), (5, some (v2)), (6, some (vI new1.2))]) (own' := [some (optR 62 RegionS u8S true gmem_Mem.l gmem_Mem.b v2 new1.1)]) (shr' := [Fact.sl RegionS vl1 l, Fact.sl dumbwaiterlaw02_ActS vcalls1 calls]) [0, 1, 5, 6] [1] [0, 1] rfl rfl rfl rfl ?_)
   rcases onO_cases h with ⟨ho1, h⟩ | ⟨mem2, ho1, h⟩
   ·refine Tk_optN (i := 0) rfl ho1 ?_
    rintro rfl
    refine Tk_seq (Tk_region (Tops_step rfl (OpT_move rfl rfl rfl rfl) ?_))
    obtain ⟨new2, hx6, h⟩ := ob_e h
    refine Tops_exP rfl (OpT_call (w_ref_New02 hx6) [] [0] rfl rfl rfl rfl rfl callee23 rfl rfl rfl rfl) ?_
    rintro _ ⟨_, _, _, ⟨v3, rfl, rfl, rfl⟩, rfl⟩
    refine Tops_step rfl (OpT_move rfl rfl rfl rfl) ?_
    refine Tops_step rfl (OpT_extract rfl rfl rfl rfl rfl) ?_
    refine Tops_step rfl (OpT_extract rfl rfl rfl rfl rfl) ?_
    refine Tops_step rfl (OpT_assign rfl rfl rfl rfl) ?_
    refine Tops_step rfl (OpT_assign rfl rfl rfl rfl) ?_
    refine Tops_nil (Tk_wkS (fr' := [(0, some (vl1)), (1, some (vcalls1)), (5, some (.pointer none)), (6, some (vI new1.2)), (7, some (v3)), (8, some (vI new2.2))]) (own' := [some (optR 67 RegionS u8S false dumbwaiterref02_Mem.L dumbwaiterref02_Mem.B v3 new2.1)]) (shr' := [Fact.sl RegionS vl1 l, Fact.sl dumbwaiterlaw02_ActS vcalls1 calls]) [0, 1, 5, 6, 7, 8] [1] [0, 1] rfl rfl rfl rfl ?_)
    rcases onO_cases h with ⟨ho2, h⟩ | ⟨mem1, ho2, h⟩
    ·refine Tk_optN (i := 0) rfl ho2 ?_
     rintro rfl
     refine Tk_seq (Tk_seq (Tk_region (Tops_step rfl (OpT_move rfl rfl rfl rfl) ?_)))
     refine Tops_step rfl (OpT_move rfl rfl rfl rfl) ?_
     refine Tops_step rfl (OpT_bin rfl rfl rfl rfl rfl (bin_neq_i (a := new1.2) (b := new2.2))) ?_
     refine Tops_step rfl (OpT_move rfl rfl rfl rfl) ?_
     rcases Bool.eq_false_or_eq_true (new1.2 != new2.2) with hg4 | hg4
     ·replace h := br_t hg4 h
      refine Tops_no rfl rfl (congrArg (fun b => some (Value.bool b)) hg4) rfl rfl ?_
      refine Tops_no rfl rfl (congrArg (fun b => some (Value.bool b)) hg4) rfl rfl ?_
      refine Tops_no rfl rfl (congrArg (fun b => some (Value.bool b)) hg4) rfl rfl ?_
      refine Tops_no rfl rfl (congrArg (fun b => some (Value.bool b)) hg4) rfl rfl ?_
      refine Tops_step rfl (OpT_pickT rfl rfl rfl (congrArg (fun b => some (Value.bool b)) hg4) rfl) ?_
      refine Tops_step rfl (OpT_move rfl rfl rfl rfl) ?_
      refine Tops_no rfl rfl rfl rfl rfl ?_
      refine Tops_no rfl rfl rfl rfl rfl ?_
      refine Tops_step rfl (OpT_pickT rfl rfl rfl rfl rfl) ?_
      refine Tops_nil (Tk_wkS (fr' := [(0, some (vl1)), (1, some (vcalls1)), (5, some (.pointer none)), (6, some (vI new1.2)), (7, some (.pointer none)), (8, some (vI new2.2)), (51, some (vB true))]) (own' := []) (shr' := [Fact.sl RegionS vl1 l, Fact.sl dumbwaiterlaw02_ActS vcalls1 calls]) [0, 1, 5, 6, 7, 8, 51] [] [0, 1] rfl rfl rfl rfl ?_)
      refine Tk_condT rfl ?_
      refine Tk_seq (Tk_region (Tops_step rfl (OpT_move rfl rfl rfl rfl) ?_))
      refine Tops_step rfl (OpT_move rfl rfl rfl rfl) ?_
      refine Tops_step rfl (OpT_bin rfl rfl rfl rfl rfl (bin_eql_i (a := new1.2) (b := new2.2))) ?_
      refine Tops_step rfl (OpT_move rfl rfl rfl rfl) ?_
      obtain ⟨hg5, h⟩ := chk_e h
      refine Tops_yes rfl rfl (congrArg (fun b => some (Value.bool b)) hg5) (OpT_move rfl rfl rfl rfl) ?_
      rintro _ rfl
      obtain ⟨check1, hx7, h⟩ := ob_e h
      refine Tops_yes rfl rfl (congrArg (fun b => some (Value.bool b)) hg5) (OpT_call (w_gmem_Check hx7) [] [0] rfl rfl rfl rfl rfl callee11 rfl rfl rfl rfl) ?_
      rintro _ ⟨_, _, _, ⟨rfl, rfl, rfl⟩, rfl⟩
      refine Tops_yes rfl rfl (congrArg (fun b => some (Value.bool b)) hg5) (OpT_move rfl rfl rfl rfl) ?_
      rintro _ rfl
      refine Tops_yes rfl rfl (congrArg (fun b => some (Value.bool b)) hg5) (OpT_bin rfl rfl rfl rfl rfl (bin_eql_i (a := check1) (b := new2.2))) ?_
      rintro _ rfl
      refine Tops_step rfl (OpT_pickT rfl rfl rfl (congrArg (fun b => some (Value.bool b)) hg5) rfl) ?_
      refine Tops_step rfl (OpT_assign rfl rfl rfl rfl) ?_
      refine Tops_nil (Tk_wkS (fr' := [(4, some (vB (check1 == new2.2)))]) (own' := []) (shr' := []) [4] [] [] rfl rfl rfl rfl ?_)
      obtain ⟨hg6, h⟩ := chk_e h
      exact Tk_retV rfl rfl (resA (vs := [.bool true]) rfl ⟨(congrArg (fun b => some (Value.bool b)) hg6), trivial⟩) [] [] rfl rfl rfl ⟨rfl, rfl, rfl⟩
     ·replace h := br_f hg4 h
      refine Tops_yes rfl rfl (congrArg (fun b => some (Value.bool b)) hg4) (OpT_move rfl rfl rfl rfl) ?_
      rintro _ rfl
      obtain ⟨check2, hx8, h⟩ := ob_e h
      refine Tops_yes rfl rfl (congrArg (fun b => some (Value.bool b)) hg4) (OpT_call (w_gmem_Check hx8) [] [0] rfl rfl rfl rfl rfl callee11 rfl rfl rfl rfl) ?_
      rintro _ ⟨_, _, _, ⟨rfl, rfl, rfl⟩, rfl⟩
      refine Tops_yes rfl rfl (congrArg (fun b => some (Value.bool b)) hg4) (OpT_move rfl rfl rfl rfl) ?_
      rintro _ rfl
      refine Tops_yes rfl rfl (congrArg (fun b => some (Value.bool b)) hg4) (OpT_bin rfl rfl rfl rfl rfl (bin_neq_i (a := check2) (b := new2.2))) ?_
      rintro _ rfl
      refine Tops_step rfl (OpT_pickF rfl rfl rfl (congrArg (fun b => some (Value.bool b)) hg4) rfl) ?_
      refine Tops_step rfl (OpT_move rfl rfl rfl rfl) ?_
      rcases Bool.eq_false_or_eq_true (check2 != new2.2) with hg7 | hg7
      ·replace h := br_t hg7 h
       refine Tops_no rfl rfl (congrArg (fun b => some (Value.bool b)) hg7) rfl rfl ?_
       refine Tops_no rfl rfl (congrArg (fun b => some (Value.bool b)) hg7) rfl rfl ?_
       refine Tops_step rfl (OpT_pickT rfl rfl rfl (congrArg (fun b => some (Value.bool b)) hg7) rfl) ?_
       refine Tops_nil (Tk_wkS (fr' := [(0, some (vl1)), (1, some (vcalls1)), (5, some (.pointer none)), (6, some (vI new1.2)), (7, some (.pointer none)), (8, some (vI new2.2)), (51, some (vB true))]) (own' := []) (shr' := [Fact.sl RegionS vl1 l, Fact.sl dumbwaiterlaw02_ActS vcalls1 calls]) [0, 1, 5, 6, 7, 8, 51] [] [0, 1] rfl rfl rfl rfl ?_)
       refine Tk_condT rfl ?_
       refine Tk_seq (Tk_region (Tops_step rfl (OpT_move rfl rfl rfl rfl) ?_))
       refine Tops_step rfl (OpT_move rfl rfl rfl rfl) ?_
       refine Tops_step rfl (OpT_bin rfl rfl rfl rfl rfl (bin_eql_i (a := new1.2) (b := new2.2))) ?_
       refine Tops_step rfl (OpT_move rfl rfl rfl rfl) ?_
       obtain ⟨hg8, h⟩ := chk_e h
       refine Tops_yes rfl rfl (congrArg (fun b => some (Value.bool b)) hg8) (OpT_move rfl rfl rfl rfl) ?_
       rintro _ rfl
       obtain ⟨check3, hx9, h⟩ := ob_e h
       refine Tops_yes rfl rfl (congrArg (fun b => some (Value.bool b)) hg8) (OpT_call (w_gmem_Check hx9) [] [0] rfl rfl rfl rfl rfl callee11 rfl rfl rfl rfl) ?_
       rintro _ ⟨_, _, _, ⟨rfl, rfl, rfl⟩, rfl⟩
       refine Tops_yes rfl rfl (congrArg (fun b => some (Value.bool b)) hg8) (OpT_move rfl rfl rfl rfl) ?_
       rintro _ rfl
       refine Tops_yes rfl rfl (congrArg (fun b => some (Value.bool b)) hg8) (OpT_bin rfl rfl rfl rfl rfl (bin_eql_i (a := check3) (b := new2.2))) ?_
       rintro _ rfl
       refine Tops_step rfl (OpT_pickT rfl rfl rfl (congrArg (fun b => some (Value.bool b)) hg8) rfl) ?_
       refine Tops_step rfl (OpT_assign rfl rfl rfl rfl) ?_
       refine Tops_nil (Tk_wkS (fr' := [(4, some (vB (check3 == new2.2)))]) (own' := []) (shr' := []) [4] [] [] rfl rfl rfl rfl ?_)
       obtain ⟨hg9, h⟩ := chk_e h
       exact Tk_retV rfl rfl (resA (vs := [.bool true]) rfl ⟨(congrArg (fun b => some (Value.bool b)) hg9), trivial⟩) [] [] rfl rfl rfl ⟨rfl, rfl, rfl⟩
      ·replace h := br_f hg7 h
       refine Tops_yes rfl rfl (congrArg (fun b => some (Value.bool b)) hg7) (OpT_move rfl rfl rfl rfl) ?_
       rintro _ rfl
       refine Tops_yes rfl rfl (congrArg (fun b => some (Value.bool b)) hg7) (OpT_bin rfl rfl rfl rfl rfl (bin_neq_i (a := new2.2) (b := (0 : Int)))) ?_
       rintro _ rfl
       refine Tops_step rfl (OpT_pickF rfl rfl rfl (congrArg (fun b => some (Value.bool b)) hg7) rfl) ?_
       refine Tops_nil (Tk_wkS (fr' := [(0, some (vl1)), (1, some (vcalls1)), (5, some (.pointer none)), (6, some (vI new1.2)), (7, some (.pointer none)), (8, some (vI new2.2)), (51, some (vB (new2.2 != (0 : Int))))]) (own' := []) (shr' := [Fact.sl RegionS vl1 l, Fact.sl dumbwaiterlaw02_ActS vcalls1 calls]) [0, 1, 5, 6, 7, 8, 51] [] [0, 1] rfl rfl rfl rfl ?_)
       rcases Bool.eq_false_or_eq_true (new2.2 != (0 : Int)) with hg10 | hg10
       ·replace h := br_t hg10 h
        refine Tk_condT (congrArg (fun b => some (Value.bool b)) hg10) ?_
        refine Tk_seq (Tk_region (Tops_step rfl (OpT_move rfl rfl rfl rfl) ?_))
        refine Tops_step rfl (OpT_move rfl rfl rfl rfl) ?_
        refine Tops_step rfl (OpT_bin rfl rfl rfl rfl rfl (bin_eql_i (a := new1.2) (b := new2.2))) ?_
        refine Tops_step rfl (OpT_move rfl rfl rfl rfl) ?_
        obtain ⟨hg11, h⟩ := chk_e h
        refine Tops_yes rfl rfl (congrArg (fun b => some (Value.bool b)) hg11) (OpT_move rfl rfl rfl rfl) ?_
        rintro _ rfl
        obtain ⟨check4, hx10, h⟩ := ob_e h
        refine Tops_yes rfl rfl (congrArg (fun b => some (Value.bool b)) hg11) (OpT_call (w_gmem_Check hx10) [] [0] rfl rfl rfl rfl rfl callee11 rfl rfl rfl rfl) ?_
        rintro _ ⟨_, _, _, ⟨rfl, rfl, rfl⟩, rfl⟩
        refine Tops_yes rfl rfl (congrArg (fun b => some (Value.bool b)) hg11) (OpT_move rfl rfl rfl rfl) ?_
        rintro _ rfl
        refine Tops_yes rfl rfl (congrArg (fun b => some (Value.bool b)) hg11) (OpT_bin rfl rfl rfl rfl rfl (bin_eql_i (a := check4) (b := new2.2))) ?_
        rintro _ rfl
        refine Tops_step rfl (OpT_pickT rfl rfl rfl (congrArg (fun b => some (Value.bool b)) hg11) rfl) ?_
        refine Tops_step rfl (OpT_assign rfl rfl rfl rfl) ?_
        refine Tops_nil (Tk_wkS (fr' := [(4, some (vB (check4 == new2.2)))]) (own' := []) (shr' := []) [4] [] [] rfl rfl rfl rfl ?_)
        obtain ⟨hg12, h⟩ := chk_e h
        exact Tk_retV rfl rfl (resA (vs := [.bool true]) rfl ⟨(congrArg (fun b => some (Value.bool b)) hg12), trivial⟩) [] [] rfl rfl rfl ⟨rfl, rfl, rfl⟩
       ·replace h := br_f hg10 h
        refine Tk_condF (congrArg (fun b => some (Value.bool b)) hg10) ?_
        refine Tk_skip (Tk_seq (Tk_seq (Tk_region (Tops_step rfl (OpT_assign rfl rfl rfl rfl) ?_))))
        refine Tops_nil (Tk_wkS (fr' := [(0, some (vl1)), (1, some (vcalls1)), (5, some (.pointer none)), (6, some (vI new1.2)), (7, some (.pointer none)), (8, some (vI new2.2)), (9, some (vI (0 : Int)))]) (own' := []) (shr' := [Fact.sl RegionS vl1 l, Fact.sl dumbwaiterlaw02_ActS vcalls1 calls]) [0, 1, 5, 6, 7, 8, 9] [] [0, 1] rfl rfl rfl rfl ?_)
        refine Tk_block (Tk_loopS (σ := Int × Int × Int) [0, 1, 5, 6, 7, 8, 9] [] [0, 1] (fun s => ⟨[(0, some (vl1)), (1, some (vcalls1)), (5, some (.pointer none)), (6, some (vI s.1)), (7, some (.pointer none)), (8, some (vI s.2.1)), (9, some (vI s.2.2))], [], [Fact.sl RegionS vl1 l, Fact.sl dumbwaiterlaw02_ActS vcalls1 calls]⟩) (fun nf1 s => law02zGmemScriptL1 l calls nf1 s.1 s.2.1 s.2.2 = some true) fuel (new1.2, new2.2, (0 : Int)) h rfl rfl rfl rfl rfl (fun s h => by cases h) ?_)
        rintro nf1 ⟨e1, f1, i1⟩ h
        replace h : law02zGmemScriptL1B l calls (law02zGmemScriptL1 l calls nf1) e1 f1 i1 = some true := h
        unfold law02zGmemScriptL1B at h
        refine Tk_seq (Tk_seq (Tk_region (Tops_step rfl (OpT_move rfl rfl rfl rfl) ?_)))
        refine Tops_step rfl (OpT_move rfl rfl rfl rfl) ?_
        refine Tops_step rfl (OpT_lenS rfl rfl rfl rfl Try.underlying23 (i := 1) rfl) ?_
        refine Tops_step rfl (OpT_bin rfl rfl rfl rfl rfl (bin_lss_i (a := i1) (b := len calls))) ?_
        refine Tops_nil (Tk_wkS (fr' := [(0, some (vl1)), (1, some (vcalls1)), (5, some (.pointer none)), (6, some (vI e1)), (7, some (.pointer none)), (8, some (vI f1)), (9, some (vI i1)), (64, some (vB (decide (i1 < (len calls)))))]) (own' := []) (shr' := [Fact.sl RegionS vl1 l, Fact.sl dumbwaiterlaw02_ActS vcalls1 calls]) [0, 1, 5, 6, 7, 8, 9, 64] [] [0, 1] rfl rfl rfl rfl ?_)
        rcases Bool.eq_false_or_eq_true (decide (i1 < (len calls))) with hg13 | hg13
        ·replace h := br_t hg13 h
         refine Tk_condT (congrArg (fun b => some (Value.bool b)) hg13) ?_
         refine Tk_skip (Tk_seq (Tk_block (Tk_seq (Tk_region (Tops_step rfl (OpT_move rfl rfl rfl rfl) ?_)))))
         refine Tops_step rfl (OpT_move rfl rfl rfl rfl) ?_
         obtain ⟨d1, hx11, h⟩ := ob_e h
         refine Tops_ex rfl (OpT_idxS rfl rfl rfl rfl rfl slF23 (i := 1) rfl hx11) fun p1 => ?_
         refine Tops_ex rfl (OpT_loadP1 rfl rfl rfl rfl tyF40 (i := 2) rfl) fun v4 => ?_
         refine Tops_ex rfl (OpT_alloc rfl rfl rfl tyZ40) fun b1 => ?_
         refine Tops_step rfl (OpT_storeA1 (fun z0 => [vI d1.Kind, vU64 d1.At, vI d1.N, vU64 d1.V, z0]) (cs' := [vI d1.Kind, vU64 d1.At, vI d1.N, vU64 d1.V, v4]) rfl rfl rfl rfl tyF40 (i := 0) rfl (is_sl (i := 3) rfl) (fun _ _ _ => rfl) rfl rfl rfl) ?_
         refine Tops_nil (Tk_wkS (fr' := [(0, some (vl1)), (1, some (vcalls1)), (5, some (.pointer none)), (6, some (vI e1)), (7, some (.pointer none)), (8, some (vI f1)), (9, some (vI i1)), (10, some (.pointer (some ⟨b1, 0, none⟩)))]) (own' := [some (cellsR b1 40 [vI d1.Kind, vU64 d1.At, vI d1.N, vU64 d1.V, v4])]) (shr' := [Fact.sl RegionS vl1 l, Fact.sl dumbwaiterlaw02_ActS vcalls1 calls, Fact.sl u8S v4 d1.B]) [0, 1, 5, 6, 7, 8, 9, 10] [0] [0, 1, 3] rfl rfl rfl rfl ?_)
         refine Tk_seq (Tk_region (Tops_step rfl (OpT_assign rfl rfl rfl rfl) ?_))
         refine Tops_step rfl (OpT_assign rfl rfl rfl rfl) ?_
         refine Tops_step rfl (OpT_assign rfl rfl rfl rfl) ?_
         refine Tops_step rfl (OpT_assign rfl rfl rfl rfl) ?_
         refine Tops_nil (Tk_seq (Tk_region (Tops_step rfl (OpT_assign rfl rfl rfl rfl) ?_)))
         refine Tops_step rfl (OpT_assign rfl rfl rfl rfl) ?_
         refine Tops_nil (Tk_seq (Tk_seq (Tk_region (Tops_step rfl (OpT_fieldC rfl rfl rfl rfl fldF40x0) ?_))))
         refine Tops_step rfl (OpT_loadC rfl rfl rfl rfl tyF3 (i := 0) rfl rfl) ?_
         obtain ⟨pick1, hx12, h⟩ := ob_e h
         refine Tops_exP rfl (OpT_call (w_kit_Pick hx12) [] [] rfl rfl rfl rfl rfl callee15 rfl rfl rfl rfl) ?_
         rintro _ ⟨_, _, _, ⟨rfl, rfl, rfl⟩, rfl⟩
         refine Tops_nil (Tk_wkS (fr' := [(0, some (vl1)), (1, some (vcalls1)), (5, some (.pointer none)), (6, some (vI e1)), (7, some (.pointer none)), (8, some (vI f1)), (9, some (vI i1)), (10, some (.pointer (some ⟨b1, 0, none⟩))), (11, some (vU64 (0 : UInt64))), (12, some (vU64 (0 : UInt64))), (13, some (vB false)), (14, some (vB false)), (15, some (.slice none 0 0)), (16, some (.slice none 0 0)), (73, some (vI pick1))]) (own' := [some (cellsR b1 40 [vI d1.Kind, vU64 d1.At, vI d1.N, vU64 d1.V, v4])]) (shr' := [Fact.sl RegionS vl1 l, Fact.sl dumbwaiterlaw02_ActS vcalls1 calls, Fact.sl u8S v4 d1.B]) [0, 1, 5, 6, 7, 8, 9, 10, 11, 12, 13, 14, 15, 16, 73] [0] [0, 1, 2] rfl rfl rfl rfl ?_)
         refine Tk_join (α := Int × Int × UInt64 × UInt64 × Bool × Bool × (List UInt8) × (List UInt8) × Value × Value) (fun s => ⟨[(0, some (vl1)), (1, some (vcalls1)), (5, some (.pointer none)), (6, some (vI s.1)), (7, some (.pointer none)), (8, some (vI s.2.1)), (9, some (vI i1)), (11, some (vU64 s.2.2.1)), (12, some (vU64 s.2.2.2.1)), (13, some (vB s.2.2.2.2.1)), (14, some (vB s.2.2.2.2.2.1)), (15, some (s.2.2.2.2.2.2.2.2.1)), (16, some (s.2.2.2.2.2.2.2.2.2))], [], [Fact.sl RegionS vl1 l, Fact.sl dumbwaiterlaw02_ActS vcalls1 calls, Fact.sl u8S s.2.2.2.2.2.2.2.2.1 s.2.2.2.2.2.2.1, Fact.sl u8S s.2.2.2.2.2.2.2.2.2 s.2.2.2.2.2.2.2.1]⟩) (fun s => law02zGmemScriptJ2 i1 (law02zGmemScriptL1 l calls nf1) s.1 s.2.1 s.2.2.1 s.2.2.2.1 s.2.2.2.2.1 s.2.2.2.2.2.1 s.2.2.2.2.2.2.1 s.2.2.2.2.2.2.2.1 = some true) ?_ ?_
         ·rintro ⟨e2, f2, x1, y1, is1, also1, p2, q1, v5, v6⟩ h
          replace h : law02zGmemScriptJ2 i1 (law02zGmemScriptL1 l calls nf1) e2 f2 x1 y1 is1 also1 p2 q1 = some true := h
          unfold law02zGmemScriptJ2 at h
          refine Tk_seq (Tk_region (Tops_step rfl (OpT_move rfl rfl rfl rfl) ?_))
          refine Tops_step rfl (OpT_move rfl rfl rfl rfl) ?_
          refine Tops_step rfl (OpT_bin rfl rfl rfl rfl rfl (bin_neq_u64 (a := x1) (b := y1))) ?_
          refine Tops_step rfl (OpT_move rfl rfl rfl rfl) ?_
          obtain ⟨hg14, h⟩ := chk_e h
          replace hg14 := not_t hg14
          refine Tops_yes rfl rfl (congrArg (fun b => some (Value.bool b)) hg14) (OpT_move rfl rfl rfl rfl) ?_
          rintro _ rfl
          refine Tops_yes rfl rfl (congrArg (fun b => some (Value.bool b)) hg14) (OpT_move rfl rfl rfl rfl) ?_
          rintro _ rfl
          refine Tops_yes rfl rfl (congrArg (fun b => some (Value.bool b)) hg14) (OpT_bin rfl rfl rfl rfl rfl (bin_neq_i (a := e2) (b := f2))) ?_
          rintro _ rfl
          refine Tops_step rfl (OpT_pickF rfl rfl rfl (congrArg (fun b => some (Value.bool b)) hg14) rfl) ?_
          refine Tops_step rfl (OpT_move rfl rfl rfl rfl) ?_
          obtain ⟨hg15, h⟩ := chk_e h
          replace hg15 := not_t hg15
          refine Tops_yes rfl rfl (congrArg (fun b => some (Value.bool b)) hg15) (OpT_move rfl rfl rfl rfl) ?_
          rintro _ rfl
          refine Tops_yes rfl rfl (congrArg (fun b => some (Value.bool b)) hg15) (OpT_strS rfl rfl rfl rfl Try.underlying38 Try.underlying5 Try.underlying9 (i := 2) rfl) ?_
          rintro _ rfl
          refine Tops_yes rfl rfl (congrArg (fun b => some (Value.bool b)) hg15) (OpT_move rfl rfl rfl rfl) ?_
          rintro _ rfl
          refine Tops_yes rfl rfl (congrArg (fun b => some (Value.bool b)) hg15) (OpT_strS rfl rfl rfl rfl Try.underlying38 Try.underlying5 Try.underlying9 (i := 3) rfl) ?_
          rintro _ rfl
          refine Tops_yes rfl rfl (congrArg (fun b => some (Value.bool b)) hg15) (OpT_bin rfl rfl rfl rfl rfl (bin_neq_s (a := p2) (b := q1))) ?_
          rintro _ rfl
          refine Tops_step rfl (OpT_pickF rfl rfl rfl (congrArg (fun b => some (Value.bool b)) hg15) rfl) ?_
          refine Tops_step rfl (OpT_move rfl rfl rfl rfl) ?_
          obtain ⟨hg16, h⟩ := chk_e h
          replace hg16 := not_t hg16
          refine Tops_yes rfl rfl (congrArg (fun b => some (Value.bool b)) hg16) (OpT_move rfl rfl rfl rfl) ?_
          rintro _ rfl
          refine Tops_yes rfl rfl (congrArg (fun b => some (Value.bool b)) hg16) (OpT_move rfl rfl rfl rfl) ?_
          rintro _ rfl
          refine Tops_yes rfl rfl (congrArg (fun b => some (Value.bool b)) hg16) (OpT_bin rfl rfl rfl rfl rfl (bin_neq_b (a := is1) (b := also1) Try.underlying4)) ?_
          rintro _ rfl
          refine Tops_step rfl (OpT_pickF rfl rfl rfl (congrArg (fun b => some (Value.bool b)) hg16) rfl) ?_
          refine Tops_nil (Tk_wkS (fr' := [(0, some (vl1)), (1, some (vcalls1)), (5, some (.pointer none)), (6, some (vI e2)), (7, some (.pointer none)), (8, some (vI f2)), (9, some (vI i1)), (179, some (vB (is1 != also1)))]) (own' := []) (shr' := [Fact.sl RegionS vl1 l, Fact.sl dumbwaiterlaw02_ActS vcalls1 calls]) [0, 1, 5, 6, 7, 8, 9, 179] [] [0, 1] rfl rfl rfl rfl ?_)
          obtain ⟨hg17, h⟩ := chk_e h
          replace hg17 := not_t hg17
          refine Tk_condF (congrArg (fun b => some (Value.bool b)) hg17) ?_
          refine Tk_skip (Tk_blk (Tk_region (Tops_step rfl (OpT_move rfl rfl rfl rfl) ?_)))
          refine Tops_step rfl (OpT_bin rfl rfl rfl rfl rfl (bin_add_i (a := i1) (b := (1 : Int)))) ?_
          refine Tops_step rfl (OpT_assign rfl rfl rfl rfl) ?_
          refine Tops_nil (Tk_wkS (fr' := [(0, some (vl1)), (1, some (vcalls1)), (5, some (.pointer none)), (6, some (vI e2)), (7, some (.pointer none)), (8, some (vI f2)), (9, some (vI (wi (i1 + (1 : Int)))))]) (own' := []) (shr' := [Fact.sl RegionS vl1 l, Fact.sl dumbwaiterlaw02_ActS vcalls1 calls]) [0, 1, 5, 6, 7, 8, 9] [] [0, 1] rfl rfl rfl rfl ?_)
          exact Tk_backS (e2, f2, wi (i1 + (1 : Int))) h [0, 1, 5, 6, 7, 8, 9] [] [0, 1] rfl rfl rfl rfl rfl
         ·intro HJ1
          refine Tk_block (Tk_seq (Tk_region (Tops_step rfl (OpT_bin rfl rfl rfl rfl rfl (bin_eql_i (a := pick1) (b := (0 : Int)))) ?_)))
          refine Tops_step rfl (OpT_assign rfl rfl rfl rfl) ?_
          refine Tops_nil (Tk_wkS (fr' := [(0, some (vl1)), (1, some (vcalls1)), (5, some (.pointer none)), (6, some (vI e1)), (7, some (.pointer none)), (8, some (vI f1)), (9, some (vI i1)), (10, some (.pointer (some ⟨b1, 0, none⟩))), (11, some (vU64 (0 : UInt64))), (12, some (vU64 (0 : UInt64))), (13, some (vB false)), (14, some (vB false)), (15, some (.slice none 0 0)), (16, some (.slice none 0 0)), (73, some (vI pick1)), (86, some (vB (pick1 == (0 : Int))))]) (own' := [some (cellsR b1 40 [vI d1.Kind, vU64 d1.At, vI d1.N, vU64 d1.V, v4])]) (shr' := [Fact.sl RegionS vl1 l, Fact.sl dumbwaiterlaw02_ActS vcalls1 calls, Fact.sl u8S v4 d1.B]) [0, 1, 5, 6, 7, 8, 9, 10, 11, 12, 13, 14, 15, 16, 73, 86] [0] [0, 1, 2] rfl rfl rfl rfl ?_)
          refine Tk_join (α := Int × Int × UInt64 × UInt64 × Bool × Bool × (List UInt8) × (List UInt8) × Value × Value) (fun s => ⟨[(0, some (vl1)), (1, some (vcalls1)), (5, some (.pointer none)), (6, some (vI s.1)), (7, some (.pointer none)), (8, some (vI s.2.1)), (9, some (vI i1)), (11, some (vU64 s.2.2.1)), (12, some (vU64 s.2.2.2.1)), (13, some (vB s.2.2.2.2.1)), (14, some (vB s.2.2.2.2.2.1)), (15, some (s.2.2.2.2.2.2.2.2.1)), (16, some (s.2.2.2.2.2.2.2.2.2))], [], [Fact.sl RegionS vl1 l, Fact.sl dumbwaiterlaw02_ActS vcalls1 calls, Fact.sl u8S s.2.2.2.2.2.2.2.2.1 s.2.2.2.2.2.2.1, Fact.sl u8S s.2.2.2.2.2.2.2.2.2 s.2.2.2.2.2.2.2.1]⟩) (fun s => law02zGmemScriptJ3 i1 (law02zGmemScriptL1 l calls nf1) s.1 s.2.1 s.2.2.1 s.2.2.2.1 s.2.2.2.2.1 s.2.2.2.2.2.1 s.2.2.2.2.2.2.1 s.2.2.2.2.2.2.2.1 = some true) ?_ ?_
          ·rintro ⟨e3, f3, x2, y2, is2, also2, p3, q2, v7, v8⟩ h
           replace h : law02zGmemScriptJ3 i1 (law02zGmemScriptL1 l calls nf1) e3 f3 x2 y2 is2 also2 p3 q2 = some true := h
           unfold law02zGmemScriptJ3 at h
           refine Tk_blk ?_
           exact Tk_jmpS (HJ1 (e3, f3, x2, y2, is2, also2, p3, q2, v7, v8) h) [0, 1, 5, 6, 7, 8, 9, 11, 12, 13, 14, 15, 16] [] [0, 1, 2, 3] rfl rfl rfl rfl
          ·intro HJ2
           rcases Bool.eq_false_or_eq_true (pick1 == (0 : Int)) with hg18 | hg18
           ·replace h := br_t hg18 h
            refine Tk_condT (congrArg (fun b => some (Value.bool b)) hg18) ?_
            refine Tk_seq (Tk_region (Tops_step rfl (OpT_move rfl rfl rfl rfl) ?_))
            refine Tops_step rfl (OpT_fieldC rfl rfl rfl rfl fldF40x1) ?_
            refine Tops_step rfl (OpT_loadC rfl rfl rfl rfl tyF26 (i := 0) rfl rfl) ?_
            refine Tops_step rfl (OpT_fieldC rfl rfl rfl rfl fldF40x2) ?_
            refine Tops_step rfl (OpT_loadC rfl rfl rfl rfl tyF3 (i := 0) rfl rfl) ?_
            obtain ⟨load1, hx13, h⟩ := ob_e h
            refine Tops_exP rfl (OpT_call (w_gmem_Mem_Loadn0 hx13) [] [] rfl rfl rfl rfl rfl callee16 rfl rfl rfl rfl) ?_
            rintro _ ⟨_, _, _, ⟨rfl, rfl, rfl⟩, rfl⟩
            refine Tops_step rfl (OpT_move rfl rfl rfl rfl) ?_
            refine Tops_step rfl (OpT_extract rfl rfl rfl rfl rfl) ?_
            refine Tops_step rfl (OpT_extract rfl rfl rfl rfl rfl) ?_
            refine Tops_step rfl (OpT_assign rfl rfl rfl rfl) ?_
            refine Tops_step rfl (OpT_assign rfl rfl rfl rfl) ?_
            refine Tops_nil (Tk_wkS (fr' := [(0, some (vl1)), (1, some (vcalls1)), (5, some (.pointer none)), (6, some (vI load1.2)), (7, some (.pointer none)), (9, some (vI i1)), (10, some (.pointer (some ⟨b1, 0, none⟩))), (11, some (vU64 load1.1)), (13, some (vB false)), (14, some (vB false)), (15, some (.slice none 0 0)), (16, some (.slice none 0 0))]) (own' := [some (cellsR b1 40 [vI d1.Kind, vU64 d1.At, vI d1.N, vU64 d1.V, v4])]) (shr' := [Fact.sl RegionS vl1 l, Fact.sl dumbwaiterlaw02_ActS vcalls1 calls, Fact.sl u8S v4 d1.B]) [0, 1, 5, 6, 7, 9, 10, 11, 13, 14, 15, 16] [0] [0, 1, 2] rfl rfl rfl rfl ?_)
            refine Tk_region (Tops_step rfl (OpT_move rfl rfl rfl rfl) ?_)
            refine Tops_step rfl (OpT_fieldC rfl rfl rfl rfl fldF40x1) ?_
            refine Tops_step rfl (OpT_loadC rfl rfl rfl rfl tyF26 (i := 0) rfl rfl) ?_
            refine Tops_step rfl (OpT_fieldC rfl rfl rfl rfl fldF40x2) ?_
            refine Tops_step rfl (OpT_loadC rfl rfl rfl rfl tyF3 (i := 0) rfl rfl) ?_
            obtain ⟨load2, hx14, h⟩ := ob_e h
            refine Tops_exP rfl (OpT_call (w_ref_Mem_Load02n0 hx14) [] [] rfl rfl rfl rfl rfl callee24 rfl rfl rfl rfl) ?_
            rintro _ ⟨_, _, _, ⟨rfl, rfl, rfl⟩, rfl⟩
            refine Tops_step rfl (OpT_move rfl rfl rfl rfl) ?_
            refine Tops_step rfl (OpT_extract rfl rfl rfl rfl rfl) ?_
            refine Tops_step rfl (OpT_extract rfl rfl rfl rfl rfl) ?_
            refine Tops_step rfl (OpT_assign rfl rfl rfl rfl) ?_
            refine Tops_step rfl (OpT_assign rfl rfl rfl rfl) ?_
            refine Tops_nil (Tk_wkS (fr' := [(0, some (vl1)), (1, some (vcalls1)), (5, some (.pointer none)), (6, some (vI load1.2)), (7, some (.pointer none)), (9, some (vI i1)), (11, some (vU64 load1.1)), (13, some (vB false)), (14, some (vB false)), (15, some (.slice none 0 0)), (16, some (.slice none 0 0)), (12, some (vU64 load2.1)), (8, some (vI load2.2))]) (own' := []) (shr' := [Fact.sl RegionS vl1 l, Fact.sl dumbwaiterlaw02_ActS vcalls1 calls]) [0, 1, 5, 6, 7, 9, 11, 13, 14, 15, 16, 12, 8] [] [0, 1] rfl rfl rfl rfl ?_)
            refine Tk_nilfact u8S ?_
            refine Tk_nilfact u8S ?_
            exact Tk_jmpS (HJ2 (load1.2, load2.2, load1.1, load2.1, false, false, ([] : List UInt8), ([] : List UInt8), .slice none 0 0, .slice none 0 0) h) [0, 1, 5, 6, 7, 8, 9, 11, 12, 13, 14, 15, 16] [] [0, 1, 2, 3] rfl rfl rfl rfl
           ·replace h := br_f hg18 h
            refine Tk_condF (congrArg (fun b => some (Value.bool b)) hg18) ?_
            refine Tk_seq (Tk_region (Tops_step rfl (OpT_bin rfl rfl rfl rfl rfl (bin_eql_i (a := pick1) (b := (1 : Int)))) ?_))
            refine Tops_step rfl (OpT_assign rfl rfl rfl rfl) ?_
            refine Tops_nil (Tk_wkS (fr' := [(0, some (vl1)), (1, some (vcalls1)), (5, some (.pointer none)), (6, some (vI e1)), (7, some (.pointer none)), (8, some (vI f1)), (9, some (vI i1)), (10, some (.pointer (some ⟨b1, 0, none⟩))), (11, some (vU64 (0 : UInt64))), (12, some (vU64 (0 : UInt64))), (13, some (vB false)), (14, some (vB false)), (15, some (.slice none 0 0)), (16, some (.slice none 0 0)), (73, some (vI pick1)), (106, some (vB (pick1 == (1 : Int))))]) (own' := [some (cellsR b1 40 [vI d1.Kind, vU64 d1.At, vI d1.N, vU64 d1.V, v4])]) (shr' := [Fact.sl RegionS vl1 l, Fact.sl dumbwaiterlaw02_ActS vcalls1 calls, Fact.sl u8S v4 d1.B]) [0, 1, 5, 6, 7, 8, 9, 10, 11, 12, 13, 14, 15, 16, 73, 106] [0] [0, 1, 2] rfl rfl rfl rfl ?_)
            rcases Bool.eq_false_or_eq_true (pick1 == (1 : Int)) with hg19 | hg19
            ·replace h := br_t hg19 h
             refine Tk_condT (congrArg (fun b => some (Value.bool b)) hg19) ?_
             refine Tk_drawT (by kernel_rfl) ?_
             refine TA_tb [0, 0, 2, 0, 8, 0, 32, 127, 0, 0, 512, 0, 2048, 0, 8192, 32767, 65535, 131071] (by kernel_rfl) fun htb => ?_
             refine TA_wkS (fr' := [(0, some (vl1)), (1, some (vcalls1)), (5, some (.pointer none)), (7, some (.pointer none)), (9, some (vI i1)), (10, some (.pointer (some ⟨b1, 0, none⟩))), (11, some (vU64 (0 : UInt64))), (12, some (vU64 (0 : UInt64))), (13, some (vB false)), (14, some (vB false)), (15, some (.slice none 0 0)), (16, some (.slice none 0 0))]) (own' := [some (cellsR b1 40 [vI d1.Kind, vU64 d1.At, vI d1.N, vU64 d1.V, v4])]) (shr' := [Fact.sl RegionS vl1 l, Fact.sl dumbwaiterlaw02_ActS vcalls1 calls, Fact.sl u8S v4 d1.B]) [0, 1, 5, 7, 9, 10, 11, 12, 13, 14, 15, 16] [0] [0, 1, 2] rfl rfl rfl rfl ?_
             obtain ⟨store1, hx15, h⟩ := ob_e h
             refine TA_seg (lo := 0) (hi := 15) htb rfl rfl (by kernel_rfl) (fun c L a w => Sat c ⟨[(0, some (vl1)), (1, some (vcalls1)), (5, some (.pointer none)), (7, some (.pointer none)), (9, some (vI i1)), (10, some (.pointer (some ⟨b1, 0, none⟩))), (11, some (vU64 (0 : UInt64))), (12, some (vU64 (0 : UInt64))), (13, some (vB false)), (14, some (vB false)), (15, some (.slice none 0 0)), (16, some (.slice none 0 0)), (108, bif L 0 then some (.pointer none) else none), (109, bif L 1 then some (.pointer (some ⟨b1, 1, none⟩)) else none), (110, bif L 2 then some (vU64 d1.At) else none), (111, bif L 3 then some (.pointer (some ⟨b1, 2, none⟩)) else none), (112, bif L 4 then some (vI d1.N) else none), (113, bif L 5 then some (.pointer (some ⟨b1, 3, none⟩)) else none), (114, bif L 6 then some (vU64 d1.V) else none), (115, bif L 7 then some (vI store1) else none), (116, bif L 8 then some (.pointer none) else none), (117, bif L 9 then some (.pointer (some ⟨b1, 1, none⟩)) else none), (118, bif L 10 then some (vU64 d1.At) else none), (119, bif L 11 then some (.pointer (some ⟨b1, 2, none⟩)) else none), (120, bif L 12 then some (vI d1.N) else none), (121, bif L 13 then some (.pointer (some ⟨b1, 3, none⟩)) else none), (122, bif L 14 then some (vU64 d1.V) else none)], [(some (cellsR b1 40 [vI d1.Kind, vU64 d1.At, vI d1.N, vU64 d1.V, v4]) : Option Res)], [Fact.sl RegionS vl1 l, Fact.sl dumbwaiterlaw02_ActS vcalls1 calls, Fact.sl u8S v4 d1.B]⟩ a w) [([], [7]), ([], [2, 7]), ([1], [7]), ([], [4, 7]), ([3], [7]), ([], [6, 7]), ([5], [7]), ([0, 1, 2, 3, 4, 5, 6], []), ([], []), ([], [10]), ([9], []), ([], [12]), ([11], []), ([], [14]), ([13], [])] rfl (by kernel_rfl) ?_ (steps_cons ?_ (steps_cons ?_ (steps_cons ?_ (steps_cons ?_ (steps_cons ?_ (steps_cons ?_ (steps_cons ?_ (steps_cons ?_ (steps_cons ?_ (steps_cons ?_ (steps_cons ?_ (steps_cons ?_ (steps_cons ?_ (steps_cons ?_ (steps_cons ?_ (steps_nil)))))))))))))))) ?_
             ·intro a w hs
              exact hs.startF [108, 109, 110, 111, 112, 113, 114, 115, 116, 117, 118, 119, 120, 121, 122] [0] [0, 1, 2] rfl rfl rfl rfl
             ·intro L a w hv K Q hK
              have hs := hv
              refine wpOp_go rfl rfl hs (OpT_move rfl rfl rfl rfl) ?_
              rintro _ rfl a' w' hs'
              exact hK a' w' (hs'.putF (i := 12) rfl [0] [0, 1, 2] rfl rfl rfl rfl)
             ·intro L a w hv K Q hK
              have hs := hv
              refine wpOp_go rfl rfl hs (OpT_fieldC rfl rfl rfl rfl fldF40x1) ?_
              rintro _ rfl a' w' hs'
              exact hK a' w' (hs'.putF (i := 13) rfl [0] [0, 1, 2] rfl rfl rfl rfl)
             ·intro L a w hv K Q hK
              have hs := hv
              refine wpOp_go rfl rfl hs (OpT_loadC rfl rfl rfl rfl tyF26 (i := 0) rfl rfl) ?_
              rintro _ rfl a' w' hs'
              exact hK a' w' (hs'.putF (i := 14) rfl [0] [0, 1, 2] rfl rfl rfl rfl)
             ·intro L a w hv K Q hK
              have hs := hv
              refine wpOp_go rfl rfl hs (OpT_fieldC rfl rfl rfl rfl fldF40x2) ?_
              rintro _ rfl a' w' hs'
              exact hK a' w' (hs'.putF (i := 15) rfl [0] [0, 1, 2] rfl rfl rfl rfl)
             ·intro L a w hv K Q hK
              have hs := hv
              refine wpOp_go rfl rfl hs (OpT_loadC rfl rfl rfl rfl tyF3 (i := 0) rfl rfl) ?_
              rintro _ rfl a' w' hs'
              exact hK a' w' (hs'.putF (i := 16) rfl [0] [0, 1, 2] rfl rfl rfl rfl)
             ·intro L a w hv K Q hK
              have hs := hv
              refine wpOp_go rfl rfl hs (OpT_fieldC rfl rfl rfl rfl fldF40x3) ?_
              rintro _ rfl a' w' hs'
              exact hK a' w' (hs'.putF (i := 17) rfl [0] [0, 1, 2] rfl rfl rfl rfl)
             ·intro L a w hv K Q hK
              have hs := hv
              refine wpOp_go rfl rfl hs (OpT_loadC rfl rfl rfl rfl tyF26 (i := 0) rfl rfl) ?_
              rintro _ rfl a' w' hs'
              exact hK a' w' (hs'.putF (i := 18) rfl [0] [0, 1, 2] rfl rfl rfl rfl)
             ·intro L a w hv K Q hK
              have hs := hv
              refine wpOp_go rfl rfl hs (OpT_call (w_gmem_Mem_Storen0 hx15) [] [] rfl rfl rfl rfl rfl callee17 rfl rfl rfl rfl) ?_
              rintro _ ⟨_, _, _, ⟨rfl, rfl, rfl⟩, rfl⟩ a' w' hs'
              exact hK a' w' (hs'.putF (i := 19) rfl [0] [0, 1, 2] rfl rfl rfl rfl)
             ·intro L a w hv K Q hK
              have hs := hv
              refine wpOp_go rfl rfl hs (OpT_move rfl rfl rfl rfl) ?_
              rintro _ rfl a' w' hs'
              exact hK a' w' (hs'.putF (i := 20) rfl [0] [0, 1, 2] rfl rfl rfl rfl)
             ·intro L a w hv K Q hK
              have hs := hv
              refine wpOp_go rfl rfl hs (OpT_fieldC rfl rfl rfl rfl fldF40x1) ?_
              rintro _ rfl a' w' hs'
              exact hK a' w' (hs'.putF (i := 21) rfl [0] [0, 1, 2] rfl rfl rfl rfl)
             ·intro L a w hv K Q hK
              have hs := hv
              refine wpOp_go rfl rfl hs (OpT_loadC rfl rfl rfl rfl tyF26 (i := 0) rfl rfl) ?_
              rintro _ rfl a' w' hs'
              exact hK a' w' (hs'.putF (i := 22) rfl [0] [0, 1, 2] rfl rfl rfl rfl)
             ·intro L a w hv K Q hK
              have hs := hv
              refine wpOp_go rfl rfl hs (OpT_fieldC rfl rfl rfl rfl fldF40x2) ?_
              rintro _ rfl a' w' hs'
              exact hK a' w' (hs'.putF (i := 23) rfl [0] [0, 1, 2] rfl rfl rfl rfl)
             ·intro L a w hv K Q hK
              have hs := hv
              refine wpOp_go rfl rfl hs (OpT_loadC rfl rfl rfl rfl tyF3 (i := 0) rfl rfl) ?_
              rintro _ rfl a' w' hs'
              exact hK a' w' (hs'.putF (i := 24) rfl [0] [0, 1, 2] rfl rfl rfl rfl)
             ·intro L a w hv K Q hK
              have hs := hv
              refine wpOp_go rfl rfl hs (OpT_fieldC rfl rfl rfl rfl fldF40x3) ?_
              rintro _ rfl a' w' hs'
              exact hK a' w' (hs'.putF (i := 25) rfl [0] [0, 1, 2] rfl rfl rfl rfl)
             ·intro L a w hv K Q hK
              have hs := hv
              refine wpOp_go rfl rfl hs (OpT_loadC rfl rfl rfl rfl tyF26 (i := 0) rfl rfl) ?_
              rintro _ rfl a' w' hs'
              exact hK a' w' (hs'.putF (i := 26) rfl [0] [0, 1, 2] rfl rfl rfl rfl)
             ·intro L a w hL hv
              rw [allTrue hL] at hv
              have hs := hv
              refine (show TA _ _ _ 15 ⟨[(0, some (vl1)), (1, some (vcalls1)), (5, some (.pointer none)), (7, some (.pointer none)), (9, some (vI i1)), (11, some (vU64 (0 : UInt64))), (12, some (vU64 (0 : UInt64))), (13, some (vB false)), (14, some (vB false)), (15, some (.slice none 0 0)), (16, some (.slice none 0 0)), (115, some (vI store1)), (116, some (.pointer none)), (118, some (vU64 d1.At)), (120, some (vI d1.N)), (122, some (vU64 d1.V))], [], [Fact.sl RegionS vl1 l, Fact.sl dumbwaiterlaw02_ActS vcalls1 calls]⟩ from ?_) a w (hs.wkS [0, 1, 5, 7, 9, 11, 12, 13, 14, 15, 16, 115, 116, 118, 120, 122] [] [0, 1] rfl rfl rfl rfl)
              clear hs hL
              obtain ⟨store2, hx16, h⟩ := ob_e h
              refine TA_exP htb (by kernel_rfl) rfl rfl (OpT_call (w_ref_Mem_Store02n0 hx16) [] [] rfl rfl rfl rfl rfl callee25 rfl rfl rfl rfl) ?_
              rintro _ ⟨_, _, _, ⟨rfl, rfl, rfl⟩, rfl⟩
              refine TA_step htb (by kernel_rfl) rfl rfl (OpT_assign rfl rfl rfl rfl) ?_
              refine TA_step htb (by kernel_rfl) rfl rfl (OpT_assign rfl rfl rfl rfl) ?_
              refine TA_end rfl ?_
              refine Tk_wkS (fr' := [(0, some (vl1)), (1, some (vcalls1)), (5, some (.pointer none)), (7, some (.pointer none)), (9, some (vI i1)), (11, some (vU64 (0 : UInt64))), (12, some (vU64 (0 : UInt64))), (13, some (vB false)), (14, some (vB false)), (15, some (.slice none 0 0)), (16, some (.slice none 0 0)), (6, some (vI store1)), (8, some (vI store2))]) (own' := []) (shr' := [Fact.sl RegionS vl1 l, Fact.sl dumbwaiterlaw02_ActS vcalls1 calls]) [0, 1, 5, 7, 9, 11, 12, 13, 14, 15, 16, 6, 8] [] [0, 1] rfl rfl rfl rfl ?_
              refine Tk_nilfact u8S ?_
              refine Tk_nilfact u8S ?_
              exact Tk_jmpS (HJ2 (store1, store2, (0 : UInt64), (0 : UInt64), false, false, ([] : List UInt8), ([] : List UInt8), .slice none 0 0, .slice none 0 0) h) [0, 1, 5, 6, 7, 8, 9, 11, 12, 13, 14, 15, 16] [] [0, 1, 2, 3] rfl rfl rfl rfl
            ·replace h := br_f hg19 h
             refine Tk_condF (congrArg (fun b => some (Value.bool b)) hg19) ?_
             refine Tk_seq (Tk_region (Tops_step rfl (OpT_bin rfl rfl rfl rfl rfl (bin_eql_i (a := pick1) (b := (2 : Int)))) ?_))
             refine Tops_step rfl (OpT_assign rfl rfl rfl rfl) ?_
             refine Tops_nil (Tk_wkS (fr' := [(0, some (vl1)), (1, some (vcalls1)), (5, some (.pointer none)), (6, some (vI e1)), (7, some (.pointer none)), (8, some (vI f1)), (9, some (vI i1)), (10, some (.pointer (some ⟨b1, 0, none⟩))), (11, some (vU64 (0 : UInt64))), (12, some (vU64 (0 : UInt64))), (13, some (vB false)), (14, some (vB false)), (15, some (.slice none 0 0)), (16, some (.slice none 0 0)), (73, some (vI pick1)), (124, some (vB (pick1 == (2 : Int))))]) (own' := [some (cellsR b1 40 [vI d1.Kind, vU64 d1.At, vI d1.N, vU64 d1.V, v4])]) (shr' := [Fact.sl RegionS vl1 l, Fact.sl dumbwaiterlaw02_ActS vcalls1 calls, Fact.sl u8S v4 d1.B]) [0, 1, 5, 6, 7, 8, 9, 10, 11, 12, 13, 14, 15, 16, 73, 124] [0] [0, 1, 2] rfl rfl rfl rfl ?_)
             rcases Bool.eq_false_or_eq_true (pick1 == (2 : Int)) with hg20 | hg20
             ·replace h := br_t hg20 h
              refine Tk_condT (congrArg (fun b => some (Value.bool b)) hg20) ?_
              refine Tk_seq (Tk_region (Tops_step rfl (OpT_fieldC rfl rfl rfl rfl fldF40x2) ?_))
              refine Tops_step rfl (OpT_loadC rfl rfl rfl rfl tyF3 (i := 0) rfl rfl) ?_
              refine Tops_step rfl (OpT_min_i (u := d1.N) (v := (5000 : Int)) rfl rfl rfl rfl rfl) ?_
              refine Tops_step rfl (OpT_assign rfl rfl rfl rfl) ?_
              refine Tops_nil (Tk_wkS (fr' := [(0, some (vl1)), (1, some (vcalls1)), (5, some (.pointer none)), (7, some (.pointer none)), (9, some (vI i1)), (10, some (.pointer (some ⟨b1, 0, none⟩))), (11, some (vU64 (0 : UInt64))), (12, some (vU64 (0 : UInt64))), (13, some (vB false)), (14, some (vB false)), (17, some (vI (mini d1.N (5000 : Int))))]) (own' := [some (cellsR b1 40 [vI d1.Kind, vU64 d1.At, vI d1.N, vU64 d1.V, v4])]) (shr' := [Fact.sl RegionS vl1 l, Fact.sl dumbwaiterlaw02_ActS vcalls1 calls, Fact.sl u8S v4 d1.B]) [0, 1, 5, 7, 9, 10, 11, 12, 13, 14, 17] [0] [0, 1, 2] rfl rfl rfl rfl ?_)
              refine Tk_seq (Tk_region (Tops_step rfl (OpT_move rfl rfl rfl rfl) ?_))
              refine Tops_step rfl (OpT_fieldC rfl rfl rfl rfl fldF40x1) ?_
              refine Tops_step rfl (OpT_loadC rfl rfl rfl rfl tyF26 (i := 0) rfl rfl) ?_
              refine Tops_step rfl (OpT_move rfl rfl rfl rfl) ?_
              obtain ⟨read1, hx17, h⟩ := ob_e h
              refine Tops_exP rfl (OpT_call (w_gmem_Mem_Readn0 hx17) [] [] rfl rfl rfl rfl rfl callee22 rfl rfl rfl rfl) ?_
              rintro _ ⟨_, _, _, ⟨v9, rfl, rfl, rfl⟩, rfl⟩
              refine Tops_step rfl (OpT_move rfl rfl rfl rfl) ?_
              refine Tops_step rfl (OpT_extract rfl rfl rfl rfl rfl) ?_
              refine Tops_step rfl (OpT_extract rfl rfl rfl rfl rfl) ?_
              refine Tops_step rfl (OpT_assign rfl rfl rfl rfl) ?_
              refine Tops_step rfl (OpT_assign rfl rfl rfl rfl) ?_
              refine Tops_nil (Tk_wkS (fr' := [(0, some (vl1)), (1, some (vcalls1)), (5, some (.pointer none)), (7, some (.pointer none)), (9, some (vI i1)), (10, some (.pointer (some ⟨b1, 0, none⟩))), (11, some (vU64 (0 : UInt64))), (12, some (vU64 (0 : UInt64))), (13, some (vB false)), (14, some (vB false)), (17, some (vI (mini d1.N (5000 : Int)))), (15, some (v9)), (6, some (vI read1.2))]) (own' := [some (cellsR b1 40 [vI d1.Kind, vU64 d1.At, vI d1.N, vU64 d1.V, v4]), some (rowS u8S v9 read1.1)]) (shr' := [Fact.sl RegionS vl1 l, Fact.sl dumbwaiterlaw02_ActS vcalls1 calls, Fact.sl u8S v4 d1.B]) [0, 1, 5, 7, 9, 10, 11, 12, 13, 14, 17, 15, 6] [0, 1] [0, 1, 2] rfl rfl rfl rfl ?_)
              refine Tk_region (Tops_step rfl (OpT_move rfl rfl rfl rfl) ?_)
              refine Tops_step rfl (OpT_fieldC rfl rfl rfl rfl fldF40x1) ?_
              refine Tops_step rfl (OpT_loadC rfl rfl rfl rfl tyF26 (i := 0) rfl rfl) ?_
              refine Tops_step rfl (OpT_move rfl rfl rfl rfl) ?_
              obtain ⟨read2, hx18, h⟩ := ob_e h
              refine Tops_exP rfl (OpT_call (w_ref_Mem_Read02n0 hx18) [] [] rfl rfl rfl rfl rfl callee26 rfl rfl rfl rfl) ?_
              rintro _ ⟨_, _, _, ⟨v10, rfl, rfl, rfl⟩, rfl⟩
              refine Tops_step rfl (OpT_move rfl rfl rfl rfl) ?_
              refine Tops_step rfl (OpT_extract rfl rfl rfl rfl rfl) ?_
              refine Tops_step rfl (OpT_extract rfl rfl rfl rfl rfl) ?_
              refine Tops_step rfl (OpT_assign rfl rfl rfl rfl) ?_
              refine Tops_step rfl (OpT_assign rfl rfl rfl rfl) ?_
              refine Tops_nil (Tk_wkS (fr' := [(0, some (vl1)), (1, some (vcalls1)), (5, some (.pointer none)), (7, some (.pointer none)), (9, some (vI i1)), (11, some (vU64 (0 : UInt64))), (12, some (vU64 (0 : UInt64))), (13, some (vB false)), (14, some (vB false)), (15, some (v9)), (6, some (vI read1.2)), (16, some (v10)), (8, some (vI read2.2))]) (own' := [some (rowS u8S v9 read1.1), some (rowS u8S v10 read2.1)]) (shr' := [Fact.sl RegionS vl1 l, Fact.sl dumbwaiterlaw02_ActS vcalls1 calls]) [0, 1, 5, 7, 9, 11, 12, 13, 14, 15, 6, 16, 8] [1, 2] [0, 1] rfl rfl rfl rfl ?_)
              refine Tk_retire (i := 0) rfl ?_
              refine Tk_retire (i := 1) rfl ?_
              exact Tk_jmpS (HJ2 (read1.2, read2.2, (0 : UInt64), (0 : UInt64), false, false, read1.1, read2.1, v9, v10) h) [0, 1, 5, 6, 7, 8, 9, 11, 12, 13, 14, 15, 16] [] [0, 1, 2, 3] rfl rfl rfl rfl
             ·replace h := br_f hg20 h
              refine Tk_condF (congrArg (fun b => some (Value.bool b)) hg20) ?_
              refine Tk_seq (Tk_region (Tops_step rfl (OpT_bin rfl rfl rfl rfl rfl (bin_eql_i (a := pick1) (b := (3 : Int)))) ?_))
              refine Tops_step rfl (OpT_assign rfl rfl rfl rfl) ?_
              refine Tops_nil (Tk_wkS (fr' := [(0, some (vl1)), (1, some (vcalls1)), (5, some (.pointer none)), (6, some (vI e1)), (7, some (.pointer none)), (8, some (vI f1)), (9, some (vI i1)), (10, some (.pointer (some ⟨b1, 0, none⟩))), (11, some (vU64 (0 : UInt64))), (12, some (vU64 (0 : UInt64))), (13, some (vB false)), (14, some (vB false)), (15, some (.slice none 0 0)), (16, some (.slice none 0 0)), (145, some (vB (pick1 == (3 : Int))))]) (own' := [some (cellsR b1 40 [vI d1.Kind, vU64 d1.At, vI d1.N, vU64 d1.V, v4])]) (shr' := [Fact.sl RegionS vl1 l, Fact.sl dumbwaiterlaw02_ActS vcalls1 calls, Fact.sl u8S v4 d1.B]) [0, 1, 5, 6, 7, 8, 9, 10, 11, 12, 13, 14, 15, 16, 145] [0] [0, 1, 2] rfl rfl rfl rfl ?_)
              rcases Bool.eq_false_or_eq_true (pick1 == (3 : Int)) with hg21 | hg21
              ·replace h := br_t hg21 h
               refine Tk_condT (congrArg (fun b => some (Value.bool b)) hg21) ?_
               refine Tk_drawT (by kernel_rfl) ?_
               refine TA_tb [0, 0, 2, 0, 8, 24, 63, 0, 0, 256, 0, 1024, 4095, 8191, 16383] (by kernel_rfl) fun htb => ?_
               refine TA_wkS (fr' := [(0, some (vl1)), (1, some (vcalls1)), (5, some (.pointer none)), (7, some (.pointer none)), (9, some (vI i1)), (10, some (.pointer (some ⟨b1, 0, none⟩))), (11, some (vU64 (0 : UInt64))), (12, some (vU64 (0 : UInt64))), (13, some (vB false)), (14, some (vB false)), (15, some (.slice none 0 0)), (16, some (.slice none 0 0))]) (own' := [some (cellsR b1 40 [vI d1.Kind, vU64 d1.At, vI d1.N, vU64 d1.V, v4])]) (shr' := [Fact.sl RegionS vl1 l, Fact.sl dumbwaiterlaw02_ActS vcalls1 calls, Fact.sl u8S v4 d1.B]) [0, 1, 5, 7, 9, 10, 11, 12, 13, 14, 15, 16] [0] [0, 1, 2] rfl rfl rfl rfl ?_
               obtain ⟨own1, hx19, h⟩ := ob_e h
               obtain ⟨write1, hx20, h⟩ := ob_e h
               refine TA_seg (lo := 0) (hi := 12) htb rfl rfl (by kernel_rfl) (fun c L a w => ∃ (v11 : Value), Sat c ⟨[(0, some (vl1)), (1, some (vcalls1)), (5, some (.pointer none)), (7, some (.pointer none)), (9, some (vI i1)), (10, some (.pointer (some ⟨b1, 0, none⟩))), (11, some (vU64 (0 : UInt64))), (12, some (vU64 (0 : UInt64))), (13, some (vB false)), (14, some (vB false)), (15, some (.slice none 0 0)), (16, some (.slice none 0 0)), (147, bif L 0 then some (.pointer none) else none), (148, bif L 1 then some (.pointer (some ⟨b1, 1, none⟩)) else none), (149, bif L 2 then some (vU64 d1.At) else none), (150, bif L 3 then some (.pointer (some ⟨b1, 4, none⟩)) else none), (151, bif L 4 then some (v4) else none), (152, bif L 5 then some (v11) else none), (153, bif L 6 then some (vI write1) else none), (154, bif L 7 then some (.pointer none) else none), (155, bif L 8 then some (.pointer (some ⟨b1, 1, none⟩)) else none), (156, bif L 9 then some (vU64 d1.At) else none), (157, bif L 10 then some (.pointer (some ⟨b1, 4, none⟩)) else none), (158, bif L 11 then some (v4) else none)], [(some (cellsR b1 40 [vI d1.Kind, vU64 d1.At, vI d1.N, vU64 d1.V, v4]) : Option Res)], [Fact.sl RegionS vl1 l, Fact.sl dumbwaiterlaw02_ActS vcalls1 calls, Fact.sl u8S v4 d1.B, (bif L 5 then Fact.sl u8S v11 own1 else Fact.tt)]⟩ a w) [([], [6]), ([], [2, 6]), ([1], [6]), ([], [4, 5, 6]), ([3], [5, 6]), ([3, 4], [6]), ([0, 1, 2, 3, 4, 5], []), ([], []), ([], [9]), ([8], []), ([], [11]), ([10], [])] rfl (by kernel_rfl) ?_ (steps_cons ?_ (steps_cons ?_ (steps_cons ?_ (steps_cons ?_ (steps_cons ?_ (steps_cons ?_ (steps_cons ?_ (steps_cons ?_ (steps_cons ?_ (steps_cons ?_ (steps_cons ?_ (steps_cons ?_ (steps_nil))))))))))))) ?_
               ·intro a w hs
                exact ⟨undef, hs.startF [147, 148, 149, 150, 151, 152, 153, 154, 155, 156, 157, 158] [0] [0, 1, 2, 3] rfl rfl rfl rfl⟩
               ·intro L a w hv K Q hK
                obtain ⟨v11, hs⟩ := hv
                refine wpOp_go rfl rfl hs (OpT_move rfl rfl rfl rfl) ?_
                rintro _ rfl a' w' hs'
                exact hK a' w' ⟨v11, hs'.putF (i := 12) rfl [0] [0, 1, 2, 3] rfl rfl rfl rfl⟩
               ·intro L a w hv K Q hK
                obtain ⟨v11, hs⟩ := hv
                refine wpOp_go rfl rfl hs (OpT_fieldC rfl rfl rfl rfl fldF40x1) ?_
                rintro _ rfl a' w' hs'
                exact hK a' w' ⟨v11, hs'.putF (i := 13) rfl [0] [0, 1, 2, 3] rfl rfl rfl rfl⟩
               ·intro L a w hv K Q hK
                obtain ⟨v11, hs⟩ := hv
                refine wpOp_go rfl rfl hs (OpT_loadC rfl rfl rfl rfl tyF26 (i := 0) rfl rfl) ?_
                rintro _ rfl a' w' hs'
                exact hK a' w' ⟨v11, hs'.putF (i := 14) rfl [0] [0, 1, 2, 3] rfl rfl rfl rfl⟩
               ·intro L a w hv K Q hK
                obtain ⟨v11, hs⟩ := hv
                refine wpOp_go rfl rfl hs (OpT_fieldC rfl rfl rfl rfl fldF40x4) ?_
                rintro _ rfl a' w' hs'
                exact hK a' w' ⟨v11, hs'.putF (i := 15) rfl [0] [0, 1, 2, 3] rfl rfl rfl rfl⟩
               ·intro L a w hv K Q hK
                obtain ⟨v11, hs⟩ := hv
                refine wpOp_go rfl rfl hs (OpT_loadC rfl rfl rfl rfl tyF38 (i := 0) rfl rfl) ?_
                rintro _ rfl a' w' hs'
                exact hK a' w' ⟨v11, hs'.putF (i := 16) rfl [0] [0, 1, 2, 3] rfl rfl rfl rfl⟩
               ·intro L a w hv K Q hK
                obtain ⟨v11, hs⟩ := hv
                refine wpOp_go rfl rfl hs (OpT_call (ws_kit_Own hx19) [] [2] rfl rfl rfl rfl rfl callee19 rfl rfl rfl rfl) ?_
                rintro _ ⟨v11', _, _, ⟨_, rfl, rfl, rfl⟩, rfl⟩ a' w' hs'
                exact hK a' w' ⟨v11', hs'.putF (i := 17) rfl [0] [0, 1, 2, 4] rfl rfl rfl rfl⟩
               ·intro L a w hv K Q hK
                obtain ⟨v11, hs⟩ := hv
                refine wpOp_go rfl rfl hs (OpT_call (w_gmem_Mem_Writen0 hx20) [] [3] rfl rfl rfl rfl rfl callee18 rfl rfl rfl rfl) ?_
                rintro _ ⟨_, _, _, ⟨rfl, rfl, rfl⟩, rfl⟩ a' w' hs'
                exact hK a' w' ⟨v11, hs'.putF (i := 18) rfl [0] [0, 1, 2, 3] rfl rfl rfl rfl⟩
               ·intro L a w hv K Q hK
                obtain ⟨v11, hs⟩ := hv
                refine wpOp_go rfl rfl hs (OpT_move rfl rfl rfl rfl) ?_
                rintro _ rfl a' w' hs'
                exact hK a' w' ⟨v11, hs'.putF (i := 19) rfl [0] [0, 1, 2, 3] rfl rfl rfl rfl⟩
               ·intro L a w hv K Q hK
                obtain ⟨v11, hs⟩ := hv
                refine wpOp_go rfl rfl hs (OpT_fieldC rfl rfl rfl rfl fldF40x1) ?_
                rintro _ rfl a' w' hs'
                exact hK a' w' ⟨v11, hs'.putF (i := 20) rfl [0] [0, 1, 2, 3] rfl rfl rfl rfl⟩
               ·intro L a w hv K Q hK
                obtain ⟨v11, hs⟩ := hv
                refine wpOp_go rfl rfl hs (OpT_loadC rfl rfl rfl rfl tyF26 (i := 0) rfl rfl) ?_
                rintro _ rfl a' w' hs'
                exact hK a' w' ⟨v11, hs'.putF (i := 21) rfl [0] [0, 1, 2, 3] rfl rfl rfl rfl⟩
               ·intro L a w hv K Q hK
                obtain ⟨v11, hs⟩ := hv
                refine wpOp_go rfl rfl hs (OpT_fieldC rfl rfl rfl rfl fldF40x4) ?_
                rintro _ rfl a' w' hs'
                exact hK a' w' ⟨v11, hs'.putF (i := 22) rfl [0] [0, 1, 2, 3] rfl rfl rfl rfl⟩
               ·intro L a w hv K Q hK
                obtain ⟨v11, hs⟩ := hv
                refine wpOp_go rfl rfl hs (OpT_loadC rfl rfl rfl rfl tyF38 (i := 0) rfl rfl) ?_
                rintro _ rfl a' w' hs'
                exact hK a' w' ⟨v11, hs'.putF (i := 23) rfl [0] [0, 1, 2, 3] rfl rfl rfl rfl⟩
               ·intro L a w hL hv
                rw [allTrue hL] at hv
                obtain ⟨v11, hs⟩ := hv
                refine (show TA _ _ _ 12 ⟨[(0, some (vl1)), (1, some (vcalls1)), (5, some (.pointer none)), (7, some (.pointer none)), (9, some (vI i1)), (11, some (vU64 (0 : UInt64))), (12, some (vU64 (0 : UInt64))), (13, some (vB false)), (14, some (vB false)), (15, some (.slice none 0 0)), (16, some (.slice none 0 0)), (153, some (vI write1)), (154, some (.pointer none)), (156, some (vU64 d1.At)), (158, some (v4))], [], [Fact.sl RegionS vl1 l, Fact.sl dumbwaiterlaw02_ActS vcalls1 calls, Fact.sl u8S v4 d1.B]⟩ from ?_) a w (hs.wkS [0, 1, 5, 7, 9, 11, 12, 13, 14, 15, 16, 153, 154, 156, 158] [] [0, 1, 2] rfl rfl rfl rfl)
                clear hs hL
                obtain ⟨write2, hx21, h⟩ := ob_e h
                refine TA_exP htb (by kernel_rfl) rfl rfl (OpT_call (w_ref_Mem_Write02n0 hx21) [] [2] rfl rfl rfl rfl rfl callee27 rfl rfl rfl rfl) ?_
                rintro _ ⟨_, _, _, ⟨rfl, rfl, rfl⟩, rfl⟩
                refine TA_step htb (by kernel_rfl) rfl rfl (OpT_assign rfl rfl rfl rfl) ?_
                refine TA_step htb (by kernel_rfl) rfl rfl (OpT_assign rfl rfl rfl rfl) ?_
                refine TA_end rfl ?_
                refine Tk_wkS (fr' := [(0, some (vl1)), (1, some (vcalls1)), (5, some (.pointer none)), (7, some (.pointer none)), (9, some (vI i1)), (11, some (vU64 (0 : UInt64))), (12, some (vU64 (0 : UInt64))), (13, some (vB false)), (14, some (vB false)), (15, some (.slice none 0 0)), (16, some (.slice none 0 0)), (6, some (vI write1)), (8, some (vI write2))]) (own' := []) (shr' := [Fact.sl RegionS vl1 l, Fact.sl dumbwaiterlaw02_ActS vcalls1 calls]) [0, 1, 5, 7, 9, 11, 12, 13, 14, 15, 16, 6, 8] [] [0, 1] rfl rfl rfl rfl ?_
                refine Tk_nilfact u8S ?_
                refine Tk_nilfact u8S ?_
                exact Tk_jmpS (HJ2 (write1, write2, (0 : UInt64), (0 : UInt64), false, false, ([] : List UInt8), ([] : List UInt8), .slice none 0 0, .slice none 0 0) h) [0, 1, 5, 6, 7, 8, 9, 11, 12, 13, 14, 15, 16] [] [0, 1, 2, 3] rfl rfl rfl rfl
              ·replace h := br_f hg21 h
               refine Tk_condF (congrArg (fun b => some (Value.bool b)) hg21) ?_
               refine Tk_drawT (by kernel_rfl) ?_
               refine TA_tb [0, 0, 2, 0, 8, 31, 0, 0, 128, 0, 512, 2047, 4095, 8191] (by kernel_rfl) fun htb => ?_
               refine TA_wkS (fr' := [(0, some (vl1)), (1, some (vcalls1)), (5, some (.pointer none)), (6, some (vI e1)), (7, some (.pointer none)), (8, some (vI f1)), (9, some (vI i1)), (10, some (.pointer (some ⟨b1, 0, none⟩))), (11, some (vU64 (0 : UInt64))), (12, some (vU64 (0 : UInt64))), (15, some (.slice none 0 0)), (16, some (.slice none 0 0))]) (own' := [some (cellsR b1 40 [vI d1.Kind, vU64 d1.At, vI d1.N, vU64 d1.V, v4])]) (shr' := [Fact.sl RegionS vl1 l, Fact.sl dumbwaiterlaw02_ActS vcalls1 calls, Fact.sl u8S v4 d1.B]) [0, 1, 5, 6, 7, 8, 9, 10, 11, 12, 15, 16] [0] [0, 1, 2] rfl rfl rfl rfl ?_
               obtain ⟨has1, hx22, h⟩ := ob_e h
               refine TA_seg (lo := 0) (hi := 11) htb rfl rfl (by kernel_rfl) (fun c L a w => Sat c ⟨[(0, some (vl1)), (1, some (vcalls1)), (5, some (.pointer none)), (6, some (vI e1)), (7, some (.pointer none)), (8, some (vI f1)), (9, some (vI i1)), (10, some (.pointer (some ⟨b1, 0, none⟩))), (11, some (vU64 (0 : UInt64))), (12, some (vU64 (0 : UInt64))), (15, some (.slice none 0 0)), (16, some (.slice none 0 0)), (74, bif L 0 then some (.pointer none) else none), (75, bif L 1 then some (.pointer (some ⟨b1, 1, none⟩)) else none), (76, bif L 2 then some (vU64 d1.At) else none), (77, bif L 3 then some (.pointer (some ⟨b1, 3, none⟩)) else none), (78, bif L 4 then some (vU64 d1.V) else none), (79, bif L 5 then some (vB has1) else none), (80, bif L 6 then some (.pointer none) else none), (81, bif L 7 then some (.pointer (some ⟨b1, 1, none⟩)) else none), (82, bif L 8 then some (vU64 d1.At) else none), (83, bif L 9 then some (.pointer (some ⟨b1, 3, none⟩)) else none), (84, bif L 10 then some (vU64 d1.V) else none)], [(some (cellsR b1 40 [vI d1.Kind, vU64 d1.At, vI d1.N, vU64 d1.V, v4]) : Option Res)], [Fact.sl RegionS vl1 l, Fact.sl dumbwaiterlaw02_ActS vcalls1 calls, Fact.sl u8S v4 d1.B]⟩ a w) [([], [5]), ([], [2, 5]), ([1], [5]), ([], [4, 5]), ([3], [5]), ([0, 1, 2, 3, 4], []), ([], []), ([], [8]), ([7], []), ([], [10]), ([9], [])] rfl (by kernel_rfl) ?_ (steps_cons ?_ (steps_cons ?_ (steps_cons ?_ (steps_cons ?_ (steps_cons ?_ (steps_cons ?_ (steps_cons ?_ (steps_cons ?_ (steps_cons ?_ (steps_cons ?_ (steps_cons ?_ (steps_nil)))))))))))) ?_
               ·intro a w hs
                exact hs.startF [74, 75, 76, 77, 78, 79, 80, 81, 82, 83, 84] [0] [0, 1, 2] rfl rfl rfl rfl
               ·intro L a w hv K Q hK
                have hs := hv
                refine wpOp_go rfl rfl hs (OpT_move rfl rfl rfl rfl) ?_
                rintro _ rfl a' w' hs'
                exact hK a' w' (hs'.putF (i := 12) rfl [0] [0, 1, 2] rfl rfl rfl rfl)
               ·intro L a w hv K Q hK
                have hs := hv
                refine wpOp_go rfl rfl hs (OpT_fieldC rfl rfl rfl rfl fldF40x1) ?_
                rintro _ rfl a' w' hs'
                exact hK a' w' (hs'.putF (i := 13) rfl [0] [0, 1, 2] rfl rfl rfl rfl)
               ·intro L a w hv K Q hK
                have hs := hv
                refine wpOp_go rfl rfl hs (OpT_loadC rfl rfl rfl rfl tyF26 (i := 0) rfl rfl) ?_
                rintro _ rfl a' w' hs'
                exact hK a' w' (hs'.putF (i := 14) rfl [0] [0, 1, 2] rfl rfl rfl rfl)
               ·intro L a w hv K Q hK
                have hs := hv
                refine wpOp_go rfl rfl hs (OpT_fieldC rfl rfl rfl rfl fldF40x3) ?_
                rintro _ rfl a' w' hs'
                exact hK a' w' (hs'.putF (i := 15) rfl [0] [0, 1, 2] rfl rfl rfl rfl)
               ·intro L a w hv K Q hK
                have hs := hv
                refine wpOp_go rfl rfl hs (OpT_loadC rfl rfl rfl rfl tyF26 (i := 0) rfl rfl) ?_
                rintro _ rfl a' w' hs'
                exact hK a' w' (hs'.putF (i := 16) rfl [0] [0, 1, 2] rfl rfl rfl rfl)
               ·intro L a w hv K Q hK
                have hs := hv
                refine wpOp_go rfl rfl hs (OpT_call (w_gmem_Mem_Hasn0 hx22) [] [] rfl rfl rfl rfl rfl callee20 rfl rfl rfl rfl) ?_
                rintro _ ⟨_, _, _, ⟨rfl, rfl, rfl⟩, rfl⟩ a' w' hs'
                exact hK a' w' (hs'.putF (i := 17) rfl [0] [0, 1, 2] rfl rfl rfl rfl)
               ·intro L a w hv K Q hK
                have hs := hv
                refine wpOp_go rfl rfl hs (OpT_move rfl rfl rfl rfl) ?_
                rintro _ rfl a' w' hs'
                exact hK a' w' (hs'.putF (i := 18) rfl [0] [0, 1, 2] rfl rfl rfl rfl)
               ·intro L a w hv K Q hK
                have hs := hv
                refine wpOp_go rfl rfl hs (OpT_fieldC rfl rfl rfl rfl fldF40x1) ?_
                rintro _ rfl a' w' hs'
                exact hK a' w' (hs'.putF (i := 19) rfl [0] [0, 1, 2] rfl rfl rfl rfl)
               ·intro L a w hv K Q hK
                have hs := hv
                refine wpOp_go rfl rfl hs (OpT_loadC rfl rfl rfl rfl tyF26 (i := 0) rfl rfl) ?_
                rintro _ rfl a' w' hs'
                exact hK a' w' (hs'.putF (i := 20) rfl [0] [0, 1, 2] rfl rfl rfl rfl)
               ·intro L a w hv K Q hK
                have hs := hv
                refine wpOp_go rfl rfl hs (OpT_fieldC rfl rfl rfl rfl fldF40x3) ?_
                rintro _ rfl a' w' hs'
                exact hK a' w' (hs'.putF (i := 21) rfl [0] [0, 1, 2] rfl rfl rfl rfl)
               ·intro L a w hv K Q hK
                have hs := hv
                refine wpOp_go rfl rfl hs (OpT_loadC rfl rfl rfl rfl tyF26 (i := 0) rfl rfl) ?_
                rintro _ rfl a' w' hs'
                exact hK a' w' (hs'.putF (i := 22) rfl [0] [0, 1, 2] rfl rfl rfl rfl)
               ·intro L a w hL hv
                rw [allTrue hL] at hv
                have hs := hv
                refine (show TA _ _ _ 11 ⟨[(0, some (vl1)), (1, some (vcalls1)), (5, some (.pointer none)), (6, some (vI e1)), (7, some (.pointer none)), (8, some (vI f1)), (9, some (vI i1)), (11, some (vU64 (0 : UInt64))), (12, some (vU64 (0 : UInt64))), (15, some (.slice none 0 0)), (16, some (.slice none 0 0)), (79, some (vB has1)), (80, some (.pointer none)), (82, some (vU64 d1.At)), (84, some (vU64 d1.V))], [], [Fact.sl RegionS vl1 l, Fact.sl dumbwaiterlaw02_ActS vcalls1 calls]⟩ from ?_) a w (hs.wkS [0, 1, 5, 6, 7, 8, 9, 11, 12, 15, 16, 79, 80, 82, 84] [] [0, 1] rfl rfl rfl rfl)
                clear hs hL
                obtain ⟨has2, hx23, h⟩ := ob_e h
                refine TA_exP htb (by kernel_rfl) rfl rfl (OpT_call (w_ref_Mem_Has02n0 hx23) [] [] rfl rfl rfl rfl rfl callee28 rfl rfl rfl rfl) ?_
                rintro _ ⟨_, _, _, ⟨rfl, rfl, rfl⟩, rfl⟩
                refine TA_step htb (by kernel_rfl) rfl rfl (OpT_assign rfl rfl rfl rfl) ?_
                refine TA_step htb (by kernel_rfl) rfl rfl (OpT_assign rfl rfl rfl rfl) ?_
                refine TA_end rfl ?_
                refine Tk_wkS (fr' := [(0, some (vl1)), (1, some (vcalls1)), (5, some (.pointer none)), (6, some (vI e1)), (7, some (.pointer none)), (8, some (vI f1)), (9, some (vI i1)), (11, some (vU64 (0 : UInt64))), (12, some (vU64 (0 : UInt64))), (15, some (.slice none 0 0)), (16, some (.slice none 0 0)), (13, some (vB has1)), (14, some (vB has2))]) (own' := []) (shr' := [Fact.sl RegionS vl1 l, Fact.sl dumbwaiterlaw02_ActS vcalls1 calls]) [0, 1, 5, 6, 7, 8, 9, 11, 12, 15, 16, 13, 14] [] [0, 1] rfl rfl rfl rfl ?_
                refine Tk_nilfact u8S ?_
                refine Tk_nilfact u8S ?_
                exact Tk_jmpS (HJ2 (e1, f1, (0 : UInt64), (0 : UInt64), has1, has2, ([] : List UInt8), ([] : List UInt8), .slice none 0 0, .slice none 0 0) h) [0, 1, 5, 6, 7, 8, 9, 11, 12, 13, 14, 15, 16] [] [0, 1, 2, 3] rfl rfl rfl rfl
        ·replace h := br_f hg13 h
         refine Tk_condF (congrArg (fun b => some (Value.bool b)) hg13) ?_
         refine Tk_exit _ rfl ?_
         refine Tk_seq (Tk_drawT (by kernel_rfl) ?_)
         refine TA_tb [0, 1, 3, 0, 11, 27, 63, 127, 255, 511, 255, 2047, 4095, 8191] (by kernel_rfl) fun htb => ?_
         refine TA_wkS (fr' := [(0, some (vl1)), (5, some (.pointer none)), (7, some (.pointer none))]) (own' := []) (shr' := [Fact.sl RegionS vl1 l]) [0, 5, 7] [] [0] rfl rfl rfl rfl ?_
         obtain ⟨image1, hx24, h⟩ := ob_e h
         obtain ⟨image2, hx25, h⟩ := ob_e h
         refine TA_seg (lo := 0) (hi := 6) htb rfl rfl (by kernel_rfl) (fun c L a w => ∃ (v12 : Value), ∃ (v13 : Value), Sat c ⟨[(0, some (vl1)), (5, some (.pointer none)), (7, some (.pointer none)), (180, bif L 0 then some (.pointer none) else none), (181, bif L 1 then some (v12) else none), (182, bif L 2 then some (vS image1) else none), (183, bif L 3 then some (.pointer none) else none), (184, bif L 4 then some (v13) else none), (185, bif L 5 then some (vS image2) else none)], [], [Fact.sl RegionS vl1 l, (bif L 1 then Fact.sl u8S v12 image1 else Fact.tt), (bif L 4 then Fact.sl u8S v13 image2 else Fact.tt)]⟩ a w) [([], [1, 2, 4, 5]), ([0], [2, 4, 5]), ([0, 1], []), ([], [4, 5]), ([0, 1, 3], [5]), ([0, 1, 3, 4], [])] rfl (by kernel_rfl) ?_ (steps_cons ?_ (steps_cons ?_ (steps_cons ?_ (steps_cons ?_ (steps_cons ?_ (steps_cons ?_ (steps_nil))))))) ?_
         ·intro a w hs
          exact ⟨undef, undef, hs.startF [180, 181, 182, 183, 184, 185] [] [0, 1, 2] rfl rfl rfl rfl⟩
         ·intro L a w hv K Q hK
          obtain ⟨v12, v13, hs⟩ := hv
          refine wpOp_go rfl rfl hs (OpT_move rfl rfl rfl rfl) ?_
          rintro _ rfl a' w' hs'
          exact hK a' w' ⟨v12, v13, hs'.putF (i := 3) rfl [] [0, 1, 2] rfl rfl rfl rfl⟩
         ·intro L a w hv K Q hK
          obtain ⟨v12, v13, hs⟩ := hv
          refine wpOp_go rfl rfl hs (OpT_call (ws_gmem_Mem_Imagen0 hx24) [] [] rfl rfl rfl rfl rfl callee21 rfl rfl rfl rfl) ?_
          rintro _ ⟨v12', _, _, ⟨_, rfl, rfl, rfl⟩, rfl⟩ a' w' hs'
          exact hK a' w' ⟨v12', v13, hs'.putF (i := 4) rfl [] [0, 3, 2] rfl rfl rfl rfl⟩
         ·intro L a w hv K Q hK
          obtain ⟨v12, v13, hs⟩ := hv
          refine wpOp_go rfl rfl hs (OpT_strS rfl rfl rfl rfl Try.underlying38 Try.underlying5 Try.underlying9 (i := 1) rfl) ?_
          rintro _ rfl a' w' hs'
          exact hK a' w' ⟨v12, v13, hs'.putF (i := 5) rfl [] [0, 1, 2] rfl rfl rfl rfl⟩
         ·intro L a w hv K Q hK
          obtain ⟨v12, v13, hs⟩ := hv
          refine wpOp_go rfl rfl hs (OpT_move rfl rfl rfl rfl) ?_
          rintro _ rfl a' w' hs'
          exact hK a' w' ⟨v12, v13, hs'.putF (i := 6) rfl [] [0, 1, 2] rfl rfl rfl rfl⟩
         ·intro L a w hv K Q hK
          obtain ⟨v12, v13, hs⟩ := hv
          refine wpOp_go rfl rfl hs (OpT_call (ws_ref_Mem_Image02n0 hx25) [] [] rfl rfl rfl rfl rfl callee29 rfl rfl rfl rfl) ?_
          rintro _ ⟨v13', _, _, ⟨_, rfl, rfl, rfl⟩, rfl⟩ a' w' hs'
          exact hK a' w' ⟨v12, v13', hs'.putF (i := 7) rfl [] [0, 1, 3] rfl rfl rfl rfl⟩
         ·intro L a w hv K Q hK
          obtain ⟨v12, v13, hs⟩ := hv
          refine wpOp_go rfl rfl hs (OpT_strS rfl rfl rfl rfl Try.underlying38 Try.underlying5 Try.underlying9 (i := 2) rfl) ?_
          rintro _ rfl a' w' hs'
          exact hK a' w' ⟨v12, v13, hs'.putF (i := 8) rfl [] [0, 1, 2] rfl rfl rfl rfl⟩
         ·intro L a w hL hv
          rw [allTrue hL] at hv
          obtain ⟨v12, v13, hs⟩ := hv
          refine (show TA _ _ _ 6 ⟨[(0, some (vl1)), (5, some (.pointer none)), (182, some (vS image1)), (185, some (vS image2))], [], [Fact.sl RegionS vl1 l]⟩ from ?_) a w (hs.wkS [0, 5, 182, 185] [] [0] rfl rfl rfl rfl)
          clear hs hL
          refine TA_step htb (by kernel_rfl) rfl rfl (OpT_bin rfl rfl rfl rfl rfl (bin_eql_s (a := image1) (b := image2))) ?_
          refine TA_step htb (by kernel_rfl) rfl rfl (OpT_move rfl rfl rfl rfl) ?_
          refine TA_wkS (fr' := [(0, some (vl1)), (5, some (.pointer none)), (187, some (vB (image1 == image2)))]) (own' := []) (shr' := [Fact.sl RegionS vl1 l]) [0, 5, 187] [] [0] rfl rfl rfl rfl ?_
          obtain ⟨hg22, h⟩ := chk_e h
          obtain ⟨region2, hx26, h⟩ := ob_e h
          refine TA_seg (lo := 8) (hi := 11) htb rfl rfl (by kernel_rfl) (fun c L a w => ∃ (v14 : Value), Sat c ⟨[(0, some (vl1)), (5, some (.pointer none)), (187, some (vB (image1 == image2))), (188, bif L 8 then some (.pointer none) else none), (189, bif L 9 then some (v14) else none), (190, bif L 10 then some (vl1) else none)], [], [Fact.sl RegionS vl1 l, (bif L 9 then Fact.sl RegionS v14 region2 else Fact.tt)]⟩ a w) [([], [9]), ([8], []), ([], [])] rfl (by kernel_rfl) ?_ (steps_cons ?_ (steps_cons ?_ (steps_cons ?_ (steps_nil)))) ?_
          ·intro a w hs
           exact ⟨undef, hs.startF [188, 189, 190] [] [0, 1] rfl rfl rfl rfl⟩
          ·intro L a w hv K Q hK
           obtain ⟨v14, hs⟩ := hv
           refine wpOp_yes rfl rfl rfl hs (congrArg (fun b => some (Value.bool b)) hg22) (OpT_move rfl rfl rfl rfl) ?_
           rintro _ rfl a' w' hs'
           exact hK a' w' ⟨v14, hs'.putF (i := 3) rfl [] [0, 1] rfl rfl rfl rfl⟩
          ·intro L a w hv K Q hK
           obtain ⟨v14, hs⟩ := hv
           refine wpOp_yes rfl rfl rfl hs (congrArg (fun b => some (Value.bool b)) hg22) (OpT_call (ws_gmem_Mem_Regionsn0 hx26) [] [] rfl rfl rfl rfl rfl callee31 rfl rfl rfl rfl) ?_
           rintro _ ⟨v14', _, _, ⟨_, rfl, rfl, rfl⟩, rfl⟩ a' w' hs'
           exact hK a' w' ⟨v14', hs'.putF (i := 4) rfl [] [0, 2] rfl rfl rfl rfl⟩
          ·intro L a w hv K Q hK
           obtain ⟨v14, hs⟩ := hv
           refine wpOp_yes rfl rfl rfl hs (congrArg (fun b => some (Value.bool b)) hg22) (OpT_move rfl rfl rfl rfl) ?_
           rintro _ rfl a' w' hs'
           exact hK a' w' ⟨v14, hs'.putF (i := 5) rfl [] [0, 1] rfl rfl rfl rfl⟩
          ·intro L a w hL hv
           rw [allTrue hL] at hv
           obtain ⟨v14, hs⟩ := hv
           refine (show TA _ _ _ 11 ⟨[(187, some (vB (image1 == image2))), (189, some (v14)), (190, some (vl1))], [], [Fact.sl RegionS vl1 l, Fact.sl RegionS v14 region2]⟩ from ?_) a w (hs.wkS [187, 189, 190] [] [0, 1] rfl rfl rfl rfl)
           clear hs hL
           obtain ⟨samere1, hx27, h⟩ := ob_e h
           refine TA_yes htb (by kernel_rfl) rfl rfl rfl (congrArg (fun b => some (Value.bool b)) hg22) (OpT_call (w_kit_SameRegions hx27) [] [1, 0] rfl rfl rfl rfl rfl callee30 rfl rfl rfl rfl) ?_
           rintro _ ⟨_, _, _, ⟨rfl, rfl, rfl⟩, rfl⟩
           refine TA_step htb (by kernel_rfl) rfl rfl (OpT_pickT rfl rfl rfl (congrArg (fun b => some (Value.bool b)) hg22) rfl) ?_
           refine TA_step htb (by kernel_rfl) rfl rfl (OpT_assign rfl rfl rfl rfl) ?_
           refine TA_end rfl ?_
           refine Tk_wkS (fr' := [(4, some (vB samere1))]) (own' := []) (shr' := []) [4] [] [] rfl rfl rfl rfl ?_
           obtain ⟨hg23, h⟩ := chk_e h
           exact Tk_retV rfl rfl (resA (vs := [.bool true]) rfl ⟨(congrArg (fun b => some (Value.bool b)) hg23), trivial⟩) [] [] rfl rfl rfl ⟨rfl, rfl, rfl⟩
    ·refine Tk_optS (i := 0) rfl ho2 ?_
     rintro b2 v15 v16 vs1 rfl
     refine Tk_seq (Tk_seq (Tk_region (Tops_step rfl (OpT_move rfl rfl rfl rfl) ?_)))
     refine Tops_step rfl (OpT_move rfl rfl rfl rfl) ?_
     refine Tops_step rfl (OpT_bin rfl rfl rfl rfl rfl (bin_neq_i (a := new1.2) (b := new2.2))) ?_
     refine Tops_step rfl (OpT_move rfl rfl rfl rfl) ?_
     rcases Bool.eq_false_or_eq_true (new1.2 != new2.2) with hg24 | hg24
     ·replace h := br_t hg24 h
      refine Tops_no rfl rfl (congrArg (fun b => some (Value.bool b)) hg24) rfl rfl ?_
      refine Tops_no rfl rfl (congrArg (fun b => some (Value.bool b)) hg24) rfl rfl ?_
      refine Tops_no rfl rfl (congrArg (fun b => some (Value.bool b)) hg24) rfl rfl ?_
      refine Tops_no rfl rfl (congrArg (fun b => some (Value.bool b)) hg24) rfl rfl ?_
      refine Tops_step rfl (OpT_pickT rfl rfl rfl (congrArg (fun b => some (Value.bool b)) hg24) rfl) ?_
      refine Tops_step rfl (OpT_move rfl rfl rfl rfl) ?_
      refine Tops_no rfl rfl rfl rfl rfl ?_
      refine Tops_no rfl rfl rfl rfl rfl ?_
      refine Tops_step rfl (OpT_pickT rfl rfl rfl rfl rfl) ?_
      refine Tops_nil (Tk_wkS (fr' := [(0, some (vl1)), (1, some (vcalls1)), (5, some (.pointer none)), (6, some (vI new1.2)), (7, some (.pointer (some ⟨b2, 0, none⟩))), (8, some (vI new2.2)), (51, some (vB true))]) (own' := [some (cellsR b2 67 [v15, v16]), some (rowsX u8S false v16 vs1 mem1.B none)]) (shr' := [Fact.sl RegionS vl1 l, Fact.sl dumbwaiterlaw02_ActS vcalls1 calls, Fact.sl RegionS v15 mem1.L]) [0, 1, 5, 6, 7, 8, 51] [0, 1] [0, 1, 2] rfl rfl rfl rfl ?_)
      refine Tk_condT rfl ?_
      refine Tk_seq (Tk_region (Tops_step rfl (OpT_move rfl rfl rfl rfl) ?_))
      refine Tops_step rfl (OpT_move rfl rfl rfl rfl) ?_
      refine Tops_step rfl (OpT_bin rfl rfl rfl rfl rfl (bin_eql_i (a := new1.2) (b := new2.2))) ?_
      refine Tops_step rfl (OpT_move rfl rfl rfl rfl) ?_
      obtain ⟨hg25, h⟩ := chk_e h
      refine Tops_yes rfl rfl (congrArg (fun b => some (Value.bool b)) hg25) (OpT_move rfl rfl rfl rfl) ?_
      rintro _ rfl
      obtain ⟨check5, hx28, h⟩ := ob_e h
      refine Tops_yes rfl rfl (congrArg (fun b => some (Value.bool b)) hg25) (OpT_call (w_gmem_Check hx28) [] [0] rfl rfl rfl rfl rfl callee11 rfl rfl rfl rfl) ?_
      rintro _ ⟨_, _, _, ⟨rfl, rfl, rfl⟩, rfl⟩
      refine Tops_yes rfl rfl (congrArg (fun b => some (Value.bool b)) hg25) (OpT_move rfl rfl rfl rfl) ?_
      rintro _ rfl
      refine Tops_yes rfl rfl (congrArg (fun b => some (Value.bool b)) hg25) (OpT_bin rfl rfl rfl rfl rfl (bin_eql_i (a := check5) (b := new2.2))) ?_
      rintro _ rfl
      refine Tops_step rfl (OpT_pickT rfl rfl rfl (congrArg (fun b => some (Value.bool b)) hg25) rfl) ?_
      refine Tops_step rfl (OpT_assign rfl rfl rfl rfl) ?_
      refine Tops_nil (Tk_wkS (fr' := [(4, some (vB (check5 == new2.2)))]) (own' := []) (shr' := []) [4] [] [] rfl rfl rfl rfl ?_)
      obtain ⟨hg26, h⟩ := chk_e h
      exact Tk_retV rfl rfl (resA (vs := [.bool true]) rfl ⟨(congrArg (fun b => some (Value.bool b)) hg26), trivial⟩) [] [] rfl rfl rfl ⟨rfl, rfl, rfl⟩
     ·replace h := br_f hg24 h
      refine Tops_yes rfl rfl (congrArg (fun b => some (Value.bool b)) hg24) (OpT_move rfl rfl rfl rfl) ?_
      rintro _ rfl
      obtain ⟨check6, hx29, h⟩ := ob_e h
      refine Tops_yes rfl rfl (congrArg (fun b => some (Value.bool b)) hg24) (OpT_call (w_gmem_Check hx29) [] [0] rfl rfl rfl rfl rfl callee11 rfl rfl rfl rfl) ?_
      rintro _ ⟨_, _, _, ⟨rfl, rfl, rfl⟩, rfl⟩
      refine Tops_yes rfl rfl (congrArg (fun b => some (Value.bool b)) hg24) (OpT_move rfl rfl rfl rfl) ?_
      rintro _ rfl
      refine Tops_yes rfl rfl (congrArg (fun b => some (Value.bool b)) hg24) (OpT_bin rfl rfl rfl rfl rfl (bin_neq_i (a := check6) (b := new2.2))) ?_
      rintro _ rfl
      refine Tops_step rfl (OpT_pickF rfl rfl rfl (congrArg (fun b => some (Value.bool b)) hg24) rfl) ?_
      refine Tops_step rfl (OpT_move rfl rfl rfl rfl) ?_
      rcases Bool.eq_false_or_eq_true (check6 != new2.2) with hg27 | hg27
      ·replace h := br_t hg27 h
       refine Tops_no rfl rfl (congrArg (fun b => some (Value.bool b)) hg27) rfl rfl ?_
       refine Tops_no rfl rfl (congrArg (fun b => some (Value.bool b)) hg27) rfl rfl ?_
       refine Tops_step rfl (OpT_pickT rfl rfl rfl (congrArg (fun b => some (Value.bool b)) hg27) rfl) ?_
       refine Tops_nil (Tk_wkS (fr' := [(0, some (vl1)), (1, some (vcalls1)), (5, some (.pointer none)), (6, some (vI new1.2)), (7, some (.pointer (some ⟨b2, 0, none⟩))), (8, some (vI new2.2)), (51, some (vB true))]) (own' := [some (cellsR b2 67 [v15, v16]), some (rowsX u8S false v16 vs1 mem1.B none)]) (shr' := [Fact.sl RegionS vl1 l, Fact.sl dumbwaiterlaw02_ActS vcalls1 calls, Fact.sl RegionS v15 mem1.L]) [0, 1, 5, 6, 7, 8, 51] [0, 1] [0, 1, 2] rfl rfl rfl rfl ?_)
       refine Tk_condT rfl ?_
       refine Tk_seq (Tk_region (Tops_step rfl (OpT_move rfl rfl rfl rfl) ?_))
       refine Tops_step rfl (OpT_move rfl rfl rfl rfl) ?_
       refine Tops_step rfl (OpT_bin rfl rfl rfl rfl rfl (bin_eql_i (a := new1.2) (b := new2.2))) ?_
       refine Tops_step rfl (OpT_move rfl rfl rfl rfl) ?_
       obtain ⟨hg28, h⟩ := chk_e h
       refine Tops_yes rfl rfl (congrArg (fun b => some (Value.bool b)) hg28) (OpT_move rfl rfl rfl rfl) ?_
       rintro _ rfl
       obtain ⟨check7, hx30, h⟩ := ob_e h
       refine Tops_yes rfl rfl (congrArg (fun b => some (Value.bool b)) hg28) (OpT_call (w_gmem_Check hx30) [] [0] rfl rfl rfl rfl rfl callee11 rfl rfl rfl rfl) ?_
       rintro _ ⟨_, _, _, ⟨rfl, rfl, rfl⟩, rfl⟩
       refine Tops_yes rfl rfl (congrArg (fun b => some (Value.bool b)) hg28) (OpT_move rfl rfl rfl rfl) ?_
       rintro _ rfl
       refine Tops_yes rfl rfl (congrArg (fun b => some (Value.bool b)) hg28) (OpT_bin rfl rfl rfl rfl rfl (bin_eql_i (a := check7) (b := new2.2))) ?_
       rintro _ rfl
       refine Tops_step rfl (OpT_pickT rfl rfl rfl (congrArg (fun b => some (Value.bool b)) hg28) rfl) ?_
       refine Tops_step rfl (OpT_assign rfl rfl rfl rfl) ?_
       refine Tops_nil (Tk_wkS (fr' := [(4, some (vB (check7 == new2.2)))]) (own' := []) (shr' := []) [4] [] [] rfl rfl rfl rfl ?_)
       obtain ⟨hg29, h⟩ := chk_e h
       exact Tk_retV rfl rfl (resA (vs := [.bool true]) rfl ⟨(congrArg (fun b => some (Value.bool b)) hg29), trivial⟩) [] [] rfl rfl rfl ⟨rfl, rfl, rfl⟩
      ·replace h := br_f hg27 h
       refine Tops_yes rfl rfl (congrArg (fun b => some (Value.bool b)) hg27) (OpT_move rfl rfl rfl rfl) ?_
       rintro _ rfl
       refine Tops_yes rfl rfl (congrArg (fun b => some (Value.bool b)) hg27) (OpT_bin rfl rfl rfl rfl rfl (bin_neq_i (a := new2.2) (b := (0 : Int)))) ?_
       rintro _ rfl
       refine Tops_step rfl (OpT_pickF rfl rfl rfl (congrArg (fun b => some (Value.bool b)) hg27) rfl) ?_
       refine Tops_nil (Tk_wkS (fr' := [(0, some (vl1)), (1, some (vcalls1)), (5, some (.pointer none)), (6, some (vI new1.2)), (7, some (.pointer (some ⟨b2, 0, none⟩))), (8, some (vI new2.2)), (51, some (vB (new2.2 != (0 : Int))))]) (own' := [some (cellsR b2 67 [v15, v16]), some (rowsX u8S false v16 vs1 mem1.B none)]) (shr' := [Fact.sl RegionS vl1 l, Fact.sl dumbwaiterlaw02_ActS vcalls1 calls, Fact.sl RegionS v15 mem1.L]) [0, 1, 5, 6, 7, 8, 51] [0, 1] [0, 1, 2] rfl rfl rfl rfl ?_)
       rcases Bool.eq_false_or_eq_true (new2.2 != (0 : Int)) with hg30 | hg30
       ·replace h := br_t hg30 h
        refine Tk_condT (congrArg (fun b => some (Value.bool b)) hg30) ?_
        refine Tk_seq (Tk_region (Tops_step rfl (OpT_move rfl rfl rfl rfl) ?_))
        refine Tops_step rfl (OpT_move rfl rfl rfl rfl) ?_
        refine Tops_step rfl (OpT_bin rfl rfl rfl rfl rfl (bin_eql_i (a := new1.2) (b := new2.2))) ?_
        refine Tops_step rfl (OpT_move rfl rfl rfl rfl) ?_
        obtain ⟨hg31, h⟩ := chk_e h
        refine Tops_yes rfl rfl (congrArg (fun b => some (Value.bool b)) hg31) (OpT_move rfl rfl rfl rfl) ?_
        rintro _ rfl
        obtain ⟨check8, hx31, h⟩ := ob_e h
        refine Tops_yes rfl rfl (congrArg (fun b => some (Value.bool b)) hg31) (OpT_call (w_gmem_Check hx31) [] [0] rfl rfl rfl rfl rfl callee11 rfl rfl rfl rfl) ?_
        rintro _ ⟨_, _, _, ⟨rfl, rfl, rfl⟩, rfl⟩
        refine Tops_yes rfl rfl (congrArg (fun b => some (Value.bool b)) hg31) (OpT_move rfl rfl rfl rfl) ?_
        rintro _ rfl
        refine Tops_yes rfl rfl (congrArg (fun b => some (Value.bool b)) hg31) (OpT_bin rfl rfl rfl rfl rfl (bin_eql_i (a := check8) (b := new2.2))) ?_
        rintro _ rfl
        refine Tops_step rfl (OpT_pickT rfl rfl rfl (congrArg (fun b => some (Value.bool b)) hg31) rfl) ?_
        refine Tops_step rfl (OpT_assign rfl rfl rfl rfl) ?_
        refine Tops_nil (Tk_wkS (fr' := [(4, some (vB (check8 == new2.2)))]) (own' := []) (shr' := []) [4] [] [] rfl rfl rfl rfl ?_)
        obtain ⟨hg32, h⟩ := chk_e h
        exact Tk_retV rfl rfl (resA (vs := [.bool true]) rfl ⟨(congrArg (fun b => some (Value.bool b)) hg32), trivial⟩) [] [] rfl rfl rfl ⟨rfl, rfl, rfl⟩
       ·replace h := br_f hg30 h
        refine Tk_condF (congrArg (fun b => some (Value.bool b)) hg30) ?_
        refine Tk_skip (Tk_seq (Tk_seq (Tk_region (Tops_step rfl (OpT_assign rfl rfl rfl rfl) ?_))))
        refine Tops_nil (Tk_wkS (fr' := [(0, some (vl1)), (1, some (vcalls1)), (5, some (.pointer none)), (6, some (vI new1.2)), (7, some (.pointer (some ⟨b2, 0, none⟩))), (8, some (vI new2.2)), (9, some (vI (0 : Int)))]) (own' := [some (cellsR b2 67 [v15, v16]), some (rowsX u8S false v16 vs1 mem1.B none)]) (shr' := [Fact.sl RegionS vl1 l, Fact.sl dumbwaiterlaw02_ActS vcalls1 calls, Fact.sl RegionS v15 mem1.L]) [0, 1, 5, 6, 7, 8, 9] [0, 1] [0, 1, 2] rfl rfl rfl rfl ?_)
        refine Tk_block (Tk_loopS (σ := Int × (List (List UInt8)) × Int × Int) [0, 1, 5, 6, 7, 8, 9] [0, 1] [0, 1, 2] (fun s => ⟨[(0, some (vl1)), (1, some (vcalls1)), (5, some (.pointer none)), (6, some (vI s.1)), (7, some (.pointer (some ⟨b2, 0, none⟩))), (8, some (vI s.2.2.1)), (9, some (vI s.2.2.2))], [some (cellsR b2 67 [v15, v16]), some (rowsX u8S false v16 vs1 s.2.1 none)], [Fact.sl RegionS vl1 l, Fact.sl dumbwaiterlaw02_ActS vcalls1 calls, Fact.sl RegionS v15 mem1.L]⟩) (fun nf4 s => law02zGmemScriptL4 l calls mem1 nf4 s.1 s.2.1 s.2.2.1 s.2.2.2 = some true) fuel (new1.2, mem1.B, new2.2, (0 : Int)) h rfl rfl rfl rfl rfl (fun s h => by cases h) ?_)
        rintro nf4 ⟨e4, rows1, f4, i2⟩ h
        replace h : law02zGmemScriptL4B l calls mem1 (law02zGmemScriptL4 l calls mem1 nf4) e4 rows1 f4 i2 = some true := h
        unfold law02zGmemScriptL4B at h
        refine Tk_seq (Tk_seq (Tk_region (Tops_step rfl (OpT_move rfl rfl rfl rfl) ?_)))
        refine Tops_step rfl (OpT_move rfl rfl rfl rfl) ?_
        refine Tops_step rfl (OpT_lenS rfl rfl rfl rfl Try.underlying23 (i := 1) rfl) ?_
        refine Tops_step rfl (OpT_bin rfl rfl rfl rfl rfl (bin_lss_i (a := i2) (b := len calls))) ?_
        refine Tops_nil (Tk_wkS (fr' := [(0, some (vl1)), (1, some (vcalls1)), (5, some (.pointer none)), (6, some (vI e4)), (7, some (.pointer (some ⟨b2, 0, none⟩))), (8, some (vI f4)), (9, some (vI i2)), (64, some (vB (decide (i2 < (len calls)))))]) (own' := [some (cellsR b2 67 [v15, v16]), some (rowsX u8S false v16 vs1 rows1 none)]) (shr' := [Fact.sl RegionS vl1 l, Fact.sl dumbwaiterlaw02_ActS vcalls1 calls, Fact.sl RegionS v15 mem1.L]) [0, 1, 5, 6, 7, 8, 9, 64] [0, 1] [0, 1, 2] rfl rfl rfl rfl ?_)
        rcases Bool.eq_false_or_eq_true (decide (i2 < (len calls))) with hg33 | hg33
        ·replace h := br_t hg33 h
         refine Tk_condT (congrArg (fun b => some (Value.bool b)) hg33) ?_
         refine Tk_skip (Tk_seq (Tk_block (Tk_seq (Tk_region (Tops_step rfl (OpT_move rfl rfl rfl rfl) ?_)))))
         refine Tops_step rfl (OpT_move rfl rfl rfl rfl) ?_
         obtain ⟨d2, hx32, h⟩ := ob_e h
         refine Tops_ex rfl (OpT_idxS rfl rfl rfl rfl rfl slF23 (i := 1) rfl hx32) fun p4 => ?_
         refine Tops_ex rfl (OpT_loadP1 rfl rfl rfl rfl tyF40 (i := 3) rfl) fun v17 => ?_
         refine Tops_ex rfl (OpT_alloc rfl rfl rfl tyZ40) fun b3 => ?_
         refine Tops_step rfl (OpT_storeA1 (fun z0 => [vI d2.Kind, vU64 d2.At, vI d2.N, vU64 d2.V, z0]) (cs' := [vI d2.Kind, vU64 d2.At, vI d2.N, vU64 d2.V, v17]) rfl rfl rfl rfl tyF40 (i := 2) rfl (is_sl (i := 4) rfl) (fun _ _ _ => rfl) rfl rfl rfl) ?_
         refine Tops_nil (Tk_wkS (fr' := [(0, some (vl1)), (1, some (vcalls1)), (5, some (.pointer none)), (6, some (vI e4)), (7, some (.pointer (some ⟨b2, 0, none⟩))), (8, some (vI f4)), (9, some (vI i2)), (10, some (.pointer (some ⟨b3, 0, none⟩)))]) (own' := [some (cellsR b2 67 [v15, v16]), some (rowsX u8S false v16 vs1 rows1 none), some (cellsR b3 40 [vI d2.Kind, vU64 d2.At, vI d2.N, vU64 d2.V, v17])]) (shr' := [Fact.sl RegionS vl1 l, Fact.sl dumbwaiterlaw02_ActS vcalls1 calls, Fact.sl RegionS v15 mem1.L, Fact.sl u8S v17 d2.B]) [0, 1, 5, 6, 7, 8, 9, 10] [0, 1, 2] [0, 1, 2, 4] rfl rfl rfl rfl ?_)
         refine Tk_seq (Tk_region (Tops_step rfl (OpT_assign rfl rfl rfl rfl) ?_))
         refine Tops_step rfl (OpT_assign rfl rfl rfl rfl) ?_
         refine Tops_step rfl (OpT_assign rfl rfl rfl rfl) ?_
         refine Tops_step rfl (OpT_assign rfl rfl rfl rfl) ?_
         refine Tops_nil (Tk_seq (Tk_region (Tops_step rfl (OpT_assign rfl rfl rfl rfl) ?_)))
         refine Tops_step rfl (OpT_assign rfl rfl rfl rfl) ?_
         refine Tops_nil (Tk_seq (Tk_seq (Tk_region (Tops_step rfl (OpT_fieldC rfl rfl rfl rfl fldF40x0) ?_))))
         refine Tops_step rfl (OpT_loadC rfl rfl rfl rfl tyF3 (i := 2) rfl rfl) ?_
         obtain ⟨pick2, hx33, h⟩ := ob_e h
         refine Tops_exP rfl (OpT_call (w_kit_Pick hx33) [] [] rfl rfl rfl rfl rfl callee15 rfl rfl rfl rfl) ?_
         rintro _ ⟨_, _, _, ⟨rfl, rfl, rfl⟩, rfl⟩
         refine Tops_nil (Tk_wkS (fr' := [(0, some (vl1)), (1, some (vcalls1)), (5, some (.pointer none)), (6, some (vI e4)), (7, some (.pointer (some ⟨b2, 0, none⟩))), (8, some (vI f4)), (9, some (vI i2)), (10, some (.pointer (some ⟨b3, 0, none⟩))), (11, some (vU64 (0 : UInt64))), (12, some (vU64 (0 : UInt64))), (13, some (vB false)), (14, some (vB false)), (15, some (.slice none 0 0)), (16, some (.slice none 0 0)), (73, some (vI pick2))]) (own' := [some (cellsR b2 67 [v15, v16]), some (rowsX u8S false v16 vs1 rows1 none), some (cellsR b3 40 [vI d2.Kind, vU64 d2.At, vI d2.N, vU64 d2.V, v17])]) (shr' := [Fact.sl RegionS vl1 l, Fact.sl dumbwaiterlaw02_ActS vcalls1 calls, Fact.sl RegionS v15 mem1.L, Fact.sl u8S v17 d2.B]) [0, 1, 5, 6, 7, 8, 9, 10, 11, 12, 13, 14, 15, 16, 73] [0, 1, 2] [0, 1, 2, 3] rfl rfl rfl rfl ?_)
         refine Tk_join (α := Int × (List (List UInt8)) × Int × UInt64 × UInt64 × Bool × Bool × (List UInt8) × (List UInt8) × Value × Value) (fun s => ⟨[(0, some (vl1)), (1, some (vcalls1)), (5, some (.pointer none)), (6, some (vI s.1)), (7, some (.pointer (some ⟨b2, 0, none⟩))), (8, some (vI s.2.2.1)), (9, some (vI i2)), (11, some (vU64 s.2.2.2.1)), (12, some (vU64 s.2.2.2.2.1)), (13, some (vB s.2.2.2.2.2.1)), (14, some (vB s.2.2.2.2.2.2.1)), (15, some (s.2.2.2.2.2.2.2.2.2.1)), (16, some (s.2.2.2.2.2.2.2.2.2.2))], [some (cellsR b2 67 [v15, v16]), some (rowsX u8S false v16 vs1 s.2.1 none)], [Fact.sl RegionS vl1 l, Fact.sl dumbwaiterlaw02_ActS vcalls1 calls, Fact.sl RegionS v15 mem1.L, Fact.sl u8S s.2.2.2.2.2.2.2.2.2.1 s.2.2.2.2.2.2.2.1, Fact.sl u8S s.2.2.2.2.2.2.2.2.2.2 s.2.2.2.2.2.2.2.2.1]⟩) (fun s => law02zGmemScriptJ5 i2 (law02zGmemScriptL4 l calls mem1 nf4) s.1 s.2.1 s.2.2.1 s.2.2.2.1 s.2.2.2.2.1 s.2.2.2.2.2.1 s.2.2.2.2.2.2.1 s.2.2.2.2.2.2.2.1 s.2.2.2.2.2.2.2.2.1 = some true) ?_ ?_
         ·rintro ⟨e5, rows2, f5, x3, y3, is3, also3, p5, q3, v18, v19⟩ h
          replace h : law02zGmemScriptJ5 i2 (law02zGmemScriptL4 l calls mem1 nf4) e5 rows2 f5 x3 y3 is3 also3 p5 q3 = some true := h
          unfold law02zGmemScriptJ5 at h
          refine Tk_seq (Tk_region (Tops_step rfl (OpT_move rfl rfl rfl rfl) ?_))
          refine Tops_step rfl (OpT_move rfl rfl rfl rfl) ?_
          refine Tops_step rfl (OpT_bin rfl rfl rfl rfl rfl (bin_neq_u64 (a := x3) (b := y3))) ?_
          refine Tops_step rfl (OpT_move rfl rfl rfl rfl) ?_
          obtain ⟨hg34, h⟩ := chk_e h
          replace hg34 := not_t hg34
          refine Tops_yes rfl rfl (congrArg (fun b => some (Value.bool b)) hg34) (OpT_move rfl rfl rfl rfl) ?_
          rintro _ rfl
          refine Tops_yes rfl rfl (congrArg (fun b => some (Value.bool b)) hg34) (OpT_move rfl rfl rfl rfl) ?_
          rintro _ rfl
          refine Tops_yes rfl rfl (congrArg (fun b => some (Value.bool b)) hg34) (OpT_bin rfl rfl rfl rfl rfl (bin_neq_i (a := e5) (b := f5))) ?_
          rintro _ rfl
          refine Tops_step rfl (OpT_pickF rfl rfl rfl (congrArg (fun b => some (Value.bool b)) hg34) rfl) ?_
          refine Tops_step rfl (OpT_move rfl rfl rfl rfl) ?_
          obtain ⟨hg35, h⟩ := chk_e h
          replace hg35 := not_t hg35
          refine Tops_yes rfl rfl (congrArg (fun b => some (Value.bool b)) hg35) (OpT_move rfl rfl rfl rfl) ?_
          rintro _ rfl
          refine Tops_yes rfl rfl (congrArg (fun b => some (Value.bool b)) hg35) (OpT_strS rfl rfl rfl rfl Try.underlying38 Try.underlying5 Try.underlying9 (i := 3) rfl) ?_
          rintro _ rfl
          refine Tops_yes rfl rfl (congrArg (fun b => some (Value.bool b)) hg35) (OpT_move rfl rfl rfl rfl) ?_
          rintro _ rfl
          refine Tops_yes rfl rfl (congrArg (fun b => some (Value.bool b)) hg35) (OpT_strS rfl rfl rfl rfl Try.underlying38 Try.underlying5 Try.underlying9 (i := 4) rfl) ?_
          rintro _ rfl
          refine Tops_yes rfl rfl (congrArg (fun b => some (Value.bool b)) hg35) (OpT_bin rfl rfl rfl rfl rfl (bin_neq_s (a := p5) (b := q3))) ?_
          rintro _ rfl
          refine Tops_step rfl (OpT_pickF rfl rfl rfl (congrArg (fun b => some (Value.bool b)) hg35) rfl) ?_
          refine Tops_step rfl (OpT_move rfl rfl rfl rfl) ?_
          obtain ⟨hg36, h⟩ := chk_e h
          replace hg36 := not_t hg36
          refine Tops_yes rfl rfl (congrArg (fun b => some (Value.bool b)) hg36) (OpT_move rfl rfl rfl rfl) ?_
          rintro _ rfl
          refine Tops_yes rfl rfl (congrArg (fun b => some (Value.bool b)) hg36) (OpT_move rfl rfl rfl rfl) ?_
          rintro _ rfl
          refine Tops_yes rfl rfl (congrArg (fun b => some (Value.bool b)) hg36) (OpT_bin rfl rfl rfl rfl rfl (bin_neq_b (a := is3) (b := also3) Try.underlying4)) ?_
          rintro _ rfl
          refine Tops_step rfl (OpT_pickF rfl rfl rfl (congrArg (fun b => some (Value.bool b)) hg36) rfl) ?_
          refine Tops_nil (Tk_wkS (fr' := [(0, some (vl1)), (1, some (vcalls1)), (5, some (.pointer none)), (6, some (vI e5)), (7, some (.pointer (some ⟨b2, 0, none⟩))), (8, some (vI f5)), (9, some (vI i2)), (179, some (vB (is3 != also3)))]) (own' := [some (cellsR b2 67 [v15, v16]), some (rowsX u8S false v16 vs1 rows2 none)]) (shr' := [Fact.sl RegionS vl1 l, Fact.sl dumbwaiterlaw02_ActS vcalls1 calls, Fact.sl RegionS v15 mem1.L]) [0, 1, 5, 6, 7, 8, 9, 179] [0, 1] [0, 1, 2] rfl rfl rfl rfl ?_)
          obtain ⟨hg37, h⟩ := chk_e h
          replace hg37 := not_t hg37
          refine Tk_condF (congrArg (fun b => some (Value.bool b)) hg37) ?_
          refine Tk_skip (Tk_blk (Tk_region (Tops_step rfl (OpT_move rfl rfl rfl rfl) ?_)))
          refine Tops_step rfl (OpT_bin rfl rfl rfl rfl rfl (bin_add_i (a := i2) (b := (1 : Int)))) ?_
          refine Tops_step rfl (OpT_assign rfl rfl rfl rfl) ?_
          refine Tops_nil (Tk_wkS (fr' := [(0, some (vl1)), (1, some (vcalls1)), (5, some (.pointer none)), (6, some (vI e5)), (7, some (.pointer (some ⟨b2, 0, none⟩))), (8, some (vI f5)), (9, some (vI (wi (i2 + (1 : Int)))))]) (own' := [some (cellsR b2 67 [v15, v16]), some (rowsX u8S false v16 vs1 rows2 none)]) (shr' := [Fact.sl RegionS vl1 l, Fact.sl dumbwaiterlaw02_ActS vcalls1 calls, Fact.sl RegionS v15 mem1.L]) [0, 1, 5, 6, 7, 8, 9] [0, 1] [0, 1, 2] rfl rfl rfl rfl ?_)
          exact Tk_backS (e5, rows2, f5, wi (i2 + (1 : Int))) h [0, 1, 5, 6, 7, 8, 9] [0, 1] [0, 1, 2] rfl rfl rfl rfl rfl
         ·intro HJ3
          refine Tk_block (Tk_seq (Tk_region (Tops_step rfl (OpT_bin rfl rfl rfl rfl rfl (bin_eql_i (a := pick2) (b := (0 : Int)))) ?_)))
          refine Tops_step rfl (OpT_assign rfl rfl rfl rfl) ?_
          refine Tops_nil (Tk_wkS (fr' := [(0, some (vl1)), (1, some (vcalls1)), (5, some (.pointer none)), (6, some (vI e4)), (7, some (.pointer (some ⟨b2, 0, none⟩))), (8, some (vI f4)), (9, some (vI i2)), (10, some (.pointer (some ⟨b3, 0, none⟩))), (11, some (vU64 (0 : UInt64))), (12, some (vU64 (0 : UInt64))), (13, some (vB false)), (14, some (vB false)), (15, some (.slice none 0 0)), (16, some (.slice none 0 0)), (73, some (vI pick2)), (86, some (vB (pick2 == (0 : Int))))]) (own' := [some (cellsR b2 67 [v15, v16]), some (rowsX u8S false v16 vs1 rows1 none), some (cellsR b3 40 [vI d2.Kind, vU64 d2.At, vI d2.N, vU64 d2.V, v17])]) (shr' := [Fact.sl RegionS vl1 l, Fact.sl dumbwaiterlaw02_ActS vcalls1 calls, Fact.sl RegionS v15 mem1.L, Fact.sl u8S v17 d2.B]) [0, 1, 5, 6, 7, 8, 9, 10, 11, 12, 13, 14, 15, 16, 73, 86] [0, 1, 2] [0, 1, 2, 3] rfl rfl rfl rfl ?_)
          refine Tk_join (α := Int × (List (List UInt8)) × Int × UInt64 × UInt64 × Bool × Bool × (List UInt8) × (List UInt8) × Value × Value) (fun s => ⟨[(0, some (vl1)), (1, some (vcalls1)), (5, some (.pointer none)), (6, some (vI s.1)), (7, some (.pointer (some ⟨b2, 0, none⟩))), (8, some (vI s.2.2.1)), (9, some (vI i2)), (11, some (vU64 s.2.2.2.1)), (12, some (vU64 s.2.2.2.2.1)), (13, some (vB s.2.2.2.2.2.1)), (14, some (vB s.2.2.2.2.2.2.1)), (15, some (s.2.2.2.2.2.2.2.2.2.1)), (16, some (s.2.2.2.2.2.2.2.2.2.2))], [some (cellsR b2 67 [v15, v16]), some (rowsX u8S false v16 vs1 s.2.1 none)], [Fact.sl RegionS vl1 l, Fact.sl dumbwaiterlaw02_ActS vcalls1 calls, Fact.sl RegionS v15 mem1.L, Fact.sl u8S s.2.2.2.2.2.2.2.2.2.1 s.2.2.2.2.2.2.2.1, Fact.sl u8S s.2.2.2.2.2.2.2.2.2.2 s.2.2.2.2.2.2.2.2.1]⟩) (fun s => law02zGmemScriptJ6 i2 (law02zGmemScriptL4 l calls mem1 nf4) s.1 s.2.1 s.2.2.1 s.2.2.2.1 s.2.2.2.2.1 s.2.2.2.2.2.1 s.2.2.2.2.2.2.1 s.2.2.2.2.2.2.2.1 s.2.2.2.2.2.2.2.2.1 = some true) ?_ ?_
          ·rintro ⟨e6, rows3, f6, x4, y4, is4, also4, p6, q4, v20, v21⟩ h
           replace h : law02zGmemScriptJ6 i2 (law02zGmemScriptL4 l calls mem1 nf4) e6 rows3 f6 x4 y4 is4 also4 p6 q4 = some true := h
           unfold law02zGmemScriptJ6 at h
           refine Tk_blk ?_
           exact Tk_jmpS (HJ3 (e6, rows3, f6, x4, y4, is4, also4, p6, q4, v20, v21) h) [0, 1, 5, 6, 7, 8, 9, 11, 12, 13, 14, 15, 16] [0, 1] [0, 1, 2, 3, 4] rfl rfl rfl rfl
          ·intro HJ4
           rcases Bool.eq_false_or_eq_true (pick2 == (0 : Int)) with hg38 | hg38
           ·replace h := br_t hg38 h
            refine Tk_condT (congrArg (fun b => some (Value.bool b)) hg38) ?_
            refine Tk_seq (Tk_region (Tops_step rfl (OpT_move rfl rfl rfl rfl) ?_))
            refine Tops_step rfl (OpT_fieldC rfl rfl rfl rfl fldF40x1) ?_
            refine Tops_step rfl (OpT_loadC rfl rfl rfl rfl tyF26 (i := 2) rfl rfl) ?_
            refine Tops_step rfl (OpT_fieldC rfl rfl rfl rfl fldF40x2) ?_
            refine Tops_step rfl (OpT_loadC rfl rfl rfl rfl tyF3 (i := 2) rfl rfl) ?_
            obtain ⟨load3, hx34, h⟩ := ob_e h
            refine Tops_exP rfl (OpT_call (w_gmem_Mem_Loadn0 hx34) [] [] rfl rfl rfl rfl rfl callee16 rfl rfl rfl rfl) ?_
            rintro _ ⟨_, _, _, ⟨rfl, rfl, rfl⟩, rfl⟩
            refine Tops_step rfl (OpT_move rfl rfl rfl rfl) ?_
            refine Tops_step rfl (OpT_extract rfl rfl rfl rfl rfl) ?_
            refine Tops_step rfl (OpT_extract rfl rfl rfl rfl rfl) ?_
            refine Tops_step rfl (OpT_assign rfl rfl rfl rfl) ?_
            refine Tops_step rfl (OpT_assign rfl rfl rfl rfl) ?_
            refine Tops_nil (Tk_wkS (fr' := [(0, some (vl1)), (1, some (vcalls1)), (5, some (.pointer none)), (6, some (vI load3.2)), (7, some (.pointer (some ⟨b2, 0, none⟩))), (9, some (vI i2)), (10, some (.pointer (some ⟨b3, 0, none⟩))), (11, some (vU64 load3.1)), (13, some (vB false)), (14, some (vB false)), (15, some (.slice none 0 0)), (16, some (.slice none 0 0))]) (own' := [some (cellsR b2 67 [v15, v16]), some (rowsX u8S false v16 vs1 rows1 none), some (cellsR b3 40 [vI d2.Kind, vU64 d2.At, vI d2.N, vU64 d2.V, v17])]) (shr' := [Fact.sl RegionS vl1 l, Fact.sl dumbwaiterlaw02_ActS vcalls1 calls, Fact.sl RegionS v15 mem1.L, Fact.sl u8S v17 d2.B]) [0, 1, 5, 6, 7, 9, 10, 11, 13, 14, 15, 16] [0, 1, 2] [0, 1, 2, 3] rfl rfl rfl rfl ?_)
            refine Tk_region (Tops_step rfl (OpT_move rfl rfl rfl rfl) ?_)
            refine Tops_step rfl (OpT_fieldC rfl rfl rfl rfl fldF40x1) ?_
            refine Tops_step rfl (OpT_loadC rfl rfl rfl rfl tyF26 (i := 2) rfl rfl) ?_
            refine Tops_step rfl (OpT_fieldC rfl rfl rfl rfl fldF40x2) ?_
            refine Tops_step rfl (OpT_loadC rfl rfl rfl rfl tyF3 (i := 2) rfl rfl) ?_
            obtain ⟨load4, hx35, h⟩ := ob_e h
            refine Tops_exP rfl (OpT_callP [3, 4, 2] (w_ref_Mem_Load02 hx35) [0, 1] [2] rfl rfl rfl rfl rfl callee24 rfl rfl rfl rfl rfl) ?_
            rintro _ ⟨_, _, _, ⟨rfl, rfl, rfl⟩, rfl⟩
            refine Tops_step rfl (OpT_move rfl rfl rfl rfl) ?_
            refine Tops_step rfl (OpT_extract rfl rfl rfl rfl rfl) ?_
            refine Tops_step rfl (OpT_extract rfl rfl rfl rfl rfl) ?_
            refine Tops_step rfl (OpT_assign rfl rfl rfl rfl) ?_
            refine Tops_step rfl (OpT_assign rfl rfl rfl rfl) ?_
            refine Tops_nil (Tk_wkS (fr' := [(0, some (vl1)), (1, some (vcalls1)), (5, some (.pointer none)), (6, some (vI load3.2)), (7, some (.pointer (some ⟨b2, 0, none⟩))), (9, some (vI i2)), (11, some (vU64 load3.1)), (13, some (vB false)), (14, some (vB false)), (15, some (.slice none 0 0)), (16, some (.slice none 0 0)), (12, some (vU64 load4.1)), (8, some (vI load4.2))]) (own' := [some (cellsR b2 67 [v15, v16]), some (rowsX u8S false v16 vs1 rows1 none)]) (shr' := [Fact.sl RegionS vl1 l, Fact.sl dumbwaiterlaw02_ActS vcalls1 calls, Fact.sl RegionS v15 mem1.L]) [0, 1, 5, 6, 7, 9, 11, 13, 14, 15, 16, 12, 8] [0, 1] [0, 1, 2] rfl rfl rfl rfl ?_)
            refine Tk_nilfact u8S ?_
            refine Tk_nilfact u8S ?_
            exact Tk_jmpS (HJ4 (load3.2, rows1, load4.2, load3.1, load4.1, false, false, ([] : List UInt8), ([] : List UInt8), .slice none 0 0, .slice none 0 0) h) [0, 1, 5, 6, 7, 8, 9, 11, 12, 13, 14, 15, 16] [0, 1] [0, 1, 2, 3, 4] rfl rfl rfl rfl
           ·replace h := br_f hg38 h
            refine Tk_condF (congrArg (fun b => some (Value.bool b)) hg38) ?_
            refine Tk_seq (Tk_region (Tops_step rfl (OpT_bin rfl rfl rfl rfl rfl (bin_eql_i (a := pick2) (b := (1 : Int)))) ?_))
            refine Tops_step rfl (OpT_assign rfl rfl rfl rfl) ?_
            refine Tops_nil (Tk_wkS (fr' := [(0, some (vl1)), (1, some (vcalls1)), (5, some (.pointer none)), (6, some (vI e4)), (7, some (.pointer (some ⟨b2, 0, none⟩))), (8, some (vI f4)), (9, some (vI i2)), (10, some (.pointer (some ⟨b3, 0, none⟩))), (11, some (vU64 (0 : UInt64))), (12, some (vU64 (0 : UInt64))), (13, some (vB false)), (14, some (vB false)), (15, some (.slice none 0 0)), (16, some (.slice none 0 0)), (73, some (vI pick2)), (106, some (vB (pick2 == (1 : Int))))]) (own' := [some (cellsR b2 67 [v15, v16]), some (rowsX u8S false v16 vs1 rows1 none), some (cellsR b3 40 [vI d2.Kind, vU64 d2.At, vI d2.N, vU64 d2.V, v17])]) (shr' := [Fact.sl RegionS vl1 l, Fact.sl dumbwaiterlaw02_ActS vcalls1 calls, Fact.sl RegionS v15 mem1.L, Fact.sl u8S v17 d2.B]) [0, 1, 5, 6, 7, 8, 9, 10, 11, 12, 13, 14, 15, 16, 73, 106] [0, 1, 2] [0, 1, 2, 3] rfl rfl rfl rfl ?_)
            rcases Bool.eq_false_or_eq_true (pick2 == (1 : Int)) with hg39 | hg39
            ·replace h := br_t hg39 h
             refine Tk_condT (congrArg (fun b => some (Value.bool b)) hg39) ?_
             refine Tk_drawT (by kernel_rfl) ?_
             refine TA_tb [0, 0, 2, 0, 8, 0, 32, 127, 0, 0, 512, 0, 2048, 0, 8192, 32767, 65535, 131071] (by kernel_rfl) fun htb => ?_
             refine TA_wkS (fr' := [(0, some (vl1)), (1, some (vcalls1)), (5, some (.pointer none)), (7, some (.pointer (some ⟨b2, 0, none⟩))), (9, some (vI i2)), (10, some (.pointer (some ⟨b3, 0, none⟩))), (11, some (vU64 (0 : UInt64))), (12, some (vU64 (0 : UInt64))), (13, some (vB false)), (14, some (vB false)), (15, some (.slice none 0 0)), (16, some (.slice none 0 0))]) (own' := [some (cellsR b2 67 [v15, v16]), some (rowsX u8S false v16 vs1 rows1 none), some (cellsR b3 40 [vI d2.Kind, vU64 d2.At, vI d2.N, vU64 d2.V, v17])]) (shr' := [Fact.sl RegionS vl1 l, Fact.sl dumbwaiterlaw02_ActS vcalls1 calls, Fact.sl RegionS v15 mem1.L, Fact.sl u8S v17 d2.B]) [0, 1, 5, 7, 9, 10, 11, 12, 13, 14, 15, 16] [0, 1, 2] [0, 1, 2, 3] rfl rfl rfl rfl ?_
             obtain ⟨store3, hx36, h⟩ := ob_e h
             refine TA_seg (lo := 0) (hi := 15) htb rfl rfl (by kernel_rfl) (fun c L a w => Sat c ⟨[(0, some (vl1)), (1, some (vcalls1)), (5, some (.pointer none)), (7, some (.pointer (some ⟨b2, 0, none⟩))), (9, some (vI i2)), (10, some (.pointer (some ⟨b3, 0, none⟩))), (11, some (vU64 (0 : UInt64))), (12, some (vU64 (0 : UInt64))), (13, some (vB false)), (14, some (vB false)), (15, some (.slice none 0 0)), (16, some (.slice none 0 0)), (108, bif L 0 then some (.pointer none) else none), (109, bif L 1 then some (.pointer (some ⟨b3, 1, none⟩)) else none), (110, bif L 2 then some (vU64 d2.At) else none), (111, bif L 3 then some (.pointer (some ⟨b3, 2, none⟩)) else none), (112, bif L 4 then some (vI d2.N) else none), (113, bif L 5 then some (.pointer (some ⟨b3, 3, none⟩)) else none), (114, bif L 6 then some (vU64 d2.V) else none), (115, bif L 7 then some (vI store3) else none), (116, bif L 8 then some (.pointer (some ⟨b2, 0, none⟩)) else none), (117, bif L 9 then some (.pointer (some ⟨b3, 1, none⟩)) else none), (118, bif L 10 then some (vU64 d2.At) else none), (119, bif L 11 then some (.pointer (some ⟨b3, 2, none⟩)) else none), (120, bif L 12 then some (vI d2.N) else none), (121, bif L 13 then some (.pointer (some ⟨b3, 3, none⟩)) else none), (122, bif L 14 then some (vU64 d2.V) else none)], [(some (cellsR b2 67 [v15, v16]) : Option Res), (some (rowsX u8S false v16 vs1 rows1 none) : Option Res), (some (cellsR b3 40 [vI d2.Kind, vU64 d2.At, vI d2.N, vU64 d2.V, v17]) : Option Res)], [Fact.sl RegionS vl1 l, Fact.sl dumbwaiterlaw02_ActS vcalls1 calls, Fact.sl RegionS v15 mem1.L, Fact.sl u8S v17 d2.B]⟩ a w) [([], [7]), ([], [2, 7]), ([1], [7]), ([], [4, 7]), ([3], [7]), ([], [6, 7]), ([5], [7]), ([0, 1, 2, 3, 4, 5, 6], []), ([], []), ([], [10]), ([9], []), ([], [12]), ([11], []), ([], [14]), ([13], [])] rfl (by kernel_rfl) ?_ (steps_cons ?_ (steps_cons ?_ (steps_cons ?_ (steps_cons ?_ (steps_cons ?_ (steps_cons ?_ (steps_cons ?_ (steps_cons ?_ (steps_cons ?_ (steps_cons ?_ (steps_cons ?_ (steps_cons ?_ (steps_cons ?_ (steps_cons ?_ (steps_cons ?_ (steps_nil)))))))))))))))) ?_
             ·intro a w hs
              exact hs.startF [108, 109, 110, 111, 112, 113, 114, 115, 116, 117, 118, 119, 120, 121, 122] [0, 1, 2] [0, 1, 2, 3] rfl rfl rfl rfl
             ·intro L a w hv K Q hK
              have hs := hv
              refine wpOp_go rfl rfl hs (OpT_move rfl rfl rfl rfl) ?_
              rintro _ rfl a' w' hs'
              exact hK a' w' (hs'.putF (i := 12) rfl [0, 1, 2] [0, 1, 2, 3] rfl rfl rfl rfl)
             ·intro L a w hv K Q hK
              have hs := hv
              refine wpOp_go rfl rfl hs (OpT_fieldC rfl rfl rfl rfl fldF40x1) ?_
              rintro _ rfl a' w' hs'
              exact hK a' w' (hs'.putF (i := 13) rfl [0, 1, 2] [0, 1, 2, 3] rfl rfl rfl rfl)
             ·intro L a w hv K Q hK
              have hs := hv
              refine wpOp_go rfl rfl hs (OpT_loadC rfl rfl rfl rfl tyF26 (i := 2) rfl rfl) ?_
              rintro _ rfl a' w' hs'
              exact hK a' w' (hs'.putF (i := 14) rfl [0, 1, 2] [0, 1, 2, 3] rfl rfl rfl rfl)
             ·intro L a w hv K Q hK
              have hs := hv
              refine wpOp_go rfl rfl hs (OpT_fieldC rfl rfl rfl rfl fldF40x2) ?_
              rintro _ rfl a' w' hs'
              exact hK a' w' (hs'.putF (i := 15) rfl [0, 1, 2] [0, 1, 2, 3] rfl rfl rfl rfl)
             ·intro L a w hv K Q hK
              have hs := hv
              refine wpOp_go rfl rfl hs (OpT_loadC rfl rfl rfl rfl tyF3 (i := 2) rfl rfl) ?_
              rintro _ rfl a' w' hs'
              exact hK a' w' (hs'.putF (i := 16) rfl [0, 1, 2] [0, 1, 2, 3] rfl rfl rfl rfl)
             ·intro L a w hv K Q hK
              have hs := hv
              refine wpOp_go rfl rfl hs (OpT_fieldC rfl rfl rfl rfl fldF40x3) ?_
              rintro _ rfl a' w' hs'
              exact hK a' w' (hs'.putF (i := 17) rfl [0, 1, 2] [0, 1, 2, 3] rfl rfl rfl rfl)
             ·intro L a w hv K Q hK
              have hs := hv
              refine wpOp_go rfl rfl hs (OpT_loadC rfl rfl rfl rfl tyF26 (i := 2) rfl rfl) ?_
              rintro _ rfl a' w' hs'
              exact hK a' w' (hs'.putF (i := 18) rfl [0, 1, 2] [0, 1, 2, 3] rfl rfl rfl rfl)
             ·intro L a w hv K Q hK
              have hs := hv
              refine wpOp_go rfl rfl hs (OpT_call (w_gmem_Mem_Storen0 hx36) [] [] rfl rfl rfl rfl rfl callee17 rfl rfl rfl rfl) ?_
              rintro _ ⟨_, _, _, ⟨rfl, rfl, rfl⟩, rfl⟩ a' w' hs'
              exact hK a' w' (hs'.putF (i := 19) rfl [0, 1, 2] [0, 1, 2, 3] rfl rfl rfl rfl)
             ·intro L a w hv K Q hK
              have hs := hv
              refine wpOp_go rfl rfl hs (OpT_move rfl rfl rfl rfl) ?_
              rintro _ rfl a' w' hs'
              exact hK a' w' (hs'.putF (i := 20) rfl [0, 1, 2] [0, 1, 2, 3] rfl rfl rfl rfl)
             ·intro L a w hv K Q hK
              have hs := hv
              refine wpOp_go rfl rfl hs (OpT_fieldC rfl rfl rfl rfl fldF40x1) ?_
              rintro _ rfl a' w' hs'
              exact hK a' w' (hs'.putF (i := 21) rfl [0, 1, 2] [0, 1, 2, 3] rfl rfl rfl rfl)
             ·intro L a w hv K Q hK
              have hs := hv
              refine wpOp_go rfl rfl hs (OpT_loadC rfl rfl rfl rfl tyF26 (i := 2) rfl rfl) ?_
              rintro _ rfl a' w' hs'
              exact hK a' w' (hs'.putF (i := 22) rfl [0, 1, 2] [0, 1, 2, 3] rfl rfl rfl rfl)
             ·intro L a w hv K Q hK
              have hs := hv
              refine wpOp_go rfl rfl hs (OpT_fieldC rfl rfl rfl rfl fldF40x2) ?_
              rintro _ rfl a' w' hs'
              exact hK a' w' (hs'.putF (i := 23) rfl [0, 1, 2] [0, 1, 2, 3] rfl rfl rfl rfl)
             ·intro L a w hv K Q hK
              have hs := hv
              refine wpOp_go rfl rfl hs (OpT_loadC rfl rfl rfl rfl tyF3 (i := 2) rfl rfl) ?_
              rintro _ rfl a' w' hs'
              exact hK a' w' (hs'.putF (i := 24) rfl [0, 1, 2] [0, 1, 2, 3] rfl rfl rfl rfl)
             ·intro L a w hv K Q hK
              have hs := hv
              refine wpOp_go rfl rfl hs (OpT_fieldC rfl rfl rfl rfl fldF40x3) ?_
              rintro _ rfl a' w' hs'
              exact hK a' w' (hs'.putF (i := 25) rfl [0, 1, 2] [0, 1, 2, 3] rfl rfl rfl rfl)
             ·intro L a w hv K Q hK
              have hs := hv
              refine wpOp_go rfl rfl hs (OpT_loadC rfl rfl rfl rfl tyF26 (i := 2) rfl rfl) ?_
              rintro _ rfl a' w' hs'
              exact hK a' w' (hs'.putF (i := 26) rfl [0, 1, 2] [0, 1, 2, 3] rfl rfl rfl rfl)
             ·intro L a w hL hv
              rw [allTrue hL] at hv
              have hs := hv
              refine (show TA _ _ _ 15 ⟨[(0, some (vl1)), (1, some (vcalls1)), (5, some (.pointer none)), (7, some (.pointer (some ⟨b2, 0, none⟩))), (9, some (vI i2)), (11, some (vU64 (0 : UInt64))), (12, some (vU64 (0 : UInt64))), (13, some (vB false)), (14, some (vB false)), (15, some (.slice none 0 0)), (16, some (.slice none 0 0)), (115, some (vI store3)), (116, some (.pointer (some ⟨b2, 0, none⟩))), (118, some (vU64 d2.At)), (120, some (vI d2.N)), (122, some (vU64 d2.V))], [some (cellsR b2 67 [v15, v16]), some (rowsX u8S false v16 vs1 rows1 none)], [Fact.sl RegionS vl1 l, Fact.sl dumbwaiterlaw02_ActS vcalls1 calls, Fact.sl RegionS v15 mem1.L]⟩ from ?_) a w (hs.wkS [0, 1, 5, 7, 9, 11, 12, 13, 14, 15, 16, 115, 116, 118, 120, 122] [0, 1] [0, 1, 2] rfl rfl rfl rfl)
              clear hs hL
              obtain ⟨store4, hx37, h⟩ := ob_e h
              refine TA_exP htb (by kernel_rfl) rfl rfl (OpT_callP [2, 3] (w_ref_Mem_Store02 hx37) [0, 1] [2] rfl rfl rfl rfl rfl callee25 rfl rfl rfl rfl rfl) ?_
              rintro _ ⟨_, _, _, ⟨rfl, rfl, rfl⟩, rfl⟩
              refine TA_step htb (by kernel_rfl) rfl rfl (OpT_assign rfl rfl rfl rfl) ?_
              refine TA_step htb (by kernel_rfl) rfl rfl (OpT_assign rfl rfl rfl rfl) ?_
              refine TA_end rfl ?_
              refine Tk_wkS (fr' := [(0, some (vl1)), (1, some (vcalls1)), (5, some (.pointer none)), (7, some (.pointer (some ⟨b2, 0, none⟩))), (9, some (vI i2)), (11, some (vU64 (0 : UInt64))), (12, some (vU64 (0 : UInt64))), (13, some (vB false)), (14, some (vB false)), (15, some (.slice none 0 0)), (16, some (.slice none 0 0)), (6, some (vI store3)), (8, some (vI store4.1))]) (own' := [some (cellsR b2 67 [v15, v16]), some (rowsX u8S false v16 vs1 store4.2 none)]) (shr' := [Fact.sl RegionS vl1 l, Fact.sl dumbwaiterlaw02_ActS vcalls1 calls, Fact.sl RegionS v15 mem1.L]) [0, 1, 5, 7, 9, 11, 12, 13, 14, 15, 16, 6, 8] [0, 1] [0, 1, 2] rfl rfl rfl rfl ?_
              refine Tk_nilfact u8S ?_
              refine Tk_nilfact u8S ?_
              exact Tk_jmpS (HJ4 (store3, store4.2, store4.1, (0 : UInt64), (0 : UInt64), false, false, ([] : List UInt8), ([] : List UInt8), .slice none 0 0, .slice none 0 0) h) [0, 1, 5, 6, 7, 8, 9, 11, 12, 13, 14, 15, 16] [0, 1] [0, 1, 2, 3, 4] rfl rfl rfl rfl
            ·replace h := br_f hg39 h
             refine Tk_condF (congrArg (fun b => some (Value.bool b)) hg39) ?_
             refine Tk_seq (Tk_region (Tops_step rfl (OpT_bin rfl rfl rfl rfl rfl (bin_eql_i (a := pick2) (b := (2 : Int)))) ?_))
             refine Tops_step rfl (OpT_assign rfl rfl rfl rfl) ?_
             refine Tops_nil (Tk_wkS (fr' := [(0, some (vl1)), (1, some (vcalls1)), (5, some (.pointer none)), (6, some (vI e4)), (7, some (.pointer (some ⟨b2, 0, none⟩))), (8, some (vI f4)), (9, some (vI i2)), (10, some (.pointer (some ⟨b3, 0, none⟩))), (11, some (vU64 (0 : UInt64))), (12, some (vU64 (0 : UInt64))), (13, some (vB false)), (14, some (vB false)), (15, some (.slice none 0 0)), (16, some (.slice none 0 0)), (73, some (vI pick2)), (124, some (vB (pick2 == (2 : Int))))]) (own' := [some (cellsR b2 67 [v15, v16]), some (rowsX u8S false v16 vs1 rows1 none), some (cellsR b3 40 [vI d2.Kind, vU64 d2.At, vI d2.N, vU64 d2.V, v17])]) (shr' := [Fact.sl RegionS vl1 l, Fact.sl dumbwaiterlaw02_ActS vcalls1 calls, Fact.sl RegionS v15 mem1.L, Fact.sl u8S v17 d2.B]) [0, 1, 5, 6, 7, 8, 9, 10, 11, 12, 13, 14, 15, 16, 73, 124] [0, 1, 2] [0, 1, 2, 3] rfl rfl rfl rfl ?_)
             rcases Bool.eq_false_or_eq_true (pick2 == (2 : Int)) with hg40 | hg40
             ·replace h := br_t hg40 h
              refine Tk_condT (congrArg (fun b => some (Value.bool b)) hg40) ?_
              refine Tk_seq (Tk_region (Tops_step rfl (OpT_fieldC rfl rfl rfl rfl fldF40x2) ?_))
              refine Tops_step rfl (OpT_loadC rfl rfl rfl rfl tyF3 (i := 2) rfl rfl) ?_
              refine Tops_step rfl (OpT_min_i (u := d2.N) (v := (5000 : Int)) rfl rfl rfl rfl rfl) ?_
              refine Tops_step rfl (OpT_assign rfl rfl rfl rfl) ?_
              refine Tops_nil (Tk_wkS (fr' := [(0, some (vl1)), (1, some (vcalls1)), (5, some (.pointer none)), (7, some (.pointer (some ⟨b2, 0, none⟩))), (9, some (vI i2)), (10, some (.pointer (some ⟨b3, 0, none⟩))), (11, some (vU64 (0 : UInt64))), (12, some (vU64 (0 : UInt64))), (13, some (vB false)), (14, some (vB false)), (17, some (vI (mini d2.N (5000 : Int))))]) (own' := [some (cellsR b2 67 [v15, v16]), some (rowsX u8S false v16 vs1 rows1 none), some (cellsR b3 40 [vI d2.Kind, vU64 d2.At, vI d2.N, vU64 d2.V, v17])]) (shr' := [Fact.sl RegionS vl1 l, Fact.sl dumbwaiterlaw02_ActS vcalls1 calls, Fact.sl RegionS v15 mem1.L, Fact.sl u8S v17 d2.B]) [0, 1, 5, 7, 9, 10, 11, 12, 13, 14, 17] [0, 1, 2] [0, 1, 2, 3] rfl rfl rfl rfl ?_)
              refine Tk_seq (Tk_region (Tops_step rfl (OpT_move rfl rfl rfl rfl) ?_))
              refine Tops_step rfl (OpT_fieldC rfl rfl rfl rfl fldF40x1) ?_
              refine Tops_step rfl (OpT_loadC rfl rfl rfl rfl tyF26 (i := 2) rfl rfl) ?_
              refine Tops_step rfl (OpT_move rfl rfl rfl rfl) ?_
              obtain ⟨read3, hx38, h⟩ := ob_e h
              refine Tops_exP rfl (OpT_call (w_gmem_Mem_Readn0 hx38) [] [] rfl rfl rfl rfl rfl callee22 rfl rfl rfl rfl) ?_
              rintro _ ⟨_, _, _, ⟨v22, rfl, rfl, rfl⟩, rfl⟩
              refine Tops_step rfl (OpT_move rfl rfl rfl rfl) ?_
              refine Tops_step rfl (OpT_extract rfl rfl rfl rfl rfl) ?_
              refine Tops_step rfl (OpT_extract rfl rfl rfl rfl rfl) ?_
              refine Tops_step rfl (OpT_assign rfl rfl rfl rfl) ?_
              refine Tops_step rfl (OpT_assign rfl rfl rfl rfl) ?_
              refine Tops_nil (Tk_wkS (fr' := [(0, some (vl1)), (1, some (vcalls1)), (5, some (.pointer none)), (7, some (.pointer (some ⟨b2, 0, none⟩))), (9, some (vI i2)), (10, some (.pointer (some ⟨b3, 0, none⟩))), (11, some (vU64 (0 : UInt64))), (12, some (vU64 (0 : UInt64))), (13, some (vB false)), (14, some (vB false)), (17, some (vI (mini d2.N (5000 : Int)))), (15, some (v22)), (6, some (vI read3.2))]) (own' := [some (cellsR b2 67 [v15, v16]), some (rowsX u8S false v16 vs1 rows1 none), some (cellsR b3 40 [vI d2.Kind, vU64 d2.At, vI d2.N, vU64 d2.V, v17]), some (rowS u8S v22 read3.1)]) (shr' := [Fact.sl RegionS vl1 l, Fact.sl dumbwaiterlaw02_ActS vcalls1 calls, Fact.sl RegionS v15 mem1.L, Fact.sl u8S v17 d2.B]) [0, 1, 5, 7, 9, 10, 11, 12, 13, 14, 17, 15, 6] [0, 1, 2, 3] [0, 1, 2, 3] rfl rfl rfl rfl ?_)
              refine Tk_region (Tops_step rfl (OpT_move rfl rfl rfl rfl) ?_)
              refine Tops_step rfl (OpT_fieldC rfl rfl rfl rfl fldF40x1) ?_
              refine Tops_step rfl (OpT_loadC rfl rfl rfl rfl tyF26 (i := 2) rfl rfl) ?_
              refine Tops_step rfl (OpT_move rfl rfl rfl rfl) ?_
              obtain ⟨read4, hx39, h⟩ := ob_e h
              refine Tops_exP rfl (OpT_callP [4, 5, 2, 3, 6] (w_ref_Mem_Read02 hx39) [0, 1] [2] rfl rfl rfl rfl rfl callee26 rfl rfl rfl rfl rfl) ?_
              rintro _ ⟨_, _, _, ⟨v23, rfl, rfl, rfl⟩, rfl⟩
              refine Tops_step rfl (OpT_move rfl rfl rfl rfl) ?_
              refine Tops_step rfl (OpT_extract rfl rfl rfl rfl rfl) ?_
              refine Tops_step rfl (OpT_extract rfl rfl rfl rfl rfl) ?_
              refine Tops_step rfl (OpT_assign rfl rfl rfl rfl) ?_
              refine Tops_step rfl (OpT_assign rfl rfl rfl rfl) ?_
              refine Tops_nil (Tk_wkS (fr' := [(0, some (vl1)), (1, some (vcalls1)), (5, some (.pointer none)), (7, some (.pointer (some ⟨b2, 0, none⟩))), (9, some (vI i2)), (11, some (vU64 (0 : UInt64))), (12, some (vU64 (0 : UInt64))), (13, some (vB false)), (14, some (vB false)), (15, some (v22)), (6, some (vI read3.2)), (16, some (v23)), (8, some (vI read4.2))]) (own' := [some (cellsR b2 67 [v15, v16]), some (rowsX u8S false v16 vs1 rows1 none), some (rowS u8S v22 read3.1), some (rowS u8S v23 read4.1)]) (shr' := [Fact.sl RegionS vl1 l, Fact.sl dumbwaiterlaw02_ActS vcalls1 calls, Fact.sl RegionS v15 mem1.L]) [0, 1, 5, 7, 9, 11, 12, 13, 14, 15, 6, 16, 8] [0, 1, 3, 4] [0, 1, 2] rfl rfl rfl rfl ?_)
              refine Tk_retire (i := 2) rfl ?_
              refine Tk_retire (i := 3) rfl ?_
              exact Tk_jmpS (HJ4 (read3.2, rows1, read4.2, (0 : UInt64), (0 : UInt64), false, false, read3.1, read4.1, v22, v23) h) [0, 1, 5, 6, 7, 8, 9, 11, 12, 13, 14, 15, 16] [0, 1] [0, 1, 2, 3, 4] rfl rfl rfl rfl
             ·replace h := br_f hg40 h
              refine Tk_condF (congrArg (fun b => some (Value.bool b)) hg40) ?_
              refine Tk_seq (Tk_region (Tops_step rfl (OpT_bin rfl rfl rfl rfl rfl (bin_eql_i (a := pick2) (b := (3 : Int)))) ?_))
              refine Tops_step rfl (OpT_assign rfl rfl rfl rfl) ?_
              refine Tops_nil (Tk_wkS (fr' := [(0, some (vl1)), (1, some (vcalls1)), (5, some (.pointer none)), (6, some (vI e4)), (7, some (.pointer (some ⟨b2, 0, none⟩))), (8, some (vI f4)), (9, some (vI i2)), (10, some (.pointer (some ⟨b3, 0, none⟩))), (11, some (vU64 (0 : UInt64))), (12, some (vU64 (0 : UInt64))), (13, some (vB false)), (14, some (vB false)), (15, some (.slice none 0 0)), (16, some (.slice none 0 0)), (145, some (vB (pick2 == (3 : Int))))]) (own' := [some (cellsR b2 67 [v15, v16]), some (rowsX u8S false v16 vs1 rows1 none), some (cellsR b3 40 [vI d2.Kind, vU64 d2.At, vI d2.N, vU64 d2.V, v17])]) (shr' := [Fact.sl RegionS vl1 l, Fact.sl dumbwaiterlaw02_ActS vcalls1 calls, Fact.sl RegionS v15 mem1.L, Fact.sl u8S v17 d2.B]) [0, 1, 5, 6, 7, 8, 9, 10, 11, 12, 13, 14, 15, 16, 145] [0, 1, 2] [0, 1, 2, 3] rfl rfl rfl rfl ?_)
              rcases Bool.eq_false_or_eq_true (pick2 == (3 : Int)) with hg41 | hg41
              ·replace h := br_t hg41 h
               refine Tk_condT (congrArg (fun b => some (Value.bool b)) hg41) ?_
               refine Tk_drawT (by kernel_rfl) ?_
               refine TA_tb [0, 0, 2, 0, 8, 24, 63, 0, 0, 256, 0, 1024, 4095, 8191, 16383] (by kernel_rfl) fun htb => ?_
               refine TA_wkS (fr' := [(0, some (vl1)), (1, some (vcalls1)), (5, some (.pointer none)), (7, some (.pointer (some ⟨b2, 0, none⟩))), (9, some (vI i2)), (10, some (.pointer (some ⟨b3, 0, none⟩))), (11, some (vU64 (0 : UInt64))), (12, some (vU64 (0 : UInt64))), (13, some (vB false)), (14, some (vB false)), (15, some (.slice none 0 0)), (16, some (.slice none 0 0))]) (own' := [some (cellsR b2 67 [v15, v16]), some (rowsX u8S false v16 vs1 rows1 none), some (cellsR b3 40 [vI d2.Kind, vU64 d2.At, vI d2.N, vU64 d2.V, v17])]) (shr' := [Fact.sl RegionS vl1 l, Fact.sl dumbwaiterlaw02_ActS vcalls1 calls, Fact.sl RegionS v15 mem1.L, Fact.sl u8S v17 d2.B]) [0, 1, 5, 7, 9, 10, 11, 12, 13, 14, 15, 16] [0, 1, 2] [0, 1, 2, 3] rfl rfl rfl rfl ?_
               obtain ⟨own2, hx40, h⟩ := ob_e h
               obtain ⟨write3, hx41, h⟩ := ob_e h
               refine TA_seg (lo := 0) (hi := 12) htb rfl rfl (by kernel_rfl) (fun c L a w => ∃ (v24 : Value), Sat c ⟨[(0, some (vl1)), (1, some (vcalls1)), (5, some (.pointer none)), (7, some (.pointer (some ⟨b2, 0, none⟩))), (9, some (vI i2)), (10, some (.pointer (some ⟨b3, 0, none⟩))), (11, some (vU64 (0 : UInt64))), (12, some (vU64 (0 : UInt64))), (13, some (vB false)), (14, some (vB false)), (15, some (.slice none 0 0)), (16, some (.slice none 0 0)), (147, bif L 0 then some (.pointer none) else none), (148, bif L 1 then some (.pointer (some ⟨b3, 1, none⟩)) else none), (149, bif L 2 then some (vU64 d2.At) else none), (150, bif L 3 then some (.pointer (some ⟨b3, 4, none⟩)) else none), (151, bif L 4 then some (v17) else none), (152, bif L 5 then some (v24) else none), (153, bif L 6 then some (vI write3) else none), (154, bif L 7 then some (.pointer (some ⟨b2, 0, none⟩)) else none), (155, bif L 8 then some (.pointer (some ⟨b3, 1, none⟩)) else none), (156, bif L 9 then some (vU64 d2.At) else none), (157, bif L 10 then some (.pointer (some ⟨b3, 4, none⟩)) else none), (158, bif L 11 then some (v17) else none)], [(some (cellsR b2 67 [v15, v16]) : Option Res), (some (rowsX u8S false v16 vs1 rows1 none) : Option Res), (some (cellsR b3 40 [vI d2.Kind, vU64 d2.At, vI d2.N, vU64 d2.V, v17]) : Option Res)], [Fact.sl RegionS vl1 l, Fact.sl dumbwaiterlaw02_ActS vcalls1 calls, Fact.sl RegionS v15 mem1.L, Fact.sl u8S v17 d2.B, (bif L 5 then Fact.sl u8S v24 own2 else Fact.tt)]⟩ a w) [([], [6]), ([], [2, 6]), ([1], [6]), ([], [4, 5, 6]), ([3], [5, 6]), ([3, 4], [6]), ([0, 1, 2, 3, 4, 5], []), ([], []), ([], [9]), ([8], []), ([], [11]), ([10], [])] rfl (by kernel_rfl) ?_ (steps_cons ?_ (steps_cons ?_ (steps_cons ?_ (steps_cons ?_ (steps_cons ?_ (steps_cons ?_ (steps_cons ?_ (steps_cons ?_ (steps_cons ?_ (steps_cons ?_ (steps_cons ?_ (steps_cons ?_ (steps_nil))))))))))))) ?_
               ·intro a w hs
                exact ⟨undef, hs.startF [147, 148, 149, 150, 151, 152, 153, 154, 155, 156, 157, 158] [0, 1, 2] [0, 1, 2, 3, 4] rfl rfl rfl rfl⟩
               ·intro L a w hv K Q hK
                obtain ⟨v24, hs⟩ := hv
                refine wpOp_go rfl rfl hs (OpT_move rfl rfl rfl rfl) ?_
                rintro _ rfl a' w' hs'
                exact hK a' w' ⟨v24, hs'.putF (i := 12) rfl [0, 1, 2] [0, 1, 2, 3, 4] rfl rfl rfl rfl⟩
               ·intro L a w hv K Q hK
                obtain ⟨v24, hs⟩ := hv
                refine wpOp_go rfl rfl hs (OpT_fieldC rfl rfl rfl rfl fldF40x1) ?_
                rintro _ rfl a' w' hs'
                exact hK a' w' ⟨v24, hs'.putF (i := 13) rfl [0, 1, 2] [0, 1, 2, 3, 4] rfl rfl rfl rfl⟩
               ·intro L a w hv K Q hK
                obtain ⟨v24, hs⟩ := hv
                refine wpOp_go rfl rfl hs (OpT_loadC rfl rfl rfl rfl tyF26 (i := 2) rfl rfl) ?_
                rintro _ rfl a' w' hs'
                exact hK a' w' ⟨v24, hs'.putF (i := 14) rfl [0, 1, 2] [0, 1, 2, 3, 4] rfl rfl rfl rfl⟩
               ·intro L a w hv K Q hK
                obtain ⟨v24, hs⟩ := hv
                refine wpOp_go rfl rfl hs (OpT_fieldC rfl rfl rfl rfl fldF40x4) ?_
                rintro _ rfl a' w' hs'
                exact hK a' w' ⟨v24, hs'.putF (i := 15) rfl [0, 1, 2] [0, 1, 2, 3, 4] rfl rfl rfl rfl⟩
               ·intro L a w hv K Q hK
                obtain ⟨v24, hs⟩ := hv
                refine wpOp_go rfl rfl hs (OpT_loadC rfl rfl rfl rfl tyF38 (i := 2) rfl rfl) ?_
                rintro _ rfl a' w' hs'
                exact hK a' w' ⟨v24, hs'.putF (i := 16) rfl [0, 1, 2] [0, 1, 2, 3, 4] rfl rfl rfl rfl⟩
               ·intro L a w hv K Q hK
                obtain ⟨v24, hs⟩ := hv
                refine wpOp_go rfl rfl hs (OpT_call (ws_kit_Own hx40) [] [3] rfl rfl rfl rfl rfl callee19 rfl rfl rfl rfl) ?_
                rintro _ ⟨v24', _, _, ⟨_, rfl, rfl, rfl⟩, rfl⟩ a' w' hs'
                exact hK a' w' ⟨v24', hs'.putF (i := 17) rfl [0, 1, 2] [0, 1, 2, 3, 5] rfl rfl rfl rfl⟩
               ·intro L a w hv K Q hK
                obtain ⟨v24, hs⟩ := hv
                refine wpOp_go rfl rfl hs (OpT_call (w_gmem_Mem_Writen0 hx41) [] [4] rfl rfl rfl rfl rfl callee18 rfl rfl rfl rfl) ?_
                rintro _ ⟨_, _, _, ⟨rfl, rfl, rfl⟩, rfl⟩ a' w' hs'
                exact hK a' w' ⟨v24, hs'.putF (i := 18) rfl [0, 1, 2] [0, 1, 2, 3, 4] rfl rfl rfl rfl⟩
               ·intro L a w hv K Q hK
                obtain ⟨v24, hs⟩ := hv
                refine wpOp_go rfl rfl hs (OpT_move rfl rfl rfl rfl) ?_
                rintro _ rfl a' w' hs'
                exact hK a' w' ⟨v24, hs'.putF (i := 19) rfl [0, 1, 2] [0, 1, 2, 3, 4] rfl rfl rfl rfl⟩
               ·intro L a w hv K Q hK
                obtain ⟨v24, hs⟩ := hv
                refine wpOp_go rfl rfl hs (OpT_fieldC rfl rfl rfl rfl fldF40x1) ?_
                rintro _ rfl a' w' hs'
                exact hK a' w' ⟨v24, hs'.putF (i := 20) rfl [0, 1, 2] [0, 1, 2, 3, 4] rfl rfl rfl rfl⟩
               ·intro L a w hv K Q hK
                obtain ⟨v24, hs⟩ := hv
                refine wpOp_go rfl rfl hs (OpT_loadC rfl rfl rfl rfl tyF26 (i := 2) rfl rfl) ?_
                rintro _ rfl a' w' hs'
                exact hK a' w' ⟨v24, hs'.putF (i := 21) rfl [0, 1, 2] [0, 1, 2, 3, 4] rfl rfl rfl rfl⟩
               ·intro L a w hv K Q hK
                obtain ⟨v24, hs⟩ := hv
                refine wpOp_go rfl rfl hs (OpT_fieldC rfl rfl rfl rfl fldF40x4) ?_
                rintro _ rfl a' w' hs'
                exact hK a' w' ⟨v24, hs'.putF (i := 22) rfl [0, 1, 2] [0, 1, 2, 3, 4] rfl rfl rfl rfl⟩
               ·intro L a w hv K Q hK
                obtain ⟨v24, hs⟩ := hv
                refine wpOp_go rfl rfl hs (OpT_loadC rfl rfl rfl rfl tyF38 (i := 2) rfl rfl) ?_
                rintro _ rfl a' w' hs'
                exact hK a' w' ⟨v24, hs'.putF (i := 23) rfl [0, 1, 2] [0, 1, 2, 3, 4] rfl rfl rfl rfl⟩
               ·intro L a w hL hv
                rw [allTrue hL] at hv
                obtain ⟨v24, hs⟩ := hv
                refine (show TA _ _ _ 12 ⟨[(0, some (vl1)), (1, some (vcalls1)), (5, some (.pointer none)), (7, some (.pointer (some ⟨b2, 0, none⟩))), (9, some (vI i2)), (11, some (vU64 (0 : UInt64))), (12, some (vU64 (0 : UInt64))), (13, some (vB false)), (14, some (vB false)), (15, some (.slice none 0 0)), (16, some (.slice none 0 0)), (153, some (vI write3)), (154, some (.pointer (some ⟨b2, 0, none⟩))), (156, some (vU64 d2.At)), (158, some (v17))], [some (cellsR b2 67 [v15, v16]), some (rowsX u8S false v16 vs1 rows1 none)], [Fact.sl RegionS vl1 l, Fact.sl dumbwaiterlaw02_ActS vcalls1 calls, Fact.sl RegionS v15 mem1.L, Fact.sl u8S v17 d2.B]⟩ from ?_) a w (hs.wkS [0, 1, 5, 7, 9, 11, 12, 13, 14, 15, 16, 153, 154, 156, 158] [0, 1] [0, 1, 2, 3] rfl rfl rfl rfl)
                clear hs hL
                obtain ⟨write4, hx42, h⟩ := ob_e h
                refine TA_exP htb (by kernel_rfl) rfl rfl (OpT_callP [2, 3] (w_ref_Mem_Write02 hx42) [0, 1] [2, 3] rfl rfl rfl rfl rfl callee27 rfl rfl rfl rfl rfl) ?_
                rintro _ ⟨_, _, _, ⟨rfl, rfl, rfl⟩, rfl⟩
                refine TA_step htb (by kernel_rfl) rfl rfl (OpT_assign rfl rfl rfl rfl) ?_
                refine TA_step htb (by kernel_rfl) rfl rfl (OpT_assign rfl rfl rfl rfl) ?_
                refine TA_end rfl ?_
                refine Tk_wkS (fr' := [(0, some (vl1)), (1, some (vcalls1)), (5, some (.pointer none)), (7, some (.pointer (some ⟨b2, 0, none⟩))), (9, some (vI i2)), (11, some (vU64 (0 : UInt64))), (12, some (vU64 (0 : UInt64))), (13, some (vB false)), (14, some (vB false)), (15, some (.slice none 0 0)), (16, some (.slice none 0 0)), (6, some (vI write3)), (8, some (vI write4.1))]) (own' := [some (cellsR b2 67 [v15, v16]), some (rowsX u8S false v16 vs1 write4.2 none)]) (shr' := [Fact.sl RegionS vl1 l, Fact.sl dumbwaiterlaw02_ActS vcalls1 calls, Fact.sl RegionS v15 mem1.L]) [0, 1, 5, 7, 9, 11, 12, 13, 14, 15, 16, 6, 8] [0, 1] [0, 1, 2] rfl rfl rfl rfl ?_
                refine Tk_nilfact u8S ?_
                refine Tk_nilfact u8S ?_
                exact Tk_jmpS (HJ4 (write3, write4.2, write4.1, (0 : UInt64), (0 : UInt64), false, false, ([] : List UInt8), ([] : List UInt8), .slice none 0 0, .slice none 0 0) h) [0, 1, 5, 6, 7, 8, 9, 11, 12, 13, 14, 15, 16] [0, 1] [0, 1, 2, 3, 4] rfl rfl rfl rfl
              ·replace h := br_f hg41 h
               refine Tk_condF (congrArg (fun b => some (Value.bool b)) hg41) ?_
               refine Tk_drawT (by kernel_rfl) ?_
               refine TA_tb [0, 0, 2, 0, 8, 31, 0, 0, 128, 0, 512, 2047, 4095, 8191] (by kernel_rfl) fun htb => ?_
               refine TA_wkS (fr' := [(0, some (vl1)), (1, some (vcalls1)), (5, some (.pointer none)), (6, some (vI e4)), (7, some (.pointer (some ⟨b2, 0, none⟩))), (8, some (vI f4)), (9, some (vI i2)), (10, some (.pointer (some ⟨b3, 0, none⟩))), (11, some (vU64 (0 : UInt64))), (12, some (vU64 (0 : UInt64))), (15, some (.slice none 0 0)), (16, some (.slice none 0 0))]) (own' := [some (cellsR b2 67 [v15, v16]), some (rowsX u8S false v16 vs1 rows1 none), some (cellsR b3 40 [vI d2.Kind, vU64 d2.At, vI d2.N, vU64 d2.V, v17])]) (shr' := [Fact.sl RegionS vl1 l, Fact.sl dumbwaiterlaw02_ActS vcalls1 calls, Fact.sl RegionS v15 mem1.L, Fact.sl u8S v17 d2.B]) [0, 1, 5, 6, 7, 8, 9, 10, 11, 12, 15, 16] [0, 1, 2] [0, 1, 2, 3] rfl rfl rfl rfl ?_
               obtain ⟨has3, hx43, h⟩ := ob_e h
               refine TA_seg (lo := 0) (hi := 11) htb rfl rfl (by kernel_rfl) (fun c L a w => Sat c ⟨[(0, some (vl1)), (1, some (vcalls1)), (5, some (.pointer none)), (6, some (vI e4)), (7, some (.pointer (some ⟨b2, 0, none⟩))), (8, some (vI f4)), (9, some (vI i2)), (10, some (.pointer (some ⟨b3, 0, none⟩))), (11, some (vU64 (0 : UInt64))), (12, some (vU64 (0 : UInt64))), (15, some (.slice none 0 0)), (16, some (.slice none 0 0)), (74, bif L 0 then some (.pointer none) else none), (75, bif L 1 then some (.pointer (some ⟨b3, 1, none⟩)) else none), (76, bif L 2 then some (vU64 d2.At) else none), (77, bif L 3 then some (.pointer (some ⟨b3, 3, none⟩)) else none), (78, bif L 4 then some (vU64 d2.V) else none), (79, bif L 5 then some (vB has3) else none), (80, bif L 6 then some (.pointer (some ⟨b2, 0, none⟩)) else none), (81, bif L 7 then some (.pointer (some ⟨b3, 1, none⟩)) else none), (82, bif L 8 then some (vU64 d2.At) else none), (83, bif L 9 then some (.pointer (some ⟨b3, 3, none⟩)) else none), (84, bif L 10 then some (vU64 d2.V) else none)], [(some (cellsR b2 67 [v15, v16]) : Option Res), (some (rowsX u8S false v16 vs1 rows1 none) : Option Res), (some (cellsR b3 40 [vI d2.Kind, vU64 d2.At, vI d2.N, vU64 d2.V, v17]) : Option Res)], [Fact.sl RegionS vl1 l, Fact.sl dumbwaiterlaw02_ActS vcalls1 calls, Fact.sl RegionS v15 mem1.L, Fact.sl u8S v17 d2.B]⟩ a w) [([], [5]), ([], [2, 5]), ([1], [5]), ([], [4, 5]), ([3], [5]), ([0, 1, 2, 3, 4], []), ([], []), ([], [8]), ([7], []), ([], [10]), ([9], [])] rfl (by kernel_rfl) ?_ (steps_cons ?_ (steps_cons ?_ (steps_cons ?_ (steps_cons ?_ (steps_cons ?_ (steps_cons ?_ (steps_cons ?_ (steps_cons ?_ (steps_cons ?_ (steps_cons ?_ (steps_cons ?_ (steps_nil)))))))))))) ?_
               ·intro a w hs
                exact hs.startF [74, 75, 76, 77, 78, 79, 80, 81, 82, 83, 84] [0, 1, 2] [0, 1, 2, 3] rfl rfl rfl rfl
               ·intro L a w hv K Q hK
                have hs := hv
                refine wpOp_go rfl rfl hs (OpT_move rfl rfl rfl rfl) ?_
                rintro _ rfl a' w' hs'
                exact hK a' w' (hs'.putF (i := 12) rfl [0, 1, 2] [0, 1, 2, 3] rfl rfl rfl rfl)
               ·intro L a w hv K Q hK
                have hs := hv
                refine wpOp_go rfl rfl hs (OpT_fieldC rfl rfl rfl rfl fldF40x1) ?_
                rintro _ rfl a' w' hs'
                exact hK a' w' (hs'.putF (i := 13) rfl [0, 1, 2] [0, 1, 2, 3] rfl rfl rfl rfl)
               ·intro L a w hv K Q hK
                have hs := hv
                refine wpOp_go rfl rfl hs (OpT_loadC rfl rfl rfl rfl tyF26 (i := 2) rfl rfl) ?_
                rintro _ rfl a' w' hs'
                exact hK a' w' (hs'.putF (i := 14) rfl [0, 1, 2] [0, 1, 2, 3] rfl rfl rfl rfl)
               ·intro L a w hv K Q hK
                have hs := hv
                refine wpOp_go rfl rfl hs (OpT_fieldC rfl rfl rfl rfl fldF40x3) ?_
                rintro _ rfl a' w' hs'
                exact hK a' w' (hs'.putF (i := 15) rfl [0, 1, 2] [0, 1, 2, 3] rfl rfl rfl rfl)
               ·intro L a w hv K Q hK
                have hs := hv
                refine wpOp_go rfl rfl hs (OpT_loadC rfl rfl rfl rfl tyF26 (i := 2) rfl rfl) ?_
                rintro _ rfl a' w' hs'
                exact hK a' w' (hs'.putF (i := 16) rfl [0, 1, 2] [0, 1, 2, 3] rfl rfl rfl rfl)
               ·intro L a w hv K Q hK
                have hs := hv
                refine wpOp_go rfl rfl hs (OpT_call (w_gmem_Mem_Hasn0 hx43) [] [] rfl rfl rfl rfl rfl callee20 rfl rfl rfl rfl) ?_
                rintro _ ⟨_, _, _, ⟨rfl, rfl, rfl⟩, rfl⟩ a' w' hs'
                exact hK a' w' (hs'.putF (i := 17) rfl [0, 1, 2] [0, 1, 2, 3] rfl rfl rfl rfl)
               ·intro L a w hv K Q hK
                have hs := hv
                refine wpOp_go rfl rfl hs (OpT_move rfl rfl rfl rfl) ?_
                rintro _ rfl a' w' hs'
                exact hK a' w' (hs'.putF (i := 18) rfl [0, 1, 2] [0, 1, 2, 3] rfl rfl rfl rfl)
               ·intro L a w hv K Q hK
                have hs := hv
                refine wpOp_go rfl rfl hs (OpT_fieldC rfl rfl rfl rfl fldF40x1) ?_
                rintro _ rfl a' w' hs'
                exact hK a' w' (hs'.putF (i := 19) rfl [0, 1, 2] [0, 1, 2, 3] rfl rfl rfl rfl)
               ·intro L a w hv K Q hK
                have hs := hv
                refine wpOp_go rfl rfl hs (OpT_loadC rfl rfl rfl rfl tyF26 (i := 2) rfl rfl) ?_
                rintro _ rfl a' w' hs'
                exact hK a' w' (hs'.putF (i := 20) rfl [0, 1, 2] [0, 1, 2, 3] rfl rfl rfl rfl)
               ·intro L a w hv K Q hK
                have hs := hv
                refine wpOp_go rfl rfl hs (OpT_fieldC rfl rfl rfl rfl fldF40x3) ?_
                rintro _ rfl a' w' hs'
                exact hK a' w' (hs'.putF (i := 21) rfl [0, 1, 2] [0, 1, 2, 3] rfl rfl rfl rfl)
               ·intro L a w hv K Q hK
                have hs := hv
                refine wpOp_go rfl rfl hs (OpT_loadC rfl rfl rfl rfl tyF26 (i := 2) rfl rfl) ?_
                rintro _ rfl a' w' hs'
                exact hK a' w' (hs'.putF (i := 22) rfl [0, 1, 2] [0, 1, 2, 3] rfl rfl rfl rfl)
               ·intro L a w hL hv
                rw [allTrue hL] at hv
                have hs := hv
                refine (show TA _ _ _ 11 ⟨[(0, some (vl1)), (1, some (vcalls1)), (5, some (.pointer none)), (6, some (vI e4)), (7, some (.pointer (some ⟨b2, 0, none⟩))), (8, some (vI f4)), (9, some (vI i2)), (11, some (vU64 (0 : UInt64))), (12, some (vU64 (0 : UInt64))), (15, some (.slice none 0 0)), (16, some (.slice none 0 0)), (79, some (vB has3)), (80, some (.pointer (some ⟨b2, 0, none⟩))), (82, some (vU64 d2.At)), (84, some (vU64 d2.V))], [some (cellsR b2 67 [v15, v16]), some (rowsX u8S false v16 vs1 rows1 none)], [Fact.sl RegionS vl1 l, Fact.sl dumbwaiterlaw02_ActS vcalls1 calls, Fact.sl RegionS v15 mem1.L]⟩ from ?_) a w (hs.wkS [0, 1, 5, 6, 7, 8, 9, 11, 12, 15, 16, 79, 80, 82, 84] [0, 1] [0, 1, 2] rfl rfl rfl rfl)
                clear hs hL
                obtain ⟨has4, hx44, h⟩ := ob_e h
                refine TA_exP htb (by kernel_rfl) rfl rfl (OpT_callP [2, 3] (w_ref_Mem_Has02 hx44) [0, 1] [2] rfl rfl rfl rfl rfl callee28 rfl rfl rfl rfl rfl) ?_
                rintro _ ⟨_, _, _, ⟨rfl, rfl, rfl⟩, rfl⟩
                refine TA_step htb (by kernel_rfl) rfl rfl (OpT_assign rfl rfl rfl rfl) ?_
                refine TA_step htb (by kernel_rfl) rfl rfl (OpT_assign rfl rfl rfl rfl) ?_
                refine TA_end rfl ?_
                refine Tk_wkS (fr' := [(0, some (vl1)), (1, some (vcalls1)), (5, some (.pointer none)), (6, some (vI e4)), (7, some (.pointer (some ⟨b2, 0, none⟩))), (8, some (vI f4)), (9, some (vI i2)), (11, some (vU64 (0 : UInt64))), (12, some (vU64 (0 : UInt64))), (15, some (.slice none 0 0)), (16, some (.slice none 0 0)), (13, some (vB has3)), (14, some (vB has4))]) (own' := [some (cellsR b2 67 [v15, v16]), some (rowsX u8S false v16 vs1 rows1 none)]) (shr' := [Fact.sl RegionS vl1 l, Fact.sl dumbwaiterlaw02_ActS vcalls1 calls, Fact.sl RegionS v15 mem1.L]) [0, 1, 5, 6, 7, 8, 9, 11, 12, 15, 16, 13, 14] [0, 1] [0, 1, 2] rfl rfl rfl rfl ?_
                refine Tk_nilfact u8S ?_
                refine Tk_nilfact u8S ?_
                exact Tk_jmpS (HJ4 (e4, rows1, f4, (0 : UInt64), (0 : UInt64), has3, has4, ([] : List UInt8), ([] : List UInt8), .slice none 0 0, .slice none 0 0) h) [0, 1, 5, 6, 7, 8, 9, 11, 12, 13, 14, 15, 16] [0, 1] [0, 1, 2, 3, 4] rfl rfl rfl rfl
        ·replace h := br_f hg33 h
         refine Tk_condF (congrArg (fun b => some (Value.bool b)) hg33) ?_
         refine Tk_exit _ rfl ?_
         refine Tk_seq (Tk_drawT (by kernel_rfl) ?_)
         refine TA_tb [0, 1, 3, 0, 11, 27, 63, 127, 255, 511, 255, 2047, 4095, 8191] (by kernel_rfl) fun htb => ?_
         refine TA_wkS (fr' := [(0, some (vl1)), (5, some (.pointer none)), (7, some (.pointer (some ⟨b2, 0, none⟩)))]) (own' := [some (cellsR b2 67 [v15, v16]), some (rowsX u8S false v16 vs1 rows1 none)]) (shr' := [Fact.sl RegionS vl1 l, Fact.sl RegionS v15 mem1.L]) [0, 5, 7] [0, 1] [0, 2] rfl rfl rfl rfl ?_
         obtain ⟨image3, hx45, h⟩ := ob_e h
         obtain ⟨image4, hx46, h⟩ := ob_e h
         refine TA_seg (lo := 0) (hi := 6) htb rfl rfl (by kernel_rfl) (fun c L a w => ∃ (v25 : Value), ∃ (v26 : Value), Sat c ⟨[(0, some (vl1)), (5, some (.pointer none)), (7, some (.pointer (some ⟨b2, 0, none⟩))), (180, bif L 0 then some (.pointer none) else none), (181, bif L 1 then some (v25) else none), (182, bif L 2 then some (vS image3) else none), (183, bif L 3 then some (.pointer (some ⟨b2, 0, none⟩)) else none), (184, bif L 4 then some (v26) else none), (185, bif L 5 then some (vS image4) else none)], [(some (cellsR b2 67 [v15, v16]) : Option Res), (some (rowsX u8S false v16 vs1 rows1 none) : Option Res)], [Fact.sl RegionS vl1 l, Fact.sl RegionS v15 mem1.L, (bif L 1 then Fact.sl u8S v25 image3 else Fact.tt), (bif L 4 then Fact.sl u8S v26 image4 else Fact.tt)]⟩ a w) [([], [1, 2, 4, 5]), ([0], [2, 4, 5]), ([0, 1], []), ([], [4, 5]), ([0, 1, 3], [5]), ([0, 1, 3, 4], [])] rfl (by kernel_rfl) ?_ (steps_cons ?_ (steps_cons ?_ (steps_cons ?_ (steps_cons ?_ (steps_cons ?_ (steps_cons ?_ (steps_nil))))))) ?_
         ·intro a w hs
          exact ⟨undef, undef, hs.startF [180, 181, 182, 183, 184, 185] [0, 1] [0, 1, 2, 3] rfl rfl rfl rfl⟩
         ·intro L a w hv K Q hK
          obtain ⟨v25, v26, hs⟩ := hv
          refine wpOp_go rfl rfl hs (OpT_move rfl rfl rfl rfl) ?_
          rintro _ rfl a' w' hs'
          exact hK a' w' ⟨v25, v26, hs'.putF (i := 3) rfl [0, 1] [0, 1, 2, 3] rfl rfl rfl rfl⟩
         ·intro L a w hv K Q hK
          obtain ⟨v25, v26, hs⟩ := hv
          refine wpOp_go rfl rfl hs (OpT_call (ws_gmem_Mem_Imagen0 hx45) [] [] rfl rfl rfl rfl rfl callee21 rfl rfl rfl rfl) ?_
          rintro _ ⟨v25', _, _, ⟨_, rfl, rfl, rfl⟩, rfl⟩ a' w' hs'
          exact hK a' w' ⟨v25', v26, hs'.putF (i := 4) rfl [0, 1] [0, 1, 4, 3] rfl rfl rfl rfl⟩
         ·intro L a w hv K Q hK
          obtain ⟨v25, v26, hs⟩ := hv
          refine wpOp_go rfl rfl hs (OpT_strS rfl rfl rfl rfl Try.underlying38 Try.underlying5 Try.underlying9 (i := 2) rfl) ?_
          rintro _ rfl a' w' hs'
          exact hK a' w' ⟨v25, v26, hs'.putF (i := 5) rfl [0, 1] [0, 1, 2, 3] rfl rfl rfl rfl⟩
         ·intro L a w hv K Q hK
          obtain ⟨v25, v26, hs⟩ := hv
          refine wpOp_go rfl rfl hs (OpT_move rfl rfl rfl rfl) ?_
          rintro _ rfl a' w' hs'
          exact hK a' w' ⟨v25, v26, hs'.putF (i := 6) rfl [0, 1] [0, 1, 2, 3] rfl rfl rfl rfl⟩
         ·intro L a w hv K Q hK
          obtain ⟨v25, v26, hs⟩ := hv
          refine wpOp_go rfl rfl hs (OpT_callP [2, 3] (ws_ref_Mem_Image02 hx46) [0, 1] [1] rfl rfl rfl rfl rfl callee29 rfl rfl rfl rfl rfl) ?_
          rintro _ ⟨v26', _, _, ⟨_, rfl, rfl, rfl⟩, rfl⟩ a' w' hs'
          exact hK a' w' ⟨v25, v26', hs'.putF (i := 7) rfl [0, 1] [0, 1, 2, 4] rfl rfl rfl rfl⟩
         ·intro L a w hv K Q hK
          obtain ⟨v25, v26, hs⟩ := hv
          refine wpOp_go rfl rfl hs (OpT_strS rfl rfl rfl rfl Try.underlying38 Try.underlying5 Try.underlying9 (i := 3) rfl) ?_
          rintro _ rfl a' w' hs'
          exact hK a' w' ⟨v25, v26, hs'.putF (i := 8) rfl [0, 1] [0, 1, 2, 3] rfl rfl rfl rfl⟩
         ·intro L a w hL hv
          rw [allTrue hL] at hv
          obtain ⟨v25, v26, hs⟩ := hv
          refine (show TA _ _ _ 6 ⟨[(0, some (vl1)), (5, some (.pointer none)), (182, some (vS image3)), (185, some (vS image4))], [], [Fact.sl RegionS vl1 l]⟩ from ?_) a w (hs.wkS [0, 5, 182, 185] [] [0] rfl rfl rfl rfl)
          clear hs hL
          refine TA_step htb (by kernel_rfl) rfl rfl (OpT_bin rfl rfl rfl rfl rfl (bin_eql_s (a := image3) (b := image4))) ?_
          refine TA_step htb (by kernel_rfl) rfl rfl (OpT_move rfl rfl rfl rfl) ?_
          refine TA_wkS (fr' := [(0, some (vl1)), (5, some (.pointer none)), (187, some (vB (image3 == image4)))]) (own' := []) (shr' := [Fact.sl RegionS vl1 l]) [0, 5, 187] [] [0] rfl rfl rfl rfl ?_
          obtain ⟨hg42, h⟩ := chk_e h
          obtain ⟨region3, hx47, h⟩ := ob_e h
          refine TA_seg (lo := 8) (hi := 11) htb rfl rfl (by kernel_rfl) (fun c L a w => ∃ (v27 : Value), Sat c ⟨[(0, some (vl1)), (5, some (.pointer none)), (187, some (vB (image3 == image4))), (188, bif L 8 then some (.pointer none) else none), (189, bif L 9 then some (v27) else none), (190, bif L 10 then some (vl1) else none)], [], [Fact.sl RegionS vl1 l, (bif L 9 then Fact.sl RegionS v27 region3 else Fact.tt)]⟩ a w) [([], [9]), ([8], []), ([], [])] rfl (by kernel_rfl) ?_ (steps_cons ?_ (steps_cons ?_ (steps_cons ?_ (steps_nil)))) ?_
          ·intro a w hs
           exact ⟨undef, hs.startF [188, 189, 190] [] [0, 1] rfl rfl rfl rfl⟩
          ·intro L a w hv K Q hK
           obtain ⟨v27, hs⟩ := hv
           refine wpOp_yes rfl rfl rfl hs (congrArg (fun b => some (Value.bool b)) hg42) (OpT_move rfl rfl rfl rfl) ?_
           rintro _ rfl a' w' hs'
           exact hK a' w' ⟨v27, hs'.putF (i := 3) rfl [] [0, 1] rfl rfl rfl rfl⟩
          ·intro L a w hv K Q hK
           obtain ⟨v27, hs⟩ := hv
           refine wpOp_yes rfl rfl rfl hs (congrArg (fun b => some (Value.bool b)) hg42) (OpT_call (ws_gmem_Mem_Regionsn0 hx47) [] [] rfl rfl rfl rfl rfl callee31 rfl rfl rfl rfl) ?_
           rintro _ ⟨v27', _, _, ⟨_, rfl, rfl, rfl⟩, rfl⟩ a' w' hs'
           exact hK a' w' ⟨v27', hs'.putF (i := 4) rfl [] [0, 2] rfl rfl rfl rfl⟩
          ·intro L a w hv K Q hK
           obtain ⟨v27, hs⟩ := hv
           refine wpOp_yes rfl rfl rfl hs (congrArg (fun b => some (Value.bool b)) hg42) (OpT_move rfl rfl rfl rfl) ?_
           rintro _ rfl a' w' hs'
           exact hK a' w' ⟨v27, hs'.putF (i := 5) rfl [] [0, 1] rfl rfl rfl rfl⟩
          ·intro L a w hL hv
           rw [allTrue hL] at hv
           obtain ⟨v27, hs⟩ := hv
           refine (show TA _ _ _ 11 ⟨[(187, some (vB (image3 == image4))), (189, some (v27)), (190, some (vl1))], [], [Fact.sl RegionS vl1 l, Fact.sl RegionS v27 region3]⟩ from ?_) a w (hs.wkS [187, 189, 190] [] [0, 1] rfl rfl rfl rfl)
           clear hs hL
           obtain ⟨samere2, hx48, h⟩ := ob_e h
           refine TA_yes htb (by kernel_rfl) rfl rfl rfl (congrArg (fun b => some (Value.bool b)) hg42) (OpT_call (w_kit_SameRegions hx48) [] [1, 0] rfl rfl rfl rfl rfl callee30 rfl rfl rfl rfl) ?_
           rintro _ ⟨_, _, _, ⟨rfl, rfl, rfl⟩, rfl⟩
           refine TA_step htb (by kernel_rfl) rfl rfl (OpT_pickT rfl rfl rfl (congrArg (fun b => some (Value.bool b)) hg42) rfl) ?_
           refine TA_step htb (by kernel_rfl) rfl rfl (OpT_assign rfl rfl rfl rfl) ?_
           refine TA_end rfl ?_
           refine Tk_wkS (fr' := [(4, some (vB samere2))]) (own' := []) (shr' := []) [4] [] [] rfl rfl rfl rfl ?_
           obtain ⟨hg43, h⟩ := chk_e h
           exact Tk_retV rfl rfl (resA (vs := [.bool true]) rfl ⟨(congrArg (fun b => some (Value.bool b)) hg43), trivial⟩) [] [] rfl rfl rfl ⟨rfl, rfl, rfl⟩
   ·refine Tk_optS (i := 0) rfl ho1 ?_
    rintro b4 v28 v29 vs2 rfl
    refine Tk_seq (Tk_region (Tops_step rfl (OpT_move rfl rfl rfl rfl) ?_))
    obtain ⟨new3, hx49, h⟩ := ob_e h
    refine Tops_exP rfl (OpT_call (w_ref_New02 hx49) [] [0] rfl rfl rfl rfl rfl callee23 rfl rfl rfl rfl) ?_
    rintro _ ⟨_, _, _, ⟨v30, rfl, rfl, rfl⟩, rfl⟩
    refine Tops_step rfl (OpT_move rfl rfl rfl rfl) ?_
    refine Tops_step rfl (OpT_extract rfl rfl rfl rfl rfl) ?_
    refine Tops_step rfl (OpT_extract rfl rfl rfl rfl rfl) ?_
    refine Tops_step rfl (OpT_assign rfl rfl rfl rfl) ?_
    refine Tops_step rfl (OpT_assign rfl rfl rfl rfl) ?_
    refine Tops_nil (Tk_wkS (fr' := [(0, some (vl1)), (1, some (vcalls1)), (5, some (.pointer (some ⟨b4, 0, none⟩))), (6, some (vI new1.2)), (7, some (v30)), (8, some (vI new3.2))]) (own' := [some (cellsR b4 62 [v28, v29]), some (rowsX u8S true v29 vs2 mem2.b none), some (optR 67 RegionS u8S false dumbwaiterref02_Mem.L dumbwaiterref02_Mem.B v30 new3.1)]) (shr' := [Fact.sl RegionS vl1 l, Fact.sl dumbwaiterlaw02_ActS vcalls1 calls, Fact.sl RegionS v28 mem2.l]) [0, 1, 5, 6, 7, 8] [0, 1, 2] [0, 1, 2] rfl rfl rfl rfl ?_)
    rcases onO_cases h with ⟨ho3, h⟩ | ⟨mem3, ho3, h⟩
    ·refine Tk_optN (i := 2) rfl ho3 ?_
     rintro rfl
     refine Tk_seq (Tk_seq (Tk_region (Tops_step rfl (OpT_move rfl rfl rfl rfl) ?_)))
     refine Tops_step rfl (OpT_move rfl rfl rfl rfl) ?_
     refine Tops_step rfl (OpT_bin rfl rfl rfl rfl rfl (bin_neq_i (a := new1.2) (b := new3.2))) ?_
     refine Tops_step rfl (OpT_move rfl rfl rfl rfl) ?_
     rcases Bool.eq_false_or_eq_true (new1.2 != new3.2) with hg44 | hg44
     ·replace h := br_t hg44 h
      refine Tops_no rfl rfl (congrArg (fun b => some (Value.bool b)) hg44) rfl rfl ?_
      refine Tops_no rfl rfl (congrArg (fun b => some (Value.bool b)) hg44) rfl rfl ?_
      refine Tops_no rfl rfl (congrArg (fun b => some (Value.bool b)) hg44) rfl rfl ?_
      refine Tops_no rfl rfl (congrArg (fun b => some (Value.bool b)) hg44) rfl rfl ?_
      refine Tops_step rfl (OpT_pickT rfl rfl rfl (congrArg (fun b => some (Value.bool b)) hg44) rfl) ?_
      refine Tops_step rfl (OpT_move rfl rfl rfl rfl) ?_
      refine Tops_no rfl rfl rfl rfl rfl ?_
      refine Tops_no rfl rfl rfl rfl rfl ?_
      refine Tops_step rfl (OpT_pickT rfl rfl rfl rfl rfl) ?_
      refine Tops_nil (Tk_wkS (fr' := [(0, some (vl1)), (1, some (vcalls1)), (5, some (.pointer (some ⟨b4, 0, none⟩))), (6, some (vI new1.2)), (7, some (.pointer none)), (8, some (vI new3.2)), (51, some (vB true))]) (own' := [some (cellsR b4 62 [v28, v29]), some (rowsX u8S true v29 vs2 mem2.b none)]) (shr' := [Fact.sl RegionS vl1 l, Fact.sl dumbwaiterlaw02_ActS vcalls1 calls, Fact.sl RegionS v28 mem2.l]) [0, 1, 5, 6, 7, 8, 51] [0, 1] [0, 1, 2] rfl rfl rfl rfl ?_)
      refine Tk_condT rfl ?_
      refine Tk_seq (Tk_region (Tops_step rfl (OpT_move rfl rfl rfl rfl) ?_))
      refine Tops_step rfl (OpT_move rfl rfl rfl rfl) ?_
      refine Tops_step rfl (OpT_bin rfl rfl rfl rfl rfl (bin_eql_i (a := new1.2) (b := new3.2))) ?_
      refine Tops_step rfl (OpT_move rfl rfl rfl rfl) ?_
      obtain ⟨hg45, h⟩ := chk_e h
      refine Tops_yes rfl rfl (congrArg (fun b => some (Value.bool b)) hg45) (OpT_move rfl rfl rfl rfl) ?_
      rintro _ rfl
      obtain ⟨check9, hx50, h⟩ := ob_e h
      refine Tops_yes rfl rfl (congrArg (fun b => some (Value.bool b)) hg45) (OpT_call (w_gmem_Check hx50) [] [0] rfl rfl rfl rfl rfl callee11 rfl rfl rfl rfl) ?_
      rintro _ ⟨_, _, _, ⟨rfl, rfl, rfl⟩, rfl⟩
      refine Tops_yes rfl rfl (congrArg (fun b => some (Value.bool b)) hg45) (OpT_move rfl rfl rfl rfl) ?_
      rintro _ rfl
      refine Tops_yes rfl rfl (congrArg (fun b => some (Value.bool b)) hg45) (OpT_bin rfl rfl rfl rfl rfl (bin_eql_i (a := check9) (b := new3.2))) ?_
      rintro _ rfl
      refine Tops_step rfl (OpT_pickT rfl rfl rfl (congrArg (fun b => some (Value.bool b)) hg45) rfl) ?_
      refine Tops_step rfl (OpT_assign rfl rfl rfl rfl) ?_
      refine Tops_nil (Tk_wkS (fr' := [(4, some (vB (check9 == new3.2)))]) (own' := []) (shr' := []) [4] [] [] rfl rfl rfl rfl ?_)
      obtain ⟨hg46, h⟩ := chk_e h
      exact Tk_retV rfl rfl (resA (vs := [.bool true]) rfl ⟨(congrArg (fun b => some (Value.bool b)) hg46), trivial⟩) [] [] rfl rfl rfl ⟨rfl, rfl, rfl⟩
     ·replace h := br_f hg44 h
      refine Tops_yes rfl rfl (congrArg (fun b => some (Value.bool b)) hg44) (OpT_move rfl rfl rfl rfl) ?_
      rintro _ rfl
      obtain ⟨check10, hx51, h⟩ := ob_e h
      refine Tops_yes rfl rfl (congrArg (fun b => some (Value.bool b)) hg44) (OpT_call (w_gmem_Check hx51) [] [0] rfl rfl rfl rfl rfl callee11 rfl rfl rfl rfl) ?_
      rintro _ ⟨_, _, _, ⟨rfl, rfl, rfl⟩, rfl⟩
      refine Tops_yes rfl rfl (congrArg (fun b => some (Value.bool b)) hg44) (OpT_move rfl rfl rfl rfl) ?_
      rintro _ rfl
      refine Tops_yes rfl rfl (congrArg (fun b => some (Value.bool b)) hg44) (OpT_bin rfl rfl rfl rfl rfl (bin_neq_i (a := check10) (b := new3.2))) ?_
      rintro _ rfl
      refine Tops_step rfl (OpT_pickF rfl rfl rfl (congrArg (fun b => some (Value.bool b)) hg44) rfl) ?_
      refine Tops_step rfl (OpT_move rfl rfl rfl rfl) ?_
      rcases Bool.eq_false_or_eq_true (check10 != new3.2) with hg47 | hg47
      ·replace h := br_t hg47 h
       refine Tops_no rfl rfl (congrArg (fun b => some (Value.bool b)) hg47) rfl rfl ?_
       refine Tops_no rfl rfl (congrArg (fun b => some (Value.bool b)) hg47) rfl rfl ?_
       refine Tops_step rfl (OpT_pickT rfl rfl rfl (congrArg (fun b => some (Value.bool b)) hg47) rfl) ?_
       refine Tops_nil (Tk_wkS (fr' := [(0, some (vl1)), (1, some (vcalls1)), (5, some (.pointer (some ⟨b4, 0, none⟩))), (6, some (vI new1.2)), (7, some (.pointer none)), (8, some (vI new3.2)), (51, some (vB true))]) (own' := [some (cellsR b4 62 [v28, v29]), some (rowsX u8S true v29 vs2 mem2.b none)]) (shr' := [Fact.sl RegionS vl1 l, Fact.sl dumbwaiterlaw02_ActS vcalls1 calls, Fact.sl RegionS v28 mem2.l]) [0, 1, 5, 6, 7, 8, 51] [0, 1] [0, 1, 2] rfl rfl rfl rfl ?_)
       refine Tk_condT rfl ?_
       refine Tk_seq (Tk_region (Tops_step rfl (OpT_move rfl rfl rfl rfl) ?_))
       refine Tops_step rfl (OpT_move rfl rfl rfl rfl) ?_
       refine Tops_step rfl (OpT_bin rfl rfl rfl rfl rfl (bin_eql_i (a := new1.2) (b := new3.2))) ?_
       refine Tops_step rfl (OpT_move rfl rfl rfl rfl) ?_
       obtain ⟨hg48, h⟩ := chk_e h
       refine Tops_yes rfl rfl (congrArg (fun b => some (Value.bool b)) hg48) (OpT_move rfl rfl rfl rfl) ?_
       rintro _ rfl
       obtain ⟨check11, hx52, h⟩ := ob_e h
       refine Tops_yes rfl rfl (congrArg (fun b => some (Value.bool b)) hg48) (OpT_call (w_gmem_Check hx52) [] [0] rfl rfl rfl rfl rfl callee11 rfl rfl rfl rfl) ?_
       rintro _ ⟨_, _, _, ⟨rfl, rfl, rfl⟩, rfl⟩
       refine Tops_yes rfl rfl (congrArg (fun b => some (Value.bool b)) hg48) (OpT_move rfl rfl rfl rfl) ?_
       rintro _ rfl
       refine Tops_yes rfl rfl (congrArg (fun b => some (Value.bool b)) hg48) (OpT_bin rfl rfl rfl rfl rfl (bin_eql_i (a := check11) (b := new3.2))) ?_
       rintro _ rfl
       refine Tops_step rfl (OpT_pickT rfl rfl rfl (congrArg (fun b => some (Value.bool b)) hg48) rfl) ?_
       refine Tops_step rfl (OpT_assign rfl rfl rfl rfl) ?_
       refine Tops_nil (Tk_wkS (fr' := [(4, some (vB (check11 == new3.2)))]) (own' := []) (shr' := []) [4] [] [] rfl rfl rfl rfl ?_)
       obtain ⟨hg49, h⟩ := chk_e h
       exact Tk_retV rfl rfl (resA (vs := [.bool true]) rfl ⟨(congrArg (fun b => some (Value.bool b)) hg49), trivial⟩) [] [] rfl rfl rfl ⟨rfl, rfl, rfl⟩
      ·replace h := br_f hg47 h
       refine Tops_yes rfl rfl (congrArg (fun b => some (Value.bool b)) hg47) (OpT_move rfl rfl rfl rfl) ?_
       rintro _ rfl
       refine Tops_yes rfl rfl (congrArg (fun b => some (Value.bool b)) hg47) (OpT_bin rfl rfl rfl rfl rfl (bin_neq_i (a := new3.2) (b := (0 : Int)))) ?_
       rintro _ rfl
       refine Tops_step rfl (OpT_pickF rfl rfl rfl (congrArg (fun b => some (Value.bool b)) hg47) rfl) ?_
       refine Tops_nil (Tk_wkS (fr' := [(0, some (vl1)), (1, some (vcalls1)), (5, some (.pointer (some ⟨b4, 0, none⟩))), (6, some (vI new1.2)), (7, some (.pointer none)), (8, some (vI new3.2)), (51, some (vB (new3.2 != (0 : Int))))]) (own' := [some (cellsR b4 62 [v28, v29]), some (rowsX u8S true v29 vs2 mem2.b none)]) (shr' := [Fact.sl RegionS vl1 l, Fact.sl dumbwaiterlaw02_ActS vcalls1 calls, Fact.sl RegionS v28 mem2.l]) [0, 1, 5, 6, 7, 8, 51] [0, 1] [0, 1, 2] rfl rfl rfl rfl ?_)
       rcases Bool.eq_false_or_eq_true (new3.2 != (0 : Int)) with hg50 | hg50
       ·replace h := br_t hg50 h
        refine Tk_condT (congrArg (fun b => some (Value.bool b)) hg50) ?_
        refine Tk_seq (Tk_region (Tops_step rfl (OpT_move rfl rfl rfl rfl) ?_))
        refine Tops_step rfl (OpT_move rfl rfl rfl rfl) ?_
        refine Tops_step rfl (OpT_bin rfl rfl rfl rfl rfl (bin_eql_i (a := new1.2) (b := new3.2))) ?_
        refine Tops_step rfl (OpT_move rfl rfl rfl rfl) ?_
        obtain ⟨hg51, h⟩ := chk_e h
        refine Tops_yes rfl rfl (congrArg (fun b => some (Value.bool b)) hg51) (OpT_move rfl rfl rfl rfl) ?_
        rintro _ rfl
        obtain ⟨check12, hx53, h⟩ := ob_e h
        refine Tops_yes rfl rfl (congrArg (fun b => some (Value.bool b)) hg51) (OpT_call (w_gmem_Check hx53) [] [0] rfl rfl rfl rfl rfl callee11 rfl rfl rfl rfl) ?_
        rintro _ ⟨_, _, _, ⟨rfl, rfl, rfl⟩, rfl⟩
        refine Tops_yes rfl rfl (congrArg (fun b => some (Value.bool b)) hg51) (OpT_move rfl rfl rfl rfl) ?_
        rintro _ rfl
        refine Tops_yes rfl rfl (congrArg (fun b => some (Value.bool b)) hg51) (OpT_bin rfl rfl rfl rfl rfl (bin_eql_i (a := check12) (b := new3.2))) ?_
        rintro _ rfl
        refine Tops_step rfl (OpT_pickT rfl rfl rfl (congrArg (fun b => some (Value.bool b)) hg51) rfl) ?_
        refine Tops_step rfl (OpT_assign rfl rfl rfl rfl) ?_
        refine Tops_nil (Tk_wkS (fr' := [(4, some (vB (check12 == new3.2)))]) (own' := []) (shr' := []) [4] [] [] rfl rfl rfl rfl ?_)
        obtain ⟨hg52, h⟩ := chk_e h
        exact Tk_retV rfl rfl (resA (vs := [.bool true]) rfl ⟨(congrArg (fun b => some (Value.bool b)) hg52), trivial⟩) [] [] rfl rfl rfl ⟨rfl, rfl, rfl⟩
       ·replace h := br_f hg50 h
        refine Tk_condF (congrArg (fun b => some (Value.bool b)) hg50) ?_
        refine Tk_skip (Tk_seq (Tk_seq (Tk_region (Tops_step rfl (OpT_assign rfl rfl rfl rfl) ?_))))
        refine Tops_nil (Tk_wkS (fr' := [(0, some (vl1)), (1, some (vcalls1)), (5, some (.pointer (some ⟨b4, 0, none⟩))), (6, some (vI new1.2)), (7, some (.pointer none)), (8, some (vI new3.2)), (9, some (vI (0 : Int)))]) (own' := [some (cellsR b4 62 [v28, v29]), some (rowsX u8S true v29 vs2 mem2.b none)]) (shr' := [Fact.sl RegionS vl1 l, Fact.sl dumbwaiterlaw02_ActS vcalls1 calls, Fact.sl RegionS v28 mem2.l]) [0, 1, 5, 6, 7, 8, 9] [0, 1] [0, 1, 2] rfl rfl rfl rfl ?_)
        refine Tk_block (Tk_loopS (σ := (List (List UInt8)) × Int × Int × Int) [0, 1, 5, 6, 7, 8, 9] [0, 1] [0, 1, 2] (fun s => ⟨[(0, some (vl1)), (1, some (vcalls1)), (5, some (.pointer (some ⟨b4, 0, none⟩))), (6, some (vI s.2.1)), (7, some (.pointer none)), (8, some (vI s.2.2.1)), (9, some (vI s.2.2.2))], [some (cellsR b4 62 [v28, v29]), some (rowsX u8S true v29 vs2 s.1 none)], [Fact.sl RegionS vl1 l, Fact.sl dumbwaiterlaw02_ActS vcalls1 calls, Fact.sl RegionS v28 mem2.l]⟩) (fun nf7 s => law02zGmemScriptL7 l calls mem2 nf7 s.1 s.2.1 s.2.2.1 s.2.2.2 = some true) fuel (mem2.b, new1.2, new3.2, (0 : Int)) h rfl rfl rfl rfl rfl (fun s h => by cases h) ?_)
        rintro nf7 ⟨rows4, e7, f7, i3⟩ h
        replace h : law02zGmemScriptL7B l calls mem2 (law02zGmemScriptL7 l calls mem2 nf7) rows4 e7 f7 i3 = some true := h
        unfold law02zGmemScriptL7B at h
        refine Tk_seq (Tk_seq (Tk_region (Tops_step rfl (OpT_move rfl rfl rfl rfl) ?_)))
        refine Tops_step rfl (OpT_move rfl rfl rfl rfl) ?_
        refine Tops_step rfl (OpT_lenS rfl rfl rfl rfl Try.underlying23 (i := 1) rfl) ?_
        refine Tops_step rfl (OpT_bin rfl rfl rfl rfl rfl (bin_lss_i (a := i3) (b := len calls))) ?_
        refine Tops_nil (Tk_wkS (fr' := [(0, some (vl1)), (1, some (vcalls1)), (5, some (.pointer (some ⟨b4, 0, none⟩))), (6, some (vI e7)), (7, some (.pointer none)), (8, some (vI f7)), (9, some (vI i3)), (64, some (vB (decide (i3 < (len calls)))))]) (own' := [some (cellsR b4 62 [v28, v29]), some (rowsX u8S true v29 vs2 rows4 none)]) (shr' := [Fact.sl RegionS vl1 l, Fact.sl dumbwaiterlaw02_ActS vcalls1 calls, Fact.sl RegionS v28 mem2.l]) [0, 1, 5, 6, 7, 8, 9, 64] [0, 1] [0, 1, 2] rfl rfl rfl rfl ?_)
        rcases Bool.eq_false_or_eq_true (decide (i3 < (len calls))) with hg53 | hg53
        ·replace h := br_t hg53 h
         refine Tk_condT (congrArg (fun b => some (Value.bool b)) hg53) ?_
         refine Tk_skip (Tk_seq (Tk_block (Tk_seq (Tk_region (Tops_step rfl (OpT_move rfl rfl rfl rfl) ?_)))))
         refine Tops_step rfl (OpT_move rfl rfl rfl rfl) ?_
         obtain ⟨d3, hx54, h⟩ := ob_e h
         refine Tops_ex rfl (OpT_idxS rfl rfl rfl rfl rfl slF23 (i := 1) rfl hx54) fun p7 => ?_
         refine Tops_ex rfl (OpT_loadP1 rfl rfl rfl rfl tyF40 (i := 3) rfl) fun v31 => ?_
         refine Tops_ex rfl (OpT_alloc rfl rfl rfl tyZ40) fun b5 => ?_
         refine Tops_step rfl (OpT_storeA1 (fun z0 => [vI d3.Kind, vU64 d3.At, vI d3.N, vU64 d3.V, z0]) (cs' := [vI d3.Kind, vU64 d3.At, vI d3.N, vU64 d3.V, v31]) rfl rfl rfl rfl tyF40 (i := 2) rfl (is_sl (i := 4) rfl) (fun _ _ _ => rfl) rfl rfl rfl) ?_
         refine Tops_nil (Tk_wkS (fr' := [(0, some (vl1)), (1, some (vcalls1)), (5, some (.pointer (some ⟨b4, 0, none⟩))), (6, some (vI e7)), (7, some (.pointer none)), (8, some (vI f7)), (9, some (vI i3)), (10, some (.pointer (some ⟨b5, 0, none⟩)))]) (own' := [some (cellsR b4 62 [v28, v29]), some (rowsX u8S true v29 vs2 rows4 none), some (cellsR b5 40 [vI d3.Kind, vU64 d3.At, vI d3.N, vU64 d3.V, v31])]) (shr' := [Fact.sl RegionS vl1 l, Fact.sl dumbwaiterlaw02_ActS vcalls1 calls, Fact.sl RegionS v28 mem2.l, Fact.sl u8S v31 d3.B]) [0, 1, 5, 6, 7, 8, 9, 10] [0, 1, 2] [0, 1, 2, 4] rfl rfl rfl rfl ?_)
         refine Tk_seq (Tk_region (Tops_step rfl (OpT_assign rfl rfl rfl rfl) ?_))
         refine Tops_step rfl (OpT_assign rfl rfl rfl rfl) ?_
         refine Tops_step rfl (OpT_assign rfl rfl rfl rfl) ?_
         refine Tops_step rfl (OpT_assign rfl rfl rfl rfl) ?_
         refine Tops_nil (Tk_seq (Tk_region (Tops_step rfl (OpT_assign rfl rfl rfl rfl) ?_)))
         refine Tops_step rfl (OpT_assign rfl rfl rfl rfl) ?_
         refine Tops_nil (Tk_seq (Tk_seq (Tk_region (Tops_step rfl (OpT_fieldC rfl rfl rfl rfl fldF40x0) ?_))))
         refine Tops_step rfl (OpT_loadC rfl rfl rfl rfl tyF3 (i := 2) rfl rfl) ?_
         obtain ⟨pick3, hx55, h⟩ := ob_e h
         refine Tops_exP rfl (OpT_call (w_kit_Pick hx55) [] [] rfl rfl rfl rfl rfl callee15 rfl rfl rfl rfl) ?_
         rintro _ ⟨_, _, _, ⟨rfl, rfl, rfl⟩, rfl⟩
         refine Tops_nil (Tk_wkS (fr' := [(0, some (vl1)), (1, some (vcalls1)), (5, some (.pointer (some ⟨b4, 0, none⟩))), (6, some (vI e7)), (7, some (.pointer none)), (8, some (vI f7)), (9, some (vI i3)), (10, some (.pointer (some ⟨b5, 0, none⟩))), (11, some (vU64 (0 : UInt64))), (12, some (vU64 (0 : UInt64))), (13, some (vB false)), (14, some (vB false)), (15, some (.slice none 0 0)), (16, some (.slice none 0 0)), (73, some (vI pick3))]) (own' := [some (cellsR b4 62 [v28, v29]), some (rowsX u8S true v29 vs2 rows4 none), some (cellsR b5 40 [vI d3.Kind, vU64 d3.At, vI d3.N, vU64 d3.V, v31])]) (shr' := [Fact.sl RegionS vl1 l, Fact.sl dumbwaiterlaw02_ActS vcalls1 calls, Fact.sl RegionS v28 mem2.l, Fact.sl u8S v31 d3.B]) [0, 1, 5, 6, 7, 8, 9, 10, 11, 12, 13, 14, 15, 16, 73] [0, 1, 2] [0, 1, 2, 3] rfl rfl rfl rfl ?_)
         refine Tk_join (α := (List (List UInt8)) × Int × Int × UInt64 × UInt64 × Bool × Bool × (List UInt8) × (List UInt8) × Value × Value) (fun s => ⟨[(0, some (vl1)), (1, some (vcalls1)), (5, some (.pointer (some ⟨b4, 0, none⟩))), (6, some (vI s.2.1)), (7, some (.pointer none)), (8, some (vI s.2.2.1)), (9, some (vI i3)), (11, some (vU64 s.2.2.2.1)), (12, some (vU64 s.2.2.2.2.1)), (13, some (vB s.2.2.2.2.2.1)), (14, some (vB s.2.2.2.2.2.2.1)), (15, some (s.2.2.2.2.2.2.2.2.2.1)), (16, some (s.2.2.2.2.2.2.2.2.2.2))], [some (cellsR b4 62 [v28, v29]), some (rowsX u8S true v29 vs2 s.1 none)], [Fact.sl RegionS vl1 l, Fact.sl dumbwaiterlaw02_ActS vcalls1 calls, Fact.sl RegionS v28 mem2.l, Fact.sl u8S s.2.2.2.2.2.2.2.2.2.1 s.2.2.2.2.2.2.2.1, Fact.sl u8S s.2.2.2.2.2.2.2.2.2.2 s.2.2.2.2.2.2.2.2.1]⟩) (fun s => law02zGmemScriptJ8 i3 (law02zGmemScriptL7 l calls mem2 nf7) s.1 s.2.1 s.2.2.1 s.2.2.2.1 s.2.2.2.2.1 s.2.2.2.2.2.1 s.2.2.2.2.2.2.1 s.2.2.2.2.2.2.2.1 s.2.2.2.2.2.2.2.2.1 = some true) ?_ ?_
         ·rintro ⟨rows5, e8, f8, x5, y5, is5, also5, p8, q5, v32, v33⟩ h
          replace h : law02zGmemScriptJ8 i3 (law02zGmemScriptL7 l calls mem2 nf7) rows5 e8 f8 x5 y5 is5 also5 p8 q5 = some true := h
          unfold law02zGmemScriptJ8 at h
          refine Tk_seq (Tk_region (Tops_step rfl (OpT_move rfl rfl rfl rfl) ?_))
          refine Tops_step rfl (OpT_move rfl rfl rfl rfl) ?_
          refine Tops_step rfl (OpT_bin rfl rfl rfl rfl rfl (bin_neq_u64 (a := x5) (b := y5))) ?_
          refine Tops_step rfl (OpT_move rfl rfl rfl rfl) ?_
          obtain ⟨hg54, h⟩ := chk_e h
          replace hg54 := not_t hg54
          refine Tops_yes rfl rfl (congrArg (fun b => some (Value.bool b)) hg54) (OpT_move rfl rfl rfl rfl) ?_
          rintro _ rfl
          refine Tops_yes rfl rfl (congrArg (fun b => some (Value.bool b)) hg54) (OpT_move rfl rfl rfl rfl) ?_
          rintro _ rfl
          refine Tops_yes rfl rfl (congrArg (fun b => some (Value.bool b)) hg54) (OpT_bin rfl rfl rfl rfl rfl (bin_neq_i (a := e8) (b := f8))) ?_
          rintro _ rfl
          refine Tops_step rfl (OpT_pickF rfl rfl rfl (congrArg (fun b => some (Value.bool b)) hg54) rfl) ?_
          refine Tops_step rfl (OpT_move rfl rfl rfl rfl) ?_
          obtain ⟨hg55, h⟩ := chk_e h
          replace hg55 := not_t hg55
          refine Tops_yes rfl rfl (congrArg (fun b => some (Value.bool b)) hg55) (OpT_move rfl rfl rfl rfl) ?_
          rintro _ rfl
          refine Tops_yes rfl rfl (congrArg (fun b => some (Value.bool b)) hg55) (OpT_strS rfl rfl rfl rfl Try.underlying38 Try.underlying5 Try.underlying9 (i := 3) rfl) ?_
          rintro _ rfl
          refine Tops_yes rfl rfl (congrArg (fun b => some (Value.bool b)) hg55) (OpT_move rfl rfl rfl rfl) ?_
          rintro _ rfl
          refine Tops_yes rfl rfl (congrArg (fun b => some (Value.bool b)) hg55) (OpT_strS rfl rfl rfl rfl Try.underlying38 Try.underlying5 Try.underlying9 (i := 4) rfl) ?_
          rintro _ rfl
          refine Tops_yes rfl rfl (congrArg (fun b => some (Value.bool b)) hg55) (OpT_bin rfl rfl rfl rfl rfl (bin_neq_s (a := p8) (b := q5))) ?_
          rintro _ rfl
          refine Tops_step rfl (OpT_pickF rfl rfl rfl (congrArg (fun b => some (Value.bool b)) hg55) rfl) ?_
          refine Tops_step rfl (OpT_move rfl rfl rfl rfl) ?_
          obtain ⟨hg56, h⟩ := chk_e h
          replace hg56 := not_t hg56
          refine Tops_yes rfl rfl (congrArg (fun b => some (Value.bool b)) hg56) (OpT_move rfl rfl rfl rfl) ?_
          rintro _ rfl
          refine Tops_yes rfl rfl (congrArg (fun b => some (Value.bool b)) hg56) (OpT_move rfl rfl rfl rfl) ?_
          rintro _ rfl
          refine Tops_yes rfl rfl (congrArg (fun b => some (Value.bool b)) hg56) (OpT_bin rfl rfl rfl rfl rfl (bin_neq_b (a := is5) (b := also5) Try.underlying4)) ?_
          rintro _ rfl
          refine Tops_step rfl (OpT_pickF rfl rfl rfl (congrArg (fun b => some (Value.bool b)) hg56) rfl) ?_
          refine Tops_nil (Tk_wkS (fr' := [(0, some (vl1)), (1, some (vcalls1)), (5, some (.pointer (some ⟨b4, 0, none⟩))), (6, some (vI e8)), (7, some (.pointer none)), (8, some (vI f8)), (9, some (vI i3)), (179, some (vB (is5 != also5)))]) (own' := [some (cellsR b4 62 [v28, v29]), some (rowsX u8S true v29 vs2 rows5 none)]) (shr' := [Fact.sl RegionS vl1 l, Fact.sl dumbwaiterlaw02_ActS vcalls1 calls, Fact.sl RegionS v28 mem2.l]) [0, 1, 5, 6, 7, 8, 9, 179] [0, 1] [0, 1, 2] rfl rfl rfl rfl ?_)
          obtain ⟨hg57, h⟩ := chk_e h
          replace hg57 := not_t hg57
          refine Tk_condF (congrArg (fun b => some (Value.bool b)) hg57) ?_
          refine Tk_skip (Tk_blk (Tk_region (Tops_step rfl (OpT_move rfl rfl rfl rfl) ?_)))
          refine Tops_step rfl (OpT_bin rfl rfl rfl rfl rfl (bin_add_i (a := i3) (b := (1 : Int)))) ?_
          refine Tops_step rfl (OpT_assign rfl rfl rfl rfl) ?_
          refine Tops_nil (Tk_wkS (fr' := [(0, some (vl1)), (1, some (vcalls1)), (5, some (.pointer (some ⟨b4, 0, none⟩))), (6, some (vI e8)), (7, some (.pointer none)), (8, some (vI f8)), (9, some (vI (wi (i3 + (1 : Int)))))]) (own' := [some (cellsR b4 62 [v28, v29]), some (rowsX u8S true v29 vs2 rows5 none)]) (shr' := [Fact.sl RegionS vl1 l, Fact.sl dumbwaiterlaw02_ActS vcalls1 calls, Fact.sl RegionS v28 mem2.l]) [0, 1, 5, 6, 7, 8, 9] [0, 1] [0, 1, 2] rfl rfl rfl rfl ?_)
          exact Tk_backS (rows5, e8, f8, wi (i3 + (1 : Int))) h [0, 1, 5, 6, 7, 8, 9] [0, 1] [0, 1, 2] rfl rfl rfl rfl rfl
         ·intro HJ5
          refine Tk_block (Tk_seq (Tk_region (Tops_step rfl (OpT_bin rfl rfl rfl rfl rfl (bin_eql_i (a := pick3) (b := (0 : Int)))) ?_)))
          refine Tops_step rfl (OpT_assign rfl rfl rfl rfl) ?_
          refine Tops_nil (Tk_wkS (fr' := [(0, some (vl1)), (1, some (vcalls1)), (5, some (.pointer (some ⟨b4, 0, none⟩))), (6, some (vI e7)), (7, some (.pointer none)), (8, some (vI f7)), (9, some (vI i3)), (10, some (.pointer (some ⟨b5, 0, none⟩))), (11, some (vU64 (0 : UInt64))), (12, some (vU64 (0 : UInt64))), (13, some (vB false)), (14, some (vB false)), (15, some (.slice none 0 0)), (16, some (.slice none 0 0)), (73, some (vI pick3)), (86, some (vB (pick3 == (0 : Int))))]) (own' := [some (cellsR b4 62 [v28, v29]), some (rowsX u8S true v29 vs2 rows4 none), some (cellsR b5 40 [vI d3.Kind, vU64 d3.At, vI d3.N, vU64 d3.V, v31])]) (shr' := [Fact.sl RegionS vl1 l, Fact.sl dumbwaiterlaw02_ActS vcalls1 calls, Fact.sl RegionS v28 mem2.l, Fact.sl u8S v31 d3.B]) [0, 1, 5, 6, 7, 8, 9, 10, 11, 12, 13, 14, 15, 16, 73, 86] [0, 1, 2] [0, 1, 2, 3] rfl rfl rfl rfl ?_)
          refine Tk_join (α := (List (List UInt8)) × Int × Int × UInt64 × UInt64 × Bool × Bool × (List UInt8) × (List UInt8) × Value × Value) (fun s => ⟨[(0, some (vl1)), (1, some (vcalls1)), (5, some (.pointer (some ⟨b4, 0, none⟩))), (6, some (vI s.2.1)), (7, some (.pointer none)), (8, some (vI s.2.2.1)), (9, some (vI i3)), (11, some (vU64 s.2.2.2.1)), (12, some (vU64 s.2.2.2.2.1)), (13, some (vB s.2.2.2.2.2.1)), (14, some (vB s.2.2.2.2.2.2.1)), (15, some (s.2.2.2.2.2.2.2.2.2.1)), (16, some (s.2.2.2.2.2.2.2.2.2.2))], [some (cellsR b4 62 [v28, v29]), some (rowsX u8S true v29 vs2 s.1 none)], [Fact.sl RegionS vl1 l, Fact.sl dumbwaiterlaw02_ActS vcalls1 calls, Fact.sl RegionS v28 mem2.l, Fact.sl u8S s.2.2.2.2.2.2.2.2.2.1 s.2.2.2.2.2.2.2.1, Fact.sl u8S s.2.2.2.2.2.2.2.2.2.2 s.2.2.2.2.2.2.2.2.1]⟩) (fun s => law02zGmemScriptJ9 i3 (law02zGmemScriptL7 l calls mem2 nf7) s.1 s.2.1 s.2.2.1 s.2.2.2.1 s.2.2.2.2.1 s.2.2.2.2.2.1 s.2.2.2.2.2.2.1 s.2.2.2.2.2.2.2.1 s.2.2.2.2.2.2.2.2.1 = some true) ?_ ?_
          ·rintro ⟨rows6, e9, f9, x6, y6, is6, also6, p9, q6, v34, v35⟩ h
           replace h : law02zGmemScriptJ9 i3 (law02zGmemScriptL7 l calls mem2 nf7) rows6 e9 f9 x6 y6 is6 also6 p9 q6 = some true := h
           unfold law02zGmemScriptJ9 at h
           refine Tk_blk ?_
           exact Tk_jmpS (HJ5 (rows6, e9, f9, x6, y6, is6, also6, p9, q6, v34, v35) h) [0, 1, 5, 6, 7, 8, 9, 11, 12, 13, 14, 15, 16] [0, 1] [0, 1, 2, 3, 4] rfl rfl rfl rfl
          ·intro HJ6
           rcases Bool.eq_false_or_eq_true (pick3 == (0 : Int)) with hg58 | hg58
           ·replace h := br_t hg58 h
            refine Tk_condT (congrArg (fun b => some (Value.bool b)) hg58) ?_
            refine Tk_seq (Tk_region (Tops_step rfl (OpT_move rfl rfl rfl rfl) ?_))
            refine Tops_step rfl (OpT_fieldC rfl rfl rfl rfl fldF40x1) ?_
            refine Tops_step rfl (OpT_loadC rfl rfl rfl rfl tyF26 (i := 2) rfl rfl) ?_
            refine Tops_step rfl (OpT_fieldC rfl rfl rfl rfl fldF40x2) ?_
            refine Tops_step rfl (OpT_loadC rfl rfl rfl rfl tyF3 (i := 2) rfl rfl) ?_
            obtain ⟨load5, hx56, h⟩ := ob_e h
            refine Tops_exP rfl (OpT_callP [3, 4, 2] (w_gmem_Mem_Load hx56) [0, 1] [2] rfl rfl rfl rfl rfl callee16 rfl rfl rfl rfl rfl) ?_
            rintro _ ⟨_, _, _, ⟨rfl, rfl, rfl⟩, rfl⟩
            refine Tops_step rfl (OpT_move rfl rfl rfl rfl) ?_
            refine Tops_step rfl (OpT_extract rfl rfl rfl rfl rfl) ?_
            refine Tops_step rfl (OpT_extract rfl rfl rfl rfl rfl) ?_
            refine Tops_step rfl (OpT_assign rfl rfl rfl rfl) ?_
            refine Tops_step rfl (OpT_assign rfl rfl rfl rfl) ?_
            refine Tops_nil (Tk_wkS (fr' := [(0, some (vl1)), (1, some (vcalls1)), (5, some (.pointer (some ⟨b4, 0, none⟩))), (6, some (vI load5.2)), (7, some (.pointer none)), (9, some (vI i3)), (10, some (.pointer (some ⟨b5, 0, none⟩))), (11, some (vU64 load5.1)), (13, some (vB false)), (14, some (vB false)), (15, some (.slice none 0 0)), (16, some (.slice none 0 0))]) (own' := [some (cellsR b4 62 [v28, v29]), some (rowsX u8S true v29 vs2 rows4 none), some (cellsR b5 40 [vI d3.Kind, vU64 d3.At, vI d3.N, vU64 d3.V, v31])]) (shr' := [Fact.sl RegionS vl1 l, Fact.sl dumbwaiterlaw02_ActS vcalls1 calls, Fact.sl RegionS v28 mem2.l, Fact.sl u8S v31 d3.B]) [0, 1, 5, 6, 7, 9, 10, 11, 13, 14, 15, 16] [0, 1, 2] [0, 1, 2, 3] rfl rfl rfl rfl ?_)
            refine Tk_region (Tops_step rfl (OpT_move rfl rfl rfl rfl) ?_)
            refine Tops_step rfl (OpT_fieldC rfl rfl rfl rfl fldF40x1) ?_
            refine Tops_step rfl (OpT_loadC rfl rfl rfl rfl tyF26 (i := 2) rfl rfl) ?_
            refine Tops_step rfl (OpT_fieldC rfl rfl rfl rfl fldF40x2) ?_
            refine Tops_step rfl (OpT_loadC rfl rfl rfl rfl tyF3 (i := 2) rfl rfl) ?_
            obtain ⟨load6, hx57, h⟩ := ob_e h
            refine Tops_exP rfl (OpT_call (w_ref_Mem_Load02n0 hx57) [] [] rfl rfl rfl rfl rfl callee24 rfl rfl rfl rfl) ?_
            rintro _ ⟨_, _, _, ⟨rfl, rfl, rfl⟩, rfl⟩
            refine Tops_step rfl (OpT_move rfl rfl rfl rfl) ?_
            refine Tops_step rfl (OpT_extract rfl rfl rfl rfl rfl) ?_
            refine Tops_step rfl (OpT_extract rfl rfl rfl rfl rfl) ?_
            refine Tops_step rfl (OpT_assign rfl rfl rfl rfl) ?_
            refine Tops_step rfl (OpT_assign rfl rfl rfl rfl) ?_
            refine Tops_nil (Tk_wkS (fr' := [(0, some (vl1)), (1, some (vcalls1)), (5, some (.pointer (some ⟨b4, 0, none⟩))), (6, some (vI load5.2)), (7, some (.pointer none)), (9, some (vI i3)), (11, some (vU64 load5.1)), (13, some (vB false)), (14, some (vB false)), (15, some (.slice none 0 0)), (16, some (.slice none 0 0)), (12, some (vU64 load6.1)), (8, some (vI load6.2))]) (own' := [some (cellsR b4 62 [v28, v29]), some (rowsX u8S true v29 vs2 rows4 none)]) (shr' := [Fact.sl RegionS vl1 l, Fact.sl dumbwaiterlaw02_ActS vcalls1 calls, Fact.sl RegionS v28 mem2.l]) [0, 1, 5, 6, 7, 9, 11, 13, 14, 15, 16, 12, 8] [0, 1] [0, 1, 2] rfl rfl rfl rfl ?_)
            refine Tk_nilfact u8S ?_
            refine Tk_nilfact u8S ?_
            exact Tk_jmpS (HJ6 (rows4, load5.2, load6.2, load5.1, load6.1, false, false, ([] : List UInt8), ([] : List UInt8), .slice none 0 0, .slice none 0 0) h) [0, 1, 5, 6, 7, 8, 9, 11, 12, 13, 14, 15, 16] [0, 1] [0, 1, 2, 3, 4] rfl rfl rfl rfl
           ·replace h := br_f hg58 h
            refine Tk_condF (congrArg (fun b => some (Value.bool b)) hg58) ?_
            refine Tk_seq (Tk_region (Tops_step rfl (OpT_bin rfl rfl rfl rfl rfl (bin_eql_i (a := pick3) (b := (1 : Int)))) ?_))
            refine Tops_step rfl (OpT_assign rfl rfl rfl rfl) ?_
            refine Tops_nil (Tk_wkS (fr' := [(0, some (vl1)), (1, some (vcalls1)), (5, some (.pointer (some ⟨b4, 0, none⟩))), (6, some (vI e7)), (7, some (.pointer none)), (8, some (vI f7)), (9, some (vI i3)), (10, some (.pointer (some ⟨b5, 0, none⟩))), (11, some (vU64 (0 : UInt64))), (12, some (vU64 (0 : UInt64))), (13, some (vB false)), (14, some (vB false)), (15, some (.slice none 0 0)), (16, some (.slice none 0 0)), (73, some (vI pick3)), (106, some (vB (pick3 == (1 : Int))))]) (own' := [some (cellsR b4 62 [v28, v29]), some (rowsX u8S true v29 vs2 rows4 none), some (cellsR b5 40 [vI d3.Kind, vU64 d3.At, vI d3.N, vU64 d3.V, v31])]) (shr' := [Fact.sl RegionS vl1 l, Fact.sl dumbwaiterlaw02_ActS vcalls1 calls, Fact.sl RegionS v28 mem2.l, Fact.sl u8S v31 d3.B]) [0, 1, 5, 6, 7, 8, 9, 10, 11, 12, 13, 14, 15, 16, 73, 106] [0, 1, 2] [0, 1, 2, 3] rfl rfl rfl rfl ?_)
            rcases Bool.eq_false_or_eq_true (pick3 == (1 : Int)) with hg59 | hg59
            ·replace h := br_t hg59 h
             refine Tk_condT (congrArg (fun b => some (Value.bool b)) hg59) ?_
             refine Tk_drawT (by kernel_rfl) ?_
             refine TA_tb [0, 0, 2, 0, 8, 0, 32, 127, 0, 0, 512, 0, 2048, 0, 8192, 32767, 65535, 131071] (by kernel_rfl) fun htb => ?_
             refine TA_wkS (fr' := [(0, some (vl1)), (1, some (vcalls1)), (5, some (.pointer (some ⟨b4, 0, none⟩))), (7, some (.pointer none)), (9, some (vI i3)), (10, some (.pointer (some ⟨b5, 0, none⟩))), (11, some (vU64 (0 : UInt64))), (12, some (vU64 (0 : UInt64))), (13, some (vB false)), (14, some (vB false)), (15, some (.slice none 0 0)), (16, some (.slice none 0 0))]) (own' := [some (cellsR b4 62 [v28, v29]), some (rowsX u8S true v29 vs2 rows4 none), some (cellsR b5 40 [vI d3.Kind, vU64 d3.At, vI d3.N, vU64 d3.V, v31])]) (shr' := [Fact.sl RegionS vl1 l, Fact.sl dumbwaiterlaw02_ActS vcalls1 calls, Fact.sl RegionS v28 mem2.l, Fact.sl u8S v31 d3.B]) [0, 1, 5, 7, 9, 10, 11, 12, 13, 14, 15, 16] [0, 1, 2] [0, 1, 2, 3] rfl rfl rfl rfl ?_
             obtain ⟨store5, hx58, h⟩ := ob_e h
             refine TA_seg (lo := 0) (hi := 15) htb rfl rfl (by kernel_rfl) (fun c L a w => Sat c ⟨[(0, some (vl1)), (1, some (vcalls1)), (5, some (.pointer (some ⟨b4, 0, none⟩))), (7, some (.pointer none)), (9, some (vI i3)), (10, some (.pointer (some ⟨b5, 0, none⟩))), (11, some (vU64 (0 : UInt64))), (12, some (vU64 (0 : UInt64))), (13, some (vB false)), (14, some (vB false)), (15, some (.slice none 0 0)), (16, some (.slice none 0 0)), (108, bif L 0 then some (.pointer (some ⟨b4, 0, none⟩)) else none), (109, bif L 1 then some (.pointer (some ⟨b5, 1, none⟩)) else none), (110, bif L 2 then some (vU64 d3.At) else none), (111, bif L 3 then some (.pointer (some ⟨b5, 2, none⟩)) else none), (112, bif L 4 then some (vI d3.N) else none), (113, bif L 5 then some (.pointer (some ⟨b5, 3, none⟩)) else none), (114, bif L 6 then some (vU64 d3.V) else none), (115, bif L 7 then some (vI store5.1) else none), (116, bif L 8 then some (.pointer none) else none), (117, bif L 9 then some (.pointer (some ⟨b5, 1, none⟩)) else none), (118, bif L 10 then some (vU64 d3.At) else none), (119, bif L 11 then some (.pointer (some ⟨b5, 2, none⟩)) else none), (120, bif L 12 then some (vI d3.N) else none), (121, bif L 13 then some (.pointer (some ⟨b5, 3, none⟩)) else none), (122, bif L 14 then some (vU64 d3.V) else none)], [(some (cellsR b4 62 [v28, v29]) : Option Res), (bif L 7 then some (rowsX u8S true v29 vs2 store5.2 none) else some (rowsX u8S true v29 vs2 rows4 none) : Option Res), (some (cellsR b5 40 [vI d3.Kind, vU64 d3.At, vI d3.N, vU64 d3.V, v31]) : Option Res)], [Fact.sl RegionS vl1 l, Fact.sl dumbwaiterlaw02_ActS vcalls1 calls, Fact.sl RegionS v28 mem2.l, Fact.sl u8S v31 d3.B]⟩ a w) [([], [7]), ([], [2, 7]), ([1], [7]), ([], [4, 7]), ([3], [7]), ([], [6, 7]), ([5], [7]), ([0, 1, 2, 3, 4, 5, 6], []), ([], []), ([], [10]), ([9], []), ([], [12]), ([11], []), ([], [14]), ([13], [])] rfl (by kernel_rfl) ?_ (steps_cons ?_ (steps_cons ?_ (steps_cons ?_ (steps_cons ?_ (steps_cons ?_ (steps_cons ?_ (steps_cons ?_ (steps_cons ?_ (steps_cons ?_ (steps_cons ?_ (steps_cons ?_ (steps_cons ?_ (steps_cons ?_ (steps_cons ?_ (steps_cons ?_ (steps_nil)))))))))))))))) ?_
             ·intro a w hs
              exact hs.startF [108, 109, 110, 111, 112, 113, 114, 115, 116, 117, 118, 119, 120, 121, 122] [0, 1, 2] [0, 1, 2, 3] rfl rfl rfl rfl
             ·intro L a w hv K Q hK
              have hs := hv
              refine wpOp_go rfl rfl hs (OpT_move rfl rfl rfl rfl) ?_
              rintro _ rfl a' w' hs'
              exact hK a' w' (hs'.putF (i := 12) rfl [0, 1, 2] [0, 1, 2, 3] rfl rfl rfl rfl)
             ·intro L a w hv K Q hK
              have hs := hv
              refine wpOp_go rfl rfl hs (OpT_fieldC rfl rfl rfl rfl fldF40x1) ?_
              rintro _ rfl a' w' hs'
              exact hK a' w' (hs'.putF (i := 13) rfl [0, 1, 2] [0, 1, 2, 3] rfl rfl rfl rfl)
             ·intro L a w hv K Q hK
              have hs := hv
              refine wpOp_go rfl rfl hs (OpT_loadC rfl rfl rfl rfl tyF26 (i := 2) rfl rfl) ?_
              rintro _ rfl a' w' hs'
              exact hK a' w' (hs'.putF (i := 14) rfl [0, 1, 2] [0, 1, 2, 3] rfl rfl rfl rfl)
             ·intro L a w hv K Q hK
              have hs := hv
              refine wpOp_go rfl rfl hs (OpT_fieldC rfl rfl rfl rfl fldF40x2) ?_
              rintro _ rfl a' w' hs'
              exact hK a' w' (hs'.putF (i := 15) rfl [0, 1, 2] [0, 1, 2, 3] rfl rfl rfl rfl)
             ·intro L a w hv K Q hK
              have hs := hv
              refine wpOp_go rfl rfl hs (OpT_loadC rfl rfl rfl rfl tyF3 (i := 2) rfl rfl) ?_
              rintro _ rfl a' w' hs'
              exact hK a' w' (hs'.putF (i := 16) rfl [0, 1, 2] [0, 1, 2, 3] rfl rfl rfl rfl)
             ·intro L a w hv K Q hK
              have hs := hv
              refine wpOp_go rfl rfl hs (OpT_fieldC rfl rfl rfl rfl fldF40x3) ?_
              rintro _ rfl a' w' hs'
              exact hK a' w' (hs'.putF (i := 17) rfl [0, 1, 2] [0, 1, 2, 3] rfl rfl rfl rfl)
             ·intro L a w hv K Q hK
              have hs := hv
              refine wpOp_go rfl rfl hs (OpT_loadC rfl rfl rfl rfl tyF26 (i := 2) rfl rfl) ?_
              rintro _ rfl a' w' hs'
              exact hK a' w' (hs'.putF (i := 18) rfl [0, 1, 2] [0, 1, 2, 3] rfl rfl rfl rfl)
             ·intro L a w hv K Q hK
              have hs := hv
              refine wpOp_go rfl rfl hs (OpT_callP [3, 4, 2] (w_gmem_Mem_Store hx58) [0, 1] [2] rfl rfl rfl rfl rfl callee17 rfl rfl rfl rfl rfl) ?_
              rintro _ ⟨_, _, _, ⟨rfl, rfl, rfl⟩, rfl⟩ a' w' hs'
              exact hK a' w' (hs'.putF (i := 19) rfl [0, 1, 2] [0, 1, 2, 3] rfl rfl rfl rfl)
             ·intro L a w hv K Q hK
              have hs := hv
              refine wpOp_go rfl rfl hs (OpT_move rfl rfl rfl rfl) ?_
              rintro _ rfl a' w' hs'
              exact hK a' w' (hs'.putF (i := 20) rfl [0, 1, 2] [0, 1, 2, 3] rfl rfl rfl rfl)
             ·intro L a w hv K Q hK
              have hs := hv
              refine wpOp_go rfl rfl hs (OpT_fieldC rfl rfl rfl rfl fldF40x1) ?_
              rintro _ rfl a' w' hs'
              exact hK a' w' (hs'.putF (i := 21) rfl [0, 1, 2] [0, 1, 2, 3] rfl rfl rfl rfl)
             ·intro L a w hv K Q hK
              have hs := hv
              refine wpOp_go rfl rfl hs (OpT_loadC rfl rfl rfl rfl tyF26 (i := 2) rfl rfl) ?_
              rintro _ rfl a' w' hs'
              exact hK a' w' (hs'.putF (i := 22) rfl [0, 1, 2] [0, 1, 2, 3] rfl rfl rfl rfl)
             ·intro L a w hv K Q hK
              have hs := hv
              refine wpOp_go rfl rfl hs (OpT_fieldC rfl rfl rfl rfl fldF40x2) ?_
              rintro _ rfl a' w' hs'
              exact hK a' w' (hs'.putF (i := 23) rfl [0, 1, 2] [0, 1, 2, 3] rfl rfl rfl rfl)
             ·intro L a w hv K Q hK
              have hs := hv
              refine wpOp_go rfl rfl hs (OpT_loadC rfl rfl rfl rfl tyF3 (i := 2) rfl rfl) ?_
              rintro _ rfl a' w' hs'
              exact hK a' w' (hs'.putF (i := 24) rfl [0, 1, 2] [0, 1, 2, 3] rfl rfl rfl rfl)
             ·intro L a w hv K Q hK
              have hs := hv
              refine wpOp_go rfl rfl hs (OpT_fieldC rfl rfl rfl rfl fldF40x3) ?_
              rintro _ rfl a' w' hs'
              exact hK a' w' (hs'.putF (i := 25) rfl [0, 1, 2] [0, 1, 2, 3] rfl rfl rfl rfl)
             ·intro L a w hv K Q hK
              have hs := hv
              refine wpOp_go rfl rfl hs (OpT_loadC rfl rfl rfl rfl tyF26 (i := 2) rfl rfl) ?_
              rintro _ rfl a' w' hs'
              exact hK a' w' (hs'.putF (i := 26) rfl [0, 1, 2] [0, 1, 2, 3] rfl rfl rfl rfl)
             ·intro L a w hL hv
              rw [allTrue hL] at hv
              have hs := hv
              refine (show TA _ _ _ 15 ⟨[(0, some (vl1)), (1, some (vcalls1)), (5, some (.pointer (some ⟨b4, 0, none⟩))), (7, some (.pointer none)), (9, some (vI i3)), (11, some (vU64 (0 : UInt64))), (12, some (vU64 (0 : UInt64))), (13, some (vB false)), (14, some (vB false)), (15, some (.slice none 0 0)), (16, some (.slice none 0 0)), (115, some (vI store5.1)), (116, some (.pointer none)), (118, some (vU64 d3.At)), (120, some (vI d3.N)), (122, some (vU64 d3.V))], [some (cellsR b4 62 [v28, v29]), some (rowsX u8S true v29 vs2 store5.2 none)], [Fact.sl RegionS vl1 l, Fact.sl dumbwaiterlaw02_ActS vcalls1 calls, Fact.sl RegionS v28 mem2.l]⟩ from ?_) a w (hs.wkS [0, 1, 5, 7, 9, 11, 12, 13, 14, 15, 16, 115, 116, 118, 120, 122] [0, 1] [0, 1, 2] rfl rfl rfl rfl)
              clear hs hL
              obtain ⟨store6, hx59, h⟩ := ob_e h
              refine TA_exP htb (by kernel_rfl) rfl rfl (OpT_call (w_ref_Mem_Store02n0 hx59) [] [] rfl rfl rfl rfl rfl callee25 rfl rfl rfl rfl) ?_
              rintro _ ⟨_, _, _, ⟨rfl, rfl, rfl⟩, rfl⟩
              refine TA_step htb (by kernel_rfl) rfl rfl (OpT_assign rfl rfl rfl rfl) ?_
              refine TA_step htb (by kernel_rfl) rfl rfl (OpT_assign rfl rfl rfl rfl) ?_
              refine TA_end rfl ?_
              refine Tk_wkS (fr' := [(0, some (vl1)), (1, some (vcalls1)), (5, some (.pointer (some ⟨b4, 0, none⟩))), (7, some (.pointer none)), (9, some (vI i3)), (11, some (vU64 (0 : UInt64))), (12, some (vU64 (0 : UInt64))), (13, some (vB false)), (14, some (vB false)), (15, some (.slice none 0 0)), (16, some (.slice none 0 0)), (6, some (vI store5.1)), (8, some (vI store6))]) (own' := [some (cellsR b4 62 [v28, v29]), some (rowsX u8S true v29 vs2 store5.2 none)]) (shr' := [Fact.sl RegionS vl1 l, Fact.sl dumbwaiterlaw02_ActS vcalls1 calls, Fact.sl RegionS v28 mem2.l]) [0, 1, 5, 7, 9, 11, 12, 13, 14, 15, 16, 6, 8] [0, 1] [0, 1, 2] rfl rfl rfl rfl ?_
              refine Tk_nilfact u8S ?_
              refine Tk_nilfact u8S ?_
              exact Tk_jmpS (HJ6 (store5.2, store5.1, store6, (0 : UInt64), (0 : UInt64), false, false, ([] : List UInt8), ([] : List UInt8), .slice none 0 0, .slice none 0 0) h) [0, 1, 5, 6, 7, 8, 9, 11, 12, 13, 14, 15, 16] [0, 1] [0, 1, 2, 3, 4] rfl rfl rfl rfl
            ·replace h := br_f hg59 h
             refine Tk_condF (congrArg (fun b => some (Value.bool b)) hg59) ?_
             refine Tk_seq (Tk_region (Tops_step rfl (OpT_bin rfl rfl rfl rfl rfl (bin_eql_i (a := pick3) (b := (2 : Int)))) ?_))
             refine Tops_step rfl (OpT_assign rfl rfl rfl rfl) ?_
             refine Tops_nil (Tk_wkS (fr' := [(0, some (vl1)), (1, some (vcalls1)), (5, some (.pointer (some ⟨b4, 0, none⟩))), (6, some (vI e7)), (7, some (.pointer none)), (8, some (vI f7)), (9, some (vI i3)), (10, some (.pointer (some ⟨b5, 0, none⟩))), (11, some (vU64 (0 : UInt64))), (12, some (vU64 (0 : UInt64))), (13, some (vB false)), (14, some (vB false)), (15, some (.slice none 0 0)), (16, some (.slice none 0 0)), (73, some (vI pick3)), (124, some (vB (pick3 == (2 : Int))))]) (own' := [some (cellsR b4 62 [v28, v29]), some (rowsX u8S true v29 vs2 rows4 none), some (cellsR b5 40 [vI d3.Kind, vU64 d3.At, vI d3.N, vU64 d3.V, v31])]) (shr' := [Fact.sl RegionS vl1 l, Fact.sl dumbwaiterlaw02_ActS vcalls1 calls, Fact.sl RegionS v28 mem2.l, Fact.sl u8S v31 d3.B]) [0, 1, 5, 6, 7, 8, 9, 10, 11, 12, 13, 14, 15, 16, 73, 124] [0, 1, 2] [0, 1, 2, 3] rfl rfl rfl rfl ?_)
             rcases Bool.eq_false_or_eq_true (pick3 == (2 : Int)) with hg60 | hg60
             ·replace h := br_t hg60 h
              refine Tk_condT (congrArg (fun b => some (Value.bool b)) hg60) ?_
              refine Tk_seq (Tk_region (Tops_step rfl (OpT_fieldC rfl rfl rfl rfl fldF40x2) ?_))
              refine Tops_step rfl (OpT_loadC rfl rfl rfl rfl tyF3 (i := 2) rfl rfl) ?_
              refine Tops_step rfl (OpT_min_i (u := d3.N) (v := (5000 : Int)) rfl rfl rfl rfl rfl) ?_
              refine Tops_step rfl (OpT_assign rfl rfl rfl rfl) ?_
              refine Tops_nil (Tk_wkS (fr' := [(0, some (vl1)), (1, some (vcalls1)), (5, some (.pointer (some ⟨b4, 0, none⟩))), (7, some (.pointer none)), (9, some (vI i3)), (10, some (.pointer (some ⟨b5, 0, none⟩))), (11, some (vU64 (0 : UInt64))), (12, some (vU64 (0 : UInt64))), (13, some (vB false)), (14, some (vB false)), (17, some (vI (mini d3.N (5000 : Int))))]) (own' := [some (cellsR b4 62 [v28, v29]), some (rowsX u8S true v29 vs2 rows4 none), some (cellsR b5 40 [vI d3.Kind, vU64 d3.At, vI d3.N, vU64 d3.V, v31])]) (shr' := [Fact.sl RegionS vl1 l, Fact.sl dumbwaiterlaw02_ActS vcalls1 calls, Fact.sl RegionS v28 mem2.l, Fact.sl u8S v31 d3.B]) [0, 1, 5, 7, 9, 10, 11, 12, 13, 14, 17] [0, 1, 2] [0, 1, 2, 3] rfl rfl rfl rfl ?_)
              refine Tk_seq (Tk_region (Tops_step rfl (OpT_move rfl rfl rfl rfl) ?_))
              refine Tops_step rfl (OpT_fieldC rfl rfl rfl rfl fldF40x1) ?_
              refine Tops_step rfl (OpT_loadC rfl rfl rfl rfl tyF26 (i := 2) rfl rfl) ?_
              refine Tops_step rfl (OpT_move rfl rfl rfl rfl) ?_
              obtain ⟨read5, hx60, h⟩ := ob_e h
              refine Tops_exP rfl (OpT_callP [3, 4, 2, 5] (w_gmem_Mem_Read hx60) [0, 1] [2] rfl rfl rfl rfl rfl callee22 rfl rfl rfl rfl rfl) ?_
              rintro _ ⟨_, _, _, ⟨v36, rfl, rfl, rfl⟩, rfl⟩
              refine Tops_step rfl (OpT_move rfl rfl rfl rfl) ?_
              refine Tops_step rfl (OpT_extract rfl rfl rfl rfl rfl) ?_
              refine Tops_step rfl (OpT_extract rfl rfl rfl rfl rfl) ?_
              refine Tops_step rfl (OpT_assign rfl rfl rfl rfl) ?_
              refine Tops_step rfl (OpT_assign rfl rfl rfl rfl) ?_
              refine Tops_nil (Tk_wkS (fr' := [(0, some (vl1)), (1, some (vcalls1)), (5, some (.pointer (some ⟨b4, 0, none⟩))), (7, some (.pointer none)), (9, some (vI i3)), (10, some (.pointer (some ⟨b5, 0, none⟩))), (11, some (vU64 (0 : UInt64))), (12, some (vU64 (0 : UInt64))), (13, some (vB false)), (14, some (vB false)), (17, some (vI (mini d3.N (5000 : Int)))), (15, some (v36)), (6, some (vI read5.2))]) (own' := [some (cellsR b4 62 [v28, v29]), some (rowsX u8S true v29 vs2 rows4 none), some (cellsR b5 40 [vI d3.Kind, vU64 d3.At, vI d3.N, vU64 d3.V, v31]), some (rowS u8S v36 read5.1)]) (shr' := [Fact.sl RegionS vl1 l, Fact.sl dumbwaiterlaw02_ActS vcalls1 calls, Fact.sl RegionS v28 mem2.l, Fact.sl u8S v31 d3.B]) [0, 1, 5, 7, 9, 10, 11, 12, 13, 14, 17, 15, 6] [0, 1, 2, 3] [0, 1, 2, 3] rfl rfl rfl rfl ?_)
              refine Tk_region (Tops_step rfl (OpT_move rfl rfl rfl rfl) ?_)
              refine Tops_step rfl (OpT_fieldC rfl rfl rfl rfl fldF40x1) ?_
              refine Tops_step rfl (OpT_loadC rfl rfl rfl rfl tyF26 (i := 2) rfl rfl) ?_
              refine Tops_step rfl (OpT_move rfl rfl rfl rfl) ?_
              obtain ⟨read6, hx61, h⟩ := ob_e h
              refine Tops_exP rfl (OpT_call (w_ref_Mem_Read02n0 hx61) [] [] rfl rfl rfl rfl rfl callee26 rfl rfl rfl rfl) ?_
              rintro _ ⟨_, _, _, ⟨v37, rfl, rfl, rfl⟩, rfl⟩
              refine Tops_step rfl (OpT_move rfl rfl rfl rfl) ?_
              refine Tops_step rfl (OpT_extract rfl rfl rfl rfl rfl) ?_
              refine Tops_step rfl (OpT_extract rfl rfl rfl rfl rfl) ?_
              refine Tops_step rfl (OpT_assign rfl rfl rfl rfl) ?_
              refine Tops_step rfl (OpT_assign rfl rfl rfl rfl) ?_
              refine Tops_nil (Tk_wkS (fr' := [(0, some (vl1)), (1, some (vcalls1)), (5, some (.pointer (some ⟨b4, 0, none⟩))), (7, some (.pointer none)), (9, some (vI i3)), (11, some (vU64 (0 : UInt64))), (12, some (vU64 (0 : UInt64))), (13, some (vB false)), (14, some (vB false)), (15, some (v36)), (6, some (vI read5.2)), (16, some (v37)), (8, some (vI read6.2))]) (own' := [some (cellsR b4 62 [v28, v29]), some (rowsX u8S true v29 vs2 rows4 none), some (rowS u8S v36 read5.1), some (rowS u8S v37 read6.1)]) (shr' := [Fact.sl RegionS vl1 l, Fact.sl dumbwaiterlaw02_ActS vcalls1 calls, Fact.sl RegionS v28 mem2.l]) [0, 1, 5, 7, 9, 11, 12, 13, 14, 15, 6, 16, 8] [0, 1, 3, 4] [0, 1, 2] rfl rfl rfl rfl ?_)
              refine Tk_retire (i := 2) rfl ?_
              refine Tk_retire (i := 3) rfl ?_
              exact Tk_jmpS (HJ6 (rows4, read5.2, read6.2, (0 : UInt64), (0 : UInt64), false, false, read5.1, read6.1, v36, v37) h) [0, 1, 5, 6, 7, 8, 9, 11, 12, 13, 14, 15, 16] [0, 1] [0, 1, 2, 3, 4] rfl rfl rfl rfl
             ·replace h := br_f hg60 h
              refine Tk_condF (congrArg (fun b => some (Value.bool b)) hg60) ?_
              refine Tk_seq (Tk_region (Tops_step rfl (OpT_bin rfl rfl rfl rfl rfl (bin_eql_i (a := pick3) (b := (3 : Int)))) ?_))
              refine Tops_step rfl (OpT_assign rfl rfl rfl rfl) ?_
              refine Tops_nil (Tk_wkS (fr' := [(0, some (vl1)), (1, some (vcalls1)), (5, some (.pointer (some ⟨b4, 0, none⟩))), (6, some (vI e7)), (7, some (.pointer none)), (8, some (vI f7)), (9, some (vI i3)), (10, some (.pointer (some ⟨b5, 0, none⟩))), (11, some (vU64 (0 : UInt64))), (12, some (vU64 (0 : UInt64))), (13, some (vB false)), (14, some (vB false)), (15, some (.slice none 0 0)), (16, some (.slice none 0 0)), (145, some (vB (pick3 == (3 : Int))))]) (own' := [some (cellsR b4 62 [v28, v29]), some (rowsX u8S true v29 vs2 rows4 none), some (cellsR b5 40 [vI d3.Kind, vU64 d3.At, vI d3.N, vU64 d3.V, v31])]) (shr' := [Fact.sl RegionS vl1 l, Fact.sl dumbwaiterlaw02_ActS vcalls1 calls, Fact.sl RegionS v28 mem2.l, Fact.sl u8S v31 d3.B]) [0, 1, 5, 6, 7, 8, 9, 10, 11, 12, 13, 14, 15, 16, 145] [0, 1, 2] [0, 1, 2, 3] rfl rfl rfl rfl ?_)
              rcases Bool.eq_false_or_eq_true (pick3 == (3 : Int)) with hg61 | hg61
              ·replace h := br_t hg61 h
               refine Tk_condT (congrArg (fun b => some (Value.bool b)) hg61) ?_
               refine Tk_drawT (by kernel_rfl) ?_
               refine TA_tb [0, 0, 2, 0, 8, 24, 63, 0, 0, 256, 0, 1024, 4095, 8191, 16383] (by kernel_rfl) fun htb => ?_
               refine TA_wkS (fr' := [(0, some (vl1)), (1, some (vcalls1)), (5, some (.pointer (some ⟨b4, 0, none⟩))), (7, some (.pointer none)), (9, some (vI i3)), (10, some (.pointer (some ⟨b5, 0, none⟩))), (11, some (vU64 (0 : UInt64))), (12, some (vU64 (0 : UInt64))), (13, some (vB false)), (14, some (vB false)), (15, some (.slice none 0 0)), (16, some (.slice none 0 0))]) (own' := [some (cellsR b4 62 [v28, v29]), some (rowsX u8S true v29 vs2 rows4 none), some (cellsR b5 40 [vI d3.Kind, vU64 d3.At, vI d3.N, vU64 d3.V, v31])]) (shr' := [Fact.sl RegionS vl1 l, Fact.sl dumbwaiterlaw02_ActS vcalls1 calls, Fact.sl RegionS v28 mem2.l, Fact.sl u8S v31 d3.B]) [0, 1, 5, 7, 9, 10, 11, 12, 13, 14, 15, 16] [0, 1, 2] [0, 1, 2, 3] rfl rfl rfl rfl ?_
               obtain ⟨own3, hx62, h⟩ := ob_e h
               obtain ⟨write5, hx63, h⟩ := ob_e h
               refine TA_seg (lo := 0) (hi := 12) htb rfl rfl (by kernel_rfl) (fun c L a w => ∃ (v38 : Value), Sat c ⟨[(0, some (vl1)), (1, some (vcalls1)), (5, some (.pointer (some ⟨b4, 0, none⟩))), (7, some (.pointer none)), (9, some (vI i3)), (10, some (.pointer (some ⟨b5, 0, none⟩))), (11, some (vU64 (0 : UInt64))), (12, some (vU64 (0 : UInt64))), (13, some (vB false)), (14, some (vB false)), (15, some (.slice none 0 0)), (16, some (.slice none 0 0)), (147, bif L 0 then some (.pointer (some ⟨b4, 0, none⟩)) else none), (148, bif L 1 then some (.pointer (some ⟨b5, 1, none⟩)) else none), (149, bif L 2 then some (vU64 d3.At) else none), (150, bif L 3 then some (.pointer (some ⟨b5, 4, none⟩)) else none), (151, bif L 4 then some (v31) else none), (152, bif L 5 then some (v38) else none), (153, bif L 6 then some (vI write5.1) else none), (154, bif L 7 then some (.pointer none) else none), (155, bif L 8 then some (.pointer (some ⟨b5, 1, none⟩)) else none), (156, bif L 9 then some (vU64 d3.At) else none), (157, bif L 10 then some (.pointer (some ⟨b5, 4, none⟩)) else none), (158, bif L 11 then some (v31) else none)], [(some (cellsR b4 62 [v28, v29]) : Option Res), (bif L 6 then some (rowsX u8S true v29 vs2 write5.2 none) else some (rowsX u8S true v29 vs2 rows4 none) : Option Res), (some (cellsR b5 40 [vI d3.Kind, vU64 d3.At, vI d3.N, vU64 d3.V, v31]) : Option Res)], [Fact.sl RegionS vl1 l, Fact.sl dumbwaiterlaw02_ActS vcalls1 calls, Fact.sl RegionS v28 mem2.l, Fact.sl u8S v31 d3.B, (bif L 5 then Fact.sl u8S v38 own3 else Fact.tt)]⟩ a w) [([], [6]), ([], [2, 6]), ([1], [6]), ([], [4, 5, 6]), ([3], [5, 6]), ([3, 4], [6]), ([0, 1, 2, 3, 4, 5], []), ([], []), ([], [9]), ([8], []), ([], [11]), ([10], [])] rfl (by kernel_rfl) ?_ (steps_cons ?_ (steps_cons ?_ (steps_cons ?_ (steps_cons ?_ (steps_cons ?_ (steps_cons ?_ (steps_cons ?_ (steps_cons ?_ (steps_cons ?_ (steps_cons ?_ (steps_cons ?_ (steps_cons ?_ (steps_nil))))))))))))) ?_
               ·intro a w hs
                exact ⟨undef, hs.startF [147, 148, 149, 150, 151, 152, 153, 154, 155, 156, 157, 158] [0, 1, 2] [0, 1, 2, 3, 4] rfl rfl rfl rfl⟩
               ·intro L a w hv K Q hK
                obtain ⟨v38, hs⟩ := hv
                refine wpOp_go rfl rfl hs (OpT_move rfl rfl rfl rfl) ?_
                rintro _ rfl a' w' hs'
                exact hK a' w' ⟨v38, hs'.putF (i := 12) rfl [0, 1, 2] [0, 1, 2, 3, 4] rfl rfl rfl rfl⟩
               ·intro L a w hv K Q hK
                obtain ⟨v38, hs⟩ := hv
                refine wpOp_go rfl rfl hs (OpT_fieldC rfl rfl rfl rfl fldF40x1) ?_
                rintro _ rfl a' w' hs'
                exact hK a' w' ⟨v38, hs'.putF (i := 13) rfl [0, 1, 2] [0, 1, 2, 3, 4] rfl rfl rfl rfl⟩
               ·intro L a w hv K Q hK
                obtain ⟨v38, hs⟩ := hv
                refine wpOp_go rfl rfl hs (OpT_loadC rfl rfl rfl rfl tyF26 (i := 2) rfl rfl) ?_
                rintro _ rfl a' w' hs'
                exact hK a' w' ⟨v38, hs'.putF (i := 14) rfl [0, 1, 2] [0, 1, 2, 3, 4] rfl rfl rfl rfl⟩
               ·intro L a w hv K Q hK
                obtain ⟨v38, hs⟩ := hv
                refine wpOp_go rfl rfl hs (OpT_fieldC rfl rfl rfl rfl fldF40x4) ?_
                rintro _ rfl a' w' hs'
                exact hK a' w' ⟨v38, hs'.putF (i := 15) rfl [0, 1, 2] [0, 1, 2, 3, 4] rfl rfl rfl rfl⟩
               ·intro L a w hv K Q hK
                obtain ⟨v38, hs⟩ := hv
                refine wpOp_go rfl rfl hs (OpT_loadC rfl rfl rfl rfl tyF38 (i := 2) rfl rfl) ?_
                rintro _ rfl a' w' hs'
                exact hK a' w' ⟨v38, hs'.putF (i := 16) rfl [0, 1, 2] [0, 1, 2, 3, 4] rfl rfl rfl rfl⟩
               ·intro L a w hv K Q hK
                obtain ⟨v38, hs⟩ := hv
                refine wpOp_go rfl rfl hs (OpT_call (ws_kit_Own hx62) [] [3] rfl rfl rfl rfl rfl callee19 rfl rfl rfl rfl) ?_
                rintro _ ⟨v38', _, _, ⟨_, rfl, rfl, rfl⟩, rfl⟩ a' w' hs'
                exact hK a' w' ⟨v38', hs'.putF (i := 17) rfl [0, 1, 2] [0, 1, 2, 3, 5] rfl rfl rfl rfl⟩
               ·intro L a w hv K Q hK
                obtain ⟨v38, hs⟩ := hv
                refine wpOp_go rfl rfl hs (OpT_callP [3, 4, 2] (w_gmem_Mem_Write hx63) [0, 1] [2, 4] rfl rfl rfl rfl rfl callee18 rfl rfl rfl rfl rfl) ?_
                rintro _ ⟨_, _, _, ⟨rfl, rfl, rfl⟩, rfl⟩ a' w' hs'
                exact hK a' w' ⟨v38, hs'.putF (i := 18) rfl [0, 1, 2] [0, 1, 2, 3, 4] rfl rfl rfl rfl⟩
               ·intro L a w hv K Q hK
                obtain ⟨v38, hs⟩ := hv
                refine wpOp_go rfl rfl hs (OpT_move rfl rfl rfl rfl) ?_
                rintro _ rfl a' w' hs'
                exact hK a' w' ⟨v38, hs'.putF (i := 19) rfl [0, 1, 2] [0, 1, 2, 3, 4] rfl rfl rfl rfl⟩
               ·intro L a w hv K Q hK
                obtain ⟨v38, hs⟩ := hv
                refine wpOp_go rfl rfl hs (OpT_fieldC rfl rfl rfl rfl fldF40x1) ?_
                rintro _ rfl a' w' hs'
                exact hK a' w' ⟨v38, hs'.putF (i := 20) rfl [0, 1, 2] [0, 1, 2, 3, 4] rfl rfl rfl rfl⟩
               ·intro L a w hv K Q hK
                obtain ⟨v38, hs⟩ := hv
                refine wpOp_go rfl rfl hs (OpT_loadC rfl rfl rfl rfl tyF26 (i := 2) rfl rfl) ?_
                rintro _ rfl a' w' hs'
                exact hK a' w' ⟨v38, hs'.putF (i := 21) rfl [0, 1, 2] [0, 1, 2, 3, 4] rfl rfl rfl rfl⟩
               ·intro L a w hv K Q hK
                obtain ⟨v38, hs⟩ := hv
                refine wpOp_go rfl rfl hs (OpT_fieldC rfl rfl rfl rfl fldF40x4) ?_
                rintro _ rfl a' w' hs'
                exact hK a' w' ⟨v38, hs'.putF (i := 22) rfl [0, 1, 2] [0, 1, 2, 3, 4] rfl rfl rfl rfl⟩
               ·intro L a w hv K Q hK
                obtain ⟨v38, hs⟩ := hv
                refine wpOp_go rfl rfl hs (OpT_loadC rfl rfl rfl rfl tyF38 (i := 2) rfl rfl) ?_
                rintro _ rfl a' w' hs'
                exact hK a' w' ⟨v38, hs'.putF (i := 23) rfl [0, 1, 2] [0, 1, 2, 3, 4] rfl rfl rfl rfl⟩
               ·intro L a w hL hv
                rw [allTrue hL] at hv
                obtain ⟨v38, hs⟩ := hv
                refine (show TA _ _ _ 12 ⟨[(0, some (vl1)), (1, some (vcalls1)), (5, some (.pointer (some ⟨b4, 0, none⟩))), (7, some (.pointer none)), (9, some (vI i3)), (11, some (vU64 (0 : UInt64))), (12, some (vU64 (0 : UInt64))), (13, some (vB false)), (14, some (vB false)), (15, some (.slice none 0 0)), (16, some (.slice none 0 0)), (153, some (vI write5.1)), (154, some (.pointer none)), (156, some (vU64 d3.At)), (158, some (v31))], [some (cellsR b4 62 [v28, v29]), some (rowsX u8S true v29 vs2 write5.2 none)], [Fact.sl RegionS vl1 l, Fact.sl dumbwaiterlaw02_ActS vcalls1 calls, Fact.sl RegionS v28 mem2.l, Fact.sl u8S v31 d3.B]⟩ from ?_) a w (hs.wkS [0, 1, 5, 7, 9, 11, 12, 13, 14, 15, 16, 153, 154, 156, 158] [0, 1] [0, 1, 2, 3] rfl rfl rfl rfl)
                clear hs hL
                obtain ⟨write6, hx64, h⟩ := ob_e h
                refine TA_exP htb (by kernel_rfl) rfl rfl (OpT_call (w_ref_Mem_Write02n0 hx64) [] [3] rfl rfl rfl rfl rfl callee27 rfl rfl rfl rfl) ?_
                rintro _ ⟨_, _, _, ⟨rfl, rfl, rfl⟩, rfl⟩
                refine TA_step htb (by kernel_rfl) rfl rfl (OpT_assign rfl rfl rfl rfl) ?_
                refine TA_step htb (by kernel_rfl) rfl rfl (OpT_assign rfl rfl rfl rfl) ?_
                refine TA_end rfl ?_
                refine Tk_wkS (fr' := [(0, some (vl1)), (1, some (vcalls1)), (5, some (.pointer (some ⟨b4, 0, none⟩))), (7, some (.pointer none)), (9, some (vI i3)), (11, some (vU64 (0 : UInt64))), (12, some (vU64 (0 : UInt64))), (13, some (vB false)), (14, some (vB false)), (15, some (.slice none 0 0)), (16, some (.slice none 0 0)), (6, some (vI write5.1)), (8, some (vI write6))]) (own' := [some (cellsR b4 62 [v28, v29]), some (rowsX u8S true v29 vs2 write5.2 none)]) (shr' := [Fact.sl RegionS vl1 l, Fact.sl dumbwaiterlaw02_ActS vcalls1 calls, Fact.sl RegionS v28 mem2.l]) [0, 1, 5, 7, 9, 11, 12, 13, 14, 15, 16, 6, 8] [0, 1] [0, 1, 2] rfl rfl rfl rfl ?_
                refine Tk_nilfact u8S ?_
                refine Tk_nilfact u8S ?_
                exact Tk_jmpS (HJ6 (write5.2, write5.1, write6, (0 : UInt64), (0 : UInt64), false, false, ([] : List UInt8), ([] : List UInt8), .slice none 0 0, .slice none 0 0) h) [0, 1, 5, 6, 7, 8, 9, 11, 12, 13, 14, 15, 16] [0, 1] [0, 1, 2, 3, 4] rfl rfl rfl rfl
              ·replace h := br_f hg61 h
               refine Tk_condF (congrArg (fun b => some (Value.bool b)) hg61) ?_
               refine Tk_drawT (by kernel_rfl) ?_
               refine TA_tb [0, 0, 2, 0, 8, 31, 0, 0, 128, 0, 512, 2047, 4095, 8191] (by kernel_rfl) fun htb => ?_
               refine TA_wkS (fr' := [(0, some (vl1)), (1, some (vcalls1)), (5, some (.pointer (some ⟨b4, 0, none⟩))), (6, some (vI e7)), (7, some (.pointer none)), (8, some (vI f7)), (9, some (vI i3)), (10, some (.pointer (some ⟨b5, 0, none⟩))), (11, some (vU64 (0 : UInt64))), (12, some (vU64 (0 : UInt64))), (15, some (.slice none 0 0)), (16, some (.slice none 0 0))]) (own' := [some (cellsR b4 62 [v28, v29]), some (rowsX u8S true v29 vs2 rows4 none), some (cellsR b5 40 [vI d3.Kind, vU64 d3.At, vI d3.N, vU64 d3.V, v31])]) (shr' := [Fact.sl RegionS vl1 l, Fact.sl dumbwaiterlaw02_ActS vcalls1 calls, Fact.sl RegionS v28 mem2.l, Fact.sl u8S v31 d3.B]) [0, 1, 5, 6, 7, 8, 9, 10, 11, 12, 15, 16] [0, 1, 2] [0, 1, 2, 3] rfl rfl rfl rfl ?_
               obtain ⟨has5, hx65, h⟩ := ob_e h
               refine TA_seg (lo := 0) (hi := 11) htb rfl rfl (by kernel_rfl) (fun c L a w => Sat c ⟨[(0, some (vl1)), (1, some (vcalls1)), (5, some (.pointer (some ⟨b4, 0, none⟩))), (6, some (vI e7)), (7, some (.pointer none)), (8, some (vI f7)), (9, some (vI i3)), (10, some (.pointer (some ⟨b5, 0, none⟩))), (11, some (vU64 (0 : UInt64))), (12, some (vU64 (0 : UInt64))), (15, some (.slice none 0 0)), (16, some (.slice none 0 0)), (74, bif L 0 then some (.pointer (some ⟨b4, 0, none⟩)) else none), (75, bif L 1 then some (.pointer (some ⟨b5, 1, none⟩)) else none), (76, bif L 2 then some (vU64 d3.At) else none), (77, bif L 3 then some (.pointer (some ⟨b5, 3, none⟩)) else none), (78, bif L 4 then some (vU64 d3.V) else none), (79, bif L 5 then some (vB has5) else none), (80, bif L 6 then some (.pointer none) else none), (81, bif L 7 then some (.pointer (some ⟨b5, 1, none⟩)) else none), (82, bif L 8 then some (vU64 d3.At) else none), (83, bif L 9 then some (.pointer (some ⟨b5, 3, none⟩)) else none), (84, bif L 10 then some (vU64 d3.V) else none)], [(some (cellsR b4 62 [v28, v29]) : Option Res), (some (rowsX u8S true v29 vs2 rows4 none) : Option Res), (some (cellsR b5 40 [vI d3.Kind, vU64 d3.At, vI d3.N, vU64 d3.V, v31]) : Option Res)], [Fact.sl RegionS vl1 l, Fact.sl dumbwaiterlaw02_ActS vcalls1 calls, Fact.sl RegionS v28 mem2.l, Fact.sl u8S v31 d3.B]⟩ a w) [([], [5]), ([], [2, 5]), ([1], [5]), ([], [4, 5]), ([3], [5]), ([0, 1, 2, 3, 4], []), ([], []), ([], [8]), ([7], []), ([], [10]), ([9], [])] rfl (by kernel_rfl) ?_ (steps_cons ?_ (steps_cons ?_ (steps_cons ?_ (steps_cons ?_ (steps_cons ?_ (steps_cons ?_ (steps_cons ?_ (steps_cons ?_ (steps_cons ?_ (steps_cons ?_ (steps_cons ?_ (steps_nil)))))))))))) ?_
               ·intro a w hs
                exact hs.startF [74, 75, 76, 77, 78, 79, 80, 81, 82, 83, 84] [0, 1, 2] [0, 1, 2, 3] rfl rfl rfl rfl
               ·intro L a w hv K Q hK
                have hs := hv
                refine wpOp_go rfl rfl hs (OpT_move rfl rfl rfl rfl) ?_
                rintro _ rfl a' w' hs'
                exact hK a' w' (hs'.putF (i := 12) rfl [0, 1, 2] [0, 1, 2, 3] rfl rfl rfl rfl)
               ·intro L a w hv K Q hK
                have hs := hv
                refine wpOp_go rfl rfl hs (OpT_fieldC rfl rfl rfl rfl fldF40x1) ?_
                rintro _ rfl a' w' hs'
                exact hK a' w' (hs'.putF (i := 13) rfl [0, 1, 2] [0, 1, 2, 3] rfl rfl rfl rfl)
               ·intro L a w hv K Q hK
                have hs := hv
                refine wpOp_go rfl rfl hs (OpT_loadC rfl rfl rfl rfl tyF26 (i := 2) rfl rfl) ?_
                rintro _ rfl a' w' hs'
                exact hK a' w' (hs'.putF (i := 14) rfl [0, 1, 2] [0, 1, 2, 3] rfl rfl rfl rfl)
               ·intro L a w hv K Q hK
                have hs := hv
                refine wpOp_go rfl rfl hs (OpT_fieldC rfl rfl rfl rfl fldF40x3) ?_
                rintro _ rfl a' w' hs'
                exact hK a' w' (hs'.putF (i := 15) rfl [0, 1, 2] [0, 1, 2, 3] rfl rfl rfl rfl)
               ·intro L a w hv K Q hK
                have hs := hv
                refine wpOp_go rfl rfl hs (OpT_loadC rfl rfl rfl rfl tyF26 (i := 2) rfl rfl) ?_
                rintro _ rfl a' w' hs'
                exact hK a' w' (hs'.putF (i := 16) rfl [0, 1, 2] [0, 1, 2, 3] rfl rfl rfl rfl)
               ·intro L a w hv K Q hK
                have hs := hv
                refine wpOp_go rfl rfl hs (OpT_callP [3, 4, 2] (w_gmem_Mem_Has hx65) [0, 1] [2] rfl rfl rfl rfl rfl callee20 rfl rfl rfl rfl rfl) ?_
                rintro _ ⟨_, _, _, ⟨rfl, rfl, rfl⟩, rfl⟩ a' w' hs'
                exact hK a' w' (hs'.putF (i := 17) rfl [0, 1, 2] [0, 1, 2, 3] rfl rfl rfl rfl)
               ·intro L a w hv K Q hK
                have hs := hv
                refine wpOp_go rfl rfl hs (OpT_move rfl rfl rfl rfl) ?_
                rintro _ rfl a' w' hs'
                exact hK a' w' (hs'.putF (i := 18) rfl [0, 1, 2] [0, 1, 2, 3] rfl rfl rfl rfl)
               ·intro L a w hv K Q hK
                have hs := hv
                refine wpOp_go rfl rfl hs (OpT_fieldC rfl rfl rfl rfl fldF40x1) ?_
                rintro _ rfl a' w' hs'
                exact hK a' w' (hs'.putF (i := 19) rfl [0, 1, 2] [0, 1, 2, 3] rfl rfl rfl rfl)
               ·intro L a w hv K Q hK
                have hs := hv
                refine wpOp_go rfl rfl hs (OpT_loadC rfl rfl rfl rfl tyF26 (i := 2) rfl rfl) ?_
                rintro _ rfl a' w' hs'
                exact hK a' w' (hs'.putF (i := 20) rfl [0, 1, 2] [0, 1, 2, 3] rfl rfl rfl rfl)
               ·intro L a w hv K Q hK
                have hs := hv
                refine wpOp_go rfl rfl hs (OpT_fieldC rfl rfl rfl rfl fldF40x3) ?_
                rintro _ rfl a' w' hs'
                exact hK a' w' (hs'.putF (i := 21) rfl [0, 1, 2] [0, 1, 2, 3] rfl rfl rfl rfl)
               ·intro L a w hv K Q hK
                have hs := hv
                refine wpOp_go rfl rfl hs (OpT_loadC rfl rfl rfl rfl tyF26 (i := 2) rfl rfl) ?_
                rintro _ rfl a' w' hs'
                exact hK a' w' (hs'.putF (i := 22) rfl [0, 1, 2] [0, 1, 2, 3] rfl rfl rfl rfl)
               ·intro L a w hL hv
                rw [allTrue hL] at hv
                have hs := hv
                refine (show TA _ _ _ 11 ⟨[(0, some (vl1)), (1, some (vcalls1)), (5, some (.pointer (some ⟨b4, 0, none⟩))), (6, some (vI e7)), (7, some (.pointer none)), (8, some (vI f7)), (9, some (vI i3)), (11, some (vU64 (0 : UInt64))), (12, some (vU64 (0 : UInt64))), (15, some (.slice none 0 0)), (16, some (.slice none 0 0)), (79, some (vB has5)), (80, some (.pointer none)), (82, some (vU64 d3.At)), (84, some (vU64 d3.V))], [some (cellsR b4 62 [v28, v29]), some (rowsX u8S true v29 vs2 rows4 none)], [Fact.sl RegionS vl1 l, Fact.sl dumbwaiterlaw02_ActS vcalls1 calls, Fact.sl RegionS v28 mem2.l]⟩ from ?_) a w (hs.wkS [0, 1, 5, 6, 7, 8, 9, 11, 12, 15, 16, 79, 80, 82, 84] [0, 1] [0, 1, 2] rfl rfl rfl rfl)
                clear hs hL
                obtain ⟨has6, hx66, h⟩ := ob_e h
                refine TA_exP htb (by kernel_rfl) rfl rfl (OpT_call (w_ref_Mem_Has02n0 hx66) [] [] rfl rfl rfl rfl rfl callee28 rfl rfl rfl rfl) ?_
                rintro _ ⟨_, _, _, ⟨rfl, rfl, rfl⟩, rfl⟩
                refine TA_step htb (by kernel_rfl) rfl rfl (OpT_assign rfl rfl rfl rfl) ?_
                refine TA_step htb (by kernel_rfl) rfl rfl (OpT_assign rfl rfl rfl rfl) ?_
                refine TA_end rfl ?_
                refine Tk_wkS (fr' := [(0, some (vl1)), (1, some (vcalls1)), (5, some (.pointer (some ⟨b4, 0, none⟩))), (6, some (vI e7)), (7, some (.pointer none)), (8, some (vI f7)), (9, some (vI i3)), (11, some (vU64 (0 : UInt64))), (12, some (vU64 (0 : UInt64))), (15, some (.slice none 0 0)), (16, some (.slice none 0 0)), (13, some (vB has5)), (14, some (vB has6))]) (own' := [some (cellsR b4 62 [v28, v29]), some (rowsX u8S true v29 vs2 rows4 none)]) (shr' := [Fact.sl RegionS vl1 l, Fact.sl dumbwaiterlaw02_ActS vcalls1 calls, Fact.sl RegionS v28 mem2.l]) [0, 1, 5, 6, 7, 8, 9, 11, 12, 15, 16, 13, 14] [0, 1] [0, 1, 2] rfl rfl rfl rfl ?_
                refine Tk_nilfact u8S ?_
                refine Tk_nilfact u8S ?_
                exact Tk_jmpS (HJ6 (rows4, e7, f7, (0 : UInt64), (0 : UInt64), has5, has6, ([] : List UInt8), ([] : List UInt8), .slice none 0 0, .slice none 0 0) h) [0, 1, 5, 6, 7, 8, 9, 11, 12, 13, 14, 15, 16] [0, 1] [0, 1, 2, 3, 4] rfl rfl rfl rfl
        ·replace h := br_f hg53 h
         refine Tk_condF (congrArg (fun b => some (Value.bool b)) hg53) ?_
         refine Tk_exit _ rfl ?_
         refine Tk_seq (Tk_drawT (by kernel_rfl) ?_)
         refine TA_tb [0, 1, 3, 0, 11, 27, 63, 127, 255, 511, 255, 2047, 4095, 8191] (by kernel_rfl) fun htb => ?_
         refine TA_wkS (fr' := [(0, some (vl1)), (5, some (.pointer (some ⟨b4, 0, none⟩))), (7, some (.pointer none))]) (own' := [some (cellsR b4 62 [v28, v29]), some (rowsX u8S true v29 vs2 rows4 none)]) (shr' := [Fact.sl RegionS vl1 l, Fact.sl RegionS v28 mem2.l]) [0, 5, 7] [0, 1] [0, 2] rfl rfl rfl rfl ?_
         obtain ⟨image5, hx67, h⟩ := ob_e h
         obtain ⟨image6, hx68, h⟩ := ob_e h
         refine TA_seg (lo := 0) (hi := 6) htb rfl rfl (by kernel_rfl) (fun c L a w => ∃ (v39 : Value), ∃ (v40 : Value), Sat c ⟨[(0, some (vl1)), (5, some (.pointer (some ⟨b4, 0, none⟩))), (7, some (.pointer none)), (180, bif L 0 then some (.pointer (some ⟨b4, 0, none⟩)) else none), (181, bif L 1 then some (v39) else none), (182, bif L 2 then some (vS image5) else none), (183, bif L 3 then some (.pointer none) else none), (184, bif L 4 then some (v40) else none), (185, bif L 5 then some (vS image6) else none)], [(some (cellsR b4 62 [v28, v29]) : Option Res), (some (rowsX u8S true v29 vs2 rows4 none) : Option Res)], [Fact.sl RegionS vl1 l, Fact.sl RegionS v28 mem2.l, (bif L 1 then Fact.sl u8S v39 image5 else Fact.tt), (bif L 4 then Fact.sl u8S v40 image6 else Fact.tt)]⟩ a w) [([], [1, 2, 4, 5]), ([0], [2, 4, 5]), ([0, 1], []), ([], [4, 5]), ([0, 1, 3], [5]), ([0, 1, 3, 4], [])] rfl (by kernel_rfl) ?_ (steps_cons ?_ (steps_cons ?_ (steps_cons ?_ (steps_cons ?_ (steps_cons ?_ (steps_cons ?_ (steps_nil))))))) ?_
         ·intro a w hs
          exact ⟨undef, undef, hs.startF [180, 181, 182, 183, 184, 185] [0, 1] [0, 1, 2, 3] rfl rfl rfl rfl⟩
         ·intro L a w hv K Q hK
          obtain ⟨v39, v40, hs⟩ := hv
          refine wpOp_go rfl rfl hs (OpT_move rfl rfl rfl rfl) ?_
          rintro _ rfl a' w' hs'
          exact hK a' w' ⟨v39, v40, hs'.putF (i := 3) rfl [0, 1] [0, 1, 2, 3] rfl rfl rfl rfl⟩
         ·intro L a w hv K Q hK
          obtain ⟨v39, v40, hs⟩ := hv
          refine wpOp_go rfl rfl hs (OpT_callP [2, 3] (ws_gmem_Mem_Image hx67) [0, 1] [1] rfl rfl rfl rfl rfl callee21 rfl rfl rfl rfl rfl) ?_
          rintro _ ⟨v39', _, _, ⟨_, rfl, rfl, rfl⟩, rfl⟩ a' w' hs'
          exact hK a' w' ⟨v39', v40, hs'.putF (i := 4) rfl [0, 1] [0, 1, 4, 3] rfl rfl rfl rfl⟩
         ·intro L a w hv K Q hK
          obtain ⟨v39, v40, hs⟩ := hv
          refine wpOp_go rfl rfl hs (OpT_strS rfl rfl rfl rfl Try.underlying38 Try.underlying5 Try.underlying9 (i := 2) rfl) ?_
          rintro _ rfl a' w' hs'
          exact hK a' w' ⟨v39, v40, hs'.putF (i := 5) rfl [0, 1] [0, 1, 2, 3] rfl rfl rfl rfl⟩
         ·intro L a w hv K Q hK
          obtain ⟨v39, v40, hs⟩ := hv
          refine wpOp_go rfl rfl hs (OpT_move rfl rfl rfl rfl) ?_
          rintro _ rfl a' w' hs'
          exact hK a' w' ⟨v39, v40, hs'.putF (i := 6) rfl [0, 1] [0, 1, 2, 3] rfl rfl rfl rfl⟩
         ·intro L a w hv K Q hK
          obtain ⟨v39, v40, hs⟩ := hv
          refine wpOp_go rfl rfl hs (OpT_call (ws_ref_Mem_Image02n0 hx68) [] [] rfl rfl rfl rfl rfl callee29 rfl rfl rfl rfl) ?_
          rintro _ ⟨v40', _, _, ⟨_, rfl, rfl, rfl⟩, rfl⟩ a' w' hs'
          exact hK a' w' ⟨v39, v40', hs'.putF (i := 7) rfl [0, 1] [0, 1, 2, 4] rfl rfl rfl rfl⟩
         ·intro L a w hv K Q hK
          obtain ⟨v39, v40, hs⟩ := hv
          refine wpOp_go rfl rfl hs (OpT_strS rfl rfl rfl rfl Try.underlying38 Try.underlying5 Try.underlying9 (i := 3) rfl) ?_
          rintro _ rfl a' w' hs'
          exact hK a' w' ⟨v39, v40, hs'.putF (i := 8) rfl [0, 1] [0, 1, 2, 3] rfl rfl rfl rfl⟩
         ·intro L a w hL hv
          rw [allTrue hL] at hv
          obtain ⟨v39, v40, hs⟩ := hv
          refine (show TA _ _ _ 6 ⟨[(0, some (vl1)), (5, some (.pointer (some ⟨b4, 0, none⟩))), (182, some (vS image5)), (185, some (vS image6))], [some (cellsR b4 62 [v28, v29]), some (rowsX u8S true v29 vs2 rows4 none)], [Fact.sl RegionS vl1 l, Fact.sl RegionS v28 mem2.l]⟩ from ?_) a w (hs.wkS [0, 5, 182, 185] [0, 1] [0, 1] rfl rfl rfl rfl)
          clear hs hL
          refine TA_step htb (by kernel_rfl) rfl rfl (OpT_bin rfl rfl rfl rfl rfl (bin_eql_s (a := image5) (b := image6))) ?_
          refine TA_step htb (by kernel_rfl) rfl rfl (OpT_move rfl rfl rfl rfl) ?_
          refine TA_wkS (fr' := [(0, some (vl1)), (5, some (.pointer (some ⟨b4, 0, none⟩))), (187, some (vB (image5 == image6)))]) (own' := [some (cellsR b4 62 [v28, v29]), some (rowsX u8S true v29 vs2 rows4 none)]) (shr' := [Fact.sl RegionS vl1 l, Fact.sl RegionS v28 mem2.l]) [0, 5, 187] [0, 1] [0, 1] rfl rfl rfl rfl ?_
          obtain ⟨hg62, h⟩ := chk_e h
          obtain ⟨region4, hx69, h⟩ := ob_e h
          refine TA_seg (lo := 8) (hi := 11) htb rfl rfl (by kernel_rfl) (fun c L a w => ∃ (v41 : Value), Sat c ⟨[(0, some (vl1)), (5, some (.pointer (some ⟨b4, 0, none⟩))), (187, some (vB (image5 == image6))), (188, bif L 8 then some (.pointer (some ⟨b4, 0, none⟩)) else none), (189, bif L 9 then some (v41) else none), (190, bif L 10 then some (vl1) else none)], [(some (cellsR b4 62 [v28, v29]) : Option Res), (some (rowsX u8S true v29 vs2 rows4 none) : Option Res)], [Fact.sl RegionS vl1 l, Fact.sl RegionS v28 mem2.l, (bif L 9 then Fact.sl RegionS v41 region4 else Fact.tt)]⟩ a w) [([], [9]), ([8], []), ([], [])] rfl (by kernel_rfl) ?_ (steps_cons ?_ (steps_cons ?_ (steps_cons ?_ (steps_nil)))) ?_
          ·intro a w hs
           exact ⟨undef, hs.startF [188, 189, 190] [0, 1] [0, 1, 2] rfl rfl rfl rfl⟩
          ·intro L a w hv K Q hK
           obtain ⟨v41, hs⟩ := hv
           refine wpOp_yes rfl rfl rfl hs (congrArg (fun b => some (Value.bool b)) hg62) (OpT_move rfl rfl rfl rfl) ?_
           rintro _ rfl a' w' hs'
           exact hK a' w' ⟨v41, hs'.putF (i := 3) rfl [0, 1] [0, 1, 2] rfl rfl rfl rfl⟩
          ·intro L a w hv K Q hK
           obtain ⟨v41, hs⟩ := hv
           refine wpOp_yes rfl rfl rfl hs (congrArg (fun b => some (Value.bool b)) hg62) (OpT_callP [2, 3] (ws_gmem_Mem_Regions hx69) [0, 1] [1] rfl rfl rfl rfl rfl callee31 rfl rfl rfl rfl rfl) ?_
           rintro _ ⟨v41', _, _, ⟨_, rfl, rfl, rfl⟩, rfl⟩ a' w' hs'
           exact hK a' w' ⟨v41', hs'.putF (i := 4) rfl [0, 1] [0, 1, 3] rfl rfl rfl rfl⟩
          ·intro L a w hv K Q hK
           obtain ⟨v41, hs⟩ := hv
           refine wpOp_yes rfl rfl rfl hs (congrArg (fun b => some (Value.bool b)) hg62) (OpT_move rfl rfl rfl rfl) ?_
           rintro _ rfl a' w' hs'
           exact hK a' w' ⟨v41, hs'.putF (i := 5) rfl [0, 1] [0, 1, 2] rfl rfl rfl rfl⟩
          ·intro L a w hL hv
           rw [allTrue hL] at hv
           obtain ⟨v41, hs⟩ := hv
           refine (show TA _ _ _ 11 ⟨[(187, some (vB (image5 == image6))), (189, some (v41)), (190, some (vl1))], [], [Fact.sl RegionS vl1 l, Fact.sl RegionS v41 region4]⟩ from ?_) a w (hs.wkS [187, 189, 190] [] [0, 2] rfl rfl rfl rfl)
           clear hs hL
           obtain ⟨samere3, hx70, h⟩ := ob_e h
           refine TA_yes htb (by kernel_rfl) rfl rfl rfl (congrArg (fun b => some (Value.bool b)) hg62) (OpT_call (w_kit_SameRegions hx70) [] [1, 0] rfl rfl rfl rfl rfl callee30 rfl rfl rfl rfl) ?_
           rintro _ ⟨_, _, _, ⟨rfl, rfl, rfl⟩, rfl⟩
           refine TA_step htb (by kernel_rfl) rfl rfl (OpT_pickT rfl rfl rfl (congrArg (fun b => some (Value.bool b)) hg62) rfl) ?_
           refine TA_step htb (by kernel_rfl) rfl rfl (OpT_assign rfl rfl rfl rfl) ?_
           refine TA_end rfl ?_
           refine Tk_wkS (fr' := [(4, some (vB samere3))]) (own' := []) (shr' := []) [4] [] [] rfl rfl rfl rfl ?_
           obtain ⟨hg63, h⟩ := chk_e h
           exact Tk_retV rfl rfl (resA (vs := [.bool true]) rfl ⟨(congrArg (fun b => some (Value.bool b)) hg63), trivial⟩) [] [] rfl rfl rfl ⟨rfl, rfl, rfl⟩
    ·refine Tk_optS (i := 2) rfl ho3 ?_
     rintro b6 v42 v43 vs3 rfl
     refine Tk_seq (Tk_seq (Tk_region (Tops_step rfl (OpT_move rfl rfl rfl rfl) ?_)))
     refine Tops_step rfl (OpT_move rfl rfl rfl rfl) ?_
     refine Tops_step rfl (OpT_bin rfl rfl rfl rfl rfl (bin_neq_i (a := new1.2) (b := new3.2))) ?_
     refine Tops_step rfl (OpT_move rfl rfl rfl rfl) ?_
     rcases Bool.eq_false_or_eq_true (new1.2 != new3.2) with hg64 | hg64
     ·replace h := br_t hg64 h
      refine Tops_no rfl rfl (congrArg (fun b => some (Value.bool b)) hg64) rfl rfl ?_
      refine Tops_no rfl rfl (congrArg (fun b => some (Value.bool b)) hg64) rfl rfl ?_
      refine Tops_no rfl rfl (congrArg (fun b => some (Value.bool b)) hg64) rfl rfl ?_
      refine Tops_no rfl rfl (congrArg (fun b => some (Value.bool b)) hg64) rfl rfl ?_
      refine Tops_step rfl (OpT_pickT rfl rfl rfl (congrArg (fun b => some (Value.bool b)) hg64) rfl) ?_
      refine Tops_step rfl (OpT_move rfl rfl rfl rfl) ?_
      refine Tops_no rfl rfl rfl rfl rfl ?_
      refine Tops_no rfl rfl rfl rfl rfl ?_
      refine Tops_step rfl (OpT_pickT rfl rfl rfl rfl rfl) ?_
      refine Tops_nil (Tk_wkS (fr' := [(0, some (vl1)), (1, some (vcalls1)), (5, some (.pointer (some ⟨b4, 0, none⟩))), (6, some (vI new1.2)), (7, some (.pointer (some ⟨b6, 0, none⟩))), (8, some (vI new3.2)), (51, some (vB true))]) (own' := [some (cellsR b4 62 [v28, v29]), some (rowsX u8S true v29 vs2 mem2.b none), some (cellsR b6 67 [v42, v43]), some (rowsX u8S false v43 vs3 mem3.B none)]) (shr' := [Fact.sl RegionS vl1 l, Fact.sl dumbwaiterlaw02_ActS vcalls1 calls, Fact.sl RegionS v28 mem2.l, Fact.sl RegionS v42 mem3.L]) [0, 1, 5, 6, 7, 8, 51] [0, 1, 2, 3] [0, 1, 2, 3] rfl rfl rfl rfl ?_)
      refine Tk_condT rfl ?_
      refine Tk_seq (Tk_region (Tops_step rfl (OpT_move rfl rfl rfl rfl) ?_))
      refine Tops_step rfl (OpT_move rfl rfl rfl rfl) ?_
      refine Tops_step rfl (OpT_bin rfl rfl rfl rfl rfl (bin_eql_i (a := new1.2) (b := new3.2))) ?_
      refine Tops_step rfl (OpT_move rfl rfl rfl rfl) ?_
      obtain ⟨hg65, h⟩ := chk_e h
      refine Tops_yes rfl rfl (congrArg (fun b => some (Value.bool b)) hg65) (OpT_move rfl rfl rfl rfl) ?_
      rintro _ rfl
      obtain ⟨check13, hx71, h⟩ := ob_e h
      refine Tops_yes rfl rfl (congrArg (fun b => some (Value.bool b)) hg65) (OpT_call (w_gmem_Check hx71) [] [0] rfl rfl rfl rfl rfl callee11 rfl rfl rfl rfl) ?_
      rintro _ ⟨_, _, _, ⟨rfl, rfl, rfl⟩, rfl⟩
      refine Tops_yes rfl rfl (congrArg (fun b => some (Value.bool b)) hg65) (OpT_move rfl rfl rfl rfl) ?_
      rintro _ rfl
      refine Tops_yes rfl rfl (congrArg (fun b => some (Value.bool b)) hg65) (OpT_bin rfl rfl rfl rfl rfl (bin_eql_i (a := check13) (b := new3.2))) ?_
      rintro _ rfl
      refine Tops_step rfl (OpT_pickT rfl rfl rfl (congrArg (fun b => some (Value.bool b)) hg65) rfl) ?_
      refine Tops_step rfl (OpT_assign rfl rfl rfl rfl) ?_
      refine Tops_nil (Tk_wkS (fr' := [(4, some (vB (check13 == new3.2)))]) (own' := []) (shr' := []) [4] [] [] rfl rfl rfl rfl ?_)
      obtain ⟨hg66, h⟩ := chk_e h
      exact Tk_retV rfl rfl (resA (vs := [.bool true]) rfl ⟨(congrArg (fun b => some (Value.bool b)) hg66), trivial⟩) [] [] rfl rfl rfl ⟨rfl, rfl, rfl⟩
     ·replace h := br_f hg64 h
      refine Tops_yes rfl rfl (congrArg (fun b => some (Value.bool b)) hg64) (OpT_move rfl rfl rfl rfl) ?_
      rintro _ rfl
      obtain ⟨check14, hx72, h⟩ := ob_e h
      refine Tops_yes rfl rfl (congrArg (fun b => some (Value.bool b)) hg64) (OpT_call (w_gmem_Check hx72) [] [0] rfl rfl rfl rfl rfl callee11 rfl rfl rfl rfl) ?_
      rintro _ ⟨_, _, _, ⟨rfl, rfl, rfl⟩, rfl⟩
      refine Tops_yes rfl rfl (congrArg (fun b => some (Value.bool b)) hg64) (OpT_move rfl rfl rfl rfl) ?_
      rintro _ rfl
      refine Tops_yes rfl rfl (congrArg (fun b => some (Value.bool b)) hg64) (OpT_bin rfl rfl rfl rfl rfl (bin_neq_i (a := check14) (b := new3.2))) ?_
      rintro _ rfl
      refine Tops_step rfl (OpT_pickF rfl rfl rfl (congrArg (fun b => some (Value.bool b)) hg64) rfl) ?_
      refine Tops_step rfl (OpT_move rfl rfl rfl rfl) ?_
      rcases Bool.eq_false_or_eq_true (check14 != new3.2) with hg67 | hg67
      ·replace h := br_t hg67 h
       refine Tops_no rfl rfl (congrArg (fun b => some (Value.bool b)) hg67) rfl rfl ?_
       refine Tops_no rfl rfl (congrArg (fun b => some (Value.bool b)) hg67) rfl rfl ?_
       refine Tops_step rfl (OpT_pickT rfl rfl rfl (congrArg (fun b => some (Value.bool b)) hg67) rfl) ?_
       refine Tops_nil (Tk_wkS (fr' := [(0, some (vl1)), (1, some (vcalls1)), (5, some (.pointer (some ⟨b4, 0, none⟩))), (6, some (vI new1.2)), (7, some (.pointer (some ⟨b6, 0, none⟩))), (8, some (vI new3.2)), (51, some (vB true))]) (own' := [some (cellsR b4 62 [v28, v29]), some (rowsX u8S true v29 vs2 mem2.b none), some (cellsR b6 67 [v42, v43]), some (rowsX u8S false v43 vs3 mem3.B none)]) (shr' := [Fact.sl RegionS vl1 l, Fact.sl dumbwaiterlaw02_ActS vcalls1 calls, Fact.sl RegionS v28 mem2.l, Fact.sl RegionS v42 mem3.L]) [0, 1, 5, 6, 7, 8, 51] [0, 1, 2, 3] [0, 1, 2, 3] rfl rfl rfl rfl ?_)
       refine Tk_condT rfl ?_
       refine Tk_seq (Tk_region (Tops_step rfl (OpT_move rfl rfl rfl rfl) ?_))
       refine Tops_step rfl (OpT_move rfl rfl rfl rfl) ?_
       refine Tops_step rfl (OpT_bin rfl rfl rfl rfl rfl (bin_eql_i (a := new1.2) (b := new3.2))) ?_
       refine Tops_step rfl (OpT_move rfl rfl rfl rfl) ?_
       obtain ⟨hg68, h⟩ := chk_e h
       refine Tops_yes rfl rfl (congrArg (fun b => some (Value.bool b)) hg68) (OpT_move rfl rfl rfl rfl) ?_
       rintro _ rfl
       obtain ⟨check15, hx73, h⟩ := ob_e h
       refine Tops_yes rfl rfl (congrArg (fun b => some (Value.bool b)) hg68) (OpT_call (w_gmem_Check hx73) [] [0] rfl rfl rfl rfl rfl callee11 rfl rfl rfl rfl) ?_
       rintro _ ⟨_, _, _, ⟨rfl, rfl, rfl⟩, rfl⟩
       refine Tops_yes rfl rfl (congrArg (fun b => some (Value.bool b)) hg68) (OpT_move rfl rfl rfl rfl) ?_
       rintro _ rfl
       refine Tops_yes rfl rfl (congrArg (fun b => some (Value.bool b)) hg68) (OpT_bin rfl rfl rfl rfl rfl (bin_eql_i (a := check15) (b := new3.2))) ?_
       rintro _ rfl
       refine Tops_step rfl (OpT_pickT rfl rfl rfl (congrArg (fun b => some (Value.bool b)) hg68) rfl) ?_
       refine Tops_step rfl (OpT_assign rfl rfl rfl rfl) ?_
       refine Tops_nil (Tk_wkS (fr' := [(4, some (vB (check15 == new3.2)))]) (own' := []) (shr' := []) [4] [] [] rfl rfl rfl rfl ?_)
       obtain ⟨hg69, h⟩ := chk_e h
       exact Tk_retV rfl rfl (resA (vs := [.bool true]) rfl ⟨(congrArg (fun b => some (Value.bool b)) hg69), trivial⟩) [] [] rfl rfl rfl ⟨rfl, rfl, rfl⟩
      ·replace h := br_f hg67 h
       refine Tops_yes rfl rfl (congrArg (fun b => some (Value.bool b)) hg67) (OpT_move rfl rfl rfl rfl) ?_
       rintro _ rfl
       refine Tops_yes rfl rfl (congrArg (fun b => some (Value.bool b)) hg67) (OpT_bin rfl rfl rfl rfl rfl (bin_neq_i (a := new3.2) (b := (0 : Int)))) ?_
       rintro _ rfl
       refine Tops_step rfl (OpT_pickF rfl rfl rfl (congrArg (fun b => some (Value.bool b)) hg67) rfl) ?_
       refine Tops_nil (Tk_wkS (fr' := [(0, some (vl1)), (1, some (vcalls1)), (5, some (.pointer (some ⟨b4, 0, none⟩))), (6, some (vI new1.2)), (7, some (.pointer (some ⟨b6, 0, none⟩))), (8, some (vI new3.2)), (51, some (vB (new3.2 != (0 : Int))))]) (own' := [some (cellsR b4 62 [v28, v29]), some (rowsX u8S true v29 vs2 mem2.b none), some (cellsR b6 67 [v42, v43]), some (rowsX u8S false v43 vs3 mem3.B none)]) (shr' := [Fact.sl RegionS vl1 l, Fact.sl dumbwaiterlaw02_ActS vcalls1 calls, Fact.sl RegionS v28 mem2.l, Fact.sl RegionS v42 mem3.L]) [0, 1, 5, 6, 7, 8, 51] [0, 1, 2, 3] [0, 1, 2, 3] rfl rfl rfl rfl ?_)
       rcases Bool.eq_false_or_eq_true (new3.2 != (0 : Int)) with hg70 | hg70
       ·replace h := br_t hg70 h
        refine Tk_condT (congrArg (fun b => some (Value.bool b)) hg70) ?_
        refine Tk_seq (Tk_region (Tops_step rfl (OpT_move rfl rfl rfl rfl) ?_))
        refine Tops_step rfl (OpT_move rfl rfl rfl rfl) ?_
        refine Tops_step rfl (OpT_bin rfl rfl rfl rfl rfl (bin_eql_i (a := new1.2) (b := new3.2))) ?_
        refine Tops_step rfl (OpT_move rfl rfl rfl rfl) ?_
        obtain ⟨hg71, h⟩ := chk_e h
        refine Tops_yes rfl rfl (congrArg (fun b => some (Value.bool b)) hg71) (OpT_move rfl rfl rfl rfl) ?_
        rintro _ rfl
        obtain ⟨check16, hx74, h⟩ := ob_e h
        refine Tops_yes rfl rfl (congrArg (fun b => some (Value.bool b)) hg71) (OpT_call (w_gmem_Check hx74) [] [0] rfl rfl rfl rfl rfl callee11 rfl rfl rfl rfl) ?_
        rintro _ ⟨_, _, _, ⟨rfl, rfl, rfl⟩, rfl⟩
        refine Tops_yes rfl rfl (congrArg (fun b => some (Value.bool b)) hg71) (OpT_move rfl rfl rfl rfl) ?_
        rintro _ rfl
        refine Tops_yes rfl rfl (congrArg (fun b => some (Value.bool b)) hg71) (OpT_bin rfl rfl rfl rfl rfl (bin_eql_i (a := check16) (b := new3.2))) ?_
        rintro _ rfl
        refine Tops_step rfl (OpT_pickT rfl rfl rfl (congrArg (fun b => some (Value.bool b)) hg71) rfl) ?_
        refine Tops_step rfl (OpT_assign rfl rfl rfl rfl) ?_
        refine Tops_nil (Tk_wkS (fr' := [(4, some (vB (check16 == new3.2)))]) (own' := []) (shr' := []) [4] [] [] rfl rfl rfl rfl ?_)
        obtain ⟨hg72, h⟩ := chk_e h
        exact Tk_retV rfl rfl (resA (vs := [.bool true]) rfl ⟨(congrArg (fun b => some (Value.bool b)) hg72), trivial⟩) [] [] rfl rfl rfl ⟨rfl, rfl, rfl⟩
       ·replace h := br_f hg70 h
        refine Tk_condF (congrArg (fun b => some (Value.bool b)) hg70) ?_
        refine Tk_skip (Tk_seq (Tk_seq (Tk_region (Tops_step rfl (OpT_assign rfl rfl rfl rfl) ?_))))
        refine Tops_nil (Tk_wkS (fr' := [(0, some (vl1)), (1, some (vcalls1)), (5, some (.pointer (some ⟨b4, 0, none⟩))), (6, some (vI new1.2)), (7, some (.pointer (some ⟨b6, 0, none⟩))), (8, some (vI new3.2)), (9, some (vI (0 : Int)))]) (own' := [some (cellsR b4 62 [v28, v29]), some (rowsX u8S true v29 vs2 mem2.b none), some (cellsR b6 67 [v42, v43]), some (rowsX u8S false v43 vs3 mem3.B none)]) (shr' := [Fact.sl RegionS vl1 l, Fact.sl dumbwaiterlaw02_ActS vcalls1 calls, Fact.sl RegionS v28 mem2.l, Fact.sl RegionS v42 mem3.L]) [0, 1, 5, 6, 7, 8, 9] [0, 1, 2, 3] [0, 1, 2, 3] rfl rfl rfl rfl ?_)
        refine Tk_block (Tk_loopS (σ := (List (List UInt8)) × Int × (List (List UInt8)) × Int × Int) [0, 1, 5, 6, 7, 8, 9] [0, 1, 2, 3] [0, 1, 2, 3] (fun s => ⟨[(0, some (vl1)), (1, some (vcalls1)), (5, some (.pointer (some ⟨b4, 0, none⟩))), (6, some (vI s.2.1)), (7, some (.pointer (some ⟨b6, 0, none⟩))), (8, some (vI s.2.2.2.1)), (9, some (vI s.2.2.2.2))], [some (cellsR b4 62 [v28, v29]), some (rowsX u8S true v29 vs2 s.1 none), some (cellsR b6 67 [v42, v43]), some (rowsX u8S false v43 vs3 s.2.2.1 none)], [Fact.sl RegionS vl1 l, Fact.sl dumbwaiterlaw02_ActS vcalls1 calls, Fact.sl RegionS v28 mem2.l, Fact.sl RegionS v42 mem3.L]⟩) (fun nf10 s => law02zGmemScriptL10 l calls mem2 mem3 nf10 s.1 s.2.1 s.2.2.1 s.2.2.2.1 s.2.2.2.2 = some true) fuel (mem2.b, new1.2, mem3.B, new3.2, (0 : Int)) h rfl rfl rfl rfl rfl (fun s h => by cases h) ?_)
        rintro nf10 ⟨rows7, e10, rows8, f10, i4⟩ h
        replace h : law02zGmemScriptL10B l calls mem2 mem3 (law02zGmemScriptL10 l calls mem2 mem3 nf10) rows7 e10 rows8 f10 i4 = some true := h
        unfold law02zGmemScriptL10B at h
        refine Tk_seq (Tk_seq (Tk_region (Tops_step rfl (OpT_move rfl rfl rfl rfl) ?_)))
        refine Tops_step rfl (OpT_move rfl rfl rfl rfl) ?_
        refine Tops_step rfl (OpT_lenS rfl rfl rfl rfl Try.underlying23 (i := 1) rfl) ?_
        refine Tops_step rfl (OpT_bin rfl rfl rfl rfl rfl (bin_lss_i (a := i4) (b := len calls))) ?_
        refine Tops_nil (Tk_wkS (fr' := [(0, some (vl1)), (1, some (vcalls1)), (5, some (.pointer (some ⟨b4, 0, none⟩))), (6, some (vI e10)), (7, some (.pointer (some ⟨b6, 0, none⟩))), (8, some (vI f10)), (9, some (vI i4)), (64, some (vB (decide (i4 < (len calls)))))]) (own' := [some (cellsR b4 62 [v28, v29]), some (rowsX u8S true v29 vs2 rows7 none), some (cellsR b6 67 [v42, v43]), some (rowsX u8S false v43 vs3 rows8 none)]) (shr' := [Fact.sl RegionS vl1 l, Fact.sl dumbwaiterlaw02_ActS vcalls1 calls, Fact.sl RegionS v28 mem2.l, Fact.sl RegionS v42 mem3.L]) [0, 1, 5, 6, 7, 8, 9, 64] [0, 1, 2, 3] [0, 1, 2, 3] rfl rfl rfl rfl ?_)
        rcases Bool.eq_false_or_eq_true (decide (i4 < (len calls))) with hg73 | hg73
        ·replace h := br_t hg73 h
         refine Tk_condT (congrArg (fun b => some (Value.bool b)) hg73) ?_
         refine Tk_skip (Tk_seq (Tk_block (Tk_seq (Tk_region (Tops_step rfl (OpT_move rfl rfl rfl rfl) ?_)))))
         refine Tops_step rfl (OpT_move rfl rfl rfl rfl) ?_
         obtain ⟨d4, hx75, h⟩ := ob_e h
         refine Tops_ex rfl (OpT_idxS rfl rfl rfl rfl rfl slF23 (i := 1) rfl hx75) fun p10 => ?_
         refine Tops_ex rfl (OpT_loadP1 rfl rfl rfl rfl tyF40 (i := 4) rfl) fun v44 => ?_
         refine Tops_ex rfl (OpT_alloc rfl rfl rfl tyZ40) fun b7 => ?_
         refine Tops_step rfl (OpT_storeA1 (fun z0 => [vI d4.Kind, vU64 d4.At, vI d4.N, vU64 d4.V, z0]) (cs' := [vI d4.Kind, vU64 d4.At, vI d4.N, vU64 d4.V, v44]) rfl rfl rfl rfl tyF40 (i := 4) rfl (is_sl (i := 5) rfl) (fun _ _ _ => rfl) rfl rfl rfl) ?_
         refine Tops_nil (Tk_wkS (fr' := [(0, some (vl1)), (1, some (vcalls1)), (5, some (.pointer (some ⟨b4, 0, none⟩))), (6, some (vI e10)), (7, some (.pointer (some ⟨b6, 0, none⟩))), (8, some (vI f10)), (9, some (vI i4)), (10, some (.pointer (some ⟨b7, 0, none⟩)))]) (own' := [some (cellsR b4 62 [v28, v29]), some (rowsX u8S true v29 vs2 rows7 none), some (cellsR b6 67 [v42, v43]), some (rowsX u8S false v43 vs3 rows8 none), some (cellsR b7 40 [vI d4.Kind, vU64 d4.At, vI d4.N, vU64 d4.V, v44])]) (shr' := [Fact.sl RegionS vl1 l, Fact.sl dumbwaiterlaw02_ActS vcalls1 calls, Fact.sl RegionS v28 mem2.l, Fact.sl RegionS v42 mem3.L, Fact.sl u8S v44 d4.B]) [0, 1, 5, 6, 7, 8, 9, 10] [0, 1, 2, 3, 4] [0, 1, 2, 3, 5] rfl rfl rfl rfl ?_)
         refine Tk_seq (Tk_region (Tops_step rfl (OpT_assign rfl rfl rfl rfl) ?_))
         refine Tops_step rfl (OpT_assign rfl rfl rfl rfl) ?_
         refine Tops_step rfl (OpT_assign rfl rfl rfl rfl) ?_
         refine Tops_step rfl (OpT_assign rfl rfl rfl rfl) ?_
         refine Tops_nil (Tk_seq (Tk_region (Tops_step rfl (OpT_assign rfl rfl rfl rfl) ?_)))
         refine Tops_step rfl (OpT_assign rfl rfl rfl rfl) ?_
         refine Tops_nil (Tk_seq (Tk_seq (Tk_region (Tops_step rfl (OpT_fieldC rfl rfl rfl rfl fldF40x0) ?_))))
         refine Tops_step rfl (OpT_loadC rfl rfl rfl rfl tyF3 (i := 4) rfl rfl) ?_
         obtain ⟨pick4, hx76, h⟩ := ob_e h
         refine Tops_exP rfl (OpT_call (w_kit_Pick hx76) [] [] rfl rfl rfl rfl rfl callee15 rfl rfl rfl rfl) ?_
         rintro _ ⟨_, _, _, ⟨rfl, rfl, rfl⟩, rfl⟩
         refine Tops_nil (Tk_wkS (fr' := [(0, some (vl1)), (1, some (vcalls1)), (5, some (.pointer (some ⟨b4, 0, none⟩))), (6, some (vI e10)), (7, some (.pointer (some ⟨b6, 0, none⟩))), (8, some (vI f10)), (9, some (vI i4)), (10, some (.pointer (some ⟨b7, 0, none⟩))), (11, some (vU64 (0 : UInt64))), (12, some (vU64 (0 : UInt64))), (13, some (vB false)), (14, some (vB false)), (15, some (.slice none 0 0)), (16, some (.slice none 0 0)), (73, some (vI pick4))]) (own' := [some (cellsR b4 62 [v28, v29]), some (rowsX u8S true v29 vs2 rows7 none), some (cellsR b6 67 [v42, v43]), some (rowsX u8S false v43 vs3 rows8 none), some (cellsR b7 40 [vI d4.Kind, vU64 d4.At, vI d4.N, vU64 d4.V, v44])]) (shr' := [Fact.sl RegionS vl1 l, Fact.sl dumbwaiterlaw02_ActS vcalls1 calls, Fact.sl RegionS v28 mem2.l, Fact.sl RegionS v42 mem3.L, Fact.sl u8S v44 d4.B]) [0, 1, 5, 6, 7, 8, 9, 10, 11, 12, 13, 14, 15, 16, 73] [0, 1, 2, 3, 4] [0, 1, 2, 3, 4] rfl rfl rfl rfl ?_)
         refine Tk_join (α := (List (List UInt8)) × Int × (List (List UInt8)) × Int × UInt64 × UInt64 × Bool × Bool × (List UInt8) × (List UInt8) × Value × Value) (fun s => ⟨[(0, some (vl1)), (1, some (vcalls1)), (5, some (.pointer (some ⟨b4, 0, none⟩))), (6, some (vI s.2.1)), (7, some (.pointer (some ⟨b6, 0, none⟩))), (8, some (vI s.2.2.2.1)), (9, some (vI i4)), (11, some (vU64 s.2.2.2.2.1)), (12, some (vU64 s.2.2.2.2.2.1)), (13, some (vB s.2.2.2.2.2.2.1)), (14, some (vB s.2.2.2.2.2.2.2.1)), (15, some (s.2.2.2.2.2.2.2.2.2.2.1)), (16, some (s.2.2.2.2.2.2.2.2.2.2.2))], [some (cellsR b4 62 [v28, v29]), some (rowsX u8S true v29 vs2 s.1 none), some (cellsR b6 67 [v42, v43]), some (rowsX u8S false v43 vs3 s.2.2.1 none)], [Fact.sl RegionS vl1 l, Fact.sl dumbwaiterlaw02_ActS vcalls1 calls, Fact.sl RegionS v28 mem2.l, Fact.sl RegionS v42 mem3.L, Fact.sl u8S s.2.2.2.2.2.2.2.2.2.2.1 s.2.2.2.2.2.2.2.2.1, Fact.sl u8S s.2.2.2.2.2.2.2.2.2.2.2 s.2.2.2.2.2.2.2.2.2.1]⟩) (fun s => law02zGmemScriptJ11 i4 (law02zGmemScriptL10 l calls mem2 mem3 nf10) s.1 s.2.1 s.2.2.1 s.2.2.2.1 s.2.2.2.2.1 s.2.2.2.2.2.1 s.2.2.2.2.2.2.1 s.2.2.2.2.2.2.2.1 s.2.2.2.2.2.2.2.2.1 s.2.2.2.2.2.2.2.2.2.1 = some true) ?_ ?_
         ·rintro ⟨rows9, e11, rows10, f11, x7, y7, is7, also7, p11, q7, v45, v46⟩ h
          replace h : law02zGmemScriptJ11 i4 (law02zGmemScriptL10 l calls mem2 mem3 nf10) rows9 e11 rows10 f11 x7 y7 is7 also7 p11 q7 = some true := h
          unfold law02zGmemScriptJ11 at h
          refine Tk_seq (Tk_region (Tops_step rfl (OpT_move rfl rfl rfl rfl) ?_))
          refine Tops_step rfl (OpT_move rfl rfl rfl rfl) ?_
          refine Tops_step rfl (OpT_bin rfl rfl rfl rfl rfl (bin_neq_u64 (a := x7) (b := y7))) ?_
          refine Tops_step rfl (OpT_move rfl rfl rfl rfl) ?_
          obtain ⟨hg74, h⟩ := chk_e h
          replace hg74 := not_t hg74
          refine Tops_yes rfl rfl (congrArg (fun b => some (Value.bool b)) hg74) (OpT_move rfl rfl rfl rfl) ?_
          rintro _ rfl
          refine Tops_yes rfl rfl (congrArg (fun b => some (Value.bool b)) hg74) (OpT_move rfl rfl rfl rfl) ?_
          rintro _ rfl
          refine Tops_yes rfl rfl (congrArg (fun b => some (Value.bool b)) hg74) (OpT_bin rfl rfl rfl rfl rfl (bin_neq_i (a := e11) (b := f11))) ?_
          rintro _ rfl
          refine Tops_step rfl (OpT_pickF rfl rfl rfl (congrArg (fun b => some (Value.bool b)) hg74) rfl) ?_
          refine Tops_step rfl (OpT_move rfl rfl rfl rfl) ?_
          obtain ⟨hg75, h⟩ := chk_e h
          replace hg75 := not_t hg75
          refine Tops_yes rfl rfl (congrArg (fun b => some (Value.bool b)) hg75) (OpT_move rfl rfl rfl rfl) ?_
          rintro _ rfl
          refine Tops_yes rfl rfl (congrArg (fun b => some (Value.bool b)) hg75) (OpT_strS rfl rfl rfl rfl Try.underlying38 Try.underlying5 Try.underlying9 (i := 4) rfl) ?_
          rintro _ rfl
          refine Tops_yes rfl rfl (congrArg (fun b => some (Value.bool b)) hg75) (OpT_move rfl rfl rfl rfl) ?_
          rintro _ rfl
          refine Tops_yes rfl rfl (congrArg (fun b => some (Value.bool b)) hg75) (OpT_strS rfl rfl rfl rfl Try.underlying38 Try.underlying5 Try.underlying9 (i := 5) rfl) ?_
          rintro _ rfl
          refine Tops_yes rfl rfl (congrArg (fun b => some (Value.bool b)) hg75) (OpT_bin rfl rfl rfl rfl rfl (bin_neq_s (a := p11) (b := q7))) ?_
          rintro _ rfl
          refine Tops_step rfl (OpT_pickF rfl rfl rfl (congrArg (fun b => some (Value.bool b)) hg75) rfl) ?_
          refine Tops_step rfl (OpT_move rfl rfl rfl rfl) ?_
          obtain ⟨hg76, h⟩ := chk_e h
          replace hg76 := not_t hg76
          refine Tops_yes rfl rfl (congrArg (fun b => some (Value.bool b)) hg76) (OpT_move rfl rfl rfl rfl) ?_
          rintro _ rfl
          refine Tops_yes rfl rfl (congrArg (fun b => some (Value.bool b)) hg76) (OpT_move rfl rfl rfl rfl) ?_
          rintro _ rfl
          refine Tops_yes rfl rfl (congrArg (fun b => some (Value.bool b)) hg76) (OpT_bin rfl rfl rfl rfl rfl (bin_neq_b (a := is7) (b := also7) Try.underlying4)) ?_
          rintro _ rfl
          refine Tops_step rfl (OpT_pickF rfl rfl rfl (congrArg (fun b => some (Value.bool b)) hg76) rfl) ?_
          refine Tops_nil (Tk_wkS (fr' := [(0, some (vl1)), (1, some (vcalls1)), (5, some (.pointer (some ⟨b4, 0, none⟩))), (6, some (vI e11)), (7, some (.pointer (some ⟨b6, 0, none⟩))), (8, some (vI f11)), (9, some (vI i4)), (179, some (vB (is7 != also7)))]) (own' := [some (cellsR b4 62 [v28, v29]), some (rowsX u8S true v29 vs2 rows9 none), some (cellsR b6 67 [v42, v43]), some (rowsX u8S false v43 vs3 rows10 none)]) (shr' := [Fact.sl RegionS vl1 l, Fact.sl dumbwaiterlaw02_ActS vcalls1 calls, Fact.sl RegionS v28 mem2.l, Fact.sl RegionS v42 mem3.L]) [0, 1, 5, 6, 7, 8, 9, 179] [0, 1, 2, 3] [0, 1, 2, 3] rfl rfl rfl rfl ?_)
          obtain ⟨hg77, h⟩ := chk_e h
          replace hg77 := not_t hg77
          refine Tk_condF (congrArg (fun b => some (Value.bool b)) hg77) ?_
          refine Tk_skip (Tk_blk (Tk_region (Tops_step rfl (OpT_move rfl rfl rfl rfl) ?_)))
          refine Tops_step rfl (OpT_bin rfl rfl rfl rfl rfl (bin_add_i (a := i4) (b := (1 : Int)))) ?_
          refine Tops_step rfl (OpT_assign rfl rfl rfl rfl) ?_
          refine Tops_nil (Tk_wkS (fr' := [(0, some (vl1)), (1, some (vcalls1)), (5, some (.pointer (some ⟨b4, 0, none⟩))), (6, some (vI e11)), (7, some (.pointer (some ⟨b6, 0, none⟩))), (8, some (vI f11)), (9, some (vI (wi (i4 + (1 : Int)))))]) (own' := [some (cellsR b4 62 [v28, v29]), some (rowsX u8S true v29 vs2 rows9 none), some (cellsR b6 67 [v42, v43]), some (rowsX u8S false v43 vs3 rows10 none)]) (shr' := [Fact.sl RegionS vl1 l, Fact.sl dumbwaiterlaw02_ActS vcalls1 calls, Fact.sl RegionS v28 mem2.l, Fact.sl RegionS v42 mem3.L]) [0, 1, 5, 6, 7, 8, 9] [0, 1, 2, 3] [0, 1, 2, 3] rfl rfl rfl rfl ?_)
          exact Tk_backS (rows9, e11, rows10, f11, wi (i4 + (1 : Int))) h [0, 1, 5, 6, 7, 8, 9] [0, 1, 2, 3] [0, 1, 2, 3] rfl rfl rfl rfl rfl
         ·intro HJ7
          refine Tk_block (Tk_seq (Tk_region (Tops_step rfl (OpT_bin rfl rfl rfl rfl rfl (bin_eql_i (a := pick4) (b := (0 : Int)))) ?_)))
          refine Tops_step rfl (OpT_assign rfl rfl rfl rfl) ?_
          refine Tops_nil (Tk_wkS (fr' := [(0, some (vl1)), (1, some (vcalls1)), (5, some (.pointer (some ⟨b4, 0, none⟩))), (6, some (vI e10)), (7, some (.pointer (some ⟨b6, 0, none⟩))), (8, some (vI f10)), (9, some (vI i4)), (10, some (.pointer (some ⟨b7, 0, none⟩))), (11, some (vU64 (0 : UInt64))), (12, some (vU64 (0 : UInt64))), (13, some (vB false)), (14, some (vB false)), (15, some (.slice none 0 0)), (16, some (.slice none 0 0)), (73, some (vI pick4)), (86, some (vB (pick4 == (0 : Int))))]) (own' := [some (cellsR b4 62 [v28, v29]), some (rowsX u8S true v29 vs2 rows7 none), some (cellsR b6 67 [v42, v43]), some (rowsX u8S false v43 vs3 rows8 none), some (cellsR b7 40 [vI d4.Kind, vU64 d4.At, vI d4.N, vU64 d4.V, v44])]) (shr' := [Fact.sl RegionS vl1 l, Fact.sl dumbwaiterlaw02_ActS vcalls1 calls, Fact.sl RegionS v28 mem2.l, Fact.sl RegionS v42 mem3.L, Fact.sl u8S v44 d4.B]) [0, 1, 5, 6, 7, 8, 9, 10, 11, 12, 13, 14, 15, 16, 73, 86] [0, 1, 2, 3, 4] [0, 1, 2, 3, 4] rfl rfl rfl rfl ?_)
          refine Tk_join (α := (List (List UInt8)) × Int × (List (List UInt8)) × Int × UInt64 × UInt64 × Bool × Bool × (List UInt8) × (List UInt8) × Value × Value) (fun s => ⟨[(0, some (vl1)), (1, some (vcalls1)), (5, some (.pointer (some ⟨b4, 0, none⟩))), (6, some (vI s.2.1)), (7, some (.pointer (some ⟨b6, 0, none⟩))), (8, some (vI s.2.2.2.1)), (9, some (vI i4)), (11, some (vU64 s.2.2.2.2.1)), (12, some (vU64 s.2.2.2.2.2.1)), (13, some (vB s.2.2.2.2.2.2.1)), (14, some (vB s.2.2.2.2.2.2.2.1)), (15, some (s.2.2.2.2.2.2.2.2.2.2.1)), (16, some (s.2.2.2.2.2.2.2.2.2.2.2))], [some (cellsR b4 62 [v28, v29]), some (rowsX u8S true v29 vs2 s.1 none), some (cellsR b6 67 [v42, v43]), some (rowsX u8S false v43 vs3 s.2.2.1 none)], [Fact.sl RegionS vl1 l, Fact.sl dumbwaiterlaw02_ActS vcalls1 calls, Fact.sl RegionS v28 mem2.l, Fact.sl RegionS v42 mem3.L, Fact.sl u8S s.2.2.2.2.2.2.2.2.2.2.1 s.2.2.2.2.2.2.2.2.1, Fact.sl u8S s.2.2.2.2.2.2.2.2.2.2.2 s.2.2.2.2.2.2.2.2.2.1]⟩) (fun s => law02zGmemScriptJ12 i4 (law02zGmemScriptL10 l calls mem2 mem3 nf10) s.1 s.2.1 s.2.2.1 s.2.2.2.1 s.2.2.2.2.1 s.2.2.2.2.2.1 s.2.2.2.2.2.2.1 s.2.2.2.2.2.2.2.1 s.2.2.2.2.2.2.2.2.1 s.2.2.2.2.2.2.2.2.2.1 = some true) ?_ ?_
          ·rintro ⟨rows11, e12, rows12, f12, x8, y8, is8, also8, p12, q8, v47, v48⟩ h
           replace h : law02zGmemScriptJ12 i4 (law02zGmemScriptL10 l calls mem2 mem3 nf10) rows11 e12 rows12 f12 x8 y8 is8 also8 p12 q8 = some true := h
           unfold law02zGmemScriptJ12 at h
           refine Tk_blk ?_
           exact Tk_jmpS (HJ7 (rows11, e12, rows12, f12, x8, y8, is8, also8, p12, q8, v47, v48) h) [0, 1, 5, 6, 7, 8, 9, 11, 12, 13, 14, 15, 16] [0, 1, 2, 3] [0, 1, 2, 3, 4, 5] rfl rfl rfl rfl
          ·intro HJ8
           rcases Bool.eq_false_or_eq_true (pick4 == (0 : Int)) with hg78 | hg78
           ·replace h := br_t hg78 h
            refine Tk_condT (congrArg (fun b => some (Value.bool b)) hg78) ?_
            refine Tk_seq (Tk_region (Tops_step rfl (OpT_move rfl rfl rfl rfl) ?_))
            refine Tops_step rfl (OpT_fieldC rfl rfl rfl rfl fldF40x1) ?_
            refine Tops_step rfl (OpT_loadC rfl rfl rfl rfl tyF26 (i := 4) rfl rfl) ?_
            refine Tops_step rfl (OpT_fieldC rfl rfl rfl rfl fldF40x2) ?_
            refine Tops_step rfl (OpT_loadC rfl rfl rfl rfl tyF3 (i := 4) rfl rfl) ?_
            obtain ⟨load7, hx77, h⟩ := ob_e h
            refine Tops_exP rfl (OpT_callP [5, 6, 2, 3, 4] (w_gmem_Mem_Load hx77) [0, 1] [2] rfl rfl rfl rfl rfl callee16 rfl rfl rfl rfl rfl) ?_
            rintro _ ⟨_, _, _, ⟨rfl, rfl, rfl⟩, rfl⟩
            refine Tops_step rfl (OpT_move rfl rfl rfl rfl) ?_
            refine Tops_step rfl (OpT_extract rfl rfl rfl rfl rfl) ?_
            refine Tops_step rfl (OpT_extract rfl rfl rfl rfl rfl) ?_
            refine Tops_step rfl (OpT_assign rfl rfl rfl rfl) ?_
            refine Tops_step rfl (OpT_assign rfl rfl rfl rfl) ?_
            refine Tops_nil (Tk_wkS (fr' := [(0, some (vl1)), (1, some (vcalls1)), (5, some (.pointer (some ⟨b4, 0, none⟩))), (6, some (vI load7.2)), (7, some (.pointer (some ⟨b6, 0, none⟩))), (9, some (vI i4)), (10, some (.pointer (some ⟨b7, 0, none⟩))), (11, some (vU64 load7.1)), (13, some (vB false)), (14, some (vB false)), (15, some (.slice none 0 0)), (16, some (.slice none 0 0))]) (own' := [some (cellsR b4 62 [v28, v29]), some (rowsX u8S true v29 vs2 rows7 none), some (cellsR b6 67 [v42, v43]), some (rowsX u8S false v43 vs3 rows8 none), some (cellsR b7 40 [vI d4.Kind, vU64 d4.At, vI d4.N, vU64 d4.V, v44])]) (shr' := [Fact.sl RegionS vl1 l, Fact.sl dumbwaiterlaw02_ActS vcalls1 calls, Fact.sl RegionS v28 mem2.l, Fact.sl RegionS v42 mem3.L, Fact.sl u8S v44 d4.B]) [0, 1, 5, 6, 7, 9, 10, 11, 13, 14, 15, 16] [0, 1, 2, 3, 4] [0, 1, 2, 3, 4] rfl rfl rfl rfl ?_)
            refine Tk_region (Tops_step rfl (OpT_move rfl rfl rfl rfl) ?_)
            refine Tops_step rfl (OpT_fieldC rfl rfl rfl rfl fldF40x1) ?_
            refine Tops_step rfl (OpT_loadC rfl rfl rfl rfl tyF26 (i := 4) rfl rfl) ?_
            refine Tops_step rfl (OpT_fieldC rfl rfl rfl rfl fldF40x2) ?_
            refine Tops_step rfl (OpT_loadC rfl rfl rfl rfl tyF3 (i := 4) rfl rfl) ?_
            obtain ⟨load8, hx78, h⟩ := ob_e h
            refine Tops_exP rfl (OpT_callP [0, 1, 5, 6, 4] (w_ref_Mem_Load02 hx78) [2, 3] [3] rfl rfl rfl rfl rfl callee24 rfl rfl rfl rfl rfl) ?_
            rintro _ ⟨_, _, _, ⟨rfl, rfl, rfl⟩, rfl⟩
            refine Tops_step rfl (OpT_move rfl rfl rfl rfl) ?_
            refine Tops_step rfl (OpT_extract rfl rfl rfl rfl rfl) ?_
            refine Tops_step rfl (OpT_extract rfl rfl rfl rfl rfl) ?_
            refine Tops_step rfl (OpT_assign rfl rfl rfl rfl) ?_
            refine Tops_step rfl (OpT_assign rfl rfl rfl rfl) ?_
            refine Tops_nil (Tk_wkS (fr' := [(0, some (vl1)), (1, some (vcalls1)), (5, some (.pointer (some ⟨b4, 0, none⟩))), (6, some (vI load7.2)), (7, some (.pointer (some ⟨b6, 0, none⟩))), (9, some (vI i4)), (11, some (vU64 load7.1)), (13, some (vB false)), (14, some (vB false)), (15, some (.slice none 0 0)), (16, some (.slice none 0 0)), (12, some (vU64 load8.1)), (8, some (vI load8.2))]) (own' := [some (cellsR b4 62 [v28, v29]), some (rowsX u8S true v29 vs2 rows7 none), some (cellsR b6 67 [v42, v43]), some (rowsX u8S false v43 vs3 rows8 none)]) (shr' := [Fact.sl RegionS vl1 l, Fact.sl dumbwaiterlaw02_ActS vcalls1 calls, Fact.sl RegionS v28 mem2.l, Fact.sl RegionS v42 mem3.L]) [0, 1, 5, 6, 7, 9, 11, 13, 14, 15, 16, 12, 8] [0, 1, 2, 3] [0, 1, 2, 3] rfl rfl rfl rfl ?_)
            refine Tk_nilfact u8S ?_
            refine Tk_nilfact u8S ?_
            exact Tk_jmpS (HJ8 (rows7, load7.2, rows8, load8.2, load7.1, load8.1, false, false, ([] : List UInt8), ([] : List UInt8), .slice none 0 0, .slice none 0 0) h) [0, 1, 5, 6, 7, 8, 9, 11, 12, 13, 14, 15, 16] [0, 1, 2, 3] [0, 1, 2, 3, 4, 5] rfl rfl rfl rfl
           ·replace h := br_f hg78 h
            refine Tk_condF (congrArg (fun b => some (Value.bool b)) hg78) ?_
            refine Tk_seq (Tk_region (Tops_step rfl (OpT_bin rfl rfl rfl rfl rfl (bin_eql_i (a := pick4) (b := (1 : Int)))) ?_))
            refine Tops_step rfl (OpT_assign rfl rfl rfl rfl) ?_
            refine Tops_nil (Tk_wkS (fr' := [(0, some (vl1)), (1, some (vcalls1)), (5, some (.pointer (some ⟨b4, 0, none⟩))), (6, some (vI e10)), (7, some (.pointer (some ⟨b6, 0, none⟩))), (8, some (vI f10)), (9, some (vI i4)), (10, some (.pointer (some ⟨b7, 0, none⟩))), (11, some (vU64 (0 : UInt64))), (12, some (vU64 (0 : UInt64))), (13, some (vB false)), (14, some (vB false)), (15, some (.slice none 0 0)), (16, some (.slice none 0 0)), (73, some (vI pick4)), (106, some (vB (pick4 == (1 : Int))))]) (own' := [some (cellsR b4 62 [v28, v29]), some (rowsX u8S true v29 vs2 rows7 none), some (cellsR b6 67 [v42, v43]), some (rowsX u8S false v43 vs3 rows8 none), some (cellsR b7 40 [vI d4.Kind, vU64 d4.At, vI d4.N, vU64 d4.V, v44])]) (shr' := [Fact.sl RegionS vl1 l, Fact.sl dumbwaiterlaw02_ActS vcalls1 calls, Fact.sl RegionS v28 mem2.l, Fact.sl RegionS v42 mem3.L, Fact.sl u8S v44 d4.B]) [0, 1, 5, 6, 7, 8, 9, 10, 11, 12, 13, 14, 15, 16, 73, 106] [0, 1, 2, 3, 4] [0, 1, 2, 3, 4] rfl rfl rfl rfl ?_)
            rcases Bool.eq_false_or_eq_true (pick4 == (1 : Int)) with hg79 | hg79
            ·replace h := br_t hg79 h
             refine Tk_condT (congrArg (fun b => some (Value.bool b)) hg79) ?_
             refine Tk_drawT (by kernel_rfl) ?_
             refine TA_tb [0, 0, 2, 0, 8, 0, 32, 127, 0, 0, 512, 0, 2048, 0, 8192, 32767, 65535, 131071] (by kernel_rfl) fun htb => ?_
             refine TA_wkS (fr' := [(0, some (vl1)), (1, some (vcalls1)), (5, some (.pointer (some ⟨b4, 0, none⟩))), (7, some (.pointer (some ⟨b6, 0, none⟩))), (9, some (vI i4)), (10, some (.pointer (some ⟨b7, 0, none⟩))), (11, some (vU64 (0 : UInt64))), (12, some (vU64 (0 : UInt64))), (13, some (vB false)), (14, some (vB false)), (15, some (.slice none 0 0)), (16, some (.slice none 0 0))]) (own' := [some (cellsR b4 62 [v28, v29]), some (rowsX u8S true v29 vs2 rows7 none), some (cellsR b6 67 [v42, v43]), some (rowsX u8S false v43 vs3 rows8 none), some (cellsR b7 40 [vI d4.Kind, vU64 d4.At, vI d4.N, vU64 d4.V, v44])]) (shr' := [Fact.sl RegionS vl1 l, Fact.sl dumbwaiterlaw02_ActS vcalls1 calls, Fact.sl RegionS v28 mem2.l, Fact.sl RegionS v42 mem3.L, Fact.sl u8S v44 d4.B]) [0, 1, 5, 7, 9, 10, 11, 12, 13, 14, 15, 16] [0, 1, 2, 3, 4] [0, 1, 2, 3, 4] rfl rfl rfl rfl ?_
             obtain ⟨store7, hx79, h⟩ := ob_e h
             refine TA_seg (lo := 0) (hi := 15) htb rfl rfl (by kernel_rfl) (fun c L a w => Sat c ⟨[(0, some (vl1)), (1, some (vcalls1)), (5, some (.pointer (some ⟨b4, 0, none⟩))), (7, some (.pointer (some ⟨b6, 0, none⟩))), (9, some (vI i4)), (10, some (.pointer (some ⟨b7, 0, none⟩))), (11, some (vU64 (0 : UInt64))), (12, some (vU64 (0 : UInt64))), (13, some (vB false)), (14, some (vB false)), (15, some (.slice none 0 0)), (16, some (.slice none 0 0)), (108, bif L 0 then some (.pointer (some ⟨b4, 0, none⟩)) else none), (109, bif L 1 then some (.pointer (some ⟨b7, 1, none⟩)) else none), (110, bif L 2 then some (vU64 d4.At) else none), (111, bif L 3 then some (.pointer (some ⟨b7, 2, none⟩)) else none), (112, bif L 4 then some (vI d4.N) else none), (113, bif L 5 then some (.pointer (some ⟨b7, 3, none⟩)) else none), (114, bif L 6 then some (vU64 d4.V) else none), (115, bif L 7 then some (vI store7.1) else none), (116, bif L 8 then some (.pointer (some ⟨b6, 0, none⟩)) else none), (117, bif L 9 then some (.pointer (some ⟨b7, 1, none⟩)) else none), (118, bif L 10 then some (vU64 d4.At) else none), (119, bif L 11 then some (.pointer (some ⟨b7, 2, none⟩)) else none), (120, bif L 12 then some (vI d4.N) else none), (121, bif L 13 then some (.pointer (some ⟨b7, 3, none⟩)) else none), (122, bif L 14 then some (vU64 d4.V) else none)], [(some (cellsR b4 62 [v28, v29]) : Option Res), (bif L 7 then some (rowsX u8S true v29 vs2 store7.2 none) else some (rowsX u8S true v29 vs2 rows7 none) : Option Res), (some (cellsR b6 67 [v42, v43]) : Option Res), (some (rowsX u8S false v43 vs3 rows8 none) : Option Res), (some (cellsR b7 40 [vI d4.Kind, vU64 d4.At, vI d4.N, vU64 d4.V, v44]) : Option Res)], [Fact.sl RegionS vl1 l, Fact.sl dumbwaiterlaw02_ActS vcalls1 calls, Fact.sl RegionS v28 mem2.l, Fact.sl RegionS v42 mem3.L, Fact.sl u8S v44 d4.B]⟩ a w) [([], [7]), ([], [2, 7]), ([1], [7]), ([], [4, 7]), ([3], [7]), ([], [6, 7]), ([5], [7]), ([0, 1, 2, 3, 4, 5, 6], []), ([], []), ([], [10]), ([9], []), ([], [12]), ([11], []), ([], [14]), ([13], [])] rfl (by kernel_rfl) ?_ (steps_cons ?_ (steps_cons ?_ (steps_cons ?_ (steps_cons ?_ (steps_cons ?_ (steps_cons ?_ (steps_cons ?_ (steps_cons ?_ (steps_cons ?_ (steps_cons ?_ (steps_cons ?_ (steps_cons ?_ (steps_cons ?_ (steps_cons ?_ (steps_cons ?_ (steps_nil)))))))))))))))) ?_
             ·intro a w hs
              exact hs.startF [108, 109, 110, 111, 112, 113, 114, 115, 116, 117, 118, 119, 120, 121, 122] [0, 1, 2, 3, 4] [0, 1, 2, 3, 4] rfl rfl rfl rfl
             ·intro L a w hv K Q hK
              have hs := hv
              refine wpOp_go rfl rfl hs (OpT_move rfl rfl rfl rfl) ?_
              rintro _ rfl a' w' hs'
              exact hK a' w' (hs'.putF (i := 12) rfl [0, 1, 2, 3, 4] [0, 1, 2, 3, 4] rfl rfl rfl rfl)
             ·intro L a w hv K Q hK
              have hs := hv
              refine wpOp_go rfl rfl hs (OpT_fieldC rfl rfl rfl rfl fldF40x1) ?_
              rintro _ rfl a' w' hs'
              exact hK a' w' (hs'.putF (i := 13) rfl [0, 1, 2, 3, 4] [0, 1, 2, 3, 4] rfl rfl rfl rfl)
             ·intro L a w hv K Q hK
              have hs := hv
              refine wpOp_go rfl rfl hs (OpT_loadC rfl rfl rfl rfl tyF26 (i := 4) rfl rfl) ?_
              rintro _ rfl a' w' hs'
              exact hK a' w' (hs'.putF (i := 14) rfl [0, 1, 2, 3, 4] [0, 1, 2, 3, 4] rfl rfl rfl rfl)
             ·intro L a w hv K Q hK
              have hs := hv
              refine wpOp_go rfl rfl hs (OpT_fieldC rfl rfl rfl rfl fldF40x2) ?_
              rintro _ rfl a' w' hs'
              exact hK a' w' (hs'.putF (i := 15) rfl [0, 1, 2, 3, 4] [0, 1, 2, 3, 4] rfl rfl rfl rfl)
             ·intro L a w hv K Q hK
              have hs := hv
              refine wpOp_go rfl rfl hs (OpT_loadC rfl rfl rfl rfl tyF3 (i := 4) rfl rfl) ?_
              rintro _ rfl a' w' hs'
              exact hK a' w' (hs'.putF (i := 16) rfl [0, 1, 2, 3, 4] [0, 1, 2, 3, 4] rfl rfl rfl rfl)
             ·intro L a w hv K Q hK
              have hs := hv
              refine wpOp_go rfl rfl hs (OpT_fieldC rfl rfl rfl rfl fldF40x3) ?_
              rintro _ rfl a' w' hs'
              exact hK a' w' (hs'.putF (i := 17) rfl [0, 1, 2, 3, 4] [0, 1, 2, 3, 4] rfl rfl rfl rfl)
             ·intro L a w hv K Q hK
              have hs := hv
              refine wpOp_go rfl rfl hs (OpT_loadC rfl rfl rfl rfl tyF26 (i := 4) rfl rfl) ?_
              rintro _ rfl a' w' hs'
              exact hK a' w' (hs'.putF (i := 18) rfl [0, 1, 2, 3, 4] [0, 1, 2, 3, 4] rfl rfl rfl rfl)
             ·intro L a w hv K Q hK
              have hs := hv
              refine wpOp_go rfl rfl hs (OpT_callP [5, 6, 2, 3, 4] (w_gmem_Mem_Store hx79) [0, 1] [2] rfl rfl rfl rfl rfl callee17 rfl rfl rfl rfl rfl) ?_
              rintro _ ⟨_, _, _, ⟨rfl, rfl, rfl⟩, rfl⟩ a' w' hs'
              exact hK a' w' (hs'.putF (i := 19) rfl [0, 1, 2, 3, 4] [0, 1, 2, 3, 4] rfl rfl rfl rfl)
             ·intro L a w hv K Q hK
              have hs := hv
              refine wpOp_go rfl rfl hs (OpT_move rfl rfl rfl rfl) ?_
              rintro _ rfl a' w' hs'
              exact hK a' w' (hs'.putF (i := 20) rfl [0, 1, 2, 3, 4] [0, 1, 2, 3, 4] rfl rfl rfl rfl)
             ·intro L a w hv K Q hK
              have hs := hv
              refine wpOp_go rfl rfl hs (OpT_fieldC rfl rfl rfl rfl fldF40x1) ?_
              rintro _ rfl a' w' hs'
              exact hK a' w' (hs'.putF (i := 21) rfl [0, 1, 2, 3, 4] [0, 1, 2, 3, 4] rfl rfl rfl rfl)
             ·intro L a w hv K Q hK
              have hs := hv
              refine wpOp_go rfl rfl hs (OpT_loadC rfl rfl rfl rfl tyF26 (i := 4) rfl rfl) ?_
              rintro _ rfl a' w' hs'
              exact hK a' w' (hs'.putF (i := 22) rfl [0, 1, 2, 3, 4] [0, 1, 2, 3, 4] rfl rfl rfl rfl)
             ·intro L a w hv K Q hK
              have hs := hv
              refine wpOp_go rfl rfl hs (OpT_fieldC rfl rfl rfl rfl fldF40x2) ?_
              rintro _ rfl a' w' hs'
              exact hK a' w' (hs'.putF (i := 23) rfl [0, 1, 2, 3, 4] [0, 1, 2, 3, 4] rfl rfl rfl rfl)
             ·intro L a w hv K Q hK
              have hs := hv
              refine wpOp_go rfl rfl hs (OpT_loadC rfl rfl rfl rfl tyF3 (i := 4) rfl rfl) ?_
              rintro _ rfl a' w' hs'
              exact hK a' w' (hs'.putF (i := 24) rfl [0, 1, 2, 3, 4] [0, 1, 2, 3, 4] rfl rfl rfl rfl)
             ·intro L a w hv K Q hK
              have hs := hv
              refine wpOp_go rfl rfl hs (OpT_fieldC rfl rfl rfl rfl fldF40x3) ?_
              rintro _ rfl a' w' hs'
              exact hK a' w' (hs'.putF (i := 25) rfl [0, 1, 2, 3, 4] [0, 1, 2, 3, 4] rfl rfl rfl rfl)
             ·intro L a w hv K Q hK
              have hs := hv
              refine wpOp_go rfl rfl hs (OpT_loadC rfl rfl rfl rfl tyF26 (i := 4) rfl rfl) ?_
              rintro _ rfl a' w' hs'
              exact hK a' w' (hs'.putF (i := 26) rfl [0, 1, 2, 3, 4] [0, 1, 2, 3, 4] rfl rfl rfl rfl)
             ·intro L a w hL hv
              rw [allTrue hL] at hv
              have hs := hv
              refine (show TA _ _ _ 15 ⟨[(0, some (vl1)), (1, some (vcalls1)), (5, some (.pointer (some ⟨b4, 0, none⟩))), (7, some (.pointer (some ⟨b6, 0, none⟩))), (9, some (vI i4)), (11, some (vU64 (0 : UInt64))), (12, some (vU64 (0 : UInt64))), (13, some (vB false)), (14, some (vB false)), (15, some (.slice none 0 0)), (16, some (.slice none 0 0)), (115, some (vI store7.1)), (116, some (.pointer (some ⟨b6, 0, none⟩))), (118, some (vU64 d4.At)), (120, some (vI d4.N)), (122, some (vU64 d4.V))], [some (cellsR b4 62 [v28, v29]), some (rowsX u8S true v29 vs2 store7.2 none), some (cellsR b6 67 [v42, v43]), some (rowsX u8S false v43 vs3 rows8 none)], [Fact.sl RegionS vl1 l, Fact.sl dumbwaiterlaw02_ActS vcalls1 calls, Fact.sl RegionS v28 mem2.l, Fact.sl RegionS v42 mem3.L]⟩ from ?_) a w (hs.wkS [0, 1, 5, 7, 9, 11, 12, 13, 14, 15, 16, 115, 116, 118, 120, 122] [0, 1, 2, 3] [0, 1, 2, 3] rfl rfl rfl rfl)
              clear hs hL
              obtain ⟨store8, hx80, h⟩ := ob_e h
              refine TA_exP htb (by kernel_rfl) rfl rfl (OpT_callP [0, 1, 4, 5] (w_ref_Mem_Store02 hx80) [2, 3] [3] rfl rfl rfl rfl rfl callee25 rfl rfl rfl rfl rfl) ?_
              rintro _ ⟨_, _, _, ⟨rfl, rfl, rfl⟩, rfl⟩
              refine TA_step htb (by kernel_rfl) rfl rfl (OpT_assign rfl rfl rfl rfl) ?_
              refine TA_step htb (by kernel_rfl) rfl rfl (OpT_assign rfl rfl rfl rfl) ?_
              refine TA_end rfl ?_
              refine Tk_wkS (fr' := [(0, some (vl1)), (1, some (vcalls1)), (5, some (.pointer (some ⟨b4, 0, none⟩))), (7, some (.pointer (some ⟨b6, 0, none⟩))), (9, some (vI i4)), (11, some (vU64 (0 : UInt64))), (12, some (vU64 (0 : UInt64))), (13, some (vB false)), (14, some (vB false)), (15, some (.slice none 0 0)), (16, some (.slice none 0 0)), (6, some (vI store7.1)), (8, some (vI store8.1))]) (own' := [some (cellsR b4 62 [v28, v29]), some (rowsX u8S true v29 vs2 store7.2 none), some (cellsR b6 67 [v42, v43]), some (rowsX u8S false v43 vs3 store8.2 none)]) (shr' := [Fact.sl RegionS vl1 l, Fact.sl dumbwaiterlaw02_ActS vcalls1 calls, Fact.sl RegionS v28 mem2.l, Fact.sl RegionS v42 mem3.L]) [0, 1, 5, 7, 9, 11, 12, 13, 14, 15, 16, 6, 8] [0, 1, 2, 3] [0, 1, 2, 3] rfl rfl rfl rfl ?_
              refine Tk_nilfact u8S ?_
              refine Tk_nilfact u8S ?_
              exact Tk_jmpS (HJ8 (store7.2, store7.1, store8.2, store8.1, (0 : UInt64), (0 : UInt64), false, false, ([] : List UInt8), ([] : List UInt8), .slice none 0 0, .slice none 0 0) h) [0, 1, 5, 6, 7, 8, 9, 11, 12, 13, 14, 15, 16] [0, 1, 2, 3] [0, 1, 2, 3, 4, 5] rfl rfl rfl rfl
            ·replace h := br_f hg79 h
             refine Tk_condF (congrArg (fun b => some (Value.bool b)) hg79) ?_
             refine Tk_seq (Tk_region (Tops_step rfl (OpT_bin rfl rfl rfl rfl rfl (bin_eql_i (a := pick4) (b := (2 : Int)))) ?_))
             refine Tops_step rfl (OpT_assign rfl rfl rfl rfl) ?_
             refine Tops_nil (Tk_wkS (fr' := [(0, some (vl1)), (1, some (vcalls1)), (5, some (.pointer (some ⟨b4, 0, none⟩))), (6, some (vI e10)), (7, some (.pointer (some ⟨b6, 0, none⟩))), (8, some (vI f10)), (9, some (vI i4)), (10, some (.pointer (some ⟨b7, 0, none⟩))), (11, some (vU64 (0 : UInt64))), (12, some (vU64 (0 : UInt64))), (13, some (vB false)), (14, some (vB false)), (15, some (.slice none 0 0)), (16, some (.slice none 0 0)), (73, some (vI pick4)), (124, some (vB (pick4 == (2 : Int))))]) (own' := [some (cellsR b4 62 [v28, v29]), some (rowsX u8S true v29 vs2 rows7 none), some (cellsR b6 67 [v42, v43]), some (rowsX u8S false v43 vs3 rows8 none), some (cellsR b7 40 [vI d4.Kind, vU64 d4.At, vI d4.N, vU64 d4.V, v44])]) (shr' := [Fact.sl RegionS vl1 l, Fact.sl dumbwaiterlaw02_ActS vcalls1 calls, Fact.sl RegionS v28 mem2.l, Fact.sl RegionS v42 mem3.L, Fact.sl u8S v44 d4.B]) [0, 1, 5, 6, 7, 8, 9, 10, 11, 12, 13, 14, 15, 16, 73, 124] [0, 1, 2, 3, 4] [0, 1, 2, 3, 4] rfl rfl rfl rfl ?_)
             rcases Bool.eq_false_or_eq_true (pick4 == (2 : Int)) with hg80 | hg80
             ·replace h := br_t hg80 h
              refine Tk_condT (congrArg (fun b => some (Value.bool b)) hg80) ?_
              refine Tk_seq (Tk_region (Tops_step rfl (OpT_fieldC rfl rfl rfl rfl fldF40x2) ?_))
              refine Tops_step rfl (OpT_loadC rfl rfl rfl rfl tyF3 (i := 4) rfl rfl) ?_
              refine Tops_step rfl (OpT_min_i (u := d4.N) (v := (5000 : Int)) rfl rfl rfl rfl rfl) ?_
              refine Tops_step rfl (OpT_assign rfl rfl rfl rfl) ?_
              refine Tops_nil (Tk_wkS (fr' := [(0, some (vl1)), (1, some (vcalls1)), (5, some (.pointer (some ⟨b4, 0, none⟩))), (7, some (.pointer (some ⟨b6, 0, none⟩))), (9, some (vI i4)), (10, some (.pointer (some ⟨b7, 0, none⟩))), (11, some (vU64 (0 : UInt64))), (12, some (vU64 (0 : UInt64))), (13, some (vB false)), (14, some (vB false)), (17, some (vI (mini d4.N (5000 : Int))))]) (own' := [some (cellsR b4 62 [v28, v29]), some (rowsX u8S true v29 vs2 rows7 none), some (cellsR b6 67 [v42, v43]), some (rowsX u8S false v43 vs3 rows8 none), some (cellsR b7 40 [vI d4.Kind, vU64 d4.At, vI d4.N, vU64 d4.V, v44])]) (shr' := [Fact.sl RegionS vl1 l, Fact.sl dumbwaiterlaw02_ActS vcalls1 calls, Fact.sl RegionS v28 mem2.l, Fact.sl RegionS v42 mem3.L, Fact.sl u8S v44 d4.B]) [0, 1, 5, 7, 9, 10, 11, 12, 13, 14, 17] [0, 1, 2, 3, 4] [0, 1, 2, 3, 4] rfl rfl rfl rfl ?_)
              refine Tk_seq (Tk_region (Tops_step rfl (OpT_move rfl rfl rfl rfl) ?_))
              refine Tops_step rfl (OpT_fieldC rfl rfl rfl rfl fldF40x1) ?_
              refine Tops_step rfl (OpT_loadC rfl rfl rfl rfl tyF26 (i := 4) rfl rfl) ?_
              refine Tops_step rfl (OpT_move rfl rfl rfl rfl) ?_
              obtain ⟨read7, hx81, h⟩ := ob_e h
              refine Tops_exP rfl (OpT_callP [5, 6, 2, 3, 4, 7] (w_gmem_Mem_Read hx81) [0, 1] [2] rfl rfl rfl rfl rfl callee22 rfl rfl rfl rfl rfl) ?_
              rintro _ ⟨_, _, _, ⟨v49, rfl, rfl, rfl⟩, rfl⟩
              refine Tops_step rfl (OpT_move rfl rfl rfl rfl) ?_
              refine Tops_step rfl (OpT_extract rfl rfl rfl rfl rfl) ?_
              refine Tops_step rfl (OpT_extract rfl rfl rfl rfl rfl) ?_
              refine Tops_step rfl (OpT_assign rfl rfl rfl rfl) ?_
              refine Tops_step rfl (OpT_assign rfl rfl rfl rfl) ?_
              refine Tops_nil (Tk_wkS (fr' := [(0, some (vl1)), (1, some (vcalls1)), (5, some (.pointer (some ⟨b4, 0, none⟩))), (7, some (.pointer (some ⟨b6, 0, none⟩))), (9, some (vI i4)), (10, some (.pointer (some ⟨b7, 0, none⟩))), (11, some (vU64 (0 : UInt64))), (12, some (vU64 (0 : UInt64))), (13, some (vB false)), (14, some (vB false)), (17, some (vI (mini d4.N (5000 : Int)))), (15, some (v49)), (6, some (vI read7.2))]) (own' := [some (cellsR b4 62 [v28, v29]), some (rowsX u8S true v29 vs2 rows7 none), some (cellsR b6 67 [v42, v43]), some (rowsX u8S false v43 vs3 rows8 none), some (cellsR b7 40 [vI d4.Kind, vU64 d4.At, vI d4.N, vU64 d4.V, v44]), some (rowS u8S v49 read7.1)]) (shr' := [Fact.sl RegionS vl1 l, Fact.sl dumbwaiterlaw02_ActS vcalls1 calls, Fact.sl RegionS v28 mem2.l, Fact.sl RegionS v42 mem3.L, Fact.sl u8S v44 d4.B]) [0, 1, 5, 7, 9, 10, 11, 12, 13, 14, 17, 15, 6] [0, 1, 2, 3, 4, 5] [0, 1, 2, 3, 4] rfl rfl rfl rfl ?_)
              refine Tk_region (Tops_step rfl (OpT_move rfl rfl rfl rfl) ?_)
              refine Tops_step rfl (OpT_fieldC rfl rfl rfl rfl fldF40x1) ?_
              refine Tops_step rfl (OpT_loadC rfl rfl rfl rfl tyF26 (i := 4) rfl rfl) ?_
              refine Tops_step rfl (OpT_move rfl rfl rfl rfl) ?_
              obtain ⟨read8, hx82, h⟩ := ob_e h
              refine Tops_exP rfl (OpT_callP [0, 1, 6, 7, 4, 5, 8] (w_ref_Mem_Read02 hx82) [2, 3] [3] rfl rfl rfl rfl rfl callee26 rfl rfl rfl rfl rfl) ?_
              rintro _ ⟨_, _, _, ⟨v50, rfl, rfl, rfl⟩, rfl⟩
              refine Tops_step rfl (OpT_move rfl rfl rfl rfl) ?_
              refine Tops_step rfl (OpT_extract rfl rfl rfl rfl rfl) ?_
              refine Tops_step rfl (OpT_extract rfl rfl rfl rfl rfl) ?_
              refine Tops_step rfl (OpT_assign rfl rfl rfl rfl) ?_
              refine Tops_step rfl (OpT_assign rfl rfl rfl rfl) ?_
              refine Tops_nil (Tk_wkS (fr' := [(0, some (vl1)), (1, some (vcalls1)), (5, some (.pointer (some ⟨b4, 0, none⟩))), (7, some (.pointer (some ⟨b6, 0, none⟩))), (9, some (vI i4)), (11, some (vU64 (0 : UInt64))), (12, some (vU64 (0 : UInt64))), (13, some (vB false)), (14, some (vB false)), (15, some (v49)), (6, some (vI read7.2)), (16, some (v50)), (8, some (vI read8.2))]) (own' := [some (cellsR b4 62 [v28, v29]), some (rowsX u8S true v29 vs2 rows7 none), some (cellsR b6 67 [v42, v43]), some (rowsX u8S false v43 vs3 rows8 none), some (rowS u8S v49 read7.1), some (rowS u8S v50 read8.1)]) (shr' := [Fact.sl RegionS vl1 l, Fact.sl dumbwaiterlaw02_ActS vcalls1 calls, Fact.sl RegionS v28 mem2.l, Fact.sl RegionS v42 mem3.L]) [0, 1, 5, 7, 9, 11, 12, 13, 14, 15, 6, 16, 8] [0, 1, 2, 3, 5, 6] [0, 1, 2, 3] rfl rfl rfl rfl ?_)
              refine Tk_retire (i := 4) rfl ?_
              refine Tk_retire (i := 5) rfl ?_
              exact Tk_jmpS (HJ8 (rows7, read7.2, rows8, read8.2, (0 : UInt64), (0 : UInt64), false, false, read7.1, read8.1, v49, v50) h) [0, 1, 5, 6, 7, 8, 9, 11, 12, 13, 14, 15, 16] [0, 1, 2, 3] [0, 1, 2, 3, 4, 5] rfl rfl rfl rfl
             ·replace h := br_f hg80 h
              refine Tk_condF (congrArg (fun b => some (Value.bool b)) hg80) ?_
              refine Tk_seq (Tk_region (Tops_step rfl (OpT_bin rfl rfl rfl rfl rfl (bin_eql_i (a := pick4) (b := (3 : Int)))) ?_))
              refine Tops_step rfl (OpT_assign rfl rfl rfl rfl) ?_
              refine Tops_nil (Tk_wkS (fr' := [(0, some (vl1)), (1, some (vcalls1)), (5, some (.pointer (some ⟨b4, 0, none⟩))), (6, some (vI e10)), (7, some (.pointer (some ⟨b6, 0, none⟩))), (8, some (vI f10)), (9, some (vI i4)), (10, some (.pointer (some ⟨b7, 0, none⟩))), (11, some (vU64 (0 : UInt64))), (12, some (vU64 (0 : UInt64))), (13, some (vB false)), (14, some (vB false)), (15, some (.slice none 0 0)), (16, some (.slice none 0 0)), (145, some (vB (pick4 == (3 : Int))))]) (own' := [some (cellsR b4 62 [v28, v29]), some (rowsX u8S true v29 vs2 rows7 none), some (cellsR b6 67 [v42, v43]), some (rowsX u8S false v43 vs3 rows8 none), some (cellsR b7 40 [vI d4.Kind, vU64 d4.At, vI d4.N, vU64 d4.V, v44])]) (shr' := [Fact.sl RegionS vl1 l, Fact.sl dumbwaiterlaw02_ActS vcalls1 calls, Fact.sl RegionS v28 mem2.l, Fact.sl RegionS v42 mem3.L, Fact.sl u8S v44 d4.B]) [0, 1, 5, 6, 7, 8, 9, 10, 11, 12, 13, 14, 15, 16, 145] [0, 1, 2, 3, 4] [0, 1, 2, 3, 4] rfl rfl rfl rfl ?_)
              rcases Bool.eq_false_or_eq_true (pick4 == (3 : Int)) with hg81 | hg81
              ·replace h := br_t hg81 h
               refine Tk_condT (congrArg (fun b => some (Value.bool b)) hg81) ?_
               refine Tk_drawT (by kernel_rfl) ?_
               refine TA_tb [0, 0, 2, 0, 8, 24, 63, 0, 0, 256, 0, 1024, 4095, 8191, 16383] (by kernel_rfl) fun htb => ?_
               refine TA_wkS (fr' := [(0, some (vl1)), (1, some (vcalls1)), (5, some (.pointer (some ⟨b4, 0, none⟩))), (7, some (.pointer (some ⟨b6, 0, none⟩))), (9, some (vI i4)), (10, some (.pointer (some ⟨b7, 0, none⟩))), (11, some (vU64 (0 : UInt64))), (12, some (vU64 (0 : UInt64))), (13, some (vB false)), (14, some (vB false)), (15, some (.slice none 0 0)), (16, some (.slice none 0 0))]) (own' := [some (cellsR b4 62 [v28, v29]), some (rowsX u8S true v29 vs2 rows7 none), some (cellsR b6 67 [v42, v43]), some (rowsX u8S false v43 vs3 rows8 none), some (cellsR b7 40 [vI d4.Kind, vU64 d4.At, vI d4.N, vU64 d4.V, v44])]) (shr' := [Fact.sl RegionS vl1 l, Fact.sl dumbwaiterlaw02_ActS vcalls1 calls, Fact.sl RegionS v28 mem2.l, Fact.sl RegionS v42 mem3.L, Fact.sl u8S v44 d4.B]) [0, 1, 5, 7, 9, 10, 11, 12, 13, 14, 15, 16] [0, 1, 2, 3, 4] [0, 1, 2, 3, 4] rfl rfl rfl rfl ?_
               obtain ⟨own4, hx83, h⟩ := ob_e h
               obtain ⟨write7, hx84, h⟩ := ob_e h
               refine TA_seg (lo := 0) (hi := 12) htb rfl rfl (by kernel_rfl) (fun c L a w => ∃ (v51 : Value), Sat c ⟨[(0, some (vl1)), (1, some (vcalls1)), (5, some (.pointer (some ⟨b4, 0, none⟩))), (7, some (.pointer (some ⟨b6, 0, none⟩))), (9, some (vI i4)), (10, some (.pointer (some ⟨b7, 0, none⟩))), (11, some (vU64 (0 : UInt64))), (12, some (vU64 (0 : UInt64))), (13, some (vB false)), (14, some (vB false)), (15, some (.slice none 0 0)), (16, some (.slice none 0 0)), (147, bif L 0 then some (.pointer (some ⟨b4, 0, none⟩)) else none), (148, bif L 1 then some (.pointer (some ⟨b7, 1, none⟩)) else none), (149, bif L 2 then some (vU64 d4.At) else none), (150, bif L 3 then some (.pointer (some ⟨b7, 4, none⟩)) else none), (151, bif L 4 then some (v44) else none), (152, bif L 5 then some (v51) else none), (153, bif L 6 then some (vI write7.1) else none), (154, bif L 7 then some (.pointer (some ⟨b6, 0, none⟩)) else none), (155, bif L 8 then some (.pointer (some ⟨b7, 1, none⟩)) else none), (156, bif L 9 then some (vU64 d4.At) else none), (157, bif L 10 then some (.pointer (some ⟨b7, 4, none⟩)) else none), (158, bif L 11 then some (v44) else none)], [(some (cellsR b4 62 [v28, v29]) : Option Res), (bif L 6 then some (rowsX u8S true v29 vs2 write7.2 none) else some (rowsX u8S true v29 vs2 rows7 none) : Option Res), (some (cellsR b6 67 [v42, v43]) : Option Res), (some (rowsX u8S false v43 vs3 rows8 none) : Option Res), (some (cellsR b7 40 [vI d4.Kind, vU64 d4.At, vI d4.N, vU64 d4.V, v44]) : Option Res)], [Fact.sl RegionS vl1 l, Fact.sl dumbwaiterlaw02_ActS vcalls1 calls, Fact.sl RegionS v28 mem2.l, Fact.sl RegionS v42 mem3.L, Fact.sl u8S v44 d4.B, (bif L 5 then Fact.sl u8S v51 own4 else Fact.tt)]⟩ a w) [([], [6]), ([], [2, 6]), ([1], [6]), ([], [4, 5, 6]), ([3], [5, 6]), ([3, 4], [6]), ([0, 1, 2, 3, 4, 5], []), ([], []), ([], [9]), ([8], []), ([], [11]), ([10], [])] rfl (by kernel_rfl) ?_ (steps_cons ?_ (steps_cons ?_ (steps_cons ?_ (steps_cons ?_ (steps_cons ?_ (steps_cons ?_ (steps_cons ?_ (steps_cons ?_ (steps_cons ?_ (steps_cons ?_ (steps_cons ?_ (steps_cons ?_ (steps_nil))))))))))))) ?_
               ·intro a w hs
                exact ⟨undef, hs.startF [147, 148, 149, 150, 151, 152, 153, 154, 155, 156, 157, 158] [0, 1, 2, 3, 4] [0, 1, 2, 3, 4, 5] rfl rfl rfl rfl⟩
               ·intro L a w hv K Q hK
                obtain ⟨v51, hs⟩ := hv
                refine wpOp_go rfl rfl hs (OpT_move rfl rfl rfl rfl) ?_
                rintro _ rfl a' w' hs'
                exact hK a' w' ⟨v51, hs'.putF (i := 12) rfl [0, 1, 2, 3, 4] [0, 1, 2, 3, 4, 5] rfl rfl rfl rfl⟩
               ·intro L a w hv K Q hK
                obtain ⟨v51, hs⟩ := hv
                refine wpOp_go rfl rfl hs (OpT_fieldC rfl rfl rfl rfl fldF40x1) ?_
                rintro _ rfl a' w' hs'
                exact hK a' w' ⟨v51, hs'.putF (i := 13) rfl [0, 1, 2, 3, 4] [0, 1, 2, 3, 4, 5] rfl rfl rfl rfl⟩
               ·intro L a w hv K Q hK
                obtain ⟨v51, hs⟩ := hv
                refine wpOp_go rfl rfl hs (OpT_loadC rfl rfl rfl rfl tyF26 (i := 4) rfl rfl) ?_
                rintro _ rfl a' w' hs'
                exact hK a' w' ⟨v51, hs'.putF (i := 14) rfl [0, 1, 2, 3, 4] [0, 1, 2, 3, 4, 5] rfl rfl rfl rfl⟩
               ·intro L a w hv K Q hK
                obtain ⟨v51, hs⟩ := hv
                refine wpOp_go rfl rfl hs (OpT_fieldC rfl rfl rfl rfl fldF40x4) ?_
                rintro _ rfl a' w' hs'
                exact hK a' w' ⟨v51, hs'.putF (i := 15) rfl [0, 1, 2, 3, 4] [0, 1, 2, 3, 4, 5] rfl rfl rfl rfl⟩
               ·intro L a w hv K Q hK
                obtain ⟨v51, hs⟩ := hv
                refine wpOp_go rfl rfl hs (OpT_loadC rfl rfl rfl rfl tyF38 (i := 4) rfl rfl) ?_
                rintro _ rfl a' w' hs'
                exact hK a' w' ⟨v51, hs'.putF (i := 16) rfl [0, 1, 2, 3, 4] [0, 1, 2, 3, 4, 5] rfl rfl rfl rfl⟩
               ·intro L a w hv K Q hK
                obtain ⟨v51, hs⟩ := hv
                refine wpOp_go rfl rfl hs (OpT_call (ws_kit_Own hx83) [] [4] rfl rfl rfl rfl rfl callee19 rfl rfl rfl rfl) ?_
                rintro _ ⟨v51', _, _, ⟨_, rfl, rfl, rfl⟩, rfl⟩ a' w' hs'
                exact hK a' w' ⟨v51', hs'.putF (i := 17) rfl [0, 1, 2, 3, 4] [0, 1, 2, 3, 4, 6] rfl rfl rfl rfl⟩
               ·intro L a w hv K Q hK
                obtain ⟨v51, hs⟩ := hv
                refine wpOp_go rfl rfl hs (OpT_callP [5, 6, 2, 3, 4] (w_gmem_Mem_Write hx84) [0, 1] [2, 5] rfl rfl rfl rfl rfl callee18 rfl rfl rfl rfl rfl) ?_
                rintro _ ⟨_, _, _, ⟨rfl, rfl, rfl⟩, rfl⟩ a' w' hs'
                exact hK a' w' ⟨v51, hs'.putF (i := 18) rfl [0, 1, 2, 3, 4] [0, 1, 2, 3, 4, 5] rfl rfl rfl rfl⟩
               ·intro L a w hv K Q hK
                obtain ⟨v51, hs⟩ := hv
                refine wpOp_go rfl rfl hs (OpT_move rfl rfl rfl rfl) ?_
                rintro _ rfl a' w' hs'
                exact hK a' w' ⟨v51, hs'.putF (i := 19) rfl [0, 1, 2, 3, 4] [0, 1, 2, 3, 4, 5] rfl rfl rfl rfl⟩
               ·intro L a w hv K Q hK
                obtain ⟨v51, hs⟩ := hv
                refine wpOp_go rfl rfl hs (OpT_fieldC rfl rfl rfl rfl fldF40x1) ?_
                rintro _ rfl a' w' hs'
                exact hK a' w' ⟨v51, hs'.putF (i := 20) rfl [0, 1, 2, 3, 4] [0, 1, 2, 3, 4, 5] rfl rfl rfl rfl⟩
               ·intro L a w hv K Q hK
                obtain ⟨v51, hs⟩ := hv
                refine wpOp_go rfl rfl hs (OpT_loadC rfl rfl rfl rfl tyF26 (i := 4) rfl rfl) ?_
                rintro _ rfl a' w' hs'
                exact hK a' w' ⟨v51, hs'.putF (i := 21) rfl [0, 1, 2, 3, 4] [0, 1, 2, 3, 4, 5] rfl rfl rfl rfl⟩
               ·intro L a w hv K Q hK
                obtain ⟨v51, hs⟩ := hv
                refine wpOp_go rfl rfl hs (OpT_fieldC rfl rfl rfl rfl fldF40x4) ?_
                rintro _ rfl a' w' hs'
                exact hK a' w' ⟨v51, hs'.putF (i := 22) rfl [0, 1, 2, 3, 4] [0, 1, 2, 3, 4, 5] rfl rfl rfl rfl⟩
               ·intro L a w hv K Q hK
                obtain ⟨v51, hs⟩ := hv
                refine wpOp_go rfl rfl hs (OpT_loadC rfl rfl rfl rfl tyF38 (i := 4) rfl rfl) ?_
                rintro _ rfl a' w' hs'
                exact hK a' w' ⟨v51, hs'.putF (i := 23) rfl [0, 1, 2, 3, 4] [0, 1, 2, 3, 4, 5] rfl rfl rfl rfl⟩
               ·intro L a w hL hv
                rw [allTrue hL] at hv
                obtain ⟨v51, hs⟩ := hv
                refine (show TA _ _ _ 12 ⟨[(0, some (vl1)), (1, some (vcalls1)), (5, some (.pointer (some ⟨b4, 0, none⟩))), (7, some (.pointer (some ⟨b6, 0, none⟩))), (9, some (vI i4)), (11, some (vU64 (0 : UInt64))), (12, some (vU64 (0 : UInt64))), (13, some (vB false)), (14, some (vB false)), (15, some (.slice none 0 0)), (16, some (.slice none 0 0)), (153, some (vI write7.1)), (154, some (.pointer (some ⟨b6, 0, none⟩))), (156, some (vU64 d4.At)), (158, some (v44))], [some (cellsR b4 62 [v28, v29]), some (rowsX u8S true v29 vs2 write7.2 none), some (cellsR b6 67 [v42, v43]), some (rowsX u8S false v43 vs3 rows8 none)], [Fact.sl RegionS vl1 l, Fact.sl dumbwaiterlaw02_ActS vcalls1 calls, Fact.sl RegionS v28 mem2.l, Fact.sl RegionS v42 mem3.L, Fact.sl u8S v44 d4.B]⟩ from ?_) a w (hs.wkS [0, 1, 5, 7, 9, 11, 12, 13, 14, 15, 16, 153, 154, 156, 158] [0, 1, 2, 3] [0, 1, 2, 3, 4] rfl rfl rfl rfl)
                clear hs hL
                obtain ⟨write8, hx85, h⟩ := ob_e h
                refine TA_exP htb (by kernel_rfl) rfl rfl (OpT_callP [0, 1, 4, 5] (w_ref_Mem_Write02 hx85) [2, 3] [3, 4] rfl rfl rfl rfl rfl callee27 rfl rfl rfl rfl rfl) ?_
                rintro _ ⟨_, _, _, ⟨rfl, rfl, rfl⟩, rfl⟩
                refine TA_step htb (by kernel_rfl) rfl rfl (OpT_assign rfl rfl rfl rfl) ?_
                refine TA_step htb (by kernel_rfl) rfl rfl (OpT_assign rfl rfl rfl rfl) ?_
                refine TA_end rfl ?_
                refine Tk_wkS (fr' := [(0, some (vl1)), (1, some (vcalls1)), (5, some (.pointer (some ⟨b4, 0, none⟩))), (7, some (.pointer (some ⟨b6, 0, none⟩))), (9, some (vI i4)), (11, some (vU64 (0 : UInt64))), (12, some (vU64 (0 : UInt64))), (13, some (vB false)), (14, some (vB false)), (15, some (.slice none 0 0)), (16, some (.slice none 0 0)), (6, some (vI write7.1)), (8, some (vI write8.1))]) (own' := [some (cellsR b4 62 [v28, v29]), some (rowsX u8S true v29 vs2 write7.2 none), some (cellsR b6 67 [v42, v43]), some (rowsX u8S false v43 vs3 write8.2 none)]) (shr' := [Fact.sl RegionS vl1 l, Fact.sl dumbwaiterlaw02_ActS vcalls1 calls, Fact.sl RegionS v28 mem2.l, Fact.sl RegionS v42 mem3.L]) [0, 1, 5, 7, 9, 11, 12, 13, 14, 15, 16, 6, 8] [0, 1, 2, 3] [0, 1, 2, 3] rfl rfl rfl rfl ?_
                refine Tk_nilfact u8S ?_
                refine Tk_nilfact u8S ?_
                exact Tk_jmpS (HJ8 (write7.2, write7.1, write8.2, write8.1, (0 : UInt64), (0 : UInt64), false, false, ([] : List UInt8), ([] : List UInt8), .slice none 0 0, .slice none 0 0) h) [0, 1, 5, 6, 7, 8, 9, 11, 12, 13, 14, 15, 16] [0, 1, 2, 3] [0, 1, 2, 3, 4, 5] rfl rfl rfl rfl
              ·replace h := br_f hg81 h
               refine Tk_condF (congrArg (fun b => some (Value.bool b)) hg81) ?_
               refine Tk_drawT (by kernel_rfl) ?_
               refine TA_tb [0, 0, 2, 0, 8, 31, 0, 0, 128, 0, 512, 2047, 4095, 8191] (by kernel_rfl) fun htb => ?_
               refine TA_wkS (fr' := [(0, some (vl1)), (1, some (vcalls1)), (5, some (.pointer (some ⟨b4, 0, none⟩))), (6, some (vI e10)), (7, some (.pointer (some ⟨b6, 0, none⟩))), (8, some (vI f10)), (9, some (vI i4)), (10, some (.pointer (some ⟨b7, 0, none⟩))), (11, some (vU64 (0 : UInt64))), (12, some (vU64 (0 : UInt64))), (15, some (.slice none 0 0)), (16, some (.slice none 0 0))]) (own' := [some (cellsR b4 62 [v28, v29]), some (rowsX u8S true v29 vs2 rows7 none), some (cellsR b6 67 [v42, v43]), some (rowsX u8S false v43 vs3 rows8 none), some (cellsR b7 40 [vI d4.Kind, vU64 d4.At, vI d4.N, vU64 d4.V, v44])]) (shr' := [Fact.sl RegionS vl1 l, Fact.sl dumbwaiterlaw02_ActS vcalls1 calls, Fact.sl RegionS v28 mem2.l, Fact.sl RegionS v42 mem3.L, Fact.sl u8S v44 d4.B]) [0, 1, 5, 6, 7, 8, 9, 10, 11, 12, 15, 16] [0, 1, 2, 3, 4] [0, 1, 2, 3, 4] rfl rfl rfl rfl ?_
               obtain ⟨has7, hx86, h⟩ := ob_e h
               refine TA_seg (lo := 0) (hi := 11) htb rfl rfl (by kernel_rfl) (fun c L a w => Sat c ⟨[(0, some (vl1)), (1, some (vcalls1)), (5, some (.pointer (some ⟨b4, 0, none⟩))), (6, some (vI e10)), (7, some (.pointer (some ⟨b6, 0, none⟩))), (8, some (vI f10)), (9, some (vI i4)), (10, some (.pointer (some ⟨b7, 0, none⟩))), (11, some (vU64 (0 : UInt64))), (12, some (vU64 (0 : UInt64))), (15, some (.slice none 0 0)), (16, some (.slice none 0 0)), (74, bif L 0 then some (.pointer (some ⟨b4, 0, none⟩)) else none), (75, bif L 1 then some (.pointer (some ⟨b7, 1, none⟩)) else none), (76, bif L 2 then some (vU64 d4.At) else none), (77, bif L 3 then some (.pointer (some ⟨b7, 3, none⟩)) else none), (78, bif L 4 then some (vU64 d4.V) else none), (79, bif L 5 then some (vB has7) else none), (80, bif L 6 then some (.pointer (some ⟨b6, 0, none⟩)) else none), (81, bif L 7 then some (.pointer (some ⟨b7, 1, none⟩)) else none), (82, bif L 8 then some (vU64 d4.At) else none), (83, bif L 9 then some (.pointer (some ⟨b7, 3, none⟩)) else none), (84, bif L 10 then some (vU64 d4.V) else none)], [(some (cellsR b4 62 [v28, v29]) : Option Res), (some (rowsX u8S true v29 vs2 rows7 none) : Option Res), (some (cellsR b6 67 [v42, v43]) : Option Res), (some (rowsX u8S false v43 vs3 rows8 none) : Option Res), (some (cellsR b7 40 [vI d4.Kind, vU64 d4.At, vI d4.N, vU64 d4.V, v44]) : Option Res)], [Fact.sl RegionS vl1 l, Fact.sl dumbwaiterlaw02_ActS vcalls1 calls, Fact.sl RegionS v28 mem2.l, Fact.sl RegionS v42 mem3.L, Fact.sl u8S v44 d4.B]⟩ a w) [([], [5]), ([], [2, 5]), ([1], [5]), ([], [4, 5]), ([3], [5]), ([0, 1, 2, 3, 4], []), ([], []), ([], [8]), ([7], []), ([], [10]), ([9], [])] rfl (by kernel_rfl) ?_ (steps_cons ?_ (steps_cons ?_ (steps_cons ?_ (steps_cons ?_ (steps_cons ?_ (steps_cons ?_ (steps_cons ?_ (steps_cons ?_ (steps_cons ?_ (steps_cons ?_ (steps_cons ?_ (steps_nil)))))))))))) ?_
               ·intro a w hs
                exact hs.startF [74, 75, 76, 77, 78, 79, 80, 81, 82, 83, 84] [0, 1, 2, 3, 4] [0, 1, 2, 3, 4] rfl rfl rfl rfl
               ·intro L a w hv K Q hK
                have hs := hv
                refine wpOp_go rfl rfl hs (OpT_move rfl rfl rfl rfl) ?_
                rintro _ rfl a' w' hs'
                exact hK a' w' (hs'.putF (i := 12) rfl [0, 1, 2, 3, 4] [0, 1, 2, 3, 4] rfl rfl rfl rfl)
               ·intro L a w hv K Q hK
                have hs := hv
                refine wpOp_go rfl rfl hs (OpT_fieldC rfl rfl rfl rfl fldF40x1) ?_
                rintro _ rfl a' w' hs'
                exact hK a' w' (hs'.putF (i := 13) rfl [0, 1, 2, 3, 4] [0, 1, 2, 3, 4] rfl rfl rfl rfl)
               ·intro L a w hv K Q hK
                have hs := hv
                refine wpOp_go rfl rfl hs (OpT_loadC rfl rfl rfl rfl tyF26 (i := 4) rfl rfl) ?_
                rintro _ rfl a' w' hs'
                exact hK a' w' (hs'.putF (i := 14) rfl [0, 1, 2, 3, 4] [0, 1, 2, 3, 4] rfl rfl rfl rfl)
               ·intro L a w hv K Q hK
                have hs := hv
                refine wpOp_go rfl rfl hs (OpT_fieldC rfl rfl rfl rfl fldF40x3) ?_
                rintro _ rfl a' w' hs'
                exact hK a' w' (hs'.putF (i := 15) rfl [0, 1, 2, 3, 4] [0, 1, 2, 3, 4] rfl rfl rfl rfl)
               ·intro L a w hv K Q hK
                have hs := hv
                refine wpOp_go rfl rfl hs (OpT_loadC rfl rfl rfl rfl tyF26 (i := 4) rfl rfl) ?_
                rintro _ rfl a' w' hs'
                exact hK a' w' (hs'.putF (i := 16) rfl [0, 1, 2, 3, 4] [0, 1, 2, 3, 4] rfl rfl rfl rfl)
               ·intro L a w hv K Q hK
                have hs := hv
                refine wpOp_go rfl rfl hs (OpT_callP [5, 6, 2, 3, 4] (w_gmem_Mem_Has hx86) [0, 1] [2] rfl rfl rfl rfl rfl callee20 rfl rfl rfl rfl rfl) ?_
                rintro _ ⟨_, _, _, ⟨rfl, rfl, rfl⟩, rfl⟩ a' w' hs'
                exact hK a' w' (hs'.putF (i := 17) rfl [0, 1, 2, 3, 4] [0, 1, 2, 3, 4] rfl rfl rfl rfl)
               ·intro L a w hv K Q hK
                have hs := hv
                refine wpOp_go rfl rfl hs (OpT_move rfl rfl rfl rfl) ?_
                rintro _ rfl a' w' hs'
                exact hK a' w' (hs'.putF (i := 18) rfl [0, 1, 2, 3, 4] [0, 1, 2, 3, 4] rfl rfl rfl rfl)
               ·intro L a w hv K Q hK
                have hs := hv
                refine wpOp_go rfl rfl hs (OpT_fieldC rfl rfl rfl rfl fldF40x1) ?_
                rintro _ rfl a' w' hs'
                exact hK a' w' (hs'.putF (i := 19) rfl [0, 1, 2, 3, 4] [0, 1, 2, 3, 4] rfl rfl rfl rfl)
               ·intro L a w hv K Q hK
                have hs := hv
                refine wpOp_go rfl rfl hs (OpT_loadC rfl rfl rfl rfl tyF26 (i := 4) rfl rfl) ?_
                rintro _ rfl a' w' hs'
                exact hK a' w' (hs'.putF (i := 20) rfl [0, 1, 2, 3, 4] [0, 1, 2, 3, 4] rfl rfl rfl rfl)
               ·intro L a w hv K Q hK
                have hs := hv
                refine wpOp_go rfl rfl hs (OpT_fieldC rfl rfl rfl rfl fldF40x3) ?_
                rintro _ rfl a' w' hs'
                exact hK a' w' (hs'.putF (i := 21) rfl [0, 1, 2, 3, 4] [0, 1, 2, 3, 4] rfl rfl rfl rfl)
               ·intro L a w hv K Q hK
                have hs := hv
                refine wpOp_go rfl rfl hs (OpT_loadC rfl rfl rfl rfl tyF26 (i := 4) rfl rfl) ?_
                rintro _ rfl a' w' hs'
                exact hK a' w' (hs'.putF (i := 22) rfl [0, 1, 2, 3, 4] [0, 1, 2, 3, 4] rfl rfl rfl rfl)
               ·intro L a w hL hv
                rw [allTrue hL] at hv
                have hs := hv
                refine (show TA _ _ _ 11 ⟨[(0, some (vl1)), (1, some (vcalls1)), (5, some (.pointer (some ⟨b4, 0, none⟩))), (6, some (vI e10)), (7, some (.pointer (some ⟨b6, 0, none⟩))), (8, some (vI f10)), (9, some (vI i4)), (11, some (vU64 (0 : UInt64))), (12, some (vU64 (0 : UInt64))), (15, some (.slice none 0 0)), (16, some (.slice none 0 0)), (79, some (vB has7)), (80, some (.pointer (some ⟨b6, 0, none⟩))), (82, some (vU64 d4.At)), (84, some (vU64 d4.V))], [some (cellsR b4 62 [v28, v29]), some (rowsX u8S true v29 vs2 rows7 none), some (cellsR b6 67 [v42, v43]), some (rowsX u8S false v43 vs3 rows8 none)], [Fact.sl RegionS vl1 l, Fact.sl dumbwaiterlaw02_ActS vcalls1 calls, Fact.sl RegionS v28 mem2.l, Fact.sl RegionS v42 mem3.L]⟩ from ?_) a w (hs.wkS [0, 1, 5, 6, 7, 8, 9, 11, 12, 15, 16, 79, 80, 82, 84] [0, 1, 2, 3] [0, 1, 2, 3] rfl rfl rfl rfl)
                clear hs hL
                obtain ⟨has8, hx87, h⟩ := ob_e h
                refine TA_exP htb (by kernel_rfl) rfl rfl (OpT_callP [0, 1, 4, 5] (w_ref_Mem_Has02 hx87) [2, 3] [3] rfl rfl rfl rfl rfl callee28 rfl rfl rfl rfl rfl) ?_
                rintro _ ⟨_, _, _, ⟨rfl, rfl, rfl⟩, rfl⟩
                refine TA_step htb (by kernel_rfl) rfl rfl (OpT_assign rfl rfl rfl rfl) ?_
                refine TA_step htb (by kernel_rfl) rfl rfl (OpT_assign rfl rfl rfl rfl) ?_
                refine TA_end rfl ?_
                refine Tk_wkS (fr' := [(0, some (vl1)), (1, some (vcalls1)), (5, some (.pointer (some ⟨b4, 0, none⟩))), (6, some (vI e10)), (7, some (.pointer (some ⟨b6, 0, none⟩))), (8, some (vI f10)), (9, some (vI i4)), (11, some (vU64 (0 : UInt64))), (12, some (vU64 (0 : UInt64))), (15, some (.slice none 0 0)), (16, some (.slice none 0 0)), (13, some (vB has7)), (14, some (vB has8))]) (own' := [some (cellsR b4 62 [v28, v29]), some (rowsX u8S true v29 vs2 rows7 none), some (cellsR b6 67 [v42, v43]), some (rowsX u8S false v43 vs3 rows8 none)]) (shr' := [Fact.sl RegionS vl1 l, Fact.sl dumbwaiterlaw02_ActS vcalls1 calls, Fact.sl RegionS v28 mem2.l, Fact.sl RegionS v42 mem3.L]) [0, 1, 5, 6, 7, 8, 9, 11, 12, 15, 16, 13, 14] [0, 1, 2, 3] [0, 1, 2, 3] rfl rfl rfl rfl ?_
                refine Tk_nilfact u8S ?_
                refine Tk_nilfact u8S ?_
                exact Tk_jmpS (HJ8 (rows7, e10, rows8, f10, (0 : UInt64), (0 : UInt64), has7, has8, ([] : List UInt8), ([] : List UInt8), .slice none 0 0, .slice none 0 0) h) [0, 1, 5, 6, 7, 8, 9, 11, 12, 13, 14, 15, 16] [0, 1, 2, 3] [0, 1, 2, 3, 4, 5] rfl rfl rfl rfl
        ·replace h := br_f hg73 h
         refine Tk_condF (congrArg (fun b => some (Value.bool b)) hg73) ?_
         refine Tk_exit _ rfl ?_
         refine Tk_seq (Tk_drawT (by kernel_rfl) ?_)
         refine TA_tb [0, 1, 3, 0, 11, 27, 63, 127, 255, 511, 255, 2047, 4095, 8191] (by kernel_rfl) fun htb => ?_
         refine TA_wkS (fr' := [(0, some (vl1)), (5, some (.pointer (some ⟨b4, 0, none⟩))), (7, some (.pointer (some ⟨b6, 0, none⟩)))]) (own' := [some (cellsR b4 62 [v28, v29]), some (rowsX u8S true v29 vs2 rows7 none), some (cellsR b6 67 [v42, v43]), some (rowsX u8S false v43 vs3 rows8 none)]) (shr' := [Fact.sl RegionS vl1 l, Fact.sl RegionS v28 mem2.l, Fact.sl RegionS v42 mem3.L]) [0, 5, 7] [0, 1, 2, 3] [0, 2, 3] rfl rfl rfl rfl ?_
         obtain ⟨image7, hx88, h⟩ := ob_e h
         obtain ⟨image8, hx89, h⟩ := ob_e h
         refine TA_seg (lo := 0) (hi := 6) htb rfl rfl (by kernel_rfl) (fun c L a w => ∃ (v52 : Value), ∃ (v53 : Value), Sat c ⟨[(0, some (vl1)), (5, some (.pointer (some ⟨b4, 0, none⟩))), (7, some (.pointer (some ⟨b6, 0, none⟩))), (180, bif L 0 then some (.pointer (some ⟨b4, 0, none⟩)) else none), (181, bif L 1 then some (v52) else none), (182, bif L 2 then some (vS image7) else none), (183, bif L 3 then some (.pointer (some ⟨b6, 0, none⟩)) else none), (184, bif L 4 then some (v53) else none), (185, bif L 5 then some (vS image8) else none)], [(some (cellsR b4 62 [v28, v29]) : Option Res), (some (rowsX u8S true v29 vs2 rows7 none) : Option Res), (some (cellsR b6 67 [v42, v43]) : Option Res), (some (rowsX u8S false v43 vs3 rows8 none) : Option Res)], [Fact.sl RegionS vl1 l, Fact.sl RegionS v28 mem2.l, Fact.sl RegionS v42 mem3.L, (bif L 1 then Fact.sl u8S v52 image7 else Fact.tt), (bif L 4 then Fact.sl u8S v53 image8 else Fact.tt)]⟩ a w) [([], [1, 2, 4, 5]), ([0], [2, 4, 5]), ([0, 1], []), ([], [4, 5]), ([0, 1, 3], [5]), ([0, 1, 3, 4], [])] rfl (by kernel_rfl) ?_ (steps_cons ?_ (steps_cons ?_ (steps_cons ?_ (steps_cons ?_ (steps_cons ?_ (steps_cons ?_ (steps_nil))))))) ?_
         ·intro a w hs
          exact ⟨undef, undef, hs.startF [180, 181, 182, 183, 184, 185] [0, 1, 2, 3] [0, 1, 2, 3, 4] rfl rfl rfl rfl⟩
         ·intro L a w hv K Q hK
          obtain ⟨v52, v53, hs⟩ := hv
          refine wpOp_go rfl rfl hs (OpT_move rfl rfl rfl rfl) ?_
          rintro _ rfl a' w' hs'
          exact hK a' w' ⟨v52, v53, hs'.putF (i := 3) rfl [0, 1, 2, 3] [0, 1, 2, 3, 4] rfl rfl rfl rfl⟩
         ·intro L a w hv K Q hK
          obtain ⟨v52, v53, hs⟩ := hv
          refine wpOp_go rfl rfl hs (OpT_callP [4, 5, 2, 3] (ws_gmem_Mem_Image hx88) [0, 1] [1] rfl rfl rfl rfl rfl callee21 rfl rfl rfl rfl rfl) ?_
          rintro _ ⟨v52', _, _, ⟨_, rfl, rfl, rfl⟩, rfl⟩ a' w' hs'
          exact hK a' w' ⟨v52', v53, hs'.putF (i := 4) rfl [0, 1, 2, 3] [0, 1, 2, 5, 4] rfl rfl rfl rfl⟩
         ·intro L a w hv K Q hK
          obtain ⟨v52, v53, hs⟩ := hv
          refine wpOp_go rfl rfl hs (OpT_strS rfl rfl rfl rfl Try.underlying38 Try.underlying5 Try.underlying9 (i := 3) rfl) ?_
          rintro _ rfl a' w' hs'
          exact hK a' w' ⟨v52, v53, hs'.putF (i := 5) rfl [0, 1, 2, 3] [0, 1, 2, 3, 4] rfl rfl rfl rfl⟩
         ·intro L a w hv K Q hK
          obtain ⟨v52, v53, hs⟩ := hv
          refine wpOp_go rfl rfl hs (OpT_move rfl rfl rfl rfl) ?_
          rintro _ rfl a' w' hs'
          exact hK a' w' ⟨v52, v53, hs'.putF (i := 6) rfl [0, 1, 2, 3] [0, 1, 2, 3, 4] rfl rfl rfl rfl⟩
         ·intro L a w hv K Q hK
          obtain ⟨v52, v53, hs⟩ := hv
          refine wpOp_go rfl rfl hs (OpT_callP [0, 1, 4, 5] (ws_ref_Mem_Image02 hx89) [2, 3] [2] rfl rfl rfl rfl rfl callee29 rfl rfl rfl rfl rfl) ?_
          rintro _ ⟨v53', _, _, ⟨_, rfl, rfl, rfl⟩, rfl⟩ a' w' hs'
          exact hK a' w' ⟨v52, v53', hs'.putF (i := 7) rfl [0, 1, 2, 3] [0, 1, 2, 3, 5] rfl rfl rfl rfl⟩
         ·intro L a w hv K Q hK
          obtain ⟨v52, v53, hs⟩ := hv
          refine wpOp_go rfl rfl hs (OpT_strS rfl rfl rfl rfl Try.underlying38 Try.underlying5 Try.underlying9 (i := 4) rfl) ?_
          rintro _ rfl a' w' hs'
          exact hK a' w' ⟨v52, v53, hs'.putF (i := 8) rfl [0, 1, 2, 3] [0, 1, 2, 3, 4] rfl rfl rfl rfl⟩
         ·intro L a w hL hv
          rw [allTrue hL] at hv
          obtain ⟨v52, v53, hs⟩ := hv
          refine (show TA _ _ _ 6 ⟨[(0, some (vl1)), (5, some (.pointer (some ⟨b4, 0, none⟩))), (182, some (vS image7)), (185, some (vS image8))], [some (cellsR b4 62 [v28, v29]), some (rowsX u8S true v29 vs2 rows7 none)], [Fact.sl RegionS vl1 l, Fact.sl RegionS v28 mem2.l]⟩ from ?_) a w (hs.wkS [0, 5, 182, 185] [0, 1] [0, 1] rfl rfl rfl rfl)
          clear hs hL
          refine TA_step htb (by kernel_rfl) rfl rfl (OpT_bin rfl rfl rfl rfl rfl (bin_eql_s (a := image7) (b := image8))) ?_
          refine TA_step htb (by kernel_rfl) rfl rfl (OpT_move rfl rfl rfl rfl) ?_
          refine TA_wkS (fr' := [(0, some (vl1)), (5, some (.pointer (some ⟨b4, 0, none⟩))), (187, some (vB (image7 == image8)))]) (own' := [some (cellsR b4 62 [v28, v29]), some (rowsX u8S true v29 vs2 rows7 none)]) (shr' := [Fact.sl RegionS vl1 l, Fact.sl RegionS v28 mem2.l]) [0, 5, 187] [0, 1] [0, 1] rfl rfl rfl rfl ?_
          obtain ⟨hg82, h⟩ := chk_e h
          obtain ⟨region5, hx90, h⟩ := ob_e h
          refine TA_seg (lo := 8) (hi := 11) htb rfl rfl (by kernel_rfl) (fun c L a w => ∃ (v54 : Value), Sat c ⟨[(0, some (vl1)), (5, some (.pointer (some ⟨b4, 0, none⟩))), (187, some (vB (image7 == image8))), (188, bif L 8 then some (.pointer (some ⟨b4, 0, none⟩)) else none), (189, bif L 9 then some (v54) else none), (190, bif L 10 then some (vl1) else none)], [(some (cellsR b4 62 [v28, v29]) : Option Res), (some (rowsX u8S true v29 vs2 rows7 none) : Option Res)], [Fact.sl RegionS vl1 l, Fact.sl RegionS v28 mem2.l, (bif L 9 then Fact.sl RegionS v54 region5 else Fact.tt)]⟩ a w) [([], [9]), ([8], []), ([], [])] rfl (by kernel_rfl) ?_ (steps_cons ?_ (steps_cons ?_ (steps_cons ?_ (steps_nil)))) ?_
          ·intro a w hs
           exact ⟨undef, hs.startF [188, 189, 190] [0, 1] [0, 1, 2] rfl rfl rfl rfl⟩
          ·intro L a w hv K Q hK
           obtain ⟨v54, hs⟩ := hv
           refine wpOp_yes rfl rfl rfl hs (congrArg (fun b => some (Value.bool b)) hg82) (OpT_move rfl rfl rfl rfl) ?_
           rintro _ rfl a' w' hs'
           exact hK a' w' ⟨v54, hs'.putF (i := 3) rfl [0, 1] [0, 1, 2] rfl rfl rfl rfl⟩
          ·intro L a w hv K Q hK
           obtain ⟨v54, hs⟩ := hv
           refine wpOp_yes rfl rfl rfl hs (congrArg (fun b => some (Value.bool b)) hg82) (OpT_callP [2, 3] (ws_gmem_Mem_Regions hx90) [0, 1] [1] rfl rfl rfl rfl rfl callee31 rfl rfl rfl rfl rfl) ?_
           rintro _ ⟨v54', _, _, ⟨_, rfl, rfl, rfl⟩, rfl⟩ a' w' hs'
           exact hK a' w' ⟨v54', hs'.putF (i := 4) rfl [0, 1] [0, 1, 3] rfl rfl rfl rfl⟩
          ·intro L a w hv K Q hK
           obtain ⟨v54, hs⟩ := hv
           refine wpOp_yes rfl rfl rfl hs (congrArg (fun b => some (Value.bool b)) hg82) (OpT_move rfl rfl rfl rfl) ?_
           rintro _ rfl a' w' hs'
           exact hK a' w' ⟨v54, hs'.putF (i := 5) rfl [0, 1] [0, 1, 2] rfl rfl rfl rfl⟩
          ·intro L a w hL hv
           rw [allTrue hL] at hv
           obtain ⟨v54, hs⟩ := hv
           refine (show TA _ _ _ 11 ⟨[(187, some (vB (image7 == image8))), (189, some (v54)), (190, some (vl1))], [], [Fact.sl RegionS vl1 l, Fact.sl RegionS v54 region5]⟩ from ?_) a w (hs.wkS [187, 189, 190] [] [0, 2] rfl rfl rfl rfl)
           clear hs hL
           obtain ⟨samere4, hx91, h⟩ := ob_e h
           refine TA_yes htb (by kernel_rfl) rfl rfl rfl (congrArg (fun b => some (Value.bool b)) hg82) (OpT_call (w_kit_SameRegions hx91) [] [1, 0] rfl rfl rfl rfl rfl callee30 rfl rfl rfl rfl) ?_
           rintro _ ⟨_, _, _, ⟨rfl, rfl, rfl⟩, rfl⟩
           refine TA_step htb (by kernel_rfl) rfl rfl (OpT_pickT rfl rfl rfl (congrArg (fun b => some (Value.bool b)) hg82) rfl) ?_
           refine TA_step htb (by kernel_rfl) rfl rfl (OpT_assign rfl rfl rfl rfl) ?_
           refine TA_end rfl ?_
           refine Tk_wkS (fr' := [(4, some (vB samere4))]) (own' := []) (shr' := []) [4] [] [] rfl rfl rfl rfl ?_
           obtain ⟨hg83, h⟩ := chk_e h
           exact Tk_retV rfl rfl (resA (vs := [.bool true]) rfl ⟨(congrArg (fun b => some (Value.bool b)) hg83), trivial⟩) [] [] rfl rfl rfl ⟨rfl, rfl, rfl⟩
end Go.Proofs.Ytecmlfmbmligeaa
