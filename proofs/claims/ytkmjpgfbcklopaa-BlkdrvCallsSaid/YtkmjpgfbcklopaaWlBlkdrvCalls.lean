/- The law BlkdrvCalls is walked: it returns what its plain words say. No condition. -/
import Derived.Test.YtkmjpgfbcklopaaWa5
namespace Go.Proofs.Ytkmjpgfbcklopaa
attribute [local irreducible] sub

set_option maxRecDepth 100000 in
set_option maxHeartbeats 4000000 in
theorem w_law22zBlkdrvCalls {rp0 : Req} {atp1 : UInt64} {cuts : List Int} {l : List Seg} {written : UInt32} {raw : List UInt8} {np6 : Int} {vrp01 : Value} {vrp02 : Value} {vcuts1 : Value} {vl1 : Value} {vraw1 : Value}  (h : law22zBlkdrvCalls rp0 atp1 cuts l written raw np6 = some true) :
  Ctr Try.prog 6 #[.agg #[vU32 rp0.Type_, vU64 rp0.Sector, vrp01, vI rp0.Room, vrp02], vU64 atp1, vcuts1, vl1, vU32 written, vraw1, vI np6] [] [Fact.sl u8S vrp01 rp0.Data, Fact.sl RangeS vrp02 rp0.Ranges, Fact.sl iS vcuts1 cuts, Fact.sl SegS vl1 l, Fact.sl u8S vraw1 raw]
   (fun rv own shr => rv = .bool true ∧ own = [] ∧ shr = []) := by
 unfold law22zBlkdrvCalls at h
 refine Ctr.mk (args := [.agg #[vU32 rp0.Type_, vU64 rp0.Sector, vrp01, vI rp0.Room, vrp02], vU64 atp1, vcuts1, vl1, vU32 written, vraw1, vI np6]) Try.func6 rfl rfl (fun R0 w0 B => ?_)
 refine Tk_seq (Tk_region (Tops_ex rfl (OpT_box rfl rfl rfl rfl) fun b1 => ?_))
 refine Tops_step rfl (OpT_assign rfl rfl rfl rfl) ?_
 refine Tops_nil (Tk_wkS (fr' := [(1, some (vU64 atp1)), (2, some (vcuts1)), (3, some (vl1)), (4, some (vU32 written)), (5, some (vraw1)), (6, some (vI np6)), (7, some (.pointer (some ⟨b1, 0, none⟩)))]) (own' := [some (cellsR b1 38 [vU32 rp0.Type_, vU64 rp0.Sector, vrp01, vI rp0.Room, vrp02])]) (shr' := [Fact.sl u8S vrp01 rp0.Data, Fact.sl RangeS vrp02 rp0.Ranges, Fact.sl iS vcuts1 cuts, Fact.sl SegS vl1 l, Fact.sl u8S vraw1 raw]) [1, 2, 3, 4, 5, 6, 7] [0] [0, 1, 2, 3, 4] rfl rfl rfl rfl ?_)
 refine Tk_seq (Tk_seq (Tk_region ?_))
 obtain ⟨lives1, hx1, h⟩ := ob_e h
 refine Tops_exP rfl (OpT_call (w_law22zlives hx1) [] [] rfl rfl rfl rfl rfl callee8 rfl rfl rfl rfl) ?_
 rintro _ ⟨_, _, _, ⟨rfl, rfl, rfl⟩, rfl⟩
 refine Tops_step rfl (OpT_not rfl rfl rfl rfl) ?_
 refine Tops_nil (Tk_wkS (fr' := [(1, some (vU64 atp1)), (2, some (vcuts1)), (3, some (vl1)), (4, some (vU32 written)), (5, some (vraw1)), (6, some (vI np6)), (7, some (.pointer (some ⟨b1, 0, none⟩))), (34, some (vB (!lives1)))]) (own' := [some (cellsR b1 38 [vU32 rp0.Type_, vU64 rp0.Sector, vrp01, vI rp0.Room, vrp02])]) (shr' := [Fact.sl u8S vrp01 rp0.Data, Fact.sl RangeS vrp02 rp0.Ranges, Fact.sl iS vcuts1 cuts, Fact.sl SegS vl1 l, Fact.sl u8S vraw1 raw]) [1, 2, 3, 4, 5, 6, 7, 34] [0] [0, 1, 2, 3, 4] rfl rfl rfl rfl ?_)
 obtain ⟨hg1, h⟩ := chk_e h
 replace hg1 := not_t hg1
 refine Tk_condF (congrArg (fun b => some (Value.bool b)) hg1) ?_
 refine Tk_skip (Tk_seq (Tk_seq (Tk_region (Tops_step rfl (OpT_loadCA (vs := [vU32 rp0.Type_, vU64 rp0.Sector, vrp01, vI rp0.Room, vrp02]) rfl rfl rfl rfl tyF38 (i := 0) rfl rfl rfl) ?_))))
 obtain ⟨lightr1, hx2, h⟩ := ob_e h
 refine Tops_exP rfl (OpT_call (w_kit_LightReq hx2) [] [0, 1] rfl rfl rfl rfl rfl callee13 rfl rfl rfl rfl) ?_
 rintro _ ⟨_, _, _, ⟨rfl, rfl, rfl⟩, rfl⟩
 refine Tops_step rfl (OpT_not rfl rfl rfl rfl) ?_
 refine Tops_step rfl (OpT_move rfl rfl rfl rfl) ?_
 rcases Bool.eq_false_or_eq_true ((!lightr1)) with hg2 | hg2
 ·replace h := br_t hg2 h
  refine Tops_no rfl rfl (congrArg (fun b => some (Value.bool b)) hg2) rfl rfl ?_
  refine Tops_no rfl rfl (congrArg (fun b => some (Value.bool b)) hg2) rfl rfl ?_
  refine Tops_no rfl rfl (congrArg (fun b => some (Value.bool b)) hg2) rfl rfl ?_
  refine Tops_step rfl (OpT_pickT rfl rfl rfl (congrArg (fun b => some (Value.bool b)) hg2) rfl) ?_
  refine Tops_step rfl (OpT_move rfl rfl rfl rfl) ?_
  refine Tops_no rfl rfl rfl rfl rfl ?_
  refine Tops_no rfl rfl rfl rfl rfl ?_
  refine Tops_no rfl rfl rfl rfl rfl ?_
  refine Tops_step rfl (OpT_pickT rfl rfl rfl rfl rfl) ?_
  refine Tops_step rfl (OpT_move rfl rfl rfl rfl) ?_
  refine Tops_no rfl rfl rfl rfl rfl ?_
  refine Tops_no rfl rfl rfl rfl rfl ?_
  refine Tops_no rfl rfl rfl rfl rfl ?_
  refine Tops_step rfl (OpT_pickT rfl rfl rfl rfl rfl) ?_
  refine Tops_nil (Tk_wkS (fr' := [(1, some (vU64 atp1)), (2, some (vcuts1)), (3, some (vl1)), (4, some (vU32 written)), (5, some (vraw1)), (6, some (vI np6)), (7, some (.pointer (some ⟨b1, 0, none⟩))), (52, some (vB true))]) (own' := [some (cellsR b1 38 [vU32 rp0.Type_, vU64 rp0.Sector, vrp01, vI rp0.Room, vrp02])]) (shr' := [Fact.sl u8S vrp01 rp0.Data, Fact.sl RangeS vrp02 rp0.Ranges, Fact.sl iS vcuts1 cuts, Fact.sl SegS vl1 l, Fact.sl u8S vraw1 raw]) [1, 2, 3, 4, 5, 6, 7, 52] [0] [0, 1, 2, 3, 4] rfl rfl rfl rfl ?_)
  refine Tk_condT rfl ?_
  refine Tk_seq (Tk_region (Tops_step rfl (OpT_assign rfl rfl rfl rfl) ?_))
  refine Tops_nil (Tk_wkS (fr' := [(14, some (vB true))]) (own' := []) (shr' := []) [14] [] [] rfl rfl rfl rfl ?_)
  exact Tk_retV rfl rfl (resA (vs := [.bool true]) rfl ⟨rfl, trivial⟩) [] [] rfl rfl rfl ⟨rfl, rfl, rfl⟩
 ·replace h := br_f hg2 h
  refine Tops_yes rfl rfl (congrArg (fun b => some (Value.bool b)) hg2) (OpT_move rfl rfl rfl rfl) ?_
  rintro _ rfl
  refine Tops_yes rfl rfl (congrArg (fun b => some (Value.bool b)) hg2) (OpT_lenS rfl rfl rfl rfl Try.underlying23 (i := 2) rfl) ?_
  rintro _ rfl
  refine Tops_yes rfl rfl (congrArg (fun b => some (Value.bool b)) hg2) (OpT_bin rfl rfl rfl rfl rfl (bin_gtr_i (a := len cuts) (b := (70 : Int)))) ?_
  rintro _ rfl
  refine Tops_step rfl (OpT_pickF rfl rfl rfl (congrArg (fun b => some (Value.bool b)) hg2) rfl) ?_
  refine Tops_step rfl (OpT_move rfl rfl rfl rfl) ?_
  rcases Bool.eq_false_or_eq_true (decide ((len cuts) > (70 : Int))) with hg3 | hg3
  ·replace h := br_t hg3 h
   refine Tops_no rfl rfl (congrArg (fun b => some (Value.bool b)) hg3) rfl rfl ?_
   refine Tops_no rfl rfl (congrArg (fun b => some (Value.bool b)) hg3) rfl rfl ?_
   refine Tops_no rfl rfl (congrArg (fun b => some (Value.bool b)) hg3) rfl rfl ?_
   refine Tops_step rfl (OpT_pickT rfl rfl rfl (congrArg (fun b => some (Value.bool b)) hg3) rfl) ?_
   refine Tops_step rfl (OpT_move rfl rfl rfl rfl) ?_
   refine Tops_no rfl rfl rfl rfl rfl ?_
   refine Tops_no rfl rfl rfl rfl rfl ?_
   refine Tops_no rfl rfl rfl rfl rfl ?_
   refine Tops_step rfl (OpT_pickT rfl rfl rfl rfl rfl) ?_
   refine Tops_nil (Tk_wkS (fr' := [(1, some (vU64 atp1)), (2, some (vcuts1)), (3, some (vl1)), (4, some (vU32 written)), (5, some (vraw1)), (6, some (vI np6)), (7, some (.pointer (some ⟨b1, 0, none⟩))), (52, some (vB true))]) (own' := [some (cellsR b1 38 [vU32 rp0.Type_, vU64 rp0.Sector, vrp01, vI rp0.Room, vrp02])]) (shr' := [Fact.sl u8S vrp01 rp0.Data, Fact.sl RangeS vrp02 rp0.Ranges, Fact.sl iS vcuts1 cuts, Fact.sl SegS vl1 l, Fact.sl u8S vraw1 raw]) [1, 2, 3, 4, 5, 6, 7, 52] [0] [0, 1, 2, 3, 4] rfl rfl rfl rfl ?_)
   refine Tk_condT rfl ?_
   refine Tk_seq (Tk_region (Tops_step rfl (OpT_assign rfl rfl rfl rfl) ?_))
   refine Tops_nil (Tk_wkS (fr' := [(14, some (vB true))]) (own' := []) (shr' := []) [14] [] [] rfl rfl rfl rfl ?_)
   exact Tk_retV rfl rfl (resA (vs := [.bool true]) rfl ⟨rfl, trivial⟩) [] [] rfl rfl rfl ⟨rfl, rfl, rfl⟩
  ·replace h := br_f hg3 h
   refine Tops_yes rfl rfl (congrArg (fun b => some (Value.bool b)) hg3) (OpT_move rfl rfl rfl rfl) ?_
   rintro _ rfl
   refine Tops_yes rfl rfl (congrArg (fun b => some (Value.bool b)) hg3) (OpT_lenS rfl rfl rfl rfl Try.underlying22 (i := 3) rfl) ?_
   rintro _ rfl
   refine Tops_yes rfl rfl (congrArg (fun b => some (Value.bool b)) hg3) (OpT_bin rfl rfl rfl rfl rfl (bin_gtr_i (a := len l) (b := (70 : Int)))) ?_
   rintro _ rfl
   refine Tops_step rfl (OpT_pickF rfl rfl rfl (congrArg (fun b => some (Value.bool b)) hg3) rfl) ?_
   refine Tops_step rfl (OpT_move rfl rfl rfl rfl) ?_
   rcases Bool.eq_false_or_eq_true (decide ((len l) > (70 : Int))) with hg4 | hg4
   ·replace h := br_t hg4 h
    refine Tops_no rfl rfl (congrArg (fun b => some (Value.bool b)) hg4) rfl rfl ?_
    refine Tops_no rfl rfl (congrArg (fun b => some (Value.bool b)) hg4) rfl rfl ?_
    refine Tops_no rfl rfl (congrArg (fun b => some (Value.bool b)) hg4) rfl rfl ?_
    refine Tops_step rfl (OpT_pickT rfl rfl rfl (congrArg (fun b => some (Value.bool b)) hg4) rfl) ?_
    refine Tops_nil (Tk_wkS (fr' := [(1, some (vU64 atp1)), (2, some (vcuts1)), (3, some (vl1)), (4, some (vU32 written)), (5, some (vraw1)), (6, some (vI np6)), (7, some (.pointer (some ⟨b1, 0, none⟩))), (52, some (vB true))]) (own' := [some (cellsR b1 38 [vU32 rp0.Type_, vU64 rp0.Sector, vrp01, vI rp0.Room, vrp02])]) (shr' := [Fact.sl u8S vrp01 rp0.Data, Fact.sl RangeS vrp02 rp0.Ranges, Fact.sl iS vcuts1 cuts, Fact.sl SegS vl1 l, Fact.sl u8S vraw1 raw]) [1, 2, 3, 4, 5, 6, 7, 52] [0] [0, 1, 2, 3, 4] rfl rfl rfl rfl ?_)
    refine Tk_condT rfl ?_
    refine Tk_seq (Tk_region (Tops_step rfl (OpT_assign rfl rfl rfl rfl) ?_))
    refine Tops_nil (Tk_wkS (fr' := [(14, some (vB true))]) (own' := []) (shr' := []) [14] [] [] rfl rfl rfl rfl ?_)
    exact Tk_retV rfl rfl (resA (vs := [.bool true]) rfl ⟨rfl, trivial⟩) [] [] rfl rfl rfl ⟨rfl, rfl, rfl⟩
   ·replace h := br_f hg4 h
    refine Tops_yes rfl rfl (congrArg (fun b => some (Value.bool b)) hg4) (OpT_move rfl rfl rfl rfl) ?_
    rintro _ rfl
    refine Tops_yes rfl rfl (congrArg (fun b => some (Value.bool b)) hg4) (OpT_lenS rfl rfl rfl rfl Try.underlying35 (i := 4) rfl) ?_
    rintro _ rfl
    refine Tops_yes rfl rfl (congrArg (fun b => some (Value.bool b)) hg4) (OpT_bin rfl rfl rfl rfl rfl (bin_gtr_i (a := len raw) (b := (6000 : Int)))) ?_
    rintro _ rfl
    refine Tops_step rfl (OpT_pickF rfl rfl rfl (congrArg (fun b => some (Value.bool b)) hg4) rfl) ?_
    refine Tops_nil (Tk_wkS (fr' := [(1, some (vU64 atp1)), (2, some (vcuts1)), (3, some (vl1)), (4, some (vU32 written)), (5, some (vraw1)), (6, some (vI np6)), (7, some (.pointer (some ⟨b1, 0, none⟩))), (52, some (vB (decide ((len raw) > (6000 : Int)))))]) (own' := [some (cellsR b1 38 [vU32 rp0.Type_, vU64 rp0.Sector, vrp01, vI rp0.Room, vrp02])]) (shr' := [Fact.sl u8S vrp01 rp0.Data, Fact.sl RangeS vrp02 rp0.Ranges, Fact.sl iS vcuts1 cuts, Fact.sl SegS vl1 l, Fact.sl u8S vraw1 raw]) [1, 2, 3, 4, 5, 6, 7, 52] [0] [0, 1, 2, 3, 4] rfl rfl rfl rfl ?_)
    rcases Bool.eq_false_or_eq_true (decide ((len raw) > (6000 : Int))) with hg5 | hg5
    ·replace h := br_t hg5 h
     refine Tk_condT (congrArg (fun b => some (Value.bool b)) hg5) ?_
     refine Tk_seq (Tk_region (Tops_step rfl (OpT_assign rfl rfl rfl rfl) ?_))
     refine Tops_nil (Tk_wkS (fr' := [(14, some (vB true))]) (own' := []) (shr' := []) [14] [] [] rfl rfl rfl rfl ?_)
     exact Tk_retV rfl rfl (resA (vs := [.bool true]) rfl ⟨rfl, trivial⟩) [] [] rfl rfl rfl ⟨rfl, rfl, rfl⟩
    ·replace h := br_f hg5 h
     refine Tk_condF (congrArg (fun b => some (Value.bool b)) hg5) ?_
     refine Tk_skip (Tk_seq (Tk_region ?_))
     obtain ⟨memory1, hx3, h⟩ := ob_e h
     refine Tops_exP rfl (OpT_call (w_law22zmemory hx3) [] [] rfl rfl rfl rfl rfl callee16 rfl rfl rfl rfl) ?_
     rintro _ ⟨v1, _, _, ⟨_, rfl, rfl, rfl⟩, rfl⟩
     refine Tops_retire (i := 1) rfl ?_
     obtain ⟨new1, hx4, h⟩ := ob_e h
     refine Tops_exP rfl (OpT_call (w_gmem_New hx4) [] [5] rfl rfl rfl rfl rfl callee15 rfl rfl rfl rfl) ?_
     rintro _ ⟨_, _, _, ⟨v2, rfl, rfl, rfl⟩, rfl⟩
     refine Tops_step rfl (OpT_move rfl rfl rfl rfl) ?_
     refine Tops_step rfl (OpT_extract rfl rfl rfl rfl rfl) ?_
     refine Tops_step rfl (OpT_extract rfl rfl rfl rfl rfl) ?_
     refine Tops_step rfl (OpT_assign rfl rfl rfl rfl) ?_
     refine Tops_step rfl (OpT_assign rfl rfl rfl rfl) ?_
     refine Tops_nil (Tk_wkS (fr' := [(1, some (vU64 atp1)), (2, some (vcuts1)), (3, some (vl1)), (4, some (vU32 written)), (5, some (vraw1)), (6, some (vI np6)), (7, some (.pointer (some ⟨b1, 0, none⟩))), (15, some (v2)), (16, some (vI new1.2))]) (own' := [some (cellsR b1 38 [vU32 rp0.Type_, vU64 rp0.Sector, vrp01, vI rp0.Room, vrp02]), some (optR 83 RegionS u8S true gmem_Mem.l gmem_Mem.b v2 new1.1)]) (shr' := [Fact.sl u8S vrp01 rp0.Data, Fact.sl RangeS vrp02 rp0.Ranges, Fact.sl iS vcuts1 cuts, Fact.sl SegS vl1 l, Fact.sl u8S vraw1 raw]) [1, 2, 3, 4, 5, 6, 7, 15, 16] [0, 2] [0, 1, 2, 3, 4] rfl rfl rfl rfl ?_)
     rcases onO_cases h with ⟨ho1, h⟩ | ⟨mem1, ho1, h⟩
     ·cases h
     ·refine Tk_optS (i := 1) rfl ho1 ?_
      rintro b2 v3 v4 vs1 rfl
      refine Tk_seq (Tk_region ?_)
      obtain ⟨memory2, hx5, h⟩ := ob_e h
      refine Tops_exP rfl (OpT_call (w_law22zmemory hx5) [] [] rfl rfl rfl rfl rfl callee16 rfl rfl rfl rfl) ?_
      rintro _ ⟨v5, _, _, ⟨_, rfl, rfl, rfl⟩, rfl⟩
      refine Tops_retire (i := 3) rfl ?_
      obtain ⟨new2, hx6, h⟩ := ob_e h
      refine Tops_exP rfl (OpT_call (w_ref_New02 hx6) [] [6] rfl rfl rfl rfl rfl callee26 rfl rfl rfl rfl) ?_
      rintro _ ⟨_, _, _, ⟨v6, rfl, rfl, rfl⟩, rfl⟩
      refine Tops_step rfl (OpT_move rfl rfl rfl rfl) ?_
      refine Tops_step rfl (OpT_extract rfl rfl rfl rfl rfl) ?_
      refine Tops_step rfl (OpT_extract rfl rfl rfl rfl rfl) ?_
      refine Tops_step rfl (OpT_assign rfl rfl rfl rfl) ?_
      refine Tops_step rfl (OpT_assign rfl rfl rfl rfl) ?_
      refine Tops_nil (Tk_wkS (fr' := [(1, some (vU64 atp1)), (2, some (vcuts1)), (3, some (vl1)), (4, some (vU32 written)), (5, some (vraw1)), (6, some (vI np6)), (7, some (.pointer (some ⟨b1, 0, none⟩))), (15, some (.pointer (some ⟨b2, 0, none⟩))), (16, some (vI new1.2)), (17, some (v6)), (18, some (vI new2.2))]) (own' := [some (cellsR b1 38 [vU32 rp0.Type_, vU64 rp0.Sector, vrp01, vI rp0.Room, vrp02]), some (cellsR b2 83 [v3, v4]), some (rowsX u8S true v4 vs1 mem1.b none), some (optR 97 RegionS u8S false dumbwaiterref02_Mem.L dumbwaiterref02_Mem.B v6 new2.1)]) (shr' := [Fact.sl u8S vrp01 rp0.Data, Fact.sl RangeS vrp02 rp0.Ranges, Fact.sl iS vcuts1 cuts, Fact.sl SegS vl1 l, Fact.sl u8S vraw1 raw, Fact.sl RegionS v3 mem1.l]) [1, 2, 3, 4, 5, 6, 7, 15, 16, 17, 18] [0, 1, 2, 4] [0, 1, 2, 3, 4, 5] rfl rfl rfl rfl ?_)
      rcases onO_cases h with ⟨ho2, h⟩ | ⟨mem2, ho2, h⟩
      ·cases h
      ·refine Tk_optS (i := 3) rfl ho2 ?_
       rintro b3 v7 v8 vs2 rfl
       refine Tk_seq (Tk_seq (Tk_region (Tops_step rfl (OpT_move rfl rfl rfl rfl) ?_)))
       refine Tops_step rfl (OpT_bin rfl rfl rfl rfl rfl (bin_neq_i (a := new1.2) (b := (0 : Int)))) ?_
       refine Tops_step rfl (OpT_move rfl rfl rfl rfl) ?_
       obtain ⟨hg6, h⟩ := chk_e h
       replace hg6 := not_t hg6
       refine Tops_yes rfl rfl (congrArg (fun b => some (Value.bool b)) hg6) (OpT_move rfl rfl rfl rfl) ?_
       rintro _ rfl
       refine Tops_yes rfl rfl (congrArg (fun b => some (Value.bool b)) hg6) (OpT_bin rfl rfl rfl rfl rfl (bin_neq_i (a := new2.2) (b := (0 : Int)))) ?_
       rintro _ rfl
       refine Tops_step rfl (OpT_pickF rfl rfl rfl (congrArg (fun b => some (Value.bool b)) hg6) rfl) ?_
       refine Tops_step rfl (OpT_move rfl rfl rfl rfl) ?_
       obtain ⟨hg7, h⟩ := chk_e h
       replace hg7 := not_t hg7
       refine Tops_yes rfl rfl (congrArg (fun b => some (Value.bool b)) hg7) (OpT_move rfl rfl rfl rfl) ?_
       rintro _ rfl
       refine Tops_yes rfl rfl (congrArg (fun b => some (Value.bool b)) hg7) (OpT_move rfl rfl rfl rfl) ?_
       rintro _ rfl
       obtain ⟨write1, hx7, h⟩ := ob_e h
       refine Tops_yes rfl rfl (congrArg (fun b => some (Value.bool b)) hg7) (OpT_callP [0, 5, 6, 3, 4] (w_gmem_Mem_Write hx7) [1, 2] [5, 4] rfl rfl rfl rfl rfl callee17 rfl rfl rfl rfl rfl) ?_
       rintro _ ⟨_, _, _, ⟨rfl, rfl, rfl⟩, rfl⟩
       refine Tops_yes rfl rfl (congrArg (fun b => some (Value.bool b)) hg7) (OpT_move rfl rfl rfl rfl) ?_
       rintro _ rfl
       refine Tops_yes rfl rfl (congrArg (fun b => some (Value.bool b)) hg7) (OpT_move rfl rfl rfl rfl) ?_
       rintro _ rfl
       obtain ⟨write2, hx8, h⟩ := ob_e h
       refine Tops_yes rfl rfl (congrArg (fun b => some (Value.bool b)) hg7) (OpT_callP [0, 1, 2, 5, 6] (w_ref_Mem_Write02 hx8) [3, 4] [6, 4] rfl rfl rfl rfl rfl callee27 rfl rfl rfl rfl rfl) ?_
       rintro _ ⟨_, _, _, ⟨rfl, rfl, rfl⟩, rfl⟩
       refine Tops_yes rfl rfl (congrArg (fun b => some (Value.bool b)) hg7) (OpT_bin rfl rfl rfl rfl rfl (bin_neq_i (a := write1.1) (b := write2.1))) ?_
       rintro _ rfl
       refine Tops_step rfl (OpT_pickF rfl rfl rfl (congrArg (fun b => some (Value.bool b)) hg7) rfl) ?_
       refine Tops_nil (Tk_wkS (fr' := [(1, some (vU64 atp1)), (2, some (vcuts1)), (3, some (vl1)), (4, some (vU32 written)), (5, some (vraw1)), (6, some (vI np6)), (7, some (.pointer (some ⟨b1, 0, none⟩))), (15, some (.pointer (some ⟨b2, 0, none⟩))), (17, some (.pointer (some ⟨b3, 0, none⟩))), (77, some (vB (write1.1 != write2.1)))]) (own' := [some (cellsR b1 38 [vU32 rp0.Type_, vU64 rp0.Sector, vrp01, vI rp0.Room, vrp02]), some (cellsR b2 83 [v3, v4]), some (rowsX u8S true v4 vs1 write1.2 none), some (cellsR b3 97 [v7, v8]), some (rowsX u8S false v8 vs2 write2.2 none)]) (shr' := [Fact.sl u8S vrp01 rp0.Data, Fact.sl RangeS vrp02 rp0.Ranges, Fact.sl iS vcuts1 cuts, Fact.sl SegS vl1 l, Fact.sl u8S vraw1 raw, Fact.sl RegionS v3 mem1.l, Fact.sl RegionS v7 mem2.L]) [1, 2, 3, 4, 5, 6, 7, 15, 17, 77] [0, 1, 2, 3, 4] [0, 1, 2, 3, 4, 5, 6] rfl rfl rfl rfl ?_)
       obtain ⟨hg8, h⟩ := chk_e h
       replace hg8 := not_t hg8
       refine Tk_condF (congrArg (fun b => some (Value.bool b)) hg8) ?_
       refine Tk_skip (Tk_seq (Tk_region (Tops_step rfl (OpT_move rfl rfl rfl rfl) ?_)))
       refine Tops_step rfl (OpT_move rfl rfl rfl rfl) ?_
       refine Tops_step rfl (OpT_loadCA (vs := [vU32 rp0.Type_, vU64 rp0.Sector, vrp01, vI rp0.Room, vrp02]) rfl rfl rfl rfl tyF38 (i := 0) rfl rfl rfl) ?_
       obtain ⟨req1, hx9, h⟩ := ob_e h
       refine Tops_exP rfl (OpT_call (w_kit_Req hx9) [] [0, 1] rfl rfl rfl rfl rfl callee20 rfl rfl rfl rfl) ?_
       rintro _ ⟨_, _, _, ⟨v9, v10, rfl, rfl, rfl⟩, rfl⟩
       refine Tops_ex rfl (OpT_buildSlice (S := iS) (xs := ([] : List Int)) (css := []) (cs := []) (e := 3) rfl rfl rfl rfl (bldF slF23 (by decide) (by kernel_rfl)) rfl rfl rfl rfl (rel_plainD (S := iS) (xs := ([] : List Int)) (css := []) rfl rfl)) fun v11 => ?_
       refine Tops_step rfl (OpT_move rfl rfl rfl rfl) ?_
       obtain ⟨hc1, h⟩ := chk_e h
       refine Tops_ex rfl (OpT_append rfl rfl rfl rfl rfl slF23 (i := 6) (j := 2) rfl rfl hc1) fun v12 => ?_
       obtain ⟨lay1, hx10, h⟩ := ob_e h
       refine Tops_exP rfl (OpT_callB [5, 6] [0, 7, 8, 3, 4, 5, 6, 9] (w_blkdrv_Lay hx10) [1, 2] rfl rfl rfl rfl rfl callee19 rfl rfl rfl rfl rfl rfl (bor_cons (bor_shr 5 rfl) (bor_cons (bor_shr 7 rfl) (bor_cons (bor_row 5 rfl rfl) (bor_cons (bor_row 6 rfl rfl) bor_nil)))) (by rintro _ _ _ ⟨_, rfl, rfl, rfl⟩; exact ⟨rfl, (ri_cons (ri_cells _ _ _) (ri_cons (ri_rows rfl _ _ _ _ _) (ri_cons (ri_row (S := SegS) rfl _ _) ri_nil)))⟩)) ?_
       rintro _ ⟨_, _, _, ⟨v13, rfl, rfl, rfl⟩, rfl⟩
       refine Tops_step rfl (OpT_move rfl rfl rfl rfl) ?_
       refine Tops_step rfl (OpT_extract rfl rfl rfl rfl rfl) ?_
       refine Tops_step rfl (OpT_extract rfl rfl rfl rfl rfl) ?_
       refine Tops_step rfl (OpT_assign rfl rfl rfl rfl) ?_
       refine Tops_step rfl (OpT_assign rfl rfl rfl rfl) ?_
       refine Tops_nil (Tk_wkS (fr' := [(1, some (vU64 atp1)), (2, some (vcuts1)), (3, some (vl1)), (4, some (vU32 written)), (5, some (vraw1)), (6, some (vI np6)), (7, some (.pointer (some ⟨b1, 0, none⟩))), (15, some (.pointer (some ⟨b2, 0, none⟩))), (17, some (.pointer (some ⟨b3, 0, none⟩))), (19, some (v13)), (16, some (vI lay1.2.1))]) (own' := [some (cellsR b1 38 [vU32 rp0.Type_, vU64 rp0.Sector, vrp01, vI rp0.Room, vrp02]), some (cellsR b2 83 [v3, v4]), some (rowsX u8S true v4 vs1 lay1.2.2 none), some (cellsR b3 97 [v7, v8]), some (rowsX u8S false v8 vs2 write2.2 none), some (rowS SegS v13 lay1.1)]) (shr' := [Fact.sl u8S vrp01 rp0.Data, Fact.sl RangeS vrp02 rp0.Ranges, Fact.sl iS vcuts1 cuts, Fact.sl SegS vl1 l, Fact.sl u8S vraw1 raw, Fact.sl RegionS v3 mem1.l, Fact.sl RegionS v7 mem2.L]) [1, 2, 3, 4, 5, 6, 7, 15, 17, 19, 16] [0, 1, 2, 3, 4, 7] [0, 1, 2, 3, 4, 5, 6] rfl rfl rfl rfl ?_)
       refine Tk_seq (Tk_region (Tops_step rfl (OpT_move rfl rfl rfl rfl) ?_))
       refine Tops_step rfl (OpT_move rfl rfl rfl rfl) ?_
       refine Tops_step rfl (OpT_loadCA (vs := [vU32 rp0.Type_, vU64 rp0.Sector, vrp01, vI rp0.Room, vrp02]) rfl rfl rfl rfl tyF38 (i := 0) rfl rfl rfl) ?_
       refine Tops_step rfl (OpT_move rfl rfl rfl rfl) ?_
       obtain ⟨lay2, hx11, h⟩ := ob_e h
       refine Tops_exP rfl (OpT_callP [0, 1, 2, 6, 7, 5, 8] (w_ref_Lay22 hx11) [3, 4] [6, 0, 1, 2] rfl rfl rfl rfl rfl callee28 rfl rfl rfl rfl rfl) ?_
       rintro _ ⟨_, _, _, ⟨v14, rfl, rfl, rfl⟩, rfl⟩
       refine Tops_step rfl (OpT_move rfl rfl rfl rfl) ?_
       refine Tops_step rfl (OpT_extract rfl rfl rfl rfl rfl) ?_
       refine Tops_step rfl (OpT_extract rfl rfl rfl rfl rfl) ?_
       refine Tops_step rfl (OpT_assign rfl rfl rfl rfl) ?_
       refine Tops_step rfl (OpT_assign rfl rfl rfl rfl) ?_
       refine Tops_nil (Tk_wkS (fr' := [(2, some (vcuts1)), (3, some (vl1)), (4, some (vU32 written)), (5, some (vraw1)), (6, some (vI np6)), (7, some (.pointer (some ⟨b1, 0, none⟩))), (15, some (.pointer (some ⟨b2, 0, none⟩))), (17, some (.pointer (some ⟨b3, 0, none⟩))), (19, some (v13)), (16, some (vI lay1.2.1)), (20, some (v14)), (18, some (vI lay2.2.1))]) (own' := [some (cellsR b1 38 [vU32 rp0.Type_, vU64 rp0.Sector, vrp01, vI rp0.Room, vrp02]), some (cellsR b2 83 [v3, v4]), some (rowsX u8S true v4 vs1 lay1.2.2 none), some (cellsR b3 97 [v7, v8]), some (rowsX u8S false v8 vs2 lay2.2.2 none), some (rowS SegS v13 lay1.1), some (rowS SegS v14 lay2.1)]) (shr' := [Fact.sl u8S vrp01 rp0.Data, Fact.sl RangeS vrp02 rp0.Ranges, Fact.sl iS vcuts1 cuts, Fact.sl SegS vl1 l, Fact.sl u8S vraw1 raw, Fact.sl RegionS v3 mem1.l, Fact.sl RegionS v7 mem2.L]) [2, 3, 4, 5, 6, 7, 15, 17, 19, 16, 20, 18] [0, 1, 2, 3, 4, 5, 6] [0, 1, 2, 3, 4, 5, 6] rfl rfl rfl rfl ?_)
       refine Tk_seq (Tk_region (Tops_step rfl (OpT_loadCA (vs := [vU32 rp0.Type_, vU64 rp0.Sector, vrp01, vI rp0.Room, vrp02]) rfl rfl rfl rfl tyF38 (i := 0) rfl rfl rfl) ?_))
       obtain ⟨size1, hx12, h⟩ := ob_e h
       refine Tops_exP rfl (OpT_call (w_blkdrv_Size hx12) [] [0, 1] rfl rfl rfl rfl rfl callee14 rfl rfl rfl rfl) ?_
       rintro _ ⟨_, _, _, ⟨rfl, rfl, rfl⟩, rfl⟩
       refine Tops_step rfl (OpT_move rfl rfl rfl rfl) ?_
       refine Tops_step rfl (OpT_extract rfl rfl rfl rfl rfl) ?_
       refine Tops_step rfl (OpT_extract rfl rfl rfl rfl rfl) ?_
       refine Tops_step rfl (OpT_assign rfl rfl rfl rfl) ?_
       refine Tops_step rfl (OpT_assign rfl rfl rfl rfl) ?_
       refine Tops_nil (Tk_wkS (fr' := [(2, some (vcuts1)), (3, some (vl1)), (4, some (vU32 written)), (5, some (vraw1)), (6, some (vI np6)), (7, some (.pointer (some ⟨b1, 0, none⟩))), (15, some (.pointer (some ⟨b2, 0, none⟩))), (17, some (.pointer (some ⟨b3, 0, none⟩))), (19, some (v13)), (16, some (vI lay1.2.1)), (20, some (v14)), (18, some (vI lay2.2.1)), (21, some (vI size1.1)), (22, some (vI size1.2))]) (own' := [some (cellsR b1 38 [vU32 rp0.Type_, vU64 rp0.Sector, vrp01, vI rp0.Room, vrp02]), some (cellsR b2 83 [v3, v4]), some (rowsX u8S true v4 vs1 lay1.2.2 none), some (cellsR b3 97 [v7, v8]), some (rowsX u8S false v8 vs2 lay2.2.2 none), some (rowS SegS v13 lay1.1), some (rowS SegS v14 lay2.1)]) (shr' := [Fact.sl u8S vrp01 rp0.Data, Fact.sl RangeS vrp02 rp0.Ranges, Fact.sl iS vcuts1 cuts, Fact.sl SegS vl1 l, Fact.sl u8S vraw1 raw, Fact.sl RegionS v3 mem1.l, Fact.sl RegionS v7 mem2.L]) [2, 3, 4, 5, 6, 7, 15, 17, 19, 16, 20, 18, 21, 22] [0, 1, 2, 3, 4, 5, 6] [0, 1, 2, 3, 4, 5, 6] rfl rfl rfl rfl ?_)
       refine Tk_seq (Tk_region (Tops_step rfl (OpT_loadCA (vs := [vU32 rp0.Type_, vU64 rp0.Sector, vrp01, vI rp0.Room, vrp02]) rfl rfl rfl rfl tyF38 (i := 0) rfl rfl rfl) ?_))
       obtain ⟨size2, hx13, h⟩ := ob_e h
       refine Tops_exP rfl (OpT_call (w_ref_Size22 hx13) [] [0, 1] rfl rfl rfl rfl rfl callee29 rfl rfl rfl rfl) ?_
       rintro _ ⟨_, _, _, ⟨rfl, rfl, rfl⟩, rfl⟩
       refine Tops_step rfl (OpT_move rfl rfl rfl rfl) ?_
       refine Tops_step rfl (OpT_extract rfl rfl rfl rfl rfl) ?_
       refine Tops_step rfl (OpT_extract rfl rfl rfl rfl rfl) ?_
       refine Tops_step rfl (OpT_assign rfl rfl rfl rfl) ?_
       refine Tops_step rfl (OpT_assign rfl rfl rfl rfl) ?_
       refine Tops_nil (Tk_wkS (fr' := [(2, some (vcuts1)), (3, some (vl1)), (4, some (vU32 written)), (5, some (vraw1)), (6, some (vI np6)), (15, some (.pointer (some ⟨b2, 0, none⟩))), (17, some (.pointer (some ⟨b3, 0, none⟩))), (19, some (v13)), (16, some (vI lay1.2.1)), (20, some (v14)), (18, some (vI lay2.2.1)), (21, some (vI size1.1)), (22, some (vI size1.2)), (23, some (vI size2.1)), (24, some (vI size2.2))]) (own' := [some (cellsR b2 83 [v3, v4]), some (rowsX u8S true v4 vs1 lay1.2.2 none), some (cellsR b3 97 [v7, v8]), some (rowsX u8S false v8 vs2 lay2.2.2 none), some (rowS SegS v13 lay1.1), some (rowS SegS v14 lay2.1)]) (shr' := [Fact.sl iS vcuts1 cuts, Fact.sl SegS vl1 l, Fact.sl u8S vraw1 raw, Fact.sl RegionS v3 mem1.l, Fact.sl RegionS v7 mem2.L]) [2, 3, 4, 5, 6, 15, 17, 19, 16, 20, 18, 21, 22, 23, 24] [1, 2, 3, 4, 5, 6] [2, 3, 4, 5, 6] rfl rfl rfl rfl ?_)
       refine Tk_seq (Tk_seq (Tk_drawT (by kernel_rfl) ?_))
       refine TA_tb [0, 0, 3, 7, 15, 31, 31, 127, 255, 511, 1023, 1023, 4095, 8191, 16383, 32767, 32767, 131071, 262143, 524287, 1048575, 2097151, 4194303, 1048575, 12582911, 29360127, 67108863, 134217727, 268435455, 536870911, 1073741823, 536870911, 4294967295, 536870911, 536870911, 34359738367, 68719476735, 137438953471, 274877906943] (by kernel_rfl) fun htb => ?_
       refine TA_seg (lo := 0) (hi := 2) htb rfl rfl (by kernel_rfl) (fun c L a w => Sat c ⟨[(2, some (vcuts1)), (3, some (vl1)), (4, some (vU32 written)), (5, some (vraw1)), (6, some (vI np6)), (15, some (.pointer (some ⟨b2, 0, none⟩))), (17, some (.pointer (some ⟨b3, 0, none⟩))), (19, some (v13)), (16, some (vI lay1.2.1)), (20, some (v14)), (18, some (vI lay2.2.1)), (21, some (vI size1.1)), (22, some (vI size1.2)), (23, some (vI size2.1)), (24, some (vI size2.2)), (107, bif L 0 then some (v13) else none), (108, bif L 1 then some (v14) else none)], [(some (cellsR b2 83 [v3, v4]) : Option Res), (some (rowsX u8S true v4 vs1 lay1.2.2 none) : Option Res), (some (cellsR b3 97 [v7, v8]) : Option Res), (some (rowsX u8S false v8 vs2 lay2.2.2 none) : Option Res), (some (rowS SegS v13 lay1.1) : Option Res), (some (rowS SegS v14 lay2.1) : Option Res)], [Fact.sl iS vcuts1 cuts, Fact.sl SegS vl1 l, Fact.sl u8S vraw1 raw, Fact.sl RegionS v3 mem1.l, Fact.sl RegionS v7 mem2.L]⟩ a w) [([], []), ([], [])] rfl (by kernel_rfl) ?_ (steps_cons ?_ (steps_cons ?_ (steps_nil))) ?_
       ·intro a w hs
        exact hs.startF [107, 108] [0, 1, 2, 3, 4, 5] [0, 1, 2, 3, 4] rfl rfl rfl rfl
       ·intro L a w hv K Q hK
        have hs := hv
        refine wpOp_go rfl rfl hs (OpT_move rfl rfl rfl rfl) ?_
        rintro _ rfl a' w' hs'
        exact hK a' w' (hs'.putF (i := 15) rfl [0, 1, 2, 3, 4, 5] [0, 1, 2, 3, 4] rfl rfl rfl rfl)
       ·intro L a w hv K Q hK
        have hs := hv
        refine wpOp_go rfl rfl hs (OpT_move rfl rfl rfl rfl) ?_
        rintro _ rfl a' w' hs'
        exact hK a' w' (hs'.putF (i := 16) rfl [0, 1, 2, 3, 4, 5] [0, 1, 2, 3, 4] rfl rfl rfl rfl)
       ·intro L a w hL hv
        rw [allTrue hL] at hv
        have hs := hv
        refine (show TA _ _ _ 2 ⟨[(2, some (vcuts1)), (3, some (vl1)), (4, some (vU32 written)), (5, some (vraw1)), (6, some (vI np6)), (15, some (.pointer (some ⟨b2, 0, none⟩))), (17, some (.pointer (some ⟨b3, 0, none⟩))), (16, some (vI lay1.2.1)), (20, some (v14)), (18, some (vI lay2.2.1)), (21, some (vI size1.1)), (22, some (vI size1.2)), (23, some (vI size2.1)), (24, some (vI size2.2)), (107, some (v13)), (108, some (v14))], [some (cellsR b2 83 [v3, v4]), some (rowsX u8S true v4 vs1 lay1.2.2 none), some (cellsR b3 97 [v7, v8]), some (rowsX u8S false v8 vs2 lay2.2.2 none), some (rowS SegS v13 lay1.1), some (rowS SegS v14 lay2.1)], [Fact.sl iS vcuts1 cuts, Fact.sl SegS vl1 l, Fact.sl u8S vraw1 raw, Fact.sl RegionS v3 mem1.l, Fact.sl RegionS v7 mem2.L]⟩ from ?_) a w (hs.wkS [2, 3, 4, 5, 6, 15, 17, 16, 20, 18, 21, 22, 23, 24, 107, 108] [0, 1, 2, 3, 4, 5] [0, 1, 2, 3, 4] rfl rfl rfl rfl)
        clear hs hL
        obtain ⟨samese1, hx14, h⟩ := ob_e h
        refine TA_exP htb (by kernel_rfl) rfl rfl (OpT_callB [4, 5] [0, 1, 2, 3, 4, 5] (w_kit_SameSegs hx14) [] rfl rfl rfl rfl rfl callee12 rfl rfl rfl rfl rfl rfl (bor_cons (bor_row 4 rfl rfl) (bor_cons (bor_row 5 rfl rfl) bor_nil)) (by rintro _ _ _ ⟨rfl, rfl, rfl⟩; exact ⟨rfl, ri_nil⟩)) ?_
        rintro _ ⟨_, _, _, ⟨rfl, rfl, rfl⟩, rfl⟩
        refine TA_step htb (by kernel_rfl) rfl rfl (OpT_not rfl rfl rfl rfl) ?_
        refine TA_step htb (by kernel_rfl) rfl rfl (OpT_move rfl rfl rfl rfl) ?_
        refine TA_wkS (fr' := [(2, some (vcuts1)), (3, some (vl1)), (4, some (vU32 written)), (5, some (vraw1)), (6, some (vI np6)), (15, some (.pointer (some ⟨b2, 0, none⟩))), (17, some (.pointer (some ⟨b3, 0, none⟩))), (16, some (vI lay1.2.1)), (20, some (v14)), (18, some (vI lay2.2.1)), (21, some (vI size1.1)), (22, some (vI size1.2)), (23, some (vI size2.1)), (24, some (vI size2.2)), (111, some (vB (!samese1)))]) (own' := [some (cellsR b2 83 [v3, v4]), some (rowsX u8S true v4 vs1 lay1.2.2 none), some (cellsR b3 97 [v7, v8]), some (rowsX u8S false v8 vs2 lay2.2.2 none), some (rowS SegS v14 lay2.1)]) (shr' := [Fact.sl iS vcuts1 cuts, Fact.sl SegS vl1 l, Fact.sl u8S vraw1 raw, Fact.sl RegionS v3 mem1.l, Fact.sl RegionS v7 mem2.L]) [2, 3, 4, 5, 6, 15, 17, 16, 20, 18, 21, 22, 23, 24, 111] [0, 1, 2, 3, 5] [0, 1, 2, 3, 4] rfl rfl rfl rfl ?_
        obtain ⟨hg9, h⟩ := chk_e h
        replace hg9 := not_t hg9
        refine TA_seg (lo := 5) (hi := 7) htb rfl rfl (by kernel_rfl) (fun c L a w => Sat c ⟨[(2, some (vcuts1)), (3, some (vl1)), (4, some (vU32 written)), (5, some (vraw1)), (6, some (vI np6)), (15, some (.pointer (some ⟨b2, 0, none⟩))), (17, some (.pointer (some ⟨b3, 0, none⟩))), (16, some (vI lay1.2.1)), (20, some (v14)), (18, some (vI lay2.2.1)), (21, some (vI size1.1)), (22, some (vI size1.2)), (23, some (vI size2.1)), (24, some (vI size2.2)), (111, some (vB (!samese1))), (112, bif L 5 then some (vI lay1.2.1) else none), (113, bif L 6 then some (vI lay2.2.1) else none)], [(some (cellsR b2 83 [v3, v4]) : Option Res), (some (rowsX u8S true v4 vs1 lay1.2.2 none) : Option Res), (some (cellsR b3 97 [v7, v8]) : Option Res), (some (rowsX u8S false v8 vs2 lay2.2.2 none) : Option Res), (some (rowS SegS v14 lay2.1) : Option Res)], [Fact.sl iS vcuts1 cuts, Fact.sl SegS vl1 l, Fact.sl u8S vraw1 raw, Fact.sl RegionS v3 mem1.l, Fact.sl RegionS v7 mem2.L]⟩ a w) [([], []), ([], [])] rfl (by kernel_rfl) ?_ (steps_cons ?_ (steps_cons ?_ (steps_nil))) ?_
        ·intro a w hs
         exact hs.startF [112, 113] [0, 1, 2, 3, 4] [0, 1, 2, 3, 4] rfl rfl rfl rfl
        ·intro L a w hv K Q hK
         have hs := hv
         refine wpOp_yes rfl rfl rfl hs (congrArg (fun b => some (Value.bool b)) hg9) (OpT_move rfl rfl rfl rfl) ?_
         rintro _ rfl a' w' hs'
         exact hK a' w' (hs'.putF (i := 15) rfl [0, 1, 2, 3, 4] [0, 1, 2, 3, 4] rfl rfl rfl rfl)
        ·intro L a w hv K Q hK
         have hs := hv
         refine wpOp_yes rfl rfl rfl hs (congrArg (fun b => some (Value.bool b)) hg9) (OpT_move rfl rfl rfl rfl) ?_
         rintro _ rfl a' w' hs'
         exact hK a' w' (hs'.putF (i := 16) rfl [0, 1, 2, 3, 4] [0, 1, 2, 3, 4] rfl rfl rfl rfl)
        ·intro L a w hL hv
         rw [allTrue hL] at hv
         have hs := hv
         refine (show TA _ _ _ 7 ⟨[(2, some (vcuts1)), (3, some (vl1)), (4, some (vU32 written)), (5, some (vraw1)), (6, some (vI np6)), (15, some (.pointer (some ⟨b2, 0, none⟩))), (17, some (.pointer (some ⟨b3, 0, none⟩))), (20, some (v14)), (21, some (vI size1.1)), (22, some (vI size1.2)), (23, some (vI size2.1)), (24, some (vI size2.2)), (111, some (vB (!samese1))), (112, some (vI lay1.2.1)), (113, some (vI lay2.2.1))], [some (cellsR b2 83 [v3, v4]), some (rowsX u8S true v4 vs1 lay1.2.2 none), some (cellsR b3 97 [v7, v8]), some (rowsX u8S false v8 vs2 lay2.2.2 none), some (rowS SegS v14 lay2.1)], [Fact.sl iS vcuts1 cuts, Fact.sl SegS vl1 l, Fact.sl u8S vraw1 raw, Fact.sl RegionS v3 mem1.l, Fact.sl RegionS v7 mem2.L]⟩ from ?_) a w (hs.wkS [2, 3, 4, 5, 6, 15, 17, 20, 21, 22, 23, 24, 111, 112, 113] [0, 1, 2, 3, 4] [0, 1, 2, 3, 4] rfl rfl rfl rfl)
         clear hs hL
         refine TA_yes htb (by kernel_rfl) rfl rfl rfl (congrArg (fun b => some (Value.bool b)) hg9) (OpT_bin rfl rfl rfl rfl rfl (bin_neq_i (a := lay1.2.1) (b := lay2.2.1))) ?_
         rintro _ rfl
         refine TA_step htb (by kernel_rfl) rfl rfl (OpT_pickF rfl rfl rfl (congrArg (fun b => some (Value.bool b)) hg9) rfl) ?_
         refine TA_step htb (by kernel_rfl) rfl rfl (OpT_move rfl rfl rfl rfl) ?_
         refine TA_wkS (fr' := [(2, some (vcuts1)), (3, some (vl1)), (4, some (vU32 written)), (5, some (vraw1)), (6, some (vI np6)), (15, some (.pointer (some ⟨b2, 0, none⟩))), (17, some (.pointer (some ⟨b3, 0, none⟩))), (20, some (v14)), (21, some (vI size1.1)), (22, some (vI size1.2)), (23, some (vI size2.1)), (24, some (vI size2.2)), (116, some (vB (lay1.2.1 != lay2.2.1)))]) (own' := [some (cellsR b2 83 [v3, v4]), some (rowsX u8S true v4 vs1 lay1.2.2 none), some (cellsR b3 97 [v7, v8]), some (rowsX u8S false v8 vs2 lay2.2.2 none), some (rowS SegS v14 lay2.1)]) (shr' := [Fact.sl iS vcuts1 cuts, Fact.sl SegS vl1 l, Fact.sl u8S vraw1 raw, Fact.sl RegionS v3 mem1.l, Fact.sl RegionS v7 mem2.L]) [2, 3, 4, 5, 6, 15, 17, 20, 21, 22, 23, 24, 116] [0, 1, 2, 3, 4] [0, 1, 2, 3, 4] rfl rfl rfl rfl ?_
         obtain ⟨hg10, h⟩ := chk_e h
         replace hg10 := not_t hg10
         refine TA_seg (lo := 10) (hi := 12) htb rfl rfl (by kernel_rfl) (fun c L a w => Sat c ⟨[(2, some (vcuts1)), (3, some (vl1)), (4, some (vU32 written)), (5, some (vraw1)), (6, some (vI np6)), (15, some (.pointer (some ⟨b2, 0, none⟩))), (17, some (.pointer (some ⟨b3, 0, none⟩))), (20, some (v14)), (21, some (vI size1.1)), (22, some (vI size1.2)), (23, some (vI size2.1)), (24, some (vI size2.2)), (116, some (vB (lay1.2.1 != lay2.2.1))), (117, bif L 10 then some (vI size1.1) else none), (118, bif L 11 then some (vI size2.1) else none)], [(some (cellsR b2 83 [v3, v4]) : Option Res), (some (rowsX u8S true v4 vs1 lay1.2.2 none) : Option Res), (some (cellsR b3 97 [v7, v8]) : Option Res), (some (rowsX u8S false v8 vs2 lay2.2.2 none) : Option Res), (some (rowS SegS v14 lay2.1) : Option Res)], [Fact.sl iS vcuts1 cuts, Fact.sl SegS vl1 l, Fact.sl u8S vraw1 raw, Fact.sl RegionS v3 mem1.l, Fact.sl RegionS v7 mem2.L]⟩ a w) [([], []), ([], [])] rfl (by kernel_rfl) ?_ (steps_cons ?_ (steps_cons ?_ (steps_nil))) ?_
         ·intro a w hs
          exact hs.startF [117, 118] [0, 1, 2, 3, 4] [0, 1, 2, 3, 4] rfl rfl rfl rfl
         ·intro L a w hv K Q hK
          have hs := hv
          refine wpOp_yes rfl rfl rfl hs (congrArg (fun b => some (Value.bool b)) hg10) (OpT_move rfl rfl rfl rfl) ?_
          rintro _ rfl a' w' hs'
          exact hK a' w' (hs'.putF (i := 13) rfl [0, 1, 2, 3, 4] [0, 1, 2, 3, 4] rfl rfl rfl rfl)
         ·intro L a w hv K Q hK
          have hs := hv
          refine wpOp_yes rfl rfl rfl hs (congrArg (fun b => some (Value.bool b)) hg10) (OpT_move rfl rfl rfl rfl) ?_
          rintro _ rfl a' w' hs'
          exact hK a' w' (hs'.putF (i := 14) rfl [0, 1, 2, 3, 4] [0, 1, 2, 3, 4] rfl rfl rfl rfl)
         ·intro L a w hL hv
          rw [allTrue hL] at hv
          have hs := hv
          refine (show TA _ _ _ 12 ⟨[(2, some (vcuts1)), (3, some (vl1)), (4, some (vU32 written)), (5, some (vraw1)), (6, some (vI np6)), (15, some (.pointer (some ⟨b2, 0, none⟩))), (17, some (.pointer (some ⟨b3, 0, none⟩))), (20, some (v14)), (22, some (vI size1.2)), (24, some (vI size2.2)), (116, some (vB (lay1.2.1 != lay2.2.1))), (117, some (vI size1.1)), (118, some (vI size2.1))], [some (cellsR b2 83 [v3, v4]), some (rowsX u8S true v4 vs1 lay1.2.2 none), some (cellsR b3 97 [v7, v8]), some (rowsX u8S false v8 vs2 lay2.2.2 none), some (rowS SegS v14 lay2.1)], [Fact.sl iS vcuts1 cuts, Fact.sl SegS vl1 l, Fact.sl u8S vraw1 raw, Fact.sl RegionS v3 mem1.l, Fact.sl RegionS v7 mem2.L]⟩ from ?_) a w (hs.wkS [2, 3, 4, 5, 6, 15, 17, 20, 22, 24, 116, 117, 118] [0, 1, 2, 3, 4] [0, 1, 2, 3, 4] rfl rfl rfl rfl)
          clear hs hL
          refine TA_yes htb (by kernel_rfl) rfl rfl rfl (congrArg (fun b => some (Value.bool b)) hg10) (OpT_bin rfl rfl rfl rfl rfl (bin_neq_i (a := size1.1) (b := size2.1))) ?_
          rintro _ rfl
          refine TA_step htb (by kernel_rfl) rfl rfl (OpT_pickF rfl rfl rfl (congrArg (fun b => some (Value.bool b)) hg10) rfl) ?_
          refine TA_step htb (by kernel_rfl) rfl rfl (OpT_move rfl rfl rfl rfl) ?_
          refine TA_wkS (fr' := [(2, some (vcuts1)), (3, some (vl1)), (4, some (vU32 written)), (5, some (vraw1)), (6, some (vI np6)), (15, some (.pointer (some ⟨b2, 0, none⟩))), (17, some (.pointer (some ⟨b3, 0, none⟩))), (20, some (v14)), (22, some (vI size1.2)), (24, some (vI size2.2)), (121, some (vB (size1.1 != size2.1)))]) (own' := [some (cellsR b2 83 [v3, v4]), some (rowsX u8S true v4 vs1 lay1.2.2 none), some (cellsR b3 97 [v7, v8]), some (rowsX u8S false v8 vs2 lay2.2.2 none), some (rowS SegS v14 lay2.1)]) (shr' := [Fact.sl iS vcuts1 cuts, Fact.sl SegS vl1 l, Fact.sl u8S vraw1 raw, Fact.sl RegionS v3 mem1.l, Fact.sl RegionS v7 mem2.L]) [2, 3, 4, 5, 6, 15, 17, 20, 22, 24, 121] [0, 1, 2, 3, 4] [0, 1, 2, 3, 4] rfl rfl rfl rfl ?_
          obtain ⟨hg11, h⟩ := chk_e h
          replace hg11 := not_t hg11
          refine TA_seg (lo := 15) (hi := 17) htb rfl rfl (by kernel_rfl) (fun c L a w => Sat c ⟨[(2, some (vcuts1)), (3, some (vl1)), (4, some (vU32 written)), (5, some (vraw1)), (6, some (vI np6)), (15, some (.pointer (some ⟨b2, 0, none⟩))), (17, some (.pointer (some ⟨b3, 0, none⟩))), (20, some (v14)), (22, some (vI size1.2)), (24, some (vI size2.2)), (121, some (vB (size1.1 != size2.1))), (122, bif L 15 then some (vI size1.2) else none), (123, bif L 16 then some (vI size2.2) else none)], [(some (cellsR b2 83 [v3, v4]) : Option Res), (some (rowsX u8S true v4 vs1 lay1.2.2 none) : Option Res), (some (cellsR b3 97 [v7, v8]) : Option Res), (some (rowsX u8S false v8 vs2 lay2.2.2 none) : Option Res), (some (rowS SegS v14 lay2.1) : Option Res)], [Fact.sl iS vcuts1 cuts, Fact.sl SegS vl1 l, Fact.sl u8S vraw1 raw, Fact.sl RegionS v3 mem1.l, Fact.sl RegionS v7 mem2.L]⟩ a w) [([], []), ([], [])] rfl (by kernel_rfl) ?_ (steps_cons ?_ (steps_cons ?_ (steps_nil))) ?_
          ·intro a w hs
           exact hs.startF [122, 123] [0, 1, 2, 3, 4] [0, 1, 2, 3, 4] rfl rfl rfl rfl
          ·intro L a w hv K Q hK
           have hs := hv
           refine wpOp_yes rfl rfl rfl hs (congrArg (fun b => some (Value.bool b)) hg11) (OpT_move rfl rfl rfl rfl) ?_
           rintro _ rfl a' w' hs'
           exact hK a' w' (hs'.putF (i := 11) rfl [0, 1, 2, 3, 4] [0, 1, 2, 3, 4] rfl rfl rfl rfl)
          ·intro L a w hv K Q hK
           have hs := hv
           refine wpOp_yes rfl rfl rfl hs (congrArg (fun b => some (Value.bool b)) hg11) (OpT_move rfl rfl rfl rfl) ?_
           rintro _ rfl a' w' hs'
           exact hK a' w' (hs'.putF (i := 12) rfl [0, 1, 2, 3, 4] [0, 1, 2, 3, 4] rfl rfl rfl rfl)
          ·intro L a w hL hv
           rw [allTrue hL] at hv
           have hs := hv
           refine (show TA _ _ _ 17 ⟨[(2, some (vcuts1)), (3, some (vl1)), (4, some (vU32 written)), (5, some (vraw1)), (6, some (vI np6)), (15, some (.pointer (some ⟨b2, 0, none⟩))), (17, some (.pointer (some ⟨b3, 0, none⟩))), (20, some (v14)), (121, some (vB (size1.1 != size2.1))), (122, some (vI size1.2)), (123, some (vI size2.2))], [some (cellsR b2 83 [v3, v4]), some (rowsX u8S true v4 vs1 lay1.2.2 none), some (cellsR b3 97 [v7, v8]), some (rowsX u8S false v8 vs2 lay2.2.2 none), some (rowS SegS v14 lay2.1)], [Fact.sl iS vcuts1 cuts, Fact.sl SegS vl1 l, Fact.sl u8S vraw1 raw, Fact.sl RegionS v3 mem1.l, Fact.sl RegionS v7 mem2.L]⟩ from ?_) a w (hs.wkS [2, 3, 4, 5, 6, 15, 17, 20, 121, 122, 123] [0, 1, 2, 3, 4] [0, 1, 2, 3, 4] rfl rfl rfl rfl)
           clear hs hL
           refine TA_yes htb (by kernel_rfl) rfl rfl rfl (congrArg (fun b => some (Value.bool b)) hg11) (OpT_bin rfl rfl rfl rfl rfl (bin_neq_i (a := size1.2) (b := size2.2))) ?_
           rintro _ rfl
           refine TA_step htb (by kernel_rfl) rfl rfl (OpT_pickF rfl rfl rfl (congrArg (fun b => some (Value.bool b)) hg11) rfl) ?_
           refine TA_step htb (by kernel_rfl) rfl rfl (OpT_move rfl rfl rfl rfl) ?_
           refine TA_wkS (fr' := [(2, some (vcuts1)), (3, some (vl1)), (4, some (vU32 written)), (5, some (vraw1)), (6, some (vI np6)), (15, some (.pointer (some ⟨b2, 0, none⟩))), (17, some (.pointer (some ⟨b3, 0, none⟩))), (20, some (v14)), (126, some (vB (size1.2 != size2.2)))]) (own' := [some (cellsR b2 83 [v3, v4]), some (rowsX u8S true v4 vs1 lay1.2.2 none), some (cellsR b3 97 [v7, v8]), some (rowsX u8S false v8 vs2 lay2.2.2 none), some (rowS SegS v14 lay2.1)]) (shr' := [Fact.sl iS vcuts1 cuts, Fact.sl SegS vl1 l, Fact.sl u8S vraw1 raw, Fact.sl RegionS v3 mem1.l, Fact.sl RegionS v7 mem2.L]) [2, 3, 4, 5, 6, 15, 17, 20, 126] [0, 1, 2, 3, 4] [0, 1, 2, 3, 4] rfl rfl rfl rfl ?_
           obtain ⟨hg12, h⟩ := chk_e h
           replace hg12 := not_t hg12
           obtain ⟨image1, hx15, h⟩ := ob_e h
           obtain ⟨image2, hx16, h⟩ := ob_e h
           refine TA_seg (lo := 20) (hi := 26) htb rfl rfl (by kernel_rfl) (fun c L a w => ∃ (v15 : Value), ∃ (v16 : Value), Sat c ⟨[(2, some (vcuts1)), (3, some (vl1)), (4, some (vU32 written)), (5, some (vraw1)), (6, some (vI np6)), (15, some (.pointer (some ⟨b2, 0, none⟩))), (17, some (.pointer (some ⟨b3, 0, none⟩))), (20, some (v14)), (126, some (vB (size1.2 != size2.2))), (127, bif L 20 then some (.pointer (some ⟨b2, 0, none⟩)) else none), (128, bif L 21 then some (v15) else none), (129, bif L 22 then some (vS image1) else none), (130, bif L 23 then some (.pointer (some ⟨b3, 0, none⟩)) else none), (131, bif L 24 then some (v16) else none), (132, bif L 25 then some (vS image2) else none)], [(some (cellsR b2 83 [v3, v4]) : Option Res), (some (rowsX u8S true v4 vs1 lay1.2.2 none) : Option Res), (some (cellsR b3 97 [v7, v8]) : Option Res), (some (rowsX u8S false v8 vs2 lay2.2.2 none) : Option Res), (some (rowS SegS v14 lay2.1) : Option Res)], [Fact.sl iS vcuts1 cuts, Fact.sl SegS vl1 l, Fact.sl u8S vraw1 raw, Fact.sl RegionS v3 mem1.l, Fact.sl RegionS v7 mem2.L, (bif L 21 then Fact.sl u8S v15 image1 else Fact.tt), (bif L 24 then Fact.sl u8S v16 image2 else Fact.tt)]⟩ a w) [([], [21, 22, 24, 25]), ([20], [22, 24, 25]), ([20, 21], []), ([], [24, 25]), ([20, 21, 23], [25]), ([20, 21, 23, 24], [])] rfl (by kernel_rfl) ?_ (steps_cons ?_ (steps_cons ?_ (steps_cons ?_ (steps_cons ?_ (steps_cons ?_ (steps_cons ?_ (steps_nil))))))) ?_
           ·intro a w hs
            exact ⟨undef, undef, hs.startF [127, 128, 129, 130, 131, 132] [0, 1, 2, 3, 4] [0, 1, 2, 3, 4, 5, 6] rfl rfl rfl rfl⟩
           ·intro L a w hv K Q hK
            obtain ⟨v15, v16, hs⟩ := hv
            refine wpOp_yes rfl rfl rfl hs (congrArg (fun b => some (Value.bool b)) hg12) (OpT_move rfl rfl rfl rfl) ?_
            rintro _ rfl a' w' hs'
            exact hK a' w' ⟨v15, v16, hs'.putF (i := 9) rfl [0, 1, 2, 3, 4] [0, 1, 2, 3, 4, 5, 6] rfl rfl rfl rfl⟩
           ·intro L a w hv K Q hK
            obtain ⟨v15, v16, hs⟩ := hv
            refine wpOp_yes rfl rfl rfl hs (congrArg (fun b => some (Value.bool b)) hg12) (OpT_callP [5, 6, 2, 3, 4] (ws_gmem_Mem_Image hx15) [0, 1] [3] rfl rfl rfl rfl rfl callee21 rfl rfl rfl rfl rfl) ?_
            rintro _ ⟨v15', _, _, ⟨_, rfl, rfl, rfl⟩, rfl⟩ a' w' hs'
            exact hK a' w' ⟨v15', v16, hs'.putF (i := 10) rfl [0, 1, 2, 3, 4] [0, 1, 2, 3, 4, 7, 6] rfl rfl rfl rfl⟩
           ·intro L a w hv K Q hK
            obtain ⟨v15, v16, hs⟩ := hv
            refine wpOp_yes rfl rfl rfl hs (congrArg (fun b => some (Value.bool b)) hg12) (OpT_strS rfl rfl rfl rfl Try.underlying35 Try.underlying5 Try.underlying9 (i := 5) rfl) ?_
            rintro _ rfl a' w' hs'
            exact hK a' w' ⟨v15, v16, hs'.putF (i := 11) rfl [0, 1, 2, 3, 4] [0, 1, 2, 3, 4, 5, 6] rfl rfl rfl rfl⟩
           ·intro L a w hv K Q hK
            obtain ⟨v15, v16, hs⟩ := hv
            refine wpOp_yes rfl rfl rfl hs (congrArg (fun b => some (Value.bool b)) hg12) (OpT_move rfl rfl rfl rfl) ?_
            rintro _ rfl a' w' hs'
            exact hK a' w' ⟨v15, v16, hs'.putF (i := 12) rfl [0, 1, 2, 3, 4] [0, 1, 2, 3, 4, 5, 6] rfl rfl rfl rfl⟩
           ·intro L a w hv K Q hK
            obtain ⟨v15, v16, hs⟩ := hv
            refine wpOp_yes rfl rfl rfl hs (congrArg (fun b => some (Value.bool b)) hg12) (OpT_callP [0, 1, 5, 6, 4] (ws_ref_Mem_Image02 hx16) [2, 3] [4] rfl rfl rfl rfl rfl callee30 rfl rfl rfl rfl rfl) ?_
            rintro _ ⟨v16', _, _, ⟨_, rfl, rfl, rfl⟩, rfl⟩ a' w' hs'
            exact hK a' w' ⟨v15, v16', hs'.putF (i := 13) rfl [0, 1, 2, 3, 4] [0, 1, 2, 3, 4, 5, 7] rfl rfl rfl rfl⟩
           ·intro L a w hv K Q hK
            obtain ⟨v15, v16, hs⟩ := hv
            refine wpOp_yes rfl rfl rfl hs (congrArg (fun b => some (Value.bool b)) hg12) (OpT_strS rfl rfl rfl rfl Try.underlying35 Try.underlying5 Try.underlying9 (i := 6) rfl) ?_
            rintro _ rfl a' w' hs'
            exact hK a' w' ⟨v15, v16, hs'.putF (i := 14) rfl [0, 1, 2, 3, 4] [0, 1, 2, 3, 4, 5, 6] rfl rfl rfl rfl⟩
           ·intro L a w hL hv
            rw [allTrue hL] at hv
            obtain ⟨v15, v16, hs⟩ := hv
            refine (show TA _ _ _ 26 ⟨[(2, some (vcuts1)), (3, some (vl1)), (4, some (vU32 written)), (5, some (vraw1)), (6, some (vI np6)), (15, some (.pointer (some ⟨b2, 0, none⟩))), (17, some (.pointer (some ⟨b3, 0, none⟩))), (20, some (v14)), (126, some (vB (size1.2 != size2.2))), (129, some (vS image1)), (132, some (vS image2))], [some (cellsR b2 83 [v3, v4]), some (rowsX u8S true v4 vs1 lay1.2.2 none), some (cellsR b3 97 [v7, v8]), some (rowsX u8S false v8 vs2 lay2.2.2 none), some (rowS SegS v14 lay2.1)], [Fact.sl iS vcuts1 cuts, Fact.sl SegS vl1 l, Fact.sl u8S vraw1 raw, Fact.sl RegionS v3 mem1.l, Fact.sl RegionS v7 mem2.L]⟩ from ?_) a w (hs.wkS [2, 3, 4, 5, 6, 15, 17, 20, 126, 129, 132] [0, 1, 2, 3, 4] [0, 1, 2, 3, 4] rfl rfl rfl rfl)
            clear hs hL
            refine TA_yes htb (by kernel_rfl) rfl rfl rfl (congrArg (fun b => some (Value.bool b)) hg12) (OpT_bin rfl rfl rfl rfl rfl (bin_neq_s (a := image1) (b := image2))) ?_
            rintro _ rfl
            refine TA_step htb (by kernel_rfl) rfl rfl (OpT_pickF rfl rfl rfl (congrArg (fun b => some (Value.bool b)) hg12) rfl) ?_
            refine TA_step htb (by kernel_rfl) rfl rfl (OpT_move rfl rfl rfl rfl) ?_
            refine TA_wkS (fr' := [(2, some (vcuts1)), (3, some (vl1)), (4, some (vU32 written)), (5, some (vraw1)), (6, some (vI np6)), (15, some (.pointer (some ⟨b2, 0, none⟩))), (17, some (.pointer (some ⟨b3, 0, none⟩))), (20, some (v14)), (135, some (vB (image1 != image2)))]) (own' := [some (cellsR b2 83 [v3, v4]), some (rowsX u8S true v4 vs1 lay1.2.2 none), some (cellsR b3 97 [v7, v8]), some (rowsX u8S false v8 vs2 lay2.2.2 none), some (rowS SegS v14 lay2.1)]) (shr' := [Fact.sl iS vcuts1 cuts, Fact.sl SegS vl1 l, Fact.sl u8S vraw1 raw, Fact.sl RegionS v3 mem1.l, Fact.sl RegionS v7 mem2.L]) [2, 3, 4, 5, 6, 15, 17, 20, 135] [0, 1, 2, 3, 4] [0, 1, 2, 3, 4] rfl rfl rfl rfl ?_
            obtain ⟨hg13, h⟩ := chk_e h
            replace hg13 := not_t hg13
            obtain ⟨segs1, hx17, h⟩ := ob_e h
            obtain ⟨cut1, hx18, h⟩ := ob_e h
            refine TA_seg (lo := 29) (hi := 35) htb rfl rfl (by kernel_rfl) (fun c L a w => ∃ (v17 : Value), ∃ (v18 : Value), Sat c ⟨[(2, some (vcuts1)), (3, some (vl1)), (4, some (vU32 written)), (5, some (vraw1)), (6, some (vI np6)), (15, some (.pointer (some ⟨b2, 0, none⟩))), (17, some (.pointer (some ⟨b3, 0, none⟩))), (20, some (v14)), (135, some (vB (image1 != image2))), (136, bif L 29 then some (vl1) else none), (137, bif L 30 then some (v17) else none), (138, bif L 31 then some (vcuts1) else none), (139, bif L 32 then some (v18) else none), (140, bif L 33 then some (vl1) else none), (141, bif L 34 then some (vcuts1) else none)], [(some (cellsR b2 83 [v3, v4]) : Option Res), (some (rowsX u8S true v4 vs1 lay1.2.2 none) : Option Res), (some (cellsR b3 97 [v7, v8]) : Option Res), (some (rowsX u8S false v8 vs2 lay2.2.2 none) : Option Res), (some (rowS SegS v14 lay2.1) : Option Res)], [Fact.sl iS vcuts1 cuts, Fact.sl SegS vl1 l, Fact.sl u8S vraw1 raw, Fact.sl RegionS v3 mem1.l, Fact.sl RegionS v7 mem2.L, (bif L 30 then Fact.sl SegS v17 segs1 else Fact.tt), (bif L 32 then Fact.sl SegS v18 cut1 else Fact.tt)]⟩ a w) [([], [30, 32]), ([29], [32]), ([], [32]), ([29, 30, 31], []), ([], []), ([], [])] rfl (by kernel_rfl) ?_ (steps_cons ?_ (steps_cons ?_ (steps_cons ?_ (steps_cons ?_ (steps_cons ?_ (steps_cons ?_ (steps_nil))))))) ?_
            ·intro a w hs
             exact ⟨undef, undef, hs.startF [136, 137, 138, 139, 140, 141] [0, 1, 2, 3, 4] [0, 1, 2, 3, 4, 5, 6] rfl rfl rfl rfl⟩
            ·intro L a w hv K Q hK
             obtain ⟨v17, v18, hs⟩ := hv
             refine wpOp_yes rfl rfl rfl hs (congrArg (fun b => some (Value.bool b)) hg13) (OpT_move rfl rfl rfl rfl) ?_
             rintro _ rfl a' w' hs'
             exact hK a' w' ⟨v17, v18, hs'.putF (i := 9) rfl [0, 1, 2, 3, 4] [0, 1, 2, 3, 4, 5, 6] rfl rfl rfl rfl⟩
            ·intro L a w hv K Q hK
             obtain ⟨v17, v18, hs⟩ := hv
             refine wpOp_yes rfl rfl rfl hs (congrArg (fun b => some (Value.bool b)) hg13) (OpT_call (ws_kit_Segs hx17) [] [1] rfl rfl rfl rfl rfl callee10 rfl rfl rfl rfl) ?_
             rintro _ ⟨v17', _, _, ⟨_, rfl, rfl, rfl⟩, rfl⟩ a' w' hs'
             exact hK a' w' ⟨v17', v18, hs'.putF (i := 10) rfl [0, 1, 2, 3, 4] [0, 1, 2, 3, 4, 7, 6] rfl rfl rfl rfl⟩
            ·intro L a w hv K Q hK
             obtain ⟨v17, v18, hs⟩ := hv
             refine wpOp_yes rfl rfl rfl hs (congrArg (fun b => some (Value.bool b)) hg13) (OpT_move rfl rfl rfl rfl) ?_
             rintro _ rfl a' w' hs'
             exact hK a' w' ⟨v17, v18, hs'.putF (i := 11) rfl [0, 1, 2, 3, 4] [0, 1, 2, 3, 4, 5, 6] rfl rfl rfl rfl⟩
            ·intro L a w hv K Q hK
             obtain ⟨v17, v18, hs⟩ := hv
             refine wpOp_yes rfl rfl rfl hs (congrArg (fun b => some (Value.bool b)) hg13) (OpT_call (ws_blkdrv_Cut hx18) [] [5, 0] rfl rfl rfl rfl rfl callee9 rfl rfl rfl rfl) ?_
             rintro _ ⟨v18', _, _, ⟨_, rfl, rfl, rfl⟩, rfl⟩ a' w' hs'
             exact hK a' w' ⟨v17, v18', hs'.putF (i := 12) rfl [0, 1, 2, 3, 4] [0, 1, 2, 3, 4, 5, 7] rfl rfl rfl rfl⟩
            ·intro L a w hv K Q hK
             obtain ⟨v17, v18, hs⟩ := hv
             refine wpOp_yes rfl rfl rfl hs (congrArg (fun b => some (Value.bool b)) hg13) (OpT_move rfl rfl rfl rfl) ?_
             rintro _ rfl a' w' hs'
             exact hK a' w' ⟨v17, v18, hs'.putF (i := 13) rfl [0, 1, 2, 3, 4] [0, 1, 2, 3, 4, 5, 6] rfl rfl rfl rfl⟩
            ·intro L a w hv K Q hK
             obtain ⟨v17, v18, hs⟩ := hv
             refine wpOp_yes rfl rfl rfl hs (congrArg (fun b => some (Value.bool b)) hg13) (OpT_move rfl rfl rfl rfl) ?_
             rintro _ rfl a' w' hs'
             exact hK a' w' ⟨v17, v18, hs'.putF (i := 14) rfl [0, 1, 2, 3, 4] [0, 1, 2, 3, 4, 5, 6] rfl rfl rfl rfl⟩
            ·intro L a w hL hv
             rw [allTrue hL] at hv
             obtain ⟨v17, v18, hs⟩ := hv
             refine (show TA _ _ _ 35 ⟨[(3, some (vl1)), (4, some (vU32 written)), (5, some (vraw1)), (6, some (vI np6)), (15, some (.pointer (some ⟨b2, 0, none⟩))), (17, some (.pointer (some ⟨b3, 0, none⟩))), (20, some (v14)), (135, some (vB (image1 != image2))), (139, some (v18)), (140, some (vl1)), (141, some (vcuts1))], [some (cellsR b2 83 [v3, v4]), some (rowsX u8S true v4 vs1 lay1.2.2 none), some (cellsR b3 97 [v7, v8]), some (rowsX u8S false v8 vs2 lay2.2.2 none), some (rowS SegS v14 lay2.1)], [Fact.sl iS vcuts1 cuts, Fact.sl SegS vl1 l, Fact.sl u8S vraw1 raw, Fact.sl RegionS v3 mem1.l, Fact.sl RegionS v7 mem2.L, Fact.sl SegS v18 cut1]⟩ from ?_) a w (hs.wkS [3, 4, 5, 6, 15, 17, 20, 135, 139, 140, 141] [0, 1, 2, 3, 4] [0, 1, 2, 3, 4, 6] rfl rfl rfl rfl)
             clear hs hL
             obtain ⟨cut2, hx19, h⟩ := ob_e h
             refine TA_yes htb (by kernel_rfl) rfl rfl rfl (congrArg (fun b => some (Value.bool b)) hg13) (OpT_call (w_ref_Cut22 hx19) [] [1, 0] rfl rfl rfl rfl rfl callee31 rfl rfl rfl rfl) ?_
             rintro _ ⟨v19, _, _, ⟨_, rfl, rfl, rfl⟩, rfl⟩
             obtain ⟨samese2, hx20, h⟩ := ob_e h
             refine TA_yes htb (by kernel_rfl) rfl rfl rfl (congrArg (fun b => some (Value.bool b)) hg13) (OpT_callB [5] [0, 1, 2, 3, 4, 5] (w_kit_SameSegs hx20) [] rfl rfl rfl rfl rfl callee12 rfl rfl rfl rfl rfl rfl (bor_cons (bor_shr 5 rfl) (bor_cons (bor_row 5 rfl rfl) bor_nil)) (by rintro _ _ _ ⟨rfl, rfl, rfl⟩; exact ⟨rfl, ri_nil⟩)) ?_
             rintro _ ⟨_, _, _, ⟨rfl, rfl, rfl⟩, rfl⟩
             refine TA_yes htb (by kernel_rfl) rfl rfl rfl (congrArg (fun b => some (Value.bool b)) hg13) (OpT_not rfl rfl rfl rfl) ?_
             rintro _ rfl
             refine TA_step htb (by kernel_rfl) rfl rfl (OpT_pickF rfl rfl rfl (congrArg (fun b => some (Value.bool b)) hg13) rfl) ?_
             refine TA_end rfl ?_
             refine Tk_wkS (fr' := [(3, some (vl1)), (4, some (vU32 written)), (5, some (vraw1)), (6, some (vI np6)), (15, some (.pointer (some ⟨b2, 0, none⟩))), (17, some (.pointer (some ⟨b3, 0, none⟩))), (20, some (v14)), (145, some (vB (!samese2)))]) (own' := [some (cellsR b2 83 [v3, v4]), some (rowsX u8S true v4 vs1 lay1.2.2 none), some (cellsR b3 97 [v7, v8]), some (rowsX u8S false v8 vs2 lay2.2.2 none), some (rowS SegS v14 lay2.1)]) (shr' := [Fact.sl SegS vl1 l, Fact.sl u8S vraw1 raw, Fact.sl RegionS v3 mem1.l, Fact.sl RegionS v7 mem2.L]) [3, 4, 5, 6, 15, 17, 20, 145] [0, 1, 2, 3, 4] [1, 2, 3, 4] rfl rfl rfl rfl ?_
             obtain ⟨hg14, h⟩ := chk_e h
             replace hg14 := not_t hg14
             refine Tk_condF (congrArg (fun b => some (Value.bool b)) hg14) ?_
             refine Tk_skip (Tk_seq (Tk_seq (Tk_region (Tops_step rfl (OpT_move rfl rfl rfl rfl) ?_))))
             refine Tops_step rfl (OpT_move rfl rfl rfl rfl) ?_
             refine Tops_retire (i := 4) rfl ?_
             refine Tops_ex rfl (OpT_buildSl (Shape.slice SegS) (vs := [vl1, v14]) (xs := [l, lay2.1]) rfl rfl rfl rfl rfl slF66 (isl_cons (is_sl (i := 0) rfl) (isl_cons (is_sl (i := 4) rfl) isl_nil)) rfl rfl rfl (rel_cons (rel_sl (i := 0) rfl) (rel_cons (rel_sl (i := 4) rfl) (rel_nil rfl)))) fun v20 => ?_
             refine Tops_step rfl (OpT_lenO rfl rfl rfl rfl Try.underlying66 (i := 5) rfl) ?_
             refine Tops_step rfl (OpT_move rfl rfl rfl rfl) ?_
             refine Tops_nil (Tk_wkS (fr' := [(4, some (vU32 written)), (5, some (vraw1)), (6, some (vI np6)), (15, some (.pointer (some ⟨b2, 0, none⟩))), (17, some (.pointer (some ⟨b3, 0, none⟩))), (148, some (v20)), (149, some (vI (len [l, lay2.1]))), (150, some (vI (0 : Int)))]) (own' := [some (cellsR b2 83 [v3, v4]), some (rowsX u8S true v4 vs1 lay1.2.2 none), some (cellsR b3 97 [v7, v8]), some (rowsX u8S false v8 vs2 lay2.2.2 none), some (rowS (Shape.slice SegS) v20 [l, lay2.1])]) (shr' := [Fact.sl u8S vraw1 raw, Fact.sl RegionS v3 mem1.l, Fact.sl RegionS v7 mem2.L]) [4, 5, 6, 15, 17, 148, 149, 150] [0, 1, 2, 3, 5] [1, 2, 3] rfl rfl rfl rfl ?_)
             refine Tk_block (Tk_retire (i := 4) rfl ?_)
             refine Tk_loopS (σ := Int) [4, 5, 6, 15, 17, 148, 149, 150] [0, 1, 2, 3] [0, 1, 2, 3] (fun s => ⟨[(4, some (vU32 written)), (5, some (vraw1)), (6, some (vI np6)), (15, some (.pointer (some ⟨b2, 0, none⟩))), (17, some (.pointer (some ⟨b3, 0, none⟩))), (148, some (v20)), (149, some (vI (len [l, lay2.1]))), (150, some (vI s))], [some (cellsR b2 83 [v3, v4]), some (rowsX u8S true v4 vs1 lay1.2.2 none), some (cellsR b3 97 [v7, v8]), some (rowsX u8S false v8 vs2 lay2.2.2 none)], [Fact.sl u8S vraw1 raw, Fact.sl RegionS v3 mem1.l, Fact.sl RegionS v7 mem2.L, Fact.sl (Shape.slice SegS) v20 [l, lay2.1]]⟩) (fun nf1 s => law22zBlkdrvCallsL1 l written raw np6 mem1 mem2 lay1 lay2 nf1 s = some true) fuel (0 : Int) h rfl rfl rfl rfl rfl (fun s h => by cases h) ?_
             rintro nf1 x1 h
             replace h : law22zBlkdrvCallsL1B l written raw np6 mem1 mem2 lay1 lay2 (law22zBlkdrvCallsL1 l written raw np6 mem1 mem2 lay1 lay2 nf1) x1 = some true := h
             unfold law22zBlkdrvCallsL1B at h
             refine Tk_seq (Tk_region (Tops_step rfl (OpT_bin rfl rfl rfl rfl rfl (bin_lss_i (a := x1) (b := len [l, lay2.1]))) ?_))
             refine Tops_nil (Tk_seq ?_)
             rcases Bool.eq_false_or_eq_true (decide (x1 < (len [l, lay2.1]))) with hg15 | hg15
             ·replace h := br_t hg15 h
              refine Tk_condT (congrArg (fun b => some (Value.bool b)) hg15) ?_
              refine Tk_skip (Tk_seq (Tk_block (Tk_seq (Tk_region ?_))))
              obtain ⟨y1, hx21, h⟩ := ob_e h
              refine Tops_ex rfl (OpT_idxS rfl rfl rfl rfl rfl slF66 (i := 3) rfl hx21) fun p1 => ?_
              refine Tops_ex rfl (OpT_loadPS rfl rfl rfl rfl tyF22 (i := 4) rfl) fun v21 => ?_
              refine Tops_step rfl (OpT_assign rfl rfl rfl rfl) ?_
              refine Tops_nil (Tk_wkS (fr' := [(4, some (vU32 written)), (5, some (vraw1)), (6, some (vI np6)), (15, some (.pointer (some ⟨b2, 0, none⟩))), (17, some (.pointer (some ⟨b3, 0, none⟩))), (148, some (v20)), (149, some (vI (len [l, lay2.1]))), (150, some (vI x1)), (26, some (v21))]) (own' := [some (cellsR b2 83 [v3, v4]), some (rowsX u8S true v4 vs1 lay1.2.2 none), some (cellsR b3 97 [v7, v8]), some (rowsX u8S false v8 vs2 lay2.2.2 none)]) (shr' := [Fact.sl u8S vraw1 raw, Fact.sl RegionS v3 mem1.l, Fact.sl RegionS v7 mem2.L, Fact.sl (Shape.slice SegS) v20 [l, lay2.1], Fact.sl SegS v21 y1]) [4, 5, 6, 15, 17, 148, 149, 150, 26] [0, 1, 2, 3] [0, 1, 2, 3, 5] rfl rfl rfl rfl ?_)
              refine Tk_seq (Tk_region (Tops_step rfl (OpT_move rfl rfl rfl rfl) ?_))
              refine Tops_step rfl (OpT_move rfl rfl rfl rfl) ?_
              obtain ⟨segs2, hx22, h⟩ := ob_e h
              refine Tops_exP rfl (OpT_call (w_kit_Segs hx22) [] [4] rfl rfl rfl rfl rfl callee10 rfl rfl rfl rfl) ?_
              rintro _ ⟨v22, _, _, ⟨_, rfl, rfl, rfl⟩, rfl⟩
              refine Tops_step rfl (OpT_move rfl rfl rfl rfl) ?_
              refine Tops_retire (i := 4) rfl ?_
              obtain ⟨result1, hx23, h⟩ := ob_e h
              refine Tops_exP rfl (OpT_callP [5, 6, 2, 3, 4] (w_blkdrv_Result hx23) [0, 1] [1, 5] rfl rfl rfl rfl rfl callee23 rfl rfl rfl rfl rfl) ?_
              rintro _ ⟨_, _, _, ⟨v23, rfl, rfl, rfl⟩, rfl⟩
              refine Tops_step rfl (OpT_move rfl rfl rfl rfl) ?_
              refine Tops_step rfl (OpT_extract rfl rfl rfl rfl rfl) ?_
              refine Tops_step rfl (OpT_extract rfl rfl rfl rfl rfl) ?_
              refine Tops_step rfl (OpT_extract rfl rfl rfl rfl rfl) ?_
              refine Tops_step rfl (OpT_assign rfl rfl rfl rfl) ?_
              refine Tops_step rfl (OpT_assign rfl rfl rfl rfl) ?_
              refine Tops_step rfl (OpT_assign rfl rfl rfl rfl) ?_
              refine Tops_nil (Tk_wkS (fr' := [(4, some (vU32 written)), (5, some (vraw1)), (6, some (vI np6)), (15, some (.pointer (some ⟨b2, 0, none⟩))), (17, some (.pointer (some ⟨b3, 0, none⟩))), (148, some (v20)), (149, some (vI (len [l, lay2.1]))), (150, some (vI x1)), (26, some (v21)), (27, some (v23)), (28, some (vU8 result1.2.1)), (29, some (vI result1.2.2))]) (own' := [some (cellsR b2 83 [v3, v4]), some (rowsX u8S true v4 vs1 lay1.2.2 none), some (cellsR b3 97 [v7, v8]), some (rowsX u8S false v8 vs2 lay2.2.2 none)]) (shr' := [Fact.sl u8S vraw1 raw, Fact.sl RegionS v3 mem1.l, Fact.sl RegionS v7 mem2.L, Fact.sl (Shape.slice SegS) v20 [l, lay2.1], Fact.sl SegS v21 y1, Fact.sl u8S v23 result1.1]) [4, 5, 6, 15, 17, 148, 149, 150, 26, 27, 28, 29] [0, 1, 2, 3] [0, 1, 2, 3, 4, 6] rfl rfl rfl rfl ?_)
              refine Tk_seq (Tk_region (Tops_step rfl (OpT_move rfl rfl rfl rfl) ?_))
              refine Tops_step rfl (OpT_move rfl rfl rfl rfl) ?_
              refine Tops_step rfl (OpT_move rfl rfl rfl rfl) ?_
              obtain ⟨result2, hx24, h⟩ := ob_e h
              refine Tops_exP rfl (OpT_callP [0, 1, 4, 5] (w_ref_Result22 hx24) [2, 3] [2, 4] rfl rfl rfl rfl rfl callee32 rfl rfl rfl rfl rfl) ?_
              rintro _ ⟨_, _, _, ⟨v24, rfl, rfl, rfl⟩, rfl⟩
              refine Tops_step rfl (OpT_move rfl rfl rfl rfl) ?_
              refine Tops_step rfl (OpT_extract rfl rfl rfl rfl rfl) ?_
              refine Tops_step rfl (OpT_extract rfl rfl rfl rfl rfl) ?_
              refine Tops_step rfl (OpT_extract rfl rfl rfl rfl rfl) ?_
              refine Tops_step rfl (OpT_assign rfl rfl rfl rfl) ?_
              refine Tops_step rfl (OpT_assign rfl rfl rfl rfl) ?_
              refine Tops_step rfl (OpT_assign rfl rfl rfl rfl) ?_
              refine Tops_nil (Tk_wkS (fr' := [(4, some (vU32 written)), (5, some (vraw1)), (6, some (vI np6)), (15, some (.pointer (some ⟨b2, 0, none⟩))), (17, some (.pointer (some ⟨b3, 0, none⟩))), (148, some (v20)), (149, some (vI (len [l, lay2.1]))), (150, some (vI x1)), (27, some (v23)), (28, some (vU8 result1.2.1)), (29, some (vI result1.2.2)), (30, some (v24)), (31, some (vU8 result2.2.1)), (32, some (vI result2.2.2))]) (own' := [some (cellsR b2 83 [v3, v4]), some (rowsX u8S true v4 vs1 lay1.2.2 none), some (cellsR b3 97 [v7, v8]), some (rowsX u8S false v8 vs2 lay2.2.2 none)]) (shr' := [Fact.sl u8S vraw1 raw, Fact.sl RegionS v3 mem1.l, Fact.sl RegionS v7 mem2.L, Fact.sl (Shape.slice SegS) v20 [l, lay2.1], Fact.sl u8S v23 result1.1, Fact.sl u8S v24 result2.1]) [4, 5, 6, 15, 17, 148, 149, 150, 27, 28, 29, 30, 31, 32] [0, 1, 2, 3] [0, 1, 2, 3, 5, 6] rfl rfl rfl rfl ?_)
              refine Tk_seq (Tk_region (Tops_step rfl (OpT_move rfl rfl rfl rfl) ?_))
              refine Tops_step rfl (OpT_strS rfl rfl rfl rfl Try.underlying35 Try.underlying5 Try.underlying9 (i := 4) rfl) ?_
              refine Tops_step rfl (OpT_move rfl rfl rfl rfl) ?_
              refine Tops_step rfl (OpT_strS rfl rfl rfl rfl Try.underlying35 Try.underlying5 Try.underlying9 (i := 5) rfl) ?_
              refine Tops_step rfl (OpT_bin rfl rfl rfl rfl rfl (bin_neq_s (a := result1.1) (b := result2.1))) ?_
              refine Tops_step rfl (OpT_move rfl rfl rfl rfl) ?_
              obtain ⟨hg16, h⟩ := chk_e h
              replace hg16 := not_t hg16
              refine Tops_yes rfl rfl (congrArg (fun b => some (Value.bool b)) hg16) (OpT_move rfl rfl rfl rfl) ?_
              rintro _ rfl
              refine Tops_yes rfl rfl (congrArg (fun b => some (Value.bool b)) hg16) (OpT_move rfl rfl rfl rfl) ?_
              rintro _ rfl
              refine Tops_yes rfl rfl (congrArg (fun b => some (Value.bool b)) hg16) (OpT_bin rfl rfl rfl rfl rfl (bin_neq_u8 (a := result1.2.1) (b := result2.2.1))) ?_
              rintro _ rfl
              refine Tops_step rfl (OpT_pickF rfl rfl rfl (congrArg (fun b => some (Value.bool b)) hg16) rfl) ?_
              refine Tops_step rfl (OpT_move rfl rfl rfl rfl) ?_
              obtain ⟨hg17, h⟩ := chk_e h
              replace hg17 := not_t hg17
              refine Tops_yes rfl rfl (congrArg (fun b => some (Value.bool b)) hg17) (OpT_move rfl rfl rfl rfl) ?_
              rintro _ rfl
              refine Tops_yes rfl rfl (congrArg (fun b => some (Value.bool b)) hg17) (OpT_move rfl rfl rfl rfl) ?_
              rintro _ rfl
              refine Tops_yes rfl rfl (congrArg (fun b => some (Value.bool b)) hg17) (OpT_bin rfl rfl rfl rfl rfl (bin_neq_i (a := result1.2.2) (b := result2.2.2))) ?_
              rintro _ rfl
              refine Tops_step rfl (OpT_pickF rfl rfl rfl (congrArg (fun b => some (Value.bool b)) hg17) rfl) ?_
              refine Tops_nil (Tk_wkS (fr' := [(4, some (vU32 written)), (5, some (vraw1)), (6, some (vI np6)), (15, some (.pointer (some ⟨b2, 0, none⟩))), (17, some (.pointer (some ⟨b3, 0, none⟩))), (148, some (v20)), (149, some (vI (len [l, lay2.1]))), (150, some (vI x1)), (185, some (vB (result1.2.2 != result2.2.2)))]) (own' := [some (cellsR b2 83 [v3, v4]), some (rowsX u8S true v4 vs1 lay1.2.2 none), some (cellsR b3 97 [v7, v8]), some (rowsX u8S false v8 vs2 lay2.2.2 none)]) (shr' := [Fact.sl u8S vraw1 raw, Fact.sl RegionS v3 mem1.l, Fact.sl RegionS v7 mem2.L, Fact.sl (Shape.slice SegS) v20 [l, lay2.1]]) [4, 5, 6, 15, 17, 148, 149, 150, 185] [0, 1, 2, 3] [0, 1, 2, 3] rfl rfl rfl rfl ?_)
              obtain ⟨hg18, h⟩ := chk_e h
              replace hg18 := not_t hg18
              refine Tk_condF (congrArg (fun b => some (Value.bool b)) hg18) ?_
              refine Tk_skip (Tk_blk (Tk_region (Tops_step rfl (OpT_bin rfl rfl rfl rfl rfl (bin_add_i (a := x1) (b := (1 : Int)))) ?_)))
              refine Tops_step rfl (OpT_move rfl rfl rfl rfl) ?_
              refine Tops_nil (Tk_wkS (fr' := [(4, some (vU32 written)), (5, some (vraw1)), (6, some (vI np6)), (15, some (.pointer (some ⟨b2, 0, none⟩))), (17, some (.pointer (some ⟨b3, 0, none⟩))), (148, some (v20)), (149, some (vI (len [l, lay2.1]))), (150, some (vI (wi (x1 + (1 : Int)))))]) (own' := [some (cellsR b2 83 [v3, v4]), some (rowsX u8S true v4 vs1 lay1.2.2 none), some (cellsR b3 97 [v7, v8]), some (rowsX u8S false v8 vs2 lay2.2.2 none)]) (shr' := [Fact.sl u8S vraw1 raw, Fact.sl RegionS v3 mem1.l, Fact.sl RegionS v7 mem2.L, Fact.sl (Shape.slice SegS) v20 [l, lay2.1]]) [4, 5, 6, 15, 17, 148, 149, 150] [0, 1, 2, 3] [0, 1, 2, 3] rfl rfl rfl rfl ?_)
              exact Tk_backS (wi (x1 + (1 : Int))) h [4, 5, 6, 15, 17, 148, 149, 150] [0, 1, 2, 3] [0, 1, 2, 3] rfl rfl rfl rfl rfl
             ·replace h := br_f hg15 h
              refine Tk_condF (congrArg (fun b => some (Value.bool b)) hg15) ?_
              refine Tk_exit _ rfl ?_
              refine Tk_seq (Tk_drawT (by kernel_rfl) ?_)
              refine TA_tb [0, 1, 3, 0, 11, 27, 63, 127, 255, 511, 255, 2047, 4095, 8191, 16383] (by kernel_rfl) fun htb => ?_
              refine TA_wkS (fr' := [(5, some (vraw1)), (6, some (vI np6))]) (own' := []) (shr' := [Fact.sl u8S vraw1 raw]) [5, 6] [] [0] rfl rfl rfl rfl ?_
              obtain ⟨config1, hx25, h⟩ := ob_e h
              obtain ⟨config2, hx26, h⟩ := ob_e h
              refine TA_seg (lo := 0) (hi := 6) htb rfl rfl (by kernel_rfl) (fun c L a w => ∃ (v25 : Value), ∃ (v26 : Value), Sat c ⟨[(5, some (vraw1)), (6, some (vI np6)), (187, bif L 0 then some (vI np6) else none), (188, bif L 1 then some (v25) else none), (189, bif L 2 then some (vS config1) else none), (190, bif L 3 then some (vI np6) else none), (191, bif L 4 then some (v26) else none), (192, bif L 5 then some (vS config2) else none)], [], [Fact.sl u8S vraw1 raw, (bif L 1 then Fact.sl u8S v25 config1 else Fact.tt), (bif L 4 then Fact.sl u8S v26 config2 else Fact.tt)]⟩ a w) [([], [1, 2, 4, 5]), ([0], [2, 4, 5]), ([0, 1], []), ([], [4, 5]), ([0, 1, 3], [5]), ([0, 1, 3, 4], [])] rfl (by kernel_rfl) ?_ (steps_cons ?_ (steps_cons ?_ (steps_cons ?_ (steps_cons ?_ (steps_cons ?_ (steps_cons ?_ (steps_nil))))))) ?_
              ·intro a w hs
               exact ⟨undef, undef, hs.startF [187, 188, 189, 190, 191, 192] [] [0, 1, 2] rfl rfl rfl rfl⟩
              ·intro L a w hv K Q hK
               obtain ⟨v25, v26, hs⟩ := hv
               refine wpOp_go rfl rfl hs (OpT_move rfl rfl rfl rfl) ?_
               rintro _ rfl a' w' hs'
               exact hK a' w' ⟨v25, v26, hs'.putF (i := 2) rfl [] [0, 1, 2] rfl rfl rfl rfl⟩
              ·intro L a w hv K Q hK
               obtain ⟨v25, v26, hs⟩ := hv
               refine wpOp_go rfl rfl hs (OpT_call (ws_blkdrv_Config hx25) [] [] rfl rfl rfl rfl rfl callee25 rfl rfl rfl rfl) ?_
               rintro _ ⟨v25', _, _, ⟨_, rfl, rfl, rfl⟩, rfl⟩ a' w' hs'
               exact hK a' w' ⟨v25', v26, hs'.putF (i := 3) rfl [] [0, 3, 2] rfl rfl rfl rfl⟩
              ·intro L a w hv K Q hK
               obtain ⟨v25, v26, hs⟩ := hv
               refine wpOp_go rfl rfl hs (OpT_strS rfl rfl rfl rfl Try.underlying35 Try.underlying5 Try.underlying9 (i := 1) rfl) ?_
               rintro _ rfl a' w' hs'
               exact hK a' w' ⟨v25, v26, hs'.putF (i := 4) rfl [] [0, 1, 2] rfl rfl rfl rfl⟩
              ·intro L a w hv K Q hK
               obtain ⟨v25, v26, hs⟩ := hv
               refine wpOp_go rfl rfl hs (OpT_move rfl rfl rfl rfl) ?_
               rintro _ rfl a' w' hs'
               exact hK a' w' ⟨v25, v26, hs'.putF (i := 5) rfl [] [0, 1, 2] rfl rfl rfl rfl⟩
              ·intro L a w hv K Q hK
               obtain ⟨v25, v26, hs⟩ := hv
               refine wpOp_go rfl rfl hs (OpT_call (ws_ref_Config22 hx26) [] [] rfl rfl rfl rfl rfl callee33 rfl rfl rfl rfl) ?_
               rintro _ ⟨v26', _, _, ⟨_, rfl, rfl, rfl⟩, rfl⟩ a' w' hs'
               exact hK a' w' ⟨v25, v26', hs'.putF (i := 6) rfl [] [0, 1, 3] rfl rfl rfl rfl⟩
              ·intro L a w hv K Q hK
               obtain ⟨v25, v26, hs⟩ := hv
               refine wpOp_go rfl rfl hs (OpT_strS rfl rfl rfl rfl Try.underlying35 Try.underlying5 Try.underlying9 (i := 2) rfl) ?_
               rintro _ rfl a' w' hs'
               exact hK a' w' ⟨v25, v26, hs'.putF (i := 7) rfl [] [0, 1, 2] rfl rfl rfl rfl⟩
              ·intro L a w hL hv
               rw [allTrue hL] at hv
               obtain ⟨v25, v26, hs⟩ := hv
               refine (show TA _ _ _ 6 ⟨[(5, some (vraw1)), (189, some (vS config1)), (192, some (vS config2))], [], [Fact.sl u8S vraw1 raw]⟩ from ?_) a w (hs.wkS [5, 189, 192] [] [0] rfl rfl rfl rfl)
               clear hs hL
               refine TA_step htb (by kernel_rfl) rfl rfl (OpT_bin rfl rfl rfl rfl rfl (bin_eql_s (a := config1) (b := config2))) ?_
               refine TA_step htb (by kernel_rfl) rfl rfl (OpT_move rfl rfl rfl rfl) ?_
               refine TA_wkS (fr' := [(5, some (vraw1)), (194, some (vB (config1 == config2)))]) (own' := []) (shr' := [Fact.sl u8S vraw1 raw]) [5, 194] [] [0] rfl rfl rfl rfl ?_
               obtain ⟨hg19, h⟩ := chk_e h
               obtain ⟨capaci1, hx27, h⟩ := ob_e h
               refine TA_seg (lo := 8) (hi := 11) htb rfl rfl (by kernel_rfl) (fun c L a w => Sat c ⟨[(5, some (vraw1)), (194, some (vB (config1 == config2))), (195, bif L 8 then some (vraw1) else none), (196, bif L 9 then some (vU64 capaci1) else none), (197, bif L 10 then some (vraw1) else none)], [], [Fact.sl u8S vraw1 raw]⟩ a w) [([], [9]), ([8], []), ([], [])] rfl (by kernel_rfl) ?_ (steps_cons ?_ (steps_cons ?_ (steps_cons ?_ (steps_nil)))) ?_
               ·intro a w hs
                exact hs.startF [195, 196, 197] [] [0] rfl rfl rfl rfl
               ·intro L a w hv K Q hK
                have hs := hv
                refine wpOp_yes rfl rfl rfl hs (congrArg (fun b => some (Value.bool b)) hg19) (OpT_move rfl rfl rfl rfl) ?_
                rintro _ rfl a' w' hs'
                exact hK a' w' (hs'.putF (i := 2) rfl [] [0] rfl rfl rfl rfl)
               ·intro L a w hv K Q hK
                have hs := hv
                refine wpOp_yes rfl rfl rfl hs (congrArg (fun b => some (Value.bool b)) hg19) (OpT_call (w_blkdrv_Capacity hx27) [] [0] rfl rfl rfl rfl rfl callee24 rfl rfl rfl rfl) ?_
                rintro _ ⟨_, _, _, ⟨rfl, rfl, rfl⟩, rfl⟩ a' w' hs'
                exact hK a' w' (hs'.putF (i := 3) rfl [] [0] rfl rfl rfl rfl)
               ·intro L a w hv K Q hK
                have hs := hv
                refine wpOp_yes rfl rfl rfl hs (congrArg (fun b => some (Value.bool b)) hg19) (OpT_move rfl rfl rfl rfl) ?_
                rintro _ rfl a' w' hs'
                exact hK a' w' (hs'.putF (i := 4) rfl [] [0] rfl rfl rfl rfl)
               ·intro L a w hL hv
                rw [allTrue hL] at hv
                have hs := hv
                refine (show TA _ _ _ 11 ⟨[(194, some (vB (config1 == config2))), (196, some (vU64 capaci1)), (197, some (vraw1))], [], [Fact.sl u8S vraw1 raw]⟩ from ?_) a w (hs.wkS [194, 196, 197] [] [0] rfl rfl rfl rfl)
                clear hs hL
                obtain ⟨capaci2, hx28, h⟩ := ob_e h
                refine TA_yes htb (by kernel_rfl) rfl rfl rfl (congrArg (fun b => some (Value.bool b)) hg19) (OpT_call (w_ref_Capacity22 hx28) [] [0] rfl rfl rfl rfl rfl callee34 rfl rfl rfl rfl) ?_
                rintro _ ⟨_, _, _, ⟨rfl, rfl, rfl⟩, rfl⟩
                refine TA_yes htb (by kernel_rfl) rfl rfl rfl (congrArg (fun b => some (Value.bool b)) hg19) (OpT_bin rfl rfl rfl rfl rfl (bin_eql_u64 (a := capaci1) (b := capaci2))) ?_
                rintro _ rfl
                refine TA_step htb (by kernel_rfl) rfl rfl (OpT_pickT rfl rfl rfl (congrArg (fun b => some (Value.bool b)) hg19) rfl) ?_
                refine TA_step htb (by kernel_rfl) rfl rfl (OpT_assign rfl rfl rfl rfl) ?_
                refine TA_end rfl ?_
                refine Tk_wkS (fr' := [(14, some (vB (capaci1 == capaci2)))]) (own' := []) (shr' := []) [14] [] [] rfl rfl rfl rfl ?_
                obtain ⟨hg20, h⟩ := chk_e h
                exact Tk_retV rfl rfl (resA (vs := [.bool true]) rfl ⟨(congrArg (fun b => some (Value.bool b)) hg20), trivial⟩) [] [] rfl rfl rfl ⟨rfl, rfl, rfl⟩
end Go.Proofs.Ytkmjpgfbcklopaa
