/- The law BlkdrvBack is walked: it returns what its plain words say. No condition. -/
import Derived.Test.YtkmjpgfbcklopaaWa4
namespace Go.Proofs.Ytkmjpgfbcklopaa
attribute [local irreducible] sub

set_option maxRecDepth 100000 in
set_option maxHeartbeats 4000000 in
theorem w_law22zBlkdrvBack {rp0 : Req} {atp1 : Int} {cuts : List Int} {image : List UInt8} {feats : UInt64} {vrp01 : Value} {vrp02 : Value} {vcuts1 : Value} {vimage1 : Value}  (h : law22zBlkdrvBack rp0 atp1 cuts image feats = some true) :
  Ctr Try.prog 7 #[.agg #[vU32 rp0.Type_, vU64 rp0.Sector, vrp01, vI rp0.Room, vrp02], vI atp1, vcuts1, vimage1, vU64 feats] [] [Fact.sl u8S vrp01 rp0.Data, Fact.sl RangeS vrp02 rp0.Ranges, Fact.sl iS vcuts1 cuts, Fact.sl u8S vimage1 image]
   (fun rv own shr => rv = .bool true ∧ own = [] ∧ shr = []) := by
 unfold law22zBlkdrvBack at h
 refine Ctr.mk (args := [.agg #[vU32 rp0.Type_, vU64 rp0.Sector, vrp01, vI rp0.Room, vrp02], vI atp1, vcuts1, vimage1, vU64 feats]) Try.func7 rfl rfl (fun R0 w0 B => ?_)
 refine Tk_seq (Tk_region (Tops_ex rfl (OpT_box rfl rfl rfl rfl) fun b1 => ?_))
 refine Tops_step rfl (OpT_assign rfl rfl rfl rfl) ?_
 refine Tops_nil (tZ [1, 2, 3, 4, 5] [0] [0, 1, 2, 3] rfl rfl rfl rfl ?_)
 refine Tk_seq (Tk_seq (Tk_region ?_))
 obtain ⟨lives1, hx1, h⟩ := ob_e h
 refine Tops_exP rfl (OpT_call (w_law22zlives hx1) [] [] rfl rfl rfl rfl rfl callee8 rfl rfl rfl rfl) ?_
 rintro _ ⟨_, _, _, ⟨rfl, rfl, rfl⟩, rfl⟩
 refine Tops_step rfl (OpT_not rfl rfl rfl rfl) ?_
 refine Tops_nil (tZ [1, 2, 3, 4, 5, 30] [0] [0, 1, 2, 3] rfl rfl rfl rfl ?_)
 obtain ⟨hg1, h⟩ := chk_e h
 replace hg1 := not_t hg1
 refine Tk_condF (congrArg (fun b => some (Value.bool b)) hg1) ?_
 refine Tk_skip (Tk_seq (Tk_seq (Tk_region (Tops_step rfl (OpT_loadCA (vs := [vU32 rp0.Type_, vU64 rp0.Sector, vrp01, vI rp0.Room, vrp02]) rfl rfl rfl rfl tyF38 (i := 0) rfl rfl rfl) ?_))))
 obtain ⟨lightr1, hx2, h⟩ := ob_e h
 refine Tops_exP rfl (OpT_call (w_kit_LightReq hx2) [] [0, 1] rfl rfl rfl rfl rfl callee13 rfl rfl rfl rfl) ?_
 rintro _ ⟨_, _, _, ⟨rfl, rfl, rfl⟩, rfl⟩
 refine Tops_step rfl (OpT_not rfl rfl rfl rfl) ?_
 refine Tops_step rfl (OpT_move rfl rfl rfl rfl) ?_
 rcases Bool.eq_false_or_eq_true ((!lightr1)) with hg2 | hg2
 ·replace h := br_t hg2 h
  refine Tops_no rfl rfl (congrArg (fun b => some (Value.bool b)) hg2) rfl rfl ?_
  refine Tops_no rfl rfl (congrArg (fun b => some (Value.bool b)) hg2) rfl rfl ?_
  refine Tops_no rfl rfl (congrArg (fun b => some (Value.bool b)) hg2) rfl rfl ?_
  refine Tops_step rfl (OpT_pickT rfl rfl rfl (congrArg (fun b => some (Value.bool b)) hg2) rfl) ?_
  refine Tops_step rfl (OpT_move rfl rfl rfl rfl) ?_
  refine Tops_no rfl rfl rfl rfl rfl ?_
  refine Tops_no rfl rfl rfl rfl rfl ?_
  refine Tops_no rfl rfl rfl rfl rfl ?_
  refine Tops_step rfl (OpT_pickT rfl rfl rfl rfl rfl) ?_
  refine Tops_nil (tZ [1, 2, 3, 4, 5, 43] [0] [0, 1, 2, 3] rfl rfl rfl rfl ?_)
  refine Tk_condT rfl ?_
  refine Tk_seq (Tk_region (Tops_step rfl (OpT_assign rfl rfl rfl rfl) ?_))
  refine Tops_nil (tZ [10] [] [] rfl rfl rfl rfl ?_)
  exact Tk_retV rfl rfl (resA (vs := [.bool true]) rfl ⟨rfl, trivial⟩) [] [] rfl rfl rfl ⟨rfl, rfl, rfl⟩
 ·replace h := br_f hg2 h
  refine Tops_yes rfl rfl (congrArg (fun b => some (Value.bool b)) hg2) (OpT_move rfl rfl rfl rfl) ?_
  rintro _ rfl
  refine Tops_yes rfl rfl (congrArg (fun b => some (Value.bool b)) hg2) (OpT_lenS rfl rfl rfl rfl Try.underlying23 (i := 2) rfl) ?_
  rintro _ rfl
  refine Tops_yes rfl rfl (congrArg (fun b => some (Value.bool b)) hg2) (OpT_bin rfl rfl rfl rfl rfl (bin_gtr_i (a := len cuts) (b := (70 : Int)))) ?_
  rintro _ rfl
  refine Tops_step rfl (OpT_pickF rfl rfl rfl (congrArg (fun b => some (Value.bool b)) hg2) rfl) ?_
  refine Tops_step rfl (OpT_move rfl rfl rfl rfl) ?_
  rcases Bool.eq_false_or_eq_true (decide ((len cuts) > (70 : Int))) with hg3 | hg3
  ·replace h := br_t hg3 h
   refine Tops_no rfl rfl (congrArg (fun b => some (Value.bool b)) hg3) rfl rfl ?_
   refine Tops_no rfl rfl (congrArg (fun b => some (Value.bool b)) hg3) rfl rfl ?_
   refine Tops_no rfl rfl (congrArg (fun b => some (Value.bool b)) hg3) rfl rfl ?_
   refine Tops_step rfl (OpT_pickT rfl rfl rfl (congrArg (fun b => some (Value.bool b)) hg3) rfl) ?_
   refine Tops_nil (tZ [1, 2, 3, 4, 5, 43] [0] [0, 1, 2, 3] rfl rfl rfl rfl ?_)
   refine Tk_condT rfl ?_
   refine Tk_seq (Tk_region (Tops_step rfl (OpT_assign rfl rfl rfl rfl) ?_))
   refine Tops_nil (tZ [10] [] [] rfl rfl rfl rfl ?_)
   exact Tk_retV rfl rfl (resA (vs := [.bool true]) rfl ⟨rfl, trivial⟩) [] [] rfl rfl rfl ⟨rfl, rfl, rfl⟩
  ·replace h := br_f hg3 h
   refine Tops_yes rfl rfl (congrArg (fun b => some (Value.bool b)) hg3) (OpT_move rfl rfl rfl rfl) ?_
   rintro _ rfl
   refine Tops_yes rfl rfl (congrArg (fun b => some (Value.bool b)) hg3) (OpT_lenS rfl rfl rfl rfl Try.underlying35 (i := 3) rfl) ?_
   rintro _ rfl
   refine Tops_yes rfl rfl (congrArg (fun b => some (Value.bool b)) hg3) (OpT_bin rfl rfl rfl rfl rfl (bin_gtr_i (a := len image) (b := (6000 : Int)))) ?_
   rintro _ rfl
   refine Tops_step rfl (OpT_pickF rfl rfl rfl (congrArg (fun b => some (Value.bool b)) hg3) rfl) ?_
   refine Tops_nil (tZ [1, 2, 3, 4, 5, 43] [0] [0, 1, 2, 3] rfl rfl rfl rfl ?_)
   rcases Bool.eq_false_or_eq_true (decide ((len image) > (6000 : Int))) with hg4 | hg4
   ·replace h := br_t hg4 h
    refine Tk_condT (congrArg (fun b => some (Value.bool b)) hg4) ?_
    refine Tk_seq (Tk_region (Tops_step rfl (OpT_assign rfl rfl rfl rfl) ?_))
    refine Tops_nil (tZ [10] [] [] rfl rfl rfl rfl ?_)
    exact Tk_retV rfl rfl (resA (vs := [.bool true]) rfl ⟨rfl, trivial⟩) [] [] rfl rfl rfl ⟨rfl, rfl, rfl⟩
   ·replace h := br_f hg4 h
    refine Tk_condF (congrArg (fun b => some (Value.bool b)) hg4) ?_
    refine Tk_skip (Tk_seq (Tk_region (Tops_step rfl (OpT_loadCA (vs := [vU32 rp0.Type_, vU64 rp0.Sector, vrp01, vI rp0.Room, vrp02]) rfl rfl rfl rfl tyF38 (i := 0) rfl rfl rfl) ?_)))
    obtain ⟨size1, hx3, h⟩ := ob_e h
    refine Tops_exP rfl (OpT_call (w_blkdrv_Size hx3) [] [0, 1] rfl rfl rfl rfl rfl callee14 rfl rfl rfl rfl) ?_
    rintro _ ⟨_, _, _, ⟨rfl, rfl, rfl⟩, rfl⟩
    refine Tops_step rfl (OpT_move rfl rfl rfl rfl) ?_
    refine Tops_step rfl (OpT_extract rfl rfl rfl rfl rfl) ?_
    refine Tops_step rfl (OpT_extract rfl rfl rfl rfl rfl) ?_
    refine Tops_step rfl (OpT_assign rfl rfl rfl rfl) ?_
    refine Tops_step rfl (OpT_assign rfl rfl rfl rfl) ?_
    refine Tops_nil (tZ [1, 2, 3, 4, 5, 11, 12] [0] [0, 1, 2, 3] rfl rfl rfl rfl ?_)
    refine Tk_seq (Tk_seq (Tk_region (Tops_step rfl (OpT_move rfl rfl rfl rfl) ?_)))
    refine Tops_step rfl (OpT_bin rfl rfl rfl rfl rfl (bin_neq_i (a := size1.2) (b := (0 : Int)))) ?_
    refine Tops_nil (tZ [1, 2, 3, 4, 5, 11, 12, 50] [0] [0, 1, 2, 3] rfl rfl rfl rfl ?_)
    rcases Bool.eq_false_or_eq_true (size1.2 != (0 : Int)) with hg5 | hg5
    ·replace h := br_t hg5 h
     refine Tk_condT (congrArg (fun b => some (Value.bool b)) hg5) ?_
     refine Tk_seq (Tk_region (Tops_step rfl (OpT_move rfl rfl rfl rfl) ?_))
     refine Tops_step rfl (OpT_loadCA (vs := [vU32 rp0.Type_, vU64 rp0.Sector, vrp01, vI rp0.Room, vrp02]) rfl rfl rfl rfl tyF38 (i := 0) rfl rfl rfl) ?_
     obtain ⟨check1, hx4, h⟩ := ob_e h
     refine Tops_exP rfl (OpT_call (w_ref_Check21 hx4) [] [0, 1] rfl rfl rfl rfl rfl callee35 rfl rfl rfl rfl) ?_
     rintro _ ⟨_, _, _, ⟨rfl, rfl, rfl⟩, rfl⟩
     refine Tops_step rfl (OpT_bin rfl rfl rfl rfl rfl (bin_eql_i (a := size1.2) (b := check1))) ?_
     refine Tops_step rfl (OpT_assign rfl rfl rfl rfl) ?_
     refine Tops_nil (tZ [10] [] [] rfl rfl rfl rfl ?_)
     obtain ⟨hg6, h⟩ := chk_e h
     exact Tk_retV rfl rfl (resA (vs := [.bool true]) rfl ⟨(congrArg (fun b => some (Value.bool b)) hg6), trivial⟩) [] [] rfl rfl rfl ⟨rfl, rfl, rfl⟩
    ·replace h := br_f hg5 h
     refine Tk_condF (congrArg (fun b => some (Value.bool b)) hg5) ?_
     refine Tk_skip (Tk_seq (Tk_region ?_))
     obtain ⟨memory1, hx5, h⟩ := ob_e h
     refine Tops_exP rfl (OpT_call (w_law22zmemory hx5) [] [] rfl rfl rfl rfl rfl callee16 rfl rfl rfl rfl) ?_
     rintro _ ⟨v1, _, _, ⟨_, rfl, rfl, rfl⟩, rfl⟩
     refine Tops_retire (i := 1) rfl ?_
     obtain ⟨new1, hx6, h⟩ := ob_e h
     refine Tops_exP rfl (OpT_call (w_ref_New02 hx6) [] [4] rfl rfl rfl rfl rfl callee26 rfl rfl rfl rfl) ?_
     rintro _ ⟨_, _, _, ⟨v2, rfl, rfl, rfl⟩, rfl⟩
     refine Tops_step rfl (OpT_move rfl rfl rfl rfl) ?_
     refine Tops_step rfl (OpT_extract rfl rfl rfl rfl rfl) ?_
     refine Tops_step rfl (OpT_extract rfl rfl rfl rfl rfl) ?_
     refine Tops_step rfl (OpT_assign rfl rfl rfl rfl) ?_
     refine Tops_step rfl (OpT_assign rfl rfl rfl rfl) ?_
     refine Tops_nil (tZ [1, 2, 3, 4, 5, 11, 12, 13] [0, 2] [0, 1, 2, 3] rfl rfl rfl rfl ?_)
     rcases onO_cases h with ⟨ho1, h⟩ | ⟨mem1, ho1, h⟩
     ·cases h
     ·refine Tk_optS (i := 1) rfl ho1 ?_
      rintro b2 v3 v4 vs1 rfl
      refine Tk_seq (Tk_region ?_)
      obtain ⟨memory2, hx7, h⟩ := ob_e h
      refine Tops_exP rfl (OpT_call (w_law22zmemory hx7) [] [] rfl rfl rfl rfl rfl callee16 rfl rfl rfl rfl) ?_
      rintro _ ⟨v5, _, _, ⟨_, rfl, rfl, rfl⟩, rfl⟩
      refine Tops_retire (i := 3) rfl ?_
      obtain ⟨new2, hx8, h⟩ := ob_e h
      refine Tops_exP rfl (OpT_call (w_gmem_New hx8) [] [5] rfl rfl rfl rfl rfl callee15 rfl rfl rfl rfl) ?_
      rintro _ ⟨_, _, _, ⟨v6, rfl, rfl, rfl⟩, rfl⟩
      refine Tops_step rfl (OpT_move rfl rfl rfl rfl) ?_
      refine Tops_step rfl (OpT_extract rfl rfl rfl rfl rfl) ?_
      refine Tops_step rfl (OpT_extract rfl rfl rfl rfl rfl) ?_
      refine Tops_step rfl (OpT_assign rfl rfl rfl rfl) ?_
      refine Tops_step rfl (OpT_assign rfl rfl rfl rfl) ?_
      refine Tops_nil (tZ [1, 2, 3, 4, 5, 11, 12, 13, 14, 15] [0, 1, 2, 4] [0, 1, 2, 3, 4] rfl rfl rfl rfl ?_)
      rcases onO_cases h with ⟨ho2, h⟩ | ⟨mem2, ho2, h⟩
      ·cases h
      ·refine Tk_optS (i := 3) rfl ho2 ?_
       rintro b3 v7 v8 vs2 rfl
       refine Tk_seq (Tk_seq (Tk_region (Tops_step rfl (OpT_move rfl rfl rfl rfl) ?_)))
       refine Tops_step rfl (OpT_bin rfl rfl rfl rfl rfl (bin_neq_i (a := new1.2) (b := (0 : Int)))) ?_
       refine Tops_step rfl (OpT_move rfl rfl rfl rfl) ?_
       obtain ⟨hg7, h⟩ := chk_e h
       replace hg7 := not_t hg7
       refine Tops_yes rfl rfl (congrArg (fun b => some (Value.bool b)) hg7) (OpT_move rfl rfl rfl rfl) ?_
       rintro _ rfl
       refine Tops_yes rfl rfl (congrArg (fun b => some (Value.bool b)) hg7) (OpT_bin rfl rfl rfl rfl rfl (bin_neq_i (a := new2.2) (b := (0 : Int)))) ?_
       rintro _ rfl
       refine Tops_step rfl (OpT_pickF rfl rfl rfl (congrArg (fun b => some (Value.bool b)) hg7) rfl) ?_
       refine Tops_nil (tZ [1, 2, 3, 4, 5, 11, 13, 14, 70] [0, 1, 2, 3, 4] [0, 1, 2, 3, 4, 5] rfl rfl rfl rfl ?_)
       obtain ⟨hg8, h⟩ := chk_e h
       replace hg8 := not_t hg8
       refine Tk_condF (congrArg (fun b => some (Value.bool b)) hg8) ?_
       refine Tk_skip (Tk_seq (Tk_region (Tops_step rfl (OpT_move rfl rfl rfl rfl) ?_)))
       obtain ⟨pick1, hx9, h⟩ := ob_e h
       refine Tops_exP rfl (OpT_call (w_kit_Pick hx9) [] [] rfl rfl rfl rfl rfl callee18 rfl rfl rfl rfl) ?_
       rintro _ ⟨_, _, _, ⟨rfl, rfl, rfl⟩, rfl⟩
       refine Tops_step rfl (OpT_cnv rfl rfl rfl rfl (cnv_i_u64 (n := pick1) Try.underlying3 Try.underlying29)) ?_
       refine Tops_step rfl (OpT_assign rfl rfl rfl rfl) ?_
       refine Tops_nil (tZ [2, 3, 4, 5, 11, 13, 14, 16] [0, 1, 2, 3, 4] [0, 1, 2, 3, 4, 5] rfl rfl rfl rfl ?_)
       refine Tk_seq (Tk_region (Tops_step rfl (OpT_move rfl rfl rfl rfl) ?_))
       refine Tops_step rfl (OpT_move rfl rfl rfl rfl) ?_
       refine Tops_step rfl (OpT_loadCA (vs := [vU32 rp0.Type_, vU64 rp0.Sector, vrp01, vI rp0.Room, vrp02]) rfl rfl rfl rfl tyF38 (i := 0) rfl rfl rfl) ?_
       obtain ⟨req1, hx10, h⟩ := ob_e h
       refine Tops_exP rfl (OpT_call (w_kit_Req hx10) [] [0, 1] rfl rfl rfl rfl rfl callee20 rfl rfl rfl rfl) ?_
       rintro _ ⟨_, _, _, ⟨v9, v10, rfl, rfl, rfl⟩, rfl⟩
       refine Tops_step rfl (OpT_move rfl rfl rfl rfl) ?_
       obtain ⟨lay1, hx11, h⟩ := ob_e h
       refine Tops_exP rfl (OpT_callB [5] [0, 1, 2, 6, 7, 5, 8] (w_blkdrv_Lay hx11) [3, 4] rfl rfl rfl rfl rfl callee19 rfl rfl rfl rfl rfl rfl (bor_cons (bor_shr 5 rfl) (bor_cons (bor_shr 6 rfl) (bor_cons (bor_row 5 rfl rfl) (bor_cons (bor_shr 2 rfl) bor_nil)))) (by rintro _ _ _ ⟨_, rfl, rfl, rfl⟩; exact ⟨rfl, (ri_cons (ri_cells _ _ _) (ri_cons (ri_rows rfl _ _ _ _ _) (ri_cons (ri_row (S := SegS) rfl _ _) ri_nil)))⟩)) ?_
       rintro _ ⟨_, _, _, ⟨v11, rfl, rfl, rfl⟩, rfl⟩
       refine Tops_step rfl (OpT_move rfl rfl rfl rfl) ?_
       refine Tops_step rfl (OpT_extract rfl rfl rfl rfl rfl) ?_
       refine Tops_step rfl (OpT_extract rfl rfl rfl rfl rfl) ?_
       refine Tops_step rfl (OpT_assign rfl rfl rfl rfl) ?_
       refine Tops_step rfl (OpT_assign rfl rfl rfl rfl) ?_
       refine Tops_nil (tZ [3, 4, 5, 11, 13, 14, 16, 17, 15] [0, 1, 2, 3, 4, 6] [0, 1, 3, 4, 5] rfl rfl rfl rfl ?_)
       refine Tk_seq (Tk_seq (Tk_region (Tops_step rfl (OpT_move rfl rfl rfl rfl) ?_)))
       refine Tops_step rfl (OpT_move rfl rfl rfl rfl) ?_
       refine Tops_step rfl (OpT_cnv rfl rfl rfl rfl (cnv_i_u64 (n := size1.1) Try.underlying3 Try.underlying29)) ?_
       refine Tops_step rfl (OpT_bin rfl rfl rfl rfl rfl (bin_add_u64 (a := u64 pick1) (b := u64 size1.1))) ?_
       refine Tops_step rfl (OpT_bin rfl rfl rfl rfl rfl (bin_gtr_u64 (a := (u64 pick1) + (u64 size1.1)) (b := (16384 : UInt64)))) ?_
       refine Tops_nil (tZ [3, 4, 5, 13, 14, 17, 15, 87] [0, 1, 2, 3, 4, 5] [0, 1, 2, 3, 4] rfl rfl rfl rfl ?_)
       rcases Bool.eq_false_or_eq_true (decide (((u64 pick1) + (u64 size1.1)) > (16384 : UInt64))) with hg9 | hg9
       ·replace h := br_t hg9 h
        refine Tk_condT (congrArg (fun b => some (Value.bool b)) hg9) ?_
        refine Tk_seq (Tk_region (Tops_step rfl (OpT_move rfl rfl rfl rfl) ?_))
        refine Tops_step rfl (OpT_bin rfl rfl rfl rfl rfl (bin_eql_i (a := lay1.2.1) (b := (5 : Int)))) ?_
        refine Tops_step rfl (OpT_assign rfl rfl rfl rfl) ?_
        refine Tops_nil (tZ [10] [] [] rfl rfl rfl rfl ?_)
        obtain ⟨hg10, h⟩ := chk_e h
        exact Tk_retV rfl rfl (resA (vs := [.bool true]) rfl ⟨(congrArg (fun b => some (Value.bool b)) hg10), trivial⟩) [] [] rfl rfl rfl ⟨rfl, rfl, rfl⟩
       ·replace h := br_f hg9 h
        refine Tk_condF (congrArg (fun b => some (Value.bool b)) hg9) ?_
        refine Tk_skip (Tk_seq (Tk_region (Tops_step rfl (OpT_move rfl rfl rfl rfl) ?_)))
        obtain ⟨of1, hx12, h⟩ := ob_e h
        refine Tops_exP rfl (OpT_call (w_ref_Of20 hx12) [] [2] rfl rfl rfl rfl rfl callee36 rfl rfl rfl rfl) ?_
        rintro _ ⟨_, _, _, ⟨v12, rfl, rfl, rfl⟩, rfl⟩
        refine Tops_step rfl (OpT_move rfl rfl rfl rfl) ?_
        refine Tops_step rfl (OpT_extract rfl rfl rfl rfl rfl) ?_
        refine Tops_step rfl (OpT_extract rfl rfl rfl rfl rfl) ?_
        refine Tops_step rfl (OpT_assign rfl rfl rfl rfl) ?_
        refine Tops_step rfl (OpT_assign rfl rfl rfl rfl) ?_
        refine Tops_nil (tZ [3, 4, 5, 13, 14, 17, 15, 18, 19] [0, 1, 2, 3, 4, 5, 6] [0, 1, 2, 3, 4] rfl rfl rfl rfl ?_)
        rcases onO_cases h with ⟨ho3, h⟩ | ⟨store2, ho3, h⟩
        ·refine Tk_optTN (i := 6) rfl ho3 ?_
         rintro rfl
         refine Tk_seq (Tk_region (Tops_step rfl (OpT_move rfl rfl rfl rfl) ?_))
         obtain ⟨of2, hx13, h⟩ := ob_e h
         refine Tops_exP rfl (OpT_call (w_ref_Of20 hx13) [] [2] rfl rfl rfl rfl rfl callee36 rfl rfl rfl rfl) ?_
         rintro _ ⟨_, _, _, ⟨v13, rfl, rfl, rfl⟩, rfl⟩
         refine Tops_step rfl (OpT_move rfl rfl rfl rfl) ?_
         refine Tops_step rfl (OpT_extract rfl rfl rfl rfl rfl) ?_
         refine Tops_step rfl (OpT_extract rfl rfl rfl rfl rfl) ?_
         refine Tops_step rfl (OpT_assign rfl rfl rfl rfl) ?_
         refine Tops_step rfl (OpT_assign rfl rfl rfl rfl) ?_
         refine Tops_nil (tZ [4, 5, 13, 14, 17, 15, 18, 19, 20] [0, 1, 2, 3, 4, 5, 7] [0, 1, 3, 4] rfl rfl rfl rfl ?_)
         rcases onO_cases h with ⟨ho4, h⟩ | ⟨store1, ho4, h⟩
         ·refine Tk_optTN (i := 6) rfl ho4 ?_
          rintro rfl
          refine Tk_seq (Tk_seq (Tk_region (Tops_step rfl (OpT_move rfl rfl rfl rfl) ?_)))
          refine Tops_step rfl (OpT_bin rfl rfl rfl rfl rfl (bin_neq_i (a := lay1.2.1) (b := (0 : Int)))) ?_
          refine Tops_step rfl (OpT_move rfl rfl rfl rfl) ?_
          rcases Bool.eq_false_or_eq_true (lay1.2.1 != (0 : Int)) with hg11 | hg11
          ·replace h := br_t hg11 h
           refine Tops_no rfl rfl (congrArg (fun b => some (Value.bool b)) hg11) rfl rfl ?_
           refine Tops_no rfl rfl (congrArg (fun b => some (Value.bool b)) hg11) rfl rfl ?_
           refine Tops_no rfl rfl (congrArg (fun b => some (Value.bool b)) hg11) rfl rfl ?_
           refine Tops_step rfl (OpT_pickT rfl rfl rfl (congrArg (fun b => some (Value.bool b)) hg11) rfl) ?_
           refine Tops_step rfl (OpT_move rfl rfl rfl rfl) ?_
           refine Tops_no rfl rfl rfl rfl rfl ?_
           refine Tops_no rfl rfl rfl rfl rfl ?_
           refine Tops_step rfl (OpT_pickT rfl rfl rfl rfl rfl) ?_
           refine Tops_nil (tZ [4, 5, 13, 14, 17, 15, 18, 20, 110] [0, 1, 2, 3, 4, 5] [0, 1, 2, 3] rfl rfl rfl rfl ?_)
           refine Tk_condT rfl ?_
           refine Tk_seq (Tk_region (Tops_step rfl (OpT_move rfl rfl rfl rfl) ?_))
           refine Tops_step rfl (OpT_bin rfl rfl rfl rfl rfl (bin_eql_i (a := lay1.2.1) (b := (0 : Int)))) ?_
           refine Tops_step rfl (OpT_move rfl rfl rfl rfl) ?_
           obtain ⟨hg12, h⟩ := chk_e h
           refine Tops_yes rfl rfl (congrArg (fun b => some (Value.bool b)) hg12) (OpT_move rfl rfl rfl rfl) ?_
           rintro _ rfl
           obtain ⟨check2, hx14, h⟩ := ob_e h
           refine Tops_yes rfl rfl (congrArg (fun b => some (Value.bool b)) hg12) (OpT_callB [5] [0, 1, 2, 3, 4, 5] (w_ref_Check05 hx14) [] rfl rfl rfl rfl rfl callee11 rfl rfl rfl rfl rfl rfl (bor_cons (bor_row 5 rfl rfl) bor_nil) (by rintro _ _ _ ⟨rfl, rfl, rfl⟩; exact ⟨rfl, ri_nil⟩)) ?_
           rintro _ ⟨_, _, _, ⟨rfl, rfl, rfl⟩, rfl⟩
           refine Tops_yes rfl rfl (congrArg (fun b => some (Value.bool b)) hg12) (OpT_bin rfl rfl rfl rfl rfl (bin_eql_i (a := check2) (b := (0 : Int)))) ?_
           rintro _ rfl
           refine Tops_step rfl (OpT_pickT rfl rfl rfl (congrArg (fun b => some (Value.bool b)) hg12) rfl) ?_
           refine Tops_step rfl (OpT_assign rfl rfl rfl rfl) ?_
           refine Tops_nil (tZ [10] [] [] rfl rfl rfl rfl ?_)
           obtain ⟨hg13, h⟩ := chk_e h
           exact Tk_retV rfl rfl (resA (vs := [.bool true]) rfl ⟨(congrArg (fun b => some (Value.bool b)) hg13), trivial⟩) [] [] rfl rfl rfl ⟨rfl, rfl, rfl⟩
          ·replace h := br_f hg11 h
           refine Tops_yes rfl rfl (congrArg (fun b => some (Value.bool b)) hg11) (OpT_move rfl rfl rfl rfl) ?_
           rintro _ rfl
           obtain ⟨check3, hx15, h⟩ := ob_e h
           refine Tops_yes rfl rfl (congrArg (fun b => some (Value.bool b)) hg11) (OpT_callB [5] [0, 1, 2, 3, 4, 5, 6] (w_ref_Check05 hx15) [] rfl rfl rfl rfl rfl callee11 rfl rfl rfl rfl rfl rfl (bor_cons (bor_row 5 rfl rfl) bor_nil) (by rintro _ _ _ ⟨rfl, rfl, rfl⟩; exact ⟨rfl, ri_nil⟩)) ?_
           rintro _ ⟨_, _, _, ⟨rfl, rfl, rfl⟩, rfl⟩
           refine Tops_yes rfl rfl (congrArg (fun b => some (Value.bool b)) hg11) (OpT_bin rfl rfl rfl rfl rfl (bin_neq_i (a := check3) (b := (0 : Int)))) ?_
           rintro _ rfl
           refine Tops_step rfl (OpT_pickF rfl rfl rfl (congrArg (fun b => some (Value.bool b)) hg11) rfl) ?_
           refine Tops_step rfl (OpT_move rfl rfl rfl rfl) ?_
           rcases Bool.eq_false_or_eq_true (check3 != (0 : Int)) with hg14 | hg14
           ·replace h := br_t hg14 h
            refine Tops_no rfl rfl (congrArg (fun b => some (Value.bool b)) hg14) rfl rfl ?_
            refine Tops_no rfl rfl (congrArg (fun b => some (Value.bool b)) hg14) rfl rfl ?_
            refine Tops_step rfl (OpT_pickT rfl rfl rfl (congrArg (fun b => some (Value.bool b)) hg14) rfl) ?_
            refine Tops_nil (tZ [4, 5, 13, 14, 17, 15, 18, 20, 110] [0, 1, 2, 3, 4, 5] [0, 1, 2, 3] rfl rfl rfl rfl ?_)
            refine Tk_condT rfl ?_
            refine Tk_seq (Tk_region (Tops_step rfl (OpT_move rfl rfl rfl rfl) ?_))
            refine Tops_step rfl (OpT_bin rfl rfl rfl rfl rfl (bin_eql_i (a := lay1.2.1) (b := (0 : Int)))) ?_
            refine Tops_step rfl (OpT_move rfl rfl rfl rfl) ?_
            obtain ⟨hg15, h⟩ := chk_e h
            refine Tops_yes rfl rfl (congrArg (fun b => some (Value.bool b)) hg15) (OpT_move rfl rfl rfl rfl) ?_
            rintro _ rfl
            obtain ⟨check4, hx16, h⟩ := ob_e h
            refine Tops_yes rfl rfl (congrArg (fun b => some (Value.bool b)) hg15) (OpT_callB [5] [0, 1, 2, 3, 4, 5] (w_ref_Check05 hx16) [] rfl rfl rfl rfl rfl callee11 rfl rfl rfl rfl rfl rfl (bor_cons (bor_row 5 rfl rfl) bor_nil) (by rintro _ _ _ ⟨rfl, rfl, rfl⟩; exact ⟨rfl, ri_nil⟩)) ?_
            rintro _ ⟨_, _, _, ⟨rfl, rfl, rfl⟩, rfl⟩
            refine Tops_yes rfl rfl (congrArg (fun b => some (Value.bool b)) hg15) (OpT_bin rfl rfl rfl rfl rfl (bin_eql_i (a := check4) (b := (0 : Int)))) ?_
            rintro _ rfl
            refine Tops_step rfl (OpT_pickT rfl rfl rfl (congrArg (fun b => some (Value.bool b)) hg15) rfl) ?_
            refine Tops_step rfl (OpT_assign rfl rfl rfl rfl) ?_
            refine Tops_nil (tZ [10] [] [] rfl rfl rfl rfl ?_)
            obtain ⟨hg16, h⟩ := chk_e h
            exact Tk_retV rfl rfl (resA (vs := [.bool true]) rfl ⟨(congrArg (fun b => some (Value.bool b)) hg16), trivial⟩) [] [] rfl rfl rfl ⟨rfl, rfl, rfl⟩
           ·replace h := br_f hg14 h
            refine Tops_yes rfl rfl (congrArg (fun b => some (Value.bool b)) hg14) (OpT_move rfl rfl rfl rfl) ?_
            rintro _ rfl
            refine Tops_yes rfl rfl (congrArg (fun b => some (Value.bool b)) hg14) (OpT_bin rfl rfl rfl rfl rfl (bin_neq_i (a := of1.2) (b := (0 : Int)))) ?_
            rintro _ rfl
            refine Tops_step rfl (OpT_pickF rfl rfl rfl (congrArg (fun b => some (Value.bool b)) hg14) rfl) ?_
            refine Tops_nil (tZ [4, 5, 13, 14, 17, 15, 18, 20, 110] [0, 1, 2, 3, 4, 5] [0, 1, 2, 3] rfl rfl rfl rfl ?_)
            obtain ⟨hg17, h⟩ := chk_e h
            refine Tk_condT (congrArg (fun b => some (Value.bool b)) hg17) ?_
            refine Tk_seq (Tk_region (Tops_step rfl (OpT_move rfl rfl rfl rfl) ?_))
            refine Tops_step rfl (OpT_bin rfl rfl rfl rfl rfl (bin_eql_i (a := lay1.2.1) (b := (0 : Int)))) ?_
            refine Tops_step rfl (OpT_move rfl rfl rfl rfl) ?_
            obtain ⟨hg18, h⟩ := chk_e h
            refine Tops_yes rfl rfl (congrArg (fun b => some (Value.bool b)) hg18) (OpT_move rfl rfl rfl rfl) ?_
            rintro _ rfl
            obtain ⟨check5, hx17, h⟩ := ob_e h
            refine Tops_yes rfl rfl (congrArg (fun b => some (Value.bool b)) hg18) (OpT_callB [5] [0, 1, 2, 3, 4, 5] (w_ref_Check05 hx17) [] rfl rfl rfl rfl rfl callee11 rfl rfl rfl rfl rfl rfl (bor_cons (bor_row 5 rfl rfl) bor_nil) (by rintro _ _ _ ⟨rfl, rfl, rfl⟩; exact ⟨rfl, ri_nil⟩)) ?_
            rintro _ ⟨_, _, _, ⟨rfl, rfl, rfl⟩, rfl⟩
            refine Tops_yes rfl rfl (congrArg (fun b => some (Value.bool b)) hg18) (OpT_bin rfl rfl rfl rfl rfl (bin_eql_i (a := check5) (b := (0 : Int)))) ?_
            rintro _ rfl
            refine Tops_step rfl (OpT_pickT rfl rfl rfl (congrArg (fun b => some (Value.bool b)) hg18) rfl) ?_
            refine Tops_step rfl (OpT_assign rfl rfl rfl rfl) ?_
            refine Tops_nil (tZ [10] [] [] rfl rfl rfl rfl ?_)
            obtain ⟨hg19, h⟩ := chk_e h
            exact Tk_retV rfl rfl (resA (vs := [.bool true]) rfl ⟨(congrArg (fun b => some (Value.bool b)) hg19), trivial⟩) [] [] rfl rfl rfl ⟨rfl, rfl, rfl⟩
         ·cases h
        ·refine Tk_optTS (i := 6) rfl ho3 ?_
         rintro b5 vs4 rfl
         refine Tk_vs (vs_star (i := 6) rfl) ?_
         refine Tk_vs (vs_star (i := 7) rfl) ?_
         refine Tk_vs (vs_star (i := 8) rfl) ?_
         refine (show Tk _ _ ⟨[(3, some (vimage1)), (4, some (vU64 feats)), (5, some (.pointer (some ⟨b1, 0, none⟩))), (13, some (.pointer (some ⟨b2, 0, none⟩))), (14, some (.pointer (some ⟨b3, 0, none⟩))), (17, some (v11)), (15, some (vI lay1.2.1)), (18, some (.pointer (some ⟨b5, 0, none⟩))), (19, some (vI of1.2))], [some (cellsR b1 38 [vU32 rp0.Type_, vU64 rp0.Sector, vrp01, vI rp0.Room, vrp02]), some (cellsR b2 97 [v3, v4]), some (rowsX u8S false v4 vs1 mem1.B none), some (cellsR b3 83 [v7, v8]), some (rowsX u8S true v8 vs2 lay1.2.2 none), some (rowS SegS v11 lay1.1), some (cellsR b5 105 [(vsAt vs4 0), (vsAt vs4 1), (vsAt vs4 2)]), some (rowS u8S (vsAt vs4 0) store2.old), some (rowS u8S (vsAt vs4 1) store2.now), some (rowS bS (vsAt vs4 2) store2.fresh)], [Fact.sl u8S vrp01 rp0.Data, Fact.sl RangeS vrp02 rp0.Ranges, Fact.sl u8S vimage1 image, Fact.sl RegionS v3 mem1.L, Fact.sl RegionS v7 mem2.l]⟩ from ?_)
         refine Tk_seq (Tk_region (Tops_step rfl (OpT_move rfl rfl rfl rfl) ?_))
         obtain ⟨of3, hx20, h⟩ := ob_e h
         refine Tops_exP rfl (OpT_call (w_ref_Of20 hx20) [] [2] rfl rfl rfl rfl rfl callee36 rfl rfl rfl rfl) ?_
         rintro _ ⟨_, _, _, ⟨v15, rfl, rfl, rfl⟩, rfl⟩
         refine Tops_step rfl (OpT_move rfl rfl rfl rfl) ?_
         refine Tops_step rfl (OpT_extract rfl rfl rfl rfl rfl) ?_
         refine Tops_step rfl (OpT_extract rfl rfl rfl rfl rfl) ?_
         refine Tops_step rfl (OpT_assign rfl rfl rfl rfl) ?_
         refine Tops_step rfl (OpT_assign rfl rfl rfl rfl) ?_
         refine Tops_nil (tZ [4, 5, 13, 14, 17, 15, 18, 19, 20] [0, 1, 2, 3, 4, 5, 6, 7, 8, 9, 10] [0, 1, 3, 4] rfl rfl rfl rfl ?_)
         rcases onO_cases h with ⟨ho5, h⟩ | ⟨store3, ho5, h⟩
         ·cases h
         ·refine Tk_optTS (i := 10) rfl ho5 ?_
          rintro b6 vs5 rfl
          refine Tk_vs (vs_star (i := 10) rfl) ?_
          refine Tk_vs (vs_star (i := 11) rfl) ?_
          refine Tk_vs (vs_star (i := 12) rfl) ?_
          refine (show Tk _ _ ⟨[(4, some (vU64 feats)), (5, some (.pointer (some ⟨b1, 0, none⟩))), (13, some (.pointer (some ⟨b2, 0, none⟩))), (14, some (.pointer (some ⟨b3, 0, none⟩))), (17, some (v11)), (15, some (vI lay1.2.1)), (18, some (.pointer (some ⟨b5, 0, none⟩))), (19, some (vI of1.2)), (20, some (.pointer (some ⟨b6, 0, none⟩)))], [some (cellsR b1 38 [vU32 rp0.Type_, vU64 rp0.Sector, vrp01, vI rp0.Room, vrp02]), some (cellsR b2 97 [v3, v4]), some (rowsX u8S false v4 vs1 mem1.B none), some (cellsR b3 83 [v7, v8]), some (rowsX u8S true v8 vs2 lay1.2.2 none), some (rowS SegS v11 lay1.1), some (cellsR b5 105 [(vsAt vs4 0), (vsAt vs4 1), (vsAt vs4 2)]), some (rowS u8S (vsAt vs4 0) store2.old), some (rowS u8S (vsAt vs4 1) store2.now), some (rowS bS (vsAt vs4 2) store2.fresh), some (cellsR b6 105 [(vsAt vs5 0), (vsAt vs5 1), (vsAt vs5 2)]), some (rowS u8S (vsAt vs5 0) store3.old), some (rowS u8S (vsAt vs5 1) store3.now), some (rowS bS (vsAt vs5 2) store3.fresh)], [Fact.sl u8S vrp01 rp0.Data, Fact.sl RangeS vrp02 rp0.Ranges, Fact.sl RegionS v3 mem1.L, Fact.sl RegionS v7 mem2.l]⟩ from ?_)
          refine Tk_seq (Tk_seq (Tk_region (Tops_step rfl (OpT_move rfl rfl rfl rfl) ?_)))
          refine Tops_step rfl (OpT_bin rfl rfl rfl rfl rfl (bin_neq_i (a := lay1.2.1) (b := (0 : Int)))) ?_
          refine Tops_step rfl (OpT_move rfl rfl rfl rfl) ?_
          rcases Bool.eq_false_or_eq_true (lay1.2.1 != (0 : Int)) with hg20 | hg20
          ·replace h := br_t hg20 h
           refine Tops_no rfl rfl (congrArg (fun b => some (Value.bool b)) hg20) rfl rfl ?_
           refine Tops_no rfl rfl (congrArg (fun b => some (Value.bool b)) hg20) rfl rfl ?_
           refine Tops_no rfl rfl (congrArg (fun b => some (Value.bool b)) hg20) rfl rfl ?_
           refine Tops_step rfl (OpT_pickT rfl rfl rfl (congrArg (fun b => some (Value.bool b)) hg20) rfl) ?_
           refine Tops_step rfl (OpT_move rfl rfl rfl rfl) ?_
           refine Tops_no rfl rfl rfl rfl rfl ?_
           refine Tops_no rfl rfl rfl rfl rfl ?_
           refine Tops_step rfl (OpT_pickT rfl rfl rfl rfl rfl) ?_
           refine Tops_nil (tZ [4, 5, 13, 14, 17, 15, 18, 20, 110] [0, 1, 2, 3, 4, 5, 6, 7, 8, 9, 10, 11, 12, 13] [0, 1, 2, 3] rfl rfl rfl rfl ?_)
           refine Tk_condT rfl ?_
           refine Tk_seq (Tk_region (Tops_step rfl (OpT_move rfl rfl rfl rfl) ?_))
           refine Tops_step rfl (OpT_bin rfl rfl rfl rfl rfl (bin_eql_i (a := lay1.2.1) (b := (0 : Int)))) ?_
           refine Tops_step rfl (OpT_move rfl rfl rfl rfl) ?_
           obtain ⟨hg21, h⟩ := chk_e h
           refine Tops_yes rfl rfl (congrArg (fun b => some (Value.bool b)) hg21) (OpT_move rfl rfl rfl rfl) ?_
           rintro _ rfl
           obtain ⟨check6, hx21, h⟩ := ob_e h
           refine Tops_yes rfl rfl (congrArg (fun b => some (Value.bool b)) hg21) (OpT_callB [5] [0, 1, 2, 3, 4, 5, 6, 7, 8, 9, 10, 11, 12, 13] (w_ref_Check05 hx21) [] rfl rfl rfl rfl rfl callee11 rfl rfl rfl rfl rfl rfl (bor_cons (bor_row 5 rfl rfl) bor_nil) (by rintro _ _ _ ⟨rfl, rfl, rfl⟩; exact ⟨rfl, ri_nil⟩)) ?_
           rintro _ ⟨_, _, _, ⟨rfl, rfl, rfl⟩, rfl⟩
           refine Tops_yes rfl rfl (congrArg (fun b => some (Value.bool b)) hg21) (OpT_bin rfl rfl rfl rfl rfl (bin_eql_i (a := check6) (b := (0 : Int)))) ?_
           rintro _ rfl
           refine Tops_step rfl (OpT_pickT rfl rfl rfl (congrArg (fun b => some (Value.bool b)) hg21) rfl) ?_
           refine Tops_step rfl (OpT_assign rfl rfl rfl rfl) ?_
           refine Tops_nil (tZ [10] [] [] rfl rfl rfl rfl ?_)
           obtain ⟨hg22, h⟩ := chk_e h
           exact Tk_retV rfl rfl (resA (vs := [.bool true]) rfl ⟨(congrArg (fun b => some (Value.bool b)) hg22), trivial⟩) [] [] rfl rfl rfl ⟨rfl, rfl, rfl⟩
          ·replace h := br_f hg20 h
           refine Tops_yes rfl rfl (congrArg (fun b => some (Value.bool b)) hg20) (OpT_move rfl rfl rfl rfl) ?_
           rintro _ rfl
           obtain ⟨check7, hx22, h⟩ := ob_e h
           refine Tops_yes rfl rfl (congrArg (fun b => some (Value.bool b)) hg20) (OpT_callB [5] [0, 1, 2, 3, 4, 5, 6, 7, 8, 9, 10, 11, 12, 13] (w_ref_Check05 hx22) [] rfl rfl rfl rfl rfl callee11 rfl rfl rfl rfl rfl rfl (bor_cons (bor_row 5 rfl rfl) bor_nil) (by rintro _ _ _ ⟨rfl, rfl, rfl⟩; exact ⟨rfl, ri_nil⟩)) ?_
           rintro _ ⟨_, _, _, ⟨rfl, rfl, rfl⟩, rfl⟩
           refine Tops_yes rfl rfl (congrArg (fun b => some (Value.bool b)) hg20) (OpT_bin rfl rfl rfl rfl rfl (bin_neq_i (a := check7) (b := (0 : Int)))) ?_
           rintro _ rfl
           refine Tops_step rfl (OpT_pickF rfl rfl rfl (congrArg (fun b => some (Value.bool b)) hg20) rfl) ?_
           refine Tops_step rfl (OpT_move rfl rfl rfl rfl) ?_
           rcases Bool.eq_false_or_eq_true (check7 != (0 : Int)) with hg23 | hg23
           ·replace h := br_t hg23 h
            refine Tops_no rfl rfl (congrArg (fun b => some (Value.bool b)) hg23) rfl rfl ?_
            refine Tops_no rfl rfl (congrArg (fun b => some (Value.bool b)) hg23) rfl rfl ?_
            refine Tops_step rfl (OpT_pickT rfl rfl rfl (congrArg (fun b => some (Value.bool b)) hg23) rfl) ?_
            refine Tops_nil (tZ [4, 5, 13, 14, 17, 15, 18, 20, 110] [0, 1, 2, 3, 4, 5, 6, 7, 8, 9, 10, 11, 12, 13] [0, 1, 2, 3] rfl rfl rfl rfl ?_)
            refine Tk_condT rfl ?_
            refine Tk_seq (Tk_region (Tops_step rfl (OpT_move rfl rfl rfl rfl) ?_))
            refine Tops_step rfl (OpT_bin rfl rfl rfl rfl rfl (bin_eql_i (a := lay1.2.1) (b := (0 : Int)))) ?_
            refine Tops_step rfl (OpT_move rfl rfl rfl rfl) ?_
            obtain ⟨hg24, h⟩ := chk_e h
            refine Tops_yes rfl rfl (congrArg (fun b => some (Value.bool b)) hg24) (OpT_move rfl rfl rfl rfl) ?_
            rintro _ rfl
            obtain ⟨check8, hx23, h⟩ := ob_e h
            refine Tops_yes rfl rfl (congrArg (fun b => some (Value.bool b)) hg24) (OpT_callB [5] [0, 1, 2, 3, 4, 5, 6, 7, 8, 9, 10, 11, 12, 13] (w_ref_Check05 hx23) [] rfl rfl rfl rfl rfl callee11 rfl rfl rfl rfl rfl rfl (bor_cons (bor_row 5 rfl rfl) bor_nil) (by rintro _ _ _ ⟨rfl, rfl, rfl⟩; exact ⟨rfl, ri_nil⟩)) ?_
            rintro _ ⟨_, _, _, ⟨rfl, rfl, rfl⟩, rfl⟩
            refine Tops_yes rfl rfl (congrArg (fun b => some (Value.bool b)) hg24) (OpT_bin rfl rfl rfl rfl rfl (bin_eql_i (a := check8) (b := (0 : Int)))) ?_
            rintro _ rfl
            refine Tops_step rfl (OpT_pickT rfl rfl rfl (congrArg (fun b => some (Value.bool b)) hg24) rfl) ?_
            refine Tops_step rfl (OpT_assign rfl rfl rfl rfl) ?_
            refine Tops_nil (tZ [10] [] [] rfl rfl rfl rfl ?_)
            obtain ⟨hg25, h⟩ := chk_e h
            exact Tk_retV rfl rfl (resA (vs := [.bool true]) rfl ⟨(congrArg (fun b => some (Value.bool b)) hg25), trivial⟩) [] [] rfl rfl rfl ⟨rfl, rfl, rfl⟩
           ·replace h := br_f hg23 h
            refine Tops_yes rfl rfl (congrArg (fun b => some (Value.bool b)) hg23) (OpT_move rfl rfl rfl rfl) ?_
            rintro _ rfl
            refine Tops_yes rfl rfl (congrArg (fun b => some (Value.bool b)) hg23) (OpT_bin rfl rfl rfl rfl rfl (bin_neq_i (a := of1.2) (b := (0 : Int)))) ?_
            rintro _ rfl
            refine Tops_step rfl (OpT_pickF rfl rfl rfl (congrArg (fun b => some (Value.bool b)) hg23) rfl) ?_
            refine Tops_nil (tZ [4, 5, 13, 14, 17, 15, 18, 20, 110] [0, 1, 2, 3, 4, 5, 6, 7, 8, 9, 10, 11, 12, 13] [0, 1, 2, 3] rfl rfl rfl rfl ?_)
            rcases Bool.eq_false_or_eq_true (of1.2 != (0 : Int)) with hg26 | hg26
            ·replace h := br_t hg26 h
             refine Tk_condT (congrArg (fun b => some (Value.bool b)) hg26) ?_
             refine Tk_seq (Tk_region (Tops_step rfl (OpT_move rfl rfl rfl rfl) ?_))
             refine Tops_step rfl (OpT_bin rfl rfl rfl rfl rfl (bin_eql_i (a := lay1.2.1) (b := (0 : Int)))) ?_
             refine Tops_step rfl (OpT_move rfl rfl rfl rfl) ?_
             obtain ⟨hg27, h⟩ := chk_e h
             refine Tops_yes rfl rfl (congrArg (fun b => some (Value.bool b)) hg27) (OpT_move rfl rfl rfl rfl) ?_
             rintro _ rfl
             obtain ⟨check9, hx24, h⟩ := ob_e h
             refine Tops_yes rfl rfl (congrArg (fun b => some (Value.bool b)) hg27) (OpT_callB [5] [0, 1, 2, 3, 4, 5, 6, 7, 8, 9, 10, 11, 12, 13] (w_ref_Check05 hx24) [] rfl rfl rfl rfl rfl callee11 rfl rfl rfl rfl rfl rfl (bor_cons (bor_row 5 rfl rfl) bor_nil) (by rintro _ _ _ ⟨rfl, rfl, rfl⟩; exact ⟨rfl, ri_nil⟩)) ?_
             rintro _ ⟨_, _, _, ⟨rfl, rfl, rfl⟩, rfl⟩
             refine Tops_yes rfl rfl (congrArg (fun b => some (Value.bool b)) hg27) (OpT_bin rfl rfl rfl rfl rfl (bin_eql_i (a := check9) (b := (0 : Int)))) ?_
             rintro _ rfl
             refine Tops_step rfl (OpT_pickT rfl rfl rfl (congrArg (fun b => some (Value.bool b)) hg27) rfl) ?_
             refine Tops_step rfl (OpT_assign rfl rfl rfl rfl) ?_
             refine Tops_nil (tZ [10] [] [] rfl rfl rfl rfl ?_)
             obtain ⟨hg28, h⟩ := chk_e h
             exact Tk_retV rfl rfl (resA (vs := [.bool true]) rfl ⟨(congrArg (fun b => some (Value.bool b)) hg28), trivial⟩) [] [] rfl rfl rfl ⟨rfl, rfl, rfl⟩
            ·replace h := br_f hg26 h
             refine Tk_condF (congrArg (fun b => some (Value.bool b)) hg26) ?_
             refine Tk_skip (Tk_seq (Tk_region (Tops_step rfl (OpT_move rfl rfl rfl rfl) ?_)))
             refine Tops_step rfl (OpT_move rfl rfl rfl rfl) ?_
             obtain ⟨image2, hx25, h⟩ := ob_e h
             refine Tops_exP rfl (OpT_callP [0, 1, 2, 14, 15, 5, 6, 7, 8, 9, 10, 11, 12, 13, 16] (w_gmem_Mem_Image hx25) [3, 4] [3] rfl rfl rfl rfl rfl callee21 rfl rfl rfl rfl rfl) ?_
             rintro _ ⟨v16, _, _, ⟨_, rfl, rfl, rfl⟩, rfl⟩
             obtain ⟨write2, hx26, h⟩ := ob_e h
             refine Tops_exP rfl (OpT_callB [14] [0, 15, 16, 3, 4, 5, 6, 7, 8, 9, 10, 11, 12, 13, 14] (w_ref_Mem_Write02 hx26) [1, 2] rfl rfl rfl rfl rfl callee27 rfl rfl rfl rfl rfl rfl (bor_cons (bor_shr 2 rfl) (bor_cons (bor_row 14 rfl rfl) bor_nil)) (by rintro _ _ _ ⟨rfl, rfl, rfl⟩; exact ⟨rfl, (ri_cons (ri_cells _ _ _) (ri_cons (ri_rows rfl _ _ _ _ _) ri_nil))⟩)) ?_
             rintro _ ⟨_, _, _, ⟨rfl, rfl, rfl⟩, rfl⟩
             refine Tops_nil (tZ [4, 5, 13, 14, 17, 18, 20] [0, 1, 2, 3, 4, 5, 6, 7, 8, 9, 10, 11, 12, 13] [0, 1, 2, 3] rfl rfl rfl rfl ?_)
             refine Tk_seq (Tk_region (Tops_step rfl (OpT_move rfl rfl rfl rfl) ?_))
             refine Tops_step rfl (OpT_move rfl rfl rfl rfl) ?_
             refine Tops_step rfl (OpT_move rfl rfl rfl rfl) ?_
             refine Tops_step rfl (OpT_move rfl rfl rfl rfl) ?_
             refine Tops_retire (i := 5) rfl ?_
             obtain ⟨do1, hx27, h⟩ := ob_e h
             refine Tops_exP rfl (OpT_callP [0, 14, 15, 3, 4, 5, 16, 17, 18, 19, 10, 11, 12, 13] (w_ref_Do21 hx27) [1, 2, 6, 7, 8, 9] [2, 4] rfl rfl rfl rfl rfl callee37 rfl rfl rfl rfl rfl) ?_
             rintro _ ⟨_, _, _, ⟨v17, v18, v19, rfl, rfl, rfl⟩, rfl⟩
             refine Tops_step rfl (OpT_move rfl rfl rfl rfl) ?_
             refine Tops_step rfl (OpT_extract rfl rfl rfl rfl rfl) ?_
             refine Tops_step rfl (OpT_extract rfl rfl rfl rfl rfl) ?_
             refine Tops_step rfl (OpT_assign rfl rfl rfl rfl) ?_
             refine Tops_step rfl (OpT_assign rfl rfl rfl rfl) ?_
             refine Tops_nil (tZ [4, 5, 13, 14, 17, 20, 22] [0, 1, 2, 3, 4, 10, 11, 12, 13] [0, 1, 2, 3, 4] rfl rfl rfl rfl ?_)
             refine Tk_seq (Tk_seq (Tk_region (Tops_step rfl (OpT_move rfl rfl rfl rfl) ?_)))
             refine Tops_step rfl (OpT_move rfl rfl rfl rfl) ?_
             obtain ⟨image3, hx28, h⟩ := ob_e h
             refine Tops_exP rfl (OpT_callP [0, 9, 10, 3, 4, 5, 6, 7, 8, 11] (w_ref_Mem_Image02 hx28) [1, 2] [2] rfl rfl rfl rfl rfl callee30 rfl rfl rfl rfl rfl) ?_
             rintro _ ⟨v20, _, _, ⟨_, rfl, rfl, rfl⟩, rfl⟩
             obtain ⟨write3, hx29, h⟩ := ob_e h
             refine Tops_exP rfl (OpT_callB [9] [0, 1, 2, 10, 11, 5, 6, 7, 8, 9] (w_gmem_Mem_Write hx29) [3, 4] rfl rfl rfl rfl rfl callee17 rfl rfl rfl rfl rfl rfl (bor_cons (bor_shr 3 rfl) (bor_cons (bor_row 9 rfl rfl) bor_nil)) (by rintro _ _ _ ⟨rfl, rfl, rfl⟩; exact ⟨rfl, (ri_cons (ri_cells _ _ _) (ri_cons (ri_rows rfl _ _ _ _ _) ri_nil))⟩)) ?_
             rintro _ ⟨_, _, _, ⟨rfl, rfl, rfl⟩, rfl⟩
             refine Tops_step rfl (OpT_bin rfl rfl rfl rfl rfl (bin_neq_i (a := write3.1) (b := (0 : Int)))) ?_
             refine Tops_nil (tZ [4, 5, 14, 17, 20, 22, 134] [0, 3, 4, 5, 6, 7, 8] [0, 1, 3, 4] rfl rfl rfl rfl ?_)
             obtain ⟨hg29, h⟩ := chk_e h
             replace hg29 := not_t hg29
             refine Tk_condF (congrArg (fun b => some (Value.bool b)) hg29) ?_
             refine Tk_skip (Tk_seq (Tk_region (Tops_step rfl (OpT_move rfl rfl rfl rfl) ?_)))
             refine Tops_step rfl (OpT_move rfl rfl rfl rfl) ?_
             refine Tops_step rfl (OpT_move rfl rfl rfl rfl) ?_
             obtain ⟨result1, hx30, h⟩ := ob_e h
             refine Tops_exP rfl (OpT_callP [0, 7, 8, 3, 4, 5, 6] (w_blkdrv_Result hx30) [1, 2] [2, 3] rfl rfl rfl rfl rfl callee23 rfl rfl rfl rfl rfl) ?_
             rintro _ ⟨_, _, _, ⟨v21, rfl, rfl, rfl⟩, rfl⟩
             refine Tops_step rfl (OpT_move rfl rfl rfl rfl) ?_
             refine Tops_step rfl (OpT_extract rfl rfl rfl rfl rfl) ?_
             refine Tops_step rfl (OpT_extract rfl rfl rfl rfl rfl) ?_
             refine Tops_step rfl (OpT_extract rfl rfl rfl rfl rfl) ?_
             refine Tops_step rfl (OpT_assign rfl rfl rfl rfl) ?_
             refine Tops_step rfl (OpT_assign rfl rfl rfl rfl) ?_
             refine Tops_step rfl (OpT_assign rfl rfl rfl rfl) ?_
             refine Tops_nil (tZ [4, 5, 20, 24, 25, 12] [0, 3, 4, 5, 6] [0, 1, 4] rfl rfl rfl rfl ?_)
             refine Tk_seq (Tk_region (Tops_step rfl (OpT_move rfl rfl rfl rfl) ?_))
             refine Tops_step rfl (OpT_move rfl rfl rfl rfl) ?_
             refine Tops_step rfl (OpT_loadCA (vs := [vU32 rp0.Type_, vU64 rp0.Sector, vrp01, vI rp0.Room, vrp02]) rfl rfl rfl rfl tyF38 (i := 0) rfl rfl rfl) ?_
             obtain ⟨apply1, hx31, h⟩ := ob_e h
             refine Tops_exP rfl (OpT_callP [0, 5, 6, 7, 8, 9] (w_ref_Apply21 hx31) [1, 2, 3, 4] [0, 1] rfl rfl rfl rfl rfl callee38 rfl rfl rfl rfl rfl) ?_
             rintro _ ⟨_, _, _, ⟨v22, v23, v24, v25, rfl, rfl, rfl⟩, rfl⟩
             refine Tops_step rfl (OpT_move rfl rfl rfl rfl) ?_
             refine Tops_step rfl (OpT_extract rfl rfl rfl rfl rfl) ?_
             refine Tops_step rfl (OpT_extract rfl rfl rfl rfl rfl) ?_
             refine Tops_step rfl (OpT_extract rfl rfl rfl rfl rfl) ?_
             refine Tops_step rfl (OpT_assign rfl rfl rfl rfl) ?_
             refine Tops_step rfl (OpT_assign rfl rfl rfl rfl) ?_
             refine Tops_step rfl (OpT_assign rfl rfl rfl rfl) ?_
             refine Tops_nil (tZ [24, 25, 12, 26, 27] [5] [2] rfl rfl rfl rfl ?_)
             refine Tk_seq (Tk_region (Tops_step rfl (OpT_move rfl rfl rfl rfl) ?_))
             refine Tops_step rfl (OpT_bin rfl rfl rfl rfl rfl (bin_eql_i (a := result1.2.2) (b := (0 : Int)))) ?_
             refine Tops_step rfl (OpT_move rfl rfl rfl rfl) ?_
             obtain ⟨hg30, h⟩ := chk_e h
             refine Tops_yes rfl rfl (congrArg (fun b => some (Value.bool b)) hg30) (OpT_move rfl rfl rfl rfl) ?_
             rintro _ rfl
             refine Tops_yes rfl rfl (congrArg (fun b => some (Value.bool b)) hg30) (OpT_move rfl rfl rfl rfl) ?_
             rintro _ rfl
             refine Tops_yes rfl rfl (congrArg (fun b => some (Value.bool b)) hg30) (OpT_bin rfl rfl rfl rfl rfl (bin_eql_u8 (a := result1.2.1) (b := apply1.2.1))) ?_
             rintro _ rfl
             refine Tops_step rfl (OpT_pickT rfl rfl rfl (congrArg (fun b => some (Value.bool b)) hg30) rfl) ?_
             refine Tops_step rfl (OpT_move rfl rfl rfl rfl) ?_
             obtain ⟨hg31, h⟩ := chk_e h
             refine Tops_yes rfl rfl (congrArg (fun b => some (Value.bool b)) hg31) (OpT_move rfl rfl rfl rfl) ?_
             rintro _ rfl
             refine Tops_yes rfl rfl (congrArg (fun b => some (Value.bool b)) hg31) (OpT_strS rfl rfl rfl rfl Try.underlying35 Try.underlying5 Try.underlying9 (i := 0) rfl) ?_
             rintro _ rfl
             refine Tops_yes rfl rfl (congrArg (fun b => some (Value.bool b)) hg31) (OpT_move rfl rfl rfl rfl) ?_
             rintro _ rfl
             refine Tops_retire (i := 0) rfl ?_
             refine Tops_yes rfl rfl (congrArg (fun b => some (Value.bool b)) hg31) (OpT_strS rfl rfl rfl rfl Try.underlying35 Try.underlying5 Try.underlying9 (i := 1) rfl) ?_
             rintro _ rfl
             refine Tops_yes rfl rfl (congrArg (fun b => some (Value.bool b)) hg31) (OpT_bin rfl rfl rfl rfl rfl (bin_eql_s (a := result1.1) (b := apply1.1))) ?_
             rintro _ rfl
             refine Tops_step rfl (OpT_pickT rfl rfl rfl (congrArg (fun b => some (Value.bool b)) hg31) rfl) ?_
             refine Tops_step rfl (OpT_assign rfl rfl rfl rfl) ?_
             refine Tops_nil (tZ [10] [] [] rfl rfl rfl rfl ?_)
             obtain ⟨hg32, h⟩ := chk_e h
             exact Tk_retV rfl rfl (resA (vs := [.bool true]) rfl ⟨(congrArg (fun b => some (Value.bool b)) hg32), trivial⟩) [] [] rfl rfl rfl ⟨rfl, rfl, rfl⟩
end Go.Proofs.Ytkmjpgfbcklopaa
