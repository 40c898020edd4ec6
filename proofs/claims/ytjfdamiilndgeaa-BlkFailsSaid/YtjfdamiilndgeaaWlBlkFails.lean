/- The law BlkFails is walked: it returns what its plain words say. No condition. -/
import Derived.Test.YtjfdamiilndgeaaWa4
namespace Go.Proofs.Ytjfdamiilndgeaa
attribute [local irreducible] sub

set_option maxRecDepth 100000 in
set_option maxHeartbeats 4000000 in
theorem w_law21zBlkFails {rp0 : Req} {image : List UInt8} {feats : UInt64} {vrp01 : Value} {vrp02 : Value} {vimage1 : Value}  (h : law21zBlkFails rp0 image feats = some true) :
  Ctr Try.prog 5 #[.agg #[vU32 rp0.Type_, vU64 rp0.Sector, vrp01, vI rp0.Room, vrp02], vimage1, vU64 feats] [] [Fact.sl u8S vrp01 rp0.Data, Fact.sl RangeS vrp02 rp0.Ranges, Fact.sl u8S vimage1 image]
   (fun rv own shr => rv = .bool true ∧ own = [] ∧ shr = []) := by
 unfold law21zBlkFails at h
 refine Ctr.mk (args := [.agg #[vU32 rp0.Type_, vU64 rp0.Sector, vrp01, vI rp0.Room, vrp02], vimage1, vU64 feats]) Try.func5 rfl rfl (fun R0 w0 B => ?_)
 refine Tk_seq (Tk_region (Tops_ex rfl (OpT_box rfl rfl rfl rfl) fun b1 => ?_))
 refine Tops_step rfl (OpT_assign rfl rfl rfl rfl) ?_
 refine Tops_nil (tZ [1, 2, 3] [0] [0, 1, 2] rfl rfl rfl rfl ?_)
 refine Tk_seq (Tk_seq (Tk_region ?_))
 obtain ⟨lives1, hx1, h⟩ := ob_e h
 refine Tops_exP rfl (OpT_call (w_law21zlives hx1) [] [] rfl rfl rfl rfl rfl callee11 rfl rfl rfl rfl) ?_
 rintro _ ⟨_, _, _, ⟨rfl, rfl, rfl⟩, rfl⟩
 refine Tops_step rfl (OpT_not rfl rfl rfl rfl) ?_
 refine Tops_nil (tZ [1, 2, 3, 18] [0] [0, 1, 2] rfl rfl rfl rfl ?_)
 obtain ⟨hg1, h⟩ := chk_e h
 replace hg1 := not_t hg1
 refine Tk_condF (congrArg (fun b => some (Value.bool b)) hg1) ?_
 refine Tk_skip (Tk_seq (Tk_seq (Tk_region (Tops_step rfl (OpT_loadCA (vs := [vU32 rp0.Type_, vU64 rp0.Sector, vrp01, vI rp0.Room, vrp02]) rfl rfl rfl rfl tyF35 (i := 0) rfl rfl rfl) ?_))))
 obtain ⟨lightr1, hx2, h⟩ := ob_e h
 refine Tops_exP rfl (OpT_call (w_kit_LightReq hx2) [] [0, 1] rfl rfl rfl rfl rfl callee12 rfl rfl rfl rfl) ?_
 rintro _ ⟨_, _, _, ⟨rfl, rfl, rfl⟩, rfl⟩
 refine Tops_step rfl (OpT_not rfl rfl rfl rfl) ?_
 refine Tops_step rfl (OpT_move rfl rfl rfl rfl) ?_
 rcases Bool.eq_false_or_eq_true ((!lightr1)) with hg2 | hg2
 ·replace h := br_t hg2 h
  refine Tops_no rfl rfl (congrArg (fun b => some (Value.bool b)) hg2) rfl rfl ?_
  refine Tops_no rfl rfl (congrArg (fun b => some (Value.bool b)) hg2) rfl rfl ?_
  refine Tops_no rfl rfl (congrArg (fun b => some (Value.bool b)) hg2) rfl rfl ?_
  refine Tops_step rfl (OpT_pickT rfl rfl rfl (congrArg (fun b => some (Value.bool b)) hg2) rfl) ?_
  refine Tops_nil (tZ [1, 2, 3, 26] [0] [0, 1, 2] rfl rfl rfl rfl ?_)
  refine Tk_condT rfl ?_
  refine Tk_seq (Tk_region (Tops_step rfl (OpT_assign rfl rfl rfl rfl) ?_))
  refine Tops_nil (tZ [6] [] [] rfl rfl rfl rfl ?_)
  exact Tk_retV rfl rfl (resA (vs := [.bool true]) rfl ⟨rfl, trivial⟩) [] [] rfl rfl rfl ⟨rfl, rfl, rfl⟩
 ·replace h := br_f hg2 h
  refine Tops_yes rfl rfl (congrArg (fun b => some (Value.bool b)) hg2) (OpT_move rfl rfl rfl rfl) ?_
  rintro _ rfl
  refine Tops_yes rfl rfl (congrArg (fun b => some (Value.bool b)) hg2) (OpT_lenS rfl rfl rfl rfl Try.underlying26 (i := 2) rfl) ?_
  rintro _ rfl
  refine Tops_yes rfl rfl (congrArg (fun b => some (Value.bool b)) hg2) (OpT_bin rfl rfl rfl rfl rfl (bin_gtr_i (a := len image) (b := (6000 : Int)))) ?_
  rintro _ rfl
  refine Tops_step rfl (OpT_pickF rfl rfl rfl (congrArg (fun b => some (Value.bool b)) hg2) rfl) ?_
  refine Tops_nil (tZ [1, 2, 3, 26] [0] [0, 1, 2] rfl rfl rfl rfl ?_)
  rcases Bool.eq_false_or_eq_true (decide ((len image) > (6000 : Int))) with hg3 | hg3
  ·replace h := br_t hg3 h
   refine Tk_condT (congrArg (fun b => some (Value.bool b)) hg3) ?_
   refine Tk_seq (Tk_region (Tops_step rfl (OpT_assign rfl rfl rfl rfl) ?_))
   refine Tops_nil (tZ [6] [] [] rfl rfl rfl rfl ?_)
   exact Tk_retV rfl rfl (resA (vs := [.bool true]) rfl ⟨rfl, trivial⟩) [] [] rfl rfl rfl ⟨rfl, rfl, rfl⟩
  ·replace h := br_f hg3 h
   refine Tk_condF (congrArg (fun b => some (Value.bool b)) hg3) ?_
   refine Tk_skip (Tk_seq (Tk_region (Tops_step rfl (OpT_move rfl rfl rfl rfl) ?_)))
   obtain ⟨own1, hx3, h⟩ := ob_e h
   refine Tops_exP rfl (OpT_call (w_kit_Own hx3) [] [2] rfl rfl rfl rfl rfl callee14 rfl rfl rfl rfl) ?_
   rintro _ ⟨v1, _, _, ⟨_, rfl, rfl, rfl⟩, rfl⟩
   refine Tops_retire (i := 1) rfl ?_
   obtain ⟨of1, hx4, h⟩ := ob_e h
   refine Tops_exP rfl (OpT_call (w_sectors_Of hx4) [] [3] rfl rfl rfl rfl rfl callee15 rfl rfl rfl rfl) ?_
   rintro _ ⟨_, _, _, ⟨v2, rfl, rfl, rfl⟩, rfl⟩
   refine Tops_step rfl (OpT_move rfl rfl rfl rfl) ?_
   refine Tops_step rfl (OpT_extract rfl rfl rfl rfl rfl) ?_
   refine Tops_step rfl (OpT_extract rfl rfl rfl rfl rfl) ?_
   refine Tops_step rfl (OpT_assign rfl rfl rfl rfl) ?_
   refine Tops_step rfl (OpT_assign rfl rfl rfl rfl) ?_
   refine Tops_nil (tZ [1, 2, 3, 7, 8] [0, 2] [0, 1, 2] rfl rfl rfl rfl ?_)
   rcases onO_cases h with ⟨ho1, h⟩ | ⟨store1, ho1, h⟩
   ·refine Tk_optTN (i := 1) rfl ho1 ?_
    rintro rfl
    refine Tk_seq (Tk_seq (Tk_region (Tops_step rfl (OpT_move rfl rfl rfl rfl) ?_)))
    refine Tops_step rfl (OpT_bin rfl rfl rfl rfl rfl (bin_neq_i (a := of1.2) (b := (0 : Int)))) ?_
    refine Tops_nil (tZ [1, 2, 3, 7, 34] [0] [0, 1, 2] rfl rfl rfl rfl ?_)
    obtain ⟨hg4, h⟩ := chk_e h
    refine Tk_condT (congrArg (fun b => some (Value.bool b)) hg4) ?_
    refine Tk_seq (Tk_region (Tops_step rfl (OpT_assign rfl rfl rfl rfl) ?_))
    refine Tops_nil (tZ [6] [] [] rfl rfl rfl rfl ?_)
    exact Tk_retV rfl rfl (resA (vs := [.bool true]) rfl ⟨rfl, trivial⟩) [] [] rfl rfl rfl ⟨rfl, rfl, rfl⟩
   ·refine Tk_optTS (i := 1) rfl ho1 ?_
    rintro b2 vs1 rfl
    refine Tk_vs (vs_star (i := 1) rfl) ?_
    refine Tk_vs (vs_star (i := 2) rfl) ?_
    refine (show Tk _ _ ⟨[(1, some (vimage1)), (2, some (vU64 feats)), (3, some (.pointer (some ⟨b1, 0, none⟩))), (7, some (.pointer (some ⟨b2, 0, none⟩))), (8, some (vI of1.2))], [some (cellsR b1 35 [vU32 rp0.Type_, vU64 rp0.Sector, vrp01, vI rp0.Room, vrp02]), some (cellsR b2 71 [(vsAt vs1 0), (vsAt vs1 1)]), some (rowS secS (vsAt vs1 0) store1.l), some (mapRV .i64 (fun x : Int => x) vSec (vsAt vs1 1) store1.fresh)], [Fact.sl u8S vrp01 rp0.Data, Fact.sl RangeS vrp02 rp0.Ranges, Fact.sl u8S vimage1 image]⟩ from ?_)
    refine Tk_openM (i := 3) rfl ?_
    rintro mb1 he1
    rw [he1]
    refine Tk_seq (Tk_seq (Tk_region (Tops_step rfl (OpT_move rfl rfl rfl rfl) ?_)))
    refine Tops_step rfl (OpT_bin rfl rfl rfl rfl rfl (bin_neq_i (a := of1.2) (b := (0 : Int)))) ?_
    refine Tops_nil (tZ [1, 2, 3, 7, 34] [0, 1, 2, 3] [0, 1, 2] rfl rfl rfl rfl ?_)
    rcases Bool.eq_false_or_eq_true (of1.2 != (0 : Int)) with hg5 | hg5
    ·replace h := br_t hg5 h
     refine Tk_condT (congrArg (fun b => some (Value.bool b)) hg5) ?_
     refine Tk_seq (Tk_region (Tops_step rfl (OpT_assign rfl rfl rfl rfl) ?_))
     refine Tops_nil (tZ [6] [] [] rfl rfl rfl rfl ?_)
     exact Tk_retV rfl rfl (resA (vs := [.bool true]) rfl ⟨rfl, trivial⟩) [] [] rfl rfl rfl ⟨rfl, rfl, rfl⟩
    ·replace h := br_f hg5 h
     refine Tk_condF (congrArg (fun b => some (Value.bool b)) hg5) ?_
     refine Tk_skip (Tk_seq (Tk_region (Tops_step rfl (OpT_move rfl rfl rfl rfl) ?_)))
     refine Tops_step rfl (OpT_move rfl rfl rfl rfl) ?_
     refine Tops_step rfl (OpT_loadCA (vs := [vU32 rp0.Type_, vU64 rp0.Sector, vrp01, vI rp0.Room, vrp02]) rfl rfl rfl rfl tyF35 (i := 0) rfl rfl rfl) ?_
     obtain ⟨req2, hx6, h⟩ := ob_e h
     refine Tops_exP rfl (OpT_call (w_kit_Req hx6) [] [0, 1] rfl rfl rfl rfl rfl callee16 rfl rfl rfl rfl) ?_
     rintro _ ⟨_, _, _, ⟨v5, v6, rfl, rfl, rfl⟩, rfl⟩
     refine Tops_retire (i := 4) rfl ?_
     obtain ⟨apply1, hx7, h⟩ := ob_e h
     refine Tops_exP rfl (OpT_callP [0, 5, 6, 7, 4, 8] (w_blk_Apply hx7) [1, 2, 3] [3, 4] rfl rfl rfl rfl rfl callee10 rfl rfl rfl rfl rfl) ?_
     rintro _ ⟨_, _, _, ⟨v7, v8, rfl, rfl, rfl⟩, rfl⟩
     refine Tops_step rfl (OpT_move rfl rfl rfl rfl) ?_
     refine Tops_step rfl (OpT_extract rfl rfl rfl rfl rfl) ?_
     refine Tops_step rfl (OpT_extract rfl rfl rfl rfl rfl) ?_
     refine Tops_step rfl (OpT_extract rfl rfl rfl rfl rfl) ?_
     refine Tops_step rfl (OpT_assign rfl rfl rfl rfl) ?_
     refine Tops_step rfl (OpT_assign rfl rfl rfl rfl) ?_
     refine Tops_step rfl (OpT_assign rfl rfl rfl rfl) ?_
     refine Tops_nil (tZ [1, 3, 7, 9, 10, 8] [0, 1, 2, 3, 5] [0, 1, 2] rfl rfl rfl rfl ?_)
     refine Tk_seq (Tk_region (Tops_step rfl (OpT_move rfl rfl rfl rfl) ?_))
     obtain ⟨image1, hx8, h⟩ := ob_e h
     refine Tops_exP rfl (OpT_callP [0, 5, 6, 7, 4, 8] (w_sectors_Store_Image hx8) [1, 2, 3] [] rfl rfl rfl rfl rfl callee17 rfl rfl rfl rfl rfl) ?_
     rintro _ ⟨v9, _, _, ⟨_, v10, rfl, rfl, rfl⟩, rfl⟩
     refine Tops_step rfl (OpT_assign rfl rfl rfl rfl) ?_
     refine Tops_nil (tZ [1, 3, 9, 10, 8, 11] [0, 4, 5] [0, 1, 2] rfl rfl rfl rfl ?_)
     refine Tk_seq (Tk_seq (Tk_region (Tops_step rfl (OpT_move rfl rfl rfl rfl) ?_)))
     refine Tops_step rfl (OpT_bin rfl rfl rfl rfl rfl (bin_neq_i (a := apply1.2.2.1) (b := (0 : Int)))) ?_
     refine Tops_step rfl (OpT_move rfl rfl rfl rfl) ?_
     rcases Bool.eq_false_or_eq_true (apply1.2.2.1 != (0 : Int)) with hg6 | hg6
     ·replace h := br_t hg6 h
      refine Tops_no rfl rfl (congrArg (fun b => some (Value.bool b)) hg6) rfl rfl ?_
      refine Tops_no rfl rfl (congrArg (fun b => some (Value.bool b)) hg6) rfl rfl ?_
      refine Tops_step rfl (OpT_pickT rfl rfl rfl (congrArg (fun b => some (Value.bool b)) hg6) rfl) ?_
      refine Tops_nil (tZ [1, 3, 9, 11, 51] [0, 1, 2] [0, 1, 2] rfl rfl rfl rfl ?_)
      refine Tk_condT rfl ?_
      refine Tk_seq (Tk_region (Tops_step rfl (OpT_move rfl rfl rfl rfl) ?_))
      refine Tops_step rfl (OpT_lenO rfl rfl rfl rfl Try.underlying26 (i := 1) rfl) ?_
      refine Tops_step rfl (OpT_bin rfl rfl rfl rfl rfl (bin_eql_i (a := len apply1.1) (b := (0 : Int)))) ?_
      refine Tops_step rfl (OpT_move rfl rfl rfl rfl) ?_
      obtain ⟨hg7, h⟩ := chk_e h
      refine Tops_yes rfl rfl (congrArg (fun b => some (Value.bool b)) hg7) (OpT_move rfl rfl rfl rfl) ?_
      rintro _ rfl
      refine Tops_retire (i := 2) rfl ?_
      refine Tops_yes rfl rfl (congrArg (fun b => some (Value.bool b)) hg7) (OpT_strS rfl rfl rfl rfl Try.underlying26 Try.underlying5 Try.underlying9 (i := 3) rfl) ?_
      rintro _ rfl
      refine Tops_yes rfl rfl (congrArg (fun b => some (Value.bool b)) hg7) (OpT_move rfl rfl rfl rfl) ?_
      rintro _ rfl
      refine Tops_yes rfl rfl (congrArg (fun b => some (Value.bool b)) hg7) (OpT_strS rfl rfl rfl rfl Try.underlying26 Try.underlying5 Try.underlying9 (i := 2) rfl) ?_
      rintro _ rfl
      refine Tops_yes rfl rfl (congrArg (fun b => some (Value.bool b)) hg7) (OpT_bin rfl rfl rfl rfl rfl (bin_eql_s (a := image1.1) (b := image))) ?_
      rintro _ rfl
      refine Tops_step rfl (OpT_pickT rfl rfl rfl (congrArg (fun b => some (Value.bool b)) hg7) rfl) ?_
      refine Tops_step rfl (OpT_assign rfl rfl rfl rfl) ?_
      refine Tops_nil (tZ [6] [] [] rfl rfl rfl rfl ?_)
      obtain ⟨hg8, h⟩ := chk_e h
      exact Tk_retV rfl rfl (resA (vs := [.bool true]) rfl ⟨(congrArg (fun b => some (Value.bool b)) hg8), trivial⟩) [] [] rfl rfl rfl ⟨rfl, rfl, rfl⟩
     ·replace h := br_f hg6 h
      refine Tops_yes rfl rfl (congrArg (fun b => some (Value.bool b)) hg6) (OpT_move rfl rfl rfl rfl) ?_
      rintro _ rfl
      refine Tops_yes rfl rfl (congrArg (fun b => some (Value.bool b)) hg6) (OpT_bin rfl rfl rfl rfl rfl (bin_neq_u8 (a := apply1.2.1) (b := (0 : UInt8)))) ?_
      rintro _ rfl
      refine Tops_step rfl (OpT_pickF rfl rfl rfl (congrArg (fun b => some (Value.bool b)) hg6) rfl) ?_
      refine Tops_nil (tZ [1, 3, 9, 11, 51] [0, 1, 2] [0, 1, 2] rfl rfl rfl rfl ?_)
      rcases Bool.eq_false_or_eq_true (apply1.2.1 != (0 : UInt8)) with hg9 | hg9
      ·replace h := br_t hg9 h
       refine Tk_condT (congrArg (fun b => some (Value.bool b)) hg9) ?_
       refine Tk_seq (Tk_region (Tops_step rfl (OpT_move rfl rfl rfl rfl) ?_))
       refine Tops_step rfl (OpT_lenO rfl rfl rfl rfl Try.underlying26 (i := 1) rfl) ?_
       refine Tops_step rfl (OpT_bin rfl rfl rfl rfl rfl (bin_eql_i (a := len apply1.1) (b := (0 : Int)))) ?_
       refine Tops_step rfl (OpT_move rfl rfl rfl rfl) ?_
       obtain ⟨hg10, h⟩ := chk_e h
       refine Tops_yes rfl rfl (congrArg (fun b => some (Value.bool b)) hg10) (OpT_move rfl rfl rfl rfl) ?_
       rintro _ rfl
       refine Tops_retire (i := 2) rfl ?_
       refine Tops_yes rfl rfl (congrArg (fun b => some (Value.bool b)) hg10) (OpT_strS rfl rfl rfl rfl Try.underlying26 Try.underlying5 Try.underlying9 (i := 3) rfl) ?_
       rintro _ rfl
       refine Tops_yes rfl rfl (congrArg (fun b => some (Value.bool b)) hg10) (OpT_move rfl rfl rfl rfl) ?_
       rintro _ rfl
       refine Tops_yes rfl rfl (congrArg (fun b => some (Value.bool b)) hg10) (OpT_strS rfl rfl rfl rfl Try.underlying26 Try.underlying5 Try.underlying9 (i := 2) rfl) ?_
       rintro _ rfl
       refine Tops_yes rfl rfl (congrArg (fun b => some (Value.bool b)) hg10) (OpT_bin rfl rfl rfl rfl rfl (bin_eql_s (a := image1.1) (b := image))) ?_
       rintro _ rfl
       refine Tops_step rfl (OpT_pickT rfl rfl rfl (congrArg (fun b => some (Value.bool b)) hg10) rfl) ?_
       refine Tops_step rfl (OpT_assign rfl rfl rfl rfl) ?_
       refine Tops_nil (tZ [6] [] [] rfl rfl rfl rfl ?_)
       obtain ⟨hg11, h⟩ := chk_e h
       exact Tk_retV rfl rfl (resA (vs := [.bool true]) rfl ⟨(congrArg (fun b => some (Value.bool b)) hg11), trivial⟩) [] [] rfl rfl rfl ⟨rfl, rfl, rfl⟩
      ·replace h := br_f hg9 h
       refine Tk_condF (congrArg (fun b => some (Value.bool b)) hg9) ?_
       refine Tk_skip (Tk_seq (Tk_region (Tops_step rfl (OpT_move rfl rfl rfl rfl) ?_)))
       obtain ⟨own2, hx9, h⟩ := ob_e h
       refine Tops_exP rfl (OpT_call (w_kit_Own hx9) [] [2] rfl rfl rfl rfl rfl callee14 rfl rfl rfl rfl) ?_
       rintro _ ⟨v11, _, _, ⟨_, rfl, rfl, rfl⟩, rfl⟩
       refine Tops_step rfl (OpT_assign rfl rfl rfl rfl) ?_
       refine Tops_nil (tZ [1, 3, 9, 11, 12] [0, 1, 2, 3] [0, 1, 2] rfl rfl rfl rfl ?_)
       refine Tk_seq (Tk_seq (Tk_region (Tops_step rfl (OpT_fieldC rfl rfl rfl rfl fldF35x0) ?_)))
       refine Tops_step rfl (OpT_loadC rfl rfl rfl rfl tyF29 (i := 0) rfl rfl) ?_
       refine Tops_nil (tZ [1, 3, 9, 11, 12, 65] [0, 1, 2, 3] [0, 1, 2] rfl rfl rfl rfl ?_)
       refine Tk_block (Tk_seq (Tk_region (Tops_step rfl (OpT_bin rfl rfl rfl rfl rfl (bin_eql_u32 (a := rp0.Type_) (b := (0 : UInt32)))) ?_)))
       refine Tops_step rfl (OpT_assign rfl rfl rfl rfl) ?_
       refine Tops_nil (tZ [1, 3, 9, 11, 12, 65, 66] [0, 1, 2, 3] [0, 1, 2] rfl rfl rfl rfl ?_)
       rcases Bool.eq_false_or_eq_true (rp0.Type_ == (0 : UInt32)) with hg12 | hg12
       ·replace h := br_t hg12 h
        refine Tk_condT (congrArg (fun b => some (Value.bool b)) hg12) ?_
        refine Tk_seq (Tk_region (Tops_step rfl (OpT_fieldC rfl rfl rfl rfl fldF35x1) ?_))
        refine Tops_step rfl (OpT_loadC rfl rfl rfl rfl tyF30 (i := 0) rfl rfl) ?_
        refine Tops_step rfl (OpT_cnv rfl rfl rfl rfl (cnv_u64_i (n := rp0.Sector) Try.underlying30 Try.underlying3)) ?_
        refine Tops_step rfl (OpT_bin rfl rfl rfl rfl rfl (bin_mul_i (a := i64 rp0.Sector) (b := (512 : Int)))) ?_
        refine Tops_step rfl (OpT_assign rfl rfl rfl rfl) ?_
        refine Tops_nil (tZ [1, 3, 9, 11, 13] [0, 1, 2] [0, 1, 2] rfl rfl rfl rfl ?_)
        refine Tk_seq (Tk_drawT (by kernel_rfl) ?_)
        refine TA_tb [0, 1, 0, 4, 15, 31, 63, 127, 63, 63, 63, 63, 2111, 7231, 16191, 32575, 65535, 131071, 262143] (by kernel_rfl) fun htb => ?_
        refine TA_retire (i := 2) rfl ?_
        refine TA_seg (lo := 0) (hi := 4) htb rfl rfl (by kernel_rfl) (fun c L a w => Sat c ⟨[(1, some (vimage1)), (3, some (.pointer (some ⟨b1, 0, none⟩))), (9, some (v7)), (11, some (v9)), (13, some (vI (wi ((i64 rp0.Sector) * (512 : Int))))), (72, bif L 0 then some (v9) else none), (73, bif L 1 then some (vS image1.1) else none), (74, bif L 2 then some (vimage1) else none), (75, bif L 3 then some (vS image) else none)], [(some (cellsR b1 35 [vU32 rp0.Type_, vU64 rp0.Sector, vrp01, vI rp0.Room, vrp02]) : Option Res), (some (rowS u8S v7 apply1.1) : Option Res), (none : Option Res)], [Fact.sl u8S vrp01 rp0.Data, Fact.sl RangeS vrp02 rp0.Ranges, Fact.sl u8S vimage1 image, Fact.sl u8S v9 image1.1]⟩ a w) [([], [1]), ([0], []), ([], [3]), ([2], [])] rfl (by kernel_rfl) ?_ (steps_cons ?_ (steps_cons ?_ (steps_cons ?_ (steps_cons ?_ (steps_nil))))) ?_
        ·intro a w hs
         exact hs.startF [72, 73, 74, 75] [0, 1, 2] [0, 1, 2, 3] rfl rfl rfl rfl
        ·intro L a w hv K Q hK
         have hs := hv
         refine wpOp_go rfl rfl hs (OpT_move rfl rfl rfl rfl) ?_
         rintro _ rfl a' w' hs'
         exact hK a' w' (hs'.putF (i := 5) rfl [0, 1, 2] [0, 1, 2, 3] rfl rfl rfl rfl)
        ·intro L a w hv K Q hK
         have hs := hv
         refine wpOp_go rfl rfl hs (OpT_strS rfl rfl rfl rfl Try.underlying26 Try.underlying5 Try.underlying9 (i := 3) rfl) ?_
         rintro _ rfl a' w' hs'
         exact hK a' w' (hs'.putF (i := 6) rfl [0, 1, 2] [0, 1, 2, 3] rfl rfl rfl rfl)
        ·intro L a w hv K Q hK
         have hs := hv
         refine wpOp_go rfl rfl hs (OpT_move rfl rfl rfl rfl) ?_
         rintro _ rfl a' w' hs'
         exact hK a' w' (hs'.putF (i := 7) rfl [0, 1, 2] [0, 1, 2, 3] rfl rfl rfl rfl)
        ·intro L a w hv K Q hK
         have hs := hv
         refine wpOp_go rfl rfl hs (OpT_strS rfl rfl rfl rfl Try.underlying26 Try.underlying5 Try.underlying9 (i := 2) rfl) ?_
         rintro _ rfl a' w' hs'
         exact hK a' w' (hs'.putF (i := 8) rfl [0, 1, 2] [0, 1, 2, 3] rfl rfl rfl rfl)
        ·intro L a w hL hv
         rw [allTrue hL] at hv
         have hs := hv
         refine gZ hs [1, 3, 9, 13, 73, 75] [0, 1] [0, 1, 2] rfl rfl rfl rfl ?_
         clear hs hL
         refine TA_step htb (by kernel_rfl) rfl rfl (OpT_bin rfl rfl rfl rfl rfl (bin_eql_s (a := image1.1) (b := image))) ?_
         refine TA_step htb (by kernel_rfl) rfl rfl (OpT_move rfl rfl rfl rfl) ?_
         refine aZ [1, 3, 9, 13, 77] [0, 1] [0, 1, 2] rfl rfl rfl rfl ?_
         refine TA_retire (i := 1) rfl ?_
         obtain ⟨hg13, h⟩ := chk_e h
         obtain ⟨hc1, h⟩ := chk_e h
         refine TA_seg (lo := 6) (hi := 16) htb rfl rfl (by kernel_rfl) (fun c L a w => ∃ (v12 : Value), Sat c ⟨[(1, some (vimage1)), (3, some (.pointer (some ⟨b1, 0, none⟩))), (9, some (v7)), (13, some (vI (wi ((i64 rp0.Sector) * (512 : Int))))), (77, some (vB (image1.1 == image))), (78, bif L 6 then some (v7) else none), (79, bif L 7 then some (vS apply1.1) else none), (80, bif L 8 then some (vimage1) else none), (81, bif L 9 then some (vI (wi ((i64 rp0.Sector) * (512 : Int)))) else none), (82, bif L 10 then some (vI (wi ((i64 rp0.Sector) * (512 : Int)))) else none), (83, bif L 11 then some (.pointer (some ⟨b1, 3, none⟩)) else none), (84, bif L 12 then some (vI rp0.Room) else none), (85, bif L 13 then some (vI (wi ((wi ((i64 rp0.Sector) * (512 : Int))) + rp0.Room))) else none), (86, bif L 14 then some (v12) else none), (87, bif L 15 then some (vS (sub image (wi ((i64 rp0.Sector) * (512 : Int))) (wi ((wi ((i64 rp0.Sector) * (512 : Int))) + rp0.Room)))) else none)], [(some (cellsR b1 35 [vU32 rp0.Type_, vU64 rp0.Sector, vrp01, vI rp0.Room, vrp02]) : Option Res), (none : Option Res)], [Fact.sl u8S vrp01 rp0.Data, Fact.sl RangeS vrp02 rp0.Ranges, Fact.sl u8S vimage1 image, Fact.sl u8S v7 apply1.1, (bif L 14 then Fact.sl u8S v12 (sub image (wi ((i64 rp0.Sector) * (512 : Int))) (wi ((wi ((i64 rp0.Sector) * (512 : Int))) + rp0.Room))) else Fact.tt)]⟩ a w) [([], [7]), ([6], []), ([], [14, 15]), ([], [14, 15]), ([], [13, 14, 15]), ([], [12, 13, 14, 15]), ([11], [13, 14, 15]), ([10, 11, 12], [14, 15]), ([8, 9, 10, 11, 12, 13], [15]), ([8, 9, 10, 11, 12, 13, 14], [])] rfl (by kernel_rfl) ?_ (steps_cons ?_ (steps_cons ?_ (steps_cons ?_ (steps_cons ?_ (steps_cons ?_ (steps_cons ?_ (steps_cons ?_ (steps_cons ?_ (steps_cons ?_ (steps_cons ?_ (steps_nil))))))))))) ?_
         ·intro a w hs
          exact ⟨undef, hs.startF [78, 79, 80, 81, 82, 83, 84, 85, 86, 87] [0, 1] [0, 1, 2, 3, 4] rfl rfl rfl rfl⟩
         ·intro L a w hv K Q hK
          obtain ⟨v12, hs⟩ := hv
          refine wpOp_yes rfl rfl rfl hs (congrArg (fun b => some (Value.bool b)) hg13) (OpT_move rfl rfl rfl rfl) ?_
          rintro _ rfl a' w' hs'
          exact hK a' w' ⟨v12, hs'.putF (i := 5) rfl [0, 1] [0, 1, 2, 3, 4] rfl rfl rfl rfl⟩
         ·intro L a w hv K Q hK
          obtain ⟨v12, hs⟩ := hv
          refine wpOp_yes rfl rfl rfl hs (congrArg (fun b => some (Value.bool b)) hg13) (OpT_strS rfl rfl rfl rfl Try.underlying26 Try.underlying5 Try.underlying9 (i := 3) rfl) ?_
          rintro _ rfl a' w' hs'
          exact hK a' w' ⟨v12, hs'.putF (i := 6) rfl [0, 1] [0, 1, 2, 3, 4] rfl rfl rfl rfl⟩
         ·intro L a w hv K Q hK
          obtain ⟨v12, hs⟩ := hv
          refine wpOp_yes rfl rfl rfl hs (congrArg (fun b => some (Value.bool b)) hg13) (OpT_move rfl rfl rfl rfl) ?_
          rintro _ rfl a' w' hs'
          exact hK a' w' ⟨v12, hs'.putF (i := 7) rfl [0, 1] [0, 1, 2, 3, 4] rfl rfl rfl rfl⟩
         ·intro L a w hv K Q hK
          obtain ⟨v12, hs⟩ := hv
          refine wpOp_yes rfl rfl rfl hs (congrArg (fun b => some (Value.bool b)) hg13) (OpT_move rfl rfl rfl rfl) ?_
          rintro _ rfl a' w' hs'
          exact hK a' w' ⟨v12, hs'.putF (i := 8) rfl [0, 1] [0, 1, 2, 3, 4] rfl rfl rfl rfl⟩
         ·intro L a w hv K Q hK
          obtain ⟨v12, hs⟩ := hv
          refine wpOp_yes rfl rfl rfl hs (congrArg (fun b => some (Value.bool b)) hg13) (OpT_move rfl rfl rfl rfl) ?_
          rintro _ rfl a' w' hs'
          exact hK a' w' ⟨v12, hs'.putF (i := 9) rfl [0, 1] [0, 1, 2, 3, 4] rfl rfl rfl rfl⟩
         ·intro L a w hv K Q hK
          obtain ⟨v12, hs⟩ := hv
          refine wpOp_yes rfl rfl rfl hs (congrArg (fun b => some (Value.bool b)) hg13) (OpT_fieldC rfl rfl rfl rfl fldF35x3) ?_
          rintro _ rfl a' w' hs'
          exact hK a' w' ⟨v12, hs'.putF (i := 10) rfl [0, 1] [0, 1, 2, 3, 4] rfl rfl rfl rfl⟩
         ·intro L a w hv K Q hK
          obtain ⟨v12, hs⟩ := hv
          refine wpOp_yes rfl rfl rfl hs (congrArg (fun b => some (Value.bool b)) hg13) (OpT_loadC rfl rfl rfl rfl tyF3 (i := 0) rfl rfl) ?_
          rintro _ rfl a' w' hs'
          exact hK a' w' ⟨v12, hs'.putF (i := 11) rfl [0, 1] [0, 1, 2, 3, 4] rfl rfl rfl rfl⟩
         ·intro L a w hv K Q hK
          obtain ⟨v12, hs⟩ := hv
          refine wpOp_yes rfl rfl rfl hs (congrArg (fun b => some (Value.bool b)) hg13) (OpT_bin rfl rfl rfl rfl rfl (bin_add_i (a := wi ((i64 rp0.Sector) * (512 : Int))) (b := rp0.Room))) ?_
          rintro _ rfl a' w' hs'
          exact hK a' w' ⟨v12, hs'.putF (i := 12) rfl [0, 1] [0, 1, 2, 3, 4] rfl rfl rfl rfl⟩
         ·intro L a w hv K Q hK
          obtain ⟨v12, hs⟩ := hv
          refine wpOp_yes rfl rfl rfl hs (congrArg (fun b => some (Value.bool b)) hg13) (OpT_sliceLH (l := wi ((i64 rp0.Sector) * (512 : Int))) (m := wi ((wi ((i64 rp0.Sector) * (512 : Int))) + rp0.Room)) rfl rfl rfl rfl rfl rfl slF26 (i := 2) rfl hc1) ?_
          rintro _ ⟨v12', rfl⟩ a' w' hs'
          exact hK a' w' ⟨v12', hs'.putF (i := 13) rfl [0, 1] [0, 1, 2, 3, 5] rfl rfl rfl rfl⟩
         ·intro L a w hv K Q hK
          obtain ⟨v12, hs⟩ := hv
          refine wpOp_yes rfl rfl rfl hs (congrArg (fun b => some (Value.bool b)) hg13) (OpT_strS rfl rfl rfl rfl Try.underlying26 Try.underlying5 Try.underlying9 (i := 4) rfl) ?_
          rintro _ rfl a' w' hs'
          exact hK a' w' ⟨v12, hs'.putF (i := 14) rfl [0, 1] [0, 1, 2, 3, 4] rfl rfl rfl rfl⟩
         ·intro L a w hL hv
          rw [allTrue hL] at hv
          obtain ⟨v12, hs⟩ := hv
          refine gZ hs [77, 79, 87] [] [] rfl rfl rfl rfl ?_
          clear hs hL
          refine TA_yes htb (by kernel_rfl) rfl rfl rfl (congrArg (fun b => some (Value.bool b)) hg13) (OpT_bin rfl rfl rfl rfl rfl (bin_eql_s (a := apply1.1) (b := sub image (wi ((i64 rp0.Sector) * (512 : Int))) (wi ((wi ((i64 rp0.Sector) * (512 : Int))) + rp0.Room))))) ?_
          rintro _ rfl
          refine TA_step htb (by kernel_rfl) rfl rfl (OpT_pickT rfl rfl rfl (congrArg (fun b => some (Value.bool b)) hg13) rfl) ?_
          refine TA_step htb (by kernel_rfl) rfl rfl (OpT_assign rfl rfl rfl rfl) ?_
          refine TA_end rfl ?_
          refine tZ [6] [] [] rfl rfl rfl rfl ?_
          obtain ⟨hg14, h⟩ := chk_e h
          exact Tk_retV rfl rfl (resA (vs := [.bool true]) rfl ⟨(congrArg (fun b => some (Value.bool b)) hg14), trivial⟩) [] [] rfl rfl rfl ⟨rfl, rfl, rfl⟩
       ·replace h := br_f hg12 h
        refine Tk_condF (congrArg (fun b => some (Value.bool b)) hg12) ?_
        refine Tk_seq (Tk_region (Tops_step rfl (OpT_bin rfl rfl rfl rfl rfl (bin_eql_u32 (a := rp0.Type_) (b := (1 : UInt32)))) ?_))
        refine Tops_step rfl (OpT_assign rfl rfl rfl rfl) ?_
        refine Tops_nil (tZ [3, 9, 11, 12, 65, 90] [0, 1, 2, 3] [0, 1] rfl rfl rfl rfl ?_)
        rcases Bool.eq_false_or_eq_true (rp0.Type_ == (1 : UInt32)) with hg15 | hg15
        ·replace h := br_t hg15 h
         refine Tk_condT (congrArg (fun b => some (Value.bool b)) hg15) ?_
         refine Tk_seq (Tk_region (Tops_step rfl (OpT_fieldC rfl rfl rfl rfl fldF35x2) ?_))
         refine Tops_step rfl (OpT_loadC rfl rfl rfl rfl tyF26 (i := 0) rfl rfl) ?_
         refine Tops_step rfl (OpT_lenS rfl rfl rfl rfl Try.underlying26 (i := 0) rfl) ?_
         refine Tops_step rfl (OpT_bin rfl rfl rfl rfl rfl (bin_gtr_i (a := len rp0.Data) (b := (0 : Int)))) ?_
         refine Tops_nil (tZ [3, 9, 11, 12, 95] [0, 1, 2, 3] [0, 1] rfl rfl rfl rfl ?_)
         rcases Bool.eq_false_or_eq_true (decide ((len rp0.Data) > (0 : Int))) with hg16 | hg16
         ·replace h := br_t hg16 h
          refine Tk_condT (congrArg (fun b => some (Value.bool b)) hg16) ?_
          refine Tk_drawT (by kernel_rfl) ?_
          refine TA_tb [0, 0, 2, 6, 14, 31, 0, 64, 255] (by kernel_rfl) fun htb => ?_
          refine aZ [3, 9, 11, 12] [0, 1, 2, 3] [0, 1] rfl rfl rfl rfl ?_
          obtain ⟨hc2, h⟩ := chk_e h
          refine TA_seg (lo := 0) (hi := 8) htb rfl rfl (by kernel_rfl) (fun c L a w => Sat c ⟨[(3, some (.pointer (some ⟨b1, 0, none⟩))), (9, some (v7)), (11, some (v9)), (12, some (v11)), (96, bif L 0 then some (v11) else none), (97, bif L 1 then some (.pointer (some ⟨b1, 1, none⟩)) else none), (98, bif L 2 then some (vU64 rp0.Sector) else none), (99, bif L 3 then some (vI (i64 rp0.Sector)) else none), (100, bif L 4 then some (vI (wi ((i64 rp0.Sector) * (512 : Int)))) else none), (101, bif L 5 then some (subV v11 1 (Int.toNat (wi ((i64 rp0.Sector) * (512 : Int)))) (Int.toNat (len own2))) else none), (102, bif L 6 then some (.pointer (some ⟨b1, 2, none⟩)) else none), (103, bif L 7 then some (vrp01) else none)], [(some (cellsR b1 35 [vU32 rp0.Type_, vU64 rp0.Sector, vrp01, vI rp0.Room, vrp02]) : Option Res), (some (rowS u8S v7 apply1.1) : Option Res), (some (rowS u8S v9 image1.1) : Option Res), (some (rowS u8S v11 own2) : Option Res)], [Fact.sl u8S vrp01 rp0.Data, Fact.sl RangeS vrp02 rp0.Ranges]⟩ a w) [([], [5]), ([], [2, 3, 4, 5]), ([1], [3, 4, 5]), ([1, 2], [4, 5]), ([1, 2, 3], [5]), ([0, 1, 2, 3, 4], []), ([], [7]), ([6], [])] rfl (by kernel_rfl) ?_ (steps_cons ?_ (steps_cons ?_ (steps_cons ?_ (steps_cons ?_ (steps_cons ?_ (steps_cons ?_ (steps_cons ?_ (steps_cons ?_ (steps_nil))))))))) ?_
          ·intro a w hs
           exact hs.startF [96, 97, 98, 99, 100, 101, 102, 103] [0, 1, 2, 3] [0, 1] rfl rfl rfl rfl
          ·intro L a w hv K Q hK
           have hs := hv
           refine wpOp_go rfl rfl hs (OpT_move rfl rfl rfl rfl) ?_
           rintro _ rfl a' w' hs'
           exact hK a' w' (hs'.putF (i := 4) rfl [0, 1, 2, 3] [0, 1] rfl rfl rfl rfl)
          ·intro L a w hv K Q hK
           have hs := hv
           refine wpOp_go rfl rfl hs (OpT_fieldC rfl rfl rfl rfl fldF35x1) ?_
           rintro _ rfl a' w' hs'
           exact hK a' w' (hs'.putF (i := 5) rfl [0, 1, 2, 3] [0, 1] rfl rfl rfl rfl)
          ·intro L a w hv K Q hK
           have hs := hv
           refine wpOp_go rfl rfl hs (OpT_loadC rfl rfl rfl rfl tyF30 (i := 0) rfl rfl) ?_
           rintro _ rfl a' w' hs'
           exact hK a' w' (hs'.putF (i := 6) rfl [0, 1, 2, 3] [0, 1] rfl rfl rfl rfl)
          ·intro L a w hv K Q hK
           have hs := hv
           refine wpOp_go rfl rfl hs (OpT_cnv rfl rfl rfl rfl (cnv_u64_i (n := rp0.Sector) Try.underlying30 Try.underlying3)) ?_
           rintro _ rfl a' w' hs'
           exact hK a' w' (hs'.putF (i := 7) rfl [0, 1, 2, 3] [0, 1] rfl rfl rfl rfl)
          ·intro L a w hv K Q hK
           have hs := hv
           refine wpOp_go rfl rfl hs (OpT_bin rfl rfl rfl rfl rfl (bin_mul_i (a := i64 rp0.Sector) (b := (512 : Int)))) ?_
           rintro _ rfl a' w' hs'
           exact hK a' w' (hs'.putF (i := 8) rfl [0, 1, 2, 3] [0, 1] rfl rfl rfl rfl)
          ·intro L a w hv K Q hK
           have hs := hv
           refine wpOp_go rfl rfl hs (OpT_subL (S := u8S) (l := wi ((i64 rp0.Sector) * (512 : Int))) rfl rfl rfl rfl rfl slF26 (i := 3) rfl hc2) ?_
           rintro _ rfl a' w' hs'
           exact hK a' w' (hs'.putF (i := 9) rfl [0, 1, 2, 3] [0, 1] rfl rfl rfl rfl)
          ·intro L a w hv K Q hK
           have hs := hv
           refine wpOp_go rfl rfl hs (OpT_fieldC rfl rfl rfl rfl fldF35x2) ?_
           rintro _ rfl a' w' hs'
           exact hK a' w' (hs'.putF (i := 10) rfl [0, 1, 2, 3] [0, 1] rfl rfl rfl rfl)
          ·intro L a w hv K Q hK
           have hs := hv
           refine wpOp_go rfl rfl hs (OpT_loadC rfl rfl rfl rfl tyF26 (i := 0) rfl rfl) ?_
           rintro _ rfl a' w' hs'
           exact hK a' w' (hs'.putF (i := 11) rfl [0, 1, 2, 3] [0, 1] rfl rfl rfl rfl)
          ·intro L a w hL hv
           rw [allTrue hL] at hv
           have hs := hv
           refine gZ hs [3, 9, 11, 12, 101, 103] [0, 1, 2, 3] [0, 1] rfl rfl rfl rfl ?_
           clear hs hL
           refine TA_step htb (by kernel_rfl) rfl rfl (OpT_copyS (S := u8S) (l := (wi ((i64 rp0.Sector) * (512 : Int)))) (m := (len own2)) rfl rfl rfl rfl rfl rfl slF26 (i := 3) (j := 0) rfl rfl hc2) ?_
           refine TA_end rfl ?_
           refine tZ [3, 9, 11, 12] [0, 1, 2, 3] [0, 1] rfl rfl rfl rfl ?_
           refine Tk_blk (Tk_seq (Tk_region (Tops_step rfl (OpT_move rfl rfl rfl rfl) ?_)))
           refine Tops_retire (i := 2) rfl ?_
           refine Tops_step rfl (OpT_strS rfl rfl rfl rfl Try.underlying26 Try.underlying5 Try.underlying9 (i := 2) rfl) ?_
           refine Tops_step rfl (OpT_move rfl rfl rfl rfl) ?_
           refine Tops_retire (i := 3) rfl ?_
           refine Tops_step rfl (OpT_strS rfl rfl rfl rfl Try.underlying26 Try.underlying5 Try.underlying9 (i := 3) rfl) ?_
           refine Tops_step rfl (OpT_bin rfl rfl rfl rfl rfl (bin_eql_s (a := image1.1) (b := copyAt own2 (wi ((i64 rp0.Sector) * (512 : Int))) (len own2) rp0.Data))) ?_
           refine Tops_step rfl (OpT_move rfl rfl rfl rfl) ?_
           obtain ⟨hg17, h⟩ := chk_e h
           refine Tops_yes rfl rfl (congrArg (fun b => some (Value.bool b)) hg17) (OpT_move rfl rfl rfl rfl) ?_
           rintro _ rfl
           refine Tops_yes rfl rfl (congrArg (fun b => some (Value.bool b)) hg17) (OpT_lenO rfl rfl rfl rfl Try.underlying26 (i := 1) rfl) ?_
           rintro _ rfl
           refine Tops_yes rfl rfl (congrArg (fun b => some (Value.bool b)) hg17) (OpT_bin rfl rfl rfl rfl rfl (bin_eql_i (a := len apply1.1) (b := (0 : Int)))) ?_
           rintro _ rfl
           refine Tops_yes rfl rfl (congrArg (fun b => some (Value.bool b)) hg17) (OpT_move rfl rfl rfl rfl) ?_
           rintro _ rfl
           rcases Bool.eq_false_or_eq_true ((len apply1.1) == (0 : Int)) with hg18 | hg18
           ·replace h := br_t hg18 h
            refine Tops_no rfl rfl (congrArg (fun b => some (Value.bool b)) hg18) rfl rfl ?_
            refine Tops_no rfl rfl (congrArg (fun b => some (Value.bool b)) hg18) rfl rfl ?_
            refine Tops_no rfl rfl (congrArg (fun b => some (Value.bool b)) hg18) rfl rfl ?_
            refine Tops_no rfl rfl (congrArg (fun b => some (Value.bool b)) hg18) rfl rfl ?_
            refine Tops_noU rfl rfl rfl rfl rfl ?_
            refine Tops_noU rfl rfl rfl rfl rfl ?_
            refine Tops_noU rfl rfl rfl rfl rfl ?_
            refine Tops_no rfl rfl (congrArg (fun b => some (Value.bool b)) hg18) rfl rfl ?_
            refine Tops_yes rfl rfl (congrArg (fun b => some (Value.bool b)) hg17) (OpT_pickT rfl rfl rfl (congrArg (fun b => some (Value.bool b)) hg18) rfl) ?_
            rintro _ rfl
            refine Tops_step rfl (OpT_pickT rfl rfl rfl (congrArg (fun b => some (Value.bool b)) hg17) rfl) ?_
            refine Tops_step rfl (OpT_assign rfl rfl rfl rfl) ?_
            refine Tops_nil (tZ [6] [] [] rfl rfl rfl rfl ?_)
            exact Tk_retV rfl rfl (resA (vs := [.bool true]) rfl ⟨rfl, trivial⟩) [] [] rfl rfl rfl ⟨rfl, rfl, rfl⟩
           ·replace h := br_f hg18 h
            refine Tops_yes rfl rfl (congrArg (fun b => some (Value.bool b)) hg18) (OpT_fieldC rfl rfl rfl rfl fldF35x0) ?_
            rintro _ rfl
            refine Tops_yes rfl rfl (congrArg (fun b => some (Value.bool b)) hg18) (OpT_loadC rfl rfl rfl rfl tyF29 (i := 0) rfl rfl) ?_
            rintro _ rfl
            refine Tops_yes rfl rfl (congrArg (fun b => some (Value.bool b)) hg18) (OpT_bin rfl rfl rfl rfl rfl (bin_eql_u32 (a := rp0.Type_) (b := (8 : UInt32)))) ?_
            rintro _ rfl
            refine Tops_yes rfl rfl (congrArg (fun b => some (Value.bool b)) hg18) (OpT_move rfl rfl rfl rfl) ?_
            rintro _ rfl
            obtain ⟨hg19, h⟩ := chk_e h
            refine Tops_yes rfl rfl (congrArg (fun b => some (Value.bool b)) hg19) (OpT_move rfl rfl rfl rfl) ?_
            rintro _ rfl
            refine Tops_yes rfl rfl (congrArg (fun b => some (Value.bool b)) hg19) (OpT_lenO rfl rfl rfl rfl Try.underlying26 (i := 1) rfl) ?_
            rintro _ rfl
            refine Tops_yes rfl rfl (congrArg (fun b => some (Value.bool b)) hg19) (OpT_bin rfl rfl rfl rfl rfl (bin_eql_i (a := len apply1.1) (b := (20 : Int)))) ?_
            rintro _ rfl
            refine Tops_yes rfl rfl (congrArg (fun b => some (Value.bool b)) hg18) (OpT_pickT rfl rfl rfl (congrArg (fun b => some (Value.bool b)) hg19) rfl) ?_
            rintro _ rfl
            refine Tops_yes rfl rfl (congrArg (fun b => some (Value.bool b)) hg17) (OpT_pickF rfl rfl rfl (congrArg (fun b => some (Value.bool b)) hg18) rfl) ?_
            rintro _ rfl
            refine Tops_step rfl (OpT_pickT rfl rfl rfl (congrArg (fun b => some (Value.bool b)) hg17) rfl) ?_
            refine Tops_step rfl (OpT_assign rfl rfl rfl rfl) ?_
            refine Tops_nil (tZ [6] [] [] rfl rfl rfl rfl ?_)
            obtain ⟨hg20, h⟩ := chk_e h
            exact Tk_retV rfl rfl (resA (vs := [.bool true]) rfl ⟨(congrArg (fun b => some (Value.bool b)) hg20), trivial⟩) [] [] rfl rfl rfl ⟨rfl, rfl, rfl⟩
         ·replace h := br_f hg16 h
          refine Tk_condF (congrArg (fun b => some (Value.bool b)) hg16) ?_
          refine Tk_skip (Tk_blk (Tk_seq (Tk_region (Tops_step rfl (OpT_move rfl rfl rfl rfl) ?_))))
          refine Tops_retire (i := 2) rfl ?_
          refine Tops_step rfl (OpT_strS rfl rfl rfl rfl Try.underlying26 Try.underlying5 Try.underlying9 (i := 2) rfl) ?_
          refine Tops_step rfl (OpT_move rfl rfl rfl rfl) ?_
          refine Tops_retire (i := 3) rfl ?_
          refine Tops_step rfl (OpT_strS rfl rfl rfl rfl Try.underlying26 Try.underlying5 Try.underlying9 (i := 3) rfl) ?_
          refine Tops_step rfl (OpT_bin rfl rfl rfl rfl rfl (bin_eql_s (a := image1.1) (b := own2))) ?_
          refine Tops_step rfl (OpT_move rfl rfl rfl rfl) ?_
          obtain ⟨hg21, h⟩ := chk_e h
          refine Tops_yes rfl rfl (congrArg (fun b => some (Value.bool b)) hg21) (OpT_move rfl rfl rfl rfl) ?_
          rintro _ rfl
          refine Tops_yes rfl rfl (congrArg (fun b => some (Value.bool b)) hg21) (OpT_lenO rfl rfl rfl rfl Try.underlying26 (i := 1) rfl) ?_
          rintro _ rfl
          refine Tops_yes rfl rfl (congrArg (fun b => some (Value.bool b)) hg21) (OpT_bin rfl rfl rfl rfl rfl (bin_eql_i (a := len apply1.1) (b := (0 : Int)))) ?_
          rintro _ rfl
          refine Tops_yes rfl rfl (congrArg (fun b => some (Value.bool b)) hg21) (OpT_move rfl rfl rfl rfl) ?_
          rintro _ rfl
          rcases Bool.eq_false_or_eq_true ((len apply1.1) == (0 : Int)) with hg22 | hg22
          ·replace h := br_t hg22 h
           refine Tops_no rfl rfl (congrArg (fun b => some (Value.bool b)) hg22) rfl rfl ?_
           refine Tops_no rfl rfl (congrArg (fun b => some (Value.bool b)) hg22) rfl rfl ?_
           refine Tops_no rfl rfl (congrArg (fun b => some (Value.bool b)) hg22) rfl rfl ?_
           refine Tops_no rfl rfl (congrArg (fun b => some (Value.bool b)) hg22) rfl rfl ?_
           refine Tops_noU rfl rfl rfl rfl rfl ?_
           refine Tops_noU rfl rfl rfl rfl rfl ?_
           refine Tops_noU rfl rfl rfl rfl rfl ?_
           refine Tops_no rfl rfl (congrArg (fun b => some (Value.bool b)) hg22) rfl rfl ?_
           refine Tops_yes rfl rfl (congrArg (fun b => some (Value.bool b)) hg21) (OpT_pickT rfl rfl rfl (congrArg (fun b => some (Value.bool b)) hg22) rfl) ?_
           rintro _ rfl
           refine Tops_step rfl (OpT_pickT rfl rfl rfl (congrArg (fun b => some (Value.bool b)) hg21) rfl) ?_
           refine Tops_step rfl (OpT_assign rfl rfl rfl rfl) ?_
           refine Tops_nil (tZ [6] [] [] rfl rfl rfl rfl ?_)
           exact Tk_retV rfl rfl (resA (vs := [.bool true]) rfl ⟨rfl, trivial⟩) [] [] rfl rfl rfl ⟨rfl, rfl, rfl⟩
          ·replace h := br_f hg22 h
           refine Tops_yes rfl rfl (congrArg (fun b => some (Value.bool b)) hg22) (OpT_fieldC rfl rfl rfl rfl fldF35x0) ?_
           rintro _ rfl
           refine Tops_yes rfl rfl (congrArg (fun b => some (Value.bool b)) hg22) (OpT_loadC rfl rfl rfl rfl tyF29 (i := 0) rfl rfl) ?_
           rintro _ rfl
           refine Tops_yes rfl rfl (congrArg (fun b => some (Value.bool b)) hg22) (OpT_bin rfl rfl rfl rfl rfl (bin_eql_u32 (a := rp0.Type_) (b := (8 : UInt32)))) ?_
           rintro _ rfl
           refine Tops_yes rfl rfl (congrArg (fun b => some (Value.bool b)) hg22) (OpT_move rfl rfl rfl rfl) ?_
           rintro _ rfl
           obtain ⟨hg23, h⟩ := chk_e h
           refine Tops_yes rfl rfl (congrArg (fun b => some (Value.bool b)) hg23) (OpT_move rfl rfl rfl rfl) ?_
           rintro _ rfl
           refine Tops_yes rfl rfl (congrArg (fun b => some (Value.bool b)) hg23) (OpT_lenO rfl rfl rfl rfl Try.underlying26 (i := 1) rfl) ?_
           rintro _ rfl
           refine Tops_yes rfl rfl (congrArg (fun b => some (Value.bool b)) hg23) (OpT_bin rfl rfl rfl rfl rfl (bin_eql_i (a := len apply1.1) (b := (20 : Int)))) ?_
           rintro _ rfl
           refine Tops_yes rfl rfl (congrArg (fun b => some (Value.bool b)) hg22) (OpT_pickT rfl rfl rfl (congrArg (fun b => some (Value.bool b)) hg23) rfl) ?_
           rintro _ rfl
           refine Tops_yes rfl rfl (congrArg (fun b => some (Value.bool b)) hg21) (OpT_pickF rfl rfl rfl (congrArg (fun b => some (Value.bool b)) hg22) rfl) ?_
           rintro _ rfl
           refine Tops_step rfl (OpT_pickT rfl rfl rfl (congrArg (fun b => some (Value.bool b)) hg21) rfl) ?_
           refine Tops_step rfl (OpT_assign rfl rfl rfl rfl) ?_
           refine Tops_nil (tZ [6] [] [] rfl rfl rfl rfl ?_)
           obtain ⟨hg24, h⟩ := chk_e h
           exact Tk_retV rfl rfl (resA (vs := [.bool true]) rfl ⟨(congrArg (fun b => some (Value.bool b)) hg24), trivial⟩) [] [] rfl rfl rfl ⟨rfl, rfl, rfl⟩
        ·replace h := br_f hg15 h
         refine Tk_condF (congrArg (fun b => some (Value.bool b)) hg15) ?_
         refine Tk_seq (Tk_seq (Tk_region (Tops_step rfl (OpT_bin rfl rfl rfl rfl rfl (bin_eql_u32 (a := rp0.Type_) (b := (11 : UInt32)))) ?_)))
         refine Tops_step rfl (OpT_assign rfl rfl rfl rfl) ?_
         refine Tops_nil (tZ [3, 9, 11, 12, 65, 105] [0, 1, 2, 3] [0, 1] rfl rfl rfl rfl ?_)
         refine Tk_join (α := Bool) (fun s => ⟨[(3, some (.pointer (some ⟨b1, 0, none⟩))), (9, some (v7)), (11, some (v9)), (12, some (v11)), (105, some (vB s))], [some (cellsR b1 35 [vU32 rp0.Type_, vU64 rp0.Sector, vrp01, vI rp0.Room, vrp02]), some (rowS u8S v7 apply1.1), some (rowS u8S v9 image1.1), some (rowS u8S v11 own2)], [Fact.sl u8S vrp01 rp0.Data, Fact.sl RangeS vrp02 rp0.Ranges]⟩) (fun s => law21zBlkFailsJ1 rp0 apply1 image1 own2 s = some true) ?_ ?_
         ·rintro x1 h
          replace h : law21zBlkFailsJ1 rp0 apply1 image1 own2 x1 = some true := h
          unfold law21zBlkFailsJ1 at h
          rcases Bool.eq_false_or_eq_true (x1) with hg25 | hg25
          ·replace h := br_t hg25 h
           refine Tk_condT (congrArg (fun b => some (Value.bool b)) hg25) ?_
           refine Tk_seq (Tk_seq (Tk_region (Tops_step rfl (OpT_assign rfl rfl rfl rfl) ?_)))
           refine Tops_nil (tZ [3, 9, 11, 12, 14] [0, 1, 2, 3] [0, 1] rfl rfl rfl rfl ?_)
           refine Tk_block (Tk_loopS (σ := UInt32 × UInt64 × (List UInt8) × Int × (List Range) × (List UInt8) × (List UInt8) × (List UInt8) × Int × Value × Value × Value × Value × Value) [3, 9, 11, 12, 14] [0, 1, 2, 3] [0, 1] (fun s => ⟨[(3, some (.pointer (some ⟨b1, 0, none⟩))), (9, some (s.2.2.2.2.2.2.2.2.2.2.2.1)), (11, some (s.2.2.2.2.2.2.2.2.2.2.2.2.1)), (12, some (s.2.2.2.2.2.2.2.2.2.2.2.2.2)), (14, some (vI s.2.2.2.2.2.2.2.2.1))], [some (cellsR b1 35 [vU32 s.1, vU64 s.2.1, s.2.2.2.2.2.2.2.2.2.1, vI s.2.2.2.1, s.2.2.2.2.2.2.2.2.2.2.1]), some (rowS u8S s.2.2.2.2.2.2.2.2.2.2.2.1 s.2.2.2.2.2.1), some (rowS u8S s.2.2.2.2.2.2.2.2.2.2.2.2.1 s.2.2.2.2.2.2.1), some (rowS u8S s.2.2.2.2.2.2.2.2.2.2.2.2.2 s.2.2.2.2.2.2.2.1)], [Fact.sl u8S s.2.2.2.2.2.2.2.2.2.1 s.2.2.1, Fact.sl RangeS s.2.2.2.2.2.2.2.2.2.2.1 s.2.2.2.2.1]⟩) (fun nf2 s => law21zBlkFailsL2 nf2 s.1 s.2.1 s.2.2.1 s.2.2.2.1 s.2.2.2.2.1 s.2.2.2.2.2.1 s.2.2.2.2.2.2.1 s.2.2.2.2.2.2.2.1 s.2.2.2.2.2.2.2.2.1 = some true) fuel (rp0.Type_, rp0.Sector, rp0.Data, rp0.Room, rp0.Ranges, apply1.1, image1.1, own2, (0 : Int), vrp01, vrp02, v7, v9, v11) h rfl rfl rfl rfl rfl (fun s h => by cases h) ?_)
           rintro nf2 ⟨Type1, Sector1, Data1, Room1, Ranges1, l1, l2, l3, i1, v13, v14, v15, v16, v17⟩ h
           replace h : law21zBlkFailsL2B (law21zBlkFailsL2 nf2) Type1 Sector1 Data1 Room1 Ranges1 l1 l2 l3 i1 = some true := h
           unfold law21zBlkFailsL2B at h
           refine Tk_seq (Tk_seq (Tk_region (Tops_step rfl (OpT_move rfl rfl rfl rfl) ?_)))
           refine Tops_step rfl (OpT_fieldC rfl rfl rfl rfl fldF35x4) ?_
           refine Tops_step rfl (OpT_loadC rfl rfl rfl rfl tyF33 (i := 0) rfl rfl) ?_
           refine Tops_step rfl (OpT_lenS rfl rfl rfl rfl Try.underlying33 (i := 1) rfl) ?_
           refine Tops_step rfl (OpT_bin rfl rfl rfl rfl rfl (bin_lss_i (a := i1) (b := len Ranges1))) ?_
           refine Tops_nil (tZ [3, 9, 11, 12, 14, 112] [0, 1, 2, 3] [0, 1] rfl rfl rfl rfl ?_)
           rcases Bool.eq_false_or_eq_true (decide (i1 < (len Ranges1))) with hg26 | hg26
           ·replace h := br_t hg26 h
            refine Tk_condT (congrArg (fun b => some (Value.bool b)) hg26) ?_
            refine Tk_skip (Tk_seq (Tk_block (Tk_seq (Tk_region (Tops_step rfl (OpT_fieldC rfl rfl rfl rfl fldF35x4) ?_)))))
            refine Tops_step rfl (OpT_loadC rfl rfl rfl rfl tyF33 (i := 0) rfl rfl) ?_
            refine Tops_step rfl (OpT_move rfl rfl rfl rfl) ?_
            obtain ⟨r1, hx10, h⟩ := ob_e h
            refine Tops_ex rfl (OpT_idxS rfl rfl rfl rfl rfl slF33 (i := 1) rfl hx10) fun p1 => ?_
            refine Tops_ex rfl (OpT_fieldP (S' := u64S) (y := r1.Sector) rfl rfl rfl rfl fldF32x0 (i := 2) rfl (by intro h cs hr; subst hr; rfl)) fun p2 => ?_
            refine Tops_step rfl (OpT_loadP rfl rfl rfl rfl tyF30 (i := 3) rfl rfl) ?_
            refine Tops_step rfl (OpT_cnv rfl rfl rfl rfl (cnv_u64_i (n := r1.Sector) Try.underlying30 Try.underlying3)) ?_
            refine Tops_step rfl (OpT_bin rfl rfl rfl rfl rfl (bin_mul_i (a := i64 r1.Sector) (b := (512 : Int)))) ?_
            refine Tops_step rfl (OpT_assign rfl rfl rfl rfl) ?_
            refine Tops_nil (tZ [3, 9, 11, 12, 14, 15] [0, 1, 2, 3] [0, 1] rfl rfl rfl rfl ?_)
            refine Tk_seq (Tk_region (Tops_step rfl (OpT_assign rfl rfl rfl rfl) ?_))
            refine Tops_nil (Tk_block (Tk_loopS (σ := UInt32 × UInt64 × (List UInt8) × Int × (List Range) × (List UInt8) × (List UInt8) × (List UInt8) × Int × Value × Value × Value × Value × Value) [3, 9, 11, 12, 14, 15, 16] [0, 1, 2, 3] [0, 1] (fun s => ⟨[(3, some (.pointer (some ⟨b1, 0, none⟩))), (9, some (s.2.2.2.2.2.2.2.2.2.2.2.1)), (11, some (s.2.2.2.2.2.2.2.2.2.2.2.2.1)), (12, some (s.2.2.2.2.2.2.2.2.2.2.2.2.2)), (14, some (vI i1)), (15, some (vI (wi ((i64 r1.Sector) * (512 : Int))))), (16, some (vI s.2.2.2.2.2.2.2.2.1))], [some (cellsR b1 35 [vU32 s.1, vU64 s.2.1, s.2.2.2.2.2.2.2.2.2.1, vI s.2.2.2.1, s.2.2.2.2.2.2.2.2.2.2.1]), some (rowS u8S s.2.2.2.2.2.2.2.2.2.2.2.1 s.2.2.2.2.2.1), some (rowS u8S s.2.2.2.2.2.2.2.2.2.2.2.2.1 s.2.2.2.2.2.2.1), some (rowS u8S s.2.2.2.2.2.2.2.2.2.2.2.2.2 s.2.2.2.2.2.2.2.1)], [Fact.sl u8S s.2.2.2.2.2.2.2.2.2.1 s.2.2.1, Fact.sl RangeS s.2.2.2.2.2.2.2.2.2.2.1 s.2.2.2.2.1]⟩) (fun nf3 s => law21zBlkFailsL3 i1 (law21zBlkFailsL2 nf2) r1 nf3 s.1 s.2.1 s.2.2.1 s.2.2.2.1 s.2.2.2.2.1 s.2.2.2.2.2.1 s.2.2.2.2.2.2.1 s.2.2.2.2.2.2.2.1 s.2.2.2.2.2.2.2.2.1 = some true) fuel (Type1, Sector1, Data1, Room1, Ranges1, l1, l2, l3, (0 : Int), v13, v14, v15, v16, v17) h rfl rfl rfl rfl rfl (fun s h => by cases h) ?_))
            rintro nf3 ⟨Type2, Sector2, Data2, Room2, Ranges2, l4, l5, l6, k1, v18, v19, v20, v21, v22⟩ h
            replace h : law21zBlkFailsL3B i1 (law21zBlkFailsL2 nf2) r1 (law21zBlkFailsL3 i1 (law21zBlkFailsL2 nf2) r1 nf3) Type2 Sector2 Data2 Room2 Ranges2 l4 l5 l6 k1 = some true := h
            unfold law21zBlkFailsL3B at h
            refine Tk_seq (Tk_seq (Tk_region (Tops_step rfl (OpT_move rfl rfl rfl rfl) ?_)))
            refine Tops_step rfl (OpT_fieldC rfl rfl rfl rfl fldF35x4) ?_
            refine Tops_step rfl (OpT_loadC rfl rfl rfl rfl tyF33 (i := 0) rfl rfl) ?_
            refine Tops_step rfl (OpT_move rfl rfl rfl rfl) ?_
            obtain ⟨r2, hx11, h⟩ := ob_e h
            refine Tops_ex rfl (OpT_idxS rfl rfl rfl rfl rfl slF33 (i := 1) rfl hx11) fun p3 => ?_
            refine Tops_ex rfl (OpT_fieldP (S' := u32S) (y := r2.Count) rfl rfl rfl rfl fldF32x1 (i := 2) rfl (by intro h cs hr; subst hr; rfl)) fun p4 => ?_
            refine Tops_step rfl (OpT_loadP rfl rfl rfl rfl tyF29 (i := 3) rfl rfl) ?_
            refine Tops_step rfl (OpT_cnv rfl rfl rfl rfl (cnv_u32_i (n := r2.Count) Try.underlying29 Try.underlying3)) ?_
            refine Tops_step rfl (OpT_bin rfl rfl rfl rfl rfl (bin_mul_i (a := i32 r2.Count) (b := (512 : Int)))) ?_
            refine Tops_step rfl (OpT_bin rfl rfl rfl rfl rfl (bin_lss_i (a := k1) (b := wi ((i32 r2.Count) * (512 : Int))))) ?_
            refine Tops_nil (tZ [3, 9, 11, 12, 14, 15, 16, 132] [0, 1, 2, 3] [0, 1] rfl rfl rfl rfl ?_)
            rcases Bool.eq_false_or_eq_true (decide (k1 < (wi ((i32 r2.Count) * (512 : Int))))) with hg27 | hg27
            ·replace h := br_t hg27 h
             refine Tk_condT (congrArg (fun b => some (Value.bool b)) hg27) ?_
             refine Tk_skip (Tk_seq (Tk_block (Tk_region (Tops_step rfl (OpT_move rfl rfl rfl rfl) ?_))))
             refine Tops_step rfl (OpT_move rfl rfl rfl rfl) ?_
             refine Tops_step rfl (OpT_move rfl rfl rfl rfl) ?_
             refine Tops_step rfl (OpT_bin rfl rfl rfl rfl rfl (bin_add_i (a := wi ((i64 r1.Sector) * (512 : Int))) (b := k1))) ?_
             obtain ⟨y1, hx12, h⟩ := ob_e h
             refine Tops_step rfl (OpT_idxO rfl rfl rfl rfl rfl slF26 (i := 3) rfl hx12) ?_
             refine Tops_step rfl (OpT_storeO (S := u8S) (u := (0 : UInt8)) rfl rfl rfl rfl rfl tyF5 (i := 3) rfl hx12 rfl) ?_
             refine Tops_nil (tZ [3, 9, 11, 12, 14, 15, 16] [0, 1, 2, 3] [0, 1] rfl rfl rfl rfl ?_)
             refine Tk_blk (Tk_region (Tops_step rfl (OpT_move rfl rfl rfl rfl) ?_))
             refine Tops_step rfl (OpT_bin rfl rfl rfl rfl rfl (bin_add_i (a := k1) (b := (1 : Int)))) ?_
             refine Tops_step rfl (OpT_assign rfl rfl rfl rfl) ?_
             refine Tops_nil (tZ [3, 9, 11, 12, 14, 15, 16] [0, 1, 2, 3] [0, 1] rfl rfl rfl rfl ?_)
             exact Tk_backS (Type2, Sector2, Data2, Room2, Ranges2, l4, l5, l6.set (wi ((wi ((i64 r1.Sector) * (512 : Int))) + k1)).toNat (0 : UInt8), wi (k1 + (1 : Int)), v18, v19, v20, v21, v22) h [3, 9, 11, 12, 14, 15, 16] [0, 1, 2, 3] [0, 1] rfl rfl rfl rfl rfl
            ·replace h := br_f hg27 h
             refine Tk_condF (congrArg (fun b => some (Value.bool b)) hg27) ?_
             refine Tk_exit _ rfl ?_
             refine Tk_blk (Tk_region (Tops_step rfl (OpT_move rfl rfl rfl rfl) ?_))
             refine Tops_step rfl (OpT_bin rfl rfl rfl rfl rfl (bin_add_i (a := i1) (b := (1 : Int)))) ?_
             refine Tops_step rfl (OpT_assign rfl rfl rfl rfl) ?_
             refine Tops_nil (tZ [3, 9, 11, 12, 14] [0, 1, 2, 3] [0, 1] rfl rfl rfl rfl ?_)
             exact Tk_backS (Type2, Sector2, Data2, Room2, Ranges2, l4, l5, l6, wi (i1 + (1 : Int)), v18, v19, v20, v21, v22) h [3, 9, 11, 12, 14] [0, 1, 2, 3] [0, 1] rfl rfl rfl rfl rfl
           ·replace h := br_f hg26 h
            refine Tk_condF (congrArg (fun b => some (Value.bool b)) hg26) ?_
            refine Tk_exit _ rfl ?_
            refine Tk_seq (Tk_region (Tops_step rfl (OpT_fieldC rfl rfl rfl rfl fldF35x4) ?_))
            refine Tops_step rfl (OpT_loadC rfl rfl rfl rfl tyF33 (i := 0) rfl rfl) ?_
            refine Tops_step rfl (OpT_lenS rfl rfl rfl rfl Try.underlying33 (i := 1) rfl) ?_
            refine Tops_step rfl (OpT_bin rfl rfl rfl rfl rfl (bin_eql_i (a := len Ranges1) (b := (0 : Int)))) ?_
            refine Tops_nil (tZ [3, 9, 11, 12, 143] [0, 1, 2, 3] [0, 1] rfl rfl rfl rfl ?_)
            rcases Bool.eq_false_or_eq_true ((len Ranges1) == (0 : Int)) with hg28 | hg28
            ·replace h := br_t hg28 h
             refine Tk_condT (congrArg (fun b => some (Value.bool b)) hg28) ?_
             refine Tk_region (Tops_step rfl (OpT_move rfl rfl rfl rfl) ?_)
             refine Tops_step rfl (OpT_assign rfl rfl rfl rfl) ?_
             refine Tops_nil (tZ [3, 9, 11, 12] [0, 1, 2] [0, 1] rfl rfl rfl rfl ?_)
             refine Tk_blk (Tk_seq (Tk_region (Tops_step rfl (OpT_move rfl rfl rfl rfl) ?_)))
             refine Tops_retire (i := 2) rfl ?_
             refine Tops_step rfl (OpT_strS rfl rfl rfl rfl Try.underlying26 Try.underlying5 Try.underlying9 (i := 2) rfl) ?_
             refine Tops_step rfl (OpT_move rfl rfl rfl rfl) ?_
             refine Tops_step rfl (OpT_strS rfl rfl rfl rfl Try.underlying26 Try.underlying5 Try.underlying9 (i := 2) rfl) ?_
             refine Tops_step rfl (OpT_bin rfl rfl rfl rfl rfl (bin_eql_s (a := l2) (b := l2))) ?_
             refine Tops_step rfl (OpT_move rfl rfl rfl rfl) ?_
             obtain ⟨hg29, h⟩ := chk_e h
             refine Tops_yes rfl rfl (congrArg (fun b => some (Value.bool b)) hg29) (OpT_move rfl rfl rfl rfl) ?_
             rintro _ rfl
             refine Tops_yes rfl rfl (congrArg (fun b => some (Value.bool b)) hg29) (OpT_lenO rfl rfl rfl rfl Try.underlying26 (i := 1) rfl) ?_
             rintro _ rfl
             refine Tops_yes rfl rfl (congrArg (fun b => some (Value.bool b)) hg29) (OpT_bin rfl rfl rfl rfl rfl (bin_eql_i (a := len l1) (b := (0 : Int)))) ?_
             rintro _ rfl
             refine Tops_yes rfl rfl (congrArg (fun b => some (Value.bool b)) hg29) (OpT_move rfl rfl rfl rfl) ?_
             rintro _ rfl
             rcases Bool.eq_false_or_eq_true ((len l1) == (0 : Int)) with hg30 | hg30
             ·replace h := br_t hg30 h
              refine Tops_no rfl rfl (congrArg (fun b => some (Value.bool b)) hg30) rfl rfl ?_
              refine Tops_no rfl rfl (congrArg (fun b => some (Value.bool b)) hg30) rfl rfl ?_
              refine Tops_no rfl rfl (congrArg (fun b => some (Value.bool b)) hg30) rfl rfl ?_
              refine Tops_no rfl rfl (congrArg (fun b => some (Value.bool b)) hg30) rfl rfl ?_
              refine Tops_noU rfl rfl rfl rfl rfl ?_
              refine Tops_noU rfl rfl rfl rfl rfl ?_
              refine Tops_noU rfl rfl rfl rfl rfl ?_
              refine Tops_no rfl rfl (congrArg (fun b => some (Value.bool b)) hg30) rfl rfl ?_
              refine Tops_yes rfl rfl (congrArg (fun b => some (Value.bool b)) hg29) (OpT_pickT rfl rfl rfl (congrArg (fun b => some (Value.bool b)) hg30) rfl) ?_
              rintro _ rfl
              refine Tops_step rfl (OpT_pickT rfl rfl rfl (congrArg (fun b => some (Value.bool b)) hg29) rfl) ?_
              refine Tops_step rfl (OpT_assign rfl rfl rfl rfl) ?_
              refine Tops_nil (tZ [6] [] [] rfl rfl rfl rfl ?_)
              exact Tk_retV rfl rfl (resA (vs := [.bool true]) rfl ⟨rfl, trivial⟩) [] [] rfl rfl rfl ⟨rfl, rfl, rfl⟩
             ·replace h := br_f hg30 h
              refine Tops_yes rfl rfl (congrArg (fun b => some (Value.bool b)) hg30) (OpT_fieldC rfl rfl rfl rfl fldF35x0) ?_
              rintro _ rfl
              refine Tops_yes rfl rfl (congrArg (fun b => some (Value.bool b)) hg30) (OpT_loadC rfl rfl rfl rfl tyF29 (i := 0) rfl rfl) ?_
              rintro _ rfl
              refine Tops_yes rfl rfl (congrArg (fun b => some (Value.bool b)) hg30) (OpT_bin rfl rfl rfl rfl rfl (bin_eql_u32 (a := Type1) (b := (8 : UInt32)))) ?_
              rintro _ rfl
              refine Tops_yes rfl rfl (congrArg (fun b => some (Value.bool b)) hg30) (OpT_move rfl rfl rfl rfl) ?_
              rintro _ rfl
              obtain ⟨hg31, h⟩ := chk_e h
              refine Tops_yes rfl rfl (congrArg (fun b => some (Value.bool b)) hg31) (OpT_move rfl rfl rfl rfl) ?_
              rintro _ rfl
              refine Tops_yes rfl rfl (congrArg (fun b => some (Value.bool b)) hg31) (OpT_lenO rfl rfl rfl rfl Try.underlying26 (i := 1) rfl) ?_
              rintro _ rfl
              refine Tops_yes rfl rfl (congrArg (fun b => some (Value.bool b)) hg31) (OpT_bin rfl rfl rfl rfl rfl (bin_eql_i (a := len l1) (b := (20 : Int)))) ?_
              rintro _ rfl
              refine Tops_yes rfl rfl (congrArg (fun b => some (Value.bool b)) hg30) (OpT_pickT rfl rfl rfl (congrArg (fun b => some (Value.bool b)) hg31) rfl) ?_
              rintro _ rfl
              refine Tops_yes rfl rfl (congrArg (fun b => some (Value.bool b)) hg29) (OpT_pickF rfl rfl rfl (congrArg (fun b => some (Value.bool b)) hg30) rfl) ?_
              rintro _ rfl
              refine Tops_step rfl (OpT_pickT rfl rfl rfl (congrArg (fun b => some (Value.bool b)) hg29) rfl) ?_
              refine Tops_step rfl (OpT_assign rfl rfl rfl rfl) ?_
              refine Tops_nil (tZ [6] [] [] rfl rfl rfl rfl ?_)
              obtain ⟨hg32, h⟩ := chk_e h
              exact Tk_retV rfl rfl (resA (vs := [.bool true]) rfl ⟨(congrArg (fun b => some (Value.bool b)) hg32), trivial⟩) [] [] rfl rfl rfl ⟨rfl, rfl, rfl⟩
            ·replace h := br_f hg28 h
             refine Tk_condF (congrArg (fun b => some (Value.bool b)) hg28) ?_
             refine Tk_skip (Tk_blk (Tk_seq (Tk_region (Tops_step rfl (OpT_move rfl rfl rfl rfl) ?_))))
             refine Tops_retire (i := 2) rfl ?_
             refine Tops_step rfl (OpT_strS rfl rfl rfl rfl Try.underlying26 Try.underlying5 Try.underlying9 (i := 2) rfl) ?_
             refine Tops_step rfl (OpT_move rfl rfl rfl rfl) ?_
             refine Tops_retire (i := 3) rfl ?_
             refine Tops_step rfl (OpT_strS rfl rfl rfl rfl Try.underlying26 Try.underlying5 Try.underlying9 (i := 3) rfl) ?_
             refine Tops_step rfl (OpT_bin rfl rfl rfl rfl rfl (bin_eql_s (a := l2) (b := l3))) ?_
             refine Tops_step rfl (OpT_move rfl rfl rfl rfl) ?_
             obtain ⟨hg33, h⟩ := chk_e h
             refine Tops_yes rfl rfl (congrArg (fun b => some (Value.bool b)) hg33) (OpT_move rfl rfl rfl rfl) ?_
             rintro _ rfl
             refine Tops_yes rfl rfl (congrArg (fun b => some (Value.bool b)) hg33) (OpT_lenO rfl rfl rfl rfl Try.underlying26 (i := 1) rfl) ?_
             rintro _ rfl
             refine Tops_yes rfl rfl (congrArg (fun b => some (Value.bool b)) hg33) (OpT_bin rfl rfl rfl rfl rfl (bin_eql_i (a := len l1) (b := (0 : Int)))) ?_
             rintro _ rfl
             refine Tops_yes rfl rfl (congrArg (fun b => some (Value.bool b)) hg33) (OpT_move rfl rfl rfl rfl) ?_
             rintro _ rfl
             rcases Bool.eq_false_or_eq_true ((len l1) == (0 : Int)) with hg34 | hg34
             ·replace h := br_t hg34 h
              refine Tops_no rfl rfl (congrArg (fun b => some (Value.bool b)) hg34) rfl rfl ?_
              refine Tops_no rfl rfl (congrArg (fun b => some (Value.bool b)) hg34) rfl rfl ?_
              refine Tops_no rfl rfl (congrArg (fun b => some (Value.bool b)) hg34) rfl rfl ?_
              refine Tops_no rfl rfl (congrArg (fun b => some (Value.bool b)) hg34) rfl rfl ?_
              refine Tops_noU rfl rfl rfl rfl rfl ?_
              refine Tops_noU rfl rfl rfl rfl rfl ?_
              refine Tops_noU rfl rfl rfl rfl rfl ?_
              refine Tops_no rfl rfl (congrArg (fun b => some (Value.bool b)) hg34) rfl rfl ?_
              refine Tops_yes rfl rfl (congrArg (fun b => some (Value.bool b)) hg33) (OpT_pickT rfl rfl rfl (congrArg (fun b => some (Value.bool b)) hg34) rfl) ?_
              rintro _ rfl
              refine Tops_step rfl (OpT_pickT rfl rfl rfl (congrArg (fun b => some (Value.bool b)) hg33) rfl) ?_
              refine Tops_step rfl (OpT_assign rfl rfl rfl rfl) ?_
              refine Tops_nil (tZ [6] [] [] rfl rfl rfl rfl ?_)
              exact Tk_retV rfl rfl (resA (vs := [.bool true]) rfl ⟨rfl, trivial⟩) [] [] rfl rfl rfl ⟨rfl, rfl, rfl⟩
             ·replace h := br_f hg34 h
              refine Tops_yes rfl rfl (congrArg (fun b => some (Value.bool b)) hg34) (OpT_fieldC rfl rfl rfl rfl fldF35x0) ?_
              rintro _ rfl
              refine Tops_yes rfl rfl (congrArg (fun b => some (Value.bool b)) hg34) (OpT_loadC rfl rfl rfl rfl tyF29 (i := 0) rfl rfl) ?_
              rintro _ rfl
              refine Tops_yes rfl rfl (congrArg (fun b => some (Value.bool b)) hg34) (OpT_bin rfl rfl rfl rfl rfl (bin_eql_u32 (a := Type1) (b := (8 : UInt32)))) ?_
              rintro _ rfl
              refine Tops_yes rfl rfl (congrArg (fun b => some (Value.bool b)) hg34) (OpT_move rfl rfl rfl rfl) ?_
              rintro _ rfl
              obtain ⟨hg35, h⟩ := chk_e h
              refine Tops_yes rfl rfl (congrArg (fun b => some (Value.bool b)) hg35) (OpT_move rfl rfl rfl rfl) ?_
              rintro _ rfl
              refine Tops_yes rfl rfl (congrArg (fun b => some (Value.bool b)) hg35) (OpT_lenO rfl rfl rfl rfl Try.underlying26 (i := 1) rfl) ?_
              rintro _ rfl
              refine Tops_yes rfl rfl (congrArg (fun b => some (Value.bool b)) hg35) (OpT_bin rfl rfl rfl rfl rfl (bin_eql_i (a := len l1) (b := (20 : Int)))) ?_
              rintro _ rfl
              refine Tops_yes rfl rfl (congrArg (fun b => some (Value.bool b)) hg34) (OpT_pickT rfl rfl rfl (congrArg (fun b => some (Value.bool b)) hg35) rfl) ?_
              rintro _ rfl
              refine Tops_yes rfl rfl (congrArg (fun b => some (Value.bool b)) hg33) (OpT_pickF rfl rfl rfl (congrArg (fun b => some (Value.bool b)) hg34) rfl) ?_
              rintro _ rfl
              refine Tops_step rfl (OpT_pickT rfl rfl rfl (congrArg (fun b => some (Value.bool b)) hg33) rfl) ?_
              refine Tops_step rfl (OpT_assign rfl rfl rfl rfl) ?_
              refine Tops_nil (tZ [6] [] [] rfl rfl rfl rfl ?_)
              obtain ⟨hg36, h⟩ := chk_e h
              exact Tk_retV rfl rfl (resA (vs := [.bool true]) rfl ⟨(congrArg (fun b => some (Value.bool b)) hg36), trivial⟩) [] [] rfl rfl rfl ⟨rfl, rfl, rfl⟩
          ·replace h := br_f hg25 h
           refine Tk_condF (congrArg (fun b => some (Value.bool b)) hg25) ?_
           refine Tk_skip (Tk_blk (Tk_seq (Tk_region (Tops_step rfl (OpT_move rfl rfl rfl rfl) ?_))))
           refine Tops_retire (i := 2) rfl ?_
           refine Tops_step rfl (OpT_strS rfl rfl rfl rfl Try.underlying26 Try.underlying5 Try.underlying9 (i := 2) rfl) ?_
           refine Tops_step rfl (OpT_move rfl rfl rfl rfl) ?_
           refine Tops_retire (i := 3) rfl ?_
           refine Tops_step rfl (OpT_strS rfl rfl rfl rfl Try.underlying26 Try.underlying5 Try.underlying9 (i := 3) rfl) ?_
           refine Tops_step rfl (OpT_bin rfl rfl rfl rfl rfl (bin_eql_s (a := image1.1) (b := own2))) ?_
           refine Tops_step rfl (OpT_move rfl rfl rfl rfl) ?_
           obtain ⟨hg37, h⟩ := chk_e h
           refine Tops_yes rfl rfl (congrArg (fun b => some (Value.bool b)) hg37) (OpT_move rfl rfl rfl rfl) ?_
           rintro _ rfl
           refine Tops_yes rfl rfl (congrArg (fun b => some (Value.bool b)) hg37) (OpT_lenO rfl rfl rfl rfl Try.underlying26 (i := 1) rfl) ?_
           rintro _ rfl
           refine Tops_yes rfl rfl (congrArg (fun b => some (Value.bool b)) hg37) (OpT_bin rfl rfl rfl rfl rfl (bin_eql_i (a := len apply1.1) (b := (0 : Int)))) ?_
           rintro _ rfl
           refine Tops_yes rfl rfl (congrArg (fun b => some (Value.bool b)) hg37) (OpT_move rfl rfl rfl rfl) ?_
           rintro _ rfl
           rcases Bool.eq_false_or_eq_true ((len apply1.1) == (0 : Int)) with hg38 | hg38
           ·replace h := br_t hg38 h
            refine Tops_no rfl rfl (congrArg (fun b => some (Value.bool b)) hg38) rfl rfl ?_
            refine Tops_no rfl rfl (congrArg (fun b => some (Value.bool b)) hg38) rfl rfl ?_
            refine Tops_no rfl rfl (congrArg (fun b => some (Value.bool b)) hg38) rfl rfl ?_
            refine Tops_no rfl rfl (congrArg (fun b => some (Value.bool b)) hg38) rfl rfl ?_
            refine Tops_noU rfl rfl rfl rfl rfl ?_
            refine Tops_noU rfl rfl rfl rfl rfl ?_
            refine Tops_noU rfl rfl rfl rfl rfl ?_
            refine Tops_no rfl rfl (congrArg (fun b => some (Value.bool b)) hg38) rfl rfl ?_
            refine Tops_yes rfl rfl (congrArg (fun b => some (Value.bool b)) hg37) (OpT_pickT rfl rfl rfl (congrArg (fun b => some (Value.bool b)) hg38) rfl) ?_
            rintro _ rfl
            refine Tops_step rfl (OpT_pickT rfl rfl rfl (congrArg (fun b => some (Value.bool b)) hg37) rfl) ?_
            refine Tops_step rfl (OpT_assign rfl rfl rfl rfl) ?_
            refine Tops_nil (tZ [6] [] [] rfl rfl rfl rfl ?_)
            exact Tk_retV rfl rfl (resA (vs := [.bool true]) rfl ⟨rfl, trivial⟩) [] [] rfl rfl rfl ⟨rfl, rfl, rfl⟩
           ·replace h := br_f hg38 h
            refine Tops_yes rfl rfl (congrArg (fun b => some (Value.bool b)) hg38) (OpT_fieldC rfl rfl rfl rfl fldF35x0) ?_
            rintro _ rfl
            refine Tops_yes rfl rfl (congrArg (fun b => some (Value.bool b)) hg38) (OpT_loadC rfl rfl rfl rfl tyF29 (i := 0) rfl rfl) ?_
            rintro _ rfl
            refine Tops_yes rfl rfl (congrArg (fun b => some (Value.bool b)) hg38) (OpT_bin rfl rfl rfl rfl rfl (bin_eql_u32 (a := rp0.Type_) (b := (8 : UInt32)))) ?_
            rintro _ rfl
            refine Tops_yes rfl rfl (congrArg (fun b => some (Value.bool b)) hg38) (OpT_move rfl rfl rfl rfl) ?_
            rintro _ rfl
            obtain ⟨hg39, h⟩ := chk_e h
            refine Tops_yes rfl rfl (congrArg (fun b => some (Value.bool b)) hg39) (OpT_move rfl rfl rfl rfl) ?_
            rintro _ rfl
            refine Tops_yes rfl rfl (congrArg (fun b => some (Value.bool b)) hg39) (OpT_lenO rfl rfl rfl rfl Try.underlying26 (i := 1) rfl) ?_
            rintro _ rfl
            refine Tops_yes rfl rfl (congrArg (fun b => some (Value.bool b)) hg39) (OpT_bin rfl rfl rfl rfl rfl (bin_eql_i (a := len apply1.1) (b := (20 : Int)))) ?_
            rintro _ rfl
            refine Tops_yes rfl rfl (congrArg (fun b => some (Value.bool b)) hg38) (OpT_pickT rfl rfl rfl (congrArg (fun b => some (Value.bool b)) hg39) rfl) ?_
            rintro _ rfl
            refine Tops_yes rfl rfl (congrArg (fun b => some (Value.bool b)) hg37) (OpT_pickF rfl rfl rfl (congrArg (fun b => some (Value.bool b)) hg38) rfl) ?_
            rintro _ rfl
            refine Tops_step rfl (OpT_pickT rfl rfl rfl (congrArg (fun b => some (Value.bool b)) hg37) rfl) ?_
            refine Tops_step rfl (OpT_assign rfl rfl rfl rfl) ?_
            refine Tops_nil (tZ [6] [] [] rfl rfl rfl rfl ?_)
            obtain ⟨hg40, h⟩ := chk_e h
            exact Tk_retV rfl rfl (resA (vs := [.bool true]) rfl ⟨(congrArg (fun b => some (Value.bool b)) hg40), trivial⟩) [] [] rfl rfl rfl ⟨rfl, rfl, rfl⟩
         ·intro HJ1
          rcases Bool.eq_false_or_eq_true (rp0.Type_ == (11 : UInt32)) with hg41 | hg41
          ·replace h := br_t hg41 h
           refine Tk_condT (congrArg (fun b => some (Value.bool b)) hg41) ?_
           refine Tk_skip ?_
           exact Tk_jmpS (HJ1 (rp0.Type_ == (11 : UInt32)) h) [3, 9, 11, 12, 105] [0, 1, 2, 3] [0, 1] rfl rfl rfl rfl
          ·replace h := br_f hg41 h
           refine Tk_condF (congrArg (fun b => some (Value.bool b)) hg41) ?_
           refine Tk_region (Tops_step rfl (OpT_bin rfl rfl rfl rfl rfl (bin_eql_u32 (a := rp0.Type_) (b := (13 : UInt32)))) ?_)
           refine Tops_step rfl (OpT_assign rfl rfl rfl rfl) ?_
           refine Tops_nil (tZ [3, 9, 11, 12, 105] [0, 1, 2, 3] [0, 1] rfl rfl rfl rfl ?_)
           exact Tk_jmpS (HJ1 (rp0.Type_ == (13 : UInt32)) h) [3, 9, 11, 12, 105] [0, 1, 2, 3] [0, 1] rfl rfl rfl rfl
end Go.Proofs.Ytjfdamiilndgeaa
