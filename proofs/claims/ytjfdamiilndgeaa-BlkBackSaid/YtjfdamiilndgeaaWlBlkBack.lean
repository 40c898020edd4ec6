/- The law BlkBack is walked: it returns what its plain words say. No condition. -/
import Derived.Test.YtjfdamiilndgeaaWa4
namespace Go.Proofs.Ytjfdamiilndgeaa
attribute [local irreducible] sub

set_option maxRecDepth 100000 in
set_option maxHeartbeats 4000000 in
theorem w_law21zBlkBack {rp0 : Req} {op1 : Req} {vrp01 : Value} {vrp02 : Value} {vop11 : Value} {vop12 : Value}  (h : law21zBlkBack rp0 op1 = some true) :
  Ctr Try.prog 4 #[.agg #[vU32 rp0.Type_, vU64 rp0.Sector, vrp01, vI rp0.Room, vrp02], .agg #[vU32 op1.Type_, vU64 op1.Sector, vop11, vI op1.Room, vop12]] [] [Fact.sl u8S vrp01 rp0.Data, Fact.sl RangeS vrp02 rp0.Ranges, Fact.sl u8S vop11 op1.Data, Fact.sl RangeS vop12 op1.Ranges]
   (fun rv own shr => rv = .bool true ∧ own = [] ∧ shr = []) := by
 unfold law21zBlkBack at h
 refine Ctr.mk (args := [.agg #[vU32 rp0.Type_, vU64 rp0.Sector, vrp01, vI rp0.Room, vrp02], .agg #[vU32 op1.Type_, vU64 op1.Sector, vop11, vI op1.Room, vop12]]) Try.func4 rfl rfl (fun R0 w0 B => ?_)
 refine Tk_seq (Tk_region (Tops_ex rfl (OpT_box rfl rfl rfl rfl) fun b1 => ?_))
 refine Tops_ex rfl (OpT_box rfl rfl rfl rfl) fun b2 => ?_
 refine Tops_step rfl (OpT_assign rfl rfl rfl rfl) ?_
 refine Tops_nil (tZ [2, 3] [0, 1] [0, 1, 2, 3] rfl rfl rfl rfl ?_)
 refine Tk_seq (Tk_seq (Tk_region ?_))
 obtain ⟨lives1, hx1, h⟩ := ob_e h
 refine Tops_exP rfl (OpT_call (w_law21zlives hx1) [] [] rfl rfl rfl rfl rfl callee11 rfl rfl rfl rfl) ?_
 rintro _ ⟨_, _, _, ⟨rfl, rfl, rfl⟩, rfl⟩
 refine Tops_step rfl (OpT_not rfl rfl rfl rfl) ?_
 refine Tops_nil (tZ [2, 3, 13] [0, 1] [0, 1, 2, 3] rfl rfl rfl rfl ?_)
 obtain ⟨hg1, h⟩ := chk_e h
 replace hg1 := not_t hg1
 refine Tk_condF (congrArg (fun b => some (Value.bool b)) hg1) ?_
 refine Tk_skip (Tk_seq (Tk_seq (Tk_region (Tops_step rfl (OpT_loadCA (vs := [vU32 rp0.Type_, vU64 rp0.Sector, vrp01, vI rp0.Room, vrp02]) rfl rfl rfl rfl tyF35 (i := 0) rfl rfl rfl) ?_))))
 obtain ⟨lightr1, hx2, h⟩ := ob_e h
 refine Tops_exP rfl (OpT_call (w_kit_LightReq hx2) [] [0, 1] rfl rfl rfl rfl rfl callee12 rfl rfl rfl rfl) ?_
 rintro _ ⟨_, _, _, ⟨rfl, rfl, rfl⟩, rfl⟩
 refine Tops_step rfl (OpT_not rfl rfl rfl rfl) ?_
 refine Tops_step rfl (OpT_move rfl rfl rfl rfl) ?_
 rcases Bool.eq_false_or_eq_true ((!lightr1)) with hg2 | hg2
 ·replace h := br_t hg2 h
  refine Tops_no rfl rfl (congrArg (fun b => some (Value.bool b)) hg2) rfl rfl ?_
  refine Tops_no rfl rfl (congrArg (fun b => some (Value.bool b)) hg2) rfl rfl ?_
  refine Tops_no rfl rfl (congrArg (fun b => some (Value.bool b)) hg2) rfl rfl ?_
  refine Tops_step rfl (OpT_pickT rfl rfl rfl (congrArg (fun b => some (Value.bool b)) hg2) rfl) ?_
  refine Tops_step rfl (OpT_move rfl rfl rfl rfl) ?_
  refine Tops_no rfl rfl rfl rfl rfl ?_
  refine Tops_no rfl rfl rfl rfl rfl ?_
  refine Tops_no rfl rfl rfl rfl rfl ?_
  refine Tops_step rfl (OpT_pickT rfl rfl rfl rfl rfl) ?_
  refine Tops_step rfl (OpT_move rfl rfl rfl rfl) ?_
  refine Tops_no rfl rfl rfl rfl rfl ?_
  refine Tops_no rfl rfl rfl rfl rfl ?_
  refine Tops_no rfl rfl rfl rfl rfl ?_
  refine Tops_step rfl (OpT_pickT rfl rfl rfl rfl rfl) ?_
  refine Tops_nil (tZ [2, 3, 31] [0, 1] [0, 1, 2, 3] rfl rfl rfl rfl ?_)
  refine Tk_condT rfl ?_
  refine Tk_seq (Tk_region (Tops_step rfl (OpT_assign rfl rfl rfl rfl) ?_))
  refine Tops_nil (tZ [4] [] [] rfl rfl rfl rfl ?_)
  exact Tk_retV rfl rfl (resA (vs := [.bool true]) rfl ⟨rfl, trivial⟩) [] [] rfl rfl rfl ⟨rfl, rfl, rfl⟩
 ·replace h := br_f hg2 h
  refine Tops_yes rfl rfl (congrArg (fun b => some (Value.bool b)) hg2) (OpT_loadCA (vs := [vU32 op1.Type_, vU64 op1.Sector, vop11, vI op1.Room, vop12]) rfl rfl rfl rfl tyF35 (i := 1) rfl rfl rfl) ?_
  rintro _ rfl
  obtain ⟨lightr2, hx3, h⟩ := ob_e h
  refine Tops_yes rfl rfl (congrArg (fun b => some (Value.bool b)) hg2) (OpT_call (w_kit_LightReq hx3) [] [2, 3] rfl rfl rfl rfl rfl callee12 rfl rfl rfl rfl) ?_
  rintro _ ⟨_, _, _, ⟨rfl, rfl, rfl⟩, rfl⟩
  refine Tops_yes rfl rfl (congrArg (fun b => some (Value.bool b)) hg2) (OpT_not rfl rfl rfl rfl) ?_
  rintro _ rfl
  refine Tops_step rfl (OpT_pickF rfl rfl rfl (congrArg (fun b => some (Value.bool b)) hg2) rfl) ?_
  refine Tops_step rfl (OpT_move rfl rfl rfl rfl) ?_
  rcases Bool.eq_false_or_eq_true ((!lightr2)) with hg3 | hg3
  ·replace h := br_t hg3 h
   refine Tops_no rfl rfl (congrArg (fun b => some (Value.bool b)) hg3) rfl rfl ?_
   refine Tops_no rfl rfl (congrArg (fun b => some (Value.bool b)) hg3) rfl rfl ?_
   refine Tops_no rfl rfl (congrArg (fun b => some (Value.bool b)) hg3) rfl rfl ?_
   refine Tops_step rfl (OpT_pickT rfl rfl rfl (congrArg (fun b => some (Value.bool b)) hg3) rfl) ?_
   refine Tops_step rfl (OpT_move rfl rfl rfl rfl) ?_
   refine Tops_no rfl rfl rfl rfl rfl ?_
   refine Tops_no rfl rfl rfl rfl rfl ?_
   refine Tops_no rfl rfl rfl rfl rfl ?_
   refine Tops_step rfl (OpT_pickT rfl rfl rfl rfl rfl) ?_
   refine Tops_nil (tZ [2, 3, 31] [0, 1] [0, 1, 2, 3] rfl rfl rfl rfl ?_)
   refine Tk_condT rfl ?_
   refine Tk_seq (Tk_region (Tops_step rfl (OpT_assign rfl rfl rfl rfl) ?_))
   refine Tops_nil (tZ [4] [] [] rfl rfl rfl rfl ?_)
   exact Tk_retV rfl rfl (resA (vs := [.bool true]) rfl ⟨rfl, trivial⟩) [] [] rfl rfl rfl ⟨rfl, rfl, rfl⟩
  ·replace h := br_f hg3 h
   refine Tops_yes rfl rfl (congrArg (fun b => some (Value.bool b)) hg3) (OpT_loadCA (vs := [vU32 rp0.Type_, vU64 rp0.Sector, vrp01, vI rp0.Room, vrp02]) rfl rfl rfl rfl tyF35 (i := 0) rfl rfl rfl) ?_
   rintro _ rfl
   obtain ⟨check1, hx4, h⟩ := ob_e h
   refine Tops_yes rfl rfl (congrArg (fun b => some (Value.bool b)) hg3) (OpT_call (w_blk_Check hx4) [] [0, 1] rfl rfl rfl rfl rfl callee13 rfl rfl rfl rfl) ?_
   rintro _ ⟨_, _, _, ⟨rfl, rfl, rfl⟩, rfl⟩
   refine Tops_yes rfl rfl (congrArg (fun b => some (Value.bool b)) hg3) (OpT_bin rfl rfl rfl rfl rfl (bin_neq_i (a := check1) (b := (0 : Int)))) ?_
   rintro _ rfl
   refine Tops_step rfl (OpT_pickF rfl rfl rfl (congrArg (fun b => some (Value.bool b)) hg3) rfl) ?_
   refine Tops_step rfl (OpT_move rfl rfl rfl rfl) ?_
   rcases Bool.eq_false_or_eq_true (check1 != (0 : Int)) with hg4 | hg4
   ·replace h := br_t hg4 h
    refine Tops_no rfl rfl (congrArg (fun b => some (Value.bool b)) hg4) rfl rfl ?_
    refine Tops_no rfl rfl (congrArg (fun b => some (Value.bool b)) hg4) rfl rfl ?_
    refine Tops_no rfl rfl (congrArg (fun b => some (Value.bool b)) hg4) rfl rfl ?_
    refine Tops_step rfl (OpT_pickT rfl rfl rfl (congrArg (fun b => some (Value.bool b)) hg4) rfl) ?_
    refine Tops_nil (tZ [2, 3, 31] [0, 1] [0, 1, 2, 3] rfl rfl rfl rfl ?_)
    refine Tk_condT rfl ?_
    refine Tk_seq (Tk_region (Tops_step rfl (OpT_assign rfl rfl rfl rfl) ?_))
    refine Tops_nil (tZ [4] [] [] rfl rfl rfl rfl ?_)
    exact Tk_retV rfl rfl (resA (vs := [.bool true]) rfl ⟨rfl, trivial⟩) [] [] rfl rfl rfl ⟨rfl, rfl, rfl⟩
   ·replace h := br_f hg4 h
    refine Tops_yes rfl rfl (congrArg (fun b => some (Value.bool b)) hg4) (OpT_loadCA (vs := [vU32 op1.Type_, vU64 op1.Sector, vop11, vI op1.Room, vop12]) rfl rfl rfl rfl tyF35 (i := 1) rfl rfl rfl) ?_
    rintro _ rfl
    obtain ⟨check2, hx5, h⟩ := ob_e h
    refine Tops_yes rfl rfl (congrArg (fun b => some (Value.bool b)) hg4) (OpT_call (w_blk_Check hx5) [] [2, 3] rfl rfl rfl rfl rfl callee13 rfl rfl rfl rfl) ?_
    rintro _ ⟨_, _, _, ⟨rfl, rfl, rfl⟩, rfl⟩
    refine Tops_yes rfl rfl (congrArg (fun b => some (Value.bool b)) hg4) (OpT_bin rfl rfl rfl rfl rfl (bin_neq_i (a := check2) (b := (0 : Int)))) ?_
    rintro _ rfl
    refine Tops_step rfl (OpT_pickF rfl rfl rfl (congrArg (fun b => some (Value.bool b)) hg4) rfl) ?_
    refine Tops_nil (tZ [2, 3, 31] [0, 1] [0, 1, 2, 3] rfl rfl rfl rfl ?_)
    rcases Bool.eq_false_or_eq_true (check2 != (0 : Int)) with hg5 | hg5
    ·replace h := br_t hg5 h
     refine Tk_condT (congrArg (fun b => some (Value.bool b)) hg5) ?_
     refine Tk_seq (Tk_region (Tops_step rfl (OpT_assign rfl rfl rfl rfl) ?_))
     refine Tops_nil (tZ [4] [] [] rfl rfl rfl rfl ?_)
     exact Tk_retV rfl rfl (resA (vs := [.bool true]) rfl ⟨rfl, trivial⟩) [] [] rfl rfl rfl ⟨rfl, rfl, rfl⟩
    ·replace h := br_f hg5 h
     refine Tk_condF (congrArg (fun b => some (Value.bool b)) hg5) ?_
     refine Tk_skip (Tk_seq (Tk_region (Tops_step rfl (OpT_loadCA (vs := [vU32 rp0.Type_, vU64 rp0.Sector, vrp01, vI rp0.Room, vrp02]) rfl rfl rfl rfl tyF35 (i := 0) rfl rfl rfl) ?_)))
     obtain ⟨bytes1, hx6, h⟩ := ob_e h
     refine Tops_exP rfl (OpT_call (w_blk_Bytes hx6) [] [0, 1] rfl rfl rfl rfl rfl callee8 rfl rfl rfl rfl) ?_
     rintro _ ⟨_, _, _, ⟨v1, rfl, rfl, rfl⟩, rfl⟩
     refine Tops_step rfl (OpT_move rfl rfl rfl rfl) ?_
     refine Tops_step rfl (OpT_extract rfl rfl rfl rfl rfl) ?_
     refine Tops_step rfl (OpT_extract rfl rfl rfl rfl rfl) ?_
     refine Tops_step rfl (OpT_assign rfl rfl rfl rfl) ?_
     refine Tops_step rfl (OpT_assign rfl rfl rfl rfl) ?_
     refine Tops_nil (tZ [2, 3, 5, 6] [0, 1, 2] [0, 1, 2, 3] rfl rfl rfl rfl ?_)
     refine Tk_seq (Tk_region (Tops_step rfl (OpT_loadCA (vs := [vU32 op1.Type_, vU64 op1.Sector, vop11, vI op1.Room, vop12]) rfl rfl rfl rfl tyF35 (i := 1) rfl rfl rfl) ?_))
     obtain ⟨bytes2, hx7, h⟩ := ob_e h
     refine Tops_exP rfl (OpT_call (w_blk_Bytes hx7) [] [2, 3] rfl rfl rfl rfl rfl callee8 rfl rfl rfl rfl) ?_
     rintro _ ⟨_, _, _, ⟨v2, rfl, rfl, rfl⟩, rfl⟩
     refine Tops_step rfl (OpT_move rfl rfl rfl rfl) ?_
     refine Tops_step rfl (OpT_extract rfl rfl rfl rfl rfl) ?_
     refine Tops_step rfl (OpT_extract rfl rfl rfl rfl rfl) ?_
     refine Tops_step rfl (OpT_assign rfl rfl rfl rfl) ?_
     refine Tops_step rfl (OpT_assign rfl rfl rfl rfl) ?_
     refine Tops_nil (tZ [2, 3, 5, 6, 7, 8] [0, 1, 2, 3] [0, 1, 2, 3] rfl rfl rfl rfl ?_)
     refine Tk_seq (Tk_region (Tops_step rfl (OpT_move rfl rfl rfl rfl) ?_))
     obtain ⟨own1, hx8, h⟩ := ob_e h
     refine Tops_exP rfl (OpT_callB [2] [0, 1, 2, 3, 4] (w_kit_Own hx8) [] rfl rfl rfl rfl rfl callee14 rfl rfl rfl rfl rfl rfl (bor_cons (bor_row 2 rfl rfl) bor_nil) (by rintro _ _ _ ⟨_, rfl, rfl, rfl⟩; exact ⟨rfl, (ri_cons (ri_row (S := u8S) rfl _ _) ri_nil)⟩)) ?_
     rintro _ ⟨v3, _, _, ⟨_, rfl, rfl, rfl⟩, rfl⟩
     obtain ⟨read1, hx9, h⟩ := ob_e h
     refine Tops_exP rfl (OpT_callB [4] [0, 1, 2, 3, 4, 5, 6] (w_blk_Read hx9) [] rfl rfl rfl rfl rfl callee9 rfl rfl rfl rfl rfl rfl (bor_cons (bor_row 4 rfl rfl) bor_nil) (by rintro _ _ _ ⟨_, _, rfl, rfl, rfl⟩; exact ⟨rfl, (ri_cons (ri_row (S := u8S) rfl _ _) (ri_cons (ri_row (S := RangeS) rfl _ _) ri_nil))⟩)) ?_
     rintro _ ⟨_, _, _, ⟨v4, v5, rfl, rfl, rfl⟩, rfl⟩
     refine Tops_step rfl (OpT_move rfl rfl rfl rfl) ?_
     refine Tops_step rfl (OpT_extract rfl rfl rfl rfl rfl) ?_
     refine Tops_step rfl (OpT_extract rfl rfl rfl rfl rfl) ?_
     refine Tops_ex rfl (OpT_alloc rfl rfl rfl tyZ35) fun b3 => ?_
     refine Tops_step rfl (OpT_storeA2 (fun z0 z1 => [vU32 read1.1.Type_, vU64 read1.1.Sector, z0, vI read1.1.Room, z1]) (cs' := [vU32 read1.1.Type_, vU64 read1.1.Sector, v4, vI read1.1.Room, v5]) rfl rfl rfl rfl tyF35 (i := 7) rfl (is_row (i := 5) rfl) (is_row (i := 6) rfl) (fun _ _ _ _ _ _ => rfl) rfl rfl rfl) ?_
     refine Tops_step rfl (OpT_assign rfl rfl rfl rfl) ?_
     refine Tops_nil (tZ [2, 3, 5, 6, 7, 8, 9, 10] [0, 1, 2, 3, 5, 6, 7] [0, 1, 2, 3] rfl rfl rfl rfl ?_)
     refine Tk_seq (Tk_seq (Tk_region (Tops_step rfl (OpT_move rfl rfl rfl rfl) ?_)))
     refine Tops_step rfl (OpT_bin rfl rfl rfl rfl rfl (bin_neq_i (a := bytes1.2) (b := (0 : Int)))) ?_
     refine Tops_step rfl (OpT_move rfl rfl rfl rfl) ?_
     obtain ⟨hg6, h⟩ := chk_e h
     replace hg6 := not_t hg6
     refine Tops_yes rfl rfl (congrArg (fun b => some (Value.bool b)) hg6) (OpT_move rfl rfl rfl rfl) ?_
     rintro _ rfl
     refine Tops_yes rfl rfl (congrArg (fun b => some (Value.bool b)) hg6) (OpT_bin rfl rfl rfl rfl rfl (bin_neq_i (a := bytes2.2) (b := (0 : Int)))) ?_
     rintro _ rfl
     refine Tops_step rfl (OpT_pickF rfl rfl rfl (congrArg (fun b => some (Value.bool b)) hg6) rfl) ?_
     refine Tops_step rfl (OpT_move rfl rfl rfl rfl) ?_
     obtain ⟨hg7, h⟩ := chk_e h
     replace hg7 := not_t hg7
     refine Tops_yes rfl rfl (congrArg (fun b => some (Value.bool b)) hg7) (OpT_move rfl rfl rfl rfl) ?_
     rintro _ rfl
     refine Tops_yes rfl rfl (congrArg (fun b => some (Value.bool b)) hg7) (OpT_bin rfl rfl rfl rfl rfl (bin_neq_i (a := read1.2) (b := (0 : Int)))) ?_
     rintro _ rfl
     refine Tops_step rfl (OpT_pickF rfl rfl rfl (congrArg (fun b => some (Value.bool b)) hg7) rfl) ?_
     refine Tops_step rfl (OpT_move rfl rfl rfl rfl) ?_
     obtain ⟨hg8, h⟩ := chk_e h
     replace hg8 := not_t hg8
     refine Tops_yes rfl rfl (congrArg (fun b => some (Value.bool b)) hg8) (OpT_fieldC rfl rfl rfl rfl fldF35x0) ?_
     rintro _ rfl
     refine Tops_yes rfl rfl (congrArg (fun b => some (Value.bool b)) hg8) (OpT_loadC rfl rfl rfl rfl tyF29 (i := 6) rfl rfl) ?_
     rintro _ rfl
     refine Tops_yes rfl rfl (congrArg (fun b => some (Value.bool b)) hg8) (OpT_fieldC rfl rfl rfl rfl fldF35x0) ?_
     rintro _ rfl
     refine Tops_yes rfl rfl (congrArg (fun b => some (Value.bool b)) hg8) (OpT_loadC rfl rfl rfl rfl tyF29 (i := 0) rfl rfl) ?_
     rintro _ rfl
     refine Tops_yes rfl rfl (congrArg (fun b => some (Value.bool b)) hg8) (OpT_bin rfl rfl rfl rfl rfl (bin_neq_u32 (a := read1.1.Type_) (b := rp0.Type_))) ?_
     rintro _ rfl
     refine Tops_step rfl (OpT_pickF rfl rfl rfl (congrArg (fun b => some (Value.bool b)) hg8) rfl) ?_
     refine Tops_step rfl (OpT_move rfl rfl rfl rfl) ?_
     obtain ⟨hg9, h⟩ := chk_e h
     replace hg9 := not_t hg9
     refine Tops_yes rfl rfl (congrArg (fun b => some (Value.bool b)) hg9) (OpT_fieldC rfl rfl rfl rfl fldF35x1) ?_
     rintro _ rfl
     refine Tops_yes rfl rfl (congrArg (fun b => some (Value.bool b)) hg9) (OpT_loadC rfl rfl rfl rfl tyF30 (i := 6) rfl rfl) ?_
     rintro _ rfl
     refine Tops_yes rfl rfl (congrArg (fun b => some (Value.bool b)) hg9) (OpT_fieldC rfl rfl rfl rfl fldF35x1) ?_
     rintro _ rfl
     refine Tops_yes rfl rfl (congrArg (fun b => some (Value.bool b)) hg9) (OpT_loadC rfl rfl rfl rfl tyF30 (i := 0) rfl rfl) ?_
     rintro _ rfl
     refine Tops_yes rfl rfl (congrArg (fun b => some (Value.bool b)) hg9) (OpT_bin rfl rfl rfl rfl rfl (bin_neq_u64 (a := read1.1.Sector) (b := rp0.Sector))) ?_
     rintro _ rfl
     refine Tops_step rfl (OpT_pickF rfl rfl rfl (congrArg (fun b => some (Value.bool b)) hg9) rfl) ?_
     refine Tops_step rfl (OpT_move rfl rfl rfl rfl) ?_
     obtain ⟨hg10, h⟩ := chk_e h
     replace hg10 := not_t hg10
     refine Tops_yes rfl rfl (congrArg (fun b => some (Value.bool b)) hg10) (OpT_fieldC rfl rfl rfl rfl fldF35x4) ?_
     rintro _ rfl
     refine Tops_yes rfl rfl (congrArg (fun b => some (Value.bool b)) hg10) (OpT_loadC rfl rfl rfl rfl tyF33 (i := 6) rfl rfl) ?_
     rintro _ rfl
     refine Tops_yes rfl rfl (congrArg (fun b => some (Value.bool b)) hg10) (OpT_lenO rfl rfl rfl rfl Try.underlying33 (i := 5) rfl) ?_
     rintro _ rfl
     refine Tops_yes rfl rfl (congrArg (fun b => some (Value.bool b)) hg10) (OpT_bin rfl rfl rfl rfl rfl (bin_neq_i (a := len read1.1.Ranges) (b := (0 : Int)))) ?_
     rintro _ rfl
     refine Tops_step rfl (OpT_pickF rfl rfl rfl (congrArg (fun b => some (Value.bool b)) hg10) rfl) ?_
     refine Tops_step rfl (OpT_move rfl rfl rfl rfl) ?_
     obtain ⟨hg11, h⟩ := chk_e h
     replace hg11 := not_t hg11
     refine Tops_yes rfl rfl (congrArg (fun b => some (Value.bool b)) hg11) (OpT_fieldC rfl rfl rfl rfl fldF35x3) ?_
     rintro _ rfl
     refine Tops_yes rfl rfl (congrArg (fun b => some (Value.bool b)) hg11) (OpT_loadC rfl rfl rfl rfl tyF3 (i := 6) rfl rfl) ?_
     rintro _ rfl
     refine Tops_yes rfl rfl (congrArg (fun b => some (Value.bool b)) hg11) (OpT_bin rfl rfl rfl rfl rfl (bin_neq_i (a := read1.1.Room) (b := (0 : Int)))) ?_
     rintro _ rfl
     refine Tops_step rfl (OpT_pickF rfl rfl rfl (congrArg (fun b => some (Value.bool b)) hg11) rfl) ?_
     refine Tops_step rfl (OpT_move rfl rfl rfl rfl) ?_
     obtain ⟨hg12, h⟩ := chk_e h
     replace hg12 := not_t hg12
     refine Tops_yes rfl rfl (congrArg (fun b => some (Value.bool b)) hg12) (OpT_move rfl rfl rfl rfl) ?_
     rintro _ rfl
     refine Tops_yes rfl rfl (congrArg (fun b => some (Value.bool b)) hg12) (OpT_lenO rfl rfl rfl rfl Try.underlying26 (i := 2) rfl) ?_
     rintro _ rfl
     refine Tops_yes rfl rfl (congrArg (fun b => some (Value.bool b)) hg12) (OpT_fieldC rfl rfl rfl rfl fldF35x2) ?_
     rintro _ rfl
     refine Tops_yes rfl rfl (congrArg (fun b => some (Value.bool b)) hg12) (OpT_loadC rfl rfl rfl rfl tyF26 (i := 0) rfl rfl) ?_
     rintro _ rfl
     refine Tops_yes rfl rfl (congrArg (fun b => some (Value.bool b)) hg12) (OpT_lenS rfl rfl rfl rfl Try.underlying26 (i := 0) rfl) ?_
     rintro _ rfl
     refine Tops_yes rfl rfl (congrArg (fun b => some (Value.bool b)) hg12) (OpT_bin rfl rfl rfl rfl rfl (bin_add_i (a := (16 : Int)) (b := len rp0.Data))) ?_
     rintro _ rfl
     refine Tops_yes rfl rfl (congrArg (fun b => some (Value.bool b)) hg12) (OpT_fieldC rfl rfl rfl rfl fldF35x4) ?_
     rintro _ rfl
     refine Tops_yes rfl rfl (congrArg (fun b => some (Value.bool b)) hg12) (OpT_loadC rfl rfl rfl rfl tyF33 (i := 0) rfl rfl) ?_
     rintro _ rfl
     refine Tops_yes rfl rfl (congrArg (fun b => some (Value.bool b)) hg12) (OpT_lenS rfl rfl rfl rfl Try.underlying33 (i := 1) rfl) ?_
     rintro _ rfl
     refine Tops_yes rfl rfl (congrArg (fun b => some (Value.bool b)) hg12) (OpT_bin rfl rfl rfl rfl rfl (bin_mul_i (a := (16 : Int)) (b := len rp0.Ranges))) ?_
     rintro _ rfl
     refine Tops_yes rfl rfl (congrArg (fun b => some (Value.bool b)) hg12) (OpT_bin rfl rfl rfl rfl rfl (bin_add_i (a := wi ((16 : Int) + (len rp0.Data))) (b := wi ((16 : Int) * (len rp0.Ranges))))) ?_
     rintro _ rfl
     refine Tops_yes rfl rfl (congrArg (fun b => some (Value.bool b)) hg12) (OpT_bin rfl rfl rfl rfl rfl (bin_neq_i (a := len bytes1.1) (b := wi ((wi ((16 : Int) + (len rp0.Data))) + (wi ((16 : Int) * (len rp0.Ranges))))))) ?_
     rintro _ rfl
     refine Tops_step rfl (OpT_pickF rfl rfl rfl (congrArg (fun b => some (Value.bool b)) hg12) rfl) ?_
     refine Tops_nil (tZ [2, 3, 5, 7, 9, 96] [0, 1, 2, 3, 4, 5, 6] [0, 1, 2, 3] rfl rfl rfl rfl ?_)
     obtain ⟨hg13, h⟩ := chk_e h
     replace hg13 := not_t hg13
     refine Tk_condF (congrArg (fun b => some (Value.bool b)) hg13) ?_
     refine Tk_skip (Tk_seq (Tk_seq (Tk_region (Tops_step rfl (OpT_fieldC rfl rfl rfl rfl fldF35x4) ?_))))
     refine Tops_step rfl (OpT_loadC rfl rfl rfl rfl tyF33 (i := 0) rfl rfl) ?_
     refine Tops_step rfl (OpT_lenS rfl rfl rfl rfl Try.underlying33 (i := 1) rfl) ?_
     refine Tops_step rfl (OpT_bin rfl rfl rfl rfl rfl (bin_eql_i (a := len rp0.Ranges) (b := (0 : Int)))) ?_
     refine Tops_step rfl (OpT_move rfl rfl rfl rfl) ?_
     rcases Bool.eq_false_or_eq_true ((len rp0.Ranges) == (0 : Int)) with hg14 | hg14
     ·replace h := br_t hg14 h
      refine Tops_yes rfl rfl (congrArg (fun b => some (Value.bool b)) hg14) (OpT_fieldC rfl rfl rfl rfl fldF35x2) ?_
      rintro _ rfl
      refine Tops_yes rfl rfl (congrArg (fun b => some (Value.bool b)) hg14) (OpT_loadC rfl rfl rfl rfl tyF26 (i := 6) rfl rfl) ?_
      rintro _ rfl
      refine Tops_retire (i := 4) rfl ?_
      refine Tops_yes rfl rfl (congrArg (fun b => some (Value.bool b)) hg14) (OpT_strS rfl rfl rfl rfl Try.underlying26 Try.underlying5 Try.underlying9 (i := 4) rfl) ?_
      rintro _ rfl
      refine Tops_yes rfl rfl (congrArg (fun b => some (Value.bool b)) hg14) (OpT_fieldC rfl rfl rfl rfl fldF35x2) ?_
      rintro _ rfl
      refine Tops_yes rfl rfl (congrArg (fun b => some (Value.bool b)) hg14) (OpT_loadC rfl rfl rfl rfl tyF26 (i := 0) rfl rfl) ?_
      rintro _ rfl
      refine Tops_yes rfl rfl (congrArg (fun b => some (Value.bool b)) hg14) (OpT_strS rfl rfl rfl rfl Try.underlying26 Try.underlying5 Try.underlying9 (i := 0) rfl) ?_
      rintro _ rfl
      refine Tops_yes rfl rfl (congrArg (fun b => some (Value.bool b)) hg14) (OpT_bin rfl rfl rfl rfl rfl (bin_neq_s (a := read1.1.Data) (b := rp0.Data))) ?_
      rintro _ rfl
      refine Tops_step rfl (OpT_pickT rfl rfl rfl (congrArg (fun b => some (Value.bool b)) hg14) rfl) ?_
      refine Tops_step rfl (OpT_move rfl rfl rfl rfl) ?_
      obtain ⟨hg15, h⟩ := chk_e h
      replace hg15 := not_t hg15
      refine Tops_yes rfl rfl (congrArg (fun b => some (Value.bool b)) hg15) (OpT_fieldC rfl rfl rfl rfl fldF35x2) ?_
      rintro _ rfl
      refine Tops_yes rfl rfl (congrArg (fun b => some (Value.bool b)) hg15) (OpT_loadC rfl rfl rfl rfl tyF26 (i := 6) rfl rfl) ?_
      rintro _ rfl
      refine Tops_yes rfl rfl (congrArg (fun b => some (Value.bool b)) hg15) (OpT_lenS rfl rfl rfl rfl Try.underlying26 (i := 4) rfl) ?_
      rintro _ rfl
      refine Tops_yes rfl rfl (congrArg (fun b => some (Value.bool b)) hg15) (OpT_move rfl rfl rfl rfl) ?_
      rintro _ rfl
      refine Tops_yes rfl rfl (congrArg (fun b => some (Value.bool b)) hg15) (OpT_lenO rfl rfl rfl rfl Try.underlying26 (i := 2) rfl) ?_
      rintro _ rfl
      refine Tops_yes rfl rfl (congrArg (fun b => some (Value.bool b)) hg15) (OpT_bin rfl rfl rfl rfl rfl (bin_sub_i (a := len bytes1.1) (b := (16 : Int)))) ?_
      rintro _ rfl
      refine Tops_yes rfl rfl (congrArg (fun b => some (Value.bool b)) hg15) (OpT_bin rfl rfl rfl rfl rfl (bin_neq_i (a := len read1.1.Data) (b := wi ((len bytes1.1) - (16 : Int))))) ?_
      rintro _ rfl
      refine Tops_step rfl (OpT_pickF rfl rfl rfl (congrArg (fun b => some (Value.bool b)) hg15) rfl) ?_
      refine Tops_nil (tZ [2, 3, 5, 7, 118] [0, 1, 2, 3] [0, 1, 2, 3] rfl rfl rfl rfl ?_)
      obtain ⟨hg16, h⟩ := chk_e h
      replace hg16 := not_t hg16
      refine Tk_condF (congrArg (fun b => some (Value.bool b)) hg16) ?_
      refine Tk_skip (Tk_seq (Tk_region (Tops_step rfl (OpT_fieldC rfl rfl rfl rfl fldF35x0) ?_)))
      refine Tops_step rfl (OpT_loadC rfl rfl rfl rfl tyF29 (i := 0) rfl rfl) ?_
      refine Tops_step rfl (OpT_fieldC rfl rfl rfl rfl fldF35x0) ?_
      refine Tops_step rfl (OpT_loadC rfl rfl rfl rfl tyF29 (i := 1) rfl rfl) ?_
      refine Tops_step rfl (OpT_bin rfl rfl rfl rfl rfl (bin_eql_u32 (a := rp0.Type_) (b := op1.Type_))) ?_
      refine Tops_step rfl (OpT_move rfl rfl rfl rfl) ?_
      rcases Bool.eq_false_or_eq_true (rp0.Type_ == op1.Type_) with hg17 | hg17
      ·replace h := br_t hg17 h
       refine Tops_yes rfl rfl (congrArg (fun b => some (Value.bool b)) hg17) (OpT_fieldC rfl rfl rfl rfl fldF35x1) ?_
       rintro _ rfl
       refine Tops_yes rfl rfl (congrArg (fun b => some (Value.bool b)) hg17) (OpT_loadC rfl rfl rfl rfl tyF30 (i := 0) rfl rfl) ?_
       rintro _ rfl
       refine Tops_yes rfl rfl (congrArg (fun b => some (Value.bool b)) hg17) (OpT_fieldC rfl rfl rfl rfl fldF35x1) ?_
       rintro _ rfl
       refine Tops_yes rfl rfl (congrArg (fun b => some (Value.bool b)) hg17) (OpT_loadC rfl rfl rfl rfl tyF30 (i := 1) rfl rfl) ?_
       rintro _ rfl
       refine Tops_yes rfl rfl (congrArg (fun b => some (Value.bool b)) hg17) (OpT_bin rfl rfl rfl rfl rfl (bin_eql_u64 (a := rp0.Sector) (b := op1.Sector))) ?_
       rintro _ rfl
       refine Tops_step rfl (OpT_pickT rfl rfl rfl (congrArg (fun b => some (Value.bool b)) hg17) rfl) ?_
       refine Tops_step rfl (OpT_move rfl rfl rfl rfl) ?_
       rcases Bool.eq_false_or_eq_true (rp0.Sector == op1.Sector) with hg18 | hg18
       ·replace h := br_t hg18 h
        refine Tops_yes rfl rfl (congrArg (fun b => some (Value.bool b)) hg18) (OpT_fieldC rfl rfl rfl rfl fldF35x2) ?_
        rintro _ rfl
        refine Tops_yes rfl rfl (congrArg (fun b => some (Value.bool b)) hg18) (OpT_loadC rfl rfl rfl rfl tyF26 (i := 0) rfl rfl) ?_
        rintro _ rfl
        refine Tops_yes rfl rfl (congrArg (fun b => some (Value.bool b)) hg18) (OpT_strS rfl rfl rfl rfl Try.underlying26 Try.underlying5 Try.underlying9 (i := 0) rfl) ?_
        rintro _ rfl
        refine Tops_yes rfl rfl (congrArg (fun b => some (Value.bool b)) hg18) (OpT_fieldC rfl rfl rfl rfl fldF35x2) ?_
        rintro _ rfl
        refine Tops_yes rfl rfl (congrArg (fun b => some (Value.bool b)) hg18) (OpT_loadC rfl rfl rfl rfl tyF26 (i := 1) rfl rfl) ?_
        rintro _ rfl
        refine Tops_yes rfl rfl (congrArg (fun b => some (Value.bool b)) hg18) (OpT_strS rfl rfl rfl rfl Try.underlying26 Try.underlying5 Try.underlying9 (i := 2) rfl) ?_
        rintro _ rfl
        refine Tops_yes rfl rfl (congrArg (fun b => some (Value.bool b)) hg18) (OpT_bin rfl rfl rfl rfl rfl (bin_eql_s (a := rp0.Data) (b := op1.Data))) ?_
        rintro _ rfl
        refine Tops_step rfl (OpT_pickT rfl rfl rfl (congrArg (fun b => some (Value.bool b)) hg18) rfl) ?_
        refine Tops_step rfl (OpT_assign rfl rfl rfl rfl) ?_
        refine Tops_nil (tZ [2, 3, 5, 7, 11] [0, 1, 2, 3] [0, 1, 2, 3] rfl rfl rfl rfl ?_)
        refine Tk_seq (Tk_region (Tops_step rfl (OpT_fieldC rfl rfl rfl rfl fldF35x4) ?_))
        refine Tops_step rfl (OpT_loadC rfl rfl rfl rfl tyF33 (i := 0) rfl rfl) ?_
        refine Tops_step rfl (OpT_lenS rfl rfl rfl rfl Try.underlying33 (i := 1) rfl) ?_
        refine Tops_step rfl (OpT_fieldC rfl rfl rfl rfl fldF35x4) ?_
        refine Tops_step rfl (OpT_loadC rfl rfl rfl rfl tyF33 (i := 1) rfl rfl) ?_
        refine Tops_step rfl (OpT_lenS rfl rfl rfl rfl Try.underlying33 (i := 3) rfl) ?_
        refine Tops_step rfl (OpT_bin rfl rfl rfl rfl rfl (bin_add_i (a := len rp0.Ranges) (b := len op1.Ranges))) ?_
        refine Tops_step rfl (OpT_bin rfl rfl rfl rfl rfl (bin_gtr_i (a := wi ((len rp0.Ranges) + (len op1.Ranges))) (b := (0 : Int)))) ?_
        refine Tops_step rfl (OpT_move rfl rfl rfl rfl) ?_
        rcases Bool.eq_false_or_eq_true (decide ((wi ((len rp0.Ranges) + (len op1.Ranges))) > (0 : Int))) with hg19 | hg19
        ·replace h := br_t hg19 h
         refine Tops_no rfl rfl (congrArg (fun b => some (Value.bool b)) hg19) rfl rfl ?_
         refine Tops_no rfl rfl (congrArg (fun b => some (Value.bool b)) hg19) rfl rfl ?_
         refine Tops_no rfl rfl (congrArg (fun b => some (Value.bool b)) hg19) rfl rfl ?_
         refine Tops_no rfl rfl (congrArg (fun b => some (Value.bool b)) hg19) rfl rfl ?_
         refine Tops_no rfl rfl (congrArg (fun b => some (Value.bool b)) hg19) rfl rfl ?_
         refine Tops_no rfl rfl (congrArg (fun b => some (Value.bool b)) hg19) rfl rfl ?_
         refine Tops_no rfl rfl (congrArg (fun b => some (Value.bool b)) hg19) rfl rfl ?_
         refine Tops_step rfl (OpT_pickT rfl rfl rfl (congrArg (fun b => some (Value.bool b)) hg19) rfl) ?_
         refine Tops_step rfl (OpT_assign rfl rfl rfl rfl) ?_
         refine Tops_nil (tZ [4] [] [] rfl rfl rfl rfl ?_)
         exact Tk_retV rfl rfl (resA (vs := [.bool true]) rfl ⟨rfl, trivial⟩) [] [] rfl rfl rfl ⟨rfl, rfl, rfl⟩
        ·replace h := br_f hg19 h
         refine Tops_yes rfl rfl (congrArg (fun b => some (Value.bool b)) hg19) (OpT_move rfl rfl rfl rfl) ?_
         rintro _ rfl
         refine Tops_retire (i := 2) rfl ?_
         refine Tops_yes rfl rfl (congrArg (fun b => some (Value.bool b)) hg19) (OpT_strS rfl rfl rfl rfl Try.underlying26 Try.underlying5 Try.underlying9 (i := 4) rfl) ?_
         rintro _ rfl
         refine Tops_yes rfl rfl (congrArg (fun b => some (Value.bool b)) hg19) (OpT_move rfl rfl rfl rfl) ?_
         rintro _ rfl
         refine Tops_retire (i := 3) rfl ?_
         refine Tops_yes rfl rfl (congrArg (fun b => some (Value.bool b)) hg19) (OpT_strS rfl rfl rfl rfl Try.underlying26 Try.underlying5 Try.underlying9 (i := 5) rfl) ?_
         rintro _ rfl
         refine Tops_yes rfl rfl (congrArg (fun b => some (Value.bool b)) hg19) (OpT_bin rfl rfl rfl rfl rfl (bin_eql_s (a := bytes1.1) (b := bytes2.1))) ?_
         rintro _ rfl
         refine Tops_yes rfl rfl (congrArg (fun b => some (Value.bool b)) hg19) (OpT_move rfl rfl rfl rfl) ?_
         rintro _ rfl
         refine Tops_yes rfl rfl (congrArg (fun b => some (Value.bool b)) hg19) (OpT_bin rfl rfl rfl rfl rfl (bin_eql_b (a := bytes1.1 == bytes2.1) (b := rp0.Data == op1.Data) Try.underlying4)) ?_
         rintro _ rfl
         refine Tops_step rfl (OpT_pickF rfl rfl rfl (congrArg (fun b => some (Value.bool b)) hg19) rfl) ?_
         refine Tops_step rfl (OpT_assign rfl rfl rfl rfl) ?_
         refine Tops_nil (tZ [4] [] [] rfl rfl rfl rfl ?_)
         obtain ⟨hg20, h⟩ := chk_e h
         exact Tk_retV rfl rfl (resA (vs := [.bool true]) rfl ⟨(congrArg (fun b => some (Value.bool b)) hg20), trivial⟩) [] [] rfl rfl rfl ⟨rfl, rfl, rfl⟩
       ·replace h := br_f hg18 h
        refine Tops_no rfl rfl (congrArg (fun b => some (Value.bool b)) hg18) rfl rfl ?_
        refine Tops_no rfl rfl (congrArg (fun b => some (Value.bool b)) hg18) rfl rfl ?_
        refine Tops_no rfl rfl (congrArg (fun b => some (Value.bool b)) hg18) rfl rfl ?_
        refine Tops_no rfl rfl (congrArg (fun b => some (Value.bool b)) hg18) rfl rfl ?_
        refine Tops_no rfl rfl (congrArg (fun b => some (Value.bool b)) hg18) rfl rfl ?_
        refine Tops_no rfl rfl (congrArg (fun b => some (Value.bool b)) hg18) rfl rfl ?_
        refine Tops_no rfl rfl (congrArg (fun b => some (Value.bool b)) hg18) rfl rfl ?_
        refine Tops_step rfl (OpT_pickF rfl rfl rfl (congrArg (fun b => some (Value.bool b)) hg18) rfl) ?_
        refine Tops_step rfl (OpT_assign rfl rfl rfl rfl) ?_
        refine Tops_nil (tZ [2, 3, 5, 7, 11] [0, 1, 2, 3] [0, 1, 2, 3] rfl rfl rfl rfl ?_)
        refine Tk_seq (Tk_region (Tops_step rfl (OpT_fieldC rfl rfl rfl rfl fldF35x4) ?_))
        refine Tops_step rfl (OpT_loadC rfl rfl rfl rfl tyF33 (i := 0) rfl rfl) ?_
        refine Tops_step rfl (OpT_lenS rfl rfl rfl rfl Try.underlying33 (i := 1) rfl) ?_
        refine Tops_step rfl (OpT_fieldC rfl rfl rfl rfl fldF35x4) ?_
        refine Tops_step rfl (OpT_loadC rfl rfl rfl rfl tyF33 (i := 1) rfl rfl) ?_
        refine Tops_step rfl (OpT_lenS rfl rfl rfl rfl Try.underlying33 (i := 3) rfl) ?_
        refine Tops_step rfl (OpT_bin rfl rfl rfl rfl rfl (bin_add_i (a := len rp0.Ranges) (b := len op1.Ranges))) ?_
        refine Tops_step rfl (OpT_bin rfl rfl rfl rfl rfl (bin_gtr_i (a := wi ((len rp0.Ranges) + (len op1.Ranges))) (b := (0 : Int)))) ?_
        refine Tops_step rfl (OpT_move rfl rfl rfl rfl) ?_
        rcases Bool.eq_false_or_eq_true (decide ((wi ((len rp0.Ranges) + (len op1.Ranges))) > (0 : Int))) with hg21 | hg21
        ·replace h := br_t hg21 h
         refine Tops_no rfl rfl (congrArg (fun b => some (Value.bool b)) hg21) rfl rfl ?_
         refine Tops_no rfl rfl (congrArg (fun b => some (Value.bool b)) hg21) rfl rfl ?_
         refine Tops_no rfl rfl (congrArg (fun b => some (Value.bool b)) hg21) rfl rfl ?_
         refine Tops_no rfl rfl (congrArg (fun b => some (Value.bool b)) hg21) rfl rfl ?_
         refine Tops_no rfl rfl (congrArg (fun b => some (Value.bool b)) hg21) rfl rfl ?_
         refine Tops_no rfl rfl (congrArg (fun b => some (Value.bool b)) hg21) rfl rfl ?_
         refine Tops_no rfl rfl (congrArg (fun b => some (Value.bool b)) hg21) rfl rfl ?_
         refine Tops_step rfl (OpT_pickT rfl rfl rfl (congrArg (fun b => some (Value.bool b)) hg21) rfl) ?_
         refine Tops_step rfl (OpT_assign rfl rfl rfl rfl) ?_
         refine Tops_nil (tZ [4] [] [] rfl rfl rfl rfl ?_)
         exact Tk_retV rfl rfl (resA (vs := [.bool true]) rfl ⟨rfl, trivial⟩) [] [] rfl rfl rfl ⟨rfl, rfl, rfl⟩
        ·replace h := br_f hg21 h
         refine Tops_yes rfl rfl (congrArg (fun b => some (Value.bool b)) hg21) (OpT_move rfl rfl rfl rfl) ?_
         rintro _ rfl
         refine Tops_retire (i := 2) rfl ?_
         refine Tops_yes rfl rfl (congrArg (fun b => some (Value.bool b)) hg21) (OpT_strS rfl rfl rfl rfl Try.underlying26 Try.underlying5 Try.underlying9 (i := 4) rfl) ?_
         rintro _ rfl
         refine Tops_yes rfl rfl (congrArg (fun b => some (Value.bool b)) hg21) (OpT_move rfl rfl rfl rfl) ?_
         rintro _ rfl
         refine Tops_retire (i := 3) rfl ?_
         refine Tops_yes rfl rfl (congrArg (fun b => some (Value.bool b)) hg21) (OpT_strS rfl rfl rfl rfl Try.underlying26 Try.underlying5 Try.underlying9 (i := 5) rfl) ?_
         rintro _ rfl
         refine Tops_yes rfl rfl (congrArg (fun b => some (Value.bool b)) hg21) (OpT_bin rfl rfl rfl rfl rfl (bin_eql_s (a := bytes1.1) (b := bytes2.1))) ?_
         rintro _ rfl
         refine Tops_yes rfl rfl (congrArg (fun b => some (Value.bool b)) hg21) (OpT_move rfl rfl rfl rfl) ?_
         rintro _ rfl
         refine Tops_yes rfl rfl (congrArg (fun b => some (Value.bool b)) hg21) (OpT_bin rfl rfl rfl rfl rfl (bin_eql_b (a := bytes1.1 == bytes2.1) (b := false) Try.underlying4)) ?_
         rintro _ rfl
         refine Tops_step rfl (OpT_pickF rfl rfl rfl (congrArg (fun b => some (Value.bool b)) hg21) rfl) ?_
         refine Tops_step rfl (OpT_assign rfl rfl rfl rfl) ?_
         refine Tops_nil (tZ [4] [] [] rfl rfl rfl rfl ?_)
         obtain ⟨hg22, h⟩ := chk_e h
         exact Tk_retV rfl rfl (resA (vs := [.bool true]) rfl ⟨(congrArg (fun b => some (Value.bool b)) hg22), trivial⟩) [] [] rfl rfl rfl ⟨rfl, rfl, rfl⟩
      ·replace h := br_f hg17 h
       refine Tops_no rfl rfl (congrArg (fun b => some (Value.bool b)) hg17) rfl rfl ?_
       refine Tops_no rfl rfl (congrArg (fun b => some (Value.bool b)) hg17) rfl rfl ?_
       refine Tops_no rfl rfl (congrArg (fun b => some (Value.bool b)) hg17) rfl rfl ?_
       refine Tops_no rfl rfl (congrArg (fun b => some (Value.bool b)) hg17) rfl rfl ?_
       refine Tops_no rfl rfl (congrArg (fun b => some (Value.bool b)) hg17) rfl rfl ?_
       refine Tops_step rfl (OpT_pickF rfl rfl rfl (congrArg (fun b => some (Value.bool b)) hg17) rfl) ?_
       refine Tops_step rfl (OpT_move rfl rfl rfl rfl) ?_
       refine Tops_no rfl rfl rfl rfl rfl ?_
       refine Tops_no rfl rfl rfl rfl rfl ?_
       refine Tops_no rfl rfl rfl rfl rfl ?_
       refine Tops_no rfl rfl rfl rfl rfl ?_
       refine Tops_no rfl rfl rfl rfl rfl ?_
       refine Tops_no rfl rfl rfl rfl rfl ?_
       refine Tops_no rfl rfl rfl rfl rfl ?_
       refine Tops_step rfl (OpT_pickF rfl rfl rfl rfl rfl) ?_
       refine Tops_step rfl (OpT_assign rfl rfl rfl rfl) ?_
       refine Tops_nil (tZ [2, 3, 5, 7, 11] [0, 1, 2, 3] [0, 1, 2, 3] rfl rfl rfl rfl ?_)
       refine Tk_seq (Tk_region (Tops_step rfl (OpT_fieldC rfl rfl rfl rfl fldF35x4) ?_))
       refine Tops_step rfl (OpT_loadC rfl rfl rfl rfl tyF33 (i := 0) rfl rfl) ?_
       refine Tops_step rfl (OpT_lenS rfl rfl rfl rfl Try.underlying33 (i := 1) rfl) ?_
       refine Tops_step rfl (OpT_fieldC rfl rfl rfl rfl fldF35x4) ?_
       refine Tops_step rfl (OpT_loadC rfl rfl rfl rfl tyF33 (i := 1) rfl rfl) ?_
       refine Tops_step rfl (OpT_lenS rfl rfl rfl rfl Try.underlying33 (i := 3) rfl) ?_
       refine Tops_step rfl (OpT_bin rfl rfl rfl rfl rfl (bin_add_i (a := len rp0.Ranges) (b := len op1.Ranges))) ?_
       refine Tops_step rfl (OpT_bin rfl rfl rfl rfl rfl (bin_gtr_i (a := wi ((len rp0.Ranges) + (len op1.Ranges))) (b := (0 : Int)))) ?_
       refine Tops_step rfl (OpT_move rfl rfl rfl rfl) ?_
       rcases Bool.eq_false_or_eq_true (decide ((wi ((len rp0.Ranges) + (len op1.Ranges))) > (0 : Int))) with hg23 | hg23
       ·replace h := br_t hg23 h
        refine Tops_no rfl rfl (congrArg (fun b => some (Value.bool b)) hg23) rfl rfl ?_
        refine Tops_no rfl rfl (congrArg (fun b => some (Value.bool b)) hg23) rfl rfl ?_
        refine Tops_no rfl rfl (congrArg (fun b => some (Value.bool b)) hg23) rfl rfl ?_
        refine Tops_no rfl rfl (congrArg (fun b => some (Value.bool b)) hg23) rfl rfl ?_
        refine Tops_no rfl rfl (congrArg (fun b => some (Value.bool b)) hg23) rfl rfl ?_
        refine Tops_no rfl rfl (congrArg (fun b => some (Value.bool b)) hg23) rfl rfl ?_
        refine Tops_no rfl rfl (congrArg (fun b => some (Value.bool b)) hg23) rfl rfl ?_
        refine Tops_step rfl (OpT_pickT rfl rfl rfl (congrArg (fun b => some (Value.bool b)) hg23) rfl) ?_
        refine Tops_step rfl (OpT_assign rfl rfl rfl rfl) ?_
        refine Tops_nil (tZ [4] [] [] rfl rfl rfl rfl ?_)
        exact Tk_retV rfl rfl (resA (vs := [.bool true]) rfl ⟨rfl, trivial⟩) [] [] rfl rfl rfl ⟨rfl, rfl, rfl⟩
       ·replace h := br_f hg23 h
        refine Tops_yes rfl rfl (congrArg (fun b => some (Value.bool b)) hg23) (OpT_move rfl rfl rfl rfl) ?_
        rintro _ rfl
        refine Tops_retire (i := 2) rfl ?_
        refine Tops_yes rfl rfl (congrArg (fun b => some (Value.bool b)) hg23) (OpT_strS rfl rfl rfl rfl Try.underlying26 Try.underlying5 Try.underlying9 (i := 4) rfl) ?_
        rintro _ rfl
        refine Tops_yes rfl rfl (congrArg (fun b => some (Value.bool b)) hg23) (OpT_move rfl rfl rfl rfl) ?_
        rintro _ rfl
        refine Tops_retire (i := 3) rfl ?_
        refine Tops_yes rfl rfl (congrArg (fun b => some (Value.bool b)) hg23) (OpT_strS rfl rfl rfl rfl Try.underlying26 Try.underlying5 Try.underlying9 (i := 5) rfl) ?_
        rintro _ rfl
        refine Tops_yes rfl rfl (congrArg (fun b => some (Value.bool b)) hg23) (OpT_bin rfl rfl rfl rfl rfl (bin_eql_s (a := bytes1.1) (b := bytes2.1))) ?_
        rintro _ rfl
        refine Tops_yes rfl rfl (congrArg (fun b => some (Value.bool b)) hg23) (OpT_move rfl rfl rfl rfl) ?_
        rintro _ rfl
        refine Tops_yes rfl rfl (congrArg (fun b => some (Value.bool b)) hg23) (OpT_bin rfl rfl rfl rfl rfl (bin_eql_b (a := bytes1.1 == bytes2.1) (b := false) Try.underlying4)) ?_
        rintro _ rfl
        refine Tops_step rfl (OpT_pickF rfl rfl rfl (congrArg (fun b => some (Value.bool b)) hg23) rfl) ?_
        refine Tops_step rfl (OpT_assign rfl rfl rfl rfl) ?_
        refine Tops_nil (tZ [4] [] [] rfl rfl rfl rfl ?_)
        obtain ⟨hg24, h⟩ := chk_e h
        exact Tk_retV rfl rfl (resA (vs := [.bool true]) rfl ⟨(congrArg (fun b => some (Value.bool b)) hg24), trivial⟩) [] [] rfl rfl rfl ⟨rfl, rfl, rfl⟩
     ·replace h := br_f hg14 h
      refine Tops_no rfl rfl (congrArg (fun b => some (Value.bool b)) hg14) rfl rfl ?_
      refine Tops_no rfl rfl (congrArg (fun b => some (Value.bool b)) hg14) rfl rfl ?_
      refine Tops_no rfl rfl (congrArg (fun b => some (Value.bool b)) hg14) rfl rfl ?_
      refine Tops_no rfl rfl (congrArg (fun b => some (Value.bool b)) hg14) rfl rfl ?_
      refine Tops_no rfl rfl (congrArg (fun b => some (Value.bool b)) hg14) rfl rfl ?_
      refine Tops_no rfl rfl (congrArg (fun b => some (Value.bool b)) hg14) rfl rfl ?_
      refine Tops_no rfl rfl (congrArg (fun b => some (Value.bool b)) hg14) rfl rfl ?_
      refine Tops_step rfl (OpT_pickF rfl rfl rfl (congrArg (fun b => some (Value.bool b)) hg14) rfl) ?_
      refine Tops_step rfl (OpT_move rfl rfl rfl rfl) ?_
      refine Tops_yes rfl rfl rfl (OpT_fieldC rfl rfl rfl rfl fldF35x2) ?_
      rintro _ rfl
      refine Tops_yes rfl rfl rfl (OpT_loadC rfl rfl rfl rfl tyF26 (i := 6) rfl rfl) ?_
      rintro _ rfl
      refine Tops_yes rfl rfl rfl (OpT_lenO rfl rfl rfl rfl Try.underlying26 (i := 4) rfl) ?_
      rintro _ rfl
      refine Tops_yes rfl rfl rfl (OpT_move rfl rfl rfl rfl) ?_
      rintro _ rfl
      refine Tops_yes rfl rfl rfl (OpT_lenO rfl rfl rfl rfl Try.underlying26 (i := 2) rfl) ?_
      rintro _ rfl
      refine Tops_yes rfl rfl rfl (OpT_bin rfl rfl rfl rfl rfl (bin_sub_i (a := len bytes1.1) (b := (16 : Int)))) ?_
      rintro _ rfl
      refine Tops_yes rfl rfl rfl (OpT_bin rfl rfl rfl rfl rfl (bin_neq_i (a := len read1.1.Data) (b := wi ((len bytes1.1) - (16 : Int))))) ?_
      rintro _ rfl
      refine Tops_step rfl (OpT_pickF rfl rfl rfl rfl rfl) ?_
      refine Tops_nil (tZ [2, 3, 5, 7, 118] [0, 1, 2, 3] [0, 1, 2, 3] rfl rfl rfl rfl ?_)
      obtain ⟨hg25, h⟩ := chk_e h
      replace hg25 := not_t hg25
      refine Tk_condF (congrArg (fun b => some (Value.bool b)) hg25) ?_
      refine Tk_skip (Tk_seq (Tk_region (Tops_step rfl (OpT_fieldC rfl rfl rfl rfl fldF35x0) ?_)))
      refine Tops_step rfl (OpT_loadC rfl rfl rfl rfl tyF29 (i := 0) rfl rfl) ?_
      refine Tops_step rfl (OpT_fieldC rfl rfl rfl rfl fldF35x0) ?_
      refine Tops_step rfl (OpT_loadC rfl rfl rfl rfl tyF29 (i := 1) rfl rfl) ?_
      refine Tops_step rfl (OpT_bin rfl rfl rfl rfl rfl (bin_eql_u32 (a := rp0.Type_) (b := op1.Type_))) ?_
      refine Tops_step rfl (OpT_move rfl rfl rfl rfl) ?_
      rcases Bool.eq_false_or_eq_true (rp0.Type_ == op1.Type_) with hg26 | hg26
      ·replace h := br_t hg26 h
       refine Tops_yes rfl rfl (congrArg (fun b => some (Value.bool b)) hg26) (OpT_fieldC rfl rfl rfl rfl fldF35x1) ?_
       rintro _ rfl
       refine Tops_yes rfl rfl (congrArg (fun b => some (Value.bool b)) hg26) (OpT_loadC rfl rfl rfl rfl tyF30 (i := 0) rfl rfl) ?_
       rintro _ rfl
       refine Tops_yes rfl rfl (congrArg (fun b => some (Value.bool b)) hg26) (OpT_fieldC rfl rfl rfl rfl fldF35x1) ?_
       rintro _ rfl
       refine Tops_yes rfl rfl (congrArg (fun b => some (Value.bool b)) hg26) (OpT_loadC rfl rfl rfl rfl tyF30 (i := 1) rfl rfl) ?_
       rintro _ rfl
       refine Tops_yes rfl rfl (congrArg (fun b => some (Value.bool b)) hg26) (OpT_bin rfl rfl rfl rfl rfl (bin_eql_u64 (a := rp0.Sector) (b := op1.Sector))) ?_
       rintro _ rfl
       refine Tops_step rfl (OpT_pickT rfl rfl rfl (congrArg (fun b => some (Value.bool b)) hg26) rfl) ?_
       refine Tops_step rfl (OpT_move rfl rfl rfl rfl) ?_
       rcases Bool.eq_false_or_eq_true (rp0.Sector == op1.Sector) with hg27 | hg27
       ·replace h := br_t hg27 h
        refine Tops_yes rfl rfl (congrArg (fun b => some (Value.bool b)) hg27) (OpT_fieldC rfl rfl rfl rfl fldF35x2) ?_
        rintro _ rfl
        refine Tops_yes rfl rfl (congrArg (fun b => some (Value.bool b)) hg27) (OpT_loadC rfl rfl rfl rfl tyF26 (i := 0) rfl rfl) ?_
        rintro _ rfl
        refine Tops_yes rfl rfl (congrArg (fun b => some (Value.bool b)) hg27) (OpT_strS rfl rfl rfl rfl Try.underlying26 Try.underlying5 Try.underlying9 (i := 0) rfl) ?_
        rintro _ rfl
        refine Tops_yes rfl rfl (congrArg (fun b => some (Value.bool b)) hg27) (OpT_fieldC rfl rfl rfl rfl fldF35x2) ?_
        rintro _ rfl
        refine Tops_yes rfl rfl (congrArg (fun b => some (Value.bool b)) hg27) (OpT_loadC rfl rfl rfl rfl tyF26 (i := 1) rfl rfl) ?_
        rintro _ rfl
        refine Tops_yes rfl rfl (congrArg (fun b => some (Value.bool b)) hg27) (OpT_strS rfl rfl rfl rfl Try.underlying26 Try.underlying5 Try.underlying9 (i := 2) rfl) ?_
        rintro _ rfl
        refine Tops_yes rfl rfl (congrArg (fun b => some (Value.bool b)) hg27) (OpT_bin rfl rfl rfl rfl rfl (bin_eql_s (a := rp0.Data) (b := op1.Data))) ?_
        rintro _ rfl
        refine Tops_step rfl (OpT_pickT rfl rfl rfl (congrArg (fun b => some (Value.bool b)) hg27) rfl) ?_
        refine Tops_step rfl (OpT_assign rfl rfl rfl rfl) ?_
        refine Tops_nil (tZ [2, 3, 5, 7, 11] [0, 1, 2, 3] [0, 1, 2, 3] rfl rfl rfl rfl ?_)
        refine Tk_seq (Tk_region (Tops_step rfl (OpT_fieldC rfl rfl rfl rfl fldF35x4) ?_))
        refine Tops_step rfl (OpT_loadC rfl rfl rfl rfl tyF33 (i := 0) rfl rfl) ?_
        refine Tops_step rfl (OpT_lenS rfl rfl rfl rfl Try.underlying33 (i := 1) rfl) ?_
        refine Tops_step rfl (OpT_fieldC rfl rfl rfl rfl fldF35x4) ?_
        refine Tops_step rfl (OpT_loadC rfl rfl rfl rfl tyF33 (i := 1) rfl rfl) ?_
        refine Tops_step rfl (OpT_lenS rfl rfl rfl rfl Try.underlying33 (i := 3) rfl) ?_
        refine Tops_step rfl (OpT_bin rfl rfl rfl rfl rfl (bin_add_i (a := len rp0.Ranges) (b := len op1.Ranges))) ?_
        refine Tops_step rfl (OpT_bin rfl rfl rfl rfl rfl (bin_gtr_i (a := wi ((len rp0.Ranges) + (len op1.Ranges))) (b := (0 : Int)))) ?_
        refine Tops_step rfl (OpT_move rfl rfl rfl rfl) ?_
        rcases Bool.eq_false_or_eq_true (decide ((wi ((len rp0.Ranges) + (len op1.Ranges))) > (0 : Int))) with hg28 | hg28
        ·replace h := br_t hg28 h
         refine Tops_no rfl rfl (congrArg (fun b => some (Value.bool b)) hg28) rfl rfl ?_
         refine Tops_no rfl rfl (congrArg (fun b => some (Value.bool b)) hg28) rfl rfl ?_
         refine Tops_no rfl rfl (congrArg (fun b => some (Value.bool b)) hg28) rfl rfl ?_
         refine Tops_no rfl rfl (congrArg (fun b => some (Value.bool b)) hg28) rfl rfl ?_
         refine Tops_no rfl rfl (congrArg (fun b => some (Value.bool b)) hg28) rfl rfl ?_
         refine Tops_no rfl rfl (congrArg (fun b => some (Value.bool b)) hg28) rfl rfl ?_
         refine Tops_no rfl rfl (congrArg (fun b => some (Value.bool b)) hg28) rfl rfl ?_
         refine Tops_step rfl (OpT_pickT rfl rfl rfl (congrArg (fun b => some (Value.bool b)) hg28) rfl) ?_
         refine Tops_step rfl (OpT_assign rfl rfl rfl rfl) ?_
         refine Tops_nil (tZ [4] [] [] rfl rfl rfl rfl ?_)
         exact Tk_retV rfl rfl (resA (vs := [.bool true]) rfl ⟨rfl, trivial⟩) [] [] rfl rfl rfl ⟨rfl, rfl, rfl⟩
        ·replace h := br_f hg28 h
         refine Tops_yes rfl rfl (congrArg (fun b => some (Value.bool b)) hg28) (OpT_move rfl rfl rfl rfl) ?_
         rintro _ rfl
         refine Tops_retire (i := 2) rfl ?_
         refine Tops_yes rfl rfl (congrArg (fun b => some (Value.bool b)) hg28) (OpT_strS rfl rfl rfl rfl Try.underlying26 Try.underlying5 Try.underlying9 (i := 4) rfl) ?_
         rintro _ rfl
         refine Tops_yes rfl rfl (congrArg (fun b => some (Value.bool b)) hg28) (OpT_move rfl rfl rfl rfl) ?_
         rintro _ rfl
         refine Tops_retire (i := 3) rfl ?_
         refine Tops_yes rfl rfl (congrArg (fun b => some (Value.bool b)) hg28) (OpT_strS rfl rfl rfl rfl Try.underlying26 Try.underlying5 Try.underlying9 (i := 5) rfl) ?_
         rintro _ rfl
         refine Tops_yes rfl rfl (congrArg (fun b => some (Value.bool b)) hg28) (OpT_bin rfl rfl rfl rfl rfl (bin_eql_s (a := bytes1.1) (b := bytes2.1))) ?_
         rintro _ rfl
         refine Tops_yes rfl rfl (congrArg (fun b => some (Value.bool b)) hg28) (OpT_move rfl rfl rfl rfl) ?_
         rintro _ rfl
         refine Tops_yes rfl rfl (congrArg (fun b => some (Value.bool b)) hg28) (OpT_bin rfl rfl rfl rfl rfl (bin_eql_b (a := bytes1.1 == bytes2.1) (b := rp0.Data == op1.Data) Try.underlying4)) ?_
         rintro _ rfl
         refine Tops_step rfl (OpT_pickF rfl rfl rfl (congrArg (fun b => some (Value.bool b)) hg28) rfl) ?_
         refine Tops_step rfl (OpT_assign rfl rfl rfl rfl) ?_
         refine Tops_nil (tZ [4] [] [] rfl rfl rfl rfl ?_)
         obtain ⟨hg29, h⟩ := chk_e h
         exact Tk_retV rfl rfl (resA (vs := [.bool true]) rfl ⟨(congrArg (fun b => some (Value.bool b)) hg29), trivial⟩) [] [] rfl rfl rfl ⟨rfl, rfl, rfl⟩
       ·replace h := br_f hg27 h
        refine Tops_no rfl rfl (congrArg (fun b => some (Value.bool b)) hg27) rfl rfl ?_
        refine Tops_no rfl rfl (congrArg (fun b => some (Value.bool b)) hg27) rfl rfl ?_
        refine Tops_no rfl rfl (congrArg (fun b => some (Value.bool b)) hg27) rfl rfl ?_
        refine Tops_no rfl rfl (congrArg (fun b => some (Value.bool b)) hg27) rfl rfl ?_
        refine Tops_no rfl rfl (congrArg (fun b => some (Value.bool b)) hg27) rfl rfl ?_
        refine Tops_no rfl rfl (congrArg (fun b => some (Value.bool b)) hg27) rfl rfl ?_
        refine Tops_no rfl rfl (congrArg (fun b => some (Value.bool b)) hg27) rfl rfl ?_
        refine Tops_step rfl (OpT_pickF rfl rfl rfl (congrArg (fun b => some (Value.bool b)) hg27) rfl) ?_
        refine Tops_step rfl (OpT_assign rfl rfl rfl rfl) ?_
        refine Tops_nil (tZ [2, 3, 5, 7, 11] [0, 1, 2, 3] [0, 1, 2, 3] rfl rfl rfl rfl ?_)
        refine Tk_seq (Tk_region (Tops_step rfl (OpT_fieldC rfl rfl rfl rfl fldF35x4) ?_))
        refine Tops_step rfl (OpT_loadC rfl rfl rfl rfl tyF33 (i := 0) rfl rfl) ?_
        refine Tops_step rfl (OpT_lenS rfl rfl rfl rfl Try.underlying33 (i := 1) rfl) ?_
        refine Tops_step rfl (OpT_fieldC rfl rfl rfl rfl fldF35x4) ?_
        refine Tops_step rfl (OpT_loadC rfl rfl rfl rfl tyF33 (i := 1) rfl rfl) ?_
        refine Tops_step rfl (OpT_lenS rfl rfl rfl rfl Try.underlying33 (i := 3) rfl) ?_
        refine Tops_step rfl (OpT_bin rfl rfl rfl rfl rfl (bin_add_i (a := len rp0.Ranges) (b := len op1.Ranges))) ?_
        refine Tops_step rfl (OpT_bin rfl rfl rfl rfl rfl (bin_gtr_i (a := wi ((len rp0.Ranges) + (len op1.Ranges))) (b := (0 : Int)))) ?_
        refine Tops_step rfl (OpT_move rfl rfl rfl rfl) ?_
        rcases Bool.eq_false_or_eq_true (decide ((wi ((len rp0.Ranges) + (len op1.Ranges))) > (0 : Int))) with hg30 | hg30
        ·replace h := br_t hg30 h
         refine Tops_no rfl rfl (congrArg (fun b => some (Value.bool b)) hg30) rfl rfl ?_
         refine Tops_no rfl rfl (congrArg (fun b => some (Value.bool b)) hg30) rfl rfl ?_
         refine Tops_no rfl rfl (congrArg (fun b => some (Value.bool b)) hg30) rfl rfl ?_
         refine Tops_no rfl rfl (congrArg (fun b => some (Value.bool b)) hg30) rfl rfl ?_
         refine Tops_no rfl rfl (congrArg (fun b => some (Value.bool b)) hg30) rfl rfl ?_
         refine Tops_no rfl rfl (congrArg (fun b => some (Value.bool b)) hg30) rfl rfl ?_
         refine Tops_no rfl rfl (congrArg (fun b => some (Value.bool b)) hg30) rfl rfl ?_
         refine Tops_step rfl (OpT_pickT rfl rfl rfl (congrArg (fun b => some (Value.bool b)) hg30) rfl) ?_
         refine Tops_step rfl (OpT_assign rfl rfl rfl rfl) ?_
         refine Tops_nil (tZ [4] [] [] rfl rfl rfl rfl ?_)
         exact Tk_retV rfl rfl (resA (vs := [.bool true]) rfl ⟨rfl, trivial⟩) [] [] rfl rfl rfl ⟨rfl, rfl, rfl⟩
        ·replace h := br_f hg30 h
         refine Tops_yes rfl rfl (congrArg (fun b => some (Value.bool b)) hg30) (OpT_move rfl rfl rfl rfl) ?_
         rintro _ rfl
         refine Tops_retire (i := 2) rfl ?_
         refine Tops_yes rfl rfl (congrArg (fun b => some (Value.bool b)) hg30) (OpT_strS rfl rfl rfl rfl Try.underlying26 Try.underlying5 Try.underlying9 (i := 4) rfl) ?_
         rintro _ rfl
         refine Tops_yes rfl rfl (congrArg (fun b => some (Value.bool b)) hg30) (OpT_move rfl rfl rfl rfl) ?_
         rintro _ rfl
         refine Tops_retire (i := 3) rfl ?_
         refine Tops_yes rfl rfl (congrArg (fun b => some (Value.bool b)) hg30) (OpT_strS rfl rfl rfl rfl Try.underlying26 Try.underlying5 Try.underlying9 (i := 5) rfl) ?_
         rintro _ rfl
         refine Tops_yes rfl rfl (congrArg (fun b => some (Value.bool b)) hg30) (OpT_bin rfl rfl rfl rfl rfl (bin_eql_s (a := bytes1.1) (b := bytes2.1))) ?_
         rintro _ rfl
         refine Tops_yes rfl rfl (congrArg (fun b => some (Value.bool b)) hg30) (OpT_move rfl rfl rfl rfl) ?_
         rintro _ rfl
         refine Tops_yes rfl rfl (congrArg (fun b => some (Value.bool b)) hg30) (OpT_bin rfl rfl rfl rfl rfl (bin_eql_b (a := bytes1.1 == bytes2.1) (b := false) Try.underlying4)) ?_
         rintro _ rfl
         refine Tops_step rfl (OpT_pickF rfl rfl rfl (congrArg (fun b => some (Value.bool b)) hg30) rfl) ?_
         refine Tops_step rfl (OpT_assign rfl rfl rfl rfl) ?_
         refine Tops_nil (tZ [4] [] [] rfl rfl rfl rfl ?_)
         obtain ⟨hg31, h⟩ := chk_e h
         exact Tk_retV rfl rfl (resA (vs := [.bool true]) rfl ⟨(congrArg (fun b => some (Value.bool b)) hg31), trivial⟩) [] [] rfl rfl rfl ⟨rfl, rfl, rfl⟩
      ·replace h := br_f hg26 h
       refine Tops_no rfl rfl (congrArg (fun b => some (Value.bool b)) hg26) rfl rfl ?_
       refine Tops_no rfl rfl (congrArg (fun b => some (Value.bool b)) hg26) rfl rfl ?_
       refine Tops_no rfl rfl (congrArg (fun b => some (Value.bool b)) hg26) rfl rfl ?_
       refine Tops_no rfl rfl (congrArg (fun b => some (Value.bool b)) hg26) rfl rfl ?_
       refine Tops_no rfl rfl (congrArg (fun b => some (Value.bool b)) hg26) rfl rfl ?_
       refine Tops_step rfl (OpT_pickF rfl rfl rfl (congrArg (fun b => some (Value.bool b)) hg26) rfl) ?_
       refine Tops_step rfl (OpT_move rfl rfl rfl rfl) ?_
       refine Tops_no rfl rfl rfl rfl rfl ?_
       refine Tops_no rfl rfl rfl rfl rfl ?_
       refine Tops_no rfl rfl rfl rfl rfl ?_
       refine Tops_no rfl rfl rfl rfl rfl ?_
       refine Tops_no rfl rfl rfl rfl rfl ?_
       refine Tops_no rfl rfl rfl rfl rfl ?_
       refine Tops_no rfl rfl rfl rfl rfl ?_
       refine Tops_step rfl (OpT_pickF rfl rfl rfl rfl rfl) ?_
       refine Tops_step rfl (OpT_assign rfl rfl rfl rfl) ?_
       refine Tops_nil (tZ [2, 3, 5, 7, 11] [0, 1, 2, 3] [0, 1, 2, 3] rfl rfl rfl rfl ?_)
       refine Tk_seq (Tk_region (Tops_step rfl (OpT_fieldC rfl rfl rfl rfl fldF35x4) ?_))
       refine Tops_step rfl (OpT_loadC rfl rfl rfl rfl tyF33 (i := 0) rfl rfl) ?_
       refine Tops_step rfl (OpT_lenS rfl rfl rfl rfl Try.underlying33 (i := 1) rfl) ?_
       refine Tops_step rfl (OpT_fieldC rfl rfl rfl rfl fldF35x4) ?_
       refine Tops_step rfl (OpT_loadC rfl rfl rfl rfl tyF33 (i := 1) rfl rfl) ?_
       refine Tops_step rfl (OpT_lenS rfl rfl rfl rfl Try.underlying33 (i := 3) rfl) ?_
       refine Tops_step rfl (OpT_bin rfl rfl rfl rfl rfl (bin_add_i (a := len rp0.Ranges) (b := len op1.Ranges))) ?_
       refine Tops_step rfl (OpT_bin rfl rfl rfl rfl rfl (bin_gtr_i (a := wi ((len rp0.Ranges) + (len op1.Ranges))) (b := (0 : Int)))) ?_
       refine Tops_step rfl (OpT_move rfl rfl rfl rfl) ?_
       rcases Bool.eq_false_or_eq_true (decide ((wi ((len rp0.Ranges) + (len op1.Ranges))) > (0 : Int))) with hg32 | hg32
       ·replace h := br_t hg32 h
        refine Tops_no rfl rfl (congrArg (fun b => some (Value.bool b)) hg32) rfl rfl ?_
        refine Tops_no rfl rfl (congrArg (fun b => some (Value.bool b)) hg32) rfl rfl ?_
        refine Tops_no rfl rfl (congrArg (fun b => some (Value.bool b)) hg32) rfl rfl ?_
        refine Tops_no rfl rfl (congrArg (fun b => some (Value.bool b)) hg32) rfl rfl ?_
        refine Tops_no rfl rfl (congrArg (fun b => some (Value.bool b)) hg32) rfl rfl ?_
        refine Tops_no rfl rfl (congrArg (fun b => some (Value.bool b)) hg32) rfl rfl ?_
        refine Tops_no rfl rfl (congrArg (fun b => some (Value.bool b)) hg32) rfl rfl ?_
        refine Tops_step rfl (OpT_pickT rfl rfl rfl (congrArg (fun b => some (Value.bool b)) hg32) rfl) ?_
        refine Tops_step rfl (OpT_assign rfl rfl rfl rfl) ?_
        refine Tops_nil (tZ [4] [] [] rfl rfl rfl rfl ?_)
        exact Tk_retV rfl rfl (resA (vs := [.bool true]) rfl ⟨rfl, trivial⟩) [] [] rfl rfl rfl ⟨rfl, rfl, rfl⟩
       ·replace h := br_f hg32 h
        refine Tops_yes rfl rfl (congrArg (fun b => some (Value.bool b)) hg32) (OpT_move rfl rfl rfl rfl) ?_
        rintro _ rfl
        refine Tops_retire (i := 2) rfl ?_
        refine Tops_yes rfl rfl (congrArg (fun b => some (Value.bool b)) hg32) (OpT_strS rfl rfl rfl rfl Try.underlying26 Try.underlying5 Try.underlying9 (i := 4) rfl) ?_
        rintro _ rfl
        refine Tops_yes rfl rfl (congrArg (fun b => some (Value.bool b)) hg32) (OpT_move rfl rfl rfl rfl) ?_
        rintro _ rfl
        refine Tops_retire (i := 3) rfl ?_
        refine Tops_yes rfl rfl (congrArg (fun b => some (Value.bool b)) hg32) (OpT_strS rfl rfl rfl rfl Try.underlying26 Try.underlying5 Try.underlying9 (i := 5) rfl) ?_
        rintro _ rfl
        refine Tops_yes rfl rfl (congrArg (fun b => some (Value.bool b)) hg32) (OpT_bin rfl rfl rfl rfl rfl (bin_eql_s (a := bytes1.1) (b := bytes2.1))) ?_
        rintro _ rfl
        refine Tops_yes rfl rfl (congrArg (fun b => some (Value.bool b)) hg32) (OpT_move rfl rfl rfl rfl) ?_
        rintro _ rfl
        refine Tops_yes rfl rfl (congrArg (fun b => some (Value.bool b)) hg32) (OpT_bin rfl rfl rfl rfl rfl (bin_eql_b (a := bytes1.1 == bytes2.1) (b := false) Try.underlying4)) ?_
        rintro _ rfl
        refine Tops_step rfl (OpT_pickF rfl rfl rfl (congrArg (fun b => some (Value.bool b)) hg32) rfl) ?_
        refine Tops_step rfl (OpT_assign rfl rfl rfl rfl) ?_
        refine Tops_nil (tZ [4] [] [] rfl rfl rfl rfl ?_)
        obtain ⟨hg33, h⟩ := chk_e h
        exact Tk_retV rfl rfl (resA (vs := [.bool true]) rfl ⟨(congrArg (fun b => some (Value.bool b)) hg33), trivial⟩) [] [] rfl rfl rfl ⟨rfl, rfl, rfl⟩
end Go.Proofs.Ytjfdamiilndgeaa
