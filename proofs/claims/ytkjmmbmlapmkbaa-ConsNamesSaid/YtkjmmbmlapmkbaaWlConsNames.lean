/- The law ConsNames is walked: it returns what its plain words say. No condition. -/
import Derived.Test.YtkjmmbmlapmkbaaWa3
namespace Go.Proofs.Ytkjmmbmlapmkbaa

set_option maxRecDepth 100000 in
set_option maxHeartbeats 4000000 in
theorem w_law28zConsNames   (h : law28zConsNames = some true) :
  Ctr Try.prog 7 #[] [] []
   (fun rv own shr => rv = .bool true ∧ own = [] ∧ shr = []) := by
 unfold law28zConsNames at h
 refine Ctr.mk (args := []) Try.func7 rfl rfl (fun R0 w0 B => ?_)
 refine Tk_seq (Tk_region (Tops_step rfl (OpT_assign rfl rfl rfl rfl) ?_))
 refine Tops_nil (Tk_wkS (fr' := []) (own' := []) (shr' := []) [] [] [] rfl rfl rfl rfl ?_)
 refine Tk_seq (Tk_region ?_)
 obtain ⟨queue1, hx1, h⟩ := ob_e h
 refine Tops_exP rfl (OpT_call (w_cons_Queue hx1) [] [] rfl rfl rfl rfl rfl callee10 rfl rfl rfl rfl) ?_
 rintro _ ⟨_, _, _, ⟨rfl, rfl, rfl⟩, rfl⟩
 refine Tops_step rfl (OpT_move rfl rfl rfl rfl) ?_
 refine Tops_step rfl (OpT_extract rfl rfl rfl rfl rfl) ?_
 refine Tops_step rfl (OpT_extract rfl rfl rfl rfl rfl) ?_
 refine Tops_step rfl (OpT_assign rfl rfl rfl rfl) ?_
 refine Tops_step rfl (OpT_assign rfl rfl rfl rfl) ?_
 refine Tops_nil (Tk_wkS (fr' := [(2, some (vI queue1.2))]) (own' := []) (shr' := []) [2] [] [] rfl rfl rfl rfl ?_)
 refine Tk_seq (Tk_region ?_)
 obtain ⟨port1, hx2, h⟩ := ob_e h
 refine Tops_exP rfl (OpT_call (w_cons_Port hx2) [] [] rfl rfl rfl rfl rfl callee11 rfl rfl rfl rfl) ?_
 rintro _ ⟨_, _, _, ⟨rfl, rfl, rfl⟩, rfl⟩
 refine Tops_step rfl (OpT_move rfl rfl rfl rfl) ?_
 refine Tops_step rfl (OpT_extract rfl rfl rfl rfl rfl) ?_
 refine Tops_step rfl (OpT_extract rfl rfl rfl rfl rfl) ?_
 refine Tops_step rfl (OpT_extract rfl rfl rfl rfl rfl) ?_
 refine Tops_step rfl (OpT_extract rfl rfl rfl rfl rfl) ?_
 refine Tops_step rfl (OpT_assign rfl rfl rfl rfl) ?_
 refine Tops_step rfl (OpT_assign rfl rfl rfl rfl) ?_
 refine Tops_step rfl (OpT_assign rfl rfl rfl rfl) ?_
 refine Tops_step rfl (OpT_assign rfl rfl rfl rfl) ?_
 refine Tops_nil (Tk_wkS (fr' := [(2, some (vI queue1.2)), (3, some (vI port1.1)), (4, some (vB port1.2.1)), (5, some (vB port1.2.2.1)), (6, some (vI port1.2.2.2))]) (own' := []) (shr' := []) [2, 3, 4, 5, 6] [] [] rfl rfl rfl rfl ?_)
 refine Tk_seq (Tk_region ?_)
 obtain ⟨port2, hx3, h⟩ := ob_e h
 refine Tops_exP rfl (OpT_call (w_cons_Port hx3) [] [] rfl rfl rfl rfl rfl callee11 rfl rfl rfl rfl) ?_
 rintro _ ⟨_, _, _, ⟨rfl, rfl, rfl⟩, rfl⟩
 refine Tops_step rfl (OpT_move rfl rfl rfl rfl) ?_
 refine Tops_step rfl (OpT_extract rfl rfl rfl rfl rfl) ?_
 refine Tops_step rfl (OpT_extract rfl rfl rfl rfl rfl) ?_
 refine Tops_step rfl (OpT_extract rfl rfl rfl rfl rfl) ?_
 refine Tops_step rfl (OpT_extract rfl rfl rfl rfl rfl) ?_
 refine Tops_step rfl (OpT_assign rfl rfl rfl rfl) ?_
 refine Tops_step rfl (OpT_assign rfl rfl rfl rfl) ?_
 refine Tops_step rfl (OpT_assign rfl rfl rfl rfl) ?_
 refine Tops_step rfl (OpT_assign rfl rfl rfl rfl) ?_
 refine Tops_nil (Tk_wkS (fr' := [(2, some (vI queue1.2)), (3, some (vI port1.1)), (4, some (vB port1.2.1)), (5, some (vB port1.2.2.1)), (6, some (vI port1.2.2.2)), (10, some (vI port2.2.2.2))]) (own' := []) (shr' := []) [2, 3, 4, 5, 6, 10] [] [] rfl rfl rfl rfl ?_)
 refine Tk_seq (Tk_region ?_)
 obtain ⟨port3, hx4, h⟩ := ob_e h
 refine Tops_exP rfl (OpT_call (w_cons_Port hx4) [] [] rfl rfl rfl rfl rfl callee11 rfl rfl rfl rfl) ?_
 rintro _ ⟨_, _, _, ⟨rfl, rfl, rfl⟩, rfl⟩
 refine Tops_step rfl (OpT_move rfl rfl rfl rfl) ?_
 refine Tops_step rfl (OpT_extract rfl rfl rfl rfl rfl) ?_
 refine Tops_step rfl (OpT_extract rfl rfl rfl rfl rfl) ?_
 refine Tops_step rfl (OpT_extract rfl rfl rfl rfl rfl) ?_
 refine Tops_step rfl (OpT_extract rfl rfl rfl rfl rfl) ?_
 refine Tops_step rfl (OpT_assign rfl rfl rfl rfl) ?_
 refine Tops_step rfl (OpT_assign rfl rfl rfl rfl) ?_
 refine Tops_step rfl (OpT_assign rfl rfl rfl rfl) ?_
 refine Tops_step rfl (OpT_assign rfl rfl rfl rfl) ?_
 refine Tops_nil (Tk_wkS (fr' := [(2, some (vI queue1.2)), (3, some (vI port1.1)), (4, some (vB port1.2.1)), (5, some (vB port1.2.2.1)), (6, some (vI port1.2.2.2)), (10, some (vI port2.2.2.2)), (11, some (vI port3.1)), (12, some (vB port3.2.1)), (13, some (vB port3.2.2.1)), (14, some (vI port3.2.2.2))]) (own' := []) (shr' := []) [2, 3, 4, 5, 6, 10, 11, 12, 13, 14] [] [] rfl rfl rfl rfl ?_)
 refine Tk_seq (Tk_region ?_)
 obtain ⟨config1, hx5, h⟩ := ob_e h
 refine Tops_exP rfl (OpT_call (w_cons_Config hx5) [] [] rfl rfl rfl rfl rfl callee24 rfl rfl rfl rfl) ?_
 rintro _ ⟨v1, _, _, ⟨_, rfl, rfl, rfl⟩, rfl⟩
 obtain ⟨size1, hx6, h⟩ := ob_e h
 refine Tops_exP rfl (OpT_callB [0] [0] (w_cons_Size hx6) [] rfl rfl rfl rfl rfl callee23 rfl rfl rfl rfl rfl rfl (bor_cons (bor_row 0 rfl rfl) bor_nil) (by rintro _ _ _ ⟨rfl, rfl, rfl⟩; exact ⟨rfl, ri_nil⟩)) ?_
 rintro _ ⟨_, _, _, ⟨rfl, rfl, rfl⟩, rfl⟩
 refine Tops_step rfl (OpT_move rfl rfl rfl rfl) ?_
 refine Tops_step rfl (OpT_extract rfl rfl rfl rfl rfl) ?_
 refine Tops_step rfl (OpT_extract rfl rfl rfl rfl rfl) ?_
 refine Tops_step rfl (OpT_extract rfl rfl rfl rfl rfl) ?_
 refine Tops_step rfl (OpT_assign rfl rfl rfl rfl) ?_
 refine Tops_step rfl (OpT_assign rfl rfl rfl rfl) ?_
 refine Tops_step rfl (OpT_assign rfl rfl rfl rfl) ?_
 refine Tops_nil (Tk_wkS (fr' := [(2, some (vI queue1.2)), (3, some (vI port1.1)), (4, some (vB port1.2.1)), (5, some (vB port1.2.2.1)), (6, some (vI port1.2.2.2)), (10, some (vI port2.2.2.2)), (11, some (vI port3.1)), (12, some (vB port3.2.1)), (13, some (vB port3.2.2.1)), (14, some (vI port3.2.2.2)), (15, some (vI size1.1)), (16, some (vI size1.2.1)), (17, some (vI size1.2.2))]) (own' := []) (shr' := []) [2, 3, 4, 5, 6, 10, 11, 12, 13, 14, 15, 16, 17] [] [] rfl rfl rfl rfl ?_)
 refine Tk_seq (Tk_region (Tops_step rfl (OpT_build (v := .agg #[.slice none 0 0]) rfl rfl rfl rfl (bldV (by kernel_rfl))) ?_))
 refine Tops_nilfact u8S ?_
 refine Tops_nilfact (Shape.slice SegS) ?_
 obtain ⟨give1, hx7, h⟩ := ob_e h
 refine Tops_exP rfl (OpT_call (w_cons_Given0 hx7) [] [0, 1] rfl rfl rfl rfl rfl callee15 rfl rfl rfl rfl) ?_
 rintro _ ⟨_, _, _, ⟨v2, v3, rfl, rfl, rfl⟩, rfl⟩
 refine Tops_step rfl (OpT_move rfl rfl rfl rfl) ?_
 refine Tops_step rfl (OpT_extract rfl rfl rfl rfl rfl) ?_
 refine Tops_step rfl (OpT_extract rfl rfl rfl rfl rfl) ?_
 refine Tops_step rfl (OpT_extract rfl rfl rfl rfl rfl) ?_
 refine Tops_ex rfl (OpT_alloc rfl rfl rfl tyZ40) fun b1 => ?_
 refine Tops_step rfl (OpT_storeA1 (fun z0 => [z0]) (cs' := [v2]) rfl rfl rfl rfl tyF40 (i := 2) rfl (is_row (i := 0) rfl) (fun _ _ _ => rfl) rfl rfl rfl) ?_
 refine Tops_step rfl (OpT_assign rfl rfl rfl rfl) ?_
 refine Tops_step rfl (OpT_assign rfl rfl rfl rfl) ?_
 refine Tops_nil (Tk_wkS (fr' := [(2, some (vI queue1.2)), (3, some (vI port1.1)), (4, some (vB port1.2.1)), (5, some (vB port1.2.2.1)), (6, some (vI port1.2.2.2)), (10, some (vI port2.2.2.2)), (11, some (vI port3.1)), (12, some (vB port3.2.1)), (13, some (vB port3.2.2.1)), (14, some (vI port3.2.2.2)), (15, some (vI size1.1)), (16, some (vI size1.2.1)), (17, some (vI size1.2.2)), (20, some (vI give1.2.2))]) (own' := []) (shr' := []) [2, 3, 4, 5, 6, 10, 11, 12, 13, 14, 15, 16, 17, 20] [] [] rfl rfl rfl rfl ?_)
 refine Tk_seq (Tk_region (Tops_nilfact SegS ?_))
 obtain ⟨take1, hx8, h⟩ := ob_e h
 refine Tops_exP rfl (OpT_call (w_cons_Taken0 hx8) [] [0] rfl rfl rfl rfl rfl callee25 rfl rfl rfl rfl) ?_
 rintro _ ⟨_, _, _, ⟨v4, rfl, rfl, rfl⟩, rfl⟩
 refine Tops_step rfl (OpT_move rfl rfl rfl rfl) ?_
 refine Tops_step rfl (OpT_extract rfl rfl rfl rfl rfl) ?_
 refine Tops_step rfl (OpT_extract rfl rfl rfl rfl rfl) ?_
 refine Tops_step rfl (OpT_assign rfl rfl rfl rfl) ?_
 refine Tops_step rfl (OpT_assign rfl rfl rfl rfl) ?_
 refine Tops_nil (Tk_wkS (fr' := [(2, some (vI queue1.2)), (3, some (vI port1.1)), (4, some (vB port1.2.1)), (5, some (vB port1.2.2.1)), (6, some (vI port1.2.2.2)), (10, some (vI port2.2.2.2)), (11, some (vI port3.1)), (12, some (vB port3.2.1)), (13, some (vB port3.2.2.1)), (14, some (vI port3.2.2.2)), (15, some (vI size1.1)), (16, some (vI size1.2.1)), (17, some (vI size1.2.2)), (20, some (vI give1.2.2)), (22, some (vI take1.2))]) (own' := []) (shr' := []) [2, 3, 4, 5, 6, 10, 11, 12, 13, 14, 15, 16, 17, 20, 22] [] [] rfl rfl rfl rfl ?_)
 refine Tk_seq (Tk_region (Tops_nilfact (Shape.slice SegS) ?_))
 refine Tops_nilfact u32S ?_
 obtain ⟨join1, hx9, h⟩ := ob_e h
 refine Tops_exP rfl (OpT_call (w_cons_Joinn0 hx9) [] [0, 1] rfl rfl rfl rfl rfl callee22 rfl rfl rfl rfl) ?_
 rintro _ ⟨_, _, _, ⟨v5, rfl, rfl, rfl⟩, rfl⟩
 refine Tops_step rfl (OpT_move rfl rfl rfl rfl) ?_
 refine Tops_step rfl (OpT_extract rfl rfl rfl rfl rfl) ?_
 refine Tops_step rfl (OpT_extract rfl rfl rfl rfl rfl) ?_
 refine Tops_step rfl (OpT_assign rfl rfl rfl rfl) ?_
 refine Tops_step rfl (OpT_assign rfl rfl rfl rfl) ?_
 refine Tops_nil (Tk_wkS (fr' := [(2, some (vI queue1.2)), (3, some (vI port1.1)), (4, some (vB port1.2.1)), (5, some (vB port1.2.2.1)), (6, some (vI port1.2.2.2)), (10, some (vI port2.2.2.2)), (11, some (vI port3.1)), (12, some (vB port3.2.1)), (13, some (vB port3.2.2.1)), (14, some (vI port3.2.2.2)), (15, some (vI size1.1)), (16, some (vI size1.2.1)), (17, some (vI size1.2.2)), (20, some (vI give1.2.2)), (22, some (vI take1.2)), (24, some (vI join1.2))]) (own' := []) (shr' := []) [2, 3, 4, 5, 6, 10, 11, 12, 13, 14, 15, 16, 17, 20, 22, 24] [] [] rfl rfl rfl rfl ?_)
 refine Tk_seq (Tk_region ?_)
 obtain ⟨hc1, h⟩ := chk_e h
 obtain ⟨z1, hz1, h⟩ := lt_e h
 refine Tops_ex rfl (OpT_makeL (OpT_makeD u8S rfl (u := (0 : UInt8)) rfl rfl rfl rfl rfl slF30 rfl hc1) hz1) fun v6 => ?_
 refine Tops_step rfl (OpT_build1 (fun z0 => [(0, z0)]) (fun z0 => [z0]) rfl rfl rfl rfl (is_row (i := 0) rfl) (by intros; kernel_rfl)) ?_
 refine Tops_ex rfl (OpT_buildSlice (S := u8S) (xs := [(97 : UInt8), (98 : UInt8), (99 : UInt8)]) (css := [[vU8 (97 : UInt8)], [vU8 (98 : UInt8)], [vU8 (99 : UInt8)]]) (cs := [vU8 (97 : UInt8), vU8 (98 : UInt8), vU8 (99 : UInt8)]) (e := 5) rfl rfl rfl rfl (bldF slF30 (by decide) (by kernel_rfl)) rfl rfl rfl rfl (rel_plainD (S := u8S) (xs := [(97 : UInt8), (98 : UInt8), (99 : UInt8)]) (css := [[vU8 (97 : UInt8)], [vU8 (98 : UInt8)], [vU8 (99 : UInt8)]]) rfl rfl)) fun v7 => ?_
 refine Tops_step rfl (OpT_bytesC rfl rfl rfl rfl Try.underlying30 Try.underlying5 (i := 1) rfl rfl) ?_
 obtain ⟨put1, hx10, h⟩ := ob_e h
 refine Tops_exP rfl (OpT_callB [0] [0, 1, 2] (w_cons_Put hx10) [] rfl rfl rfl rfl rfl callee21 rfl rfl rfl rfl rfl rfl (bor_cons (bor_row 0 rfl rfl) (bor_cons (bor_shr 0 rfl) bor_nil)) (by rintro _ _ _ ⟨_, rfl, rfl, rfl⟩; exact ⟨rfl, (ri_cons (ri_row (S := u8S) rfl _ _) ri_nil)⟩)) ?_
 rintro _ ⟨_, _, _, ⟨v8, rfl, rfl, rfl⟩, rfl⟩
 refine Tops_step rfl (OpT_move rfl rfl rfl rfl) ?_
 refine Tops_step rfl (OpT_extract rfl rfl rfl rfl rfl) ?_
 refine Tops_step rfl (OpT_extract rfl rfl rfl rfl rfl) ?_
 refine Tops_ex rfl (OpT_alloc rfl rfl rfl tyZ40) fun b2 => ?_
 refine Tops_step rfl (OpT_storeA1 (fun z0 => [z0]) (cs' := [v8]) rfl rfl rfl rfl tyF40 (i := 3) rfl (is_row (i := 2) rfl) (fun _ _ _ => rfl) rfl rfl rfl) ?_
 refine Tops_step rfl (OpT_assign rfl rfl rfl rfl) ?_
 refine Tops_nil (Tk_wkS (fr' := [(2, some (vI queue1.2)), (3, some (vI port1.1)), (4, some (vB port1.2.1)), (5, some (vB port1.2.2.1)), (6, some (vI port1.2.2.2)), (10, some (vI port2.2.2.2)), (11, some (vI port3.1)), (12, some (vB port3.2.1)), (13, some (vB port3.2.2.1)), (14, some (vI port3.2.2.2)), (15, some (vI size1.1)), (16, some (vI size1.2.1)), (17, some (vI size1.2.2)), (20, some (vI give1.2.2)), (22, some (vI take1.2)), (24, some (vI join1.2)), (26, some (vI put1.2))]) (own' := []) (shr' := []) [2, 3, 4, 5, 6, 10, 11, 12, 13, 14, 15, 16, 17, 20, 22, 24, 26] [] [] rfl rfl rfl rfl ?_)
 refine Tk_seq (Tk_region ?_)
 obtain ⟨lives1, hx11, h⟩ := ob_e h
 refine Tops_exP rfl (OpT_call (w_law28zlives hx11) [] [] rfl rfl rfl rfl rfl callee8 rfl rfl rfl rfl) ?_
 rintro _ ⟨_, _, _, ⟨rfl, rfl, rfl⟩, rfl⟩
 refine Tops_step rfl (OpT_move rfl rfl rfl rfl) ?_
 obtain ⟨hg1, h⟩ := chk_e h
 refine Tops_yes rfl rfl (congrArg (fun b => some (Value.bool b)) hg1) (OpT_move rfl rfl rfl rfl) ?_
 rintro _ rfl
 refine Tops_yes rfl rfl (congrArg (fun b => some (Value.bool b)) hg1) (OpT_bin rfl rfl rfl rfl rfl (bin_eql_i (a := queue1.2) (b := (2 : Int)))) ?_
 rintro _ rfl
 refine Tops_step rfl (OpT_pickT rfl rfl rfl (congrArg (fun b => some (Value.bool b)) hg1) rfl) ?_
 refine Tops_step rfl (OpT_move rfl rfl rfl rfl) ?_
 obtain ⟨hg2, h⟩ := chk_e h
 refine Tops_yes rfl rfl (congrArg (fun b => some (Value.bool b)) hg2) (OpT_move rfl rfl rfl rfl) ?_
 rintro _ rfl
 refine Tops_yes rfl rfl (congrArg (fun b => some (Value.bool b)) hg2) (OpT_bin rfl rfl rfl rfl rfl (bin_eql_i (a := port1.1) (b := (0 : Int)))) ?_
 rintro _ rfl
 refine Tops_step rfl (OpT_pickT rfl rfl rfl (congrArg (fun b => some (Value.bool b)) hg2) rfl) ?_
 refine Tops_step rfl (OpT_move rfl rfl rfl rfl) ?_
 obtain ⟨hg3, h⟩ := chk_e h
 refine Tops_yes rfl rfl (congrArg (fun b => some (Value.bool b)) hg3) (OpT_move rfl rfl rfl rfl) ?_
 rintro _ rfl
 refine Tops_step rfl (OpT_pickT rfl rfl rfl (congrArg (fun b => some (Value.bool b)) hg3) rfl) ?_
 refine Tops_step rfl (OpT_move rfl rfl rfl rfl) ?_
 obtain ⟨hg4, h⟩ := chk_e h
 refine Tops_yes rfl rfl (congrArg (fun b => some (Value.bool b)) hg4) (OpT_move rfl rfl rfl rfl) ?_
 rintro _ rfl
 refine Tops_step rfl (OpT_pickT rfl rfl rfl (congrArg (fun b => some (Value.bool b)) hg4) rfl) ?_
 refine Tops_step rfl (OpT_move rfl rfl rfl rfl) ?_
 obtain ⟨hg5, h⟩ := chk_e h
 refine Tops_yes rfl rfl (congrArg (fun b => some (Value.bool b)) hg5) (OpT_move rfl rfl rfl rfl) ?_
 rintro _ rfl
 refine Tops_yes rfl rfl (congrArg (fun b => some (Value.bool b)) hg5) (OpT_bin rfl rfl rfl rfl rfl (bin_eql_i (a := port1.2.2.2) (b := (0 : Int)))) ?_
 rintro _ rfl
 refine Tops_step rfl (OpT_pickT rfl rfl rfl (congrArg (fun b => some (Value.bool b)) hg5) rfl) ?_
 refine Tops_step rfl (OpT_move rfl rfl rfl rfl) ?_
 obtain ⟨hg6, h⟩ := chk_e h
 refine Tops_yes rfl rfl (congrArg (fun b => some (Value.bool b)) hg6) (OpT_move rfl rfl rfl rfl) ?_
 rintro _ rfl
 refine Tops_yes rfl rfl (congrArg (fun b => some (Value.bool b)) hg6) (OpT_bin rfl rfl rfl rfl rfl (bin_eql_i (a := port2.2.2.2) (b := (2 : Int)))) ?_
 rintro _ rfl
 refine Tops_step rfl (OpT_pickT rfl rfl rfl (congrArg (fun b => some (Value.bool b)) hg6) rfl) ?_
 refine Tops_step rfl (OpT_move rfl rfl rfl rfl) ?_
 obtain ⟨hg7, h⟩ := chk_e h
 refine Tops_yes rfl rfl (congrArg (fun b => some (Value.bool b)) hg7) (OpT_move rfl rfl rfl rfl) ?_
 rintro _ rfl
 refine Tops_yes rfl rfl (congrArg (fun b => some (Value.bool b)) hg7) (OpT_bin rfl rfl rfl rfl rfl (bin_eql_i (a := port3.1) (b := (31 : Int)))) ?_
 rintro _ rfl
 refine Tops_step rfl (OpT_pickT rfl rfl rfl (congrArg (fun b => some (Value.bool b)) hg7) rfl) ?_
 refine Tops_step rfl (OpT_move rfl rfl rfl rfl) ?_
 obtain ⟨hg8, h⟩ := chk_e h
 refine Tops_yes rfl rfl (congrArg (fun b => some (Value.bool b)) hg8) (OpT_move rfl rfl rfl rfl) ?_
 rintro _ rfl
 refine Tops_step rfl (OpT_pickT rfl rfl rfl (congrArg (fun b => some (Value.bool b)) hg8) rfl) ?_
 refine Tops_step rfl (OpT_move rfl rfl rfl rfl) ?_
 obtain ⟨hg9, h⟩ := chk_e h
 refine Tops_yes rfl rfl (congrArg (fun b => some (Value.bool b)) hg9) (OpT_move rfl rfl rfl rfl) ?_
 rintro _ rfl
 refine Tops_yes rfl rfl (congrArg (fun b => some (Value.bool b)) hg9) (OpT_not rfl rfl rfl rfl) ?_
 rintro _ rfl
 refine Tops_step rfl (OpT_pickT rfl rfl rfl (congrArg (fun b => some (Value.bool b)) hg9) rfl) ?_
 refine Tops_step rfl (OpT_move rfl rfl rfl rfl) ?_
 obtain ⟨hg10, h⟩ := chk_e h
 refine Tops_yes rfl rfl (congrArg (fun b => some (Value.bool b)) hg10) (OpT_move rfl rfl rfl rfl) ?_
 rintro _ rfl
 refine Tops_yes rfl rfl (congrArg (fun b => some (Value.bool b)) hg10) (OpT_bin rfl rfl rfl rfl rfl (bin_eql_i (a := port3.2.2.2) (b := (0 : Int)))) ?_
 rintro _ rfl
 refine Tops_step rfl (OpT_pickT rfl rfl rfl (congrArg (fun b => some (Value.bool b)) hg10) rfl) ?_
 refine Tops_step rfl (OpT_move rfl rfl rfl rfl) ?_
 obtain ⟨hg11, h⟩ := chk_e h
 refine Tops_yes rfl rfl (congrArg (fun b => some (Value.bool b)) hg11) (OpT_move rfl rfl rfl rfl) ?_
 rintro _ rfl
 refine Tops_yes rfl rfl (congrArg (fun b => some (Value.bool b)) hg11) (OpT_bin rfl rfl rfl rfl rfl (bin_eql_i (a := size1.1) (b := (80 : Int)))) ?_
 rintro _ rfl
 refine Tops_step rfl (OpT_pickT rfl rfl rfl (congrArg (fun b => some (Value.bool b)) hg11) rfl) ?_
 refine Tops_step rfl (OpT_move rfl rfl rfl rfl) ?_
 obtain ⟨hg12, h⟩ := chk_e h
 refine Tops_yes rfl rfl (congrArg (fun b => some (Value.bool b)) hg12) (OpT_move rfl rfl rfl rfl) ?_
 rintro _ rfl
 refine Tops_yes rfl rfl (congrArg (fun b => some (Value.bool b)) hg12) (OpT_bin rfl rfl rfl rfl rfl (bin_eql_i (a := size1.2.1) (b := (25 : Int)))) ?_
 rintro _ rfl
 refine Tops_step rfl (OpT_pickT rfl rfl rfl (congrArg (fun b => some (Value.bool b)) hg12) rfl) ?_
 refine Tops_step rfl (OpT_move rfl rfl rfl rfl) ?_
 obtain ⟨hg13, h⟩ := chk_e h
 refine Tops_yes rfl rfl (congrArg (fun b => some (Value.bool b)) hg13) (OpT_move rfl rfl rfl rfl) ?_
 rintro _ rfl
 refine Tops_yes rfl rfl (congrArg (fun b => some (Value.bool b)) hg13) (OpT_bin rfl rfl rfl rfl rfl (bin_eql_i (a := size1.2.2) (b := (3 : Int)))) ?_
 rintro _ rfl
 refine Tops_step rfl (OpT_pickT rfl rfl rfl (congrArg (fun b => some (Value.bool b)) hg13) rfl) ?_
 refine Tops_step rfl (OpT_move rfl rfl rfl rfl) ?_
 obtain ⟨hg14, h⟩ := chk_e h
 refine Tops_yes rfl rfl (congrArg (fun b => some (Value.bool b)) hg14) (OpT_move rfl rfl rfl rfl) ?_
 rintro _ rfl
 refine Tops_yes rfl rfl (congrArg (fun b => some (Value.bool b)) hg14) (OpT_bin rfl rfl rfl rfl rfl (bin_eql_i (a := give1.2.2) (b := (1 : Int)))) ?_
 rintro _ rfl
 refine Tops_step rfl (OpT_pickT rfl rfl rfl (congrArg (fun b => some (Value.bool b)) hg14) rfl) ?_
 refine Tops_step rfl (OpT_move rfl rfl rfl rfl) ?_
 obtain ⟨hg15, h⟩ := chk_e h
 refine Tops_yes rfl rfl (congrArg (fun b => some (Value.bool b)) hg15) (OpT_move rfl rfl rfl rfl) ?_
 rintro _ rfl
 refine Tops_yes rfl rfl (congrArg (fun b => some (Value.bool b)) hg15) (OpT_bin rfl rfl rfl rfl rfl (bin_eql_i (a := take1.2) (b := (1 : Int)))) ?_
 rintro _ rfl
 refine Tops_step rfl (OpT_pickT rfl rfl rfl (congrArg (fun b => some (Value.bool b)) hg15) rfl) ?_
 refine Tops_step rfl (OpT_move rfl rfl rfl rfl) ?_
 obtain ⟨hg16, h⟩ := chk_e h
 refine Tops_yes rfl rfl (congrArg (fun b => some (Value.bool b)) hg16) (OpT_move rfl rfl rfl rfl) ?_
 rintro _ rfl
 refine Tops_yes rfl rfl (congrArg (fun b => some (Value.bool b)) hg16) (OpT_bin rfl rfl rfl rfl rfl (bin_eql_i (a := join1.2) (b := (1 : Int)))) ?_
 rintro _ rfl
 refine Tops_step rfl (OpT_pickT rfl rfl rfl (congrArg (fun b => some (Value.bool b)) hg16) rfl) ?_
 refine Tops_step rfl (OpT_move rfl rfl rfl rfl) ?_
 obtain ⟨hg17, h⟩ := chk_e h
 refine Tops_yes rfl rfl (congrArg (fun b => some (Value.bool b)) hg17) (OpT_move rfl rfl rfl rfl) ?_
 rintro _ rfl
 refine Tops_yes rfl rfl (congrArg (fun b => some (Value.bool b)) hg17) (OpT_bin rfl rfl rfl rfl rfl (bin_eql_i (a := put1.2) (b := (2 : Int)))) ?_
 rintro _ rfl
 refine Tops_step rfl (OpT_pickT rfl rfl rfl (congrArg (fun b => some (Value.bool b)) hg17) rfl) ?_
 refine Tops_step rfl (OpT_move rfl rfl rfl rfl) ?_
 obtain ⟨hg18, h⟩ := chk_e h
 refine Tops_step rfl (OpT_pickT rfl rfl rfl (congrArg (fun b => some (Value.bool b)) hg18) rfl) ?_
 refine Tops_step rfl (OpT_assign rfl rfl rfl rfl) ?_
 refine Tops_nil (Tk_wkS (fr' := [(0, some (vB true))]) (own' := []) (shr' := []) [0] [] [] rfl rfl rfl rfl ?_)
 exact Tk_retV rfl rfl (resA (vs := [.bool true]) rfl ⟨rfl, trivial⟩) [] [] rfl rfl rfl ⟨rfl, rfl, rfl⟩
end Go.Proofs.Ytkjmmbmlapmkbaa
