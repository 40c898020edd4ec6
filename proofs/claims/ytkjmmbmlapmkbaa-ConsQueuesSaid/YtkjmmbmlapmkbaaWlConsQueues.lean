/- The law ConsQueues is walked: it returns what its plain words say. No condition. -/
import Derived.Test.YtkjmmbmlapmkbaaWa3
namespace Go.Proofs.Ytkjmmbmlapmkbaa

set_option maxRecDepth 100000 in
set_option maxHeartbeats 4000000 in
theorem w_law28zConsQueues {port : Int} {queue : Int} {fromp2 : Bool}  (h : law28zConsQueues port queue fromp2 = some true) :
  Ctr Try.prog 3 #[vI port, vI queue, vB fromp2] [] []
   (fun rv own shr => rv = .bool true ∧ own = [] ∧ shr = []) := by
 unfold law28zConsQueues at h
 refine Ctr.mk (args := [vI port, vI queue, vB fromp2]) Try.func3 rfl rfl (fun R0 w0 B => ?_)
 refine Tk_seq (Tk_region (Tops_step rfl (OpT_assign rfl rfl rfl rfl) ?_))
 refine Tops_nil (Tk_wkS (fr' := [(0, some (vI port)), (1, some (vI queue)), (2, some (vB fromp2))]) (own' := []) (shr' := []) [0, 1, 2] [] [] rfl rfl rfl rfl ?_)
 refine Tk_seq (Tk_seq (Tk_region ?_))
 obtain ⟨lives1, hx1, h⟩ := ob_e h
 refine Tops_exP rfl (OpT_call (w_law28zlives hx1) [] [] rfl rfl rfl rfl rfl callee8 rfl rfl rfl rfl) ?_
 rintro _ ⟨_, _, _, ⟨rfl, rfl, rfl⟩, rfl⟩
 refine Tops_step rfl (OpT_not rfl rfl rfl rfl) ?_
 refine Tops_nil (Tk_wkS (fr' := [(0, some (vI port)), (1, some (vI queue)), (2, some (vB fromp2)), (14, some (vB (!lives1)))]) (own' := []) (shr' := []) [0, 1, 2, 14] [] [] rfl rfl rfl rfl ?_)
 obtain ⟨hg1, h⟩ := chk_e h
 replace hg1 := not_t hg1
 refine Tk_condF (congrArg (fun b => some (Value.bool b)) hg1) ?_
 refine Tk_skip (Tk_seq (Tk_region (Tops_step rfl (OpT_move rfl rfl rfl rfl) ?_)))
 obtain ⟨pick1, hx2, h⟩ := ob_e h
 refine Tops_exP rfl (OpT_call (w_kit_Pick hx2) [] [] rfl rfl rfl rfl rfl callee9 rfl rfl rfl rfl) ?_
 rintro _ ⟨_, _, _, ⟨rfl, rfl, rfl⟩, rfl⟩
 refine Tops_step rfl (OpT_move rfl rfl rfl rfl) ?_
 obtain ⟨pick2, hx3, h⟩ := ob_e h
 refine Tops_exP rfl (OpT_call (w_kit_Pick hx3) [] [] rfl rfl rfl rfl rfl callee9 rfl rfl rfl rfl) ?_
 rintro _ ⟨_, _, _, ⟨rfl, rfl, rfl⟩, rfl⟩
 refine Tops_step rfl (OpT_assign rfl rfl rfl rfl) ?_
 refine Tops_step rfl (OpT_assign rfl rfl rfl rfl) ?_
 refine Tops_nil (Tk_wkS (fr' := [(0, some (vI pick1)), (1, some (vI pick2)), (2, some (vB fromp2))]) (own' := []) (shr' := []) [0, 1, 2] [] [] rfl rfl rfl rfl ?_)
 refine Tk_seq (Tk_region (Tops_step rfl (OpT_move rfl rfl rfl rfl) ?_))
 refine Tops_step rfl (OpT_move rfl rfl rfl rfl) ?_
 obtain ⟨queue1, hx4, h⟩ := ob_e h
 refine Tops_exP rfl (OpT_call (w_cons_Queue hx4) [] [] rfl rfl rfl rfl rfl callee10 rfl rfl rfl rfl) ?_
 rintro _ ⟨_, _, _, ⟨rfl, rfl, rfl⟩, rfl⟩
 refine Tops_step rfl (OpT_move rfl rfl rfl rfl) ?_
 refine Tops_step rfl (OpT_extract rfl rfl rfl rfl rfl) ?_
 refine Tops_step rfl (OpT_extract rfl rfl rfl rfl rfl) ?_
 refine Tops_step rfl (OpT_assign rfl rfl rfl rfl) ?_
 refine Tops_step rfl (OpT_assign rfl rfl rfl rfl) ?_
 refine Tops_nil (Tk_wkS (fr' := [(0, some (vI pick1)), (1, some (vI pick2)), (2, some (vB fromp2)), (7, some (vI queue1.1)), (8, some (vI queue1.2))]) (own' := []) (shr' := []) [0, 1, 2, 7, 8] [] [] rfl rfl rfl rfl ?_)
 refine Tk_seq (Tk_region (Tops_step rfl (OpT_move rfl rfl rfl rfl) ?_))
 obtain ⟨port1, hx5, h⟩ := ob_e h
 refine Tops_exP rfl (OpT_call (w_cons_Port hx5) [] [] rfl rfl rfl rfl rfl callee11 rfl rfl rfl rfl) ?_
 rintro _ ⟨_, _, _, ⟨rfl, rfl, rfl⟩, rfl⟩
 refine Tops_step rfl (OpT_move rfl rfl rfl rfl) ?_
 refine Tops_step rfl (OpT_extract rfl rfl rfl rfl rfl) ?_
 refine Tops_step rfl (OpT_extract rfl rfl rfl rfl rfl) ?_
 refine Tops_step rfl (OpT_extract rfl rfl rfl rfl rfl) ?_
 refine Tops_step rfl (OpT_extract rfl rfl rfl rfl rfl) ?_
 refine Tops_step rfl (OpT_assign rfl rfl rfl rfl) ?_
 refine Tops_step rfl (OpT_assign rfl rfl rfl rfl) ?_
 refine Tops_step rfl (OpT_assign rfl rfl rfl rfl) ?_
 refine Tops_step rfl (OpT_assign rfl rfl rfl rfl) ?_
 refine Tops_nil (Tk_wkS (fr' := [(0, some (vI pick1)), (1, some (vI pick2)), (2, some (vB fromp2)), (8, some (vI queue1.2)), (9, some (vI port1.1)), (10, some (vB port1.2.1)), (11, some (vB port1.2.2.1)), (12, some (vI port1.2.2.2))]) (own' := []) (shr' := []) [0, 1, 2, 8, 9, 10, 11, 12] [] [] rfl rfl rfl rfl ?_)
 refine Tk_seq (Tk_seq (Tk_region (Tops_step rfl (OpT_move rfl rfl rfl rfl) ?_)))
 refine Tops_step rfl (OpT_bin rfl rfl rfl rfl rfl (bin_neq_i (a := queue1.2) (b := (0 : Int)))) ?_
 refine Tops_step rfl (OpT_move rfl rfl rfl rfl) ?_
 obtain ⟨hg2, h⟩ := chk_e h
 replace hg2 := not_t hg2
 refine Tops_yes rfl rfl (congrArg (fun b => some (Value.bool b)) hg2) (OpT_move rfl rfl rfl rfl) ?_
 rintro _ rfl
 refine Tops_yes rfl rfl (congrArg (fun b => some (Value.bool b)) hg2) (OpT_bin rfl rfl rfl rfl rfl (bin_neq_i (a := port1.2.2.2) (b := (0 : Int)))) ?_
 rintro _ rfl
 refine Tops_step rfl (OpT_pickF rfl rfl rfl (congrArg (fun b => some (Value.bool b)) hg2) rfl) ?_
 refine Tops_step rfl (OpT_move rfl rfl rfl rfl) ?_
 obtain ⟨hg3, h⟩ := chk_e h
 replace hg3 := not_t hg3
 refine Tops_yes rfl rfl (congrArg (fun b => some (Value.bool b)) hg3) (OpT_move rfl rfl rfl rfl) ?_
 rintro _ rfl
 refine Tops_yes rfl rfl (congrArg (fun b => some (Value.bool b)) hg3) (OpT_move rfl rfl rfl rfl) ?_
 rintro _ rfl
 refine Tops_yes rfl rfl (congrArg (fun b => some (Value.bool b)) hg3) (OpT_bin rfl rfl rfl rfl rfl (bin_neq_i (a := port1.1) (b := pick1))) ?_
 rintro _ rfl
 refine Tops_step rfl (OpT_pickF rfl rfl rfl (congrArg (fun b => some (Value.bool b)) hg3) rfl) ?_
 refine Tops_step rfl (OpT_move rfl rfl rfl rfl) ?_
 obtain ⟨hg4, h⟩ := chk_e h
 replace hg4 := not_t hg4
 refine Tops_yes rfl rfl (congrArg (fun b => some (Value.bool b)) hg4) (OpT_move rfl rfl rfl rfl) ?_
 rintro _ rfl
 refine Tops_yes rfl rfl (congrArg (fun b => some (Value.bool b)) hg4) (OpT_move rfl rfl rfl rfl) ?_
 rintro _ rfl
 refine Tops_yes rfl rfl (congrArg (fun b => some (Value.bool b)) hg4) (OpT_bin rfl rfl rfl rfl rfl (bin_neq_b (a := port1.2.1) (b := fromp2) Try.underlying4)) ?_
 rintro _ rfl
 refine Tops_step rfl (OpT_pickF rfl rfl rfl (congrArg (fun b => some (Value.bool b)) hg4) rfl) ?_
 refine Tops_step rfl (OpT_move rfl rfl rfl rfl) ?_
 obtain ⟨hg5, h⟩ := chk_e h
 replace hg5 := not_t hg5
 refine Tops_yes rfl rfl (congrArg (fun b => some (Value.bool b)) hg5) (OpT_move rfl rfl rfl rfl) ?_
 rintro _ rfl
 refine Tops_step rfl (OpT_pickF rfl rfl rfl (congrArg (fun b => some (Value.bool b)) hg5) rfl) ?_
 refine Tops_nil (Tk_wkS (fr' := [(1, some (vI pick2)), (50, some (vB port1.2.2.1))]) (own' := []) (shr' := []) [1, 50] [] [] rfl rfl rfl rfl ?_)
 obtain ⟨hg6, h⟩ := chk_e h
 replace hg6 := not_t hg6
 refine Tk_condF (congrArg (fun b => some (Value.bool b)) hg6) ?_
 refine Tk_skip (Tk_seq (Tk_region (Tops_step rfl (OpT_move rfl rfl rfl rfl) ?_)))
 obtain ⟨port2, hx6, h⟩ := ob_e h
 refine Tops_exP rfl (OpT_call (w_cons_Port hx6) [] [] rfl rfl rfl rfl rfl callee11 rfl rfl rfl rfl) ?_
 rintro _ ⟨_, _, _, ⟨rfl, rfl, rfl⟩, rfl⟩
 refine Tops_step rfl (OpT_move rfl rfl rfl rfl) ?_
 refine Tops_step rfl (OpT_extract rfl rfl rfl rfl rfl) ?_
 refine Tops_step rfl (OpT_extract rfl rfl rfl rfl rfl) ?_
 refine Tops_step rfl (OpT_extract rfl rfl rfl rfl rfl) ?_
 refine Tops_step rfl (OpT_extract rfl rfl rfl rfl rfl) ?_
 refine Tops_step rfl (OpT_assign rfl rfl rfl rfl) ?_
 refine Tops_step rfl (OpT_assign rfl rfl rfl rfl) ?_
 refine Tops_step rfl (OpT_assign rfl rfl rfl rfl) ?_
 refine Tops_step rfl (OpT_assign rfl rfl rfl rfl) ?_
 refine Tops_nil (Tk_wkS (fr' := [(1, some (vI pick2)), (9, some (vI port2.1)), (10, some (vB port2.2.1)), (11, some (vB port2.2.2.1)), (12, some (vI port2.2.2.2))]) (own' := []) (shr' := []) [1, 9, 10, 11, 12] [] [] rfl rfl rfl rfl ?_)
 refine Tk_seq (Tk_seq (Tk_region (Tops_step rfl (OpT_move rfl rfl rfl rfl) ?_)))
 refine Tops_step rfl (OpT_bin rfl rfl rfl rfl rfl (bin_neq_i (a := port2.2.2.2) (b := (0 : Int)))) ?_
 refine Tops_step rfl (OpT_move rfl rfl rfl rfl) ?_
 obtain ⟨hg7, h⟩ := chk_e h
 replace hg7 := not_t hg7
 refine Tops_yes rfl rfl (congrArg (fun b => some (Value.bool b)) hg7) (OpT_move rfl rfl rfl rfl) ?_
 rintro _ rfl
 refine Tops_yes rfl rfl (congrArg (fun b => some (Value.bool b)) hg7) (OpT_move rfl rfl rfl rfl) ?_
 rintro _ rfl
 refine Tops_yes rfl rfl (congrArg (fun b => some (Value.bool b)) hg7) (OpT_bin rfl rfl rfl rfl rfl (bin_eql_i (a := pick2) (b := (2 : Int)))) ?_
 rintro _ rfl
 refine Tops_yes rfl rfl (congrArg (fun b => some (Value.bool b)) hg7) (OpT_move rfl rfl rfl rfl) ?_
 rintro _ rfl
 rcases Bool.eq_false_or_eq_true (pick2 == (2 : Int)) with hg8 | hg8
 ·replace h := br_t hg8 h
  refine Tops_no rfl rfl (congrArg (fun b => some (Value.bool b)) hg8) rfl rfl ?_
  refine Tops_no rfl rfl (congrArg (fun b => some (Value.bool b)) hg8) rfl rfl ?_
  refine Tops_yes rfl rfl (congrArg (fun b => some (Value.bool b)) hg7) (OpT_pickT rfl rfl rfl (congrArg (fun b => some (Value.bool b)) hg8) rfl) ?_
  rintro _ rfl
  refine Tops_yes rfl rfl (congrArg (fun b => some (Value.bool b)) hg7) (OpT_bin rfl rfl rfl rfl rfl (bin_neq_b (a := port2.2.2.1) (b := true) Try.underlying4)) ?_
  rintro _ rfl
  refine Tops_step rfl (OpT_pickF rfl rfl rfl (congrArg (fun b => some (Value.bool b)) hg7) rfl) ?_
  refine Tops_step rfl (OpT_move rfl rfl rfl rfl) ?_
  obtain ⟨hg9, h⟩ := chk_e h
  replace hg9 := not_t hg9
  refine Tops_yes rfl rfl (congrArg (fun b => some (Value.bool b)) hg9) (OpT_move rfl rfl rfl rfl) ?_
  rintro _ rfl
  refine Tops_yes rfl rfl (congrArg (fun b => some (Value.bool b)) hg9) (OpT_move rfl rfl rfl rfl) ?_
  rintro _ rfl
  refine Tops_yes rfl rfl (congrArg (fun b => some (Value.bool b)) hg9) (OpT_bin rfl rfl rfl rfl rfl (bin_rem_i (a := pick2) (b := (2 : Int)) rfl)) ?_
  rintro _ rfl
  refine Tops_yes rfl rfl (congrArg (fun b => some (Value.bool b)) hg9) (OpT_bin rfl rfl rfl rfl rfl (bin_eql_i (a := remi pick2 (2 : Int)) (b := (1 : Int)))) ?_
  rintro _ rfl
  refine Tops_yes rfl rfl (congrArg (fun b => some (Value.bool b)) hg9) (OpT_bin rfl rfl rfl rfl rfl (bin_neq_b (a := port2.2.1) (b := (remi pick2 (2 : Int)) == (1 : Int)) Try.underlying4)) ?_
  rintro _ rfl
  refine Tops_step rfl (OpT_pickF rfl rfl rfl (congrArg (fun b => some (Value.bool b)) hg9) rfl) ?_
  refine Tops_nil (Tk_wkS (fr' := [(1, some (vI pick2)), (9, some (vI port2.1)), (10, some (vB port2.2.1)), (11, some (vB port2.2.2.1)), (76, some (vB (port2.2.1 != ((remi pick2 (2 : Int)) == (1 : Int)))))]) (own' := []) (shr' := []) [1, 9, 10, 11, 76] [] [] rfl rfl rfl rfl ?_)
  obtain ⟨hg10, h⟩ := chk_e h
  replace hg10 := not_t hg10
  refine Tk_condF (congrArg (fun b => some (Value.bool b)) hg10) ?_
  refine Tk_skip (Tk_seq (Tk_region (Tops_step rfl (OpT_move rfl rfl rfl rfl) ?_)))
  refine Tops_step rfl (OpT_move rfl rfl rfl rfl) ?_
  obtain ⟨queue2, hx7, h⟩ := ob_e h
  refine Tops_exP rfl (OpT_call (w_cons_Queue hx7) [] [] rfl rfl rfl rfl rfl callee10 rfl rfl rfl rfl) ?_
  rintro _ ⟨_, _, _, ⟨rfl, rfl, rfl⟩, rfl⟩
  refine Tops_step rfl (OpT_move rfl rfl rfl rfl) ?_
  refine Tops_step rfl (OpT_extract rfl rfl rfl rfl rfl) ?_
  refine Tops_step rfl (OpT_extract rfl rfl rfl rfl rfl) ?_
  refine Tops_step rfl (OpT_assign rfl rfl rfl rfl) ?_
  refine Tops_step rfl (OpT_assign rfl rfl rfl rfl) ?_
  refine Tops_nil (Tk_wkS (fr' := [(1, some (vI pick2)), (9, some (vI port2.1)), (11, some (vB port2.2.2.1)), (7, some (vI queue2.1)), (8, some (vI queue2.2))]) (own' := []) (shr' := []) [1, 9, 11, 7, 8] [] [] rfl rfl rfl rfl ?_)
  refine Tk_seq (Tk_region (Tops_step rfl (OpT_move rfl rfl rfl rfl) ?_))
  refine Tops_step rfl (OpT_move rfl rfl rfl rfl) ?_
  rcases Bool.eq_false_or_eq_true (port2.2.2.1) with hg11 | hg11
  ·replace h := br_t hg11 h
   refine Tops_yes rfl rfl (congrArg (fun b => some (Value.bool b)) hg11) (OpT_move rfl rfl rfl rfl) ?_
   rintro _ rfl
   refine Tops_yes rfl rfl (congrArg (fun b => some (Value.bool b)) hg11) (OpT_bin rfl rfl rfl rfl rfl (bin_eql_i (a := port2.1) (b := (0 : Int)))) ?_
   rintro _ rfl
   refine Tops_step rfl (OpT_pickT rfl rfl rfl (congrArg (fun b => some (Value.bool b)) hg11) rfl) ?_
   refine Tops_step rfl (OpT_move rfl rfl rfl rfl) ?_
   obtain ⟨hg12, h⟩ := chk_e h
   refine Tops_no rfl rfl (congrArg (fun b => some (Value.bool b)) hg12) rfl rfl ?_
   refine Tops_no rfl rfl (congrArg (fun b => some (Value.bool b)) hg12) rfl rfl ?_
   refine Tops_no rfl rfl (congrArg (fun b => some (Value.bool b)) hg12) rfl rfl ?_
   refine Tops_noU rfl rfl rfl rfl rfl ?_
   refine Tops_noU rfl rfl rfl rfl rfl ?_
   refine Tops_no rfl rfl (congrArg (fun b => some (Value.bool b)) hg12) rfl rfl ?_
   refine Tops_no rfl rfl (congrArg (fun b => some (Value.bool b)) hg12) rfl rfl ?_
   refine Tops_noU rfl rfl rfl rfl rfl ?_
   refine Tops_noU rfl rfl rfl rfl rfl ?_
   refine Tops_noU rfl rfl rfl rfl rfl ?_
   refine Tops_no rfl rfl (congrArg (fun b => some (Value.bool b)) hg12) rfl rfl ?_
   refine Tops_step rfl (OpT_pickT rfl rfl rfl (congrArg (fun b => some (Value.bool b)) hg12) rfl) ?_
   refine Tops_step rfl (OpT_assign rfl rfl rfl rfl) ?_
   refine Tops_nil (Tk_wkS (fr' := [(6, some (vB true))]) (own' := []) (shr' := []) [6] [] [] rfl rfl rfl rfl ?_)
   exact Tk_retV rfl rfl (resA (vs := [.bool true]) rfl ⟨rfl, trivial⟩) [] [] rfl rfl rfl ⟨rfl, rfl, rfl⟩
  ·replace h := br_f hg11 h
   refine Tops_no rfl rfl (congrArg (fun b => some (Value.bool b)) hg11) rfl rfl ?_
   refine Tops_no rfl rfl (congrArg (fun b => some (Value.bool b)) hg11) rfl rfl ?_
   refine Tops_step rfl (OpT_pickF rfl rfl rfl (congrArg (fun b => some (Value.bool b)) hg11) rfl) ?_
   refine Tops_step rfl (OpT_move rfl rfl rfl rfl) ?_
   refine Tops_yes rfl rfl rfl (OpT_move rfl rfl rfl rfl) ?_
   rintro _ rfl
   refine Tops_yes rfl rfl rfl (OpT_not rfl rfl rfl rfl) ?_
   rintro _ rfl
   refine Tops_yes rfl rfl rfl (OpT_move rfl rfl rfl rfl) ?_
   rintro _ rfl
   refine Tops_yes rfl rfl (congrArg (fun b => some (Value.bool b)) (congrArg (!·) hg11)) (OpT_move rfl rfl rfl rfl) ?_
   rintro _ rfl
   refine Tops_yes rfl rfl (congrArg (fun b => some (Value.bool b)) (congrArg (!·) hg11)) (OpT_bin rfl rfl rfl rfl rfl (bin_eql_i (a := queue2.2) (b := (0 : Int)))) ?_
   rintro _ rfl
   refine Tops_yes rfl rfl rfl (OpT_pickT rfl rfl rfl (congrArg (fun b => some (Value.bool b)) (congrArg (!·) hg11)) rfl) ?_
   rintro _ rfl
   refine Tops_yes rfl rfl rfl (OpT_move rfl rfl rfl rfl) ?_
   rintro _ rfl
   obtain ⟨hg13, h⟩ := chk_e h
   refine Tops_yes rfl rfl (congrArg (fun b => some (Value.bool b)) hg13) (OpT_move rfl rfl rfl rfl) ?_
   rintro _ rfl
   refine Tops_yes rfl rfl (congrArg (fun b => some (Value.bool b)) hg13) (OpT_move rfl rfl rfl rfl) ?_
   rintro _ rfl
   refine Tops_yes rfl rfl (congrArg (fun b => some (Value.bool b)) hg13) (OpT_bin rfl rfl rfl rfl rfl (bin_eql_i (a := queue2.1) (b := pick2))) ?_
   rintro _ rfl
   refine Tops_yes rfl rfl rfl (OpT_pickT rfl rfl rfl (congrArg (fun b => some (Value.bool b)) hg13) rfl) ?_
   rintro _ rfl
   refine Tops_step rfl (OpT_pickF rfl rfl rfl rfl rfl) ?_
   refine Tops_step rfl (OpT_assign rfl rfl rfl rfl) ?_
   refine Tops_nil (Tk_wkS (fr' := [(6, some (vB (queue2.1 == pick2)))]) (own' := []) (shr' := []) [6] [] [] rfl rfl rfl rfl ?_)
   obtain ⟨hg14, h⟩ := chk_e h
   exact Tk_retV rfl rfl (resA (vs := [.bool true]) rfl ⟨(congrArg (fun b => some (Value.bool b)) hg14), trivial⟩) [] [] rfl rfl rfl ⟨rfl, rfl, rfl⟩
 ·replace h := br_f hg8 h
  refine Tops_yes rfl rfl (congrArg (fun b => some (Value.bool b)) hg8) (OpT_move rfl rfl rfl rfl) ?_
  rintro _ rfl
  refine Tops_yes rfl rfl (congrArg (fun b => some (Value.bool b)) hg8) (OpT_bin rfl rfl rfl rfl rfl (bin_eql_i (a := pick2) (b := (3 : Int)))) ?_
  rintro _ rfl
  refine Tops_yes rfl rfl (congrArg (fun b => some (Value.bool b)) hg7) (OpT_pickF rfl rfl rfl (congrArg (fun b => some (Value.bool b)) hg8) rfl) ?_
  rintro _ rfl
  refine Tops_yes rfl rfl (congrArg (fun b => some (Value.bool b)) hg7) (OpT_bin rfl rfl rfl rfl rfl (bin_neq_b (a := port2.2.2.1) (b := pick2 == (3 : Int)) Try.underlying4)) ?_
  rintro _ rfl
  refine Tops_step rfl (OpT_pickF rfl rfl rfl (congrArg (fun b => some (Value.bool b)) hg7) rfl) ?_
  refine Tops_step rfl (OpT_move rfl rfl rfl rfl) ?_
  obtain ⟨hg15, h⟩ := chk_e h
  replace hg15 := not_t hg15
  refine Tops_yes rfl rfl (congrArg (fun b => some (Value.bool b)) hg15) (OpT_move rfl rfl rfl rfl) ?_
  rintro _ rfl
  refine Tops_yes rfl rfl (congrArg (fun b => some (Value.bool b)) hg15) (OpT_move rfl rfl rfl rfl) ?_
  rintro _ rfl
  refine Tops_yes rfl rfl (congrArg (fun b => some (Value.bool b)) hg15) (OpT_bin rfl rfl rfl rfl rfl (bin_rem_i (a := pick2) (b := (2 : Int)) rfl)) ?_
  rintro _ rfl
  refine Tops_yes rfl rfl (congrArg (fun b => some (Value.bool b)) hg15) (OpT_bin rfl rfl rfl rfl rfl (bin_eql_i (a := remi pick2 (2 : Int)) (b := (1 : Int)))) ?_
  rintro _ rfl
  refine Tops_yes rfl rfl (congrArg (fun b => some (Value.bool b)) hg15) (OpT_bin rfl rfl rfl rfl rfl (bin_neq_b (a := port2.2.1) (b := (remi pick2 (2 : Int)) == (1 : Int)) Try.underlying4)) ?_
  rintro _ rfl
  refine Tops_step rfl (OpT_pickF rfl rfl rfl (congrArg (fun b => some (Value.bool b)) hg15) rfl) ?_
  refine Tops_nil (Tk_wkS (fr' := [(1, some (vI pick2)), (9, some (vI port2.1)), (10, some (vB port2.2.1)), (11, some (vB port2.2.2.1)), (76, some (vB (port2.2.1 != ((remi pick2 (2 : Int)) == (1 : Int)))))]) (own' := []) (shr' := []) [1, 9, 10, 11, 76] [] [] rfl rfl rfl rfl ?_)
  obtain ⟨hg16, h⟩ := chk_e h
  replace hg16 := not_t hg16
  refine Tk_condF (congrArg (fun b => some (Value.bool b)) hg16) ?_
  refine Tk_skip (Tk_seq (Tk_region (Tops_step rfl (OpT_move rfl rfl rfl rfl) ?_)))
  refine Tops_step rfl (OpT_move rfl rfl rfl rfl) ?_
  obtain ⟨queue3, hx8, h⟩ := ob_e h
  refine Tops_exP rfl (OpT_call (w_cons_Queue hx8) [] [] rfl rfl rfl rfl rfl callee10 rfl rfl rfl rfl) ?_
  rintro _ ⟨_, _, _, ⟨rfl, rfl, rfl⟩, rfl⟩
  refine Tops_step rfl (OpT_move rfl rfl rfl rfl) ?_
  refine Tops_step rfl (OpT_extract rfl rfl rfl rfl rfl) ?_
  refine Tops_step rfl (OpT_extract rfl rfl rfl rfl rfl) ?_
  refine Tops_step rfl (OpT_assign rfl rfl rfl rfl) ?_
  refine Tops_step rfl (OpT_assign rfl rfl rfl rfl) ?_
  refine Tops_nil (Tk_wkS (fr' := [(1, some (vI pick2)), (9, some (vI port2.1)), (11, some (vB port2.2.2.1)), (7, some (vI queue3.1)), (8, some (vI queue3.2))]) (own' := []) (shr' := []) [1, 9, 11, 7, 8] [] [] rfl rfl rfl rfl ?_)
  refine Tk_seq (Tk_region (Tops_step rfl (OpT_move rfl rfl rfl rfl) ?_))
  refine Tops_step rfl (OpT_move rfl rfl rfl rfl) ?_
  rcases Bool.eq_false_or_eq_true (port2.2.2.1) with hg17 | hg17
  ·replace h := br_t hg17 h
   refine Tops_yes rfl rfl (congrArg (fun b => some (Value.bool b)) hg17) (OpT_move rfl rfl rfl rfl) ?_
   rintro _ rfl
   refine Tops_yes rfl rfl (congrArg (fun b => some (Value.bool b)) hg17) (OpT_bin rfl rfl rfl rfl rfl (bin_eql_i (a := port2.1) (b := (0 : Int)))) ?_
   rintro _ rfl
   refine Tops_step rfl (OpT_pickT rfl rfl rfl (congrArg (fun b => some (Value.bool b)) hg17) rfl) ?_
   refine Tops_step rfl (OpT_move rfl rfl rfl rfl) ?_
   obtain ⟨hg18, h⟩ := chk_e h
   refine Tops_no rfl rfl (congrArg (fun b => some (Value.bool b)) hg18) rfl rfl ?_
   refine Tops_no rfl rfl (congrArg (fun b => some (Value.bool b)) hg18) rfl rfl ?_
   refine Tops_no rfl rfl (congrArg (fun b => some (Value.bool b)) hg18) rfl rfl ?_
   refine Tops_noU rfl rfl rfl rfl rfl ?_
   refine Tops_noU rfl rfl rfl rfl rfl ?_
   refine Tops_no rfl rfl (congrArg (fun b => some (Value.bool b)) hg18) rfl rfl ?_
   refine Tops_no rfl rfl (congrArg (fun b => some (Value.bool b)) hg18) rfl rfl ?_
   refine Tops_noU rfl rfl rfl rfl rfl ?_
   refine Tops_noU rfl rfl rfl rfl rfl ?_
   refine Tops_noU rfl rfl rfl rfl rfl ?_
   refine Tops_no rfl rfl (congrArg (fun b => some (Value.bool b)) hg18) rfl rfl ?_
   refine Tops_step rfl (OpT_pickT rfl rfl rfl (congrArg (fun b => some (Value.bool b)) hg18) rfl) ?_
   refine Tops_step rfl (OpT_assign rfl rfl rfl rfl) ?_
   refine Tops_nil (Tk_wkS (fr' := [(6, some (vB true))]) (own' := []) (shr' := []) [6] [] [] rfl rfl rfl rfl ?_)
   exact Tk_retV rfl rfl (resA (vs := [.bool true]) rfl ⟨rfl, trivial⟩) [] [] rfl rfl rfl ⟨rfl, rfl, rfl⟩
  ·replace h := br_f hg17 h
   refine Tops_no rfl rfl (congrArg (fun b => some (Value.bool b)) hg17) rfl rfl ?_
   refine Tops_no rfl rfl (congrArg (fun b => some (Value.bool b)) hg17) rfl rfl ?_
   refine Tops_step rfl (OpT_pickF rfl rfl rfl (congrArg (fun b => some (Value.bool b)) hg17) rfl) ?_
   refine Tops_step rfl (OpT_move rfl rfl rfl rfl) ?_
   refine Tops_yes rfl rfl rfl (OpT_move rfl rfl rfl rfl) ?_
   rintro _ rfl
   refine Tops_yes rfl rfl rfl (OpT_not rfl rfl rfl rfl) ?_
   rintro _ rfl
   refine Tops_yes rfl rfl rfl (OpT_move rfl rfl rfl rfl) ?_
   rintro _ rfl
   refine Tops_yes rfl rfl (congrArg (fun b => some (Value.bool b)) (congrArg (!·) hg17)) (OpT_move rfl rfl rfl rfl) ?_
   rintro _ rfl
   refine Tops_yes rfl rfl (congrArg (fun b => some (Value.bool b)) (congrArg (!·) hg17)) (OpT_bin rfl rfl rfl rfl rfl (bin_eql_i (a := queue3.2) (b := (0 : Int)))) ?_
   rintro _ rfl
   refine Tops_yes rfl rfl rfl (OpT_pickT rfl rfl rfl (congrArg (fun b => some (Value.bool b)) (congrArg (!·) hg17)) rfl) ?_
   rintro _ rfl
   refine Tops_yes rfl rfl rfl (OpT_move rfl rfl rfl rfl) ?_
   rintro _ rfl
   obtain ⟨hg19, h⟩ := chk_e h
   refine Tops_yes rfl rfl (congrArg (fun b => some (Value.bool b)) hg19) (OpT_move rfl rfl rfl rfl) ?_
   rintro _ rfl
   refine Tops_yes rfl rfl (congrArg (fun b => some (Value.bool b)) hg19) (OpT_move rfl rfl rfl rfl) ?_
   rintro _ rfl
   refine Tops_yes rfl rfl (congrArg (fun b => some (Value.bool b)) hg19) (OpT_bin rfl rfl rfl rfl rfl (bin_eql_i (a := queue3.1) (b := pick2))) ?_
   rintro _ rfl
   refine Tops_yes rfl rfl rfl (OpT_pickT rfl rfl rfl (congrArg (fun b => some (Value.bool b)) hg19) rfl) ?_
   rintro _ rfl
   refine Tops_step rfl (OpT_pickF rfl rfl rfl rfl rfl) ?_
   refine Tops_step rfl (OpT_assign rfl rfl rfl rfl) ?_
   refine Tops_nil (Tk_wkS (fr' := [(6, some (vB (queue3.1 == pick2)))]) (own' := []) (shr' := []) [6] [] [] rfl rfl rfl rfl ?_)
   obtain ⟨hg20, h⟩ := chk_e h
   exact Tk_retV rfl rfl (resA (vs := [.bool true]) rfl ⟨(congrArg (fun b => some (Value.bool b)) hg20), trivial⟩) [] [] rfl rfl rfl ⟨rfl, rfl, rfl⟩
end Go.Proofs.Ytkjmmbmlapmkbaa
