/- The functions do what the plain words say: each is walked once. No statement of the seat is proved here; no condition. -/
import Derived.Test.YtecmlfmbmligeaaWa2
namespace Go.Proofs.Ytecmlfmbmligeaa

set_option maxRecDepth 100000 in
set_option maxHeartbeats 4000000 in
theorem w_gmem_Mem_maden0  {r : Bool} (h : gmem_Mem_maden0 = some r) :
  Ctr Try.prog 34 #[.pointer none] [] []
   (fun rv own shr => rv = vB r ∧ own = [] ∧ shr = []) := by
 unfold gmem_Mem_maden0 at h
 refine Ctr.mk (args := [.pointer none]) Try.func34 rfl rfl (fun R0 w0 B => ?_)
 refine Tk_seq (Tk_region (Tops_step rfl (OpT_assign rfl rfl rfl rfl) ?_))
 refine Tops_nil (Tk_wkS (fr' := [(0, some (.pointer none))]) (own' := []) (shr' := []) [0] [] [] rfl rfl rfl rfl ?_)
 refine Tk_seq (Tk_region (Tops_step rfl (OpT_move rfl rfl rfl rfl) ?_))
 refine Tops_step rfl (OpT_ptrNil rfl rfl rfl (.inr rfl) rfl rfl ptrF30) ?_
 refine Tops_step rfl (OpT_move rfl rfl rfl rfl) ?_
 refine Tops_no rfl rfl rfl rfl rfl ?_
 refine Tops_no rfl rfl rfl rfl rfl ?_
 refine Tops_no rfl rfl rfl rfl rfl ?_
 refine Tops_no rfl rfl rfl rfl rfl ?_
 refine Tops_no rfl rfl rfl rfl rfl ?_
 refine Tops_step rfl (OpT_pickF rfl rfl rfl rfl rfl) ?_
 refine Tops_step rfl (OpT_assign rfl rfl rfl rfl) ?_
 refine Tops_nil (Tk_wkS (fr' := [(2, some (vB false))]) (own' := []) (shr' := []) [2] [] [] rfl rfl rfl rfl ?_)
 obtain rfl := Option.some.inj h
 exact Tk_retV rfl rfl (resA (vs := [vB false]) rfl ⟨rfl, trivial⟩) [] [] rfl rfl rfl ⟨rfl, rfl, rfl⟩

set_option maxRecDepth 100000 in
set_option maxHeartbeats 4000000 in
theorem w_gmem_Mem_Loadn0 {atp1 : UInt64} {bytes : Int} {r : (UInt64 × Int)} (h : gmem_Mem_Loadn0 atp1 bytes = some r) :
  Ctr Try.prog 16 #[.pointer none, vU64 atp1, vI bytes] [] []
   (fun rv own shr => rv = .tuple #[vU64 r.1, vI r.2] ∧ own = [] ∧ shr = []) := by
 unfold gmem_Mem_Loadn0 at h
 refine Ctr.mk (args := [.pointer none, vU64 atp1, vI bytes]) Try.func16 rfl rfl (fun R0 w0 B => ?_)
 refine Tk_seq (Tk_region (Tops_step rfl (OpT_assign rfl rfl rfl rfl) ?_))
 refine Tops_step rfl (OpT_assign rfl rfl rfl rfl) ?_
 refine Tops_nil (Tk_wkS (fr' := [(0, some (.pointer none)), (1, some (vU64 atp1)), (2, some (vI bytes))]) (own' := []) (shr' := []) [0, 1, 2] [] [] rfl rfl rfl rfl ?_)
 refine Tk_seq (Tk_seq (Tk_region (Tops_step rfl (OpT_move rfl rfl rfl rfl) ?_)))
 obtain ⟨made1, hx1, h⟩ := ob_e h
 refine Tops_exP rfl (OpT_call (w_gmem_Mem_maden0 hx1) [] [] rfl rfl rfl rfl rfl callee34 rfl rfl rfl rfl) ?_
 rintro _ ⟨_, _, _, ⟨rfl, rfl, rfl⟩, rfl⟩
 refine Tops_step rfl (OpT_not rfl rfl rfl rfl) ?_
 refine Tops_nil (Tk_wkS (fr' := [(0, some (.pointer none)), (1, some (vU64 atp1)), (2, some (vI bytes)), (13, some (vB (!made1)))]) (own' := []) (shr' := []) [0, 1, 2, 13] [] [] rfl rfl rfl rfl ?_)
 refine Tk_condT (congrArg (fun b => some (Value.bool b)) (congrArg (!·) (Option.some.inj (show some false = some made1 from hx1)).symm)) ?_
 refine Tk_seq (Tk_region (Tops_step rfl (OpT_assign rfl rfl rfl rfl) ?_))
 refine Tops_step rfl (OpT_assign rfl rfl rfl rfl) ?_
 refine Tops_nil (Tk_wkS (fr' := [(6, some (vU64 (0 : UInt64))), (7, some (vI (1 : Int)))]) (own' := []) (shr' := []) [6, 7] [] [] rfl rfl rfl rfl ?_)
 obtain rfl := Option.some.inj h
 exact Tk_retV rfl rfl (resA (vs := [vU64 (0 : UInt64), vI (1 : Int)]) rfl ⟨rfl, rfl, trivial⟩) [] [] rfl rfl rfl ⟨rfl, rfl, rfl⟩

set_option maxRecDepth 100000 in
set_option maxHeartbeats 4000000 in
theorem w_ref_Mem_find02n0 {atp1 : UInt64} {np2 : UInt64} {r : (Int × Int)} (h : ref_Mem_find02n0 atp1 np2 = some r) :
  Ctr Try.prog 40 #[.pointer none, vU64 atp1, vU64 np2] [] []
   (fun rv own shr => rv = .tuple #[vI r.1, vI r.2] ∧ own = [] ∧ shr = []) := by
 unfold ref_Mem_find02n0 at h
 refine Ctr.mk (args := [.pointer none, vU64 atp1, vU64 np2]) Try.func40 rfl rfl (fun R0 w0 B => ?_)
 refine Tk_seq (Tk_region (Tops_step rfl (OpT_assign rfl rfl rfl rfl) ?_))
 refine Tops_step rfl (OpT_assign rfl rfl rfl rfl) ?_
 refine Tops_nil (Tk_wkS (fr' := [(0, some (.pointer none)), (1, some (vU64 atp1)), (2, some (vU64 np2))]) (own' := []) (shr' := []) [0, 1, 2] [] [] rfl rfl rfl rfl ?_)
 refine Tk_seq (Tk_seq (Tk_region (Tops_step rfl (OpT_assign rfl rfl rfl rfl) ?_)))
 refine Tops_nil (Tk_block (Tk_loopS (σ := Int) [0, 1, 2, 8] [] [] (fun s => ⟨[(0, some (.pointer none)), (1, some (vU64 atp1)), (2, some (vU64 np2)), (8, some (vI s))], [], []⟩) (fun nf1 s => ref_Mem_find02n0L1 nf1 s = some r) fuel (0 : Int) h rfl rfl rfl rfl rfl (fun s h => by cases h) ?_))
 rintro nf1 i1 h
 replace h : ref_Mem_find02n0L1B (ref_Mem_find02n0L1 nf1) i1 = some r := h
 unfold ref_Mem_find02n0L1B at h
 cases h

set_option maxRecDepth 100000 in
set_option maxHeartbeats 4000000 in
theorem w_ref_Mem_Load02n0 {atp1 : UInt64} {bytes : Int} {r : (UInt64 × Int)} (h : ref_Mem_Load02n0 atp1 bytes = some r) :
  Ctr Try.prog 24 #[.pointer none, vU64 atp1, vI bytes] [] []
   (fun rv own shr => rv = .tuple #[vU64 r.1, vI r.2] ∧ own = [] ∧ shr = []) := by
 unfold ref_Mem_Load02n0 at h
 refine Ctr.mk (args := [.pointer none, vU64 atp1, vI bytes]) Try.func24 rfl rfl (fun R0 w0 B => ?_)
 refine Tk_seq (Tk_region (Tops_step rfl (OpT_assign rfl rfl rfl rfl) ?_))
 refine Tops_step rfl (OpT_assign rfl rfl rfl rfl) ?_
 refine Tops_nil (Tk_wkS (fr' := [(0, some (.pointer none)), (1, some (vU64 atp1)), (2, some (vI bytes))]) (own' := []) (shr' := []) [0, 1, 2] [] [] rfl rfl rfl rfl ?_)
 refine Tk_seq (Tk_seq (Tk_region (Tops_step rfl (OpT_move rfl rfl rfl rfl) ?_)))
 refine Tops_step rfl (OpT_bin rfl rfl rfl rfl rfl (bin_neq_i (a := bytes) (b := (1 : Int)))) ?_
 refine Tops_step rfl (OpT_move rfl rfl rfl rfl) ?_
 rcases Bool.eq_false_or_eq_true (bytes != (1 : Int)) with hg1 | hg1
 ·replace h := br_t hg1 h
  refine Tops_yes rfl rfl (congrArg (fun b => some (Value.bool b)) hg1) (OpT_move rfl rfl rfl rfl) ?_
  rintro _ rfl
  refine Tops_yes rfl rfl (congrArg (fun b => some (Value.bool b)) hg1) (OpT_bin rfl rfl rfl rfl rfl (bin_neq_i (a := bytes) (b := (2 : Int)))) ?_
  rintro _ rfl
  refine Tops_step rfl (OpT_pickT rfl rfl rfl (congrArg (fun b => some (Value.bool b)) hg1) rfl) ?_
  refine Tops_step rfl (OpT_move rfl rfl rfl rfl) ?_
  rcases Bool.eq_false_or_eq_true (bytes != (2 : Int)) with hg2 | hg2
  ·replace h := br_t hg2 h
   refine Tops_yes rfl rfl (congrArg (fun b => some (Value.bool b)) hg2) (OpT_move rfl rfl rfl rfl) ?_
   rintro _ rfl
   refine Tops_yes rfl rfl (congrArg (fun b => some (Value.bool b)) hg2) (OpT_bin rfl rfl rfl rfl rfl (bin_neq_i (a := bytes) (b := (4 : Int)))) ?_
   rintro _ rfl
   refine Tops_step rfl (OpT_pickT rfl rfl rfl (congrArg (fun b => some (Value.bool b)) hg2) rfl) ?_
   refine Tops_step rfl (OpT_move rfl rfl rfl rfl) ?_
   rcases Bool.eq_false_or_eq_true (bytes != (4 : Int)) with hg3 | hg3
   ·replace h := br_t hg3 h
    refine Tops_yes rfl rfl (congrArg (fun b => some (Value.bool b)) hg3) (OpT_move rfl rfl rfl rfl) ?_
    rintro _ rfl
    refine Tops_yes rfl rfl (congrArg (fun b => some (Value.bool b)) hg3) (OpT_bin rfl rfl rfl rfl rfl (bin_neq_i (a := bytes) (b := (8 : Int)))) ?_
    rintro _ rfl
    refine Tops_step rfl (OpT_pickT rfl rfl rfl (congrArg (fun b => some (Value.bool b)) hg3) rfl) ?_
    refine Tops_nil (Tk_wkS (fr' := [(0, some (.pointer none)), (1, some (vU64 atp1)), (2, some (vI bytes)), (25, some (vB (bytes != (8 : Int))))]) (own' := []) (shr' := []) [0, 1, 2, 25] [] [] rfl rfl rfl rfl ?_)
    rcases Bool.eq_false_or_eq_true (bytes != (8 : Int)) with hg4 | hg4
    ·replace h := br_t hg4 h
     refine Tk_condT (congrArg (fun b => some (Value.bool b)) hg4) ?_
     refine Tk_seq (Tk_region (Tops_step rfl (OpT_assign rfl rfl rfl rfl) ?_))
     refine Tops_step rfl (OpT_assign rfl rfl rfl rfl) ?_
     refine Tops_nil (Tk_wkS (fr' := [(6, some (vU64 (0 : UInt64))), (7, some (vI (2 : Int)))]) (own' := []) (shr' := []) [6, 7] [] [] rfl rfl rfl rfl ?_)
     obtain rfl := Option.some.inj h
     exact Tk_retV rfl rfl (resA (vs := [vU64 (0 : UInt64), vI (2 : Int)]) rfl ⟨rfl, rfl, trivial⟩) [] [] rfl rfl rfl ⟨rfl, rfl, rfl⟩
    ·replace h := br_f hg4 h
     refine Tk_condF (congrArg (fun b => some (Value.bool b)) hg4) ?_
     refine Tk_skip (Tk_seq (Tk_region (Tops_step rfl (OpT_move rfl rfl rfl rfl) ?_)))
     refine Tops_step rfl (OpT_move rfl rfl rfl rfl) ?_
     refine Tops_step rfl (OpT_move rfl rfl rfl rfl) ?_
     refine Tops_step rfl (OpT_cnv rfl rfl rfl rfl (cnv_i_u64 (n := bytes) Try.underlying3 Try.underlying26)) ?_
     obtain ⟨find1, hx1, h⟩ := ob_e h
     refine Tops_exP rfl (OpT_call (w_ref_Mem_find02n0 hx1) [] [] rfl rfl rfl rfl rfl callee40 rfl rfl rfl rfl) ?_
     rintro _ ⟨_, _, _, ⟨rfl, rfl, rfl⟩, rfl⟩
     refine Tops_step rfl (OpT_move rfl rfl rfl rfl) ?_
     refine Tops_step rfl (OpT_extract rfl rfl rfl rfl rfl) ?_
     refine Tops_step rfl (OpT_extract rfl rfl rfl rfl rfl) ?_
     refine Tops_step rfl (OpT_assign rfl rfl rfl rfl) ?_
     refine Tops_step rfl (OpT_assign rfl rfl rfl rfl) ?_
     refine Tops_nil (Tk_wkS (fr' := [(0, some (.pointer none)), (2, some (vI bytes)), (8, some (vI find1.1)), (9, some (vI find1.2))]) (own' := []) (shr' := []) [0, 2, 8, 9] [] [] rfl rfl rfl rfl ?_)
     refine Tk_seq (Tk_seq (Tk_region (Tops_step rfl (OpT_move rfl rfl rfl rfl) ?_)))
     refine Tops_step rfl (OpT_bin rfl rfl rfl rfl rfl (bin_lss_i (a := find1.1) (b := (0 : Int)))) ?_
     refine Tops_nil (Tk_wkS (fr' := [(0, some (.pointer none)), (2, some (vI bytes)), (8, some (vI find1.1)), (9, some (vI find1.2)), (35, some (vB (decide (find1.1 < (0 : Int)))))]) (own' := []) (shr' := []) [0, 2, 8, 9, 35] [] [] rfl rfl rfl rfl ?_)
     rcases Bool.eq_false_or_eq_true (decide (find1.1 < (0 : Int))) with hg5 | hg5
     ·replace h := br_t hg5 h
      refine Tk_condT (congrArg (fun b => some (Value.bool b)) hg5) ?_
      refine Tk_seq (Tk_region (Tops_step rfl (OpT_assign rfl rfl rfl rfl) ?_))
      refine Tops_step rfl (OpT_assign rfl rfl rfl rfl) ?_
      refine Tops_nil (Tk_wkS (fr' := [(6, some (vU64 (0 : UInt64))), (7, some (vI (5 : Int)))]) (own' := []) (shr' := []) [6, 7] [] [] rfl rfl rfl rfl ?_)
      obtain rfl := Option.some.inj h
      exact Tk_retV rfl rfl (resA (vs := [vU64 (0 : UInt64), vI (5 : Int)]) rfl ⟨rfl, rfl, trivial⟩) [] [] rfl rfl rfl ⟨rfl, rfl, rfl⟩
     ·replace h := br_f hg5 h
      refine Tk_condF (congrArg (fun b => some (Value.bool b)) hg5) ?_
      refine Tk_skip (Tk_seq (Tk_region (Tops_step rfl (OpT_assign rfl rfl rfl rfl) ?_)))
      refine Tops_nil (Tk_wkS (fr' := [(0, some (.pointer none)), (2, some (vI bytes)), (8, some (vI find1.1)), (9, some (vI find1.2)), (10, some (vU64 (0 : UInt64)))]) (own' := []) (shr' := []) [0, 2, 8, 9, 10] [] [] rfl rfl rfl rfl ?_)
      refine Tk_seq (Tk_seq (Tk_region (Tops_step rfl (OpT_move rfl rfl rfl rfl) ?_)))
      refine Tops_step rfl (OpT_bin rfl rfl rfl rfl rfl (bin_sub_i (a := bytes) (b := (1 : Int)))) ?_
      refine Tops_step rfl (OpT_assign rfl rfl rfl rfl) ?_
      refine Tops_nil (Tk_wkS (fr' := [(0, some (.pointer none)), (8, some (vI find1.1)), (9, some (vI find1.2)), (10, some (vU64 (0 : UInt64))), (11, some (vI (wi (bytes - (1 : Int)))))]) (own' := []) (shr' := []) [0, 8, 9, 10, 11] [] [] rfl rfl rfl rfl ?_)
      refine Tk_block (Tk_loopS (σ := UInt64 × Int) [0, 8, 9, 10, 11] [] [] (fun s => ⟨[(0, some (.pointer none)), (8, some (vI find1.1)), (9, some (vI find1.2)), (10, some (vU64 s.1)), (11, some (vI s.2))], [], []⟩) (fun nf1 s => ref_Mem_Load02n0L1 nf1 s.1 s.2 = some r) fuel ((0 : UInt64), wi (bytes - (1 : Int))) h rfl rfl rfl rfl rfl (fun s h => by cases h) ?_)
      rintro nf1 ⟨v1, n1⟩ h
      replace h : ref_Mem_Load02n0L1B (ref_Mem_Load02n0L1 nf1) v1 n1 = some r := h
      unfold ref_Mem_Load02n0L1B at h
      refine Tk_seq (Tk_seq (Tk_region (Tops_step rfl (OpT_move rfl rfl rfl rfl) ?_)))
      refine Tops_step rfl (OpT_bin rfl rfl rfl rfl rfl (bin_geq_i (a := n1) (b := (0 : Int)))) ?_
      refine Tops_nil (Tk_wkS (fr' := [(0, some (.pointer none)), (8, some (vI find1.1)), (9, some (vI find1.2)), (10, some (vU64 v1)), (11, some (vI n1)), (39, some (vB (decide (n1 ≥ (0 : Int)))))]) (own' := []) (shr' := []) [0, 8, 9, 10, 11, 39] [] [] rfl rfl rfl rfl ?_)
      obtain ⟨hg6, h⟩ := chk_e h
      replace hg6 := not_t hg6
      refine Tk_condF (congrArg (fun b => some (Value.bool b)) hg6) ?_
      refine Tk_exit _ rfl ?_
      refine Tk_seq (Tk_region (Tops_step rfl (OpT_move rfl rfl rfl rfl) ?_))
      refine Tops_step rfl (OpT_assign rfl rfl rfl rfl) ?_
      refine Tops_step rfl (OpT_assign rfl rfl rfl rfl) ?_
      refine Tops_nil (Tk_wkS (fr' := [(6, some (vU64 v1)), (7, some (vI (0 : Int)))]) (own' := []) (shr' := []) [6, 7] [] [] rfl rfl rfl rfl ?_)
      obtain rfl := Option.some.inj h
      exact Tk_retV rfl rfl (resA (vs := [vU64 v1, vI (0 : Int)]) rfl ⟨rfl, rfl, trivial⟩) [] [] rfl rfl rfl ⟨rfl, rfl, rfl⟩
   ·replace h := br_f hg3 h
    refine Tops_no rfl rfl (congrArg (fun b => some (Value.bool b)) hg3) rfl rfl ?_
    refine Tops_no rfl rfl (congrArg (fun b => some (Value.bool b)) hg3) rfl rfl ?_
    refine Tops_step rfl (OpT_pickF rfl rfl rfl (congrArg (fun b => some (Value.bool b)) hg3) rfl) ?_
    refine Tops_nil (Tk_wkS (fr' := [(0, some (.pointer none)), (1, some (vU64 atp1)), (2, some (vI bytes)), (25, some (vB false))]) (own' := []) (shr' := []) [0, 1, 2, 25] [] [] rfl rfl rfl rfl ?_)
    refine Tk_condF rfl ?_
    refine Tk_skip (Tk_seq (Tk_region (Tops_step rfl (OpT_move rfl rfl rfl rfl) ?_)))
    refine Tops_step rfl (OpT_move rfl rfl rfl rfl) ?_
    refine Tops_step rfl (OpT_move rfl rfl rfl rfl) ?_
    refine Tops_step rfl (OpT_cnv rfl rfl rfl rfl (cnv_i_u64 (n := bytes) Try.underlying3 Try.underlying26)) ?_
    obtain ⟨find2, hx2, h⟩ := ob_e h
    refine Tops_exP rfl (OpT_call (w_ref_Mem_find02n0 hx2) [] [] rfl rfl rfl rfl rfl callee40 rfl rfl rfl rfl) ?_
    rintro _ ⟨_, _, _, ⟨rfl, rfl, rfl⟩, rfl⟩
    refine Tops_step rfl (OpT_move rfl rfl rfl rfl) ?_
    refine Tops_step rfl (OpT_extract rfl rfl rfl rfl rfl) ?_
    refine Tops_step rfl (OpT_extract rfl rfl rfl rfl rfl) ?_
    refine Tops_step rfl (OpT_assign rfl rfl rfl rfl) ?_
    refine Tops_step rfl (OpT_assign rfl rfl rfl rfl) ?_
    refine Tops_nil (Tk_wkS (fr' := [(0, some (.pointer none)), (2, some (vI bytes)), (8, some (vI find2.1)), (9, some (vI find2.2))]) (own' := []) (shr' := []) [0, 2, 8, 9] [] [] rfl rfl rfl rfl ?_)
    refine Tk_seq (Tk_seq (Tk_region (Tops_step rfl (OpT_move rfl rfl rfl rfl) ?_)))
    refine Tops_step rfl (OpT_bin rfl rfl rfl rfl rfl (bin_lss_i (a := find2.1) (b := (0 : Int)))) ?_
    refine Tops_nil (Tk_wkS (fr' := [(0, some (.pointer none)), (2, some (vI bytes)), (8, some (vI find2.1)), (9, some (vI find2.2)), (35, some (vB (decide (find2.1 < (0 : Int)))))]) (own' := []) (shr' := []) [0, 2, 8, 9, 35] [] [] rfl rfl rfl rfl ?_)
    rcases Bool.eq_false_or_eq_true (decide (find2.1 < (0 : Int))) with hg7 | hg7
    ·replace h := br_t hg7 h
     refine Tk_condT (congrArg (fun b => some (Value.bool b)) hg7) ?_
     refine Tk_seq (Tk_region (Tops_step rfl (OpT_assign rfl rfl rfl rfl) ?_))
     refine Tops_step rfl (OpT_assign rfl rfl rfl rfl) ?_
     refine Tops_nil (Tk_wkS (fr' := [(6, some (vU64 (0 : UInt64))), (7, some (vI (5 : Int)))]) (own' := []) (shr' := []) [6, 7] [] [] rfl rfl rfl rfl ?_)
     obtain rfl := Option.some.inj h
     exact Tk_retV rfl rfl (resA (vs := [vU64 (0 : UInt64), vI (5 : Int)]) rfl ⟨rfl, rfl, trivial⟩) [] [] rfl rfl rfl ⟨rfl, rfl, rfl⟩
    ·replace h := br_f hg7 h
     refine Tk_condF (congrArg (fun b => some (Value.bool b)) hg7) ?_
     refine Tk_skip (Tk_seq (Tk_region (Tops_step rfl (OpT_assign rfl rfl rfl rfl) ?_)))
     refine Tops_nil (Tk_wkS (fr' := [(0, some (.pointer none)), (2, some (vI bytes)), (8, some (vI find2.1)), (9, some (vI find2.2)), (10, some (vU64 (0 : UInt64)))]) (own' := []) (shr' := []) [0, 2, 8, 9, 10] [] [] rfl rfl rfl rfl ?_)
     refine Tk_seq (Tk_seq (Tk_region (Tops_step rfl (OpT_move rfl rfl rfl rfl) ?_)))
     refine Tops_step rfl (OpT_bin rfl rfl rfl rfl rfl (bin_sub_i (a := bytes) (b := (1 : Int)))) ?_
     refine Tops_step rfl (OpT_assign rfl rfl rfl rfl) ?_
     refine Tops_nil (Tk_wkS (fr' := [(0, some (.pointer none)), (8, some (vI find2.1)), (9, some (vI find2.2)), (10, some (vU64 (0 : UInt64))), (11, some (vI (wi (bytes - (1 : Int)))))]) (own' := []) (shr' := []) [0, 8, 9, 10, 11] [] [] rfl rfl rfl rfl ?_)
     refine Tk_block (Tk_loopS (σ := UInt64 × Int) [0, 8, 9, 10, 11] [] [] (fun s => ⟨[(0, some (.pointer none)), (8, some (vI find2.1)), (9, some (vI find2.2)), (10, some (vU64 s.1)), (11, some (vI s.2))], [], []⟩) (fun nf2 s => ref_Mem_Load02n0L2 nf2 s.1 s.2 = some r) fuel ((0 : UInt64), wi (bytes - (1 : Int))) h rfl rfl rfl rfl rfl (fun s h => by cases h) ?_)
     rintro nf2 ⟨v2, n2⟩ h
     replace h : ref_Mem_Load02n0L2B (ref_Mem_Load02n0L2 nf2) v2 n2 = some r := h
     unfold ref_Mem_Load02n0L2B at h
     refine Tk_seq (Tk_seq (Tk_region (Tops_step rfl (OpT_move rfl rfl rfl rfl) ?_)))
     refine Tops_step rfl (OpT_bin rfl rfl rfl rfl rfl (bin_geq_i (a := n2) (b := (0 : Int)))) ?_
     refine Tops_nil (Tk_wkS (fr' := [(0, some (.pointer none)), (8, some (vI find2.1)), (9, some (vI find2.2)), (10, some (vU64 v2)), (11, some (vI n2)), (39, some (vB (decide (n2 ≥ (0 : Int)))))]) (own' := []) (shr' := []) [0, 8, 9, 10, 11, 39] [] [] rfl rfl rfl rfl ?_)
     obtain ⟨hg8, h⟩ := chk_e h
     replace hg8 := not_t hg8
     refine Tk_condF (congrArg (fun b => some (Value.bool b)) hg8) ?_
     refine Tk_exit _ rfl ?_
     refine Tk_seq (Tk_region (Tops_step rfl (OpT_move rfl rfl rfl rfl) ?_))
     refine Tops_step rfl (OpT_assign rfl rfl rfl rfl) ?_
     refine Tops_step rfl (OpT_assign rfl rfl rfl rfl) ?_
     refine Tops_nil (Tk_wkS (fr' := [(6, some (vU64 v2)), (7, some (vI (0 : Int)))]) (own' := []) (shr' := []) [6, 7] [] [] rfl rfl rfl rfl ?_)
     obtain rfl := Option.some.inj h
     exact Tk_retV rfl rfl (resA (vs := [vU64 v2, vI (0 : Int)]) rfl ⟨rfl, rfl, trivial⟩) [] [] rfl rfl rfl ⟨rfl, rfl, rfl⟩
  ·replace h := br_f hg2 h
   refine Tops_no rfl rfl (congrArg (fun b => some (Value.bool b)) hg2) rfl rfl ?_
   refine Tops_no rfl rfl (congrArg (fun b => some (Value.bool b)) hg2) rfl rfl ?_
   refine Tops_step rfl (OpT_pickF rfl rfl rfl (congrArg (fun b => some (Value.bool b)) hg2) rfl) ?_
   refine Tops_step rfl (OpT_move rfl rfl rfl rfl) ?_
   refine Tops_no rfl rfl rfl rfl rfl ?_
   refine Tops_no rfl rfl rfl rfl rfl ?_
   refine Tops_step rfl (OpT_pickF rfl rfl rfl rfl rfl) ?_
   refine Tops_nil (Tk_wkS (fr' := [(0, some (.pointer none)), (1, some (vU64 atp1)), (2, some (vI bytes)), (25, some (vB false))]) (own' := []) (shr' := []) [0, 1, 2, 25] [] [] rfl rfl rfl rfl ?_)
   refine Tk_condF rfl ?_
   refine Tk_skip (Tk_seq (Tk_region (Tops_step rfl (OpT_move rfl rfl rfl rfl) ?_)))
   refine Tops_step rfl (OpT_move rfl rfl rfl rfl) ?_
   refine Tops_step rfl (OpT_move rfl rfl rfl rfl) ?_
   refine Tops_step rfl (OpT_cnv rfl rfl rfl rfl (cnv_i_u64 (n := bytes) Try.underlying3 Try.underlying26)) ?_
   obtain ⟨find3, hx3, h⟩ := ob_e h
   refine Tops_exP rfl (OpT_call (w_ref_Mem_find02n0 hx3) [] [] rfl rfl rfl rfl rfl callee40 rfl rfl rfl rfl) ?_
   rintro _ ⟨_, _, _, ⟨rfl, rfl, rfl⟩, rfl⟩
   refine Tops_step rfl (OpT_move rfl rfl rfl rfl) ?_
   refine Tops_step rfl (OpT_extract rfl rfl rfl rfl rfl) ?_
   refine Tops_step rfl (OpT_extract rfl rfl rfl rfl rfl) ?_
   refine Tops_step rfl (OpT_assign rfl rfl rfl rfl) ?_
   refine Tops_step rfl (OpT_assign rfl rfl rfl rfl) ?_
   refine Tops_nil (Tk_wkS (fr' := [(0, some (.pointer none)), (2, some (vI bytes)), (8, some (vI find3.1)), (9, some (vI find3.2))]) (own' := []) (shr' := []) [0, 2, 8, 9] [] [] rfl rfl rfl rfl ?_)
   refine Tk_seq (Tk_seq (Tk_region (Tops_step rfl (OpT_move rfl rfl rfl rfl) ?_)))
   refine Tops_step rfl (OpT_bin rfl rfl rfl rfl rfl (bin_lss_i (a := find3.1) (b := (0 : Int)))) ?_
   refine Tops_nil (Tk_wkS (fr' := [(0, some (.pointer none)), (2, some (vI bytes)), (8, some (vI find3.1)), (9, some (vI find3.2)), (35, some (vB (decide (find3.1 < (0 : Int)))))]) (own' := []) (shr' := []) [0, 2, 8, 9, 35] [] [] rfl rfl rfl rfl ?_)
   rcases Bool.eq_false_or_eq_true (decide (find3.1 < (0 : Int))) with hg9 | hg9
   ·replace h := br_t hg9 h
    refine Tk_condT (congrArg (fun b => some (Value.bool b)) hg9) ?_
    refine Tk_seq (Tk_region (Tops_step rfl (OpT_assign rfl rfl rfl rfl) ?_))
    refine Tops_step rfl (OpT_assign rfl rfl rfl rfl) ?_
    refine Tops_nil (Tk_wkS (fr' := [(6, some (vU64 (0 : UInt64))), (7, some (vI (5 : Int)))]) (own' := []) (shr' := []) [6, 7] [] [] rfl rfl rfl rfl ?_)
    obtain rfl := Option.some.inj h
    exact Tk_retV rfl rfl (resA (vs := [vU64 (0 : UInt64), vI (5 : Int)]) rfl ⟨rfl, rfl, trivial⟩) [] [] rfl rfl rfl ⟨rfl, rfl, rfl⟩
   ·replace h := br_f hg9 h
    refine Tk_condF (congrArg (fun b => some (Value.bool b)) hg9) ?_
    refine Tk_skip (Tk_seq (Tk_region (Tops_step rfl (OpT_assign rfl rfl rfl rfl) ?_)))
    refine Tops_nil (Tk_wkS (fr' := [(0, some (.pointer none)), (2, some (vI bytes)), (8, some (vI find3.1)), (9, some (vI find3.2)), (10, some (vU64 (0 : UInt64)))]) (own' := []) (shr' := []) [0, 2, 8, 9, 10] [] [] rfl rfl rfl rfl ?_)
    refine Tk_seq (Tk_seq (Tk_region (Tops_step rfl (OpT_move rfl rfl rfl rfl) ?_)))
    refine Tops_step rfl (OpT_bin rfl rfl rfl rfl rfl (bin_sub_i (a := bytes) (b := (1 : Int)))) ?_
    refine Tops_step rfl (OpT_assign rfl rfl rfl rfl) ?_
    refine Tops_nil (Tk_wkS (fr' := [(0, some (.pointer none)), (8, some (vI find3.1)), (9, some (vI find3.2)), (10, some (vU64 (0 : UInt64))), (11, some (vI (wi (bytes - (1 : Int)))))]) (own' := []) (shr' := []) [0, 8, 9, 10, 11] [] [] rfl rfl rfl rfl ?_)
    refine Tk_block (Tk_loopS (σ := UInt64 × Int) [0, 8, 9, 10, 11] [] [] (fun s => ⟨[(0, some (.pointer none)), (8, some (vI find3.1)), (9, some (vI find3.2)), (10, some (vU64 s.1)), (11, some (vI s.2))], [], []⟩) (fun nf3 s => ref_Mem_Load02n0L3 nf3 s.1 s.2 = some r) fuel ((0 : UInt64), wi (bytes - (1 : Int))) h rfl rfl rfl rfl rfl (fun s h => by cases h) ?_)
    rintro nf3 ⟨v3, n3⟩ h
    replace h : ref_Mem_Load02n0L3B (ref_Mem_Load02n0L3 nf3) v3 n3 = some r := h
    unfold ref_Mem_Load02n0L3B at h
    refine Tk_seq (Tk_seq (Tk_region (Tops_step rfl (OpT_move rfl rfl rfl rfl) ?_)))
    refine Tops_step rfl (OpT_bin rfl rfl rfl rfl rfl (bin_geq_i (a := n3) (b := (0 : Int)))) ?_
    refine Tops_nil (Tk_wkS (fr' := [(0, some (.pointer none)), (8, some (vI find3.1)), (9, some (vI find3.2)), (10, some (vU64 v3)), (11, some (vI n3)), (39, some (vB (decide (n3 ≥ (0 : Int)))))]) (own' := []) (shr' := []) [0, 8, 9, 10, 11, 39] [] [] rfl rfl rfl rfl ?_)
    obtain ⟨hg10, h⟩ := chk_e h
    replace hg10 := not_t hg10
    refine Tk_condF (congrArg (fun b => some (Value.bool b)) hg10) ?_
    refine Tk_exit _ rfl ?_
    refine Tk_seq (Tk_region (Tops_step rfl (OpT_move rfl rfl rfl rfl) ?_))
    refine Tops_step rfl (OpT_assign rfl rfl rfl rfl) ?_
    refine Tops_step rfl (OpT_assign rfl rfl rfl rfl) ?_
    refine Tops_nil (Tk_wkS (fr' := [(6, some (vU64 v3)), (7, some (vI (0 : Int)))]) (own' := []) (shr' := []) [6, 7] [] [] rfl rfl rfl rfl ?_)
    obtain rfl := Option.some.inj h
    exact Tk_retV rfl rfl (resA (vs := [vU64 v3, vI (0 : Int)]) rfl ⟨rfl, rfl, trivial⟩) [] [] rfl rfl rfl ⟨rfl, rfl, rfl⟩
 ·replace h := br_f hg1 h
  refine Tops_no rfl rfl (congrArg (fun b => some (Value.bool b)) hg1) rfl rfl ?_
  refine Tops_no rfl rfl (congrArg (fun b => some (Value.bool b)) hg1) rfl rfl ?_
  refine Tops_step rfl (OpT_pickF rfl rfl rfl (congrArg (fun b => some (Value.bool b)) hg1) rfl) ?_
  refine Tops_step rfl (OpT_move rfl rfl rfl rfl) ?_
  refine Tops_no rfl rfl rfl rfl rfl ?_
  refine Tops_no rfl rfl rfl rfl rfl ?_
  refine Tops_step rfl (OpT_pickF rfl rfl rfl rfl rfl) ?_
  refine Tops_step rfl (OpT_move rfl rfl rfl rfl) ?_
  refine Tops_no rfl rfl rfl rfl rfl ?_
  refine Tops_no rfl rfl rfl rfl rfl ?_
  refine Tops_step rfl (OpT_pickF rfl rfl rfl rfl rfl) ?_
  refine Tops_nil (Tk_wkS (fr' := [(0, some (.pointer none)), (1, some (vU64 atp1)), (2, some (vI bytes)), (25, some (vB false))]) (own' := []) (shr' := []) [0, 1, 2, 25] [] [] rfl rfl rfl rfl ?_)
  refine Tk_condF rfl ?_
  refine Tk_skip (Tk_seq (Tk_region (Tops_step rfl (OpT_move rfl rfl rfl rfl) ?_)))
  refine Tops_step rfl (OpT_move rfl rfl rfl rfl) ?_
  refine Tops_step rfl (OpT_move rfl rfl rfl rfl) ?_
  refine Tops_step rfl (OpT_cnv rfl rfl rfl rfl (cnv_i_u64 (n := bytes) Try.underlying3 Try.underlying26)) ?_
  obtain ⟨find4, hx4, h⟩ := ob_e h
  refine Tops_exP rfl (OpT_call (w_ref_Mem_find02n0 hx4) [] [] rfl rfl rfl rfl rfl callee40 rfl rfl rfl rfl) ?_
  rintro _ ⟨_, _, _, ⟨rfl, rfl, rfl⟩, rfl⟩
  refine Tops_step rfl (OpT_move rfl rfl rfl rfl) ?_
  refine Tops_step rfl (OpT_extract rfl rfl rfl rfl rfl) ?_
  refine Tops_step rfl (OpT_extract rfl rfl rfl rfl rfl) ?_
  refine Tops_step rfl (OpT_assign rfl rfl rfl rfl) ?_
  refine Tops_step rfl (OpT_assign rfl rfl rfl rfl) ?_
  refine Tops_nil (Tk_wkS (fr' := [(0, some (.pointer none)), (2, some (vI bytes)), (8, some (vI find4.1)), (9, some (vI find4.2))]) (own' := []) (shr' := []) [0, 2, 8, 9] [] [] rfl rfl rfl rfl ?_)
  refine Tk_seq (Tk_seq (Tk_region (Tops_step rfl (OpT_move rfl rfl rfl rfl) ?_)))
  refine Tops_step rfl (OpT_bin rfl rfl rfl rfl rfl (bin_lss_i (a := find4.1) (b := (0 : Int)))) ?_
  refine Tops_nil (Tk_wkS (fr' := [(0, some (.pointer none)), (2, some (vI bytes)), (8, some (vI find4.1)), (9, some (vI find4.2)), (35, some (vB (decide (find4.1 < (0 : Int)))))]) (own' := []) (shr' := []) [0, 2, 8, 9, 35] [] [] rfl rfl rfl rfl ?_)
  rcases Bool.eq_false_or_eq_true (decide (find4.1 < (0 : Int))) with hg11 | hg11
  ·replace h := br_t hg11 h
   refine Tk_condT (congrArg (fun b => some (Value.bool b)) hg11) ?_
   refine Tk_seq (Tk_region (Tops_step rfl (OpT_assign rfl rfl rfl rfl) ?_))
   refine Tops_step rfl (OpT_assign rfl rfl rfl rfl) ?_
   refine Tops_nil (Tk_wkS (fr' := [(6, some (vU64 (0 : UInt64))), (7, some (vI (5 : Int)))]) (own' := []) (shr' := []) [6, 7] [] [] rfl rfl rfl rfl ?_)
   obtain rfl := Option.some.inj h
   exact Tk_retV rfl rfl (resA (vs := [vU64 (0 : UInt64), vI (5 : Int)]) rfl ⟨rfl, rfl, trivial⟩) [] [] rfl rfl rfl ⟨rfl, rfl, rfl⟩
  ·replace h := br_f hg11 h
   refine Tk_condF (congrArg (fun b => some (Value.bool b)) hg11) ?_
   refine Tk_skip (Tk_seq (Tk_region (Tops_step rfl (OpT_assign rfl rfl rfl rfl) ?_)))
   refine Tops_nil (Tk_wkS (fr' := [(0, some (.pointer none)), (2, some (vI bytes)), (8, some (vI find4.1)), (9, some (vI find4.2)), (10, some (vU64 (0 : UInt64)))]) (own' := []) (shr' := []) [0, 2, 8, 9, 10] [] [] rfl rfl rfl rfl ?_)
   refine Tk_seq (Tk_seq (Tk_region (Tops_step rfl (OpT_move rfl rfl rfl rfl) ?_)))
   refine Tops_step rfl (OpT_bin rfl rfl rfl rfl rfl (bin_sub_i (a := bytes) (b := (1 : Int)))) ?_
   refine Tops_step rfl (OpT_assign rfl rfl rfl rfl) ?_
   refine Tops_nil (Tk_wkS (fr' := [(0, some (.pointer none)), (8, some (vI find4.1)), (9, some (vI find4.2)), (10, some (vU64 (0 : UInt64))), (11, some (vI (wi (bytes - (1 : Int)))))]) (own' := []) (shr' := []) [0, 8, 9, 10, 11] [] [] rfl rfl rfl rfl ?_)
   refine Tk_block (Tk_loopS (σ := UInt64 × Int) [0, 8, 9, 10, 11] [] [] (fun s => ⟨[(0, some (.pointer none)), (8, some (vI find4.1)), (9, some (vI find4.2)), (10, some (vU64 s.1)), (11, some (vI s.2))], [], []⟩) (fun nf4 s => ref_Mem_Load02n0L4 nf4 s.1 s.2 = some r) fuel ((0 : UInt64), wi (bytes - (1 : Int))) h rfl rfl rfl rfl rfl (fun s h => by cases h) ?_)
   rintro nf4 ⟨v4, n4⟩ h
   replace h : ref_Mem_Load02n0L4B (ref_Mem_Load02n0L4 nf4) v4 n4 = some r := h
   unfold ref_Mem_Load02n0L4B at h
   refine Tk_seq (Tk_seq (Tk_region (Tops_step rfl (OpT_move rfl rfl rfl rfl) ?_)))
   refine Tops_step rfl (OpT_bin rfl rfl rfl rfl rfl (bin_geq_i (a := n4) (b := (0 : Int)))) ?_
   refine Tops_nil (Tk_wkS (fr' := [(0, some (.pointer none)), (8, some (vI find4.1)), (9, some (vI find4.2)), (10, some (vU64 v4)), (11, some (vI n4)), (39, some (vB (decide (n4 ≥ (0 : Int)))))]) (own' := []) (shr' := []) [0, 8, 9, 10, 11, 39] [] [] rfl rfl rfl rfl ?_)
   obtain ⟨hg12, h⟩ := chk_e h
   replace hg12 := not_t hg12
   refine Tk_condF (congrArg (fun b => some (Value.bool b)) hg12) ?_
   refine Tk_exit _ rfl ?_
   refine Tk_seq (Tk_region (Tops_step rfl (OpT_move rfl rfl rfl rfl) ?_))
   refine Tops_step rfl (OpT_assign rfl rfl rfl rfl) ?_
   refine Tops_step rfl (OpT_assign rfl rfl rfl rfl) ?_
   refine Tops_nil (Tk_wkS (fr' := [(6, some (vU64 v4)), (7, some (vI (0 : Int)))]) (own' := []) (shr' := []) [6, 7] [] [] rfl rfl rfl rfl ?_)
   obtain rfl := Option.some.inj h
   exact Tk_retV rfl rfl (resA (vs := [vU64 v4, vI (0 : Int)]) rfl ⟨rfl, rfl, trivial⟩) [] [] rfl rfl rfl ⟨rfl, rfl, rfl⟩

set_option maxRecDepth 100000 in
set_option maxHeartbeats 4000000 in
theorem w_gmem_Mem_Storen0 {atp1 : UInt64} {bytes : Int} {vp3 : UInt64} {r : Int} (h : gmem_Mem_Storen0 atp1 bytes vp3 = some r) :
  Ctr Try.prog 17 #[.pointer none, vU64 atp1, vI bytes, vU64 vp3] [] []
   (fun rv own shr => rv = vI r ∧ own = [] ∧ shr = []) := by
 unfold gmem_Mem_Storen0 at h
 refine Ctr.mk (args := [.pointer none, vU64 atp1, vI bytes, vU64 vp3]) Try.func17 rfl rfl (fun R0 w0 B => ?_)
 refine Tk_seq (Tk_region (Tops_step rfl (OpT_assign rfl rfl rfl rfl) ?_))
 refine Tops_nil (Tk_wkS (fr' := [(0, some (.pointer none)), (1, some (vU64 atp1)), (2, some (vI bytes)), (3, some (vU64 vp3))]) (own' := []) (shr' := []) [0, 1, 2, 3] [] [] rfl rfl rfl rfl ?_)
 refine Tk_seq (Tk_seq (Tk_region (Tops_step rfl (OpT_move rfl rfl rfl rfl) ?_)))
 obtain ⟨made1, hx1, h⟩ := ob_e h
 refine Tops_exP rfl (OpT_call (w_gmem_Mem_maden0 hx1) [] [] rfl rfl rfl rfl rfl callee34 rfl rfl rfl rfl) ?_
 rintro _ ⟨_, _, _, ⟨rfl, rfl, rfl⟩, rfl⟩
 refine Tops_step rfl (OpT_not rfl rfl rfl rfl) ?_
 refine Tops_nil (Tk_wkS (fr' := [(0, some (.pointer none)), (1, some (vU64 atp1)), (2, some (vI bytes)), (3, some (vU64 vp3)), (13, some (vB (!made1)))]) (own' := []) (shr' := []) [0, 1, 2, 3, 13] [] [] rfl rfl rfl rfl ?_)
 refine Tk_condT (congrArg (fun b => some (Value.bool b)) (congrArg (!·) (Option.some.inj (show some false = some made1 from hx1)).symm)) ?_
 refine Tk_seq (Tk_region (Tops_step rfl (OpT_assign rfl rfl rfl rfl) ?_))
 refine Tops_nil (Tk_wkS (fr' := [(8, some (vI (1 : Int)))]) (own' := []) (shr' := []) [8] [] [] rfl rfl rfl rfl ?_)
 obtain rfl := Option.some.inj h
 exact Tk_retV rfl rfl (resA (vs := [vI (1 : Int)]) rfl ⟨rfl, trivial⟩) [] [] rfl rfl rfl ⟨rfl, rfl, rfl⟩

set_option maxRecDepth 100000 in
set_option maxHeartbeats 4000000 in
theorem w_ref_Mem_Store02n0 {atp1 : UInt64} {bytes : Int} {vp3 : UInt64} {r : Int} (h : ref_Mem_Store02n0 atp1 bytes vp3 = some r) :
  Ctr Try.prog 25 #[.pointer none, vU64 atp1, vI bytes, vU64 vp3] [] []
   (fun rv own shr => rv = vI r ∧ own = [] ∧ shr = []) := by
 unfold ref_Mem_Store02n0 at h
 refine Ctr.mk (args := [.pointer none, vU64 atp1, vI bytes, vU64 vp3]) Try.func25 rfl rfl (fun R0 w0 B => ?_)
 refine Tk_seq (Tk_region (Tops_step rfl (OpT_assign rfl rfl rfl rfl) ?_))
 refine Tops_nil (Tk_wkS (fr' := [(0, some (.pointer none)), (1, some (vU64 atp1)), (2, some (vI bytes)), (3, some (vU64 vp3))]) (own' := []) (shr' := []) [0, 1, 2, 3] [] [] rfl rfl rfl rfl ?_)
 refine Tk_seq (Tk_seq (Tk_region (Tops_step rfl (OpT_move rfl rfl rfl rfl) ?_)))
 refine Tops_step rfl (OpT_bin rfl rfl rfl rfl rfl (bin_neq_i (a := bytes) (b := (1 : Int)))) ?_
 refine Tops_step rfl (OpT_move rfl rfl rfl rfl) ?_
 rcases Bool.eq_false_or_eq_true (bytes != (1 : Int)) with hg1 | hg1
 ·replace h := br_t hg1 h
  refine Tops_yes rfl rfl (congrArg (fun b => some (Value.bool b)) hg1) (OpT_move rfl rfl rfl rfl) ?_
  rintro _ rfl
  refine Tops_yes rfl rfl (congrArg (fun b => some (Value.bool b)) hg1) (OpT_bin rfl rfl rfl rfl rfl (bin_neq_i (a := bytes) (b := (2 : Int)))) ?_
  rintro _ rfl
  refine Tops_step rfl (OpT_pickT rfl rfl rfl (congrArg (fun b => some (Value.bool b)) hg1) rfl) ?_
  refine Tops_step rfl (OpT_move rfl rfl rfl rfl) ?_
  rcases Bool.eq_false_or_eq_true (bytes != (2 : Int)) with hg2 | hg2
  ·replace h := br_t hg2 h
   refine Tops_yes rfl rfl (congrArg (fun b => some (Value.bool b)) hg2) (OpT_move rfl rfl rfl rfl) ?_
   rintro _ rfl
   refine Tops_yes rfl rfl (congrArg (fun b => some (Value.bool b)) hg2) (OpT_bin rfl rfl rfl rfl rfl (bin_neq_i (a := bytes) (b := (4 : Int)))) ?_
   rintro _ rfl
   refine Tops_step rfl (OpT_pickT rfl rfl rfl (congrArg (fun b => some (Value.bool b)) hg2) rfl) ?_
   refine Tops_step rfl (OpT_move rfl rfl rfl rfl) ?_
   rcases Bool.eq_false_or_eq_true (bytes != (4 : Int)) with hg3 | hg3
   ·replace h := br_t hg3 h
    refine Tops_yes rfl rfl (congrArg (fun b => some (Value.bool b)) hg3) (OpT_move rfl rfl rfl rfl) ?_
    rintro _ rfl
    refine Tops_yes rfl rfl (congrArg (fun b => some (Value.bool b)) hg3) (OpT_bin rfl rfl rfl rfl rfl (bin_neq_i (a := bytes) (b := (8 : Int)))) ?_
    rintro _ rfl
    refine Tops_step rfl (OpT_pickT rfl rfl rfl (congrArg (fun b => some (Value.bool b)) hg3) rfl) ?_
    refine Tops_nil (Tk_wkS (fr' := [(0, some (.pointer none)), (1, some (vU64 atp1)), (2, some (vI bytes)), (3, some (vU64 vp3)), (25, some (vB (bytes != (8 : Int))))]) (own' := []) (shr' := []) [0, 1, 2, 3, 25] [] [] rfl rfl rfl rfl ?_)
    rcases Bool.eq_false_or_eq_true (bytes != (8 : Int)) with hg4 | hg4
    ·replace h := br_t hg4 h
     refine Tk_condT (congrArg (fun b => some (Value.bool b)) hg4) ?_
     refine Tk_seq (Tk_region (Tops_step rfl (OpT_assign rfl rfl rfl rfl) ?_))
     refine Tops_nil (Tk_wkS (fr' := [(8, some (vI (2 : Int)))]) (own' := []) (shr' := []) [8] [] [] rfl rfl rfl rfl ?_)
     obtain rfl := Option.some.inj h
     exact Tk_retV rfl rfl (resA (vs := [vI (2 : Int)]) rfl ⟨rfl, trivial⟩) [] [] rfl rfl rfl ⟨rfl, rfl, rfl⟩
    ·replace h := br_f hg4 h
     refine Tk_condF (congrArg (fun b => some (Value.bool b)) hg4) ?_
     refine Tk_skip (Tk_seq (Tk_region (Tops_step rfl (OpT_move rfl rfl rfl rfl) ?_)))
     refine Tops_step rfl (OpT_move rfl rfl rfl rfl) ?_
     refine Tops_step rfl (OpT_move rfl rfl rfl rfl) ?_
     refine Tops_step rfl (OpT_cnv rfl rfl rfl rfl (cnv_i_u64 (n := bytes) Try.underlying3 Try.underlying26)) ?_
     obtain ⟨find1, hx1, h⟩ := ob_e h
     refine Tops_exP rfl (OpT_call (w_ref_Mem_find02n0 hx1) [] [] rfl rfl rfl rfl rfl callee40 rfl rfl rfl rfl) ?_
     rintro _ ⟨_, _, _, ⟨rfl, rfl, rfl⟩, rfl⟩
     refine Tops_step rfl (OpT_move rfl rfl rfl rfl) ?_
     refine Tops_step rfl (OpT_extract rfl rfl rfl rfl rfl) ?_
     refine Tops_step rfl (OpT_extract rfl rfl rfl rfl rfl) ?_
     refine Tops_step rfl (OpT_assign rfl rfl rfl rfl) ?_
     refine Tops_step rfl (OpT_assign rfl rfl rfl rfl) ?_
     refine Tops_nil (Tk_wkS (fr' := [(0, some (.pointer none)), (2, some (vI bytes)), (3, some (vU64 vp3)), (9, some (vI find1.1)), (10, some (vI find1.2))]) (own' := []) (shr' := []) [0, 2, 3, 9, 10] [] [] rfl rfl rfl rfl ?_)
     refine Tk_seq (Tk_seq (Tk_region (Tops_step rfl (OpT_move rfl rfl rfl rfl) ?_)))
     refine Tops_step rfl (OpT_bin rfl rfl rfl rfl rfl (bin_lss_i (a := find1.1) (b := (0 : Int)))) ?_
     refine Tops_nil (Tk_wkS (fr' := [(0, some (.pointer none)), (2, some (vI bytes)), (3, some (vU64 vp3)), (9, some (vI find1.1)), (10, some (vI find1.2)), (35, some (vB (decide (find1.1 < (0 : Int)))))]) (own' := []) (shr' := []) [0, 2, 3, 9, 10, 35] [] [] rfl rfl rfl rfl ?_)
     rcases Bool.eq_false_or_eq_true (decide (find1.1 < (0 : Int))) with hg5 | hg5
     ·replace h := br_t hg5 h
      refine Tk_condT (congrArg (fun b => some (Value.bool b)) hg5) ?_
      refine Tk_seq (Tk_region (Tops_step rfl (OpT_assign rfl rfl rfl rfl) ?_))
      refine Tops_nil (Tk_wkS (fr' := [(8, some (vI (5 : Int)))]) (own' := []) (shr' := []) [8] [] [] rfl rfl rfl rfl ?_)
      obtain rfl := Option.some.inj h
      exact Tk_retV rfl rfl (resA (vs := [vI (5 : Int)]) rfl ⟨rfl, trivial⟩) [] [] rfl rfl rfl ⟨rfl, rfl, rfl⟩
     ·replace h := br_f hg5 h
      refine Tk_condF (congrArg (fun b => some (Value.bool b)) hg5) ?_
      refine Tk_skip (Tk_seq (Tk_seq (Tk_region (Tops_step rfl (OpT_assign rfl rfl rfl rfl) ?_))))
      refine Tops_nil (Tk_wkS (fr' := [(0, some (.pointer none)), (2, some (vI bytes)), (3, some (vU64 vp3)), (9, some (vI find1.1)), (10, some (vI find1.2)), (11, some (vI (0 : Int)))]) (own' := []) (shr' := []) [0, 2, 3, 9, 10, 11] [] [] rfl rfl rfl rfl ?_)
      refine Tk_block (Tk_loopS (σ := Int) [0, 2, 3, 9, 10, 11] [] [] (fun s => ⟨[(0, some (.pointer none)), (2, some (vI bytes)), (3, some (vU64 vp3)), (9, some (vI find1.1)), (10, some (vI find1.2)), (11, some (vI s))], [], []⟩) (fun nf1 s => ref_Mem_Store02n0L1 bytes nf1 s = some r) fuel (0 : Int) h rfl rfl rfl rfl rfl (fun s h => by cases h) ?_)
      rintro nf1 n1 h
      replace h : ref_Mem_Store02n0L1B bytes (ref_Mem_Store02n0L1 bytes nf1) n1 = some r := h
      unfold ref_Mem_Store02n0L1B at h
      refine Tk_seq (Tk_seq (Tk_region (Tops_step rfl (OpT_move rfl rfl rfl rfl) ?_)))
      refine Tops_step rfl (OpT_move rfl rfl rfl rfl) ?_
      refine Tops_step rfl (OpT_bin rfl rfl rfl rfl rfl (bin_lss_i (a := n1) (b := bytes))) ?_
      refine Tops_nil (Tk_wkS (fr' := [(0, some (.pointer none)), (2, some (vI bytes)), (3, some (vU64 vp3)), (9, some (vI find1.1)), (10, some (vI find1.2)), (11, some (vI n1)), (38, some (vB (decide (n1 < bytes))))]) (own' := []) (shr' := []) [0, 2, 3, 9, 10, 11, 38] [] [] rfl rfl rfl rfl ?_)
      obtain ⟨hg6, h⟩ := chk_e h
      replace hg6 := not_t hg6
      refine Tk_condF (congrArg (fun b => some (Value.bool b)) hg6) ?_
      refine Tk_exit _ rfl ?_
      refine Tk_seq (Tk_region (Tops_step rfl (OpT_assign rfl rfl rfl rfl) ?_))
      refine Tops_nil (Tk_wkS (fr' := [(8, some (vI (0 : Int)))]) (own' := []) (shr' := []) [8] [] [] rfl rfl rfl rfl ?_)
      obtain rfl := Option.some.inj h
      exact Tk_retV rfl rfl (resA (vs := [vI (0 : Int)]) rfl ⟨rfl, trivial⟩) [] [] rfl rfl rfl ⟨rfl, rfl, rfl⟩
   ·replace h := br_f hg3 h
    refine Tops_no rfl rfl (congrArg (fun b => some (Value.bool b)) hg3) rfl rfl ?_
    refine Tops_no rfl rfl (congrArg (fun b => some (Value.bool b)) hg3) rfl rfl ?_
    refine Tops_step rfl (OpT_pickF rfl rfl rfl (congrArg (fun b => some (Value.bool b)) hg3) rfl) ?_
    refine Tops_nil (Tk_wkS (fr' := [(0, some (.pointer none)), (1, some (vU64 atp1)), (2, some (vI bytes)), (3, some (vU64 vp3)), (25, some (vB false))]) (own' := []) (shr' := []) [0, 1, 2, 3, 25] [] [] rfl rfl rfl rfl ?_)
    refine Tk_condF rfl ?_
    refine Tk_skip (Tk_seq (Tk_region (Tops_step rfl (OpT_move rfl rfl rfl rfl) ?_)))
    refine Tops_step rfl (OpT_move rfl rfl rfl rfl) ?_
    refine Tops_step rfl (OpT_move rfl rfl rfl rfl) ?_
    refine Tops_step rfl (OpT_cnv rfl rfl rfl rfl (cnv_i_u64 (n := bytes) Try.underlying3 Try.underlying26)) ?_
    obtain ⟨find2, hx2, h⟩ := ob_e h
    refine Tops_exP rfl (OpT_call (w_ref_Mem_find02n0 hx2) [] [] rfl rfl rfl rfl rfl callee40 rfl rfl rfl rfl) ?_
    rintro _ ⟨_, _, _, ⟨rfl, rfl, rfl⟩, rfl⟩
    refine Tops_step rfl (OpT_move rfl rfl rfl rfl) ?_
    refine Tops_step rfl (OpT_extract rfl rfl rfl rfl rfl) ?_
    refine Tops_step rfl (OpT_extract rfl rfl rfl rfl rfl) ?_
    refine Tops_step rfl (OpT_assign rfl rfl rfl rfl) ?_
    refine Tops_step rfl (OpT_assign rfl rfl rfl rfl) ?_
    refine Tops_nil (Tk_wkS (fr' := [(0, some (.pointer none)), (2, some (vI bytes)), (3, some (vU64 vp3)), (9, some (vI find2.1)), (10, some (vI find2.2))]) (own' := []) (shr' := []) [0, 2, 3, 9, 10] [] [] rfl rfl rfl rfl ?_)
    refine Tk_seq (Tk_seq (Tk_region (Tops_step rfl (OpT_move rfl rfl rfl rfl) ?_)))
    refine Tops_step rfl (OpT_bin rfl rfl rfl rfl rfl (bin_lss_i (a := find2.1) (b := (0 : Int)))) ?_
    refine Tops_nil (Tk_wkS (fr' := [(0, some (.pointer none)), (2, some (vI bytes)), (3, some (vU64 vp3)), (9, some (vI find2.1)), (10, some (vI find2.2)), (35, some (vB (decide (find2.1 < (0 : Int)))))]) (own' := []) (shr' := []) [0, 2, 3, 9, 10, 35] [] [] rfl rfl rfl rfl ?_)
    rcases Bool.eq_false_or_eq_true (decide (find2.1 < (0 : Int))) with hg7 | hg7
    ·replace h := br_t hg7 h
     refine Tk_condT (congrArg (fun b => some (Value.bool b)) hg7) ?_
     refine Tk_seq (Tk_region (Tops_step rfl (OpT_assign rfl rfl rfl rfl) ?_))
     refine Tops_nil (Tk_wkS (fr' := [(8, some (vI (5 : Int)))]) (own' := []) (shr' := []) [8] [] [] rfl rfl rfl rfl ?_)
     obtain rfl := Option.some.inj h
     exact Tk_retV rfl rfl (resA (vs := [vI (5 : Int)]) rfl ⟨rfl, trivial⟩) [] [] rfl rfl rfl ⟨rfl, rfl, rfl⟩
    ·replace h := br_f hg7 h
     refine Tk_condF (congrArg (fun b => some (Value.bool b)) hg7) ?_
     refine Tk_skip (Tk_seq (Tk_seq (Tk_region (Tops_step rfl (OpT_assign rfl rfl rfl rfl) ?_))))
     refine Tops_nil (Tk_wkS (fr' := [(0, some (.pointer none)), (2, some (vI bytes)), (3, some (vU64 vp3)), (9, some (vI find2.1)), (10, some (vI find2.2)), (11, some (vI (0 : Int)))]) (own' := []) (shr' := []) [0, 2, 3, 9, 10, 11] [] [] rfl rfl rfl rfl ?_)
     refine Tk_block (Tk_loopS (σ := Int) [0, 2, 3, 9, 10, 11] [] [] (fun s => ⟨[(0, some (.pointer none)), (2, some (vI bytes)), (3, some (vU64 vp3)), (9, some (vI find2.1)), (10, some (vI find2.2)), (11, some (vI s))], [], []⟩) (fun nf2 s => ref_Mem_Store02n0L2 bytes nf2 s = some r) fuel (0 : Int) h rfl rfl rfl rfl rfl (fun s h => by cases h) ?_)
     rintro nf2 n2 h
     replace h : ref_Mem_Store02n0L2B bytes (ref_Mem_Store02n0L2 bytes nf2) n2 = some r := h
     unfold ref_Mem_Store02n0L2B at h
     refine Tk_seq (Tk_seq (Tk_region (Tops_step rfl (OpT_move rfl rfl rfl rfl) ?_)))
     refine Tops_step rfl (OpT_move rfl rfl rfl rfl) ?_
     refine Tops_step rfl (OpT_bin rfl rfl rfl rfl rfl (bin_lss_i (a := n2) (b := bytes))) ?_
     refine Tops_nil (Tk_wkS (fr' := [(0, some (.pointer none)), (2, some (vI bytes)), (3, some (vU64 vp3)), (9, some (vI find2.1)), (10, some (vI find2.2)), (11, some (vI n2)), (38, some (vB (decide (n2 < bytes))))]) (own' := []) (shr' := []) [0, 2, 3, 9, 10, 11, 38] [] [] rfl rfl rfl rfl ?_)
     obtain ⟨hg8, h⟩ := chk_e h
     replace hg8 := not_t hg8
     refine Tk_condF (congrArg (fun b => some (Value.bool b)) hg8) ?_
     refine Tk_exit _ rfl ?_
     refine Tk_seq (Tk_region (Tops_step rfl (OpT_assign rfl rfl rfl rfl) ?_))
     refine Tops_nil (Tk_wkS (fr' := [(8, some (vI (0 : Int)))]) (own' := []) (shr' := []) [8] [] [] rfl rfl rfl rfl ?_)
     obtain rfl := Option.some.inj h
     exact Tk_retV rfl rfl (resA (vs := [vI (0 : Int)]) rfl ⟨rfl, trivial⟩) [] [] rfl rfl rfl ⟨rfl, rfl, rfl⟩
  ·replace h := br_f hg2 h
   refine Tops_no rfl rfl (congrArg (fun b => some (Value.bool b)) hg2) rfl rfl ?_
   refine Tops_no rfl rfl (congrArg (fun b => some (Value.bool b)) hg2) rfl rfl ?_
   refine Tops_step rfl (OpT_pickF rfl rfl rfl (congrArg (fun b => some (Value.bool b)) hg2) rfl) ?_
   refine Tops_step rfl (OpT_move rfl rfl rfl rfl) ?_
   refine Tops_no rfl rfl rfl rfl rfl ?_
   refine Tops_no rfl rfl rfl rfl rfl ?_
   refine Tops_step rfl (OpT_pickF rfl rfl rfl rfl rfl) ?_
   refine Tops_nil (Tk_wkS (fr' := [(0, some (.pointer none)), (1, some (vU64 atp1)), (2, some (vI bytes)), (3, some (vU64 vp3)), (25, some (vB false))]) (own' := []) (shr' := []) [0, 1, 2, 3, 25] [] [] rfl rfl rfl rfl ?_)
   refine Tk_condF rfl ?_
   refine Tk_skip (Tk_seq (Tk_region (Tops_step rfl (OpT_move rfl rfl rfl rfl) ?_)))
   refine Tops_step rfl (OpT_move rfl rfl rfl rfl) ?_
   refine Tops_step rfl (OpT_move rfl rfl rfl rfl) ?_
   refine Tops_step rfl (OpT_cnv rfl rfl rfl rfl (cnv_i_u64 (n := bytes) Try.underlying3 Try.underlying26)) ?_
   obtain ⟨find3, hx3, h⟩ := ob_e h
   refine Tops_exP rfl (OpT_call (w_ref_Mem_find02n0 hx3) [] [] rfl rfl rfl rfl rfl callee40 rfl rfl rfl rfl) ?_
   rintro _ ⟨_, _, _, ⟨rfl, rfl, rfl⟩, rfl⟩
   refine Tops_step rfl (OpT_move rfl rfl rfl rfl) ?_
   refine Tops_step rfl (OpT_extract rfl rfl rfl rfl rfl) ?_
   refine Tops_step rfl (OpT_extract rfl rfl rfl rfl rfl) ?_
   refine Tops_step rfl (OpT_assign rfl rfl rfl rfl) ?_
   refine Tops_step rfl (OpT_assign rfl rfl rfl rfl) ?_
   refine Tops_nil (Tk_wkS (fr' := [(0, some (.pointer none)), (2, some (vI bytes)), (3, some (vU64 vp3)), (9, some (vI find3.1)), (10, some (vI find3.2))]) (own' := []) (shr' := []) [0, 2, 3, 9, 10] [] [] rfl rfl rfl rfl ?_)
   refine Tk_seq (Tk_seq (Tk_region (Tops_step rfl (OpT_move rfl rfl rfl rfl) ?_)))
   refine Tops_step rfl (OpT_bin rfl rfl rfl rfl rfl (bin_lss_i (a := find3.1) (b := (0 : Int)))) ?_
   refine Tops_nil (Tk_wkS (fr' := [(0, some (.pointer none)), (2, some (vI bytes)), (3, some (vU64 vp3)), (9, some (vI find3.1)), (10, some (vI find3.2)), (35, some (vB (decide (find3.1 < (0 : Int)))))]) (own' := []) (shr' := []) [0, 2, 3, 9, 10, 35] [] [] rfl rfl rfl rfl ?_)
   rcases Bool.eq_false_or_eq_true (decide (find3.1 < (0 : Int))) with hg9 | hg9
   ·replace h := br_t hg9 h
    refine Tk_condT (congrArg (fun b => some (Value.bool b)) hg9) ?_
    refine Tk_seq (Tk_region (Tops_step rfl (OpT_assign rfl rfl rfl rfl) ?_))
    refine Tops_nil (Tk_wkS (fr' := [(8, some (vI (5 : Int)))]) (own' := []) (shr' := []) [8] [] [] rfl rfl rfl rfl ?_)
    obtain rfl := Option.some.inj h
    exact Tk_retV rfl rfl (resA (vs := [vI (5 : Int)]) rfl ⟨rfl, trivial⟩) [] [] rfl rfl rfl ⟨rfl, rfl, rfl⟩
   ·replace h := br_f hg9 h
    refine Tk_condF (congrArg (fun b => some (Value.bool b)) hg9) ?_
    refine Tk_skip (Tk_seq (Tk_seq (Tk_region (Tops_step rfl (OpT_assign rfl rfl rfl rfl) ?_))))
    refine Tops_nil (Tk_wkS (fr' := [(0, some (.pointer none)), (2, some (vI bytes)), (3, some (vU64 vp3)), (9, some (vI find3.1)), (10, some (vI find3.2)), (11, some (vI (0 : Int)))]) (own' := []) (shr' := []) [0, 2, 3, 9, 10, 11] [] [] rfl rfl rfl rfl ?_)
    refine Tk_block (Tk_loopS (σ := Int) [0, 2, 3, 9, 10, 11] [] [] (fun s => ⟨[(0, some (.pointer none)), (2, some (vI bytes)), (3, some (vU64 vp3)), (9, some (vI find3.1)), (10, some (vI find3.2)), (11, some (vI s))], [], []⟩) (fun nf3 s => ref_Mem_Store02n0L3 bytes nf3 s = some r) fuel (0 : Int) h rfl rfl rfl rfl rfl (fun s h => by cases h) ?_)
    rintro nf3 n3 h
    replace h : ref_Mem_Store02n0L3B bytes (ref_Mem_Store02n0L3 bytes nf3) n3 = some r := h
    unfold ref_Mem_Store02n0L3B at h
    refine Tk_seq (Tk_seq (Tk_region (Tops_step rfl (OpT_move rfl rfl rfl rfl) ?_)))
    refine Tops_step rfl (OpT_move rfl rfl rfl rfl) ?_
    refine Tops_step rfl (OpT_bin rfl rfl rfl rfl rfl (bin_lss_i (a := n3) (b := bytes))) ?_
    refine Tops_nil (Tk_wkS (fr' := [(0, some (.pointer none)), (2, some (vI bytes)), (3, some (vU64 vp3)), (9, some (vI find3.1)), (10, some (vI find3.2)), (11, some (vI n3)), (38, some (vB (decide (n3 < bytes))))]) (own' := []) (shr' := []) [0, 2, 3, 9, 10, 11, 38] [] [] rfl rfl rfl rfl ?_)
    obtain ⟨hg10, h⟩ := chk_e h
    replace hg10 := not_t hg10
    refine Tk_condF (congrArg (fun b => some (Value.bool b)) hg10) ?_
    refine Tk_exit _ rfl ?_
    refine Tk_seq (Tk_region (Tops_step rfl (OpT_assign rfl rfl rfl rfl) ?_))
    refine Tops_nil (Tk_wkS (fr' := [(8, some (vI (0 : Int)))]) (own' := []) (shr' := []) [8] [] [] rfl rfl rfl rfl ?_)
    obtain rfl := Option.some.inj h
    exact Tk_retV rfl rfl (resA (vs := [vI (0 : Int)]) rfl ⟨rfl, trivial⟩) [] [] rfl rfl rfl ⟨rfl, rfl, rfl⟩
 ·replace h := br_f hg1 h
  refine Tops_no rfl rfl (congrArg (fun b => some (Value.bool b)) hg1) rfl rfl ?_
  refine Tops_no rfl rfl (congrArg (fun b => some (Value.bool b)) hg1) rfl rfl ?_
  refine Tops_step rfl (OpT_pickF rfl rfl rfl (congrArg (fun b => some (Value.bool b)) hg1) rfl) ?_
  refine Tops_step rfl (OpT_move rfl rfl rfl rfl) ?_
  refine Tops_no rfl rfl rfl rfl rfl ?_
  refine Tops_no rfl rfl rfl rfl rfl ?_
  refine Tops_step rfl (OpT_pickF rfl rfl rfl rfl rfl) ?_
  refine Tops_step rfl (OpT_move rfl rfl rfl rfl) ?_
  refine Tops_no rfl rfl rfl rfl rfl ?_
  refine Tops_no rfl rfl rfl rfl rfl ?_
  refine Tops_step rfl (OpT_pickF rfl rfl rfl rfl rfl) ?_
  refine Tops_nil (Tk_wkS (fr' := [(0, some (.pointer none)), (1, some (vU64 atp1)), (2, some (vI bytes)), (3, some (vU64 vp3)), (25, some (vB false))]) (own' := []) (shr' := []) [0, 1, 2, 3, 25] [] [] rfl rfl rfl rfl ?_)
  refine Tk_condF rfl ?_
  refine Tk_skip (Tk_seq (Tk_region (Tops_step rfl (OpT_move rfl rfl rfl rfl) ?_)))
  refine Tops_step rfl (OpT_move rfl rfl rfl rfl) ?_
  refine Tops_step rfl (OpT_move rfl rfl rfl rfl) ?_
  refine Tops_step rfl (OpT_cnv rfl rfl rfl rfl (cnv_i_u64 (n := bytes) Try.underlying3 Try.underlying26)) ?_
  obtain ⟨find4, hx4, h⟩ := ob_e h
  refine Tops_exP rfl (OpT_call (w_ref_Mem_find02n0 hx4) [] [] rfl rfl rfl rfl rfl callee40 rfl rfl rfl rfl) ?_
  rintro _ ⟨_, _, _, ⟨rfl, rfl, rfl⟩, rfl⟩
  refine Tops_step rfl (OpT_move rfl rfl rfl rfl) ?_
  refine Tops_step rfl (OpT_extract rfl rfl rfl rfl rfl) ?_
  refine Tops_step rfl (OpT_extract rfl rfl rfl rfl rfl) ?_
  refine Tops_step rfl (OpT_assign rfl rfl rfl rfl) ?_
  refine Tops_step rfl (OpT_assign rfl rfl rfl rfl) ?_
  refine Tops_nil (Tk_wkS (fr' := [(0, some (.pointer none)), (2, some (vI bytes)), (3, some (vU64 vp3)), (9, some (vI find4.1)), (10, some (vI find4.2))]) (own' := []) (shr' := []) [0, 2, 3, 9, 10] [] [] rfl rfl rfl rfl ?_)
  refine Tk_seq (Tk_seq (Tk_region (Tops_step rfl (OpT_move rfl rfl rfl rfl) ?_)))
  refine Tops_step rfl (OpT_bin rfl rfl rfl rfl rfl (bin_lss_i (a := find4.1) (b := (0 : Int)))) ?_
  refine Tops_nil (Tk_wkS (fr' := [(0, some (.pointer none)), (2, some (vI bytes)), (3, some (vU64 vp3)), (9, some (vI find4.1)), (10, some (vI find4.2)), (35, some (vB (decide (find4.1 < (0 : Int)))))]) (own' := []) (shr' := []) [0, 2, 3, 9, 10, 35] [] [] rfl rfl rfl rfl ?_)
  rcases Bool.eq_false_or_eq_true (decide (find4.1 < (0 : Int))) with hg11 | hg11
  ·replace h := br_t hg11 h
   refine Tk_condT (congrArg (fun b => some (Value.bool b)) hg11) ?_
   refine Tk_seq (Tk_region (Tops_step rfl (OpT_assign rfl rfl rfl rfl) ?_))
   refine Tops_nil (Tk_wkS (fr' := [(8, some (vI (5 : Int)))]) (own' := []) (shr' := []) [8] [] [] rfl rfl rfl rfl ?_)
   obtain rfl := Option.some.inj h
   exact Tk_retV rfl rfl (resA (vs := [vI (5 : Int)]) rfl ⟨rfl, trivial⟩) [] [] rfl rfl rfl ⟨rfl, rfl, rfl⟩
  ·replace h := br_f hg11 h
   refine Tk_condF (congrArg (fun b => some (Value.bool b)) hg11) ?_
   refine Tk_skip (Tk_seq (Tk_seq (Tk_region (Tops_step rfl (OpT_assign rfl rfl rfl rfl) ?_))))
   refine Tops_nil (Tk_wkS (fr' := [(0, some (.pointer none)), (2, some (vI bytes)), (3, some (vU64 vp3)), (9, some (vI find4.1)), (10, some (vI find4.2)), (11, some (vI (0 : Int)))]) (own' := []) (shr' := []) [0, 2, 3, 9, 10, 11] [] [] rfl rfl rfl rfl ?_)
   refine Tk_block (Tk_loopS (σ := Int) [0, 2, 3, 9, 10, 11] [] [] (fun s => ⟨[(0, some (.pointer none)), (2, some (vI bytes)), (3, some (vU64 vp3)), (9, some (vI find4.1)), (10, some (vI find4.2)), (11, some (vI s))], [], []⟩) (fun nf4 s => ref_Mem_Store02n0L4 bytes nf4 s = some r) fuel (0 : Int) h rfl rfl rfl rfl rfl (fun s h => by cases h) ?_)
   rintro nf4 n4 h
   replace h : ref_Mem_Store02n0L4B bytes (ref_Mem_Store02n0L4 bytes nf4) n4 = some r := h
   unfold ref_Mem_Store02n0L4B at h
   refine Tk_seq (Tk_seq (Tk_region (Tops_step rfl (OpT_move rfl rfl rfl rfl) ?_)))
   refine Tops_step rfl (OpT_move rfl rfl rfl rfl) ?_
   refine Tops_step rfl (OpT_bin rfl rfl rfl rfl rfl (bin_lss_i (a := n4) (b := bytes))) ?_
   refine Tops_nil (Tk_wkS (fr' := [(0, some (.pointer none)), (2, some (vI bytes)), (3, some (vU64 vp3)), (9, some (vI find4.1)), (10, some (vI find4.2)), (11, some (vI n4)), (38, some (vB (decide (n4 < bytes))))]) (own' := []) (shr' := []) [0, 2, 3, 9, 10, 11, 38] [] [] rfl rfl rfl rfl ?_)
   obtain ⟨hg12, h⟩ := chk_e h
   replace hg12 := not_t hg12
   refine Tk_condF (congrArg (fun b => some (Value.bool b)) hg12) ?_
   refine Tk_exit _ rfl ?_
   refine Tk_seq (Tk_region (Tops_step rfl (OpT_assign rfl rfl rfl rfl) ?_))
   refine Tops_nil (Tk_wkS (fr' := [(8, some (vI (0 : Int)))]) (own' := []) (shr' := []) [8] [] [] rfl rfl rfl rfl ?_)
   obtain rfl := Option.some.inj h
   exact Tk_retV rfl rfl (resA (vs := [vI (0 : Int)]) rfl ⟨rfl, trivial⟩) [] [] rfl rfl rfl ⟨rfl, rfl, rfl⟩

set_option maxRecDepth 100000 in
set_option maxHeartbeats 4000000 in
theorem w_gmem_Mem_Readn0 {atp1 : UInt64} {np2 : Int} {r : ((List UInt8) × Int)} (h : gmem_Mem_Readn0 atp1 np2 = some r) :
  Ctr Try.prog 22 #[.pointer none, vU64 atp1, vI np2] [] []
   (fun rv own shr => ∃ (w1 : Value), rv = .tuple #[w1, vI r.2] ∧ own = [(rowS u8S w1 r.1)] ∧ shr = []) := by
 unfold gmem_Mem_Readn0 at h
 refine Ctr.mk (args := [.pointer none, vU64 atp1, vI np2]) Try.func22 rfl rfl (fun R0 w0 B => ?_)
 refine Tk_seq (Tk_region (Tops_step rfl (OpT_assign rfl rfl rfl rfl) ?_))
 refine Tops_step rfl (OpT_assign rfl rfl rfl rfl) ?_
 refine Tops_nil (Tk_wkS (fr' := [(0, some (.pointer none)), (1, some (vU64 atp1)), (2, some (vI np2))]) (own' := []) (shr' := []) [0, 1, 2] [] [] rfl rfl rfl rfl ?_)
 refine Tk_seq (Tk_seq (Tk_region (Tops_step rfl (OpT_move rfl rfl rfl rfl) ?_)))
 obtain ⟨made1, hx1, h⟩ := ob_e h
 refine Tops_exP rfl (OpT_call (w_gmem_Mem_maden0 hx1) [] [] rfl rfl rfl rfl rfl callee34 rfl rfl rfl rfl) ?_
 rintro _ ⟨_, _, _, ⟨rfl, rfl, rfl⟩, rfl⟩
 refine Tops_step rfl (OpT_not rfl rfl rfl rfl) ?_
 refine Tops_nil (Tk_wkS (fr' := [(0, some (.pointer none)), (1, some (vU64 atp1)), (2, some (vI np2)), (11, some (vB (!made1)))]) (own' := []) (shr' := []) [0, 1, 2, 11] [] [] rfl rfl rfl rfl ?_)
 refine Tk_condT (congrArg (fun b => some (Value.bool b)) (congrArg (!·) (Option.some.inj (show some false = some made1 from hx1)).symm)) ?_
 refine Tk_seq (Tk_region (Tops_step rfl (OpT_assign rfl rfl rfl rfl) ?_))
 refine Tops_step rfl (OpT_assign rfl rfl rfl rfl) ?_
 refine Tops_nil (Tk_wkS (fr' := [(6, some (.slice none 0 0)), (7, some (vI (1 : Int)))]) (own' := []) (shr' := []) [6, 7] [] [] rfl rfl rfl rfl ?_)
 refine Tk_nilrow u8S ?_
 obtain rfl := Option.some.inj h
 exact Tk_retV rfl rfl (resA (vs := [.slice none 0 0, vI (1 : Int)]) rfl ⟨rfl, rfl, trivial⟩) [0] [] rfl rfl rfl ⟨(.slice none 0 0), rfl, rfl, rfl⟩

set_option maxRecDepth 100000 in
set_option maxHeartbeats 4000000 in
theorem w_ref_Mem_Read02n0 {atp1 : UInt64} {np2 : Int} {r : ((List UInt8) × Int)} (h : ref_Mem_Read02n0 atp1 np2 = some r) :
  Ctr Try.prog 26 #[.pointer none, vU64 atp1, vI np2] [] []
   (fun rv own shr => ∃ (w1 : Value), rv = .tuple #[w1, vI r.2] ∧ own = [(rowS u8S w1 r.1)] ∧ shr = []) := by
 unfold ref_Mem_Read02n0 at h
 refine Ctr.mk (args := [.pointer none, vU64 atp1, vI np2]) Try.func26 rfl rfl (fun R0 w0 B => ?_)
 refine Tk_seq (Tk_region (Tops_step rfl (OpT_assign rfl rfl rfl rfl) ?_))
 refine Tops_step rfl (OpT_assign rfl rfl rfl rfl) ?_
 refine Tops_nil (Tk_wkS (fr' := [(0, some (.pointer none)), (1, some (vU64 atp1)), (2, some (vI np2))]) (own' := []) (shr' := []) [0, 1, 2] [] [] rfl rfl rfl rfl ?_)
 refine Tk_seq (Tk_seq (Tk_region (Tops_step rfl (OpT_move rfl rfl rfl rfl) ?_)))
 refine Tops_step rfl (OpT_bin rfl rfl rfl rfl rfl (bin_lss_i (a := np2) (b := (0 : Int)))) ?_
 refine Tops_nil (Tk_wkS (fr' := [(0, some (.pointer none)), (1, some (vU64 atp1)), (2, some (vI np2)), (11, some (vB (decide (np2 < (0 : Int)))))]) (own' := []) (shr' := []) [0, 1, 2, 11] [] [] rfl rfl rfl rfl ?_)
 rcases Bool.eq_false_or_eq_true (decide (np2 < (0 : Int))) with hg1 | hg1
 ·replace h := br_t hg1 h
  refine Tk_condT (congrArg (fun b => some (Value.bool b)) hg1) ?_
  refine Tk_seq (Tk_region (Tops_step rfl (OpT_assign rfl rfl rfl rfl) ?_))
  refine Tops_step rfl (OpT_assign rfl rfl rfl rfl) ?_
  refine Tops_nil (Tk_wkS (fr' := [(6, some (.slice none 0 0)), (7, some (vI (2 : Int)))]) (own' := []) (shr' := []) [6, 7] [] [] rfl rfl rfl rfl ?_)
  refine Tk_nilrow u8S ?_
  obtain rfl := Option.some.inj h
  exact Tk_retV rfl rfl (resA (vs := [.slice none 0 0, vI (2 : Int)]) rfl ⟨rfl, rfl, trivial⟩) [0] [] rfl rfl rfl ⟨(.slice none 0 0), rfl, rfl, rfl⟩
 ·replace h := br_f hg1 h
  refine Tk_condF (congrArg (fun b => some (Value.bool b)) hg1) ?_
  refine Tk_skip (Tk_seq (Tk_seq (Tk_region (Tops_step rfl (OpT_move rfl rfl rfl rfl) ?_))))
  refine Tops_step rfl (OpT_bin rfl rfl rfl rfl rfl (bin_eql_i (a := np2) (b := (0 : Int)))) ?_
  refine Tops_nil (Tk_wkS (fr' := [(0, some (.pointer none)), (1, some (vU64 atp1)), (2, some (vI np2)), (13, some (vB (np2 == (0 : Int))))]) (own' := []) (shr' := []) [0, 1, 2, 13] [] [] rfl rfl rfl rfl ?_)
  rcases Bool.eq_false_or_eq_true (np2 == (0 : Int)) with hg2 | hg2
  ·replace h := br_t hg2 h
   refine Tk_condT (congrArg (fun b => some (Value.bool b)) hg2) ?_
   refine Tk_seq (Tk_region (Tops_step rfl (OpT_assign rfl rfl rfl rfl) ?_))
   refine Tops_step rfl (OpT_assign rfl rfl rfl rfl) ?_
   refine Tops_nil (Tk_wkS (fr' := [(6, some (.slice none 0 0)), (7, some (vI (0 : Int)))]) (own' := []) (shr' := []) [6, 7] [] [] rfl rfl rfl rfl ?_)
   refine Tk_nilrow u8S ?_
   obtain rfl := Option.some.inj h
   exact Tk_retV rfl rfl (resA (vs := [.slice none 0 0, vI (0 : Int)]) rfl ⟨rfl, rfl, trivial⟩) [0] [] rfl rfl rfl ⟨(.slice none 0 0), rfl, rfl, rfl⟩
  ·replace h := br_f hg2 h
   refine Tk_condF (congrArg (fun b => some (Value.bool b)) hg2) ?_
   refine Tk_skip (Tk_seq (Tk_region (Tops_step rfl (OpT_move rfl rfl rfl rfl) ?_)))
   refine Tops_step rfl (OpT_move rfl rfl rfl rfl) ?_
   refine Tops_step rfl (OpT_move rfl rfl rfl rfl) ?_
   refine Tops_step rfl (OpT_cnv rfl rfl rfl rfl (cnv_i_u64 (n := np2) Try.underlying3 Try.underlying26)) ?_
   obtain ⟨find1, hx1, h⟩ := ob_e h
   refine Tops_exP rfl (OpT_call (w_ref_Mem_find02n0 hx1) [] [] rfl rfl rfl rfl rfl callee40 rfl rfl rfl rfl) ?_
   rintro _ ⟨_, _, _, ⟨rfl, rfl, rfl⟩, rfl⟩
   refine Tops_step rfl (OpT_move rfl rfl rfl rfl) ?_
   refine Tops_step rfl (OpT_extract rfl rfl rfl rfl rfl) ?_
   refine Tops_step rfl (OpT_extract rfl rfl rfl rfl rfl) ?_
   refine Tops_step rfl (OpT_assign rfl rfl rfl rfl) ?_
   refine Tops_step rfl (OpT_assign rfl rfl rfl rfl) ?_
   refine Tops_nil (Tk_wkS (fr' := [(0, some (.pointer none)), (2, some (vI np2)), (8, some (vI find1.1)), (9, some (vI find1.2))]) (own' := []) (shr' := []) [0, 2, 8, 9] [] [] rfl rfl rfl rfl ?_)
   refine Tk_seq (Tk_seq (Tk_region (Tops_step rfl (OpT_move rfl rfl rfl rfl) ?_)))
   refine Tops_step rfl (OpT_bin rfl rfl rfl rfl rfl (bin_lss_i (a := find1.1) (b := (0 : Int)))) ?_
   refine Tops_nil (Tk_wkS (fr' := [(0, some (.pointer none)), (2, some (vI np2)), (8, some (vI find1.1)), (9, some (vI find1.2)), (23, some (vB (decide (find1.1 < (0 : Int)))))]) (own' := []) (shr' := []) [0, 2, 8, 9, 23] [] [] rfl rfl rfl rfl ?_)
   obtain ⟨hg3, h⟩ := chk_e h
   refine Tk_condT (congrArg (fun b => some (Value.bool b)) hg3) ?_
   refine Tk_seq (Tk_region (Tops_step rfl (OpT_assign rfl rfl rfl rfl) ?_))
   refine Tops_step rfl (OpT_assign rfl rfl rfl rfl) ?_
   refine Tops_nil (Tk_wkS (fr' := [(6, some (.slice none 0 0)), (7, some (vI (5 : Int)))]) (own' := []) (shr' := []) [6, 7] [] [] rfl rfl rfl rfl ?_)
   refine Tk_nilrow u8S ?_
   obtain rfl := Option.some.inj h
   exact Tk_retV rfl rfl (resA (vs := [.slice none 0 0, vI (5 : Int)]) rfl ⟨rfl, rfl, trivial⟩) [0] [] rfl rfl rfl ⟨(.slice none 0 0), rfl, rfl, rfl⟩

set_option maxRecDepth 100000 in
set_option maxHeartbeats 4000000 in
theorem w_gmem_Mem_Writen0 {atp1 : UInt64} {arg2 : List UInt8} {varg21 : Value} {r : Int} (h : gmem_Mem_Writen0 atp1 arg2 = some r) :
  Ctr Try.prog 18 #[.pointer none, vU64 atp1, varg21] [] [Fact.sl u8S varg21 arg2]
   (fun rv own shr => rv = vI r ∧ own = [] ∧ shr = []) := by
 unfold gmem_Mem_Writen0 at h
 refine Ctr.mk (args := [.pointer none, vU64 atp1, varg21]) Try.func18 rfl rfl (fun R0 w0 B => ?_)
 refine Tk_seq (Tk_region (Tops_step rfl (OpT_assign rfl rfl rfl rfl) ?_))
 refine Tops_nil (Tk_wkS (fr' := [(0, some (.pointer none)), (1, some (vU64 atp1)), (2, some (varg21))]) (own' := []) (shr' := [Fact.sl u8S varg21 arg2]) [0, 1, 2] [] [0] rfl rfl rfl rfl ?_)
 refine Tk_seq (Tk_seq (Tk_region (Tops_step rfl (OpT_move rfl rfl rfl rfl) ?_)))
 obtain ⟨made1, hx1, h⟩ := ob_e h
 refine Tops_exP rfl (OpT_call (w_gmem_Mem_maden0 hx1) [] [] rfl rfl rfl rfl rfl callee34 rfl rfl rfl rfl) ?_
 rintro _ ⟨_, _, _, ⟨rfl, rfl, rfl⟩, rfl⟩
 refine Tops_step rfl (OpT_not rfl rfl rfl rfl) ?_
 refine Tops_nil (Tk_wkS (fr' := [(0, some (.pointer none)), (1, some (vU64 atp1)), (2, some (varg21)), (10, some (vB (!made1)))]) (own' := []) (shr' := [Fact.sl u8S varg21 arg2]) [0, 1, 2, 10] [] [0] rfl rfl rfl rfl ?_)
 refine Tk_condT (congrArg (fun b => some (Value.bool b)) (congrArg (!·) (Option.some.inj (show some false = some made1 from hx1)).symm)) ?_
 refine Tk_seq (Tk_region (Tops_step rfl (OpT_assign rfl rfl rfl rfl) ?_))
 refine Tops_nil (Tk_wkS (fr' := [(6, some (vI (1 : Int)))]) (own' := []) (shr' := []) [6] [] [] rfl rfl rfl rfl ?_)
 obtain rfl := Option.some.inj h
 exact Tk_retV rfl rfl (resA (vs := [vI (1 : Int)]) rfl ⟨rfl, trivial⟩) [] [] rfl rfl rfl ⟨rfl, rfl, rfl⟩

set_option maxRecDepth 100000 in
set_option maxHeartbeats 4000000 in
theorem w_ref_Mem_Write02n0 {atp1 : UInt64} {b : List UInt8} {vb1 : Value} {r : Int} (h : ref_Mem_Write02n0 atp1 b = some r) :
  Ctr Try.prog 27 #[.pointer none, vU64 atp1, vb1] [] [Fact.sl u8S vb1 b]
   (fun rv own shr => rv = vI r ∧ own = [] ∧ shr = []) := by
 unfold ref_Mem_Write02n0 at h
 refine Ctr.mk (args := [.pointer none, vU64 atp1, vb1]) Try.func27 rfl rfl (fun R0 w0 B => ?_)
 refine Tk_seq (Tk_region (Tops_step rfl (OpT_assign rfl rfl rfl rfl) ?_))
 refine Tops_nil (Tk_wkS (fr' := [(0, some (.pointer none)), (1, some (vU64 atp1)), (2, some (vb1))]) (own' := []) (shr' := [Fact.sl u8S vb1 b]) [0, 1, 2] [] [0] rfl rfl rfl rfl ?_)
 refine Tk_seq (Tk_seq (Tk_region (Tops_step rfl (OpT_move rfl rfl rfl rfl) ?_)))
 refine Tops_step rfl (OpT_lenS rfl rfl rfl rfl Try.underlying38 (i := 0) rfl) ?_
 refine Tops_step rfl (OpT_bin rfl rfl rfl rfl rfl (bin_eql_i (a := len b) (b := (0 : Int)))) ?_
 refine Tops_nil (Tk_wkS (fr' := [(0, some (.pointer none)), (1, some (vU64 atp1)), (2, some (vb1)), (11, some (vB ((len b) == (0 : Int))))]) (own' := []) (shr' := [Fact.sl u8S vb1 b]) [0, 1, 2, 11] [] [0] rfl rfl rfl rfl ?_)
 rcases Bool.eq_false_or_eq_true ((len b) == (0 : Int)) with hg1 | hg1
 ·replace h := br_t hg1 h
  refine Tk_condT (congrArg (fun b => some (Value.bool b)) hg1) ?_
  refine Tk_seq (Tk_region (Tops_step rfl (OpT_assign rfl rfl rfl rfl) ?_))
  refine Tops_nil (Tk_wkS (fr' := [(6, some (vI (0 : Int)))]) (own' := []) (shr' := []) [6] [] [] rfl rfl rfl rfl ?_)
  obtain rfl := Option.some.inj h
  exact Tk_retV rfl rfl (resA (vs := [vI (0 : Int)]) rfl ⟨rfl, trivial⟩) [] [] rfl rfl rfl ⟨rfl, rfl, rfl⟩
 ·replace h := br_f hg1 h
  refine Tk_condF (congrArg (fun b => some (Value.bool b)) hg1) ?_
  refine Tk_skip (Tk_seq (Tk_region (Tops_step rfl (OpT_move rfl rfl rfl rfl) ?_)))
  refine Tops_step rfl (OpT_move rfl rfl rfl rfl) ?_
  refine Tops_step rfl (OpT_move rfl rfl rfl rfl) ?_
  refine Tops_step rfl (OpT_lenS rfl rfl rfl rfl Try.underlying38 (i := 0) rfl) ?_
  refine Tops_step rfl (OpT_cnv rfl rfl rfl rfl (cnv_i_u64 (n := len b) Try.underlying3 Try.underlying26)) ?_
  obtain ⟨find1, hx1, h⟩ := ob_e h
  refine Tops_exP rfl (OpT_call (w_ref_Mem_find02n0 hx1) [] [] rfl rfl rfl rfl rfl callee40 rfl rfl rfl rfl) ?_
  rintro _ ⟨_, _, _, ⟨rfl, rfl, rfl⟩, rfl⟩
  refine Tops_step rfl (OpT_move rfl rfl rfl rfl) ?_
  refine Tops_step rfl (OpT_extract rfl rfl rfl rfl rfl) ?_
  refine Tops_step rfl (OpT_extract rfl rfl rfl rfl rfl) ?_
  refine Tops_step rfl (OpT_assign rfl rfl rfl rfl) ?_
  refine Tops_step rfl (OpT_assign rfl rfl rfl rfl) ?_
  refine Tops_nil (Tk_wkS (fr' := [(0, some (.pointer none)), (2, some (vb1)), (7, some (vI find1.1)), (8, some (vI find1.2))]) (own' := []) (shr' := [Fact.sl u8S vb1 b]) [0, 2, 7, 8] [] [0] rfl rfl rfl rfl ?_)
  refine Tk_seq (Tk_seq (Tk_region (Tops_step rfl (OpT_move rfl rfl rfl rfl) ?_)))
  refine Tops_step rfl (OpT_bin rfl rfl rfl rfl rfl (bin_lss_i (a := find1.1) (b := (0 : Int)))) ?_
  refine Tops_nil (Tk_wkS (fr' := [(0, some (.pointer none)), (2, some (vb1)), (7, some (vI find1.1)), (8, some (vI find1.2)), (22, some (vB (decide (find1.1 < (0 : Int)))))]) (own' := []) (shr' := [Fact.sl u8S vb1 b]) [0, 2, 7, 8, 22] [] [0] rfl rfl rfl rfl ?_)
  obtain ⟨hg2, h⟩ := chk_e h
  refine Tk_condT (congrArg (fun b => some (Value.bool b)) hg2) ?_
  refine Tk_seq (Tk_region (Tops_step rfl (OpT_assign rfl rfl rfl rfl) ?_))
  refine Tops_nil (Tk_wkS (fr' := [(6, some (vI (5 : Int)))]) (own' := []) (shr' := []) [6] [] [] rfl rfl rfl rfl ?_)
  obtain rfl := Option.some.inj h
  exact Tk_retV rfl rfl (resA (vs := [vI (5 : Int)]) rfl ⟨rfl, trivial⟩) [] [] rfl rfl rfl ⟨rfl, rfl, rfl⟩

set_option maxRecDepth 100000 in
set_option maxHeartbeats 4000000 in
theorem w_gmem_Mem_Hasn0 {atp1 : UInt64} {np2 : UInt64} {r : Bool} (h : gmem_Mem_Hasn0 atp1 np2 = some r) :
  Ctr Try.prog 20 #[.pointer none, vU64 atp1, vU64 np2] [] []
   (fun rv own shr => rv = vB r ∧ own = [] ∧ shr = []) := by
 unfold gmem_Mem_Hasn0 at h
 refine Ctr.mk (args := [.pointer none, vU64 atp1, vU64 np2]) Try.func20 rfl rfl (fun R0 w0 B => ?_)
 refine Tk_seq (Tk_region (Tops_step rfl (OpT_assign rfl rfl rfl rfl) ?_))
 refine Tops_nil (Tk_wkS (fr' := [(0, some (.pointer none)), (1, some (vU64 atp1)), (2, some (vU64 np2))]) (own' := []) (shr' := []) [0, 1, 2] [] [] rfl rfl rfl rfl ?_)
 refine Tk_seq (Tk_region (Tops_step rfl (OpT_move rfl rfl rfl rfl) ?_))
 obtain ⟨made1, hx1, h⟩ := ob_e h
 refine Tops_exP rfl (OpT_call (w_gmem_Mem_maden0 hx1) [] [] rfl rfl rfl rfl rfl callee34 rfl rfl rfl rfl) ?_
 rintro _ ⟨_, _, _, ⟨rfl, rfl, rfl⟩, rfl⟩
 refine Tops_step rfl (OpT_move rfl rfl rfl rfl) ?_
 refine Tops_no rfl rfl (congrArg (fun b => some (Value.bool b)) (Option.some.inj (show some false = some made1 from hx1)).symm) rfl rfl ?_
 refine Tops_no rfl rfl (congrArg (fun b => some (Value.bool b)) (Option.some.inj (show some false = some made1 from hx1)).symm) rfl rfl ?_
 refine Tops_no rfl rfl (congrArg (fun b => some (Value.bool b)) (Option.some.inj (show some false = some made1 from hx1)).symm) rfl rfl ?_
 refine Tops_no rfl rfl (congrArg (fun b => some (Value.bool b)) (Option.some.inj (show some false = some made1 from hx1)).symm) rfl rfl ?_
 refine Tops_no rfl rfl (congrArg (fun b => some (Value.bool b)) (Option.some.inj (show some false = some made1 from hx1)).symm) rfl rfl ?_
 refine Tops_step rfl (OpT_pickF rfl rfl rfl (congrArg (fun b => some (Value.bool b)) (Option.some.inj (show some false = some made1 from hx1)).symm) rfl) ?_
 refine Tops_step rfl (OpT_assign rfl rfl rfl rfl) ?_
 refine Tops_nil (Tk_wkS (fr' := [(6, some (vB false))]) (own' := []) (shr' := []) [6] [] [] rfl rfl rfl rfl ?_)
 obtain rfl := Option.some.inj h
 exact Tk_retV rfl rfl (resA (vs := [vB false]) rfl ⟨rfl, trivial⟩) [] [] rfl rfl rfl ⟨rfl, rfl, rfl⟩

set_option maxRecDepth 100000 in
set_option maxHeartbeats 4000000 in
theorem w_ref_Mem_Has02n0 {atp1 : UInt64} {np2 : UInt64} {r : Bool} (h : ref_Mem_Has02n0 atp1 np2 = some r) :
  Ctr Try.prog 28 #[.pointer none, vU64 atp1, vU64 np2] [] []
   (fun rv own shr => rv = vB r ∧ own = [] ∧ shr = []) := by
 unfold ref_Mem_Has02n0 at h
 refine Ctr.mk (args := [.pointer none, vU64 atp1, vU64 np2]) Try.func28 rfl rfl (fun R0 w0 B => ?_)
 refine Tk_seq (Tk_region (Tops_step rfl (OpT_assign rfl rfl rfl rfl) ?_))
 refine Tops_nil (Tk_wkS (fr' := [(0, some (.pointer none)), (1, some (vU64 atp1)), (2, some (vU64 np2))]) (own' := []) (shr' := []) [0, 1, 2] [] [] rfl rfl rfl rfl ?_)
 refine Tk_seq (Tk_region (Tops_step rfl (OpT_move rfl rfl rfl rfl) ?_))
 refine Tops_step rfl (OpT_move rfl rfl rfl rfl) ?_
 refine Tops_step rfl (OpT_move rfl rfl rfl rfl) ?_
 obtain ⟨find1, hx1, h⟩ := ob_e h
 refine Tops_exP rfl (OpT_call (w_ref_Mem_find02n0 hx1) [] [] rfl rfl rfl rfl rfl callee40 rfl rfl rfl rfl) ?_
 rintro _ ⟨_, _, _, ⟨rfl, rfl, rfl⟩, rfl⟩
 refine Tops_step rfl (OpT_move rfl rfl rfl rfl) ?_
 refine Tops_step rfl (OpT_extract rfl rfl rfl rfl rfl) ?_
 refine Tops_step rfl (OpT_extract rfl rfl rfl rfl rfl) ?_
 refine Tops_step rfl (OpT_assign rfl rfl rfl rfl) ?_
 refine Tops_step rfl (OpT_assign rfl rfl rfl rfl) ?_
 refine Tops_nil (Tk_wkS (fr' := [(7, some (vI find1.1))]) (own' := []) (shr' := []) [7] [] [] rfl rfl rfl rfl ?_)
 refine Tk_seq (Tk_region (Tops_step rfl (OpT_move rfl rfl rfl rfl) ?_))
 refine Tops_step rfl (OpT_bin rfl rfl rfl rfl rfl (bin_geq_i (a := find1.1) (b := (0 : Int)))) ?_
 refine Tops_step rfl (OpT_assign rfl rfl rfl rfl) ?_
 refine Tops_nil (Tk_wkS (fr' := [(6, some (vB (decide (find1.1 ≥ (0 : Int)))))]) (own' := []) (shr' := []) [6] [] [] rfl rfl rfl rfl ?_)
 obtain rfl := Option.some.inj h
 exact Tk_retV rfl rfl (resA (vs := [vB (decide (find1.1 ≥ (0 : Int)))]) rfl ⟨rfl, trivial⟩) [] [] rfl rfl rfl ⟨rfl, rfl, rfl⟩

set_option maxRecDepth 100000 in
set_option maxHeartbeats 4000000 in
theorem w_gmem_Mem_Imagen0  {r : (List UInt8)} (h : gmem_Mem_Imagen0 = some r) :
  Ctr Try.prog 21 #[.pointer none] [] []
   (fun rv own shr => ∃ (w1 : Value), rv = w1 ∧ own = [(rowS u8S w1 r)] ∧ shr = []) := by
 unfold gmem_Mem_Imagen0 at h
 refine Ctr.mk (args := [.pointer none]) Try.func21 rfl rfl (fun R0 w0 B => ?_)
 refine Tk_seq (Tk_region (Tops_step rfl (OpT_assign rfl rfl rfl rfl) ?_))
 refine Tops_nil (Tk_wkS (fr' := [(0, some (.pointer none))]) (own' := []) (shr' := []) [0] [] [] rfl rfl rfl rfl ?_)
 refine Tk_seq (Tk_seq (Tk_region (Tops_step rfl (OpT_move rfl rfl rfl rfl) ?_)))
 obtain ⟨made1, hx1, h⟩ := ob_e h
 refine Tops_exP rfl (OpT_call (w_gmem_Mem_maden0 hx1) [] [] rfl rfl rfl rfl rfl callee34 rfl rfl rfl rfl) ?_
 rintro _ ⟨_, _, _, ⟨rfl, rfl, rfl⟩, rfl⟩
 refine Tops_step rfl (OpT_not rfl rfl rfl rfl) ?_
 refine Tops_nil (Tk_wkS (fr' := [(0, some (.pointer none)), (5, some (vB (!made1)))]) (own' := []) (shr' := []) [0, 5] [] [] rfl rfl rfl rfl ?_)
 refine Tk_condT (congrArg (fun b => some (Value.bool b)) (congrArg (!·) (Option.some.inj (show some false = some made1 from hx1)).symm)) ?_
 refine Tk_seq (Tk_region (Tops_step rfl (OpT_assign rfl rfl rfl rfl) ?_))
 refine Tops_nil (Tk_wkS (fr' := [(2, some (.slice none 0 0))]) (own' := []) (shr' := []) [2] [] [] rfl rfl rfl rfl ?_)
 refine Tk_nilrow u8S ?_
 obtain rfl := Option.some.inj h
 exact Tk_retV rfl rfl (resA (vs := [.slice none 0 0]) rfl ⟨rfl, trivial⟩) [0] [] rfl rfl rfl ⟨(.slice none 0 0), rfl, rfl, rfl⟩

theorem ws_gmem_Mem_Imagen0  {r : (List UInt8)} (h : gmem_Mem_Imagen0 = some r) :
  Ctr Try.prog 21 #[.pointer none] [] []
   (fun rv own shr => ∃ (w1 : Value), rv = w1 ∧ own = [] ∧ shr = [Fact.sl u8S w1 r]) :=
 Ctr.sh (w_gmem_Mem_Imagen0 h) (by rintro w1 _ _ ⟨_, rfl, rfl, rfl⟩; exact ⟨[], _, _, _, _, rfl, w1, rfl, rfl, rfl⟩)

set_option maxRecDepth 100000 in
set_option maxHeartbeats 4000000 in
theorem w_ref_Mem_Image02n0  {r : (List UInt8)} (h : ref_Mem_Image02n0 = some r) :
  Ctr Try.prog 29 #[.pointer none] [] []
   (fun rv own shr => ∃ (w1 : Value), rv = w1 ∧ own = [(rowS u8S w1 r)] ∧ shr = []) := by
 unfold ref_Mem_Image02n0 at h
 refine Ctr.mk (args := [.pointer none]) Try.func29 rfl rfl (fun R0 w0 B => ?_)
 refine Tk_seq (Tk_region (Tops_step rfl (OpT_assign rfl rfl rfl rfl) ?_))
 refine Tops_nil (Tk_wkS (fr' := [(0, some (.pointer none))]) (own' := []) (shr' := []) [0] [] [] rfl rfl rfl rfl ?_)
 refine Tk_seq (Tk_region (Tops_step rfl (OpT_assign rfl rfl rfl rfl) ?_))
 refine Tops_nil (Tk_seq (Tk_seq (Tk_region (Tops_step rfl (OpT_assign rfl rfl rfl rfl) ?_))))
 refine Tops_nil (Tk_block (Tk_nilrow u8S ?_))
 refine Tk_loopS (σ := (List UInt8) × Int × Value) [0, 3, 4] [0] [] (fun s => ⟨[(0, some (.pointer none)), (3, some (s.2.2)), (4, some (vI s.2.1))], [some (rowS u8S s.2.2 s.1)], []⟩) (fun nf1 s => ref_Mem_Image02n0L1 nf1 s.1 s.2.1 = some r) fuel ([], (0 : Int), (.slice none 0 0)) h rfl rfl rfl rfl rfl (fun s h => by cases h) ?_
 rintro nf1 ⟨out1, i1, v1⟩ h
 replace h : ref_Mem_Image02n0L1B (ref_Mem_Image02n0L1 nf1) out1 i1 = some r := h
 unfold ref_Mem_Image02n0L1B at h
 cases h

theorem ws_ref_Mem_Image02n0  {r : (List UInt8)} (h : ref_Mem_Image02n0 = some r) :
  Ctr Try.prog 29 #[.pointer none] [] []
   (fun rv own shr => ∃ (w1 : Value), rv = w1 ∧ own = [] ∧ shr = [Fact.sl u8S w1 r]) :=
 Ctr.sh (w_ref_Mem_Image02n0 h) (by rintro w1 _ _ ⟨_, rfl, rfl, rfl⟩; exact ⟨[], _, _, _, _, rfl, w1, rfl, rfl, rfl⟩)

set_option maxRecDepth 100000 in
set_option maxHeartbeats 4000000 in
theorem w_gmem_Mem_Regionsn0  {r : (List Region)} (h : gmem_Mem_Regionsn0 = some r) :
  Ctr Try.prog 31 #[.pointer none] [] []
   (fun rv own shr => ∃ (w1 : Value), rv = w1 ∧ own = [(rowS RegionS w1 r)] ∧ shr = []) := by
 unfold gmem_Mem_Regionsn0 at h
 refine Ctr.mk (args := [.pointer none]) Try.func31 rfl rfl (fun R0 w0 B => ?_)
 refine Tk_seq (Tk_region (Tops_step rfl (OpT_assign rfl rfl rfl rfl) ?_))
 refine Tops_nil (Tk_wkS (fr' := [(0, some (.pointer none))]) (own' := []) (shr' := []) [0] [] [] rfl rfl rfl rfl ?_)
 refine Tk_seq (Tk_seq (Tk_region (Tops_step rfl (OpT_move rfl rfl rfl rfl) ?_)))
 obtain ⟨made1, hx1, h⟩ := ob_e h
 refine Tops_exP rfl (OpT_call (w_gmem_Mem_maden0 hx1) [] [] rfl rfl rfl rfl rfl callee34 rfl rfl rfl rfl) ?_
 rintro _ ⟨_, _, _, ⟨rfl, rfl, rfl⟩, rfl⟩
 refine Tops_step rfl (OpT_not rfl rfl rfl rfl) ?_
 refine Tops_nil (Tk_wkS (fr' := [(0, some (.pointer none)), (5, some (vB (!made1)))]) (own' := []) (shr' := []) [0, 5] [] [] rfl rfl rfl rfl ?_)
 refine Tk_condT (congrArg (fun b => some (Value.bool b)) (congrArg (!·) (Option.some.inj (show some false = some made1 from hx1)).symm)) ?_
 refine Tk_seq (Tk_region (Tops_step rfl (OpT_assign rfl rfl rfl rfl) ?_))
 refine Tops_nil (Tk_wkS (fr' := [(2, some (.slice none 0 0))]) (own' := []) (shr' := []) [2] [] [] rfl rfl rfl rfl ?_)
 refine Tk_nilrow RegionS ?_
 obtain rfl := Option.some.inj h
 exact Tk_retV rfl rfl (resA (vs := [.slice none 0 0]) rfl ⟨rfl, trivial⟩) [0] [] rfl rfl rfl ⟨(.slice none 0 0), rfl, rfl, rfl⟩

theorem ws_gmem_Mem_Regionsn0  {r : (List Region)} (h : gmem_Mem_Regionsn0 = some r) :
  Ctr Try.prog 31 #[.pointer none] [] []
   (fun rv own shr => ∃ (w1 : Value), rv = w1 ∧ own = [] ∧ shr = [Fact.sl RegionS w1 r]) :=
 Ctr.sh (w_gmem_Mem_Regionsn0 h) (by rintro w1 _ _ ⟨_, rfl, rfl, rfl⟩; exact ⟨[], _, _, _, _, rfl, w1, rfl, rfl, rfl⟩)

set_option maxRecDepth 100000 in
set_option maxHeartbeats 4000000 in
theorem w_ref_Mem_Store02 {m : dumbwaiterref02_Mem} {atp1 : UInt64} {bytes : Int} {vp3 : UInt64} {b_m : Nat} {vm1 : Value} {vm2 : Value} {vsm1 : List Value} {r : (Int × (List (List UInt8)))} (h : ref_Mem_Store02 m atp1 bytes vp3 = some r) :
  Ctr Try.prog 25 #[.pointer (some ⟨b_m, 0, none⟩), vU64 atp1, vI bytes, vU64 vp3] [(cellsR b_m 67 [vm1, vm2]), (rowsX u8S false vm2 vsm1 m.B none)] [Fact.sl RegionS vm1 m.L]
   (fun rv own shr => rv = vI r.1 ∧ own = [(cellsR b_m 67 [vm1, vm2]), (rowsX u8S false vm2 vsm1 r.2 none)] ∧ shr = []) := by
 unfold ref_Mem_Store02 at h
 refine Ctr.mk (args := [.pointer (some ⟨b_m, 0, none⟩), vU64 atp1, vI bytes, vU64 vp3]) Try.func25 rfl rfl (fun R0 w0 B => ?_)
 refine Tk_seq (Tk_region (Tops_step rfl (OpT_assign rfl rfl rfl rfl) ?_))
 refine Tops_nil (Tk_wkS (fr' := [(0, some (.pointer (some ⟨b_m, 0, none⟩))), (1, some (vU64 atp1)), (2, some (vI bytes)), (3, some (vU64 vp3))]) (own' := [some (cellsR b_m 67 [vm1, vm2]), some (rowsX u8S false vm2 vsm1 m.B none)]) (shr' := [Fact.sl RegionS vm1 m.L]) [0, 1, 2, 3] [0, 1] [0] rfl rfl rfl rfl ?_)
 refine Tk_seq (Tk_seq (Tk_region (Tops_step rfl (OpT_move rfl rfl rfl rfl) ?_)))
 refine Tops_step rfl (OpT_bin rfl rfl rfl rfl rfl (bin_neq_i (a := bytes) (b := (1 : Int)))) ?_
 refine Tops_step rfl (OpT_move rfl rfl rfl rfl) ?_
 rcases Bool.eq_false_or_eq_true (bytes != (1 : Int)) with hg1 | hg1
 ·replace h := br_t hg1 h
  refine Tops_yes rfl rfl (congrArg (fun b => some (Value.bool b)) hg1) (OpT_move rfl rfl rfl rfl) ?_
  rintro _ rfl
  refine Tops_yes rfl rfl (congrArg (fun b => some (Value.bool b)) hg1) (OpT_bin rfl rfl rfl rfl rfl (bin_neq_i (a := bytes) (b := (2 : Int)))) ?_
  rintro _ rfl
  refine Tops_step rfl (OpT_pickT rfl rfl rfl (congrArg (fun b => some (Value.bool b)) hg1) rfl) ?_
  refine Tops_step rfl (OpT_move rfl rfl rfl rfl) ?_
  rcases Bool.eq_false_or_eq_true (bytes != (2 : Int)) with hg2 | hg2
  ·replace h := br_t hg2 h
   refine Tops_yes rfl rfl (congrArg (fun b => some (Value.bool b)) hg2) (OpT_move rfl rfl rfl rfl) ?_
   rintro _ rfl
   refine Tops_yes rfl rfl (congrArg (fun b => some (Value.bool b)) hg2) (OpT_bin rfl rfl rfl rfl rfl (bin_neq_i (a := bytes) (b := (4 : Int)))) ?_
   rintro _ rfl
   refine Tops_step rfl (OpT_pickT rfl rfl rfl (congrArg (fun b => some (Value.bool b)) hg2) rfl) ?_
   refine Tops_step rfl (OpT_move rfl rfl rfl rfl) ?_
   rcases Bool.eq_false_or_eq_true (bytes != (4 : Int)) with hg3 | hg3
   ·replace h := br_t hg3 h
    refine Tops_yes rfl rfl (congrArg (fun b => some (Value.bool b)) hg3) (OpT_move rfl rfl rfl rfl) ?_
    rintro _ rfl
    refine Tops_yes rfl rfl (congrArg (fun b => some (Value.bool b)) hg3) (OpT_bin rfl rfl rfl rfl rfl (bin_neq_i (a := bytes) (b := (8 : Int)))) ?_
    rintro _ rfl
    refine Tops_step rfl (OpT_pickT rfl rfl rfl (congrArg (fun b => some (Value.bool b)) hg3) rfl) ?_
    refine Tops_nil (Tk_wkS (fr' := [(0, some (.pointer (some ⟨b_m, 0, none⟩))), (1, some (vU64 atp1)), (2, some (vI bytes)), (3, some (vU64 vp3)), (25, some (vB (bytes != (8 : Int))))]) (own' := [some (cellsR b_m 67 [vm1, vm2]), some (rowsX u8S false vm2 vsm1 m.B none)]) (shr' := [Fact.sl RegionS vm1 m.L]) [0, 1, 2, 3, 25] [0, 1] [0] rfl rfl rfl rfl ?_)
    rcases Bool.eq_false_or_eq_true (bytes != (8 : Int)) with hg4 | hg4
    ·replace h := br_t hg4 h
     refine Tk_condT (congrArg (fun b => some (Value.bool b)) hg4) ?_
     refine Tk_seq (Tk_region (Tops_step rfl (OpT_assign rfl rfl rfl rfl) ?_))
     refine Tops_nil (Tk_wkS (fr' := [(8, some (vI (2 : Int)))]) (own' := [some (cellsR b_m 67 [vm1, vm2]), some (rowsX u8S false vm2 vsm1 m.B none)]) (shr' := [Fact.sl RegionS vm1 m.L]) [8] [0, 1] [0] rfl rfl rfl rfl ?_)
     obtain rfl := Option.some.inj h
     exact Tk_retV rfl rfl (resA (vs := [vI (2 : Int)]) rfl ⟨rfl, trivial⟩) [0, 1] [] rfl rfl rfl ⟨rfl, rfl, rfl⟩
    ·replace h := br_f hg4 h
     refine Tk_condF (congrArg (fun b => some (Value.bool b)) hg4) ?_
     refine Tk_skip (Tk_seq (Tk_region (Tops_step rfl (OpT_move rfl rfl rfl rfl) ?_)))
     refine Tops_step rfl (OpT_move rfl rfl rfl rfl) ?_
     refine Tops_step rfl (OpT_move rfl rfl rfl rfl) ?_
     refine Tops_step rfl (OpT_cnv rfl rfl rfl rfl (cnv_i_u64 (n := bytes) Try.underlying3 Try.underlying26)) ?_
     obtain ⟨find1, hx1, h⟩ := ob_e h
     refine Tops_exP rfl (OpT_callP [2, 3] (w_ref_Mem_find02 hx1) [0, 1] [0] rfl rfl rfl rfl rfl callee40 rfl rfl rfl rfl rfl) ?_
     rintro _ ⟨_, _, _, ⟨rfl, rfl, rfl⟩, rfl⟩
     refine Tops_step rfl (OpT_move rfl rfl rfl rfl) ?_
     refine Tops_step rfl (OpT_extract rfl rfl rfl rfl rfl) ?_
     refine Tops_step rfl (OpT_extract rfl rfl rfl rfl rfl) ?_
     refine Tops_step rfl (OpT_assign rfl rfl rfl rfl) ?_
     refine Tops_step rfl (OpT_assign rfl rfl rfl rfl) ?_
     refine Tops_nil (Tk_wkS (fr' := [(0, some (.pointer (some ⟨b_m, 0, none⟩))), (2, some (vI bytes)), (3, some (vU64 vp3)), (9, some (vI find1.1)), (10, some (vI find1.2))]) (own' := [some (cellsR b_m 67 [vm1, vm2]), some (rowsX u8S false vm2 vsm1 m.B none)]) (shr' := [Fact.sl RegionS vm1 m.L]) [0, 2, 3, 9, 10] [0, 1] [0] rfl rfl rfl rfl ?_)
     refine Tk_seq (Tk_seq (Tk_region (Tops_step rfl (OpT_move rfl rfl rfl rfl) ?_)))
     refine Tops_step rfl (OpT_bin rfl rfl rfl rfl rfl (bin_lss_i (a := find1.1) (b := (0 : Int)))) ?_
     refine Tops_nil (Tk_wkS (fr' := [(0, some (.pointer (some ⟨b_m, 0, none⟩))), (2, some (vI bytes)), (3, some (vU64 vp3)), (9, some (vI find1.1)), (10, some (vI find1.2)), (35, some (vB (decide (find1.1 < (0 : Int)))))]) (own' := [some (cellsR b_m 67 [vm1, vm2]), some (rowsX u8S false vm2 vsm1 m.B none)]) (shr' := [Fact.sl RegionS vm1 m.L]) [0, 2, 3, 9, 10, 35] [0, 1] [0] rfl rfl rfl rfl ?_)
     rcases Bool.eq_false_or_eq_true (decide (find1.1 < (0 : Int))) with hg5 | hg5
     ·replace h := br_t hg5 h
      refine Tk_condT (congrArg (fun b => some (Value.bool b)) hg5) ?_
      refine Tk_seq (Tk_region (Tops_step rfl (OpT_assign rfl rfl rfl rfl) ?_))
      refine Tops_nil (Tk_wkS (fr' := [(8, some (vI (5 : Int)))]) (own' := [some (cellsR b_m 67 [vm1, vm2]), some (rowsX u8S false vm2 vsm1 m.B none)]) (shr' := [Fact.sl RegionS vm1 m.L]) [8] [0, 1] [0] rfl rfl rfl rfl ?_)
      obtain rfl := Option.some.inj h
      exact Tk_retV rfl rfl (resA (vs := [vI (5 : Int)]) rfl ⟨rfl, trivial⟩) [0, 1] [] rfl rfl rfl ⟨rfl, rfl, rfl⟩
     ·replace h := br_f hg5 h
      refine Tk_condF (congrArg (fun b => some (Value.bool b)) hg5) ?_
      refine Tk_skip (Tk_seq (Tk_seq (Tk_region (Tops_step rfl (OpT_assign rfl rfl rfl rfl) ?_))))
      refine Tops_nil (Tk_wkS (fr' := [(0, some (.pointer (some ⟨b_m, 0, none⟩))), (2, some (vI bytes)), (3, some (vU64 vp3)), (9, some (vI find1.1)), (10, some (vI find1.2)), (11, some (vI (0 : Int)))]) (own' := [some (cellsR b_m 67 [vm1, vm2]), some (rowsX u8S false vm2 vsm1 m.B none)]) (shr' := [Fact.sl RegionS vm1 m.L]) [0, 2, 3, 9, 10, 11] [0, 1] [0] rfl rfl rfl rfl ?_)
      refine Tk_block (Tk_loopS (σ := (List (List UInt8)) × Int) [0, 2, 3, 9, 10, 11] [0, 1] [0] (fun s => ⟨[(0, some (.pointer (some ⟨b_m, 0, none⟩))), (2, some (vI bytes)), (3, some (vU64 vp3)), (9, some (vI find1.1)), (10, some (vI find1.2)), (11, some (vI s.2))], [some (cellsR b_m 67 [vm1, vm2]), some (rowsX u8S false vm2 vsm1 s.1 none)], [Fact.sl RegionS vm1 m.L]⟩) (fun nf1 s => ref_Mem_Store02L1 bytes vp3 find1 nf1 s.1 s.2 = some r) fuel (m.B, (0 : Int)) h rfl rfl rfl rfl rfl (fun s h => by cases h) ?_)
      rintro nf1 ⟨rows1, n1⟩ h
      replace h : ref_Mem_Store02L1B bytes vp3 find1 (ref_Mem_Store02L1 bytes vp3 find1 nf1) rows1 n1 = some r := h
      unfold ref_Mem_Store02L1B at h
      refine Tk_seq (Tk_seq (Tk_region (Tops_step rfl (OpT_move rfl rfl rfl rfl) ?_)))
      refine Tops_step rfl (OpT_move rfl rfl rfl rfl) ?_
      refine Tops_step rfl (OpT_bin rfl rfl rfl rfl rfl (bin_lss_i (a := n1) (b := bytes))) ?_
      refine Tops_nil (Tk_wkS (fr' := [(0, some (.pointer (some ⟨b_m, 0, none⟩))), (2, some (vI bytes)), (3, some (vU64 vp3)), (9, some (vI find1.1)), (10, some (vI find1.2)), (11, some (vI n1)), (38, some (vB (decide (n1 < bytes))))]) (own' := [some (cellsR b_m 67 [vm1, vm2]), some (rowsX u8S false vm2 vsm1 rows1 none)]) (shr' := [Fact.sl RegionS vm1 m.L]) [0, 2, 3, 9, 10, 11, 38] [0, 1] [0] rfl rfl rfl rfl ?_)
      rcases Bool.eq_false_or_eq_true (decide (n1 < bytes)) with hg6 | hg6
      ·replace h := br_t hg6 h
       refine Tk_condT (congrArg (fun b => some (Value.bool b)) hg6) ?_
       refine Tk_skip (Tk_seq (Tk_block (Tk_region (Tops_step rfl (OpT_move rfl rfl rfl rfl) ?_))))
       refine Tops_step rfl (OpT_nilCheckP rfl rfl rfl rfl) ?_
       refine Tops_step rfl (OpT_fieldC rfl rfl rfl rfl fldF67x1) ?_
       refine Tops_step rfl (OpT_loadC rfl rfl rfl rfl tyF60 (i := 0) rfl rfl) ?_
       refine Tops_step rfl (OpT_move rfl rfl rfl rfl) ?_
       obtain ⟨row1, hx2, h⟩ := ob_e h
       refine Tops_step rfl (OpT_idxRows rfl rfl rfl rfl rfl slF60 (i := 1) rfl hx2) ?_
       refine Tops_vs (vs_focus (i := 1) (j := find1.1) rfl hx2) ?_
       refine Tops_step rfl (OpT_loadRow (m := find1.1) rfl rfl rfl rfl tyF38 (i := 1) rfl) ?_
       refine Tops_step rfl (OpT_move rfl rfl rfl rfl) ?_
       refine Tops_step rfl (OpT_move rfl rfl rfl rfl) ?_
       refine Tops_step rfl (OpT_bin rfl rfl rfl rfl rfl (bin_add_i (a := find1.2) (b := n1))) ?_
       refine Tops_step rfl (OpT_move rfl rfl rfl rfl) ?_
       refine Tops_step rfl (OpT_move rfl rfl rfl rfl) ?_
       refine Tops_step rfl (OpT_bin rfl rfl rfl rfl rfl (bin_mul_i (a := (8 : Int)) (b := n1))) ?_
       refine Tops_step rfl (OpT_cnv rfl rfl rfl rfl (cnv_i_u64 (n := wi ((8 : Int) * n1)) Try.underlying3 Try.underlying46)) ?_
       refine Tops_step rfl (OpT_bin rfl rfl rfl rfl rfl (bin_shr_u64_u64 (a := vp3) (n := u64 (wi ((8 : Int) * n1))))) ?_
       refine Tops_step rfl (OpT_cnv rfl rfl rfl rfl (cnv_u64_u8 (n := shr64 vp3 ((u64 (wi ((8 : Int) * n1))).toNat)) Try.underlying26 Try.underlying5)) ?_
       obtain ⟨y1, hx3, h⟩ := ob_e h
       refine Tops_step rfl (OpT_idxO rfl rfl rfl rfl rfl slF38 (i := 2) rfl hx3) ?_
       refine Tops_step rfl (OpT_storeO (S := u8S) (u := (shr64 vp3 ((u64 (wi ((8 : Int) * n1))).toNat)).toUInt8) rfl rfl rfl rfl rfl tyF5 (i := 2) rfl hx3 rfl) ?_
       refine Tops_nil (Tk_wkS (fr' := [(0, some (.pointer (some ⟨b_m, 0, none⟩))), (2, some (vI bytes)), (3, some (vU64 vp3)), (9, some (vI find1.1)), (10, some (vI find1.2)), (11, some (vI n1))]) (own' := [some (cellsR b_m 67 [vm1, vm2]), some (rowsX u8S false vm2 vsm1 rows1 (some (Int.toNat find1.1, vsAt vsm1 (Int.toNat find1.1)))), some (rowS u8S (vsAt vsm1 (Int.toNat find1.1)) (row1.set (wi (find1.2 + n1)).toNat ((shr64 vp3 ((u64 (wi ((8 : Int) * n1))).toNat)).toUInt8)))]) (shr' := [Fact.sl RegionS vm1 m.L]) [0, 2, 3, 9, 10, 11] [0, 1, 2] [0] rfl rfl rfl rfl ?_)
       refine Tk_blk (Tk_vs (vs_unfocus (i := 1) (q := 2) rfl rfl rfl) ?_)
       refine Tk_region (Tops_step rfl (OpT_move rfl rfl rfl rfl) ?_)
       refine Tops_step rfl (OpT_bin rfl rfl rfl rfl rfl (bin_add_i (a := n1) (b := (1 : Int)))) ?_
       refine Tops_step rfl (OpT_assign rfl rfl rfl rfl) ?_
       refine Tops_nil (Tk_wkS (fr' := [(0, some (.pointer (some ⟨b_m, 0, none⟩))), (2, some (vI bytes)), (3, some (vU64 vp3)), (9, some (vI find1.1)), (10, some (vI find1.2)), (11, some (vI (wi (n1 + (1 : Int)))))]) (own' := [some (cellsR b_m 67 [vm1, vm2]), some (rowsX u8S false vm2 vsm1 (rows1.set (Int.toNat find1.1) (row1.set (wi (find1.2 + n1)).toNat ((shr64 vp3 ((u64 (wi ((8 : Int) * n1))).toNat)).toUInt8))) none)]) (shr' := [Fact.sl RegionS vm1 m.L]) [0, 2, 3, 9, 10, 11] [0, 1] [0] rfl rfl rfl rfl ?_)
       exact Tk_backS (rows1.set (Int.toNat find1.1) (row1.set (wi (find1.2 + n1)).toNat ((shr64 vp3 ((u64 (wi ((8 : Int) * n1))).toNat)).toUInt8)), wi (n1 + (1 : Int))) h [0, 2, 3, 9, 10, 11] [0, 1] [0] rfl rfl rfl rfl rfl
      ·replace h := br_f hg6 h
       refine Tk_condF (congrArg (fun b => some (Value.bool b)) hg6) ?_
       refine Tk_exit _ rfl ?_
       refine Tk_seq (Tk_region (Tops_step rfl (OpT_assign rfl rfl rfl rfl) ?_))
       refine Tops_nil (Tk_wkS (fr' := [(8, some (vI (0 : Int)))]) (own' := [some (cellsR b_m 67 [vm1, vm2]), some (rowsX u8S false vm2 vsm1 rows1 none)]) (shr' := [Fact.sl RegionS vm1 m.L]) [8] [0, 1] [0] rfl rfl rfl rfl ?_)
       obtain rfl := Option.some.inj h
       exact Tk_retV rfl rfl (resA (vs := [vI (0 : Int)]) rfl ⟨rfl, trivial⟩) [0, 1] [] rfl rfl rfl ⟨rfl, rfl, rfl⟩
   ·replace h := br_f hg3 h
    refine Tops_no rfl rfl (congrArg (fun b => some (Value.bool b)) hg3) rfl rfl ?_
    refine Tops_no rfl rfl (congrArg (fun b => some (Value.bool b)) hg3) rfl rfl ?_
    refine Tops_step rfl (OpT_pickF rfl rfl rfl (congrArg (fun b => some (Value.bool b)) hg3) rfl) ?_
    refine Tops_nil (Tk_wkS (fr' := [(0, some (.pointer (some ⟨b_m, 0, none⟩))), (1, some (vU64 atp1)), (2, some (vI bytes)), (3, some (vU64 vp3)), (25, some (vB false))]) (own' := [some (cellsR b_m 67 [vm1, vm2]), some (rowsX u8S false vm2 vsm1 m.B none)]) (shr' := [Fact.sl RegionS vm1 m.L]) [0, 1, 2, 3, 25] [0, 1] [0] rfl rfl rfl rfl ?_)
    refine Tk_condF rfl ?_
    refine Tk_skip (Tk_seq (Tk_region (Tops_step rfl (OpT_move rfl rfl rfl rfl) ?_)))
    refine Tops_step rfl (OpT_move rfl rfl rfl rfl) ?_
    refine Tops_step rfl (OpT_move rfl rfl rfl rfl) ?_
    refine Tops_step rfl (OpT_cnv rfl rfl rfl rfl (cnv_i_u64 (n := bytes) Try.underlying3 Try.underlying26)) ?_
    obtain ⟨find2, hx4, h⟩ := ob_e h
    refine Tops_exP rfl (OpT_callP [2, 3] (w_ref_Mem_find02 hx4) [0, 1] [0] rfl rfl rfl rfl rfl callee40 rfl rfl rfl rfl rfl) ?_
    rintro _ ⟨_, _, _, ⟨rfl, rfl, rfl⟩, rfl⟩
    refine Tops_step rfl (OpT_move rfl rfl rfl rfl) ?_
    refine Tops_step rfl (OpT_extract rfl rfl rfl rfl rfl) ?_
    refine Tops_step rfl (OpT_extract rfl rfl rfl rfl rfl) ?_
    refine Tops_step rfl (OpT_assign rfl rfl rfl rfl) ?_
    refine Tops_step rfl (OpT_assign rfl rfl rfl rfl) ?_
    refine Tops_nil (Tk_wkS (fr' := [(0, some (.pointer (some ⟨b_m, 0, none⟩))), (2, some (vI bytes)), (3, some (vU64 vp3)), (9, some (vI find2.1)), (10, some (vI find2.2))]) (own' := [some (cellsR b_m 67 [vm1, vm2]), some (rowsX u8S false vm2 vsm1 m.B none)]) (shr' := [Fact.sl RegionS vm1 m.L]) [0, 2, 3, 9, 10] [0, 1] [0] rfl rfl rfl rfl ?_)
    refine Tk_seq (Tk_seq (Tk_region (Tops_step rfl (OpT_move rfl rfl rfl rfl) ?_)))
    refine Tops_step rfl (OpT_bin rfl rfl rfl rfl rfl (bin_lss_i (a := find2.1) (b := (0 : Int)))) ?_
    refine Tops_nil (Tk_wkS (fr' := [(0, some (.pointer (some ⟨b_m, 0, none⟩))), (2, some (vI bytes)), (3, some (vU64 vp3)), (9, some (vI find2.1)), (10, some (vI find2.2)), (35, some (vB (decide (find2.1 < (0 : Int)))))]) (own' := [some (cellsR b_m 67 [vm1, vm2]), some (rowsX u8S false vm2 vsm1 m.B none)]) (shr' := [Fact.sl RegionS vm1 m.L]) [0, 2, 3, 9, 10, 35] [0, 1] [0] rfl rfl rfl rfl ?_)
    rcases Bool.eq_false_or_eq_true (decide (find2.1 < (0 : Int))) with hg7 | hg7
    ·replace h := br_t hg7 h
     refine Tk_condT (congrArg (fun b => some (Value.bool b)) hg7) ?_
     refine Tk_seq (Tk_region (Tops_step rfl (OpT_assign rfl rfl rfl rfl) ?_))
     refine Tops_nil (Tk_wkS (fr' := [(8, some (vI (5 : Int)))]) (own' := [some (cellsR b_m 67 [vm1, vm2]), some (rowsX u8S false vm2 vsm1 m.B none)]) (shr' := [Fact.sl RegionS vm1 m.L]) [8] [0, 1] [0] rfl rfl rfl rfl ?_)
     obtain rfl := Option.some.inj h
     exact Tk_retV rfl rfl (resA (vs := [vI (5 : Int)]) rfl ⟨rfl, trivial⟩) [0, 1] [] rfl rfl rfl ⟨rfl, rfl, rfl⟩
    ·replace h := br_f hg7 h
     refine Tk_condF (congrArg (fun b => some (Value.bool b)) hg7) ?_
     refine Tk_skip (Tk_seq (Tk_seq (Tk_region (Tops_step rfl (OpT_assign rfl rfl rfl rfl) ?_))))
     refine Tops_nil (Tk_wkS (fr' := [(0, some (.pointer (some ⟨b_m, 0, none⟩))), (2, some (vI bytes)), (3, some (vU64 vp3)), (9, some (vI find2.1)), (10, some (vI find2.2)), (11, some (vI (0 : Int)))]) (own' := [some (cellsR b_m 67 [vm1, vm2]), some (rowsX u8S false vm2 vsm1 m.B none)]) (shr' := [Fact.sl RegionS vm1 m.L]) [0, 2, 3, 9, 10, 11] [0, 1] [0] rfl rfl rfl rfl ?_)
     refine Tk_block (Tk_loopS (σ := (List (List UInt8)) × Int) [0, 2, 3, 9, 10, 11] [0, 1] [0] (fun s => ⟨[(0, some (.pointer (some ⟨b_m, 0, none⟩))), (2, some (vI bytes)), (3, some (vU64 vp3)), (9, some (vI find2.1)), (10, some (vI find2.2)), (11, some (vI s.2))], [some (cellsR b_m 67 [vm1, vm2]), some (rowsX u8S false vm2 vsm1 s.1 none)], [Fact.sl RegionS vm1 m.L]⟩) (fun nf2 s => ref_Mem_Store02L2 bytes vp3 find2 nf2 s.1 s.2 = some r) fuel (m.B, (0 : Int)) h rfl rfl rfl rfl rfl (fun s h => by cases h) ?_)
     rintro nf2 ⟨rows2, n2⟩ h
     replace h : ref_Mem_Store02L2B bytes vp3 find2 (ref_Mem_Store02L2 bytes vp3 find2 nf2) rows2 n2 = some r := h
     unfold ref_Mem_Store02L2B at h
     refine Tk_seq (Tk_seq (Tk_region (Tops_step rfl (OpT_move rfl rfl rfl rfl) ?_)))
     refine Tops_step rfl (OpT_move rfl rfl rfl rfl) ?_
     refine Tops_step rfl (OpT_bin rfl rfl rfl rfl rfl (bin_lss_i (a := n2) (b := bytes))) ?_
     refine Tops_nil (Tk_wkS (fr' := [(0, some (.pointer (some ⟨b_m, 0, none⟩))), (2, some (vI bytes)), (3, some (vU64 vp3)), (9, some (vI find2.1)), (10, some (vI find2.2)), (11, some (vI n2)), (38, some (vB (decide (n2 < bytes))))]) (own' := [some (cellsR b_m 67 [vm1, vm2]), some (rowsX u8S false vm2 vsm1 rows2 none)]) (shr' := [Fact.sl RegionS vm1 m.L]) [0, 2, 3, 9, 10, 11, 38] [0, 1] [0] rfl rfl rfl rfl ?_)
     rcases Bool.eq_false_or_eq_true (decide (n2 < bytes)) with hg8 | hg8
     ·replace h := br_t hg8 h
      refine Tk_condT (congrArg (fun b => some (Value.bool b)) hg8) ?_
      refine Tk_skip (Tk_seq (Tk_block (Tk_region (Tops_step rfl (OpT_move rfl rfl rfl rfl) ?_))))
      refine Tops_step rfl (OpT_nilCheckP rfl rfl rfl rfl) ?_
      refine Tops_step rfl (OpT_fieldC rfl rfl rfl rfl fldF67x1) ?_
      refine Tops_step rfl (OpT_loadC rfl rfl rfl rfl tyF60 (i := 0) rfl rfl) ?_
      refine Tops_step rfl (OpT_move rfl rfl rfl rfl) ?_
      obtain ⟨row2, hx5, h⟩ := ob_e h
      refine Tops_step rfl (OpT_idxRows rfl rfl rfl rfl rfl slF60 (i := 1) rfl hx5) ?_
      refine Tops_vs (vs_focus (i := 1) (j := find2.1) rfl hx5) ?_
      refine Tops_step rfl (OpT_loadRow (m := find2.1) rfl rfl rfl rfl tyF38 (i := 1) rfl) ?_
      refine Tops_step rfl (OpT_move rfl rfl rfl rfl) ?_
      refine Tops_step rfl (OpT_move rfl rfl rfl rfl) ?_
      refine Tops_step rfl (OpT_bin rfl rfl rfl rfl rfl (bin_add_i (a := find2.2) (b := n2))) ?_
      refine Tops_step rfl (OpT_move rfl rfl rfl rfl) ?_
      refine Tops_step rfl (OpT_move rfl rfl rfl rfl) ?_
      refine Tops_step rfl (OpT_bin rfl rfl rfl rfl rfl (bin_mul_i (a := (8 : Int)) (b := n2))) ?_
      refine Tops_step rfl (OpT_cnv rfl rfl rfl rfl (cnv_i_u64 (n := wi ((8 : Int) * n2)) Try.underlying3 Try.underlying46)) ?_
      refine Tops_step rfl (OpT_bin rfl rfl rfl rfl rfl (bin_shr_u64_u64 (a := vp3) (n := u64 (wi ((8 : Int) * n2))))) ?_
      refine Tops_step rfl (OpT_cnv rfl rfl rfl rfl (cnv_u64_u8 (n := shr64 vp3 ((u64 (wi ((8 : Int) * n2))).toNat)) Try.underlying26 Try.underlying5)) ?_
      obtain ⟨y2, hx6, h⟩ := ob_e h
      refine Tops_step rfl (OpT_idxO rfl rfl rfl rfl rfl slF38 (i := 2) rfl hx6) ?_
      refine Tops_step rfl (OpT_storeO (S := u8S) (u := (shr64 vp3 ((u64 (wi ((8 : Int) * n2))).toNat)).toUInt8) rfl rfl rfl rfl rfl tyF5 (i := 2) rfl hx6 rfl) ?_
      refine Tops_nil (Tk_wkS (fr' := [(0, some (.pointer (some ⟨b_m, 0, none⟩))), (2, some (vI bytes)), (3, some (vU64 vp3)), (9, some (vI find2.1)), (10, some (vI find2.2)), (11, some (vI n2))]) (own' := [some (cellsR b_m 67 [vm1, vm2]), some (rowsX u8S false vm2 vsm1 rows2 (some (Int.toNat find2.1, vsAt vsm1 (Int.toNat find2.1)))), some (rowS u8S (vsAt vsm1 (Int.toNat find2.1)) (row2.set (wi (find2.2 + n2)).toNat ((shr64 vp3 ((u64 (wi ((8 : Int) * n2))).toNat)).toUInt8)))]) (shr' := [Fact.sl RegionS vm1 m.L]) [0, 2, 3, 9, 10, 11] [0, 1, 2] [0] rfl rfl rfl rfl ?_)
      refine Tk_blk (Tk_vs (vs_unfocus (i := 1) (q := 2) rfl rfl rfl) ?_)
      refine Tk_region (Tops_step rfl (OpT_move rfl rfl rfl rfl) ?_)
      refine Tops_step rfl (OpT_bin rfl rfl rfl rfl rfl (bin_add_i (a := n2) (b := (1 : Int)))) ?_
      refine Tops_step rfl (OpT_assign rfl rfl rfl rfl) ?_
      refine Tops_nil (Tk_wkS (fr' := [(0, some (.pointer (some ⟨b_m, 0, none⟩))), (2, some (vI bytes)), (3, some (vU64 vp3)), (9, some (vI find2.1)), (10, some (vI find2.2)), (11, some (vI (wi (n2 + (1 : Int)))))]) (own' := [some (cellsR b_m 67 [vm1, vm2]), some (rowsX u8S false vm2 vsm1 (rows2.set (Int.toNat find2.1) (row2.set (wi (find2.2 + n2)).toNat ((shr64 vp3 ((u64 (wi ((8 : Int) * n2))).toNat)).toUInt8))) none)]) (shr' := [Fact.sl RegionS vm1 m.L]) [0, 2, 3, 9, 10, 11] [0, 1] [0] rfl rfl rfl rfl ?_)
      exact Tk_backS (rows2.set (Int.toNat find2.1) (row2.set (wi (find2.2 + n2)).toNat ((shr64 vp3 ((u64 (wi ((8 : Int) * n2))).toNat)).toUInt8)), wi (n2 + (1 : Int))) h [0, 2, 3, 9, 10, 11] [0, 1] [0] rfl rfl rfl rfl rfl
     ·replace h := br_f hg8 h
      refine Tk_condF (congrArg (fun b => some (Value.bool b)) hg8) ?_
      refine Tk_exit _ rfl ?_
      refine Tk_seq (Tk_region (Tops_step rfl (OpT_assign rfl rfl rfl rfl) ?_))
      refine Tops_nil (Tk_wkS (fr' := [(8, some (vI (0 : Int)))]) (own' := [some (cellsR b_m 67 [vm1, vm2]), some (rowsX u8S false vm2 vsm1 rows2 none)]) (shr' := [Fact.sl RegionS vm1 m.L]) [8] [0, 1] [0] rfl rfl rfl rfl ?_)
      obtain rfl := Option.some.inj h
      exact Tk_retV rfl rfl (resA (vs := [vI (0 : Int)]) rfl ⟨rfl, trivial⟩) [0, 1] [] rfl rfl rfl ⟨rfl, rfl, rfl⟩
  ·replace h := br_f hg2 h
   refine Tops_no rfl rfl (congrArg (fun b => some (Value.bool b)) hg2) rfl rfl ?_
   refine Tops_no rfl rfl (congrArg (fun b => some (Value.bool b)) hg2) rfl rfl ?_
   refine Tops_step rfl (OpT_pickF rfl rfl rfl (congrArg (fun b => some (Value.bool b)) hg2) rfl) ?_
   refine Tops_step rfl (OpT_move rfl rfl rfl rfl) ?_
   refine Tops_no rfl rfl rfl rfl rfl ?_
   refine Tops_no rfl rfl rfl rfl rfl ?_
   refine Tops_step rfl (OpT_pickF rfl rfl rfl rfl rfl) ?_
   refine Tops_nil (Tk_wkS (fr' := [(0, some (.pointer (some ⟨b_m, 0, none⟩))), (1, some (vU64 atp1)), (2, some (vI bytes)), (3, some (vU64 vp3)), (25, some (vB false))]) (own' := [some (cellsR b_m 67 [vm1, vm2]), some (rowsX u8S false vm2 vsm1 m.B none)]) (shr' := [Fact.sl RegionS vm1 m.L]) [0, 1, 2, 3, 25] [0, 1] [0] rfl rfl rfl rfl ?_)
   refine Tk_condF rfl ?_
   refine Tk_skip (Tk_seq (Tk_region (Tops_step rfl (OpT_move rfl rfl rfl rfl) ?_)))
   refine Tops_step rfl (OpT_move rfl rfl rfl rfl) ?_
   refine Tops_step rfl (OpT_move rfl rfl rfl rfl) ?_
   refine Tops_step rfl (OpT_cnv rfl rfl rfl rfl (cnv_i_u64 (n := bytes) Try.underlying3 Try.underlying26)) ?_
   obtain ⟨find3, hx7, h⟩ := ob_e h
   refine Tops_exP rfl (OpT_callP [2, 3] (w_ref_Mem_find02 hx7) [0, 1] [0] rfl rfl rfl rfl rfl callee40 rfl rfl rfl rfl rfl) ?_
   rintro _ ⟨_, _, _, ⟨rfl, rfl, rfl⟩, rfl⟩
   refine Tops_step rfl (OpT_move rfl rfl rfl rfl) ?_
   refine Tops_step rfl (OpT_extract rfl rfl rfl rfl rfl) ?_
   refine Tops_step rfl (OpT_extract rfl rfl rfl rfl rfl) ?_
   refine Tops_step rfl (OpT_assign rfl rfl rfl rfl) ?_
   refine Tops_step rfl (OpT_assign rfl rfl rfl rfl) ?_
   refine Tops_nil (Tk_wkS (fr' := [(0, some (.pointer (some ⟨b_m, 0, none⟩))), (2, some (vI bytes)), (3, some (vU64 vp3)), (9, some (vI find3.1)), (10, some (vI find3.2))]) (own' := [some (cellsR b_m 67 [vm1, vm2]), some (rowsX u8S false vm2 vsm1 m.B none)]) (shr' := [Fact.sl RegionS vm1 m.L]) [0, 2, 3, 9, 10] [0, 1] [0] rfl rfl rfl rfl ?_)
   refine Tk_seq (Tk_seq (Tk_region (Tops_step rfl (OpT_move rfl rfl rfl rfl) ?_)))
   refine Tops_step rfl (OpT_bin rfl rfl rfl rfl rfl (bin_lss_i (a := find3.1) (b := (0 : Int)))) ?_
   refine Tops_nil (Tk_wkS (fr' := [(0, some (.pointer (some ⟨b_m, 0, none⟩))), (2, some (vI bytes)), (3, some (vU64 vp3)), (9, some (vI find3.1)), (10, some (vI find3.2)), (35, some (vB (decide (find3.1 < (0 : Int)))))]) (own' := [some (cellsR b_m 67 [vm1, vm2]), some (rowsX u8S false vm2 vsm1 m.B none)]) (shr' := [Fact.sl RegionS vm1 m.L]) [0, 2, 3, 9, 10, 35] [0, 1] [0] rfl rfl rfl rfl ?_)
   rcases Bool.eq_false_or_eq_true (decide (find3.1 < (0 : Int))) with hg9 | hg9
   ·replace h := br_t hg9 h
    refine Tk_condT (congrArg (fun b => some (Value.bool b)) hg9) ?_
    refine Tk_seq (Tk_region (Tops_step rfl (OpT_assign rfl rfl rfl rfl) ?_))
    refine Tops_nil (Tk_wkS (fr' := [(8, some (vI (5 : Int)))]) (own' := [some (cellsR b_m 67 [vm1, vm2]), some (rowsX u8S false vm2 vsm1 m.B none)]) (shr' := [Fact.sl RegionS vm1 m.L]) [8] [0, 1] [0] rfl rfl rfl rfl ?_)
    obtain rfl := Option.some.inj h
    exact Tk_retV rfl rfl (resA (vs := [vI (5 : Int)]) rfl ⟨rfl, trivial⟩) [0, 1] [] rfl rfl rfl ⟨rfl, rfl, rfl⟩
   ·replace h := br_f hg9 h
    refine Tk_condF (congrArg (fun b => some (Value.bool b)) hg9) ?_
    refine Tk_skip (Tk_seq (Tk_seq (Tk_region (Tops_step rfl (OpT_assign rfl rfl rfl rfl) ?_))))
    refine Tops_nil (Tk_wkS (fr' := [(0, some (.pointer (some ⟨b_m, 0, none⟩))), (2, some (vI bytes)), (3, some (vU64 vp3)), (9, some (vI find3.1)), (10, some (vI find3.2)), (11, some (vI (0 : Int)))]) (own' := [some (cellsR b_m 67 [vm1, vm2]), some (rowsX u8S false vm2 vsm1 m.B none)]) (shr' := [Fact.sl RegionS vm1 m.L]) [0, 2, 3, 9, 10, 11] [0, 1] [0] rfl rfl rfl rfl ?_)
    refine Tk_block (Tk_loopS (σ := (List (List UInt8)) × Int) [0, 2, 3, 9, 10, 11] [0, 1] [0] (fun s => ⟨[(0, some (.pointer (some ⟨b_m, 0, none⟩))), (2, some (vI bytes)), (3, some (vU64 vp3)), (9, some (vI find3.1)), (10, some (vI find3.2)), (11, some (vI s.2))], [some (cellsR b_m 67 [vm1, vm2]), some (rowsX u8S false vm2 vsm1 s.1 none)], [Fact.sl RegionS vm1 m.L]⟩) (fun nf3 s => ref_Mem_Store02L3 bytes vp3 find3 nf3 s.1 s.2 = some r) fuel (m.B, (0 : Int)) h rfl rfl rfl rfl rfl (fun s h => by cases h) ?_)
    rintro nf3 ⟨rows3, n3⟩ h
    replace h : ref_Mem_Store02L3B bytes vp3 find3 (ref_Mem_Store02L3 bytes vp3 find3 nf3) rows3 n3 = some r := h
    unfold ref_Mem_Store02L3B at h
    refine Tk_seq (Tk_seq (Tk_region (Tops_step rfl (OpT_move rfl rfl rfl rfl) ?_)))
    refine Tops_step rfl (OpT_move rfl rfl rfl rfl) ?_
    refine Tops_step rfl (OpT_bin rfl rfl rfl rfl rfl (bin_lss_i (a := n3) (b := bytes))) ?_
    refine Tops_nil (Tk_wkS (fr' := [(0, some (.pointer (some ⟨b_m, 0, none⟩))), (2, some (vI bytes)), (3, some (vU64 vp3)), (9, some (vI find3.1)), (10, some (vI find3.2)), (11, some (vI n3)), (38, some (vB (decide (n3 < bytes))))]) (own' := [some (cellsR b_m 67 [vm1, vm2]), some (rowsX u8S false vm2 vsm1 rows3 none)]) (shr' := [Fact.sl RegionS vm1 m.L]) [0, 2, 3, 9, 10, 11, 38] [0, 1] [0] rfl rfl rfl rfl ?_)
    rcases Bool.eq_false_or_eq_true (decide (n3 < bytes)) with hg10 | hg10
    ·replace h := br_t hg10 h
     refine Tk_condT (congrArg (fun b => some (Value.bool b)) hg10) ?_
     refine Tk_skip (Tk_seq (Tk_block (Tk_region (Tops_step rfl (OpT_move rfl rfl rfl rfl) ?_))))
     refine Tops_step rfl (OpT_nilCheckP rfl rfl rfl rfl) ?_
     refine Tops_step rfl (OpT_fieldC rfl rfl rfl rfl fldF67x1) ?_
     refine Tops_step rfl (OpT_loadC rfl rfl rfl rfl tyF60 (i := 0) rfl rfl) ?_
     refine Tops_step rfl (OpT_move rfl rfl rfl rfl) ?_
     obtain ⟨row3, hx8, h⟩ := ob_e h
     refine Tops_step rfl (OpT_idxRows rfl rfl rfl rfl rfl slF60 (i := 1) rfl hx8) ?_
     refine Tops_vs (vs_focus (i := 1) (j := find3.1) rfl hx8) ?_
     refine Tops_step rfl (OpT_loadRow (m := find3.1) rfl rfl rfl rfl tyF38 (i := 1) rfl) ?_
     refine Tops_step rfl (OpT_move rfl rfl rfl rfl) ?_
     refine Tops_step rfl (OpT_move rfl rfl rfl rfl) ?_
     refine Tops_step rfl (OpT_bin rfl rfl rfl rfl rfl (bin_add_i (a := find3.2) (b := n3))) ?_
     refine Tops_step rfl (OpT_move rfl rfl rfl rfl) ?_
     refine Tops_step rfl (OpT_move rfl rfl rfl rfl) ?_
     refine Tops_step rfl (OpT_bin rfl rfl rfl rfl rfl (bin_mul_i (a := (8 : Int)) (b := n3))) ?_
     refine Tops_step rfl (OpT_cnv rfl rfl rfl rfl (cnv_i_u64 (n := wi ((8 : Int) * n3)) Try.underlying3 Try.underlying46)) ?_
     refine Tops_step rfl (OpT_bin rfl rfl rfl rfl rfl (bin_shr_u64_u64 (a := vp3) (n := u64 (wi ((8 : Int) * n3))))) ?_
     refine Tops_step rfl (OpT_cnv rfl rfl rfl rfl (cnv_u64_u8 (n := shr64 vp3 ((u64 (wi ((8 : Int) * n3))).toNat)) Try.underlying26 Try.underlying5)) ?_
     obtain ⟨y3, hx9, h⟩ := ob_e h
     refine Tops_step rfl (OpT_idxO rfl rfl rfl rfl rfl slF38 (i := 2) rfl hx9) ?_
     refine Tops_step rfl (OpT_storeO (S := u8S) (u := (shr64 vp3 ((u64 (wi ((8 : Int) * n3))).toNat)).toUInt8) rfl rfl rfl rfl rfl tyF5 (i := 2) rfl hx9 rfl) ?_
     refine Tops_nil (Tk_wkS (fr' := [(0, some (.pointer (some ⟨b_m, 0, none⟩))), (2, some (vI bytes)), (3, some (vU64 vp3)), (9, some (vI find3.1)), (10, some (vI find3.2)), (11, some (vI n3))]) (own' := [some (cellsR b_m 67 [vm1, vm2]), some (rowsX u8S false vm2 vsm1 rows3 (some (Int.toNat find3.1, vsAt vsm1 (Int.toNat find3.1)))), some (rowS u8S (vsAt vsm1 (Int.toNat find3.1)) (row3.set (wi (find3.2 + n3)).toNat ((shr64 vp3 ((u64 (wi ((8 : Int) * n3))).toNat)).toUInt8)))]) (shr' := [Fact.sl RegionS vm1 m.L]) [0, 2, 3, 9, 10, 11] [0, 1, 2] [0] rfl rfl rfl rfl ?_)
     refine Tk_blk (Tk_vs (vs_unfocus (i := 1) (q := 2) rfl rfl rfl) ?_)
     refine Tk_region (Tops_step rfl (OpT_move rfl rfl rfl rfl) ?_)
     refine Tops_step rfl (OpT_bin rfl rfl rfl rfl rfl (bin_add_i (a := n3) (b := (1 : Int)))) ?_
     refine Tops_step rfl (OpT_assign rfl rfl rfl rfl) ?_
     refine Tops_nil (Tk_wkS (fr' := [(0, some (.pointer (some ⟨b_m, 0, none⟩))), (2, some (vI bytes)), (3, some (vU64 vp3)), (9, some (vI find3.1)), (10, some (vI find3.2)), (11, some (vI (wi (n3 + (1 : Int)))))]) (own' := [some (cellsR b_m 67 [vm1, vm2]), some (rowsX u8S false vm2 vsm1 (rows3.set (Int.toNat find3.1) (row3.set (wi (find3.2 + n3)).toNat ((shr64 vp3 ((u64 (wi ((8 : Int) * n3))).toNat)).toUInt8))) none)]) (shr' := [Fact.sl RegionS vm1 m.L]) [0, 2, 3, 9, 10, 11] [0, 1] [0] rfl rfl rfl rfl ?_)
     exact Tk_backS (rows3.set (Int.toNat find3.1) (row3.set (wi (find3.2 + n3)).toNat ((shr64 vp3 ((u64 (wi ((8 : Int) * n3))).toNat)).toUInt8)), wi (n3 + (1 : Int))) h [0, 2, 3, 9, 10, 11] [0, 1] [0] rfl rfl rfl rfl rfl
    ·replace h := br_f hg10 h
     refine Tk_condF (congrArg (fun b => some (Value.bool b)) hg10) ?_
     refine Tk_exit _ rfl ?_
     refine Tk_seq (Tk_region (Tops_step rfl (OpT_assign rfl rfl rfl rfl) ?_))
     refine Tops_nil (Tk_wkS (fr' := [(8, some (vI (0 : Int)))]) (own' := [some (cellsR b_m 67 [vm1, vm2]), some (rowsX u8S false vm2 vsm1 rows3 none)]) (shr' := [Fact.sl RegionS vm1 m.L]) [8] [0, 1] [0] rfl rfl rfl rfl ?_)
     obtain rfl := Option.some.inj h
     exact Tk_retV rfl rfl (resA (vs := [vI (0 : Int)]) rfl ⟨rfl, trivial⟩) [0, 1] [] rfl rfl rfl ⟨rfl, rfl, rfl⟩
 ·replace h := br_f hg1 h
  refine Tops_no rfl rfl (congrArg (fun b => some (Value.bool b)) hg1) rfl rfl ?_
  refine Tops_no rfl rfl (congrArg (fun b => some (Value.bool b)) hg1) rfl rfl ?_
  refine Tops_step rfl (OpT_pickF rfl rfl rfl (congrArg (fun b => some (Value.bool b)) hg1) rfl) ?_
  refine Tops_step rfl (OpT_move rfl rfl rfl rfl) ?_
  refine Tops_no rfl rfl rfl rfl rfl ?_
  refine Tops_no rfl rfl rfl rfl rfl ?_
  refine Tops_step rfl (OpT_pickF rfl rfl rfl rfl rfl) ?_
  refine Tops_step rfl (OpT_move rfl rfl rfl rfl) ?_
  refine Tops_no rfl rfl rfl rfl rfl ?_
  refine Tops_no rfl rfl rfl rfl rfl ?_
  refine Tops_step rfl (OpT_pickF rfl rfl rfl rfl rfl) ?_
  refine Tops_nil (Tk_wkS (fr' := [(0, some (.pointer (some ⟨b_m, 0, none⟩))), (1, some (vU64 atp1)), (2, some (vI bytes)), (3, some (vU64 vp3)), (25, some (vB false))]) (own' := [some (cellsR b_m 67 [vm1, vm2]), some (rowsX u8S false vm2 vsm1 m.B none)]) (shr' := [Fact.sl RegionS vm1 m.L]) [0, 1, 2, 3, 25] [0, 1] [0] rfl rfl rfl rfl ?_)
  refine Tk_condF rfl ?_
  refine Tk_skip (Tk_seq (Tk_region (Tops_step rfl (OpT_move rfl rfl rfl rfl) ?_)))
  refine Tops_step rfl (OpT_move rfl rfl rfl rfl) ?_
  refine Tops_step rfl (OpT_move rfl rfl rfl rfl) ?_
  refine Tops_step rfl (OpT_cnv rfl rfl rfl rfl (cnv_i_u64 (n := bytes) Try.underlying3 Try.underlying26)) ?_
  obtain ⟨find4, hx10, h⟩ := ob_e h
  refine Tops_exP rfl (OpT_callP [2, 3] (w_ref_Mem_find02 hx10) [0, 1] [0] rfl rfl rfl rfl rfl callee40 rfl rfl rfl rfl rfl) ?_
  rintro _ ⟨_, _, _, ⟨rfl, rfl, rfl⟩, rfl⟩
  refine Tops_step rfl (OpT_move rfl rfl rfl rfl) ?_
  refine Tops_step rfl (OpT_extract rfl rfl rfl rfl rfl) ?_
  refine Tops_step rfl (OpT_extract rfl rfl rfl rfl rfl) ?_
  refine Tops_step rfl (OpT_assign rfl rfl rfl rfl) ?_
  refine Tops_step rfl (OpT_assign rfl rfl rfl rfl) ?_
  refine Tops_nil (Tk_wkS (fr' := [(0, some (.pointer (some ⟨b_m, 0, none⟩))), (2, some (vI bytes)), (3, some (vU64 vp3)), (9, some (vI find4.1)), (10, some (vI find4.2))]) (own' := [some (cellsR b_m 67 [vm1, vm2]), some (rowsX u8S false vm2 vsm1 m.B none)]) (shr' := [Fact.sl RegionS vm1 m.L]) [0, 2, 3, 9, 10] [0, 1] [0] rfl rfl rfl rfl ?_)
  refine Tk_seq (Tk_seq (Tk_region (Tops_step rfl (OpT_move rfl rfl rfl rfl) ?_)))
  refine Tops_step rfl (OpT_bin rfl rfl rfl rfl rfl (bin_lss_i (a := find4.1) (b := (0 : Int)))) ?_
  refine Tops_nil (Tk_wkS (fr' := [(0, some (.pointer (some ⟨b_m, 0, none⟩))), (2, some (vI bytes)), (3, some (vU64 vp3)), (9, some (vI find4.1)), (10, some (vI find4.2)), (35, some (vB (decide (find4.1 < (0 : Int)))))]) (own' := [some (cellsR b_m 67 [vm1, vm2]), some (rowsX u8S false vm2 vsm1 m.B none)]) (shr' := [Fact.sl RegionS vm1 m.L]) [0, 2, 3, 9, 10, 35] [0, 1] [0] rfl rfl rfl rfl ?_)
  rcases Bool.eq_false_or_eq_true (decide (find4.1 < (0 : Int))) with hg11 | hg11
  ·replace h := br_t hg11 h
   refine Tk_condT (congrArg (fun b => some (Value.bool b)) hg11) ?_
   refine Tk_seq (Tk_region (Tops_step rfl (OpT_assign rfl rfl rfl rfl) ?_))
   refine Tops_nil (Tk_wkS (fr' := [(8, some (vI (5 : Int)))]) (own' := [some (cellsR b_m 67 [vm1, vm2]), some (rowsX u8S false vm2 vsm1 m.B none)]) (shr' := [Fact.sl RegionS vm1 m.L]) [8] [0, 1] [0] rfl rfl rfl rfl ?_)
   obtain rfl := Option.some.inj h
   exact Tk_retV rfl rfl (resA (vs := [vI (5 : Int)]) rfl ⟨rfl, trivial⟩) [0, 1] [] rfl rfl rfl ⟨rfl, rfl, rfl⟩
  ·replace h := br_f hg11 h
   refine Tk_condF (congrArg (fun b => some (Value.bool b)) hg11) ?_
   refine Tk_skip (Tk_seq (Tk_seq (Tk_region (Tops_step rfl (OpT_assign rfl rfl rfl rfl) ?_))))
   refine Tops_nil (Tk_wkS (fr' := [(0, some (.pointer (some ⟨b_m, 0, none⟩))), (2, some (vI bytes)), (3, some (vU64 vp3)), (9, some (vI find4.1)), (10, some (vI find4.2)), (11, some (vI (0 : Int)))]) (own' := [some (cellsR b_m 67 [vm1, vm2]), some (rowsX u8S false vm2 vsm1 m.B none)]) (shr' := [Fact.sl RegionS vm1 m.L]) [0, 2, 3, 9, 10, 11] [0, 1] [0] rfl rfl rfl rfl ?_)
   refine Tk_block (Tk_loopS (σ := (List (List UInt8)) × Int) [0, 2, 3, 9, 10, 11] [0, 1] [0] (fun s => ⟨[(0, some (.pointer (some ⟨b_m, 0, none⟩))), (2, some (vI bytes)), (3, some (vU64 vp3)), (9, some (vI find4.1)), (10, some (vI find4.2)), (11, some (vI s.2))], [some (cellsR b_m 67 [vm1, vm2]), some (rowsX u8S false vm2 vsm1 s.1 none)], [Fact.sl RegionS vm1 m.L]⟩) (fun nf4 s => ref_Mem_Store02L4 bytes vp3 find4 nf4 s.1 s.2 = some r) fuel (m.B, (0 : Int)) h rfl rfl rfl rfl rfl (fun s h => by cases h) ?_)
   rintro nf4 ⟨rows4, n4⟩ h
   replace h : ref_Mem_Store02L4B bytes vp3 find4 (ref_Mem_Store02L4 bytes vp3 find4 nf4) rows4 n4 = some r := h
   unfold ref_Mem_Store02L4B at h
   refine Tk_seq (Tk_seq (Tk_region (Tops_step rfl (OpT_move rfl rfl rfl rfl) ?_)))
   refine Tops_step rfl (OpT_move rfl rfl rfl rfl) ?_
   refine Tops_step rfl (OpT_bin rfl rfl rfl rfl rfl (bin_lss_i (a := n4) (b := bytes))) ?_
   refine Tops_nil (Tk_wkS (fr' := [(0, some (.pointer (some ⟨b_m, 0, none⟩))), (2, some (vI bytes)), (3, some (vU64 vp3)), (9, some (vI find4.1)), (10, some (vI find4.2)), (11, some (vI n4)), (38, some (vB (decide (n4 < bytes))))]) (own' := [some (cellsR b_m 67 [vm1, vm2]), some (rowsX u8S false vm2 vsm1 rows4 none)]) (shr' := [Fact.sl RegionS vm1 m.L]) [0, 2, 3, 9, 10, 11, 38] [0, 1] [0] rfl rfl rfl rfl ?_)
   rcases Bool.eq_false_or_eq_true (decide (n4 < bytes)) with hg12 | hg12
   ·replace h := br_t hg12 h
    refine Tk_condT (congrArg (fun b => some (Value.bool b)) hg12) ?_
    refine Tk_skip (Tk_seq (Tk_block (Tk_region (Tops_step rfl (OpT_move rfl rfl rfl rfl) ?_))))
    refine Tops_step rfl (OpT_nilCheckP rfl rfl rfl rfl) ?_
    refine Tops_step rfl (OpT_fieldC rfl rfl rfl rfl fldF67x1) ?_
    refine Tops_step rfl (OpT_loadC rfl rfl rfl rfl tyF60 (i := 0) rfl rfl) ?_
    refine Tops_step rfl (OpT_move rfl rfl rfl rfl) ?_
    obtain ⟨row4, hx11, h⟩ := ob_e h
    refine Tops_step rfl (OpT_idxRows rfl rfl rfl rfl rfl slF60 (i := 1) rfl hx11) ?_
    refine Tops_vs (vs_focus (i := 1) (j := find4.1) rfl hx11) ?_
    refine Tops_step rfl (OpT_loadRow (m := find4.1) rfl rfl rfl rfl tyF38 (i := 1) rfl) ?_
    refine Tops_step rfl (OpT_move rfl rfl rfl rfl) ?_
    refine Tops_step rfl (OpT_move rfl rfl rfl rfl) ?_
    refine Tops_step rfl (OpT_bin rfl rfl rfl rfl rfl (bin_add_i (a := find4.2) (b := n4))) ?_
    refine Tops_step rfl (OpT_move rfl rfl rfl rfl) ?_
    refine Tops_step rfl (OpT_move rfl rfl rfl rfl) ?_
    refine Tops_step rfl (OpT_bin rfl rfl rfl rfl rfl (bin_mul_i (a := (8 : Int)) (b := n4))) ?_
    refine Tops_step rfl (OpT_cnv rfl rfl rfl rfl (cnv_i_u64 (n := wi ((8 : Int) * n4)) Try.underlying3 Try.underlying46)) ?_
    refine Tops_step rfl (OpT_bin rfl rfl rfl rfl rfl (bin_shr_u64_u64 (a := vp3) (n := u64 (wi ((8 : Int) * n4))))) ?_
    refine Tops_step rfl (OpT_cnv rfl rfl rfl rfl (cnv_u64_u8 (n := shr64 vp3 ((u64 (wi ((8 : Int) * n4))).toNat)) Try.underlying26 Try.underlying5)) ?_
    obtain ⟨y4, hx12, h⟩ := ob_e h
    refine Tops_step rfl (OpT_idxO rfl rfl rfl rfl rfl slF38 (i := 2) rfl hx12) ?_
    refine Tops_step rfl (OpT_storeO (S := u8S) (u := (shr64 vp3 ((u64 (wi ((8 : Int) * n4))).toNat)).toUInt8) rfl rfl rfl rfl rfl tyF5 (i := 2) rfl hx12 rfl) ?_
    refine Tops_nil (Tk_wkS (fr' := [(0, some (.pointer (some ⟨b_m, 0, none⟩))), (2, some (vI bytes)), (3, some (vU64 vp3)), (9, some (vI find4.1)), (10, some (vI find4.2)), (11, some (vI n4))]) (own' := [some (cellsR b_m 67 [vm1, vm2]), some (rowsX u8S false vm2 vsm1 rows4 (some (Int.toNat find4.1, vsAt vsm1 (Int.toNat find4.1)))), some (rowS u8S (vsAt vsm1 (Int.toNat find4.1)) (row4.set (wi (find4.2 + n4)).toNat ((shr64 vp3 ((u64 (wi ((8 : Int) * n4))).toNat)).toUInt8)))]) (shr' := [Fact.sl RegionS vm1 m.L]) [0, 2, 3, 9, 10, 11] [0, 1, 2] [0] rfl rfl rfl rfl ?_)
    refine Tk_blk (Tk_vs (vs_unfocus (i := 1) (q := 2) rfl rfl rfl) ?_)
    refine Tk_region (Tops_step rfl (OpT_move rfl rfl rfl rfl) ?_)
    refine Tops_step rfl (OpT_bin rfl rfl rfl rfl rfl (bin_add_i (a := n4) (b := (1 : Int)))) ?_
    refine Tops_step rfl (OpT_assign rfl rfl rfl rfl) ?_
    refine Tops_nil (Tk_wkS (fr' := [(0, some (.pointer (some ⟨b_m, 0, none⟩))), (2, some (vI bytes)), (3, some (vU64 vp3)), (9, some (vI find4.1)), (10, some (vI find4.2)), (11, some (vI (wi (n4 + (1 : Int)))))]) (own' := [some (cellsR b_m 67 [vm1, vm2]), some (rowsX u8S false vm2 vsm1 (rows4.set (Int.toNat find4.1) (row4.set (wi (find4.2 + n4)).toNat ((shr64 vp3 ((u64 (wi ((8 : Int) * n4))).toNat)).toUInt8))) none)]) (shr' := [Fact.sl RegionS vm1 m.L]) [0, 2, 3, 9, 10, 11] [0, 1] [0] rfl rfl rfl rfl ?_)
    exact Tk_backS (rows4.set (Int.toNat find4.1) (row4.set (wi (find4.2 + n4)).toNat ((shr64 vp3 ((u64 (wi ((8 : Int) * n4))).toNat)).toUInt8)), wi (n4 + (1 : Int))) h [0, 2, 3, 9, 10, 11] [0, 1] [0] rfl rfl rfl rfl rfl
   ·replace h := br_f hg12 h
    refine Tk_condF (congrArg (fun b => some (Value.bool b)) hg12) ?_
    refine Tk_exit _ rfl ?_
    refine Tk_seq (Tk_region (Tops_step rfl (OpT_assign rfl rfl rfl rfl) ?_))
    refine Tops_nil (Tk_wkS (fr' := [(8, some (vI (0 : Int)))]) (own' := [some (cellsR b_m 67 [vm1, vm2]), some (rowsX u8S false vm2 vsm1 rows4 none)]) (shr' := [Fact.sl RegionS vm1 m.L]) [8] [0, 1] [0] rfl rfl rfl rfl ?_)
    obtain rfl := Option.some.inj h
    exact Tk_retV rfl rfl (resA (vs := [vI (0 : Int)]) rfl ⟨rfl, trivial⟩) [0, 1] [] rfl rfl rfl ⟨rfl, rfl, rfl⟩

set_option maxRecDepth 100000 in
set_option maxHeartbeats 4000000 in
theorem w_ref_Mem_Read02 {m : dumbwaiterref02_Mem} {atp1 : UInt64} {np2 : Int} {b_m : Nat} {vm1 : Value} {vm2 : Value} {vsm1 : List Value} {r : ((List UInt8) × Int)} (h : ref_Mem_Read02 m atp1 np2 = some r) :
  Ctr Try.prog 26 #[.pointer (some ⟨b_m, 0, none⟩), vU64 atp1, vI np2] [(cellsR b_m 67 [vm1, vm2]), (rowsX u8S false vm2 vsm1 m.B none)] [Fact.sl RegionS vm1 m.L]
   (fun rv own shr => ∃ (w1 : Value), rv = .tuple #[w1, vI r.2] ∧ own = [(cellsR b_m 67 [vm1, vm2]), (rowsX u8S false vm2 vsm1 m.B none), (rowS u8S w1 r.1)] ∧ shr = []) := by
 unfold ref_Mem_Read02 at h
 refine Ctr.mk (args := [.pointer (some ⟨b_m, 0, none⟩), vU64 atp1, vI np2]) Try.func26 rfl rfl (fun R0 w0 B => ?_)
 refine Tk_seq (Tk_region (Tops_step rfl (OpT_assign rfl rfl rfl rfl) ?_))
 refine Tops_step rfl (OpT_assign rfl rfl rfl rfl) ?_
 refine Tops_nil (Tk_wkS (fr' := [(0, some (.pointer (some ⟨b_m, 0, none⟩))), (1, some (vU64 atp1)), (2, some (vI np2))]) (own' := [some (cellsR b_m 67 [vm1, vm2]), some (rowsX u8S false vm2 vsm1 m.B none)]) (shr' := [Fact.sl RegionS vm1 m.L]) [0, 1, 2] [0, 1] [0] rfl rfl rfl rfl ?_)
 refine Tk_seq (Tk_seq (Tk_region (Tops_step rfl (OpT_move rfl rfl rfl rfl) ?_)))
 refine Tops_step rfl (OpT_bin rfl rfl rfl rfl rfl (bin_lss_i (a := np2) (b := (0 : Int)))) ?_
 refine Tops_nil (Tk_wkS (fr' := [(0, some (.pointer (some ⟨b_m, 0, none⟩))), (1, some (vU64 atp1)), (2, some (vI np2)), (11, some (vB (decide (np2 < (0 : Int)))))]) (own' := [some (cellsR b_m 67 [vm1, vm2]), some (rowsX u8S false vm2 vsm1 m.B none)]) (shr' := [Fact.sl RegionS vm1 m.L]) [0, 1, 2, 11] [0, 1] [0] rfl rfl rfl rfl ?_)
 rcases Bool.eq_false_or_eq_true (decide (np2 < (0 : Int))) with hg1 | hg1
 ·replace h := br_t hg1 h
  refine Tk_condT (congrArg (fun b => some (Value.bool b)) hg1) ?_
  refine Tk_seq (Tk_region (Tops_step rfl (OpT_assign rfl rfl rfl rfl) ?_))
  refine Tops_step rfl (OpT_assign rfl rfl rfl rfl) ?_
  refine Tops_nil (Tk_wkS (fr' := [(6, some (.slice none 0 0)), (7, some (vI (2 : Int)))]) (own' := [some (cellsR b_m 67 [vm1, vm2]), some (rowsX u8S false vm2 vsm1 m.B none)]) (shr' := [Fact.sl RegionS vm1 m.L]) [6, 7] [0, 1] [0] rfl rfl rfl rfl ?_)
  refine Tk_nilrow u8S ?_
  obtain rfl := Option.some.inj h
  exact Tk_retV rfl rfl (resA (vs := [.slice none 0 0, vI (2 : Int)]) rfl ⟨rfl, rfl, trivial⟩) [0, 1, 2] [] rfl rfl rfl ⟨(.slice none 0 0), rfl, rfl, rfl⟩
 ·replace h := br_f hg1 h
  refine Tk_condF (congrArg (fun b => some (Value.bool b)) hg1) ?_
  refine Tk_skip (Tk_seq (Tk_seq (Tk_region (Tops_step rfl (OpT_move rfl rfl rfl rfl) ?_))))
  refine Tops_step rfl (OpT_bin rfl rfl rfl rfl rfl (bin_eql_i (a := np2) (b := (0 : Int)))) ?_
  refine Tops_nil (Tk_wkS (fr' := [(0, some (.pointer (some ⟨b_m, 0, none⟩))), (1, some (vU64 atp1)), (2, some (vI np2)), (13, some (vB (np2 == (0 : Int))))]) (own' := [some (cellsR b_m 67 [vm1, vm2]), some (rowsX u8S false vm2 vsm1 m.B none)]) (shr' := [Fact.sl RegionS vm1 m.L]) [0, 1, 2, 13] [0, 1] [0] rfl rfl rfl rfl ?_)
  rcases Bool.eq_false_or_eq_true (np2 == (0 : Int)) with hg2 | hg2
  ·replace h := br_t hg2 h
   refine Tk_condT (congrArg (fun b => some (Value.bool b)) hg2) ?_
   refine Tk_seq (Tk_region (Tops_step rfl (OpT_assign rfl rfl rfl rfl) ?_))
   refine Tops_step rfl (OpT_assign rfl rfl rfl rfl) ?_
   refine Tops_nil (Tk_wkS (fr' := [(6, some (.slice none 0 0)), (7, some (vI (0 : Int)))]) (own' := [some (cellsR b_m 67 [vm1, vm2]), some (rowsX u8S false vm2 vsm1 m.B none)]) (shr' := [Fact.sl RegionS vm1 m.L]) [6, 7] [0, 1] [0] rfl rfl rfl rfl ?_)
   refine Tk_nilrow u8S ?_
   obtain rfl := Option.some.inj h
   exact Tk_retV rfl rfl (resA (vs := [.slice none 0 0, vI (0 : Int)]) rfl ⟨rfl, rfl, trivial⟩) [0, 1, 2] [] rfl rfl rfl ⟨(.slice none 0 0), rfl, rfl, rfl⟩
  ·replace h := br_f hg2 h
   refine Tk_condF (congrArg (fun b => some (Value.bool b)) hg2) ?_
   refine Tk_skip (Tk_seq (Tk_region (Tops_step rfl (OpT_move rfl rfl rfl rfl) ?_)))
   refine Tops_step rfl (OpT_move rfl rfl rfl rfl) ?_
   refine Tops_step rfl (OpT_move rfl rfl rfl rfl) ?_
   refine Tops_step rfl (OpT_cnv rfl rfl rfl rfl (cnv_i_u64 (n := np2) Try.underlying3 Try.underlying26)) ?_
   obtain ⟨find1, hx1, h⟩ := ob_e h
   refine Tops_exP rfl (OpT_callP [2, 3] (w_ref_Mem_find02 hx1) [0, 1] [0] rfl rfl rfl rfl rfl callee40 rfl rfl rfl rfl rfl) ?_
   rintro _ ⟨_, _, _, ⟨rfl, rfl, rfl⟩, rfl⟩
   refine Tops_step rfl (OpT_move rfl rfl rfl rfl) ?_
   refine Tops_step rfl (OpT_extract rfl rfl rfl rfl rfl) ?_
   refine Tops_step rfl (OpT_extract rfl rfl rfl rfl rfl) ?_
   refine Tops_step rfl (OpT_assign rfl rfl rfl rfl) ?_
   refine Tops_step rfl (OpT_assign rfl rfl rfl rfl) ?_
   refine Tops_nil (Tk_wkS (fr' := [(0, some (.pointer (some ⟨b_m, 0, none⟩))), (2, some (vI np2)), (8, some (vI find1.1)), (9, some (vI find1.2))]) (own' := [some (cellsR b_m 67 [vm1, vm2]), some (rowsX u8S false vm2 vsm1 m.B none)]) (shr' := [Fact.sl RegionS vm1 m.L]) [0, 2, 8, 9] [0, 1] [0] rfl rfl rfl rfl ?_)
   refine Tk_seq (Tk_seq (Tk_region (Tops_step rfl (OpT_move rfl rfl rfl rfl) ?_)))
   refine Tops_step rfl (OpT_bin rfl rfl rfl rfl rfl (bin_lss_i (a := find1.1) (b := (0 : Int)))) ?_
   refine Tops_nil (Tk_wkS (fr' := [(0, some (.pointer (some ⟨b_m, 0, none⟩))), (2, some (vI np2)), (8, some (vI find1.1)), (9, some (vI find1.2)), (23, some (vB (decide (find1.1 < (0 : Int)))))]) (own' := [some (cellsR b_m 67 [vm1, vm2]), some (rowsX u8S false vm2 vsm1 m.B none)]) (shr' := [Fact.sl RegionS vm1 m.L]) [0, 2, 8, 9, 23] [0, 1] [0] rfl rfl rfl rfl ?_)
   rcases Bool.eq_false_or_eq_true (decide (find1.1 < (0 : Int))) with hg3 | hg3
   ·replace h := br_t hg3 h
    refine Tk_condT (congrArg (fun b => some (Value.bool b)) hg3) ?_
    refine Tk_seq (Tk_region (Tops_step rfl (OpT_assign rfl rfl rfl rfl) ?_))
    refine Tops_step rfl (OpT_assign rfl rfl rfl rfl) ?_
    refine Tops_nil (Tk_wkS (fr' := [(6, some (.slice none 0 0)), (7, some (vI (5 : Int)))]) (own' := [some (cellsR b_m 67 [vm1, vm2]), some (rowsX u8S false vm2 vsm1 m.B none)]) (shr' := [Fact.sl RegionS vm1 m.L]) [6, 7] [0, 1] [0] rfl rfl rfl rfl ?_)
    refine Tk_nilrow u8S ?_
    obtain rfl := Option.some.inj h
    exact Tk_retV rfl rfl (resA (vs := [.slice none 0 0, vI (5 : Int)]) rfl ⟨rfl, rfl, trivial⟩) [0, 1, 2] [] rfl rfl rfl ⟨(.slice none 0 0), rfl, rfl, rfl⟩
   ·replace h := br_f hg3 h
    refine Tk_condF (congrArg (fun b => some (Value.bool b)) hg3) ?_
    refine Tk_skip (Tk_seq (Tk_region (Tops_ex rfl (OpT_buildSlice (S := u8S) (xs := ([] : List UInt8)) (css := []) (cs := []) (e := 5) rfl rfl rfl rfl (bldF slF38 (by decide) (by kernel_rfl)) rfl rfl rfl rfl (rel_plainD (S := u8S) (xs := ([] : List UInt8)) (css := []) rfl rfl)) fun v1 => ?_)))
    refine Tops_step rfl (OpT_move rfl rfl rfl rfl) ?_
    refine Tops_step rfl (OpT_nilCheckP rfl rfl rfl rfl) ?_
    refine Tops_step rfl (OpT_fieldC rfl rfl rfl rfl fldF67x1) ?_
    refine Tops_step rfl (OpT_loadC rfl rfl rfl rfl tyF60 (i := 0) rfl rfl) ?_
    refine Tops_step rfl (OpT_move rfl rfl rfl rfl) ?_
    obtain ⟨row1, hx2, h⟩ := ob_e h
    refine Tops_step rfl (OpT_idxRows rfl rfl rfl rfl rfl slF60 (i := 1) rfl hx2) ?_
    refine Tops_vs (vs_focus (i := 1) (j := find1.1) rfl hx2) ?_
    refine Tops_step rfl (OpT_loadRow (m := find1.1) rfl rfl rfl rfl tyF38 (i := 1) rfl) ?_
    refine Tops_step rfl (OpT_move rfl rfl rfl rfl) ?_
    refine Tops_step rfl (OpT_move rfl rfl rfl rfl) ?_
    refine Tops_step rfl (OpT_move rfl rfl rfl rfl) ?_
    refine Tops_step rfl (OpT_bin rfl rfl rfl rfl rfl (bin_add_i (a := find1.2) (b := np2))) ?_
    obtain ⟨hc1, h⟩ := chk_e h
    refine Tops_step rfl (OpT_subLH (S := u8S) (l := find1.2) (m := wi (find1.2 + np2)) rfl rfl rfl rfl rfl rfl slF38 (i := 3) rfl hc1) ?_
    obtain ⟨hc2, h⟩ := chk_e h
    refine Tops_ex rfl (OpT_appendBs (S := u8S) (l := find1.2) (m := (wi (find1.2 + np2))) rfl rfl rfl rfl rfl rfl slF38 (i := 2) (j := 3) rfl rfl hc1 hc2) fun v2 => ?_
    refine Tops_step rfl (OpT_assign rfl rfl rfl rfl) ?_
    refine Tops_step rfl (OpT_assign rfl rfl rfl rfl) ?_
    refine Tops_nil (Tk_wkS (fr' := [(6, some (v2)), (7, some (vI (0 : Int)))]) (own' := [some (cellsR b_m 67 [vm1, vm2]), some (rowsX u8S false vm2 vsm1 m.B (some (Int.toNat find1.1, vsAt vsm1 (Int.toNat find1.1)))), some (rowS u8S v2 (sub row1 find1.2 (wi (find1.2 + np2)))), some (rowS u8S (vsAt vsm1 (Int.toNat find1.1)) row1)]) (shr' := [Fact.sl RegionS vm1 m.L]) [6, 7] [0, 1, 2, 3] [0] rfl rfl rfl rfl ?_)
    refine Tk_vs (vs_unfocus0 (i := 1) (q := 3) rfl rfl rfl hx2) ?_
    obtain rfl := Option.some.inj h
    exact Tk_retV rfl rfl (resA (vs := [v2, vI (0 : Int)]) rfl ⟨rfl, rfl, trivial⟩) [0, 1, 2] [] rfl rfl rfl ⟨v2, rfl, rfl, rfl⟩

set_option maxRecDepth 100000 in
set_option maxHeartbeats 4000000 in
theorem w_ref_Mem_Has02 {m : dumbwaiterref02_Mem} {atp1 : UInt64} {np2 : UInt64} {b_m : Nat} {vm1 : Value} {vm2 : Value} {vsm1 : List Value} {r : Bool} (h : ref_Mem_Has02 m atp1 np2 = some r) :
  Ctr Try.prog 28 #[.pointer (some ⟨b_m, 0, none⟩), vU64 atp1, vU64 np2] [(cellsR b_m 67 [vm1, vm2]), (rowsX u8S false vm2 vsm1 m.B none)] [Fact.sl RegionS vm1 m.L]
   (fun rv own shr => rv = vB r ∧ own = [(cellsR b_m 67 [vm1, vm2]), (rowsX u8S false vm2 vsm1 m.B none)] ∧ shr = []) := by
 unfold ref_Mem_Has02 at h
 refine Ctr.mk (args := [.pointer (some ⟨b_m, 0, none⟩), vU64 atp1, vU64 np2]) Try.func28 rfl rfl (fun R0 w0 B => ?_)
 refine Tk_seq (Tk_region (Tops_step rfl (OpT_assign rfl rfl rfl rfl) ?_))
 refine Tops_nil (Tk_wkS (fr' := [(0, some (.pointer (some ⟨b_m, 0, none⟩))), (1, some (vU64 atp1)), (2, some (vU64 np2))]) (own' := [some (cellsR b_m 67 [vm1, vm2]), some (rowsX u8S false vm2 vsm1 m.B none)]) (shr' := [Fact.sl RegionS vm1 m.L]) [0, 1, 2] [0, 1] [0] rfl rfl rfl rfl ?_)
 refine Tk_seq (Tk_region (Tops_step rfl (OpT_move rfl rfl rfl rfl) ?_))
 refine Tops_step rfl (OpT_move rfl rfl rfl rfl) ?_
 refine Tops_step rfl (OpT_move rfl rfl rfl rfl) ?_
 obtain ⟨find1, hx1, h⟩ := ob_e h
 refine Tops_exP rfl (OpT_callP [2, 3] (w_ref_Mem_find02 hx1) [0, 1] [0] rfl rfl rfl rfl rfl callee40 rfl rfl rfl rfl rfl) ?_
 rintro _ ⟨_, _, _, ⟨rfl, rfl, rfl⟩, rfl⟩
 refine Tops_step rfl (OpT_move rfl rfl rfl rfl) ?_
 refine Tops_step rfl (OpT_extract rfl rfl rfl rfl rfl) ?_
 refine Tops_step rfl (OpT_extract rfl rfl rfl rfl rfl) ?_
 refine Tops_step rfl (OpT_assign rfl rfl rfl rfl) ?_
 refine Tops_step rfl (OpT_assign rfl rfl rfl rfl) ?_
 refine Tops_nil (Tk_wkS (fr' := [(7, some (vI find1.1))]) (own' := [some (cellsR b_m 67 [vm1, vm2]), some (rowsX u8S false vm2 vsm1 m.B none)]) (shr' := [Fact.sl RegionS vm1 m.L]) [7] [0, 1] [0] rfl rfl rfl rfl ?_)
 refine Tk_seq (Tk_region (Tops_step rfl (OpT_move rfl rfl rfl rfl) ?_))
 refine Tops_step rfl (OpT_bin rfl rfl rfl rfl rfl (bin_geq_i (a := find1.1) (b := (0 : Int)))) ?_
 refine Tops_step rfl (OpT_assign rfl rfl rfl rfl) ?_
 refine Tops_nil (Tk_wkS (fr' := [(6, some (vB (decide (find1.1 ≥ (0 : Int)))))]) (own' := [some (cellsR b_m 67 [vm1, vm2]), some (rowsX u8S false vm2 vsm1 m.B none)]) (shr' := [Fact.sl RegionS vm1 m.L]) [6] [0, 1] [0] rfl rfl rfl rfl ?_)
 obtain rfl := Option.some.inj h
 exact Tk_retV rfl rfl (resA (vs := [vB (decide (find1.1 ≥ (0 : Int)))]) rfl ⟨rfl, trivial⟩) [0, 1] [] rfl rfl rfl ⟨rfl, rfl, rfl⟩

set_option maxRecDepth 100000 in
set_option maxHeartbeats 4000000 in
theorem w_ref_Mem_Image02 {m : dumbwaiterref02_Mem} {b_m : Nat} {vm1 : Value} {vm2 : Value} {vsm1 : List Value} {r : (List UInt8)} (h : ref_Mem_Image02 m = some r) :
  Ctr Try.prog 29 #[.pointer (some ⟨b_m, 0, none⟩)] [(cellsR b_m 67 [vm1, vm2]), (rowsX u8S false vm2 vsm1 m.B none)] [Fact.sl RegionS vm1 m.L]
   (fun rv own shr => ∃ (w1 : Value), rv = w1 ∧ own = [(cellsR b_m 67 [vm1, vm2]), (rowsX u8S false vm2 vsm1 m.B none), (rowS u8S w1 r)] ∧ shr = []) := by
 unfold ref_Mem_Image02 at h
 refine Ctr.mk (args := [.pointer (some ⟨b_m, 0, none⟩)]) Try.func29 rfl rfl (fun R0 w0 B => ?_)
 refine Tk_seq (Tk_region (Tops_step rfl (OpT_assign rfl rfl rfl rfl) ?_))
 refine Tops_nil (Tk_wkS (fr' := [(0, some (.pointer (some ⟨b_m, 0, none⟩)))]) (own' := [some (cellsR b_m 67 [vm1, vm2]), some (rowsX u8S false vm2 vsm1 m.B none)]) (shr' := [Fact.sl RegionS vm1 m.L]) [0] [0, 1] [0] rfl rfl rfl rfl ?_)
 refine Tk_seq (Tk_region (Tops_step rfl (OpT_assign rfl rfl rfl rfl) ?_))
 refine Tops_nil (Tk_seq (Tk_seq (Tk_region (Tops_step rfl (OpT_assign rfl rfl rfl rfl) ?_))))
 refine Tops_nil (Tk_block (Tk_nilrow u8S ?_))
 refine Tk_loopS (σ := (List UInt8) × Int × Value) [0, 3, 4] [0, 1, 2] [0] (fun s => ⟨[(0, some (.pointer (some ⟨b_m, 0, none⟩))), (3, some (s.2.2)), (4, some (vI s.2.1))], [some (cellsR b_m 67 [vm1, vm2]), some (rowsX u8S false vm2 vsm1 m.B none), some (rowS u8S s.2.2 s.1)], [Fact.sl RegionS vm1 m.L]⟩) (fun nf1 s => ref_Mem_Image02L1 m nf1 s.1 s.2.1 = some r) fuel ([], (0 : Int), (.slice none 0 0)) h rfl rfl rfl rfl rfl (fun s h => by cases h) ?_
 rintro nf1 ⟨out1, i1, v1⟩ h
 replace h : ref_Mem_Image02L1B m (ref_Mem_Image02L1 m nf1) out1 i1 = some r := h
 unfold ref_Mem_Image02L1B at h
 refine Tk_seq (Tk_seq (Tk_region (Tops_step rfl (OpT_move rfl rfl rfl rfl) ?_)))
 refine Tops_step rfl (OpT_move rfl rfl rfl rfl) ?_
 refine Tops_step rfl (OpT_nilCheckP rfl rfl rfl rfl) ?_
 refine Tops_step rfl (OpT_fieldC rfl rfl rfl rfl fldF67x1) ?_
 refine Tops_step rfl (OpT_loadC rfl rfl rfl rfl tyF60 (i := 0) rfl rfl) ?_
 refine Tops_step rfl (OpT_lenRows rfl rfl rfl rfl Try.underlying60 (i := 1) rfl) ?_
 refine Tops_step rfl (OpT_bin rfl rfl rfl rfl rfl (bin_lss_i (a := i1) (b := len m.B))) ?_
 refine Tops_nil (Tk_wkS (fr' := [(0, some (.pointer (some ⟨b_m, 0, none⟩))), (3, some (v1)), (4, some (vI i1)), (11, some (vB (decide (i1 < (len m.B)))))]) (own' := [some (cellsR b_m 67 [vm1, vm2]), some (rowsX u8S false vm2 vsm1 m.B none), some (rowS u8S v1 out1)]) (shr' := [Fact.sl RegionS vm1 m.L]) [0, 3, 4, 11] [0, 1, 2] [0] rfl rfl rfl rfl ?_)
 rcases Bool.eq_false_or_eq_true (decide (i1 < (len m.B))) with hg1 | hg1
 ·replace h := br_t hg1 h
  refine Tk_condT (congrArg (fun b => some (Value.bool b)) hg1) ?_
  refine Tk_skip (Tk_seq (Tk_block (Tk_region (Tops_step rfl (OpT_move rfl rfl rfl rfl) ?_))))
  refine Tops_step rfl (OpT_move rfl rfl rfl rfl) ?_
  refine Tops_step rfl (OpT_nilCheckP rfl rfl rfl rfl) ?_
  refine Tops_step rfl (OpT_fieldC rfl rfl rfl rfl fldF67x1) ?_
  refine Tops_step rfl (OpT_loadC rfl rfl rfl rfl tyF60 (i := 0) rfl rfl) ?_
  refine Tops_step rfl (OpT_move rfl rfl rfl rfl) ?_
  obtain ⟨row1, hx1, h⟩ := ob_e h
  refine Tops_step rfl (OpT_idxRows rfl rfl rfl rfl rfl slF60 (i := 1) rfl hx1) ?_
  refine Tops_vs (vs_focus (i := 1) (j := i1) rfl hx1) ?_
  refine Tops_step rfl (OpT_loadRow (m := i1) rfl rfl rfl rfl tyF38 (i := 1) rfl) ?_
  obtain ⟨hc1, h⟩ := chk_e h
  refine Tops_ex rfl (OpT_appendB (S := u8S) rfl rfl rfl rfl rfl rfl slF38 (i := 2) (j := 3) rfl rfl hc1) fun v2 => ?_
  refine Tops_step rfl (OpT_assign rfl rfl rfl rfl) ?_
  refine Tops_nil (Tk_wkS (fr' := [(0, some (.pointer (some ⟨b_m, 0, none⟩))), (3, some (v2)), (4, some (vI i1))]) (own' := [some (cellsR b_m 67 [vm1, vm2]), some (rowsX u8S false vm2 vsm1 m.B (some (Int.toNat i1, vsAt vsm1 (Int.toNat i1)))), some (rowS u8S v2 (out1 ++ row1)), some (rowS u8S (vsAt vsm1 (Int.toNat i1)) row1)]) (shr' := [Fact.sl RegionS vm1 m.L]) [0, 3, 4] [0, 1, 2, 3] [0] rfl rfl rfl rfl ?_)
  refine Tk_blk (Tk_vs (vs_unfocus0 (i := 1) (q := 3) rfl rfl rfl hx1) ?_)
  refine Tk_region (Tops_step rfl (OpT_move rfl rfl rfl rfl) ?_)
  refine Tops_step rfl (OpT_bin rfl rfl rfl rfl rfl (bin_add_i (a := i1) (b := (1 : Int)))) ?_
  refine Tops_step rfl (OpT_assign rfl rfl rfl rfl) ?_
  refine Tops_nil (Tk_wkS (fr' := [(0, some (.pointer (some ⟨b_m, 0, none⟩))), (3, some (v2)), (4, some (vI (wi (i1 + (1 : Int)))))]) (own' := [some (cellsR b_m 67 [vm1, vm2]), some (rowsX u8S false vm2 vsm1 m.B none), some (rowS u8S v2 (out1 ++ row1))]) (shr' := [Fact.sl RegionS vm1 m.L]) [0, 3, 4] [0, 1, 2] [0] rfl rfl rfl rfl ?_)
  exact Tk_backS (out1 ++ row1, wi (i1 + (1 : Int)), v2) h [0, 3, 4] [0, 1, 2] [0] rfl rfl rfl rfl rfl
 ·replace h := br_f hg1 h
  refine Tk_condF (congrArg (fun b => some (Value.bool b)) hg1) ?_
  refine Tk_exit _ rfl ?_
  refine Tk_seq (Tk_region (Tops_step rfl (OpT_move rfl rfl rfl rfl) ?_))
  refine Tops_step rfl (OpT_assign rfl rfl rfl rfl) ?_
  refine Tops_nil (Tk_wkS (fr' := [(2, some (v1))]) (own' := [some (cellsR b_m 67 [vm1, vm2]), some (rowsX u8S false vm2 vsm1 m.B none), some (rowS u8S v1 out1)]) (shr' := [Fact.sl RegionS vm1 m.L]) [2] [0, 1, 2] [0] rfl rfl rfl rfl ?_)
  obtain rfl := Option.some.inj h
  exact Tk_retV rfl rfl (resA (vs := [v1]) rfl ⟨rfl, trivial⟩) [0, 1, 2] [] rfl rfl rfl ⟨v1, rfl, rfl, rfl⟩

theorem ws_ref_Mem_Image02 {m : dumbwaiterref02_Mem} {b_m : Nat} {vm1 : Value} {vm2 : Value} {vsm1 : List Value} {r : (List UInt8)} (h : ref_Mem_Image02 m = some r) :
  Ctr Try.prog 29 #[.pointer (some ⟨b_m, 0, none⟩)] [(cellsR b_m 67 [vm1, vm2]), (rowsX u8S false vm2 vsm1 m.B none)] [Fact.sl RegionS vm1 m.L]
   (fun rv own shr => ∃ (w1 : Value), rv = w1 ∧ own = [(cellsR b_m 67 [vm1, vm2]), (rowsX u8S false vm2 vsm1 m.B none)] ∧ shr = [Fact.sl u8S w1 r]) :=
 Ctr.sh (w_ref_Mem_Image02 h) (by rintro w1 _ _ ⟨_, rfl, rfl, rfl⟩; exact ⟨[(cellsR b_m 67 [vm1, vm2]), (rowsX u8S false vm2 vsm1 m.B none)], _, _, _, _, rfl, w1, rfl, rfl, rfl⟩)

set_option maxRecDepth 100000 in
set_option maxHeartbeats 4000000 in
theorem w_gmem_Mem_Regions {m : gmem_Mem} {b_m : Nat} {vm1 : Value} {vm2 : Value} {vsm1 : List Value} {r : (List Region)} (h : gmem_Mem_Regions m = some r) :
  Ctr Try.prog 31 #[.pointer (some ⟨b_m, 0, none⟩)] [(cellsR b_m 62 [vm1, vm2]), (rowsX u8S true vm2 vsm1 m.b none)] [Fact.sl RegionS vm1 m.l]
   (fun rv own shr => ∃ (w1 : Value), rv = w1 ∧ own = [(cellsR b_m 62 [vm1, vm2]), (rowsX u8S true vm2 vsm1 m.b none), (rowS RegionS w1 r)] ∧ shr = []) := by
 unfold gmem_Mem_Regions at h
 refine Ctr.mk (args := [.pointer (some ⟨b_m, 0, none⟩)]) Try.func31 rfl rfl (fun R0 w0 B => ?_)
 refine Tk_seq (Tk_region (Tops_step rfl (OpT_assign rfl rfl rfl rfl) ?_))
 refine Tops_nil (Tk_wkS (fr' := [(0, some (.pointer (some ⟨b_m, 0, none⟩)))]) (own' := [some (cellsR b_m 62 [vm1, vm2]), some (rowsX u8S true vm2 vsm1 m.b none)]) (shr' := [Fact.sl RegionS vm1 m.l]) [0] [0, 1] [0] rfl rfl rfl rfl ?_)
 refine Tk_seq (Tk_seq (Tk_region (Tops_step rfl (OpT_move rfl rfl rfl rfl) ?_)))
 obtain ⟨made1, hx1, h⟩ := ob_e h
 refine Tops_exP rfl (OpT_callP [2, 3] (w_gmem_Mem_made hx1) [0, 1] [0] rfl rfl rfl rfl rfl callee34 rfl rfl rfl rfl rfl) ?_
 rintro _ ⟨_, _, _, ⟨rfl, rfl, rfl⟩, rfl⟩
 refine Tops_step rfl (OpT_not rfl rfl rfl rfl) ?_
 refine Tops_nil (Tk_wkS (fr' := [(0, some (.pointer (some ⟨b_m, 0, none⟩))), (5, some (vB (!made1)))]) (own' := [some (cellsR b_m 62 [vm1, vm2]), some (rowsX u8S true vm2 vsm1 m.b none)]) (shr' := [Fact.sl RegionS vm1 m.l]) [0, 5] [0, 1] [0] rfl rfl rfl rfl ?_)
 refine Tk_condF (congrArg (fun b => some (Value.bool b)) (congrArg (!·) (Option.some.inj (show some true = some made1 from hx1)).symm)) ?_
 refine Tk_skip (Tk_seq (Tk_region (Tops_step rfl (OpT_move rfl rfl rfl rfl) ?_)))
 refine Tops_step rfl (OpT_nilCheckP rfl rfl rfl rfl) ?_
 refine Tops_step rfl (OpT_fieldC rfl rfl rfl rfl fldF62x0) ?_
 refine Tops_step rfl (OpT_loadC rfl rfl rfl rfl tyF22 (i := 0) rfl rfl) ?_
 obtain ⟨region1, hx2, h⟩ := ob_e h
 refine Tops_exP rfl (OpT_call (w_slices_Clone_apiRegionapiRegion hx2) [] [0] rfl rfl rfl rfl rfl callee33 rfl rfl rfl rfl) ?_
 rintro _ ⟨v1, _, _, ⟨_, rfl, rfl, rfl⟩, rfl⟩
 refine Tops_step rfl (OpT_assign rfl rfl rfl rfl) ?_
 refine Tops_nil (Tk_wkS (fr' := [(2, some (v1))]) (own' := [some (cellsR b_m 62 [vm1, vm2]), some (rowsX u8S true vm2 vsm1 m.b none), some (rowS RegionS v1 region1)]) (shr' := [Fact.sl RegionS vm1 m.l]) [2] [0, 1, 2] [0] rfl rfl rfl rfl ?_)
 obtain rfl := Option.some.inj h
 exact Tk_retV rfl rfl (resA (vs := [v1]) rfl ⟨rfl, trivial⟩) [0, 1, 2] [] rfl rfl rfl ⟨v1, rfl, rfl, rfl⟩

theorem ws_gmem_Mem_Regions {m : gmem_Mem} {b_m : Nat} {vm1 : Value} {vm2 : Value} {vsm1 : List Value} {r : (List Region)} (h : gmem_Mem_Regions m = some r) :
  Ctr Try.prog 31 #[.pointer (some ⟨b_m, 0, none⟩)] [(cellsR b_m 62 [vm1, vm2]), (rowsX u8S true vm2 vsm1 m.b none)] [Fact.sl RegionS vm1 m.l]
   (fun rv own shr => ∃ (w1 : Value), rv = w1 ∧ own = [(cellsR b_m 62 [vm1, vm2]), (rowsX u8S true vm2 vsm1 m.b none)] ∧ shr = [Fact.sl RegionS w1 r]) :=
 Ctr.sh (w_gmem_Mem_Regions h) (by rintro w1 _ _ ⟨_, rfl, rfl, rfl⟩; exact ⟨[(cellsR b_m 62 [vm1, vm2]), (rowsX u8S true vm2 vsm1 m.b none)], _, _, _, _, rfl, w1, rfl, rfl, rfl⟩)
end Go.Proofs.Ytecmlfmbmligeaa
