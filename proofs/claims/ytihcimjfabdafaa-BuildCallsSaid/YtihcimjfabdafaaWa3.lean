/- The functions do what the plain words say: each is walked once. No statement of the seat is proved here; no condition. -/
import Derived.Test.YtihcimjfabdafaaWa2
namespace Go.Proofs.Ytihcimjfabdafaa
attribute [local irreducible] sub
set_option maxRecDepth 100000 in
set_option maxHeartbeats 4000000 in
theorem w_ref_may09 {l : List Seg} {vl1 : Value} {r : Int} (h : ref_may09 l = some r) :
  Ctr Try.prog 50 #[vl1] [] [Fact.sl SegS vl1 l]
   (fun rv own shr => rv = vI r ∧ own = [] ∧ shr = []) := by
 unfold ref_may09 at h
 refine Ctr.mk (args := [vl1]) Try.func50 rfl rfl (fun R0 w0 B => ?_)
 refine Tk_seq (Tk_region (Tops_step rfl (OpT_assign rfl rfl rfl rfl) ?_))
 refine Tops_nil (Tk_wkS (fr' := [(0, some (vl1))]) (own' := []) (shr' := [Fact.sl SegS vl1 l]) [0] [] [0] rfl rfl rfl rfl ?_)
 refine Tk_seq (Tk_region (Tops_step rfl (OpT_move rfl rfl rfl rfl) ?_))
 obtain ⟨check1, hx1, h⟩ := ob_e h
 refine Tops_exP rfl (OpT_call (w_ref_Check05 hx1) [] [0] rfl rfl rfl rfl rfl callee62 rfl rfl rfl rfl) ?_
 rintro _ ⟨_, _, _, ⟨rfl, rfl, rfl⟩, rfl⟩
 refine Tops_step rfl (OpT_assign rfl rfl rfl rfl) ?_
 refine Tops_nil (Tk_wkS (fr' := [(0, some (vl1)), (3, some (vI check1))]) (own' := []) (shr' := [Fact.sl SegS vl1 l]) [0, 3] [] [0] rfl rfl rfl rfl ?_)
 refine Tk_seq (Tk_seq (Tk_region (Tops_step rfl (OpT_move rfl rfl rfl rfl) ?_)))
 refine Tops_step rfl (OpT_bin rfl rfl rfl rfl rfl (bin_eql_i (a := check1) (b := (0 : Int)))) ?_
 refine Tops_step rfl (OpT_move rfl rfl rfl rfl) ?_
 rcases Bool.eq_false_or_eq_true (check1 == (0 : Int)) with hg1 | hg1
 ·replace h := br_t hg1 h
  refine Tops_yes rfl rfl (congrArg (fun b => some (Value.bool b)) hg1) (OpT_move rfl rfl rfl rfl) ?_
  rintro _ rfl
  refine Tops_yes rfl rfl (congrArg (fun b => some (Value.bool b)) hg1) (OpT_lenS rfl rfl rfl rfl Try.underlying27 (i := 0) rfl) ?_
  rintro _ rfl
  refine Tops_yes rfl rfl (congrArg (fun b => some (Value.bool b)) hg1) (OpT_bin rfl rfl rfl rfl rfl (bin_eql_i (a := len l) (b := (0 : Int)))) ?_
  rintro _ rfl
  refine Tops_step rfl (OpT_pickT rfl rfl rfl (congrArg (fun b => some (Value.bool b)) hg1) rfl) ?_
  refine Tops_nil (Tk_wkS (fr' := [(3, some (vI check1)), (12, some (vB ((len l) == (0 : Int))))]) (own' := []) (shr' := []) [3, 12] [] [] rfl rfl rfl rfl ?_)
  rcases Bool.eq_false_or_eq_true ((len l) == (0 : Int)) with hg2 | hg2
  ·replace h := br_t hg2 h
   refine Tk_condT (congrArg (fun b => some (Value.bool b)) hg2) ?_
   refine Tk_region (Tops_step rfl (OpT_assign rfl rfl rfl rfl) ?_)
   refine Tops_nil (Tk_wkS (fr' := [(3, some (vI (2 : Int)))]) (own' := []) (shr' := []) [3] [] [] rfl rfl rfl rfl ?_)
   refine Tk_seq (Tk_region (Tops_step rfl (OpT_move rfl rfl rfl rfl) ?_))
   refine Tops_step rfl (OpT_assign rfl rfl rfl rfl) ?_
   refine Tops_nil (Tk_wkS (fr' := [(2, some (vI (2 : Int)))]) (own' := []) (shr' := []) [2] [] [] rfl rfl rfl rfl ?_)
   obtain rfl := Option.some.inj h
   exact Tk_retV rfl rfl (resA (vs := [vI (2 : Int)]) rfl ⟨rfl, trivial⟩) [] [] rfl rfl rfl ⟨rfl, rfl, rfl⟩
  ·replace h := br_f hg2 h
   refine Tk_condF (congrArg (fun b => some (Value.bool b)) hg2) ?_
   refine Tk_skip (Tk_seq (Tk_region (Tops_step rfl (OpT_move rfl rfl rfl rfl) ?_)))
   refine Tops_step rfl (OpT_assign rfl rfl rfl rfl) ?_
   refine Tops_nil (Tk_wkS (fr' := [(2, some (vI check1))]) (own' := []) (shr' := []) [2] [] [] rfl rfl rfl rfl ?_)
   obtain rfl := Option.some.inj h
   exact Tk_retV rfl rfl (resA (vs := [vI check1]) rfl ⟨rfl, trivial⟩) [] [] rfl rfl rfl ⟨rfl, rfl, rfl⟩
 ·replace h := br_f hg1 h
  refine Tops_no rfl rfl (congrArg (fun b => some (Value.bool b)) hg1) rfl rfl ?_
  refine Tops_no rfl rfl (congrArg (fun b => some (Value.bool b)) hg1) rfl rfl ?_
  refine Tops_no rfl rfl (congrArg (fun b => some (Value.bool b)) hg1) rfl rfl ?_
  refine Tops_step rfl (OpT_pickF rfl rfl rfl (congrArg (fun b => some (Value.bool b)) hg1) rfl) ?_
  refine Tops_nil (Tk_wkS (fr' := [(3, some (vI check1)), (12, some (vB false))]) (own' := []) (shr' := []) [3, 12] [] [] rfl rfl rfl rfl ?_)
  refine Tk_condF rfl ?_
  refine Tk_skip (Tk_seq (Tk_region (Tops_step rfl (OpT_move rfl rfl rfl rfl) ?_)))
  refine Tops_step rfl (OpT_assign rfl rfl rfl rfl) ?_
  refine Tops_nil (Tk_wkS (fr' := [(2, some (vI check1))]) (own' := []) (shr' := []) [2] [] [] rfl rfl rfl rfl ?_)
  obtain rfl := Option.some.inj h
  exact Tk_retV rfl rfl (resA (vs := [vI check1]) rfl ⟨rfl, trivial⟩) [] [] rfl rfl rfl ⟨rfl, rfl, rfl⟩

set_option maxRecDepth 100000 in
set_option maxHeartbeats 4000000 in
theorem w_ref_Split09 {ids : List Int} {l : List Seg} {vids1 : Value} {vl1 : Value} {r : ((List Put) × Int)} (h : ref_Split09 ids l = some r) :
  Ctr Try.prog 22 #[vids1, vl1] [] [Fact.sl iS vids1 ids, Fact.sl SegS vl1 l]
   (fun rv own shr => ∃ (w1 : Value), rv = .tuple #[w1, vI r.2] ∧ own = [(rowS PutS w1 r.1)] ∧ shr = []) := by
 unfold ref_Split09 at h
 refine Ctr.mk (args := [vids1, vl1]) Try.func22 rfl rfl (fun R0 w0 B => ?_)
 refine Tk_seq (Tk_region (Tops_step rfl (OpT_assign rfl rfl rfl rfl) ?_))
 refine Tops_step rfl (OpT_assign rfl rfl rfl rfl) ?_
 refine Tops_nil (Tk_wkS (fr' := [(0, some (vids1)), (1, some (vl1))]) (own' := []) (shr' := [Fact.sl iS vids1 ids, Fact.sl SegS vl1 l]) [0, 1] [] [0, 1] rfl rfl rfl rfl ?_)
 refine Tk_seq (Tk_region (Tops_step rfl (OpT_move rfl rfl rfl rfl) ?_))
 obtain ⟨may1, hx1, h⟩ := ob_e h
 refine Tops_exP rfl (OpT_call (w_ref_may09 hx1) [] [1] rfl rfl rfl rfl rfl callee50 rfl rfl rfl rfl) ?_
 rintro _ ⟨_, _, _, ⟨rfl, rfl, rfl⟩, rfl⟩
 refine Tops_step rfl (OpT_assign rfl rfl rfl rfl) ?_
 refine Tops_nil (Tk_wkS (fr' := [(0, some (vids1)), (1, some (vl1)), (6, some (vI may1))]) (own' := []) (shr' := [Fact.sl iS vids1 ids, Fact.sl SegS vl1 l]) [0, 1, 6] [] [0, 1] rfl rfl rfl rfl ?_)
 refine Tk_seq (Tk_seq (Tk_region (Tops_step rfl (OpT_move rfl rfl rfl rfl) ?_)))
 refine Tops_step rfl (OpT_bin rfl rfl rfl rfl rfl (bin_neq_i (a := may1) (b := (0 : Int)))) ?_
 refine Tops_nil (Tk_wkS (fr' := [(0, some (vids1)), (1, some (vl1)), (6, some (vI may1)), (15, some (vB (may1 != (0 : Int))))]) (own' := []) (shr' := [Fact.sl iS vids1 ids, Fact.sl SegS vl1 l]) [0, 1, 6, 15] [] [0, 1] rfl rfl rfl rfl ?_)
 rcases Bool.eq_false_or_eq_true (may1 != (0 : Int)) with hg1 | hg1
 ·replace h := br_t hg1 h
  refine Tk_condT (congrArg (fun b => some (Value.bool b)) hg1) ?_
  refine Tk_seq (Tk_region (Tops_step rfl (OpT_move rfl rfl rfl rfl) ?_))
  refine Tops_step rfl (OpT_assign rfl rfl rfl rfl) ?_
  refine Tops_step rfl (OpT_assign rfl rfl rfl rfl) ?_
  refine Tops_nil (Tk_wkS (fr' := [(4, some (.slice none 0 0)), (5, some (vI may1))]) (own' := []) (shr' := []) [4, 5] [] [] rfl rfl rfl rfl ?_)
  refine Tk_nilrow PutS ?_
  obtain rfl := Option.some.inj h
  exact Tk_retV rfl rfl (resA (vs := [.slice none 0 0, vI may1]) rfl ⟨rfl, rfl, trivial⟩) [0] [] rfl rfl rfl ⟨(.slice none 0 0), rfl, rfl, rfl⟩
 ·replace h := br_f hg1 h
  refine Tk_condF (congrArg (fun b => some (Value.bool b)) hg1) ?_
  refine Tk_skip (Tk_seq (Tk_seq (Tk_region (Tops_step rfl (OpT_move rfl rfl rfl rfl) ?_))))
  refine Tops_step rfl (OpT_lenS rfl rfl rfl rfl Try.underlying26 (i := 0) rfl) ?_
  refine Tops_step rfl (OpT_move rfl rfl rfl rfl) ?_
  refine Tops_step rfl (OpT_lenS rfl rfl rfl rfl Try.underlying27 (i := 1) rfl) ?_
  refine Tops_step rfl (OpT_bin rfl rfl rfl rfl rfl (bin_neq_i (a := len ids) (b := len l))) ?_
  refine Tops_nil (Tk_wkS (fr' := [(0, some (vids1)), (1, some (vl1)), (21, some (vB ((len ids) != (len l))))]) (own' := []) (shr' := [Fact.sl iS vids1 ids, Fact.sl SegS vl1 l]) [0, 1, 21] [] [0, 1] rfl rfl rfl rfl ?_)
  rcases Bool.eq_false_or_eq_true ((len ids) != (len l)) with hg2 | hg2
  ·replace h := br_t hg2 h
   refine Tk_condT (congrArg (fun b => some (Value.bool b)) hg2) ?_
   refine Tk_seq (Tk_region (Tops_step rfl (OpT_assign rfl rfl rfl rfl) ?_))
   refine Tops_step rfl (OpT_assign rfl rfl rfl rfl) ?_
   refine Tops_nil (Tk_wkS (fr' := [(4, some (.slice none 0 0)), (5, some (vI (2 : Int)))]) (own' := []) (shr' := []) [4, 5] [] [] rfl rfl rfl rfl ?_)
   refine Tk_nilrow PutS ?_
   obtain rfl := Option.some.inj h
   exact Tk_retV rfl rfl (resA (vs := [.slice none 0 0, vI (2 : Int)]) rfl ⟨rfl, rfl, trivial⟩) [0] [] rfl rfl rfl ⟨(.slice none 0 0), rfl, rfl, rfl⟩
  ·replace h := br_f hg2 h
   refine Tk_condF (congrArg (fun b => some (Value.bool b)) hg2) ?_
   refine Tk_skip (Tk_seq (Tk_seq (Tk_region (Tops_step rfl (OpT_assign rfl rfl rfl rfl) ?_))))
   refine Tops_nil (Tk_wkS (fr' := [(0, some (vids1)), (1, some (vl1)), (7, some (vI (0 : Int)))]) (own' := []) (shr' := [Fact.sl iS vids1 ids, Fact.sl SegS vl1 l]) [0, 1, 7] [] [0, 1] rfl rfl rfl rfl ?_)
   refine Tk_block (Tk_loopS (σ := Int) [0, 1, 7] [] [0, 1] (fun s => ⟨[(0, some (vids1)), (1, some (vl1)), (7, some (vI s))], [], [Fact.sl iS vids1 ids, Fact.sl SegS vl1 l]⟩) (fun nf1 s => ref_Split09L1 ids l nf1 s = some r) fuel (0 : Int) h rfl rfl rfl rfl rfl (fun s h => by cases h) ?_)
   rintro nf1 i1 h
   replace h : ref_Split09L1B ids l (ref_Split09L1 ids l nf1) i1 = some r := h
   unfold ref_Split09L1B at h
   refine Tk_seq (Tk_seq (Tk_region (Tops_step rfl (OpT_move rfl rfl rfl rfl) ?_)))
   refine Tops_step rfl (OpT_move rfl rfl rfl rfl) ?_
   refine Tops_step rfl (OpT_lenS rfl rfl rfl rfl Try.underlying26 (i := 0) rfl) ?_
   refine Tops_step rfl (OpT_bin rfl rfl rfl rfl rfl (bin_lss_i (a := i1) (b := len ids))) ?_
   refine Tops_nil (Tk_wkS (fr' := [(0, some (vids1)), (1, some (vl1)), (7, some (vI i1)), (25, some (vB (decide (i1 < (len ids)))))]) (own' := []) (shr' := [Fact.sl iS vids1 ids, Fact.sl SegS vl1 l]) [0, 1, 7, 25] [] [0, 1] rfl rfl rfl rfl ?_)
   rcases Bool.eq_false_or_eq_true (decide (i1 < (len ids))) with hg3 | hg3
   ·replace h := br_t hg3 h
    refine Tk_condT (congrArg (fun b => some (Value.bool b)) hg3) ?_
    refine Tk_skip (Tk_seq (Tk_block (Tk_seq (Tk_seq (Tk_region (Tops_step rfl (OpT_move rfl rfl rfl rfl) ?_))))))
    refine Tops_step rfl (OpT_move rfl rfl rfl rfl) ?_
    obtain ⟨y1, hx2, h⟩ := ob_e h
    refine Tops_ex rfl (OpT_idxS rfl rfl rfl rfl rfl slF26 (i := 0) rfl hx2) fun p1 => ?_
    refine Tops_step rfl (OpT_loadP rfl rfl rfl rfl tyF3 (i := 2) rfl rfl) ?_
    refine Tops_step rfl (OpT_bin rfl rfl rfl rfl rfl (bin_lss_i (a := y1) (b := (0 : Int)))) ?_
    refine Tops_step rfl (OpT_move rfl rfl rfl rfl) ?_
    rcases Bool.eq_false_or_eq_true (decide (y1 < (0 : Int))) with hg4 | hg4
    ·replace h := br_t hg4 h
     refine Tops_no rfl rfl (congrArg (fun b => some (Value.bool b)) hg4) rfl rfl ?_
     refine Tops_no rfl rfl (congrArg (fun b => some (Value.bool b)) hg4) rfl rfl ?_
     refine Tops_no rfl rfl (congrArg (fun b => some (Value.bool b)) hg4) rfl rfl ?_
     refine Tops_no rfl rfl (congrArg (fun b => some (Value.bool b)) hg4) rfl rfl ?_
     refine Tops_no rfl rfl (congrArg (fun b => some (Value.bool b)) hg4) rfl rfl ?_
     refine Tops_step rfl (OpT_pickT rfl rfl rfl (congrArg (fun b => some (Value.bool b)) hg4) rfl) ?_
     refine Tops_nil (Tk_wkS (fr' := [(0, some (vids1)), (1, some (vl1)), (7, some (vI i1)), (39, some (vB true))]) (own' := []) (shr' := [Fact.sl iS vids1 ids, Fact.sl SegS vl1 l]) [0, 1, 7, 39] [] [0, 1] rfl rfl rfl rfl ?_)
     refine Tk_condT rfl ?_
     refine Tk_seq (Tk_region (Tops_step rfl (OpT_assign rfl rfl rfl rfl) ?_))
     refine Tops_step rfl (OpT_assign rfl rfl rfl rfl) ?_
     refine Tops_nil (Tk_wkS (fr' := [(4, some (.slice none 0 0)), (5, some (vI (2 : Int)))]) (own' := []) (shr' := []) [4, 5] [] [] rfl rfl rfl rfl ?_)
     refine Tk_nilrow PutS ?_
     obtain rfl := Option.some.inj h
     exact Tk_retV rfl rfl (resA (vs := [.slice none 0 0, vI (2 : Int)]) rfl ⟨rfl, rfl, trivial⟩) [0] [] rfl rfl rfl ⟨(.slice none 0 0), rfl, rfl, rfl⟩
    ·replace h := br_f hg4 h
     refine Tops_yes rfl rfl (congrArg (fun b => some (Value.bool b)) hg4) (OpT_move rfl rfl rfl rfl) ?_
     rintro _ rfl
     refine Tops_yes rfl rfl (congrArg (fun b => some (Value.bool b)) hg4) (OpT_move rfl rfl rfl rfl) ?_
     rintro _ rfl
     obtain ⟨y2, hx3, h⟩ := ob_e h
     refine Tops_yes rfl rfl (congrArg (fun b => some (Value.bool b)) hg4) (OpT_idxS rfl rfl rfl rfl rfl slF26 (i := 0) rfl hx3) ?_
     rintro _ ⟨p2, rfl⟩
     refine Tops_yes rfl rfl (congrArg (fun b => some (Value.bool b)) hg4) (OpT_loadP rfl rfl rfl rfl tyF3 (i := 3) rfl rfl) ?_
     rintro _ rfl
     refine Tops_yes rfl rfl (congrArg (fun b => some (Value.bool b)) hg4) (OpT_bin rfl rfl rfl rfl rfl (bin_geq_i (a := y2) (b := (32768 : Int)))) ?_
     rintro _ rfl
     refine Tops_step rfl (OpT_pickF rfl rfl rfl (congrArg (fun b => some (Value.bool b)) hg4) rfl) ?_
     refine Tops_nil (Tk_wkS (fr' := [(0, some (vids1)), (1, some (vl1)), (7, some (vI i1)), (39, some (vB (decide (y2 ≥ (32768 : Int)))))]) (own' := []) (shr' := [Fact.sl iS vids1 ids, Fact.sl SegS vl1 l]) [0, 1, 7, 39] [] [0, 1] rfl rfl rfl rfl ?_)
     rcases Bool.eq_false_or_eq_true (decide (y2 ≥ (32768 : Int))) with hg5 | hg5
     ·replace h := br_t hg5 h
      refine Tk_condT (congrArg (fun b => some (Value.bool b)) hg5) ?_
      refine Tk_seq (Tk_region (Tops_step rfl (OpT_assign rfl rfl rfl rfl) ?_))
      refine Tops_step rfl (OpT_assign rfl rfl rfl rfl) ?_
      refine Tops_nil (Tk_wkS (fr' := [(4, some (.slice none 0 0)), (5, some (vI (2 : Int)))]) (own' := []) (shr' := []) [4, 5] [] [] rfl rfl rfl rfl ?_)
      refine Tk_nilrow PutS ?_
      obtain rfl := Option.some.inj h
      exact Tk_retV rfl rfl (resA (vs := [.slice none 0 0, vI (2 : Int)]) rfl ⟨rfl, rfl, trivial⟩) [0] [] rfl rfl rfl ⟨(.slice none 0 0), rfl, rfl, rfl⟩
     ·replace h := br_f hg5 h
      refine Tk_condF (congrArg (fun b => some (Value.bool b)) hg5) ?_
      refine Tk_skip (Tk_seq (Tk_region (Tops_step rfl (OpT_assign rfl rfl rfl rfl) ?_)))
      refine Tops_nil (Tk_wkS (fr' := [(0, some (vids1)), (1, some (vl1)), (7, some (vI i1)), (8, some (vI (0 : Int)))]) (own' := []) (shr' := [Fact.sl iS vids1 ids, Fact.sl SegS vl1 l]) [0, 1, 7, 8] [] [0, 1] rfl rfl rfl rfl ?_)
      refine Tk_block (Tk_loopS (σ := Int) [0, 1, 7, 8] [] [0, 1] (fun s => ⟨[(0, some (vids1)), (1, some (vl1)), (7, some (vI i1)), (8, some (vI s))], [], [Fact.sl iS vids1 ids, Fact.sl SegS vl1 l]⟩) (fun nf2 s => ref_Split09L2 ids i1 (ref_Split09L1 ids l nf1) nf2 s = some r) fuel (0 : Int) h rfl rfl rfl rfl rfl (fun s h => by cases h) ?_)
      rintro nf2 k1 h
      replace h : ref_Split09L2B ids i1 (ref_Split09L1 ids l nf1) (ref_Split09L2 ids i1 (ref_Split09L1 ids l nf1) nf2) k1 = some r := h
      unfold ref_Split09L2B at h
      refine Tk_seq (Tk_seq (Tk_region (Tops_step rfl (OpT_move rfl rfl rfl rfl) ?_)))
      refine Tops_step rfl (OpT_move rfl rfl rfl rfl) ?_
      refine Tops_step rfl (OpT_bin rfl rfl rfl rfl rfl (bin_lss_i (a := k1) (b := i1))) ?_
      refine Tops_nil (Tk_wkS (fr' := [(0, some (vids1)), (1, some (vl1)), (7, some (vI i1)), (8, some (vI k1)), (42, some (vB (decide (k1 < i1))))]) (own' := []) (shr' := [Fact.sl iS vids1 ids, Fact.sl SegS vl1 l]) [0, 1, 7, 8, 42] [] [0, 1] rfl rfl rfl rfl ?_)
      rcases Bool.eq_false_or_eq_true (decide (k1 < i1)) with hg6 | hg6
      ·replace h := br_t hg6 h
       refine Tk_condT (congrArg (fun b => some (Value.bool b)) hg6) ?_
       refine Tk_skip (Tk_seq (Tk_block (Tk_seq (Tk_drawT (by kernel_rfl) ?_))))
       refine TA_tb [0, 0, 3, 7, 0, 0, 48, 112, 255] (by kernel_rfl) fun htb => ?_
       refine TA_wkS (fr' := [(0, some (vids1)), (1, some (vl1)), (7, some (vI i1)), (8, some (vI k1))]) (own' := []) (shr' := [Fact.sl iS vids1 ids, Fact.sl SegS vl1 l]) [0, 1, 7, 8] [] [0, 1] rfl rfl rfl rfl ?_
       obtain ⟨y3, hx4, h⟩ := ob_e h
       obtain ⟨y4, hx5, h⟩ := ob_e h
       refine TA_seg (lo := 0) (hi := 8) htb rfl rfl (by kernel_rfl) (fun c L a w => ∃ (p3 : Value), ∃ (p4 : Value), Sat c ⟨[(0, some (vids1)), (1, some (vl1)), (7, some (vI i1)), (8, some (vI k1)), (45, bif L 0 then some (vids1) else none), (46, bif L 1 then some (vI k1) else none), (47, bif L 2 then some (p3) else none), (48, bif L 3 then some (vI y3) else none), (49, bif L 4 then some (vids1) else none), (50, bif L 5 then some (vI i1) else none), (51, bif L 6 then some (p4) else none), (52, bif L 7 then some (vI y4) else none)], [], [Fact.sl iS vids1 ids, Fact.sl SegS vl1 l, (bif L 2 then Fact.pt iS p3 y3 else Fact.tt), (bif L 6 then Fact.pt iS p4 y4 else Fact.tt)]⟩ a w) [([], [2, 3]), ([], [2, 3]), ([0, 1], [3]), ([0, 1, 2], []), ([], [6, 7]), ([], [6, 7]), ([4, 5], [7]), ([4, 5, 6], [])] rfl (by kernel_rfl) ?_ (steps_cons ?_ (steps_cons ?_ (steps_cons ?_ (steps_cons ?_ (steps_cons ?_ (steps_cons ?_ (steps_cons ?_ (steps_cons ?_ (steps_nil))))))))) ?_
       ·intro a w hs
        exact ⟨undef, undef, hs.startF [45, 46, 47, 48, 49, 50, 51, 52] [] [0, 1, 2, 3] rfl rfl rfl rfl⟩
       ·intro L a w hv K Q hK
        obtain ⟨p3, p4, hs⟩ := hv
        refine wpOp_go rfl rfl hs (OpT_move rfl rfl rfl rfl) ?_
        rintro _ rfl a' w' hs'
        exact hK a' w' ⟨p3, p4, hs'.putF (i := 4) rfl [] [0, 1, 2, 3] rfl rfl rfl rfl⟩
       ·intro L a w hv K Q hK
        obtain ⟨p3, p4, hs⟩ := hv
        refine wpOp_go rfl rfl hs (OpT_move rfl rfl rfl rfl) ?_
        rintro _ rfl a' w' hs'
        exact hK a' w' ⟨p3, p4, hs'.putF (i := 5) rfl [] [0, 1, 2, 3] rfl rfl rfl rfl⟩
       ·intro L a w hv K Q hK
        obtain ⟨p3, p4, hs⟩ := hv
        refine wpOp_go rfl rfl hs (OpT_idxS rfl rfl rfl rfl rfl slF26 (i := 0) rfl hx4) ?_
        rintro _ ⟨p3', rfl⟩ a' w' hs'
        exact hK a' w' ⟨p3', p4, hs'.putF (i := 6) rfl [] [0, 1, 4, 3] rfl rfl rfl rfl⟩
       ·intro L a w hv K Q hK
        obtain ⟨p3, p4, hs⟩ := hv
        refine wpOp_go rfl rfl hs (OpT_loadP rfl rfl rfl rfl tyF3 (i := 2) rfl rfl) ?_
        rintro _ rfl a' w' hs'
        exact hK a' w' ⟨p3, p4, hs'.putF (i := 7) rfl [] [0, 1, 2, 3] rfl rfl rfl rfl⟩
       ·intro L a w hv K Q hK
        obtain ⟨p3, p4, hs⟩ := hv
        refine wpOp_go rfl rfl hs (OpT_move rfl rfl rfl rfl) ?_
        rintro _ rfl a' w' hs'
        exact hK a' w' ⟨p3, p4, hs'.putF (i := 8) rfl [] [0, 1, 2, 3] rfl rfl rfl rfl⟩
       ·intro L a w hv K Q hK
        obtain ⟨p3, p4, hs⟩ := hv
        refine wpOp_go rfl rfl hs (OpT_move rfl rfl rfl rfl) ?_
        rintro _ rfl a' w' hs'
        exact hK a' w' ⟨p3, p4, hs'.putF (i := 9) rfl [] [0, 1, 2, 3] rfl rfl rfl rfl⟩
       ·intro L a w hv K Q hK
        obtain ⟨p3, p4, hs⟩ := hv
        refine wpOp_go rfl rfl hs (OpT_idxS rfl rfl rfl rfl rfl slF26 (i := 0) rfl hx5) ?_
        rintro _ ⟨p4', rfl⟩ a' w' hs'
        exact hK a' w' ⟨p3, p4', hs'.putF (i := 10) rfl [] [0, 1, 2, 4] rfl rfl rfl rfl⟩
       ·intro L a w hv K Q hK
        obtain ⟨p3, p4, hs⟩ := hv
        refine wpOp_go rfl rfl hs (OpT_loadP rfl rfl rfl rfl tyF3 (i := 3) rfl rfl) ?_
        rintro _ rfl a' w' hs'
        exact hK a' w' ⟨p3, p4, hs'.putF (i := 11) rfl [] [0, 1, 2, 3] rfl rfl rfl rfl⟩
       ·intro L a w hL hv
        rw [allTrue hL] at hv
        obtain ⟨p3, p4, hs⟩ := hv
        refine (show TA _ _ _ 8 ⟨[(0, some (vids1)), (1, some (vl1)), (7, some (vI i1)), (8, some (vI k1)), (48, some (vI y3)), (52, some (vI y4))], [], [Fact.sl iS vids1 ids, Fact.sl SegS vl1 l]⟩ from ?_) a w (hs.wkS [0, 1, 7, 8, 48, 52] [] [0, 1] rfl rfl rfl rfl)
        clear hs hL
        refine TA_step htb (by kernel_rfl) rfl rfl (OpT_bin rfl rfl rfl rfl rfl (bin_eql_i (a := y3) (b := y4))) ?_
        refine TA_end rfl ?_
        refine Tk_wkS (fr' := [(0, some (vids1)), (1, some (vl1)), (7, some (vI i1)), (8, some (vI k1)), (53, some (vB (y3 == y4)))]) (own' := []) (shr' := [Fact.sl iS vids1 ids, Fact.sl SegS vl1 l]) [0, 1, 7, 8, 53] [] [0, 1] rfl rfl rfl rfl ?_
        rcases Bool.eq_false_or_eq_true (y3 == y4) with hg7 | hg7
        ·replace h := br_t hg7 h
         refine Tk_condT (congrArg (fun b => some (Value.bool b)) hg7) ?_
         refine Tk_seq (Tk_region (Tops_step rfl (OpT_assign rfl rfl rfl rfl) ?_))
         refine Tops_step rfl (OpT_assign rfl rfl rfl rfl) ?_
         refine Tops_nil (Tk_wkS (fr' := [(4, some (.slice none 0 0)), (5, some (vI (2 : Int)))]) (own' := []) (shr' := []) [4, 5] [] [] rfl rfl rfl rfl ?_)
         refine Tk_nilrow PutS ?_
         obtain rfl := Option.some.inj h
         exact Tk_retV rfl rfl (resA (vs := [.slice none 0 0, vI (2 : Int)]) rfl ⟨rfl, rfl, trivial⟩) [0] [] rfl rfl rfl ⟨(.slice none 0 0), rfl, rfl, rfl⟩
        ·replace h := br_f hg7 h
         refine Tk_condF (congrArg (fun b => some (Value.bool b)) hg7) ?_
         refine Tk_skip (Tk_blk (Tk_region (Tops_step rfl (OpT_move rfl rfl rfl rfl) ?_)))
         refine Tops_step rfl (OpT_bin rfl rfl rfl rfl rfl (bin_add_i (a := k1) (b := (1 : Int)))) ?_
         refine Tops_step rfl (OpT_assign rfl rfl rfl rfl) ?_
         refine Tops_nil (Tk_wkS (fr' := [(0, some (vids1)), (1, some (vl1)), (7, some (vI i1)), (8, some (vI (wi (k1 + (1 : Int)))))]) (own' := []) (shr' := [Fact.sl iS vids1 ids, Fact.sl SegS vl1 l]) [0, 1, 7, 8] [] [0, 1] rfl rfl rfl rfl ?_)
         exact Tk_backS (wi (k1 + (1 : Int))) h [0, 1, 7, 8] [] [0, 1] rfl rfl rfl rfl rfl
      ·replace h := br_f hg6 h
       refine Tk_condF (congrArg (fun b => some (Value.bool b)) hg6) ?_
       refine Tk_exit _ rfl ?_
       refine Tk_blk (Tk_region (Tops_step rfl (OpT_move rfl rfl rfl rfl) ?_))
       refine Tops_step rfl (OpT_bin rfl rfl rfl rfl rfl (bin_add_i (a := i1) (b := (1 : Int)))) ?_
       refine Tops_step rfl (OpT_assign rfl rfl rfl rfl) ?_
       refine Tops_nil (Tk_wkS (fr' := [(0, some (vids1)), (1, some (vl1)), (7, some (vI (wi (i1 + (1 : Int)))))]) (own' := []) (shr' := [Fact.sl iS vids1 ids, Fact.sl SegS vl1 l]) [0, 1, 7] [] [0, 1] rfl rfl rfl rfl ?_)
       exact Tk_backS (wi (i1 + (1 : Int))) h [0, 1, 7] [] [0, 1] rfl rfl rfl rfl rfl
   ·replace h := br_f hg3 h
    refine Tk_condF (congrArg (fun b => some (Value.bool b)) hg3) ?_
    refine Tk_exit _ rfl ?_
    refine Tk_seq (Tk_region (Tops_step rfl (OpT_assign rfl rfl rfl rfl) ?_))
    refine Tops_nil (Tk_wkS (fr' := [(0, some (vids1)), (1, some (vl1)), (9, some (.slice none 0 0))]) (own' := []) (shr' := [Fact.sl iS vids1 ids, Fact.sl SegS vl1 l]) [0, 1, 9] [] [0, 1] rfl rfl rfl rfl ?_)
    refine Tk_seq (Tk_seq (Tk_region (Tops_step rfl (OpT_assign rfl rfl rfl rfl) ?_)))
    refine Tops_nil (Tk_block (Tk_nilrow PutS ?_))
    refine Tk_loopS (σ := (List Put) × Int × Value) [0, 1, 9, 10] [0] [0, 1] (fun s => ⟨[(0, some (vids1)), (1, some (vl1)), (9, some (s.2.2)), (10, some (vI s.2.1))], [some (rowS PutS s.2.2 s.1)], [Fact.sl iS vids1 ids, Fact.sl SegS vl1 l]⟩) (fun nf3 s => ref_Split09L3 ids l nf3 s.1 s.2.1 = some r) fuel ([], (0 : Int), (.slice none 0 0)) h rfl rfl rfl rfl rfl (fun s h => by cases h) ?_
    rintro nf3 ⟨out1, i2, v1⟩ h
    replace h : ref_Split09L3B ids l (ref_Split09L3 ids l nf3) out1 i2 = some r := h
    unfold ref_Split09L3B at h
    refine Tk_seq (Tk_seq (Tk_region (Tops_step rfl (OpT_move rfl rfl rfl rfl) ?_)))
    refine Tops_step rfl (OpT_move rfl rfl rfl rfl) ?_
    refine Tops_step rfl (OpT_lenS rfl rfl rfl rfl Try.underlying27 (i := 1) rfl) ?_
    refine Tops_step rfl (OpT_bin rfl rfl rfl rfl rfl (bin_lss_i (a := i2) (b := len l))) ?_
    refine Tops_nil (Tk_wkS (fr' := [(0, some (vids1)), (1, some (vl1)), (9, some (v1)), (10, some (vI i2)), (57, some (vB (decide (i2 < (len l)))))]) (own' := [some (rowS PutS v1 out1)]) (shr' := [Fact.sl iS vids1 ids, Fact.sl SegS vl1 l]) [0, 1, 9, 10, 57] [0] [0, 1] rfl rfl rfl rfl ?_)
    rcases Bool.eq_false_or_eq_true (decide (i2 < (len l))) with hg8 | hg8
    ·replace h := br_t hg8 h
     refine Tk_condT (congrArg (fun b => some (Value.bool b)) hg8) ?_
     refine Tk_skip (Tk_seq (Tk_block (Tk_seq (Tk_drawT (by kernel_rfl) ?_))))
     refine TA_tb [0, 0, 3, 7, 15, 0, 0, 96, 224, 480, 1023, 0, 4095] (by kernel_rfl) fun htb => ?_
     refine TA_wkS (fr' := [(0, some (vids1)), (1, some (vl1)), (9, some (v1)), (10, some (vI i2))]) (own' := [some (rowS PutS v1 out1)]) (shr' := [Fact.sl iS vids1 ids, Fact.sl SegS vl1 l]) [0, 1, 9, 10] [0] [0, 1] rfl rfl rfl rfl ?_
     obtain ⟨s1, hx6, h⟩ := ob_e h
     obtain ⟨s2, hx7, h⟩ := ob_e h
     refine TA_seg (lo := 0) (hi := 12) htb rfl rfl (by kernel_rfl) (fun c L a w => ∃ (p5 : Value), ∃ (p6 : Value), ∃ (p7 : Value), ∃ (p8 : Value), ∃ (b1 : Nat), Sat c ⟨[(0, some (vids1)), (1, some (vl1)), (9, some (v1)), (10, some (vI i2)), (60, bif L 0 then some (vl1) else none), (61, bif L 1 then some (vI i2) else none), (62, bif L 2 then some (p5) else none), (63, bif L 3 then some (p6) else none), (64, bif L 4 then some (vU64 s1.At) else none), (65, bif L 5 then some (vl1) else none), (66, bif L 6 then some (vI i2) else none), (67, bif L 7 then some (p7) else none), (68, bif L 8 then some (p8) else none), (69, bif L 9 then some (vU32 s2.Len) else none), (70, bif L 10 then some (.agg #[vU64 s1.At, vU32 s2.Len, vU16 (0 : UInt16), vU16 (0 : UInt16)]) else none), (11, bif L 11 then some (.pointer (some ⟨b1, 0, none⟩)) else none)], [(some (rowS PutS v1 out1) : Option Res), (bif L 11 then some (cellsR b1 38 [vU64 (0 : UInt64), vU32 (0 : UInt32), vU16 (0 : UInt16), vU16 (0 : UInt16)]) else none : Option Res)], [Fact.sl iS vids1 ids, Fact.sl SegS vl1 l, (bif L 2 then Fact.pt SegS p5 s1 else Fact.tt), (bif L 3 then Fact.pt u64S p6 s1.At else Fact.tt), (bif L 7 then Fact.pt SegS p7 s2 else Fact.tt), (bif L 8 then Fact.pt u32S p8 s2.Len else Fact.tt)]⟩ a w) [([], [2, 3, 4, 10]), ([], [2, 3, 4, 10]), ([0, 1], [3, 4, 10]), ([0, 1, 2], [4, 10]), ([0, 1, 2, 3], [10]), ([], [7, 8, 9, 10]), ([], [7, 8, 9, 10]), ([5, 6], [8, 9, 10]), ([5, 6, 7], [9, 10]), ([5, 6, 7, 8], [10]), ([0, 1, 2, 3, 4, 5, 6, 7, 8, 9], []), ([], [])] rfl (by kernel_rfl) ?_ (steps_cons ?_ (steps_cons ?_ (steps_cons ?_ (steps_cons ?_ (steps_cons ?_ (steps_cons ?_ (steps_cons ?_ (steps_cons ?_ (steps_cons ?_ (steps_cons ?_ (steps_cons ?_ (steps_cons ?_ (steps_nil))))))))))))) ?_
     ·intro a w hs
      exact ⟨undef, undef, undef, undef, 0, hs.startF [60, 61, 62, 63, 64, 65, 66, 67, 68, 69, 70, 11] [0, 1] [0, 1, 2, 3, 4, 5] rfl rfl rfl rfl⟩
     ·intro L a w hv K Q hK
      obtain ⟨p5, p6, p7, p8, b1, hs⟩ := hv
      refine wpOp_go rfl rfl hs (OpT_move rfl rfl rfl rfl) ?_
      rintro _ rfl a' w' hs'
      exact hK a' w' ⟨p5, p6, p7, p8, b1, hs'.putF (i := 4) rfl [0, 1] [0, 1, 2, 3, 4, 5] rfl rfl rfl rfl⟩
     ·intro L a w hv K Q hK
      obtain ⟨p5, p6, p7, p8, b1, hs⟩ := hv
      refine wpOp_go rfl rfl hs (OpT_move rfl rfl rfl rfl) ?_
      rintro _ rfl a' w' hs'
      exact hK a' w' ⟨p5, p6, p7, p8, b1, hs'.putF (i := 5) rfl [0, 1] [0, 1, 2, 3, 4, 5] rfl rfl rfl rfl⟩
     ·intro L a w hv K Q hK
      obtain ⟨p5, p6, p7, p8, b1, hs⟩ := hv
      refine wpOp_go rfl rfl hs (OpT_idxS rfl rfl rfl rfl rfl slF27 (i := 1) rfl hx6) ?_
      rintro _ ⟨p5', rfl⟩ a' w' hs'
      exact hK a' w' ⟨p5', p6, p7, p8, b1, hs'.putF (i := 6) rfl [0, 1] [0, 1, 6, 3, 4, 5] rfl rfl rfl rfl⟩
     ·intro L a w hv K Q hK
      obtain ⟨p5, p6, p7, p8, b1, hs⟩ := hv
      refine wpOp_go rfl rfl hs (OpT_fieldP (S' := u64S) (y := s1.At) rfl rfl rfl rfl fldF59x0 (i := 2) rfl (by intro h cs hr; subst hr; rfl)) ?_
      rintro _ ⟨p6', rfl⟩ a' w' hs'
      exact hK a' w' ⟨p5, p6', p7, p8, b1, hs'.putF (i := 7) rfl [0, 1] [0, 1, 2, 6, 4, 5] rfl rfl rfl rfl⟩
     ·intro L a w hv K Q hK
      obtain ⟨p5, p6, p7, p8, b1, hs⟩ := hv
      refine wpOp_go rfl rfl hs (OpT_loadP rfl rfl rfl rfl tyF34 (i := 3) rfl rfl) ?_
      rintro _ rfl a' w' hs'
      exact hK a' w' ⟨p5, p6, p7, p8, b1, hs'.putF (i := 8) rfl [0, 1] [0, 1, 2, 3, 4, 5] rfl rfl rfl rfl⟩
     ·intro L a w hv K Q hK
      obtain ⟨p5, p6, p7, p8, b1, hs⟩ := hv
      refine wpOp_go rfl rfl hs (OpT_move rfl rfl rfl rfl) ?_
      rintro _ rfl a' w' hs'
      exact hK a' w' ⟨p5, p6, p7, p8, b1, hs'.putF (i := 9) rfl [0, 1] [0, 1, 2, 3, 4, 5] rfl rfl rfl rfl⟩
     ·intro L a w hv K Q hK
      obtain ⟨p5, p6, p7, p8, b1, hs⟩ := hv
      refine wpOp_go rfl rfl hs (OpT_move rfl rfl rfl rfl) ?_
      rintro _ rfl a' w' hs'
      exact hK a' w' ⟨p5, p6, p7, p8, b1, hs'.putF (i := 10) rfl [0, 1] [0, 1, 2, 3, 4, 5] rfl rfl rfl rfl⟩
     ·intro L a w hv K Q hK
      obtain ⟨p5, p6, p7, p8, b1, hs⟩ := hv
      refine wpOp_go rfl rfl hs (OpT_idxS rfl rfl rfl rfl rfl slF27 (i := 1) rfl hx7) ?_
      rintro _ ⟨p7', rfl⟩ a' w' hs'
      exact hK a' w' ⟨p5, p6, p7', p8, b1, hs'.putF (i := 11) rfl [0, 1] [0, 1, 2, 3, 6, 5] rfl rfl rfl rfl⟩
     ·intro L a w hv K Q hK
      obtain ⟨p5, p6, p7, p8, b1, hs⟩ := hv
      refine wpOp_go rfl rfl hs (OpT_fieldP (S' := u32S) (y := s2.Len) rfl rfl rfl rfl fldF59x1 (i := 4) rfl (by intro h cs hr; subst hr; rfl)) ?_
      rintro _ ⟨p8', rfl⟩ a' w' hs'
      exact hK a' w' ⟨p5, p6, p7, p8', b1, hs'.putF (i := 12) rfl [0, 1] [0, 1, 2, 3, 4, 6] rfl rfl rfl rfl⟩
     ·intro L a w hv K Q hK
      obtain ⟨p5, p6, p7, p8, b1, hs⟩ := hv
      refine wpOp_go rfl rfl hs (OpT_loadP rfl rfl rfl rfl tyF35 (i := 5) rfl rfl) ?_
      rintro _ rfl a' w' hs'
      exact hK a' w' ⟨p5, p6, p7, p8, b1, hs'.putF (i := 13) rfl [0, 1] [0, 1, 2, 3, 4, 5] rfl rfl rfl rfl⟩
     ·intro L a w hv K Q hK
      obtain ⟨p5, p6, p7, p8, b1, hs⟩ := hv
      refine wpOp_go rfl rfl hs (OpT_build (v := .agg #[vU64 s1.At, vU32 s2.Len, vU16 (0 : UInt16), vU16 (0 : UInt16)]) rfl rfl rfl rfl (bldV (by kernel_rfl))) ?_
      rintro _ rfl a' w' hs'
      exact hK a' w' ⟨p5, p6, p7, p8, b1, hs'.putF (i := 14) rfl [0, 1] [0, 1, 2, 3, 4, 5] rfl rfl rfl rfl⟩
     ·intro L a w hv K Q hK
      obtain ⟨p5, p6, p7, p8, b1, hs⟩ := hv
      refine wpOp_go rfl rfl hs (OpT_alloc rfl rfl rfl tyZ38) ?_
      rintro _ ⟨b1', rfl⟩ a' w' hs'
      exact hK a' w' ⟨p5, p6, p7, p8, b1', hs'.putF (i := 15) rfl [0, 2] [0, 1, 2, 3, 4, 5] rfl rfl rfl rfl⟩
     ·intro L a w hL hv
      rw [allTrue hL] at hv
      obtain ⟨p5, p6, p7, p8, b1, hs⟩ := hv
      refine (show TA _ _ _ 12 ⟨[(0, some (vids1)), (1, some (vl1)), (9, some (v1)), (10, some (vI i2)), (70, some (.agg #[vU64 s1.At, vU32 s2.Len, vU16 (0 : UInt16), vU16 (0 : UInt16)])), (11, some (.pointer (some ⟨b1, 0, none⟩)))], [some (rowS PutS v1 out1), some (cellsR b1 38 [vU64 (0 : UInt64), vU32 (0 : UInt32), vU16 (0 : UInt16), vU16 (0 : UInt16)])], [Fact.sl iS vids1 ids, Fact.sl SegS vl1 l]⟩ from ?_) a w (hs.wkS [0, 1, 9, 10, 70, 11] [0, 1] [0, 1] rfl rfl rfl rfl)
      clear hs hL
      refine TA_step htb (by kernel_rfl) rfl rfl (OpT_storeC (cs' := [vU64 s1.At, vU32 s2.Len, vU16 (0 : UInt16), vU16 (0 : UInt16)]) rfl rfl rfl rfl tyF38 (i := 1) rfl rfl rfl (one_of rfl) rfl) ?_
      refine TA_end rfl ?_
      refine Tk_wkS (fr' := [(0, some (vids1)), (1, some (vl1)), (9, some (v1)), (10, some (vI i2)), (11, some (.pointer (some ⟨b1, 0, none⟩)))]) (own' := [some (rowS PutS v1 out1), some (cellsR b1 38 [vU64 s1.At, vU32 s2.Len, vU16 (0 : UInt16), vU16 (0 : UInt16)])]) (shr' := [Fact.sl iS vids1 ids, Fact.sl SegS vl1 l]) [0, 1, 9, 10, 11] [0, 1] [0, 1] rfl rfl rfl rfl ?_
      refine Tk_seq (Tk_seq (Tk_region (Tops_step rfl (OpT_move rfl rfl rfl rfl) ?_)))
      refine Tops_step rfl (OpT_move rfl rfl rfl rfl) ?_
      obtain ⟨s3, hx8, h⟩ := ob_e h
      refine Tops_ex rfl (OpT_idxS rfl rfl rfl rfl rfl slF27 (i := 1) rfl hx8) fun p9 => ?_
      refine Tops_ex rfl (OpT_fieldP (S' := bS) (y := s3.Write) rfl rfl rfl rfl fldF59x2 (i := 2) rfl (by intro h cs hr; subst hr; rfl)) fun p10 => ?_
      refine Tops_step rfl (OpT_loadP rfl rfl rfl rfl tyF4 (i := 3) rfl rfl) ?_
      refine Tops_nil (Tk_wkS (fr' := [(0, some (vids1)), (1, some (vl1)), (9, some (v1)), (10, some (vI i2)), (11, some (.pointer (some ⟨b1, 0, none⟩))), (75, some (vB s3.Write))]) (own' := [some (rowS PutS v1 out1), some (cellsR b1 38 [vU64 s1.At, vU32 s2.Len, vU16 (0 : UInt16), vU16 (0 : UInt16)])]) (shr' := [Fact.sl iS vids1 ids, Fact.sl SegS vl1 l]) [0, 1, 9, 10, 11, 75] [0, 1] [0, 1] rfl rfl rfl rfl ?_)
      refine Tk_join (α := (List Put) × Desc × Value) (fun s => ⟨[(0, some (vids1)), (1, some (vl1)), (9, some (s.2.2)), (10, some (vI i2)), (11, some (.pointer (some ⟨b1, 0, none⟩)))], [some (rowS PutS s.2.2 s.1), some (cellsR b1 38 [vU64 s.2.1.Addr, vU32 s.2.1.Len, vU16 s.2.1.Flags, vU16 s.2.1.Next])], [Fact.sl iS vids1 ids, Fact.sl SegS vl1 l]⟩) (fun s => ref_Split09J4 ids l i2 (ref_Split09L3 ids l nf3) s.1 s.2.1 = some r) ?_ ?_
      ·rintro ⟨l1, m1, v2⟩ h
       replace h : ref_Split09J4 ids l i2 (ref_Split09L3 ids l nf3) l1 m1 = some r := h
       unfold ref_Split09J4 at h
       refine Tk_seq (Tk_seq (Tk_region (Tops_step rfl (OpT_move rfl rfl rfl rfl) ?_)))
       refine Tops_step rfl (OpT_bin rfl rfl rfl rfl rfl (bin_add_i (a := i2) (b := (1 : Int)))) ?_
       refine Tops_step rfl (OpT_move rfl rfl rfl rfl) ?_
       refine Tops_step rfl (OpT_lenS rfl rfl rfl rfl Try.underlying27 (i := 1) rfl) ?_
       refine Tops_step rfl (OpT_bin rfl rfl rfl rfl rfl (bin_lss_i (a := wi (i2 + (1 : Int))) (b := len l))) ?_
       refine Tops_nil (Tk_wkS (fr' := [(0, some (vids1)), (1, some (vl1)), (9, some (v2)), (10, some (vI i2)), (11, some (.pointer (some ⟨b1, 0, none⟩))), (81, some (vB (decide ((wi (i2 + (1 : Int))) < (len l)))))]) (own' := [some (rowS PutS v2 l1), some (cellsR b1 38 [vU64 m1.Addr, vU32 m1.Len, vU16 m1.Flags, vU16 m1.Next])]) (shr' := [Fact.sl iS vids1 ids, Fact.sl SegS vl1 l]) [0, 1, 9, 10, 11, 81] [0, 1] [0, 1] rfl rfl rfl rfl ?_)
       refine Tk_join (α := (List Put) × Desc × Value) (fun s => ⟨[(0, some (vids1)), (1, some (vl1)), (9, some (s.2.2)), (10, some (vI i2)), (11, some (.pointer (some ⟨b1, 0, none⟩)))], [some (rowS PutS s.2.2 s.1), some (cellsR b1 38 [vU64 s.2.1.Addr, vU32 s.2.1.Len, vU16 s.2.1.Flags, vU16 s.2.1.Next])], [Fact.sl iS vids1 ids, Fact.sl SegS vl1 l]⟩) (fun s => ref_Split09J5 ids i2 (ref_Split09L3 ids l nf3) s.1 s.2.1 = some r) ?_ ?_
       ·rintro ⟨l2, m2, v3⟩ h
        replace h : ref_Split09J5 ids i2 (ref_Split09L3 ids l nf3) l2 m2 = some r := h
        unfold ref_Split09J5 at h
        refine Tk_drawT (by kernel_rfl) ?_
        refine TA_tb [0, 0, 0, 6, 14, 0, 62, 126, 255, 511] (by kernel_rfl) fun htb => ?_
        obtain ⟨y5, hx9, h⟩ := ob_e h
        refine TA_seg (lo := 0) (hi := 8) htb rfl rfl (by kernel_rfl) (fun c L a w => ∃ (p11 : Value), ∃ (v4 : Value), Sat c ⟨[(0, some (vids1)), (1, some (vl1)), (9, some (v3)), (10, some (vI i2)), (11, some (.pointer (some ⟨b1, 0, none⟩))), (93, bif L 0 then some (v3) else none), (94, bif L 1 then some (vids1) else none), (95, bif L 2 then some (vI i2) else none), (96, bif L 3 then some (p11) else none), (97, bif L 4 then some (vI y5) else none), (98, bif L 5 then some (.agg #[vU64 m2.Addr, vU32 m2.Len, vU16 m2.Flags, vU16 m2.Next]) else none), (99, bif L 6 then some (.agg #[vI y5, vU64 m2.Addr, vU32 m2.Len, vU16 m2.Flags, vU16 m2.Next]) else none), (100, bif L 7 then some (v4) else none)], [(some (rowS PutS v3 l2) : Option Res), (some (cellsR b1 38 [vU64 m2.Addr, vU32 m2.Len, vU16 m2.Flags, vU16 m2.Next]) : Option Res), (bif L 7 then some (rowS PutS v4 [(Put.mk y5 m2)]) else none : Option Res)], [Fact.sl iS vids1 ids, Fact.sl SegS vl1 l, (bif L 3 then Fact.pt iS p11 y5 else Fact.tt)]⟩ a w) [([], []), ([], [3, 4, 6, 7]), ([], [3, 4, 6, 7]), ([1, 2], [4, 6, 7]), ([1, 2, 3], [6, 7]), ([], [6, 7]), ([1, 2, 3, 4, 5], [7]), ([1, 2, 3, 4, 5, 6], [])] rfl (by kernel_rfl) ?_ (steps_cons ?_ (steps_cons ?_ (steps_cons ?_ (steps_cons ?_ (steps_cons ?_ (steps_cons ?_ (steps_cons ?_ (steps_cons ?_ (steps_nil))))))))) ?_
        ·intro a w hs
         exact ⟨undef, undef, hs.startF [93, 94, 95, 96, 97, 98, 99, 100] [0, 1, 2] [0, 1, 2] rfl rfl rfl rfl⟩
        ·intro L a w hv K Q hK
         obtain ⟨p11, v4, hs⟩ := hv
         refine wpOp_go rfl rfl hs (OpT_move rfl rfl rfl rfl) ?_
         rintro _ rfl a' w' hs'
         exact hK a' w' ⟨p11, v4, hs'.putF (i := 5) rfl [0, 1, 2] [0, 1, 2] rfl rfl rfl rfl⟩
        ·intro L a w hv K Q hK
         obtain ⟨p11, v4, hs⟩ := hv
         refine wpOp_go rfl rfl hs (OpT_move rfl rfl rfl rfl) ?_
         rintro _ rfl a' w' hs'
         exact hK a' w' ⟨p11, v4, hs'.putF (i := 6) rfl [0, 1, 2] [0, 1, 2] rfl rfl rfl rfl⟩
        ·intro L a w hv K Q hK
         obtain ⟨p11, v4, hs⟩ := hv
         refine wpOp_go rfl rfl hs (OpT_move rfl rfl rfl rfl) ?_
         rintro _ rfl a' w' hs'
         exact hK a' w' ⟨p11, v4, hs'.putF (i := 7) rfl [0, 1, 2] [0, 1, 2] rfl rfl rfl rfl⟩
        ·intro L a w hv K Q hK
         obtain ⟨p11, v4, hs⟩ := hv
         refine wpOp_go rfl rfl hs (OpT_idxS rfl rfl rfl rfl rfl slF26 (i := 0) rfl hx9) ?_
         rintro _ ⟨p11', rfl⟩ a' w' hs'
         exact hK a' w' ⟨p11', v4, hs'.putF (i := 8) rfl [0, 1, 2] [0, 1, 3] rfl rfl rfl rfl⟩
        ·intro L a w hv K Q hK
         obtain ⟨p11, v4, hs⟩ := hv
         refine wpOp_go rfl rfl hs (OpT_loadP rfl rfl rfl rfl tyF3 (i := 2) rfl rfl) ?_
         rintro _ rfl a' w' hs'
         exact hK a' w' ⟨p11, v4, hs'.putF (i := 9) rfl [0, 1, 2] [0, 1, 2] rfl rfl rfl rfl⟩
        ·intro L a w hv K Q hK
         obtain ⟨p11, v4, hs⟩ := hv
         refine wpOp_go rfl rfl hs (OpT_loadCA (vs := [vU64 m2.Addr, vU32 m2.Len, vU16 m2.Flags, vU16 m2.Next]) rfl rfl rfl rfl tyF38 (i := 1) rfl rfl rfl) ?_
         rintro _ rfl a' w' hs'
         exact hK a' w' ⟨p11, v4, hs'.putF (i := 10) rfl [0, 1, 2] [0, 1, 2] rfl rfl rfl rfl⟩
        ·intro L a w hv K Q hK
         obtain ⟨p11, v4, hs⟩ := hv
         refine wpOp_go rfl rfl hs (OpT_build (v := .agg #[vI y5, vU64 m2.Addr, vU32 m2.Len, vU16 m2.Flags, vU16 m2.Next]) rfl rfl rfl rfl (bldV (by kernel_rfl))) ?_
         rintro _ rfl a' w' hs'
         exact hK a' w' ⟨p11, v4, hs'.putF (i := 11) rfl [0, 1, 2] [0, 1, 2] rfl rfl rfl rfl⟩
        ·intro L a w hv K Q hK
         obtain ⟨p11, v4, hs⟩ := hv
         refine wpOp_go rfl rfl hs (OpT_buildSlice (S := PutS) (xs := [(Put.mk y5 m2)]) (css := [[vI y5, vU64 m2.Addr, vU32 m2.Len, vU16 m2.Flags, vU16 m2.Next]]) (cs := [vI y5, vU64 m2.Addr, vU32 m2.Len, vU16 m2.Flags, vU16 m2.Next]) (e := 40) rfl rfl rfl rfl (bldF slF22 (by decide) (by kernel_rfl)) rfl rfl rfl rfl (rel_plainD (S := PutS) (xs := [(Put.mk y5 m2)]) (css := [[vI y5, vU64 m2.Addr, vU32 m2.Len, vU16 m2.Flags, vU16 m2.Next]]) rfl rfl)) ?_
         rintro _ ⟨v4', rfl⟩ a' w' hs'
         exact hK a' w' ⟨p11, v4', hs'.putF (i := 12) rfl [0, 1, 3] [0, 1, 2] rfl rfl rfl rfl⟩
        ·intro L a w hL hv
         rw [allTrue hL] at hv
         obtain ⟨p11, v4, hs⟩ := hv
         refine (show TA _ _ _ 8 ⟨[(0, some (vids1)), (1, some (vl1)), (10, some (vI i2)), (93, some (v3)), (100, some (v4))], [some (rowS PutS v3 l2), some (rowS PutS v4 [(Put.mk y5 m2)])], [Fact.sl iS vids1 ids, Fact.sl SegS vl1 l]⟩ from ?_) a w (hs.wkS [0, 1, 10, 93, 100] [0, 2] [0, 1] rfl rfl rfl rfl)
         clear hs hL
         obtain ⟨hc1, h⟩ := chk_e h
         refine TA_ex htb (by kernel_rfl) rfl rfl (OpT_appendB (S := PutS) rfl rfl rfl rfl rfl rfl slF22 (i := 0) (j := 1) rfl rfl hc1) fun v5 => ?_
         refine TA_step htb (by kernel_rfl) rfl rfl (OpT_assign rfl rfl rfl rfl) ?_
         refine TA_end rfl ?_
         refine Tk_wkS (fr' := [(0, some (vids1)), (1, some (vl1)), (10, some (vI i2)), (9, some (v5))]) (own' := [some (rowS PutS v5 (l2 ++ [(Put.mk y5 m2)]))]) (shr' := [Fact.sl iS vids1 ids, Fact.sl SegS vl1 l]) [0, 1, 10, 9] [0] [0, 1] rfl rfl rfl rfl ?_
         refine Tk_blk (Tk_region (Tops_step rfl (OpT_move rfl rfl rfl rfl) ?_))
         refine Tops_step rfl (OpT_bin rfl rfl rfl rfl rfl (bin_add_i (a := i2) (b := (1 : Int)))) ?_
         refine Tops_step rfl (OpT_assign rfl rfl rfl rfl) ?_
         refine Tops_nil (Tk_wkS (fr' := [(0, some (vids1)), (1, some (vl1)), (10, some (vI (wi (i2 + (1 : Int))))), (9, some (v5))]) (own' := [some (rowS PutS v5 (l2 ++ [(Put.mk y5 m2)]))]) (shr' := [Fact.sl iS vids1 ids, Fact.sl SegS vl1 l]) [0, 1, 10, 9] [0] [0, 1] rfl rfl rfl rfl ?_)
         exact Tk_backS (l2 ++ [(Put.mk y5 m2)], wi (i2 + (1 : Int)), v5) h [0, 1, 9, 10] [0] [0, 1] rfl rfl rfl rfl rfl
       ·intro HJ1
        rcases Bool.eq_false_or_eq_true (decide ((wi (i2 + (1 : Int))) < (len l))) with hg9 | hg9
        ·replace h := br_t hg9 h
         refine Tk_condT (congrArg (fun b => some (Value.bool b)) hg9) ?_
         refine Tk_drawT (by kernel_rfl) ?_
         refine TA_tb [0, 1, 3, 0, 0, 16, 56, 120, 248, 7, 519, 2047, 4095] (by kernel_rfl) fun htb => ?_
         refine TA_wkS (fr' := [(0, some (vids1)), (1, some (vl1)), (9, some (v2)), (10, some (vI i2)), (11, some (.pointer (some ⟨b1, 0, none⟩)))]) (own' := [some (rowS PutS v2 l1), some (cellsR b1 38 [vU64 m1.Addr, vU32 m1.Len, vU16 m1.Flags, vU16 m1.Next])]) (shr' := [Fact.sl iS vids1 ids, Fact.sl SegS vl1 l]) [0, 1, 9, 10, 11] [0, 1] [0, 1] rfl rfl rfl rfl ?_
         obtain ⟨y6, hx10, h⟩ := ob_e h
         refine TA_seg (lo := 0) (hi := 11) htb rfl rfl (by kernel_rfl) (fun c L a w => ∃ (p12 : Value), Sat c ⟨[(0, some (vids1)), (1, some (vl1)), (9, some (v2)), (10, some (vI i2)), (11, some (.pointer (some ⟨b1, 0, none⟩))), (82, bif L 0 then some (.pointer (some ⟨b1, 2, none⟩)) else none), (83, bif L 1 then some (vU16 m1.Flags) else none), (84, bif L 2 then some (vU16 (m1.Flags ||| (1 : UInt16))) else none), (85, bif L 3 then some (vids1) else none), (86, bif L 4 then some (vI i2) else none), (87, bif L 5 then some (vI (wi (i2 + (1 : Int)))) else none), (88, bif L 6 then some (p12) else none), (89, bif L 7 then some (vI y6) else none), (90, bif L 8 then some (vU16 (u16 y6)) else none), (91, bif L 9 then some (.pointer (some ⟨b1, 2, none⟩)) else none)], [(some (rowS PutS v2 l1) : Option Res), (bif L 10 then some (cellsR b1 38 [vU64 m1.Addr, vU32 m1.Len, vU16 (m1.Flags ||| (1 : UInt16)), vU16 m1.Next]) else some (cellsR b1 38 [vU64 m1.Addr, vU32 m1.Len, vU16 m1.Flags, vU16 m1.Next]) : Option Res)], [Fact.sl iS vids1 ids, Fact.sl SegS vl1 l, (bif L 6 then Fact.pt iS p12 y6 else Fact.tt)]⟩ a w) [([], [1, 2, 9, 10]), ([0], [2, 9, 10]), ([0, 1], [9, 10]), ([], [6, 7, 8]), ([], [5, 6, 7, 8]), ([4], [6, 7, 8]), ([3, 4, 5], [7, 8]), ([3, 4, 5, 6], [8]), ([3, 4, 5, 6, 7], []), ([0, 1, 2], [10]), ([0, 1, 2, 9], [])] rfl (by kernel_rfl) ?_ (steps_cons ?_ (steps_cons ?_ (steps_cons ?_ (steps_cons ?_ (steps_cons ?_ (steps_cons ?_ (steps_cons ?_ (steps_cons ?_ (steps_cons ?_ (steps_cons ?_ (steps_cons ?_ (steps_nil)))))))))))) ?_
         ·intro a w hs
          exact ⟨undef, hs.startF [82, 83, 84, 85, 86, 87, 88, 89, 90, 91] [0, 1] [0, 1, 2] rfl rfl rfl rfl⟩
         ·intro L a w hv K Q hK
          obtain ⟨p12, hs⟩ := hv
          refine wpOp_go rfl rfl hs (OpT_fieldC rfl rfl rfl rfl fldF38x2) ?_
          rintro _ rfl a' w' hs'
          exact hK a' w' ⟨p12, hs'.putF (i := 5) rfl [0, 1] [0, 1, 2] rfl rfl rfl rfl⟩
         ·intro L a w hv K Q hK
          obtain ⟨p12, hs⟩ := hv
          refine wpOp_go rfl rfl hs (OpT_loadC rfl rfl rfl rfl tyF36 (i := 1) rfl rfl) ?_
          rintro _ rfl a' w' hs'
          exact hK a' w' ⟨p12, hs'.putF (i := 6) rfl [0, 1] [0, 1, 2] rfl rfl rfl rfl⟩
         ·intro L a w hv K Q hK
          obtain ⟨p12, hs⟩ := hv
          refine wpOp_go rfl rfl hs (OpT_bin rfl rfl rfl rfl rfl (bin_or_u16 (a := m1.Flags) (b := (1 : UInt16)))) ?_
          rintro _ rfl a' w' hs'
          exact hK a' w' ⟨p12, hs'.putF (i := 7) rfl [0, 1] [0, 1, 2] rfl rfl rfl rfl⟩
         ·intro L a w hv K Q hK
          obtain ⟨p12, hs⟩ := hv
          refine wpOp_go rfl rfl hs (OpT_move rfl rfl rfl rfl) ?_
          rintro _ rfl a' w' hs'
          exact hK a' w' ⟨p12, hs'.putF (i := 8) rfl [0, 1] [0, 1, 2] rfl rfl rfl rfl⟩
         ·intro L a w hv K Q hK
          obtain ⟨p12, hs⟩ := hv
          refine wpOp_go rfl rfl hs (OpT_move rfl rfl rfl rfl) ?_
          rintro _ rfl a' w' hs'
          exact hK a' w' ⟨p12, hs'.putF (i := 9) rfl [0, 1] [0, 1, 2] rfl rfl rfl rfl⟩
         ·intro L a w hv K Q hK
          obtain ⟨p12, hs⟩ := hv
          refine wpOp_go rfl rfl hs (OpT_bin rfl rfl rfl rfl rfl (bin_add_i (a := i2) (b := (1 : Int)))) ?_
          rintro _ rfl a' w' hs'
          exact hK a' w' ⟨p12, hs'.putF (i := 10) rfl [0, 1] [0, 1, 2] rfl rfl rfl rfl⟩
         ·intro L a w hv K Q hK
          obtain ⟨p12, hs⟩ := hv
          refine wpOp_go rfl rfl hs (OpT_idxS rfl rfl rfl rfl rfl slF26 (i := 0) rfl hx10) ?_
          rintro _ ⟨p12', rfl⟩ a' w' hs'
          exact hK a' w' ⟨p12', hs'.putF (i := 11) rfl [0, 1] [0, 1, 3] rfl rfl rfl rfl⟩
         ·intro L a w hv K Q hK
          obtain ⟨p12, hs⟩ := hv
          refine wpOp_go rfl rfl hs (OpT_loadP rfl rfl rfl rfl tyF3 (i := 2) rfl rfl) ?_
          rintro _ rfl a' w' hs'
          exact hK a' w' ⟨p12, hs'.putF (i := 12) rfl [0, 1] [0, 1, 2] rfl rfl rfl rfl⟩
         ·intro L a w hv K Q hK
          obtain ⟨p12, hs⟩ := hv
          refine wpOp_go rfl rfl hs (OpT_cnv rfl rfl rfl rfl (cnv_i_u16 (n := y6) Try.underlying3 Try.underlying36)) ?_
          rintro _ rfl a' w' hs'
          exact hK a' w' ⟨p12, hs'.putF (i := 13) rfl [0, 1] [0, 1, 2] rfl rfl rfl rfl⟩
         ·intro L a w hv K Q hK
          obtain ⟨p12, hs⟩ := hv
          refine wpOp_go rfl rfl hs (OpT_fieldC rfl rfl rfl rfl fldF38x2) ?_
          rintro _ rfl a' w' hs'
          exact hK a' w' ⟨p12, hs'.putF (i := 14) rfl [0, 1] [0, 1, 2] rfl rfl rfl rfl⟩
         ·intro L a w hv K Q hK
          obtain ⟨p12, hs⟩ := hv
          refine wpOp_go rfl rfl hs (OpT_storeC (cs' := [vU64 m1.Addr, vU32 m1.Len, vU16 (m1.Flags ||| (1 : UInt16)), vU16 m1.Next]) rfl rfl rfl rfl tyF36 (i := 1) rfl rfl rfl (one_of rfl) rfl) ?_
          rintro _ rfl a' w' hs'
          exact hK a' w' ⟨p12, hs'.sameF [0, 1] [0, 1, 2] rfl rfl rfl rfl⟩
         ·intro L a w hL hv
          rw [allTrue hL] at hv
          obtain ⟨p12, hs⟩ := hv
          refine (show TA _ _ _ 11 ⟨[(0, some (vids1)), (1, some (vl1)), (9, some (v2)), (10, some (vI i2)), (11, some (.pointer (some ⟨b1, 0, none⟩))), (90, some (vU16 (u16 y6)))], [some (rowS PutS v2 l1), some (cellsR b1 38 [vU64 m1.Addr, vU32 m1.Len, vU16 (m1.Flags ||| (1 : UInt16)), vU16 m1.Next])], [Fact.sl iS vids1 ids, Fact.sl SegS vl1 l]⟩ from ?_) a w (hs.wkS [0, 1, 9, 10, 11, 90] [0, 1] [0, 1] rfl rfl rfl rfl)
          clear hs hL
          refine TA_step htb (by kernel_rfl) rfl rfl (OpT_fieldC rfl rfl rfl rfl fldF38x3) ?_
          refine TA_step htb (by kernel_rfl) rfl rfl (OpT_storeC (cs' := [vU64 m1.Addr, vU32 m1.Len, vU16 (m1.Flags ||| (1 : UInt16)), vU16 (u16 y6)]) rfl rfl rfl rfl tyF36 (i := 1) rfl rfl rfl (one_of rfl) rfl) ?_
          refine TA_end rfl ?_
          refine Tk_wkS (fr' := [(0, some (vids1)), (1, some (vl1)), (9, some (v2)), (10, some (vI i2)), (11, some (.pointer (some ⟨b1, 0, none⟩)))]) (own' := [some (rowS PutS v2 l1), some (cellsR b1 38 [vU64 m1.Addr, vU32 m1.Len, vU16 (m1.Flags ||| (1 : UInt16)), vU16 (u16 y6)])]) (shr' := [Fact.sl iS vids1 ids, Fact.sl SegS vl1 l]) [0, 1, 9, 10, 11] [0, 1] [0, 1] rfl rfl rfl rfl ?_
          exact Tk_jmpS (HJ1 (l1, (Desc.mk m1.Addr m1.Len (m1.Flags ||| (1 : UInt16)) (u16 y6)), v2) h) [0, 1, 9, 10, 11] [0, 1] [0, 1] rfl rfl rfl rfl
        ·replace h := br_f hg9 h
         refine Tk_condF (congrArg (fun b => some (Value.bool b)) hg9) ?_
         refine Tk_skip ?_
         exact Tk_jmpS (HJ1 (l1, m1, v2) h) [0, 1, 9, 10, 11] [0, 1] [0, 1] rfl rfl rfl rfl
      ·intro HJ2
       rcases Bool.eq_false_or_eq_true (s3.Write) with hg10 | hg10
       ·replace h := br_t hg10 h
        refine Tk_condT (congrArg (fun b => some (Value.bool b)) hg10) ?_
        refine Tk_region (Tops_step rfl (OpT_fieldC rfl rfl rfl rfl fldF38x2) ?_)
        refine Tops_step rfl (OpT_storeC (cs' := [vU64 s1.At, vU32 s2.Len, vU16 (2 : UInt16), vU16 (0 : UInt16)]) rfl rfl rfl rfl tyF36 (i := 1) rfl rfl rfl (one_of rfl) rfl) ?_
        refine Tops_nil (Tk_wkS (fr' := [(0, some (vids1)), (1, some (vl1)), (9, some (v1)), (10, some (vI i2)), (11, some (.pointer (some ⟨b1, 0, none⟩)))]) (own' := [some (rowS PutS v1 out1), some (cellsR b1 38 [vU64 s1.At, vU32 s2.Len, vU16 (2 : UInt16), vU16 (0 : UInt16)])]) (shr' := [Fact.sl iS vids1 ids, Fact.sl SegS vl1 l]) [0, 1, 9, 10, 11] [0, 1] [0, 1] rfl rfl rfl rfl ?_)
        exact Tk_jmpS (HJ2 (out1, (Desc.mk s1.At s2.Len (2 : UInt16) (0 : UInt16)), v1) h) [0, 1, 9, 10, 11] [0, 1] [0, 1] rfl rfl rfl rfl
       ·replace h := br_f hg10 h
        refine Tk_condF (congrArg (fun b => some (Value.bool b)) hg10) ?_
        refine Tk_skip ?_
        exact Tk_jmpS (HJ2 (out1, (Desc.mk s1.At s2.Len (0 : UInt16) (0 : UInt16)), v1) h) [0, 1, 9, 10, 11] [0, 1] [0, 1] rfl rfl rfl rfl
    ·replace h := br_f hg8 h
     refine Tk_condF (congrArg (fun b => some (Value.bool b)) hg8) ?_
     refine Tk_exit _ rfl ?_
     refine Tk_seq (Tk_region (Tops_step rfl (OpT_move rfl rfl rfl rfl) ?_))
     refine Tops_step rfl (OpT_assign rfl rfl rfl rfl) ?_
     refine Tops_step rfl (OpT_assign rfl rfl rfl rfl) ?_
     refine Tops_nil (Tk_wkS (fr' := [(4, some (v1)), (5, some (vI (0 : Int)))]) (own' := [some (rowS PutS v1 out1)]) (shr' := []) [4, 5] [0] [] rfl rfl rfl rfl ?_)
     obtain rfl := Option.some.inj h
     exact Tk_retV rfl rfl (resA (vs := [v1, vI (0 : Int)]) rfl ⟨rfl, rfl, trivial⟩) [0] [] rfl rfl rfl ⟨v1, rfl, rfl, rfl⟩

set_option maxRecDepth 100000 in
set_option maxHeartbeats 4000000 in
theorem w_ref_size01 {np0 : Int} {r : Bool} (h : ref_size01 np0 = some r) :
  Ctr Try.prog 63 #[vI np0] [] []
   (fun rv own shr => rv = vB r ∧ own = [] ∧ shr = []) := by
 unfold ref_size01 at h
 refine Ctr.mk (args := [vI np0]) Try.func63 rfl rfl (fun R0 w0 B => ?_)
 refine Tk_seq (Tk_region (Tops_step rfl (OpT_assign rfl rfl rfl rfl) ?_))
 refine Tops_nil (Tk_wkS (fr' := [(0, some (vI np0))]) (own' := []) (shr' := []) [0] [] [] rfl rfl rfl rfl ?_)
 refine Tk_seq (Tk_region (Tops_step rfl (OpT_move rfl rfl rfl rfl) ?_))
 refine Tops_step rfl (OpT_bin rfl rfl rfl rfl rfl (bin_geq_i (a := np0) (b := (1 : Int)))) ?_
 refine Tops_step rfl (OpT_move rfl rfl rfl rfl) ?_
 rcases Bool.eq_false_or_eq_true (decide (np0 ≥ (1 : Int))) with hg1 | hg1
 ·replace h := br_t hg1 h
  refine Tops_yes rfl rfl (congrArg (fun b => some (Value.bool b)) hg1) (OpT_move rfl rfl rfl rfl) ?_
  rintro _ rfl
  refine Tops_yes rfl rfl (congrArg (fun b => some (Value.bool b)) hg1) (OpT_bin rfl rfl rfl rfl rfl (bin_leq_i (a := np0) (b := (32768 : Int)))) ?_
  rintro _ rfl
  refine Tops_step rfl (OpT_pickT rfl rfl rfl (congrArg (fun b => some (Value.bool b)) hg1) rfl) ?_
  refine Tops_step rfl (OpT_assign rfl rfl rfl rfl) ?_
  refine Tops_nil (Tk_wkS (fr' := [(2, some (vB (decide (np0 ≤ (32768 : Int)))))]) (own' := []) (shr' := []) [2] [] [] rfl rfl rfl rfl ?_)
  obtain rfl := Option.some.inj h
  exact Tk_retV rfl rfl (resA (vs := [vB (decide (np0 ≤ (32768 : Int)))]) rfl ⟨rfl, trivial⟩) [] [] rfl rfl rfl ⟨rfl, rfl, rfl⟩
 ·replace h := br_f hg1 h
  refine Tops_no rfl rfl (congrArg (fun b => some (Value.bool b)) hg1) rfl rfl ?_
  refine Tops_no rfl rfl (congrArg (fun b => some (Value.bool b)) hg1) rfl rfl ?_
  refine Tops_step rfl (OpT_pickF rfl rfl rfl (congrArg (fun b => some (Value.bool b)) hg1) rfl) ?_
  refine Tops_step rfl (OpT_assign rfl rfl rfl rfl) ?_
  refine Tops_nil (Tk_wkS (fr' := [(2, some (vB false))]) (own' := []) (shr' := []) [2] [] [] rfl rfl rfl rfl ?_)
  obtain rfl := Option.some.inj h
  exact Tk_retV rfl rfl (resA (vs := [vB false]) rfl ⟨rfl, trivial⟩) [] [] rfl rfl rfl ⟨rfl, rfl, rfl⟩

set_option maxRecDepth 100000 in
set_option maxHeartbeats 4000000 in
theorem w_ref_Check01 {pp0 : Pos} {np1 : Int} {r : Int} (h : ref_Check01 pp0 np1 = some r) :
  Ctr Try.prog 51 #[.agg #[vI pp0.At, vB pp0.Wrap], vI np1] [] []
   (fun rv own shr => rv = vI r ∧ own = [] ∧ shr = []) := by
 unfold ref_Check01 at h
 refine Ctr.mk (args := [.agg #[vI pp0.At, vB pp0.Wrap], vI np1]) Try.func51 rfl rfl (fun R0 w0 B => ?_)
 refine Tk_seq (Tk_region (Tops_ex rfl (OpT_box rfl rfl rfl rfl) fun b1 => ?_))
 refine Tops_step rfl (OpT_assign rfl rfl rfl rfl) ?_
 refine Tops_nil (Tk_wkS (fr' := [(1, some (vI np1)), (2, some (.pointer (some ⟨b1, 0, none⟩)))]) (own' := [some (cellsR b1 33 [vI pp0.At, vB pp0.Wrap])]) (shr' := []) [1, 2] [0] [] rfl rfl rfl rfl ?_)
 refine Tk_seq (Tk_seq (Tk_region (Tops_step rfl (OpT_move rfl rfl rfl rfl) ?_)))
 obtain ⟨size1, hx1, h⟩ := ob_e h
 refine Tops_exP rfl (OpT_call (w_ref_size01 hx1) [] [] rfl rfl rfl rfl rfl callee63 rfl rfl rfl rfl) ?_
 rintro _ ⟨_, _, _, ⟨rfl, rfl, rfl⟩, rfl⟩
 refine Tops_step rfl (OpT_not rfl rfl rfl rfl) ?_
 refine Tops_step rfl (OpT_move rfl rfl rfl rfl) ?_
 rcases Bool.eq_false_or_eq_true ((!size1)) with hg1 | hg1
 ·replace h := br_t hg1 h
  refine Tops_no rfl rfl (congrArg (fun b => some (Value.bool b)) hg1) rfl rfl ?_
  refine Tops_no rfl rfl (congrArg (fun b => some (Value.bool b)) hg1) rfl rfl ?_
  refine Tops_no rfl rfl (congrArg (fun b => some (Value.bool b)) hg1) rfl rfl ?_
  refine Tops_step rfl (OpT_pickT rfl rfl rfl (congrArg (fun b => some (Value.bool b)) hg1) rfl) ?_
  refine Tops_step rfl (OpT_move rfl rfl rfl rfl) ?_
  refine Tops_no rfl rfl rfl rfl rfl ?_
  refine Tops_no rfl rfl rfl rfl rfl ?_
  refine Tops_no rfl rfl rfl rfl rfl ?_
  refine Tops_no rfl rfl rfl rfl rfl ?_
  refine Tops_step rfl (OpT_pickT rfl rfl rfl rfl rfl) ?_
  refine Tops_nil (Tk_wkS (fr' := [(18, some (vB true))]) (own' := []) (shr' := []) [18] [] [] rfl rfl rfl rfl ?_)
  refine Tk_condT rfl ?_
  refine Tk_seq (Tk_region (Tops_step rfl (OpT_assign rfl rfl rfl rfl) ?_))
  refine Tops_nil (Tk_wkS (fr' := [(4, some (vI (2 : Int)))]) (own' := []) (shr' := []) [4] [] [] rfl rfl rfl rfl ?_)
  obtain rfl := Option.some.inj h
  exact Tk_retV rfl rfl (resA (vs := [vI (2 : Int)]) rfl ⟨rfl, trivial⟩) [] [] rfl rfl rfl ⟨rfl, rfl, rfl⟩
 ·replace h := br_f hg1 h
  refine Tops_yes rfl rfl (congrArg (fun b => some (Value.bool b)) hg1) (OpT_fieldC rfl rfl rfl rfl fldF33x0) ?_
  rintro _ rfl
  refine Tops_yes rfl rfl (congrArg (fun b => some (Value.bool b)) hg1) (OpT_loadC rfl rfl rfl rfl tyF3 (i := 0) rfl rfl) ?_
  rintro _ rfl
  refine Tops_yes rfl rfl (congrArg (fun b => some (Value.bool b)) hg1) (OpT_bin rfl rfl rfl rfl rfl (bin_lss_i (a := pp0.At) (b := (0 : Int)))) ?_
  rintro _ rfl
  refine Tops_step rfl (OpT_pickF rfl rfl rfl (congrArg (fun b => some (Value.bool b)) hg1) rfl) ?_
  refine Tops_step rfl (OpT_move rfl rfl rfl rfl) ?_
  rcases Bool.eq_false_or_eq_true (decide (pp0.At < (0 : Int))) with hg2 | hg2
  ·replace h := br_t hg2 h
   refine Tops_no rfl rfl (congrArg (fun b => some (Value.bool b)) hg2) rfl rfl ?_
   refine Tops_no rfl rfl (congrArg (fun b => some (Value.bool b)) hg2) rfl rfl ?_
   refine Tops_no rfl rfl (congrArg (fun b => some (Value.bool b)) hg2) rfl rfl ?_
   refine Tops_no rfl rfl (congrArg (fun b => some (Value.bool b)) hg2) rfl rfl ?_
   refine Tops_step rfl (OpT_pickT rfl rfl rfl (congrArg (fun b => some (Value.bool b)) hg2) rfl) ?_
   refine Tops_nil (Tk_wkS (fr' := [(18, some (vB true))]) (own' := []) (shr' := []) [18] [] [] rfl rfl rfl rfl ?_)
   refine Tk_condT rfl ?_
   refine Tk_seq (Tk_region (Tops_step rfl (OpT_assign rfl rfl rfl rfl) ?_))
   refine Tops_nil (Tk_wkS (fr' := [(4, some (vI (2 : Int)))]) (own' := []) (shr' := []) [4] [] [] rfl rfl rfl rfl ?_)
   obtain rfl := Option.some.inj h
   exact Tk_retV rfl rfl (resA (vs := [vI (2 : Int)]) rfl ⟨rfl, trivial⟩) [] [] rfl rfl rfl ⟨rfl, rfl, rfl⟩
  ·replace h := br_f hg2 h
   refine Tops_yes rfl rfl (congrArg (fun b => some (Value.bool b)) hg2) (OpT_fieldC rfl rfl rfl rfl fldF33x0) ?_
   rintro _ rfl
   refine Tops_yes rfl rfl (congrArg (fun b => some (Value.bool b)) hg2) (OpT_loadC rfl rfl rfl rfl tyF3 (i := 0) rfl rfl) ?_
   rintro _ rfl
   refine Tops_yes rfl rfl (congrArg (fun b => some (Value.bool b)) hg2) (OpT_move rfl rfl rfl rfl) ?_
   rintro _ rfl
   refine Tops_yes rfl rfl (congrArg (fun b => some (Value.bool b)) hg2) (OpT_bin rfl rfl rfl rfl rfl (bin_geq_i (a := pp0.At) (b := np1))) ?_
   rintro _ rfl
   refine Tops_step rfl (OpT_pickF rfl rfl rfl (congrArg (fun b => some (Value.bool b)) hg2) rfl) ?_
   refine Tops_nil (Tk_wkS (fr' := [(18, some (vB (decide (pp0.At ≥ np1))))]) (own' := []) (shr' := []) [18] [] [] rfl rfl rfl rfl ?_)
   rcases Bool.eq_false_or_eq_true (decide (pp0.At ≥ np1)) with hg3 | hg3
   ·replace h := br_t hg3 h
    refine Tk_condT (congrArg (fun b => some (Value.bool b)) hg3) ?_
    refine Tk_seq (Tk_region (Tops_step rfl (OpT_assign rfl rfl rfl rfl) ?_))
    refine Tops_nil (Tk_wkS (fr' := [(4, some (vI (2 : Int)))]) (own' := []) (shr' := []) [4] [] [] rfl rfl rfl rfl ?_)
    obtain rfl := Option.some.inj h
    exact Tk_retV rfl rfl (resA (vs := [vI (2 : Int)]) rfl ⟨rfl, trivial⟩) [] [] rfl rfl rfl ⟨rfl, rfl, rfl⟩
   ·replace h := br_f hg3 h
    refine Tk_condF (congrArg (fun b => some (Value.bool b)) hg3) ?_
    refine Tk_skip (Tk_seq (Tk_region (Tops_step rfl (OpT_assign rfl rfl rfl rfl) ?_)))
    refine Tops_nil (Tk_wkS (fr' := [(4, some (vI (0 : Int)))]) (own' := []) (shr' := []) [4] [] [] rfl rfl rfl rfl ?_)
    obtain rfl := Option.some.inj h
    exact Tk_retV rfl rfl (resA (vs := [vI (0 : Int)]) rfl ⟨rfl, trivial⟩) [] [] rfl rfl rfl ⟨rfl, rfl, rfl⟩

set_option maxRecDepth 100000 in
set_option maxHeartbeats 4000000 in
theorem w_ref_Mark03 {flags : UInt16} {wrap : Bool} {used : Bool} {r : UInt16} (h : ref_Mark03 flags wrap used = some r) :
  Ctr Try.prog 52 #[vU16 flags, vB wrap, vB used] [] []
   (fun rv own shr => rv = vU16 r ∧ own = [] ∧ shr = []) := by
 unfold ref_Mark03 at h
 refine Ctr.mk (args := [vU16 flags, vB wrap, vB used]) Try.func52 rfl rfl (fun R0 w0 B => ?_)
 refine Tk_seq (Tk_region (Tops_step rfl (OpT_assign rfl rfl rfl rfl) ?_))
 refine Tops_nil (Tk_wkS (fr' := [(0, some (vU16 flags)), (1, some (vB wrap)), (2, some (vB used))]) (own' := []) (shr' := []) [0, 1, 2] [] [] rfl rfl rfl rfl ?_)
 refine Tk_seq (Tk_region (Tops_step rfl (OpT_move rfl rfl rfl rfl) ?_))
 refine Tops_step rfl (OpT_bin rfl rfl rfl rfl rfl (bin_andNot_u16 (a := flags) (b := (32896 : UInt16)))) ?_
 refine Tops_step rfl (OpT_assign rfl rfl rfl rfl) ?_
 refine Tops_nil (Tk_wkS (fr' := [(0, some (vU16 (flags &&& ~~~(32896 : UInt16)))), (1, some (vB wrap)), (2, some (vB used))]) (own' := []) (shr' := []) [0, 1, 2] [] [] rfl rfl rfl rfl ?_)
 refine Tk_seq (Tk_seq (Tk_region (Tops_step rfl (OpT_move rfl rfl rfl rfl) ?_)))
 refine Tops_nil (Tk_join (α := UInt16) (fun s => ⟨[(0, some (vU16 s)), (1, some (vB wrap)), (2, some (vB used))], [], []⟩) (fun s => ref_Mark03J1 wrap used s = some r) ?_ ?_)
 ·rintro flags1 h
  replace h : ref_Mark03J1 wrap used flags1 = some r := h
  unfold ref_Mark03J1 at h
  refine Tk_seq (Tk_seq (Tk_region (Tops_step rfl (OpT_move rfl rfl rfl rfl) ?_)))
  refine Tops_step rfl (OpT_move rfl rfl rfl rfl) ?_
  refine Tops_step rfl (OpT_bin rfl rfl rfl rfl rfl (bin_eql_b (a := wrap) (b := used) Try.underlying4)) ?_
  refine Tops_nil (Tk_wkS (fr' := [(0, some (vU16 flags1)), (14, some (vB (wrap == used)))]) (own' := []) (shr' := []) [0, 14] [] [] rfl rfl rfl rfl ?_)
  rcases Bool.eq_false_or_eq_true (wrap == used) with hg1 | hg1
  ·replace h := br_t hg1 h
   refine Tk_condT (congrArg (fun b => some (Value.bool b)) hg1) ?_
   refine Tk_region (Tops_step rfl (OpT_move rfl rfl rfl rfl) ?_)
   refine Tops_step rfl (OpT_bin rfl rfl rfl rfl rfl (bin_or_u16 (a := flags1) (b := (32768 : UInt16)))) ?_
   refine Tops_step rfl (OpT_assign rfl rfl rfl rfl) ?_
   refine Tops_nil (Tk_wkS (fr' := [(0, some (vU16 (flags1 ||| (32768 : UInt16))))]) (own' := []) (shr' := []) [0] [] [] rfl rfl rfl rfl ?_)
   refine Tk_seq (Tk_region (Tops_step rfl (OpT_move rfl rfl rfl rfl) ?_))
   refine Tops_step rfl (OpT_assign rfl rfl rfl rfl) ?_
   refine Tops_nil (Tk_wkS (fr' := [(6, some (vU16 (flags1 ||| (32768 : UInt16))))]) (own' := []) (shr' := []) [6] [] [] rfl rfl rfl rfl ?_)
   obtain rfl := Option.some.inj h
   exact Tk_retV rfl rfl (resA (vs := [vU16 (flags1 ||| (32768 : UInt16))]) rfl ⟨rfl, trivial⟩) [] [] rfl rfl rfl ⟨rfl, rfl, rfl⟩
  ·replace h := br_f hg1 h
   refine Tk_condF (congrArg (fun b => some (Value.bool b)) hg1) ?_
   refine Tk_skip (Tk_seq (Tk_region (Tops_step rfl (OpT_move rfl rfl rfl rfl) ?_)))
   refine Tops_step rfl (OpT_assign rfl rfl rfl rfl) ?_
   refine Tops_nil (Tk_wkS (fr' := [(6, some (vU16 flags1))]) (own' := []) (shr' := []) [6] [] [] rfl rfl rfl rfl ?_)
   obtain rfl := Option.some.inj h
   exact Tk_retV rfl rfl (resA (vs := [vU16 flags1]) rfl ⟨rfl, trivial⟩) [] [] rfl rfl rfl ⟨rfl, rfl, rfl⟩
 ·intro HJ1
  rcases Bool.eq_false_or_eq_true (wrap) with hg2 | hg2
  ·replace h := br_t hg2 h
   refine Tk_condT (congrArg (fun b => some (Value.bool b)) hg2) ?_
   refine Tk_region (Tops_step rfl (OpT_move rfl rfl rfl rfl) ?_)
   refine Tops_step rfl (OpT_bin rfl rfl rfl rfl rfl (bin_or_u16 (a := flags &&& ~~~(32896 : UInt16)) (b := (128 : UInt16)))) ?_
   refine Tops_step rfl (OpT_assign rfl rfl rfl rfl) ?_
   refine Tops_nil (Tk_wkS (fr' := [(0, some (vU16 ((flags &&& ~~~(32896 : UInt16)) ||| (128 : UInt16)))), (1, some (vB wrap)), (2, some (vB used))]) (own' := []) (shr' := []) [0, 1, 2] [] [] rfl rfl rfl rfl ?_)
   exact Tk_jmpS (HJ1 ((flags &&& ~~~(32896 : UInt16)) ||| (128 : UInt16)) h) [0, 1, 2] [] [] rfl rfl rfl rfl
  ·replace h := br_f hg2 h
   refine Tk_condF (congrArg (fun b => some (Value.bool b)) hg2) ?_
   refine Tk_skip ?_
   exact Tk_jmpS (HJ1 (flags &&& ~~~(32896 : UInt16)) h) [0, 1, 2] [] [] rfl rfl rfl rfl

set_option maxRecDepth 100000 in
set_option maxHeartbeats 4000000 in
theorem w_ref_Go01 {pp0 : Pos} {byp1 : Int} {np2 : Int} {r : (Pos × Int)} (h : ref_Go01 pp0 byp1 np2 = some r) :
  Ctr Try.prog 53 #[.agg #[vI pp0.At, vB pp0.Wrap], vI byp1, vI np2] [] []
   (fun rv own shr => rv = .tuple #[.agg #[vI r.1.At, vB r.1.Wrap], vI r.2] ∧ own = [] ∧ shr = []) := by
 unfold ref_Go01 at h
 refine Ctr.mk (args := [.agg #[vI pp0.At, vB pp0.Wrap], vI byp1, vI np2]) Try.func53 rfl rfl (fun R0 w0 B => ?_)
 refine Tk_seq (Tk_region (Tops_ex rfl (OpT_box rfl rfl rfl rfl) fun b1 => ?_))
 refine Tops_ex rfl (OpT_alloc rfl rfl rfl tyZ33) fun b2 => ?_
 refine Tops_step rfl (OpT_assign rfl rfl rfl rfl) ?_
 refine Tops_nil (Tk_wkS (fr' := [(1, some (vI byp1)), (2, some (vI np2)), (3, some (.pointer (some ⟨b1, 0, none⟩))), (6, some (.pointer (some ⟨b2, 0, none⟩)))]) (own' := [some (cellsR b1 33 [vI pp0.At, vB pp0.Wrap]), some (cellsR b2 33 [vI (0 : Int), vB false])]) (shr' := []) [1, 2, 3, 6] [0, 1] [] rfl rfl rfl rfl ?_)
 refine Tk_seq (Tk_seq (Tk_region (Tops_step rfl (OpT_loadCA (vs := [vI pp0.At, vB pp0.Wrap]) rfl rfl rfl rfl tyF33 (i := 0) rfl rfl rfl) ?_)))
 refine Tops_step rfl (OpT_move rfl rfl rfl rfl) ?_
 obtain ⟨check1, hx1, h⟩ := ob_e h
 refine Tops_exP rfl (OpT_call (w_ref_Check01 hx1) [] [] rfl rfl rfl rfl rfl callee51 rfl rfl rfl rfl) ?_
 rintro _ ⟨_, _, _, ⟨rfl, rfl, rfl⟩, rfl⟩
 refine Tops_step rfl (OpT_bin rfl rfl rfl rfl rfl (bin_neq_i (a := check1) (b := (0 : Int)))) ?_
 refine Tops_step rfl (OpT_move rfl rfl rfl rfl) ?_
 rcases Bool.eq_false_or_eq_true (check1 != (0 : Int)) with hg1 | hg1
 ·replace h := br_t hg1 h
  refine Tops_no rfl rfl (congrArg (fun b => some (Value.bool b)) hg1) rfl rfl ?_
  refine Tops_no rfl rfl (congrArg (fun b => some (Value.bool b)) hg1) rfl rfl ?_
  refine Tops_step rfl (OpT_pickT rfl rfl rfl (congrArg (fun b => some (Value.bool b)) hg1) rfl) ?_
  refine Tops_step rfl (OpT_move rfl rfl rfl rfl) ?_
  refine Tops_no rfl rfl rfl rfl rfl ?_
  refine Tops_no rfl rfl rfl rfl rfl ?_
  refine Tops_no rfl rfl rfl rfl rfl ?_
  refine Tops_step rfl (OpT_pickT rfl rfl rfl rfl rfl) ?_
  refine Tops_nil (Tk_wkS (fr' := [(1, some (vI byp1)), (2, some (vI np2)), (3, some (.pointer (some ⟨b1, 0, none⟩))), (6, some (.pointer (some ⟨b2, 0, none⟩))), (21, some (vB true))]) (own' := [some (cellsR b1 33 [vI pp0.At, vB pp0.Wrap]), some (cellsR b2 33 [vI (0 : Int), vB false])]) (shr' := []) [1, 2, 3, 6, 21] [0, 1] [] rfl rfl rfl rfl ?_)
  refine Tk_condT rfl ?_
  refine Tk_seq (Tk_region (Tops_step rfl (OpT_build (v := .agg #[vI (0 : Int), vB false]) rfl rfl rfl rfl (bldV (by kernel_rfl))) ?_))
  refine Tops_step rfl (OpT_storeC (cs' := [vI (0 : Int), vB false]) rfl rfl rfl rfl tyF33 (i := 1) rfl rfl rfl (one_of rfl) rfl) ?_
  refine Tops_step rfl (OpT_assign rfl rfl rfl rfl) ?_
  refine Tops_nil (Tk_wkS (fr' := [(6, some (.pointer (some ⟨b2, 0, none⟩))), (7, some (vI (2 : Int)))]) (own' := [some (cellsR b2 33 [vI (0 : Int), vB false])]) (shr' := []) [6, 7] [1] [] rfl rfl rfl rfl ?_)
  obtain rfl := Option.some.inj h
  exact Tk_retV rfl rfl (resA (vs := [.agg #[vI (0 : Int), vB false], vI (2 : Int)]) rfl ⟨⟨_, 0, _, _, _, rfl, rfl, .inl ⟨tyF33, rfl, rfl⟩⟩, rfl, trivial⟩) [] [] rfl rfl rfl ⟨rfl, rfl, rfl⟩
 ·replace h := br_f hg1 h
  refine Tops_yes rfl rfl (congrArg (fun b => some (Value.bool b)) hg1) (OpT_move rfl rfl rfl rfl) ?_
  rintro _ rfl
  refine Tops_yes rfl rfl (congrArg (fun b => some (Value.bool b)) hg1) (OpT_bin rfl rfl rfl rfl rfl (bin_lss_i (a := byp1) (b := (0 : Int)))) ?_
  rintro _ rfl
  refine Tops_step rfl (OpT_pickF rfl rfl rfl (congrArg (fun b => some (Value.bool b)) hg1) rfl) ?_
  refine Tops_step rfl (OpT_move rfl rfl rfl rfl) ?_
  rcases Bool.eq_false_or_eq_true (decide (byp1 < (0 : Int))) with hg2 | hg2
  ·replace h := br_t hg2 h
   refine Tops_no rfl rfl (congrArg (fun b => some (Value.bool b)) hg2) rfl rfl ?_
   refine Tops_no rfl rfl (congrArg (fun b => some (Value.bool b)) hg2) rfl rfl ?_
   refine Tops_no rfl rfl (congrArg (fun b => some (Value.bool b)) hg2) rfl rfl ?_
   refine Tops_step rfl (OpT_pickT rfl rfl rfl (congrArg (fun b => some (Value.bool b)) hg2) rfl) ?_
   refine Tops_nil (Tk_wkS (fr' := [(1, some (vI byp1)), (2, some (vI np2)), (3, some (.pointer (some ⟨b1, 0, none⟩))), (6, some (.pointer (some ⟨b2, 0, none⟩))), (21, some (vB true))]) (own' := [some (cellsR b1 33 [vI pp0.At, vB pp0.Wrap]), some (cellsR b2 33 [vI (0 : Int), vB false])]) (shr' := []) [1, 2, 3, 6, 21] [0, 1] [] rfl rfl rfl rfl ?_)
   refine Tk_condT rfl ?_
   refine Tk_seq (Tk_region (Tops_step rfl (OpT_build (v := .agg #[vI (0 : Int), vB false]) rfl rfl rfl rfl (bldV (by kernel_rfl))) ?_))
   refine Tops_step rfl (OpT_storeC (cs' := [vI (0 : Int), vB false]) rfl rfl rfl rfl tyF33 (i := 1) rfl rfl rfl (one_of rfl) rfl) ?_
   refine Tops_step rfl (OpT_assign rfl rfl rfl rfl) ?_
   refine Tops_nil (Tk_wkS (fr' := [(6, some (.pointer (some ⟨b2, 0, none⟩))), (7, some (vI (2 : Int)))]) (own' := [some (cellsR b2 33 [vI (0 : Int), vB false])]) (shr' := []) [6, 7] [1] [] rfl rfl rfl rfl ?_)
   obtain rfl := Option.some.inj h
   exact Tk_retV rfl rfl (resA (vs := [.agg #[vI (0 : Int), vB false], vI (2 : Int)]) rfl ⟨⟨_, 0, _, _, _, rfl, rfl, .inl ⟨tyF33, rfl, rfl⟩⟩, rfl, trivial⟩) [] [] rfl rfl rfl ⟨rfl, rfl, rfl⟩
  ·replace h := br_f hg2 h
   refine Tops_yes rfl rfl (congrArg (fun b => some (Value.bool b)) hg2) (OpT_move rfl rfl rfl rfl) ?_
   rintro _ rfl
   refine Tops_yes rfl rfl (congrArg (fun b => some (Value.bool b)) hg2) (OpT_move rfl rfl rfl rfl) ?_
   rintro _ rfl
   refine Tops_yes rfl rfl (congrArg (fun b => some (Value.bool b)) hg2) (OpT_bin rfl rfl rfl rfl rfl (bin_gtr_i (a := byp1) (b := np2))) ?_
   rintro _ rfl
   refine Tops_step rfl (OpT_pickF rfl rfl rfl (congrArg (fun b => some (Value.bool b)) hg2) rfl) ?_
   refine Tops_nil (Tk_wkS (fr' := [(1, some (vI byp1)), (2, some (vI np2)), (3, some (.pointer (some ⟨b1, 0, none⟩))), (6, some (.pointer (some ⟨b2, 0, none⟩))), (21, some (vB (decide (byp1 > np2))))]) (own' := [some (cellsR b1 33 [vI pp0.At, vB pp0.Wrap]), some (cellsR b2 33 [vI (0 : Int), vB false])]) (shr' := []) [1, 2, 3, 6, 21] [0, 1] [] rfl rfl rfl rfl ?_)
   rcases Bool.eq_false_or_eq_true (decide (byp1 > np2)) with hg3 | hg3
   ·replace h := br_t hg3 h
    refine Tk_condT (congrArg (fun b => some (Value.bool b)) hg3) ?_
    refine Tk_seq (Tk_region (Tops_step rfl (OpT_build (v := .agg #[vI (0 : Int), vB false]) rfl rfl rfl rfl (bldV (by kernel_rfl))) ?_))
    refine Tops_step rfl (OpT_storeC (cs' := [vI (0 : Int), vB false]) rfl rfl rfl rfl tyF33 (i := 1) rfl rfl rfl (one_of rfl) rfl) ?_
    refine Tops_step rfl (OpT_assign rfl rfl rfl rfl) ?_
    refine Tops_nil (Tk_wkS (fr' := [(6, some (.pointer (some ⟨b2, 0, none⟩))), (7, some (vI (2 : Int)))]) (own' := [some (cellsR b2 33 [vI (0 : Int), vB false])]) (shr' := []) [6, 7] [1] [] rfl rfl rfl rfl ?_)
    obtain rfl := Option.some.inj h
    exact Tk_retV rfl rfl (resA (vs := [.agg #[vI (0 : Int), vB false], vI (2 : Int)]) rfl ⟨⟨_, 0, _, _, _, rfl, rfl, .inl ⟨tyF33, rfl, rfl⟩⟩, rfl, trivial⟩) [] [] rfl rfl rfl ⟨rfl, rfl, rfl⟩
   ·replace h := br_f hg3 h
    refine Tk_condF (congrArg (fun b => some (Value.bool b)) hg3) ?_
    refine Tk_skip (Tk_seq (Tk_region (Tops_step rfl (OpT_fieldC rfl rfl rfl rfl fldF33x0) ?_)))
    refine Tops_step rfl (OpT_loadC rfl rfl rfl rfl tyF3 (i := 0) rfl rfl) ?_
    refine Tops_step rfl (OpT_move rfl rfl rfl rfl) ?_
    refine Tops_step rfl (OpT_bin rfl rfl rfl rfl rfl (bin_add_i (a := pp0.At) (b := byp1))) ?_
    refine Tops_step rfl (OpT_assign rfl rfl rfl rfl) ?_
    refine Tops_nil (Tk_wkS (fr' := [(2, some (vI np2)), (3, some (.pointer (some ⟨b1, 0, none⟩))), (6, some (.pointer (some ⟨b2, 0, none⟩))), (8, some (vI (wi (pp0.At + byp1))))]) (own' := [some (cellsR b1 33 [vI pp0.At, vB pp0.Wrap]), some (cellsR b2 33 [vI (0 : Int), vB false])]) (shr' := []) [2, 3, 6, 8] [0, 1] [] rfl rfl rfl rfl ?_)
    refine Tk_seq (Tk_seq (Tk_region (Tops_step rfl (OpT_move rfl rfl rfl rfl) ?_)))
    refine Tops_step rfl (OpT_move rfl rfl rfl rfl) ?_
    refine Tops_step rfl (OpT_bin rfl rfl rfl rfl rfl (bin_geq_i (a := wi (pp0.At + byp1)) (b := np2))) ?_
    refine Tops_nil (Tk_wkS (fr' := [(2, some (vI np2)), (3, some (.pointer (some ⟨b1, 0, none⟩))), (6, some (.pointer (some ⟨b2, 0, none⟩))), (8, some (vI (wi (pp0.At + byp1)))), (29, some (vB (decide ((wi (pp0.At + byp1)) ≥ np2))))]) (own' := [some (cellsR b1 33 [vI pp0.At, vB pp0.Wrap]), some (cellsR b2 33 [vI (0 : Int), vB false])]) (shr' := []) [2, 3, 6, 8, 29] [0, 1] [] rfl rfl rfl rfl ?_)
    rcases Bool.eq_false_or_eq_true (decide ((wi (pp0.At + byp1)) ≥ np2)) with hg4 | hg4
    ·replace h := br_t hg4 h
     refine Tk_condT (congrArg (fun b => some (Value.bool b)) hg4) ?_
     refine Tk_seq (Tk_region (Tops_step rfl (OpT_move rfl rfl rfl rfl) ?_))
     refine Tops_step rfl (OpT_move rfl rfl rfl rfl) ?_
     refine Tops_step rfl (OpT_bin rfl rfl rfl rfl rfl (bin_sub_i (a := wi (pp0.At + byp1)) (b := np2))) ?_
     refine Tops_step rfl (OpT_fieldC rfl rfl rfl rfl fldF33x1) ?_
     refine Tops_step rfl (OpT_loadC rfl rfl rfl rfl tyF4 (i := 0) rfl rfl) ?_
     refine Tops_step rfl (OpT_not rfl rfl rfl rfl) ?_
     refine Tops_step rfl (OpT_build (v := .agg #[vI (wi ((wi (pp0.At + byp1)) - np2)), vB (!pp0.Wrap)]) rfl rfl rfl rfl (bldV (by kernel_rfl))) ?_
     refine Tops_step rfl (OpT_storeC (cs' := [vI (wi ((wi (pp0.At + byp1)) - np2)), vB (!pp0.Wrap)]) rfl rfl rfl rfl tyF33 (i := 1) rfl rfl rfl (one_of rfl) rfl) ?_
     refine Tops_step rfl (OpT_assign rfl rfl rfl rfl) ?_
     refine Tops_nil (Tk_wkS (fr' := [(6, some (.pointer (some ⟨b2, 0, none⟩))), (7, some (vI (0 : Int)))]) (own' := [some (cellsR b2 33 [vI (wi ((wi (pp0.At + byp1)) - np2)), vB (!pp0.Wrap)])]) (shr' := []) [6, 7] [1] [] rfl rfl rfl rfl ?_)
     obtain rfl := Option.some.inj h
     exact Tk_retV rfl rfl (resA (vs := [.agg #[vI (wi ((wi (pp0.At + byp1)) - np2)), vB (!pp0.Wrap)], vI (0 : Int)]) rfl ⟨⟨_, 0, _, _, _, rfl, rfl, .inl ⟨tyF33, rfl, rfl⟩⟩, rfl, trivial⟩) [] [] rfl rfl rfl ⟨rfl, rfl, rfl⟩
    ·replace h := br_f hg4 h
     refine Tk_condF (congrArg (fun b => some (Value.bool b)) hg4) ?_
     refine Tk_skip (Tk_seq (Tk_region (Tops_step rfl (OpT_move rfl rfl rfl rfl) ?_)))
     refine Tops_step rfl (OpT_fieldC rfl rfl rfl rfl fldF33x1) ?_
     refine Tops_step rfl (OpT_loadC rfl rfl rfl rfl tyF4 (i := 0) rfl rfl) ?_
     refine Tops_step rfl (OpT_build (v := .agg #[vI (wi (pp0.At + byp1)), vB pp0.Wrap]) rfl rfl rfl rfl (bldV (by kernel_rfl))) ?_
     refine Tops_step rfl (OpT_storeC (cs' := [vI (wi (pp0.At + byp1)), vB pp0.Wrap]) rfl rfl rfl rfl tyF33 (i := 1) rfl rfl rfl (one_of rfl) rfl) ?_
     refine Tops_step rfl (OpT_assign rfl rfl rfl rfl) ?_
     refine Tops_nil (Tk_wkS (fr' := [(6, some (.pointer (some ⟨b2, 0, none⟩))), (7, some (vI (0 : Int)))]) (own' := [some (cellsR b2 33 [vI (wi (pp0.At + byp1)), vB pp0.Wrap])]) (shr' := []) [6, 7] [1] [] rfl rfl rfl rfl ?_)
     obtain rfl := Option.some.inj h
     exact Tk_retV rfl rfl (resA (vs := [.agg #[vI (wi (pp0.At + byp1)), vB pp0.Wrap], vI (0 : Int)]) rfl ⟨⟨_, 0, _, _, _, rfl, rfl, .inl ⟨tyF33, rfl, rfl⟩⟩, rfl, trivial⟩) [] [] rfl rfl rfl ⟨rfl, rfl, rfl⟩

set_option maxRecDepth 100000 in
set_option maxHeartbeats 4000000 in
theorem w_ref_Packed09 {pp0 : Pos} {size : Int} {id : Int} {l : List Seg} {vl1 : Value} {r : ((List PutPacked) × Int)} (h : ref_Packed09 pp0 size id l = some r) :
  Ctr Try.prog 23 #[.agg #[vI pp0.At, vB pp0.Wrap], vI size, vI id, vl1] [] [Fact.sl SegS vl1 l]
   (fun rv own shr => ∃ (w1 : Value), rv = .tuple #[w1, vI r.2] ∧ own = [(rowS PutPackedS w1 r.1)] ∧ shr = []) := by
 unfold ref_Packed09 at h
 refine Ctr.mk (args := [.agg #[vI pp0.At, vB pp0.Wrap], vI size, vI id, vl1]) Try.func23 rfl rfl (fun R0 w0 B => ?_)
 refine Tk_seq (Tk_region (Tops_ex rfl (OpT_box rfl rfl rfl rfl) fun b1 => ?_))
 refine Tops_step rfl (OpT_assign rfl rfl rfl rfl) ?_
 refine Tops_step rfl (OpT_assign rfl rfl rfl rfl) ?_
 refine Tops_nil (Tk_wkS (fr' := [(1, some (vI size)), (2, some (vI id)), (3, some (vl1)), (4, some (.pointer (some ⟨b1, 0, none⟩)))]) (own' := [some (cellsR b1 33 [vI pp0.At, vB pp0.Wrap])]) (shr' := [Fact.sl SegS vl1 l]) [1, 2, 3, 4] [0] [0] rfl rfl rfl rfl ?_)
 refine Tk_seq (Tk_region (Tops_step rfl (OpT_move rfl rfl rfl rfl) ?_))
 obtain ⟨may1, hx1, h⟩ := ob_e h
 refine Tops_exP rfl (OpT_call (w_ref_may09 hx1) [] [0] rfl rfl rfl rfl rfl callee50 rfl rfl rfl rfl) ?_
 rintro _ ⟨_, _, _, ⟨rfl, rfl, rfl⟩, rfl⟩
 refine Tops_step rfl (OpT_assign rfl rfl rfl rfl) ?_
 refine Tops_nil (Tk_wkS (fr' := [(1, some (vI size)), (2, some (vI id)), (3, some (vl1)), (4, some (.pointer (some ⟨b1, 0, none⟩))), (10, some (vI may1))]) (own' := [some (cellsR b1 33 [vI pp0.At, vB pp0.Wrap])]) (shr' := [Fact.sl SegS vl1 l]) [1, 2, 3, 4, 10] [0] [0] rfl rfl rfl rfl ?_)
 refine Tk_seq (Tk_seq (Tk_region (Tops_step rfl (OpT_move rfl rfl rfl rfl) ?_)))
 refine Tops_step rfl (OpT_bin rfl rfl rfl rfl rfl (bin_neq_i (a := may1) (b := (0 : Int)))) ?_
 refine Tops_nil (Tk_wkS (fr' := [(1, some (vI size)), (2, some (vI id)), (3, some (vl1)), (4, some (.pointer (some ⟨b1, 0, none⟩))), (10, some (vI may1)), (17, some (vB (may1 != (0 : Int))))]) (own' := [some (cellsR b1 33 [vI pp0.At, vB pp0.Wrap])]) (shr' := [Fact.sl SegS vl1 l]) [1, 2, 3, 4, 10, 17] [0] [0] rfl rfl rfl rfl ?_)
 rcases Bool.eq_false_or_eq_true (may1 != (0 : Int)) with hg1 | hg1
 ·replace h := br_t hg1 h
  refine Tk_condT (congrArg (fun b => some (Value.bool b)) hg1) ?_
  refine Tk_seq (Tk_region (Tops_step rfl (OpT_move rfl rfl rfl rfl) ?_))
  refine Tops_step rfl (OpT_assign rfl rfl rfl rfl) ?_
  refine Tops_step rfl (OpT_assign rfl rfl rfl rfl) ?_
  refine Tops_nil (Tk_wkS (fr' := [(8, some (.slice none 0 0)), (9, some (vI may1))]) (own' := []) (shr' := []) [8, 9] [] [] rfl rfl rfl rfl ?_)
  refine Tk_nilrow PutPackedS ?_
  obtain rfl := Option.some.inj h
  exact Tk_retV rfl rfl (resA (vs := [.slice none 0 0, vI may1]) rfl ⟨rfl, rfl, trivial⟩) [0] [] rfl rfl rfl ⟨(.slice none 0 0), rfl, rfl, rfl⟩
 ·replace h := br_f hg1 h
  refine Tk_condF (congrArg (fun b => some (Value.bool b)) hg1) ?_
  refine Tk_skip (Tk_seq (Tk_seq (Tk_region (Tops_step rfl (OpT_loadCA (vs := [vI pp0.At, vB pp0.Wrap]) rfl rfl rfl rfl tyF33 (i := 0) rfl rfl rfl) ?_))))
  refine Tops_step rfl (OpT_move rfl rfl rfl rfl) ?_
  obtain ⟨check1, hx2, h⟩ := ob_e h
  refine Tops_exP rfl (OpT_call (w_ref_Check01 hx2) [] [] rfl rfl rfl rfl rfl callee51 rfl rfl rfl rfl) ?_
  rintro _ ⟨_, _, _, ⟨rfl, rfl, rfl⟩, rfl⟩
  refine Tops_step rfl (OpT_bin rfl rfl rfl rfl rfl (bin_neq_i (a := check1) (b := (0 : Int)))) ?_
  refine Tops_step rfl (OpT_move rfl rfl rfl rfl) ?_
  rcases Bool.eq_false_or_eq_true (check1 != (0 : Int)) with hg2 | hg2
  ·replace h := br_t hg2 h
   refine Tops_no rfl rfl (congrArg (fun b => some (Value.bool b)) hg2) rfl rfl ?_
   refine Tops_no rfl rfl (congrArg (fun b => some (Value.bool b)) hg2) rfl rfl ?_
   refine Tops_step rfl (OpT_pickT rfl rfl rfl (congrArg (fun b => some (Value.bool b)) hg2) rfl) ?_
   refine Tops_step rfl (OpT_move rfl rfl rfl rfl) ?_
   refine Tops_no rfl rfl rfl rfl rfl ?_
   refine Tops_no rfl rfl rfl rfl rfl ?_
   refine Tops_no rfl rfl rfl rfl rfl ?_
   refine Tops_step rfl (OpT_pickT rfl rfl rfl rfl rfl) ?_
   refine Tops_step rfl (OpT_move rfl rfl rfl rfl) ?_
   refine Tops_no rfl rfl rfl rfl rfl ?_
   refine Tops_no rfl rfl rfl rfl rfl ?_
   refine Tops_no rfl rfl rfl rfl rfl ?_
   refine Tops_no rfl rfl rfl rfl rfl ?_
   refine Tops_step rfl (OpT_pickT rfl rfl rfl rfl rfl) ?_
   refine Tops_nil (Tk_wkS (fr' := [(1, some (vI size)), (2, some (vI id)), (3, some (vl1)), (4, some (.pointer (some ⟨b1, 0, none⟩))), (37, some (vB true))]) (own' := [some (cellsR b1 33 [vI pp0.At, vB pp0.Wrap])]) (shr' := [Fact.sl SegS vl1 l]) [1, 2, 3, 4, 37] [0] [0] rfl rfl rfl rfl ?_)
   refine Tk_condT rfl ?_
   refine Tk_seq (Tk_region (Tops_step rfl (OpT_assign rfl rfl rfl rfl) ?_))
   refine Tops_step rfl (OpT_assign rfl rfl rfl rfl) ?_
   refine Tops_nil (Tk_wkS (fr' := [(8, some (.slice none 0 0)), (9, some (vI (2 : Int)))]) (own' := []) (shr' := []) [8, 9] [] [] rfl rfl rfl rfl ?_)
   refine Tk_nilrow PutPackedS ?_
   obtain rfl := Option.some.inj h
   exact Tk_retV rfl rfl (resA (vs := [.slice none 0 0, vI (2 : Int)]) rfl ⟨rfl, rfl, trivial⟩) [0] [] rfl rfl rfl ⟨(.slice none 0 0), rfl, rfl, rfl⟩
  ·replace h := br_f hg2 h
   refine Tops_yes rfl rfl (congrArg (fun b => some (Value.bool b)) hg2) (OpT_move rfl rfl rfl rfl) ?_
   rintro _ rfl
   refine Tops_yes rfl rfl (congrArg (fun b => some (Value.bool b)) hg2) (OpT_bin rfl rfl rfl rfl rfl (bin_lss_i (a := id) (b := (0 : Int)))) ?_
   rintro _ rfl
   refine Tops_step rfl (OpT_pickF rfl rfl rfl (congrArg (fun b => some (Value.bool b)) hg2) rfl) ?_
   refine Tops_step rfl (OpT_move rfl rfl rfl rfl) ?_
   rcases Bool.eq_false_or_eq_true (decide (id < (0 : Int))) with hg3 | hg3
   ·replace h := br_t hg3 h
    refine Tops_no rfl rfl (congrArg (fun b => some (Value.bool b)) hg3) rfl rfl ?_
    refine Tops_no rfl rfl (congrArg (fun b => some (Value.bool b)) hg3) rfl rfl ?_
    refine Tops_no rfl rfl (congrArg (fun b => some (Value.bool b)) hg3) rfl rfl ?_
    refine Tops_step rfl (OpT_pickT rfl rfl rfl (congrArg (fun b => some (Value.bool b)) hg3) rfl) ?_
    refine Tops_step rfl (OpT_move rfl rfl rfl rfl) ?_
    refine Tops_no rfl rfl rfl rfl rfl ?_
    refine Tops_no rfl rfl rfl rfl rfl ?_
    refine Tops_no rfl rfl rfl rfl rfl ?_
    refine Tops_no rfl rfl rfl rfl rfl ?_
    refine Tops_step rfl (OpT_pickT rfl rfl rfl rfl rfl) ?_
    refine Tops_nil (Tk_wkS (fr' := [(1, some (vI size)), (2, some (vI id)), (3, some (vl1)), (4, some (.pointer (some ⟨b1, 0, none⟩))), (37, some (vB true))]) (own' := [some (cellsR b1 33 [vI pp0.At, vB pp0.Wrap])]) (shr' := [Fact.sl SegS vl1 l]) [1, 2, 3, 4, 37] [0] [0] rfl rfl rfl rfl ?_)
    refine Tk_condT rfl ?_
    refine Tk_seq (Tk_region (Tops_step rfl (OpT_assign rfl rfl rfl rfl) ?_))
    refine Tops_step rfl (OpT_assign rfl rfl rfl rfl) ?_
    refine Tops_nil (Tk_wkS (fr' := [(8, some (.slice none 0 0)), (9, some (vI (2 : Int)))]) (own' := []) (shr' := []) [8, 9] [] [] rfl rfl rfl rfl ?_)
    refine Tk_nilrow PutPackedS ?_
    obtain rfl := Option.some.inj h
    exact Tk_retV rfl rfl (resA (vs := [.slice none 0 0, vI (2 : Int)]) rfl ⟨rfl, rfl, trivial⟩) [0] [] rfl rfl rfl ⟨(.slice none 0 0), rfl, rfl, rfl⟩
   ·replace h := br_f hg3 h
    refine Tops_yes rfl rfl (congrArg (fun b => some (Value.bool b)) hg3) (OpT_move rfl rfl rfl rfl) ?_
    rintro _ rfl
    refine Tops_yes rfl rfl (congrArg (fun b => some (Value.bool b)) hg3) (OpT_move rfl rfl rfl rfl) ?_
    rintro _ rfl
    refine Tops_yes rfl rfl (congrArg (fun b => some (Value.bool b)) hg3) (OpT_bin rfl rfl rfl rfl rfl (bin_geq_i (a := id) (b := size))) ?_
    rintro _ rfl
    refine Tops_step rfl (OpT_pickF rfl rfl rfl (congrArg (fun b => some (Value.bool b)) hg3) rfl) ?_
    refine Tops_step rfl (OpT_move rfl rfl rfl rfl) ?_
    rcases Bool.eq_false_or_eq_true (decide (id ≥ size)) with hg4 | hg4
    ·replace h := br_t hg4 h
     refine Tops_no rfl rfl (congrArg (fun b => some (Value.bool b)) hg4) rfl rfl ?_
     refine Tops_no rfl rfl (congrArg (fun b => some (Value.bool b)) hg4) rfl rfl ?_
     refine Tops_no rfl rfl (congrArg (fun b => some (Value.bool b)) hg4) rfl rfl ?_
     refine Tops_no rfl rfl (congrArg (fun b => some (Value.bool b)) hg4) rfl rfl ?_
     refine Tops_step rfl (OpT_pickT rfl rfl rfl (congrArg (fun b => some (Value.bool b)) hg4) rfl) ?_
     refine Tops_nil (Tk_wkS (fr' := [(1, some (vI size)), (2, some (vI id)), (3, some (vl1)), (4, some (.pointer (some ⟨b1, 0, none⟩))), (37, some (vB true))]) (own' := [some (cellsR b1 33 [vI pp0.At, vB pp0.Wrap])]) (shr' := [Fact.sl SegS vl1 l]) [1, 2, 3, 4, 37] [0] [0] rfl rfl rfl rfl ?_)
     refine Tk_condT rfl ?_
     refine Tk_seq (Tk_region (Tops_step rfl (OpT_assign rfl rfl rfl rfl) ?_))
     refine Tops_step rfl (OpT_assign rfl rfl rfl rfl) ?_
     refine Tops_nil (Tk_wkS (fr' := [(8, some (.slice none 0 0)), (9, some (vI (2 : Int)))]) (own' := []) (shr' := []) [8, 9] [] [] rfl rfl rfl rfl ?_)
     refine Tk_nilrow PutPackedS ?_
     obtain rfl := Option.some.inj h
     exact Tk_retV rfl rfl (resA (vs := [.slice none 0 0, vI (2 : Int)]) rfl ⟨rfl, rfl, trivial⟩) [0] [] rfl rfl rfl ⟨(.slice none 0 0), rfl, rfl, rfl⟩
    ·replace h := br_f hg4 h
     refine Tops_yes rfl rfl (congrArg (fun b => some (Value.bool b)) hg4) (OpT_move rfl rfl rfl rfl) ?_
     rintro _ rfl
     refine Tops_yes rfl rfl (congrArg (fun b => some (Value.bool b)) hg4) (OpT_lenS rfl rfl rfl rfl Try.underlying27 (i := 0) rfl) ?_
     rintro _ rfl
     refine Tops_yes rfl rfl (congrArg (fun b => some (Value.bool b)) hg4) (OpT_move rfl rfl rfl rfl) ?_
     rintro _ rfl
     refine Tops_yes rfl rfl (congrArg (fun b => some (Value.bool b)) hg4) (OpT_bin rfl rfl rfl rfl rfl (bin_gtr_i (a := len l) (b := size))) ?_
     rintro _ rfl
     refine Tops_step rfl (OpT_pickF rfl rfl rfl (congrArg (fun b => some (Value.bool b)) hg4) rfl) ?_
     refine Tops_nil (Tk_wkS (fr' := [(1, some (vI size)), (2, some (vI id)), (3, some (vl1)), (4, some (.pointer (some ⟨b1, 0, none⟩))), (37, some (vB (decide ((len l) > size))))]) (own' := [some (cellsR b1 33 [vI pp0.At, vB pp0.Wrap])]) (shr' := [Fact.sl SegS vl1 l]) [1, 2, 3, 4, 37] [0] [0] rfl rfl rfl rfl ?_)
     rcases Bool.eq_false_or_eq_true (decide ((len l) > size)) with hg5 | hg5
     ·replace h := br_t hg5 h
      refine Tk_condT (congrArg (fun b => some (Value.bool b)) hg5) ?_
      refine Tk_seq (Tk_region (Tops_step rfl (OpT_assign rfl rfl rfl rfl) ?_))
      refine Tops_step rfl (OpT_assign rfl rfl rfl rfl) ?_
      refine Tops_nil (Tk_wkS (fr' := [(8, some (.slice none 0 0)), (9, some (vI (2 : Int)))]) (own' := []) (shr' := []) [8, 9] [] [] rfl rfl rfl rfl ?_)
      refine Tk_nilrow PutPackedS ?_
      obtain rfl := Option.some.inj h
      exact Tk_retV rfl rfl (resA (vs := [.slice none 0 0, vI (2 : Int)]) rfl ⟨rfl, rfl, trivial⟩) [0] [] rfl rfl rfl ⟨(.slice none 0 0), rfl, rfl, rfl⟩
     ·replace h := br_f hg5 h
      refine Tk_condF (congrArg (fun b => some (Value.bool b)) hg5) ?_
      refine Tk_skip (Tk_seq (Tk_region (Tops_step rfl (OpT_assign rfl rfl rfl rfl) ?_)))
      refine Tops_nil (Tk_wkS (fr' := [(1, some (vI size)), (2, some (vI id)), (3, some (vl1)), (4, some (.pointer (some ⟨b1, 0, none⟩))), (11, some (.slice none 0 0))]) (own' := [some (cellsR b1 33 [vI pp0.At, vB pp0.Wrap])]) (shr' := [Fact.sl SegS vl1 l]) [1, 2, 3, 4, 11] [0] [0] rfl rfl rfl rfl ?_)
      refine Tk_seq (Tk_seq (Tk_region (Tops_step rfl (OpT_assign rfl rfl rfl rfl) ?_)))
      refine Tops_nil (Tk_block (Tk_nilrow PutPackedS ?_))
      refine Tk_loopS (σ := Pos × (List PutPacked) × Int × Value) [1, 2, 3, 4, 11, 12] [0, 1] [0] (fun s => ⟨[(1, some (vI size)), (2, some (vI id)), (3, some (vl1)), (4, some (.pointer (some ⟨b1, 0, none⟩))), (11, some (s.2.2.2)), (12, some (vI s.2.2.1))], [some (cellsR b1 33 [vI s.1.At, vB s.1.Wrap]), some (rowS PutPackedS s.2.2.2 s.2.1)], [Fact.sl SegS vl1 l]⟩) (fun nf1 s => ref_Packed09L1 size id l nf1 s.1 s.2.1 s.2.2.1 = some r) fuel (pp0, [], (0 : Int), (.slice none 0 0)) h rfl rfl rfl rfl rfl (fun s h => by cases h) ?_
      rintro nf1 ⟨m1, out1, i1, v1⟩ h
      replace h : ref_Packed09L1B size id l (ref_Packed09L1 size id l nf1) m1 out1 i1 = some r := h
      unfold ref_Packed09L1B at h
      refine Tk_seq (Tk_seq (Tk_region (Tops_step rfl (OpT_move rfl rfl rfl rfl) ?_)))
      refine Tops_step rfl (OpT_move rfl rfl rfl rfl) ?_
      refine Tops_step rfl (OpT_lenS rfl rfl rfl rfl Try.underlying27 (i := 0) rfl) ?_
      refine Tops_step rfl (OpT_bin rfl rfl rfl rfl rfl (bin_lss_i (a := i1) (b := len l))) ?_
      refine Tops_nil (Tk_wkS (fr' := [(1, some (vI size)), (2, some (vI id)), (3, some (vl1)), (4, some (.pointer (some ⟨b1, 0, none⟩))), (11, some (v1)), (12, some (vI i1)), (41, some (vB (decide (i1 < (len l)))))]) (own' := [some (cellsR b1 33 [vI m1.At, vB m1.Wrap]), some (rowS PutPackedS v1 out1)]) (shr' := [Fact.sl SegS vl1 l]) [1, 2, 3, 4, 11, 12, 41] [0, 1] [0] rfl rfl rfl rfl ?_)
      rcases Bool.eq_false_or_eq_true (decide (i1 < (len l))) with hg6 | hg6
      ·replace h := br_t hg6 h
       refine Tk_condT (congrArg (fun b => some (Value.bool b)) hg6) ?_
       refine Tk_skip (Tk_seq (Tk_block (Tk_seq (Tk_region (Tops_step rfl (OpT_assign rfl rfl rfl rfl) ?_)))))
       refine Tops_nil (Tk_wkS (fr' := [(1, some (vI size)), (2, some (vI id)), (3, some (vl1)), (4, some (.pointer (some ⟨b1, 0, none⟩))), (11, some (v1)), (12, some (vI i1)), (13, some (vU16 (0 : UInt16)))]) (own' := [some (cellsR b1 33 [vI m1.At, vB m1.Wrap]), some (rowS PutPackedS v1 out1)]) (shr' := [Fact.sl SegS vl1 l]) [1, 2, 3, 4, 11, 12, 13] [0, 1] [0] rfl rfl rfl rfl ?_)
       refine Tk_seq (Tk_seq (Tk_region (Tops_step rfl (OpT_move rfl rfl rfl rfl) ?_)))
       refine Tops_step rfl (OpT_move rfl rfl rfl rfl) ?_
       obtain ⟨s1, hx3, h⟩ := ob_e h
       refine Tops_ex rfl (OpT_idxS rfl rfl rfl rfl rfl slF27 (i := 0) rfl hx3) fun p1 => ?_
       refine Tops_ex rfl (OpT_fieldP (S' := bS) (y := s1.Write) rfl rfl rfl rfl fldF59x2 (i := 1) rfl (by intro h cs hr; subst hr; rfl)) fun p2 => ?_
       refine Tops_step rfl (OpT_loadP rfl rfl rfl rfl tyF4 (i := 2) rfl rfl) ?_
       refine Tops_nil (Tk_wkS (fr' := [(1, some (vI size)), (2, some (vI id)), (3, some (vl1)), (4, some (.pointer (some ⟨b1, 0, none⟩))), (11, some (v1)), (12, some (vI i1)), (13, some (vU16 (0 : UInt16))), (48, some (vB s1.Write))]) (own' := [some (cellsR b1 33 [vI m1.At, vB m1.Wrap]), some (rowS PutPackedS v1 out1)]) (shr' := [Fact.sl SegS vl1 l]) [1, 2, 3, 4, 11, 12, 13, 48] [0, 1] [0] rfl rfl rfl rfl ?_)
       refine Tk_join (α := UInt16) (fun s => ⟨[(1, some (vI size)), (2, some (vI id)), (3, some (vl1)), (4, some (.pointer (some ⟨b1, 0, none⟩))), (11, some (v1)), (12, some (vI i1)), (13, some (vU16 s))], [some (cellsR b1 33 [vI m1.At, vB m1.Wrap]), some (rowS PutPackedS v1 out1)], [Fact.sl SegS vl1 l]⟩) (fun s => ref_Packed09J2 size id l m1 out1 i1 (ref_Packed09L1 size id l nf1) s = some r) ?_ ?_
       ·rintro f1 h
        replace h : ref_Packed09J2 size id l m1 out1 i1 (ref_Packed09L1 size id l nf1) f1 = some r := h
        unfold ref_Packed09J2 at h
        refine Tk_seq (Tk_seq (Tk_region (Tops_step rfl (OpT_move rfl rfl rfl rfl) ?_)))
        refine Tops_step rfl (OpT_bin rfl rfl rfl rfl rfl (bin_add_i (a := i1) (b := (1 : Int)))) ?_
        refine Tops_step rfl (OpT_move rfl rfl rfl rfl) ?_
        refine Tops_step rfl (OpT_lenS rfl rfl rfl rfl Try.underlying27 (i := 0) rfl) ?_
        refine Tops_step rfl (OpT_bin rfl rfl rfl rfl rfl (bin_lss_i (a := wi (i1 + (1 : Int))) (b := len l))) ?_
        refine Tops_nil (Tk_wkS (fr' := [(1, some (vI size)), (2, some (vI id)), (3, some (vl1)), (4, some (.pointer (some ⟨b1, 0, none⟩))), (11, some (v1)), (12, some (vI i1)), (13, some (vU16 f1)), (53, some (vB (decide ((wi (i1 + (1 : Int))) < (len l)))))]) (own' := [some (cellsR b1 33 [vI m1.At, vB m1.Wrap]), some (rowS PutPackedS v1 out1)]) (shr' := [Fact.sl SegS vl1 l]) [1, 2, 3, 4, 11, 12, 13, 53] [0, 1] [0] rfl rfl rfl rfl ?_)
        refine Tk_join (α := UInt16) (fun s => ⟨[(1, some (vI size)), (2, some (vI id)), (3, some (vl1)), (4, some (.pointer (some ⟨b1, 0, none⟩))), (11, some (v1)), (12, some (vI i1)), (13, some (vU16 s))], [some (cellsR b1 33 [vI m1.At, vB m1.Wrap]), some (rowS PutPackedS v1 out1)], [Fact.sl SegS vl1 l]⟩) (fun s => ref_Packed09J3 size id l m1 out1 i1 (ref_Packed09L1 size id l nf1) s = some r) ?_ ?_
        ·rintro f2 h
         replace h : ref_Packed09J3 size id l m1 out1 i1 (ref_Packed09L1 size id l nf1) f2 = some r := h
         unfold ref_Packed09J3 at h
         refine Tk_seq (Tk_drawT (by kernel_rfl) ?_)
         refine TA_tb [0, 0, 2, 0, 0, 24, 56, 120, 0, 0, 768, 1792, 3840, 0, 8192, 0, 0, 65536, 229376, 524280, 1048574, 2097150, 4194303, 8388607] (by kernel_rfl) fun htb => ?_
         obtain ⟨s2, hx4, h⟩ := ob_e h
         obtain ⟨s3, hx5, h⟩ := ob_e h
         obtain ⟨mark1, hx6, h⟩ := ob_e h
         refine TA_seg (lo := 0) (hi := 22) htb rfl rfl (by kernel_rfl) (fun c L a w => ∃ (p3 : Value), ∃ (p4 : Value), ∃ (p5 : Value), ∃ (p6 : Value), ∃ (v2 : Value), Sat c ⟨[(1, some (vI size)), (2, some (vI id)), (3, some (vl1)), (4, some (.pointer (some ⟨b1, 0, none⟩))), (11, some (v1)), (12, some (vI i1)), (13, some (vU16 f2)), (56, bif L 0 then some (v1) else none), (57, bif L 1 then some (.pointer (some ⟨b1, 0, none⟩)) else none), (58, bif L 2 then some (vI m1.At) else none), (59, bif L 3 then some (vl1) else none), (60, bif L 4 then some (vI i1) else none), (61, bif L 5 then some (p3) else none), (62, bif L 6 then some (p4) else none), (63, bif L 7 then some (vU64 s2.At) else none), (64, bif L 8 then some (vl1) else none), (65, bif L 9 then some (vI i1) else none), (66, bif L 10 then some (p5) else none), (67, bif L 11 then some (p6) else none), (68, bif L 12 then some (vU32 s3.Len) else none), (69, bif L 13 then some (vI id) else none), (70, bif L 14 then some (vU16 (u16 id)) else none), (71, bif L 15 then some (vU16 f2) else none), (72, bif L 16 then some (.pointer (some ⟨b1, 1, none⟩)) else none), (73, bif L 17 then some (vB m1.Wrap) else none), (74, bif L 18 then some (vU16 mark1) else none), (75, bif L 19 then some (.agg #[vU64 s2.At, vU32 s3.Len, vU16 (u16 id), vU16 mark1]) else none), (76, bif L 20 then some (.agg #[vI m1.At, vU64 s2.At, vU32 s3.Len, vU16 (u16 id), vU16 mark1]) else none), (77, bif L 21 then some (v2) else none)], [(some (cellsR b1 33 [vI m1.At, vB m1.Wrap]) : Option Res), (some (rowS PutPackedS v1 out1) : Option Res), (bif L 21 then some (rowS PutPackedS v2 [(PutPacked.mk m1.At (Packed.mk s2.At s3.Len (u16 id) mark1))]) else none : Option Res)], [Fact.sl SegS vl1 l, (bif L 5 then Fact.pt SegS p3 s2 else Fact.tt), (bif L 6 then Fact.pt u64S p4 s2.At else Fact.tt), (bif L 10 then Fact.pt SegS p5 s3 else Fact.tt), (bif L 11 then Fact.pt u32S p6 s3.Len else Fact.tt)]⟩ a w) [([], []), ([], [2, 20, 21]), ([1], [20, 21]), ([], [5, 6, 7, 19, 20, 21]), ([], [5, 6, 7, 19, 20, 21]), ([3, 4], [6, 7, 19, 20, 21]), ([3, 4, 5], [7, 19, 20, 21]), ([3, 4, 5, 6], [19, 20, 21]), ([], [10, 11, 12, 19, 20, 21]), ([], [10, 11, 12, 19, 20, 21]), ([8, 9], [11, 12, 19, 20, 21]), ([8, 9, 10], [12, 19, 20, 21]), ([8, 9, 10, 11], [19, 20, 21]), ([], [14, 19, 20, 21]), ([13], [19, 20, 21]), ([], [18, 19, 20, 21]), ([], [17, 18, 19, 20, 21]), ([16], [18, 19, 20, 21]), ([15, 16, 17], [19, 20, 21]), ([3, 4, 5, 6, 7, 8, 9, 10, 11, 12, 13, 14, 15, 16, 17, 18], [20, 21]), ([1, 2, 3, 4, 5, 6, 7, 8, 9, 10, 11, 12, 13, 14, 15, 16, 17, 18, 19], [21]), ([1, 2, 3, 4, 5, 6, 7, 8, 9, 10, 11, 12, 13, 14, 15, 16, 17, 18, 19, 20], [])] rfl (by kernel_rfl) ?_ (steps_cons ?_ (steps_cons ?_ (steps_cons ?_ (steps_cons ?_ (steps_cons ?_ (steps_cons ?_ (steps_cons ?_ (steps_cons ?_ (steps_cons ?_ (steps_cons ?_ (steps_cons ?_ (steps_cons ?_ (steps_cons ?_ (steps_cons ?_ (steps_cons ?_ (steps_cons ?_ (steps_cons ?_ (steps_cons ?_ (steps_cons ?_ (steps_cons ?_ (steps_cons ?_ (steps_cons ?_ (steps_nil))))))))))))))))))))))) ?_
         ·intro a w hs
          exact ⟨undef, undef, undef, undef, undef, hs.startF [56, 57, 58, 59, 60, 61, 62, 63, 64, 65, 66, 67, 68, 69, 70, 71, 72, 73, 74, 75, 76, 77] [0, 1, 2] [0, 1, 2, 3, 4] rfl rfl rfl rfl⟩
         ·intro L a w hv K Q hK
          obtain ⟨p3, p4, p5, p6, v2, hs⟩ := hv
          refine wpOp_go rfl rfl hs (OpT_move rfl rfl rfl rfl) ?_
          rintro _ rfl a' w' hs'
          exact hK a' w' ⟨p3, p4, p5, p6, v2, hs'.putF (i := 7) rfl [0, 1, 2] [0, 1, 2, 3, 4] rfl rfl rfl rfl⟩
         ·intro L a w hv K Q hK
          obtain ⟨p3, p4, p5, p6, v2, hs⟩ := hv
          refine wpOp_go rfl rfl hs (OpT_fieldC rfl rfl rfl rfl fldF33x0) ?_
          rintro _ rfl a' w' hs'
          exact hK a' w' ⟨p3, p4, p5, p6, v2, hs'.putF (i := 8) rfl [0, 1, 2] [0, 1, 2, 3, 4] rfl rfl rfl rfl⟩
         ·intro L a w hv K Q hK
          obtain ⟨p3, p4, p5, p6, v2, hs⟩ := hv
          refine wpOp_go rfl rfl hs (OpT_loadC rfl rfl rfl rfl tyF3 (i := 0) rfl rfl) ?_
          rintro _ rfl a' w' hs'
          exact hK a' w' ⟨p3, p4, p5, p6, v2, hs'.putF (i := 9) rfl [0, 1, 2] [0, 1, 2, 3, 4] rfl rfl rfl rfl⟩
         ·intro L a w hv K Q hK
          obtain ⟨p3, p4, p5, p6, v2, hs⟩ := hv
          refine wpOp_go rfl rfl hs (OpT_move rfl rfl rfl rfl) ?_
          rintro _ rfl a' w' hs'
          exact hK a' w' ⟨p3, p4, p5, p6, v2, hs'.putF (i := 10) rfl [0, 1, 2] [0, 1, 2, 3, 4] rfl rfl rfl rfl⟩
         ·intro L a w hv K Q hK
          obtain ⟨p3, p4, p5, p6, v2, hs⟩ := hv
          refine wpOp_go rfl rfl hs (OpT_move rfl rfl rfl rfl) ?_
          rintro _ rfl a' w' hs'
          exact hK a' w' ⟨p3, p4, p5, p6, v2, hs'.putF (i := 11) rfl [0, 1, 2] [0, 1, 2, 3, 4] rfl rfl rfl rfl⟩
         ·intro L a w hv K Q hK
          obtain ⟨p3, p4, p5, p6, v2, hs⟩ := hv
          refine wpOp_go rfl rfl hs (OpT_idxS rfl rfl rfl rfl rfl slF27 (i := 0) rfl hx4) ?_
          rintro _ ⟨p3', rfl⟩ a' w' hs'
          exact hK a' w' ⟨p3', p4, p5, p6, v2, hs'.putF (i := 12) rfl [0, 1, 2] [0, 5, 2, 3, 4] rfl rfl rfl rfl⟩
         ·intro L a w hv K Q hK
          obtain ⟨p3, p4, p5, p6, v2, hs⟩ := hv
          refine wpOp_go rfl rfl hs (OpT_fieldP (S' := u64S) (y := s2.At) rfl rfl rfl rfl fldF59x0 (i := 1) rfl (by intro h cs hr; subst hr; rfl)) ?_
          rintro _ ⟨p4', rfl⟩ a' w' hs'
          exact hK a' w' ⟨p3, p4', p5, p6, v2, hs'.putF (i := 13) rfl [0, 1, 2] [0, 1, 5, 3, 4] rfl rfl rfl rfl⟩
         ·intro L a w hv K Q hK
          obtain ⟨p3, p4, p5, p6, v2, hs⟩ := hv
          refine wpOp_go rfl rfl hs (OpT_loadP rfl rfl rfl rfl tyF34 (i := 2) rfl rfl) ?_
          rintro _ rfl a' w' hs'
          exact hK a' w' ⟨p3, p4, p5, p6, v2, hs'.putF (i := 14) rfl [0, 1, 2] [0, 1, 2, 3, 4] rfl rfl rfl rfl⟩
         ·intro L a w hv K Q hK
          obtain ⟨p3, p4, p5, p6, v2, hs⟩ := hv
          refine wpOp_go rfl rfl hs (OpT_move rfl rfl rfl rfl) ?_
          rintro _ rfl a' w' hs'
          exact hK a' w' ⟨p3, p4, p5, p6, v2, hs'.putF (i := 15) rfl [0, 1, 2] [0, 1, 2, 3, 4] rfl rfl rfl rfl⟩
         ·intro L a w hv K Q hK
          obtain ⟨p3, p4, p5, p6, v2, hs⟩ := hv
          refine wpOp_go rfl rfl hs (OpT_move rfl rfl rfl rfl) ?_
          rintro _ rfl a' w' hs'
          exact hK a' w' ⟨p3, p4, p5, p6, v2, hs'.putF (i := 16) rfl [0, 1, 2] [0, 1, 2, 3, 4] rfl rfl rfl rfl⟩
         ·intro L a w hv K Q hK
          obtain ⟨p3, p4, p5, p6, v2, hs⟩ := hv
          refine wpOp_go rfl rfl hs (OpT_idxS rfl rfl rfl rfl rfl slF27 (i := 0) rfl hx5) ?_
          rintro _ ⟨p5', rfl⟩ a' w' hs'
          exact hK a' w' ⟨p3, p4, p5', p6, v2, hs'.putF (i := 17) rfl [0, 1, 2] [0, 1, 2, 5, 4] rfl rfl rfl rfl⟩
         ·intro L a w hv K Q hK
          obtain ⟨p3, p4, p5, p6, v2, hs⟩ := hv
          refine wpOp_go rfl rfl hs (OpT_fieldP (S' := u32S) (y := s3.Len) rfl rfl rfl rfl fldF59x1 (i := 3) rfl (by intro h cs hr; subst hr; rfl)) ?_
          rintro _ ⟨p6', rfl⟩ a' w' hs'
          exact hK a' w' ⟨p3, p4, p5, p6', v2, hs'.putF (i := 18) rfl [0, 1, 2] [0, 1, 2, 3, 5] rfl rfl rfl rfl⟩
         ·intro L a w hv K Q hK
          obtain ⟨p3, p4, p5, p6, v2, hs⟩ := hv
          refine wpOp_go rfl rfl hs (OpT_loadP rfl rfl rfl rfl tyF35 (i := 4) rfl rfl) ?_
          rintro _ rfl a' w' hs'
          exact hK a' w' ⟨p3, p4, p5, p6, v2, hs'.putF (i := 19) rfl [0, 1, 2] [0, 1, 2, 3, 4] rfl rfl rfl rfl⟩
         ·intro L a w hv K Q hK
          obtain ⟨p3, p4, p5, p6, v2, hs⟩ := hv
          refine wpOp_go rfl rfl hs (OpT_move rfl rfl rfl rfl) ?_
          rintro _ rfl a' w' hs'
          exact hK a' w' ⟨p3, p4, p5, p6, v2, hs'.putF (i := 20) rfl [0, 1, 2] [0, 1, 2, 3, 4] rfl rfl rfl rfl⟩
         ·intro L a w hv K Q hK
          obtain ⟨p3, p4, p5, p6, v2, hs⟩ := hv
          refine wpOp_go rfl rfl hs (OpT_cnv rfl rfl rfl rfl (cnv_i_u16 (n := id) Try.underlying3 Try.underlying36)) ?_
          rintro _ rfl a' w' hs'
          exact hK a' w' ⟨p3, p4, p5, p6, v2, hs'.putF (i := 21) rfl [0, 1, 2] [0, 1, 2, 3, 4] rfl rfl rfl rfl⟩
         ·intro L a w hv K Q hK
          obtain ⟨p3, p4, p5, p6, v2, hs⟩ := hv
          refine wpOp_go rfl rfl hs (OpT_move rfl rfl rfl rfl) ?_
          rintro _ rfl a' w' hs'
          exact hK a' w' ⟨p3, p4, p5, p6, v2, hs'.putF (i := 22) rfl [0, 1, 2] [0, 1, 2, 3, 4] rfl rfl rfl rfl⟩
         ·intro L a w hv K Q hK
          obtain ⟨p3, p4, p5, p6, v2, hs⟩ := hv
          refine wpOp_go rfl rfl hs (OpT_fieldC rfl rfl rfl rfl fldF33x1) ?_
          rintro _ rfl a' w' hs'
          exact hK a' w' ⟨p3, p4, p5, p6, v2, hs'.putF (i := 23) rfl [0, 1, 2] [0, 1, 2, 3, 4] rfl rfl rfl rfl⟩
         ·intro L a w hv K Q hK
          obtain ⟨p3, p4, p5, p6, v2, hs⟩ := hv
          refine wpOp_go rfl rfl hs (OpT_loadC rfl rfl rfl rfl tyF4 (i := 0) rfl rfl) ?_
          rintro _ rfl a' w' hs'
          exact hK a' w' ⟨p3, p4, p5, p6, v2, hs'.putF (i := 24) rfl [0, 1, 2] [0, 1, 2, 3, 4] rfl rfl rfl rfl⟩
         ·intro L a w hv K Q hK
          obtain ⟨p3, p4, p5, p6, v2, hs⟩ := hv
          refine wpOp_go rfl rfl hs (OpT_call (w_ref_Mark03 hx6) [] [] rfl rfl rfl rfl rfl callee52 rfl rfl rfl rfl) ?_
          rintro _ ⟨_, _, _, ⟨rfl, rfl, rfl⟩, rfl⟩ a' w' hs'
          exact hK a' w' ⟨p3, p4, p5, p6, v2, hs'.putF (i := 25) rfl [0, 1, 2] [0, 1, 2, 3, 4] rfl rfl rfl rfl⟩
         ·intro L a w hv K Q hK
          obtain ⟨p3, p4, p5, p6, v2, hs⟩ := hv
          refine wpOp_go rfl rfl hs (OpT_build (v := .agg #[vU64 s2.At, vU32 s3.Len, vU16 (u16 id), vU16 mark1]) rfl rfl rfl rfl (bldV (by kernel_rfl))) ?_
          rintro _ rfl a' w' hs'
          exact hK a' w' ⟨p3, p4, p5, p6, v2, hs'.putF (i := 26) rfl [0, 1, 2] [0, 1, 2, 3, 4] rfl rfl rfl rfl⟩
         ·intro L a w hv K Q hK
          obtain ⟨p3, p4, p5, p6, v2, hs⟩ := hv
          refine wpOp_go rfl rfl hs (OpT_build (v := .agg #[vI m1.At, vU64 s2.At, vU32 s3.Len, vU16 (u16 id), vU16 mark1]) rfl rfl rfl rfl (bldV (by kernel_rfl))) ?_
          rintro _ rfl a' w' hs'
          exact hK a' w' ⟨p3, p4, p5, p6, v2, hs'.putF (i := 27) rfl [0, 1, 2] [0, 1, 2, 3, 4] rfl rfl rfl rfl⟩
         ·intro L a w hv K Q hK
          obtain ⟨p3, p4, p5, p6, v2, hs⟩ := hv
          refine wpOp_go rfl rfl hs (OpT_buildSlice (S := PutPackedS) (xs := [(PutPacked.mk m1.At (Packed.mk s2.At s3.Len (u16 id) mark1))]) (css := [[vI m1.At, vU64 s2.At, vU32 s3.Len, vU16 (u16 id), vU16 mark1]]) (cs := [vI m1.At, vU64 s2.At, vU32 s3.Len, vU16 (u16 id), vU16 mark1]) (e := 46) rfl rfl rfl rfl (bldF slF29 (by decide) (by kernel_rfl)) rfl rfl rfl rfl (rel_plainD (S := PutPackedS) (xs := [(PutPacked.mk m1.At (Packed.mk s2.At s3.Len (u16 id) mark1))]) (css := [[vI m1.At, vU64 s2.At, vU32 s3.Len, vU16 (u16 id), vU16 mark1]]) rfl rfl)) ?_
          rintro _ ⟨v2', rfl⟩ a' w' hs'
          exact hK a' w' ⟨p3, p4, p5, p6, v2', hs'.putF (i := 28) rfl [0, 1, 3] [0, 1, 2, 3, 4] rfl rfl rfl rfl⟩
         ·intro L a w hL hv
          rw [allTrue hL] at hv
          obtain ⟨p3, p4, p5, p6, v2, hs⟩ := hv
          refine (show TA _ _ _ 22 ⟨[(1, some (vI size)), (2, some (vI id)), (3, some (vl1)), (4, some (.pointer (some ⟨b1, 0, none⟩))), (12, some (vI i1)), (56, some (v1)), (77, some (v2))], [some (cellsR b1 33 [vI m1.At, vB m1.Wrap]), some (rowS PutPackedS v1 out1), some (rowS PutPackedS v2 [(PutPacked.mk m1.At (Packed.mk s2.At s3.Len (u16 id) mark1))])], [Fact.sl SegS vl1 l]⟩ from ?_) a w (hs.wkS [1, 2, 3, 4, 12, 56, 77] [0, 1, 2] [0] rfl rfl rfl rfl)
          clear hs hL
          obtain ⟨hc1, h⟩ := chk_e h
          refine TA_ex htb (by kernel_rfl) rfl rfl (OpT_appendB (S := PutPackedS) rfl rfl rfl rfl rfl rfl slF29 (i := 1) (j := 2) rfl rfl hc1) fun v3 => ?_
          refine TA_step htb (by kernel_rfl) rfl rfl (OpT_assign rfl rfl rfl rfl) ?_
          refine TA_end rfl ?_
          refine Tk_wkS (fr' := [(1, some (vI size)), (2, some (vI id)), (3, some (vl1)), (4, some (.pointer (some ⟨b1, 0, none⟩))), (12, some (vI i1)), (11, some (v3))]) (own' := [some (cellsR b1 33 [vI m1.At, vB m1.Wrap]), some (rowS PutPackedS v3 (out1 ++ [(PutPacked.mk m1.At (Packed.mk s2.At s3.Len (u16 id) mark1))]))]) (shr' := [Fact.sl SegS vl1 l]) [1, 2, 3, 4, 12, 11] [0, 1] [0] rfl rfl rfl rfl ?_
          refine Tk_region (Tops_step rfl (OpT_loadCA (vs := [vI m1.At, vB m1.Wrap]) rfl rfl rfl rfl tyF33 (i := 0) rfl rfl rfl) ?_)
          refine Tops_step rfl (OpT_move rfl rfl rfl rfl) ?_
          obtain ⟨go1, hx7, h⟩ := ob_e h
          refine Tops_exP rfl (OpT_call (w_ref_Go01 hx7) [] [] rfl rfl rfl rfl rfl callee53 rfl rfl rfl rfl) ?_
          rintro _ ⟨_, _, _, ⟨rfl, rfl, rfl⟩, rfl⟩
          refine Tops_step rfl (OpT_move rfl rfl rfl rfl) ?_
          refine Tops_step rfl (OpT_extract rfl rfl rfl rfl rfl) ?_
          refine Tops_step rfl (OpT_extract rfl rfl rfl rfl rfl) ?_
          refine Tops_step rfl (OpT_storeC (cs' := [vI go1.1.At, vB go1.1.Wrap]) rfl rfl rfl rfl tyF33 (i := 0) rfl rfl rfl (one_of rfl) rfl) ?_
          refine Tops_nil (Tk_wkS (fr' := [(1, some (vI size)), (2, some (vI id)), (3, some (vl1)), (4, some (.pointer (some ⟨b1, 0, none⟩))), (12, some (vI i1)), (11, some (v3))]) (own' := [some (cellsR b1 33 [vI go1.1.At, vB go1.1.Wrap]), some (rowS PutPackedS v3 (out1 ++ [(PutPacked.mk m1.At (Packed.mk s2.At s3.Len (u16 id) mark1))]))]) (shr' := [Fact.sl SegS vl1 l]) [1, 2, 3, 4, 12, 11] [0, 1] [0] rfl rfl rfl rfl ?_)
          refine Tk_blk (Tk_region (Tops_step rfl (OpT_move rfl rfl rfl rfl) ?_))
          refine Tops_step rfl (OpT_bin rfl rfl rfl rfl rfl (bin_add_i (a := i1) (b := (1 : Int)))) ?_
          refine Tops_step rfl (OpT_assign rfl rfl rfl rfl) ?_
          refine Tops_nil (Tk_wkS (fr' := [(1, some (vI size)), (2, some (vI id)), (3, some (vl1)), (4, some (.pointer (some ⟨b1, 0, none⟩))), (12, some (vI (wi (i1 + (1 : Int))))), (11, some (v3))]) (own' := [some (cellsR b1 33 [vI go1.1.At, vB go1.1.Wrap]), some (rowS PutPackedS v3 (out1 ++ [(PutPacked.mk m1.At (Packed.mk s2.At s3.Len (u16 id) mark1))]))]) (shr' := [Fact.sl SegS vl1 l]) [1, 2, 3, 4, 12, 11] [0, 1] [0] rfl rfl rfl rfl ?_)
          exact Tk_backS (go1.1, out1 ++ [(PutPacked.mk m1.At (Packed.mk s2.At s3.Len (u16 id) mark1))], wi (i1 + (1 : Int)), v3) h [1, 2, 3, 4, 11, 12] [0, 1] [0] rfl rfl rfl rfl rfl
        ·intro HJ1
         rcases Bool.eq_false_or_eq_true (decide ((wi (i1 + (1 : Int))) < (len l))) with hg7 | hg7
         ·replace h := br_t hg7 h
          refine Tk_condT (congrArg (fun b => some (Value.bool b)) hg7) ?_
          refine Tk_region (Tops_step rfl (OpT_move rfl rfl rfl rfl) ?_)
          refine Tops_step rfl (OpT_bin rfl rfl rfl rfl rfl (bin_or_u16 (a := f1) (b := (1 : UInt16)))) ?_
          refine Tops_step rfl (OpT_assign rfl rfl rfl rfl) ?_
          refine Tops_nil (Tk_wkS (fr' := [(1, some (vI size)), (2, some (vI id)), (3, some (vl1)), (4, some (.pointer (some ⟨b1, 0, none⟩))), (11, some (v1)), (12, some (vI i1)), (13, some (vU16 (f1 ||| (1 : UInt16))))]) (own' := [some (cellsR b1 33 [vI m1.At, vB m1.Wrap]), some (rowS PutPackedS v1 out1)]) (shr' := [Fact.sl SegS vl1 l]) [1, 2, 3, 4, 11, 12, 13] [0, 1] [0] rfl rfl rfl rfl ?_)
          exact Tk_jmpS (HJ1 (f1 ||| (1 : UInt16)) h) [1, 2, 3, 4, 11, 12, 13] [0, 1] [0] rfl rfl rfl rfl
         ·replace h := br_f hg7 h
          refine Tk_condF (congrArg (fun b => some (Value.bool b)) hg7) ?_
          refine Tk_skip ?_
          exact Tk_jmpS (HJ1 f1 h) [1, 2, 3, 4, 11, 12, 13] [0, 1] [0] rfl rfl rfl rfl
       ·intro HJ2
        rcases Bool.eq_false_or_eq_true (s1.Write) with hg8 | hg8
        ·replace h := br_t hg8 h
         refine Tk_condT (congrArg (fun b => some (Value.bool b)) hg8) ?_
         refine Tk_region (Tops_step rfl (OpT_assign rfl rfl rfl rfl) ?_)
         refine Tops_nil (Tk_wkS (fr' := [(1, some (vI size)), (2, some (vI id)), (3, some (vl1)), (4, some (.pointer (some ⟨b1, 0, none⟩))), (11, some (v1)), (12, some (vI i1)), (13, some (vU16 (2 : UInt16)))]) (own' := [some (cellsR b1 33 [vI m1.At, vB m1.Wrap]), some (rowS PutPackedS v1 out1)]) (shr' := [Fact.sl SegS vl1 l]) [1, 2, 3, 4, 11, 12, 13] [0, 1] [0] rfl rfl rfl rfl ?_)
         exact Tk_jmpS (HJ2 (2 : UInt16) h) [1, 2, 3, 4, 11, 12, 13] [0, 1] [0] rfl rfl rfl rfl
        ·replace h := br_f hg8 h
         refine Tk_condF (congrArg (fun b => some (Value.bool b)) hg8) ?_
         refine Tk_skip ?_
         exact Tk_jmpS (HJ2 (0 : UInt16) h) [1, 2, 3, 4, 11, 12, 13] [0, 1] [0] rfl rfl rfl rfl
      ·replace h := br_f hg6 h
       refine Tk_condF (congrArg (fun b => some (Value.bool b)) hg6) ?_
       refine Tk_exit _ rfl ?_
       refine Tk_seq (Tk_region (Tops_step rfl (OpT_move rfl rfl rfl rfl) ?_))
       refine Tops_step rfl (OpT_assign rfl rfl rfl rfl) ?_
       refine Tops_step rfl (OpT_assign rfl rfl rfl rfl) ?_
       refine Tops_nil (Tk_wkS (fr' := [(8, some (v1)), (9, some (vI (0 : Int)))]) (own' := [some (rowS PutPackedS v1 out1)]) (shr' := []) [8, 9] [1] [] rfl rfl rfl rfl ?_)
       obtain rfl := Option.some.inj h
       exact Tk_retV rfl rfl (resA (vs := [v1, vI (0 : Int)]) rfl ⟨rfl, rfl, trivial⟩) [0] [] rfl rfl rfl ⟨v1, rfl, rfl, rfl⟩

set_option maxRecDepth 100000 in
set_option maxHeartbeats 4000000 in
theorem w_ref_put03 {b : List UInt8} {vp1 : UInt64} {np2 : Int} {v_b : Value} {r : (List UInt8)} (h : ref_put03 b vp1 np2 = some r) :
  Ctr Try.prog 64 #[v_b, vU64 vp1, vI np2] [(rowS u8S v_b b)] []
   (fun rv own shr => ∃ (w1 : Value), rv = w1 ∧ own = [(rowS u8S w1 r)] ∧ shr = []) := by
 unfold ref_put03 at h
 refine Ctr.mk (args := [v_b, vU64 vp1, vI np2]) Try.func64 rfl rfl (fun R0 w0 B => ?_)
 refine Tk_seq (Tk_region (Tops_step rfl (OpT_assign rfl rfl rfl rfl) ?_))
 refine Tops_nil (Tk_wkS (fr' := [(0, some (v_b)), (1, some (vU64 vp1)), (2, some (vI np2))]) (own' := [some (rowS u8S v_b b)]) (shr' := []) [0, 1, 2] [0] [] rfl rfl rfl rfl ?_)
 refine Tk_seq (Tk_seq (Tk_region (Tops_step rfl (OpT_assign rfl rfl rfl rfl) ?_)))
 refine Tops_nil (Tk_block (Tk_loopS (σ := (List UInt8) × Int × Value) [0, 1, 2, 7] [0] [] (fun s => ⟨[(0, some (s.2.2)), (1, some (vU64 vp1)), (2, some (vI np2)), (7, some (vI s.2.1))], [some (rowS u8S s.2.2 s.1)], []⟩) (fun nf1 s => ref_put03L1 vp1 np2 nf1 s.1 s.2.1 = some r) fuel (b, (0 : Int), v_b) h rfl rfl rfl rfl rfl (fun s h => by cases h) ?_))
 rintro nf1 ⟨b1, i1, v1⟩ h
 replace h : ref_put03L1B vp1 np2 (ref_put03L1 vp1 np2 nf1) b1 i1 = some r := h
 unfold ref_put03L1B at h
 refine Tk_seq (Tk_seq (Tk_region (Tops_step rfl (OpT_move rfl rfl rfl rfl) ?_)))
 refine Tops_step rfl (OpT_move rfl rfl rfl rfl) ?_
 refine Tops_step rfl (OpT_bin rfl rfl rfl rfl rfl (bin_lss_i (a := i1) (b := np2))) ?_
 refine Tops_nil (Tk_wkS (fr' := [(0, some (v1)), (1, some (vU64 vp1)), (2, some (vI np2)), (7, some (vI i1)), (10, some (vB (decide (i1 < np2))))]) (own' := [some (rowS u8S v1 b1)]) (shr' := []) [0, 1, 2, 7, 10] [0] [] rfl rfl rfl rfl ?_)
 rcases Bool.eq_false_or_eq_true (decide (i1 < np2)) with hg1 | hg1
 ·replace h := br_t hg1 h
  refine Tk_condT (congrArg (fun b => some (Value.bool b)) hg1) ?_
  refine Tk_skip (Tk_seq (Tk_block (Tk_region (Tops_step rfl (OpT_move rfl rfl rfl rfl) ?_))))
  refine Tops_step rfl (OpT_move rfl rfl rfl rfl) ?_
  refine Tops_step rfl (OpT_move rfl rfl rfl rfl) ?_
  refine Tops_step rfl (OpT_bin rfl rfl rfl rfl rfl (bin_mul_i (a := (8 : Int)) (b := i1))) ?_
  refine Tops_step rfl (OpT_cnv rfl rfl rfl rfl (cnv_i_u64 (n := wi ((8 : Int) * i1)) Try.underlying3 Try.underlying108)) ?_
  refine Tops_step rfl (OpT_bin rfl rfl rfl rfl rfl (bin_shr_u64_u64 (a := vp1) (n := u64 (wi ((8 : Int) * i1))))) ?_
  refine Tops_step rfl (OpT_cnv rfl rfl rfl rfl (cnv_u64_u8 (n := shr64 vp1 ((u64 (wi ((8 : Int) * i1))).toNat)) Try.underlying34 Try.underlying5)) ?_
  refine Tops_ex rfl (OpT_buildSlice (S := u8S) (xs := [(shr64 vp1 ((u64 (wi ((8 : Int) * i1))).toNat)).toUInt8]) (css := [[vU8 ((shr64 vp1 ((u64 (wi ((8 : Int) * i1))).toNat)).toUInt8)]]) (cs := [vU8 ((shr64 vp1 ((u64 (wi ((8 : Int) * i1))).toNat)).toUInt8)]) (e := 5) rfl rfl rfl rfl (bldF slF49 (by decide) (by kernel_rfl)) rfl rfl rfl rfl (rel_plainD (S := u8S) (xs := [(shr64 vp1 ((u64 (wi ((8 : Int) * i1))).toNat)).toUInt8]) (css := [[vU8 ((shr64 vp1 ((u64 (wi ((8 : Int) * i1))).toNat)).toUInt8)]]) rfl rfl)) fun v2 => ?_
  obtain ⟨hc1, h⟩ := chk_e h
  refine Tops_ex rfl (OpT_appendB (S := u8S) rfl rfl rfl rfl rfl rfl slF49 (i := 0) (j := 1) rfl rfl hc1) fun v3 => ?_
  refine Tops_step rfl (OpT_assign rfl rfl rfl rfl) ?_
  refine Tops_nil (Tk_wkS (fr' := [(0, some (v3)), (1, some (vU64 vp1)), (2, some (vI np2)), (7, some (vI i1))]) (own' := [some (rowS u8S v3 (b1 ++ [(shr64 vp1 ((u64 (wi ((8 : Int) * i1))).toNat)).toUInt8]))]) (shr' := []) [0, 1, 2, 7] [0] [] rfl rfl rfl rfl ?_)
  refine Tk_blk (Tk_region (Tops_step rfl (OpT_move rfl rfl rfl rfl) ?_))
  refine Tops_step rfl (OpT_bin rfl rfl rfl rfl rfl (bin_add_i (a := i1) (b := (1 : Int)))) ?_
  refine Tops_step rfl (OpT_assign rfl rfl rfl rfl) ?_
  refine Tops_nil (Tk_wkS (fr' := [(0, some (v3)), (1, some (vU64 vp1)), (2, some (vI np2)), (7, some (vI (wi (i1 + (1 : Int)))))]) (own' := [some (rowS u8S v3 (b1 ++ [(shr64 vp1 ((u64 (wi ((8 : Int) * i1))).toNat)).toUInt8]))]) (shr' := []) [0, 1, 2, 7] [0] [] rfl rfl rfl rfl ?_)
  exact Tk_backS (b1 ++ [(shr64 vp1 ((u64 (wi ((8 : Int) * i1))).toNat)).toUInt8], wi (i1 + (1 : Int)), v3) h [0, 1, 2, 7] [0] [] rfl rfl rfl rfl rfl
 ·replace h := br_f hg1 h
  refine Tk_condF (congrArg (fun b => some (Value.bool b)) hg1) ?_
  refine Tk_exit _ rfl ?_
  refine Tk_seq (Tk_region (Tops_step rfl (OpT_move rfl rfl rfl rfl) ?_))
  refine Tops_step rfl (OpT_assign rfl rfl rfl rfl) ?_
  refine Tops_nil (Tk_wkS (fr' := [(6, some (v1))]) (own' := [some (rowS u8S v1 b1)]) (shr' := []) [6] [0] [] rfl rfl rfl rfl ?_)
  obtain rfl := Option.some.inj h
  exact Tk_retV rfl rfl (resA (vs := [v1]) rfl ⟨rfl, trivial⟩) [0] [] rfl rfl rfl ⟨v1, rfl, rfl, rfl⟩

set_option maxRecDepth 100000 in
set_option maxHeartbeats 4000000 in
theorem w_ref_Bytes03 {dp0 : Desc} {r : (List UInt8)} (h : ref_Bytes03 dp0 = some r) :
  Ctr Try.prog 54 #[.agg #[vU64 dp0.Addr, vU32 dp0.Len, vU16 dp0.Flags, vU16 dp0.Next]] [] []
   (fun rv own shr => ∃ (w1 : Value), rv = w1 ∧ own = [(rowS u8S w1 r)] ∧ shr = []) := by
 unfold ref_Bytes03 at h
 refine Ctr.mk (args := [.agg #[vU64 dp0.Addr, vU32 dp0.Len, vU16 dp0.Flags, vU16 dp0.Next]]) Try.func54 rfl rfl (fun R0 w0 B => ?_)
 refine Tk_seq (Tk_region (Tops_ex rfl (OpT_box rfl rfl rfl rfl) fun b1 => ?_))
 refine Tops_step rfl (OpT_assign rfl rfl rfl rfl) ?_
 refine Tops_nil (Tk_wkS (fr' := [(1, some (.pointer (some ⟨b1, 0, none⟩)))]) (own' := [some (cellsR b1 38 [vU64 dp0.Addr, vU32 dp0.Len, vU16 dp0.Flags, vU16 dp0.Next])]) (shr' := []) [1] [0] [] rfl rfl rfl rfl ?_)
 refine Tk_seq (Tk_drawT (by kernel_rfl) ?_)
 refine TA_tb [0, 1, 3, 0, 8, 24, 63, 0, 128, 384, 1023, 0, 2048, 6144, 16383, 32767] (by kernel_rfl) fun htb => ?_
 refine TA_nilrow u8S ?_
 obtain ⟨put1, hx1, h⟩ := ob_e h
 obtain ⟨put2, hx2, h⟩ := ob_e h
 obtain ⟨put3, hx3, h⟩ := ob_e h
 refine TA_seg (lo := 0) (hi := 14) htb rfl rfl (by kernel_rfl) (fun c L a w => ∃ (v1 : Value), ∃ (v2 : Value), ∃ (v3 : Value), Sat c ⟨[(1, some (.pointer (some ⟨b1, 0, none⟩))), (3, bif L 0 then some (.pointer (some ⟨b1, 0, none⟩)) else none), (4, bif L 1 then some (vU64 dp0.Addr) else none), (5, bif L 2 then some (v1) else none), (6, bif L 3 then some (.pointer (some ⟨b1, 1, none⟩)) else none), (7, bif L 4 then some (vU32 dp0.Len) else none), (8, bif L 5 then some (vU64 dp0.Len.toUInt64) else none), (9, bif L 6 then some (v2) else none), (10, bif L 7 then some (.pointer (some ⟨b1, 2, none⟩)) else none), (11, bif L 8 then some (vU16 dp0.Flags) else none), (12, bif L 9 then some (vU64 dp0.Flags.toUInt64) else none), (13, bif L 10 then some (v3) else none), (14, bif L 11 then some (.pointer (some ⟨b1, 3, none⟩)) else none), (15, bif L 12 then some (vU16 dp0.Next) else none), (16, bif L 13 then some (vU64 dp0.Next.toUInt64) else none)], [(some (cellsR b1 38 [vU64 dp0.Addr, vU32 dp0.Len, vU16 dp0.Flags, vU16 dp0.Next]) : Option Res), (bif L 2 then none else some (rowS u8S (.slice none 0 0) ([] : List UInt8)) : Option Res), (bif L 6 then none else bif L 2 then some (rowS u8S v1 put1) else none : Option Res), (bif L 10 then none else bif L 6 then some (rowS u8S v2 put2) else none : Option Res), (bif L 10 then some (rowS u8S v3 put3) else none : Option Res)], []⟩ a w) [([], [1, 2, 6, 10]), ([0], [2, 6, 10]), ([0, 1], [6, 10]), ([], [4, 5, 6, 10]), ([3], [5, 6, 10]), ([3, 4], [6, 10]), ([0, 1, 2, 3, 4, 5], [10]), ([], [8, 9, 10]), ([7], [9, 10]), ([7, 8], [10]), ([0, 1, 2, 3, 4, 5, 6, 7, 8, 9], []), ([], [12, 13]), ([11], [13]), ([11, 12], [])] rfl (by kernel_rfl) ?_ (steps_cons ?_ (steps_cons ?_ (steps_cons ?_ (steps_cons ?_ (steps_cons ?_ (steps_cons ?_ (steps_cons ?_ (steps_cons ?_ (steps_cons ?_ (steps_cons ?_ (steps_cons ?_ (steps_cons ?_ (steps_cons ?_ (steps_cons ?_ (steps_nil))))))))))))))) ?_
 ·intro a w hs
  exact ⟨undef, undef, undef, hs.startF [3, 4, 5, 6, 7, 8, 9, 10, 11, 12, 13, 14, 15, 16] [0, 1, 2, 3, 4] [] rfl rfl rfl rfl⟩
 ·intro L a w hv K Q hK
  obtain ⟨v1, v2, v3, hs⟩ := hv
  refine wpOp_go rfl rfl hs (OpT_fieldC rfl rfl rfl rfl fldF38x0) ?_
  rintro _ rfl a' w' hs'
  exact hK a' w' ⟨v1, v2, v3, hs'.putF (i := 1) rfl [0, 1, 2, 3, 4] [] rfl rfl rfl rfl⟩
 ·intro L a w hv K Q hK
  obtain ⟨v1, v2, v3, hs⟩ := hv
  refine wpOp_go rfl rfl hs (OpT_loadC rfl rfl rfl rfl tyF34 (i := 0) rfl rfl) ?_
  rintro _ rfl a' w' hs'
  exact hK a' w' ⟨v1, v2, v3, hs'.putF (i := 2) rfl [0, 1, 2, 3, 4] [] rfl rfl rfl rfl⟩
 ·intro L a w hv K Q hK
  obtain ⟨v1, v2, v3, hs⟩ := hv
  refine wpOp_go rfl rfl hs (OpT_call (w_ref_put03 hx1) [1] [] rfl rfl rfl rfl rfl callee64 rfl rfl rfl rfl) ?_
  rintro _ ⟨v1', _, _, ⟨_, rfl, rfl, rfl⟩, rfl⟩ a' w' hs'
  exact hK a' w' ⟨v1', v2, v3, hs'.putF (i := 3) rfl [0, 1, 5, 3, 4] [] rfl rfl rfl rfl⟩
 ·intro L a w hv K Q hK
  obtain ⟨v1, v2, v3, hs⟩ := hv
  refine wpOp_go rfl rfl hs (OpT_fieldC rfl rfl rfl rfl fldF38x1) ?_
  rintro _ rfl a' w' hs'
  exact hK a' w' ⟨v1, v2, v3, hs'.putF (i := 4) rfl [0, 1, 2, 3, 4] [] rfl rfl rfl rfl⟩
 ·intro L a w hv K Q hK
  obtain ⟨v1, v2, v3, hs⟩ := hv
  refine wpOp_go rfl rfl hs (OpT_loadC rfl rfl rfl rfl tyF35 (i := 0) rfl rfl) ?_
  rintro _ rfl a' w' hs'
  exact hK a' w' ⟨v1, v2, v3, hs'.putF (i := 5) rfl [0, 1, 2, 3, 4] [] rfl rfl rfl rfl⟩
 ·intro L a w hv K Q hK
  obtain ⟨v1, v2, v3, hs⟩ := hv
  refine wpOp_go rfl rfl hs (OpT_cnv rfl rfl rfl rfl (cnv_u32_u64 (n := dp0.Len) Try.underlying35 Try.underlying34)) ?_
  rintro _ rfl a' w' hs'
  exact hK a' w' ⟨v1, v2, v3, hs'.putF (i := 6) rfl [0, 1, 2, 3, 4] [] rfl rfl rfl rfl⟩
 ·intro L a w hv K Q hK
  obtain ⟨v1, v2, v3, hs⟩ := hv
  refine wpOp_go rfl rfl hs (OpT_call (w_ref_put03 hx2) [2] [] rfl rfl rfl rfl rfl callee64 rfl rfl rfl rfl) ?_
  rintro _ ⟨v2', _, _, ⟨_, rfl, rfl, rfl⟩, rfl⟩ a' w' hs'
  exact hK a' w' ⟨v1, v2', v3, hs'.putF (i := 7) rfl [0, 1, 2, 5, 4] [] rfl rfl rfl rfl⟩
 ·intro L a w hv K Q hK
  obtain ⟨v1, v2, v3, hs⟩ := hv
  refine wpOp_go rfl rfl hs (OpT_fieldC rfl rfl rfl rfl fldF38x2) ?_
  rintro _ rfl a' w' hs'
  exact hK a' w' ⟨v1, v2, v3, hs'.putF (i := 8) rfl [0, 1, 2, 3, 4] [] rfl rfl rfl rfl⟩
 ·intro L a w hv K Q hK
  obtain ⟨v1, v2, v3, hs⟩ := hv
  refine wpOp_go rfl rfl hs (OpT_loadC rfl rfl rfl rfl tyF36 (i := 0) rfl rfl) ?_
  rintro _ rfl a' w' hs'
  exact hK a' w' ⟨v1, v2, v3, hs'.putF (i := 9) rfl [0, 1, 2, 3, 4] [] rfl rfl rfl rfl⟩
 ·intro L a w hv K Q hK
  obtain ⟨v1, v2, v3, hs⟩ := hv
  refine wpOp_go rfl rfl hs (OpT_cnv rfl rfl rfl rfl (cnv_u16_u64 (n := dp0.Flags) Try.underlying36 Try.underlying34)) ?_
  rintro _ rfl a' w' hs'
  exact hK a' w' ⟨v1, v2, v3, hs'.putF (i := 10) rfl [0, 1, 2, 3, 4] [] rfl rfl rfl rfl⟩
 ·intro L a w hv K Q hK
  obtain ⟨v1, v2, v3, hs⟩ := hv
  refine wpOp_go rfl rfl hs (OpT_call (w_ref_put03 hx3) [3] [] rfl rfl rfl rfl rfl callee64 rfl rfl rfl rfl) ?_
  rintro _ ⟨v3', _, _, ⟨_, rfl, rfl, rfl⟩, rfl⟩ a' w' hs'
  exact hK a' w' ⟨v1, v2, v3', hs'.putF (i := 11) rfl [0, 1, 2, 3, 5] [] rfl rfl rfl rfl⟩
 ·intro L a w hv K Q hK
  obtain ⟨v1, v2, v3, hs⟩ := hv
  refine wpOp_go rfl rfl hs (OpT_fieldC rfl rfl rfl rfl fldF38x3) ?_
  rintro _ rfl a' w' hs'
  exact hK a' w' ⟨v1, v2, v3, hs'.putF (i := 12) rfl [0, 1, 2, 3, 4] [] rfl rfl rfl rfl⟩
 ·intro L a w hv K Q hK
  obtain ⟨v1, v2, v3, hs⟩ := hv
  refine wpOp_go rfl rfl hs (OpT_loadC rfl rfl rfl rfl tyF36 (i := 0) rfl rfl) ?_
  rintro _ rfl a' w' hs'
  exact hK a' w' ⟨v1, v2, v3, hs'.putF (i := 13) rfl [0, 1, 2, 3, 4] [] rfl rfl rfl rfl⟩
 ·intro L a w hv K Q hK
  obtain ⟨v1, v2, v3, hs⟩ := hv
  refine wpOp_go rfl rfl hs (OpT_cnv rfl rfl rfl rfl (cnv_u16_u64 (n := dp0.Next) Try.underlying36 Try.underlying34)) ?_
  rintro _ rfl a' w' hs'
  exact hK a' w' ⟨v1, v2, v3, hs'.putF (i := 14) rfl [0, 1, 2, 3, 4] [] rfl rfl rfl rfl⟩
 ·intro L a w hL hv
  rw [allTrue hL] at hv
  obtain ⟨v1, v2, v3, hs⟩ := hv
  refine (show TA _ _ _ 14 ⟨[(13, some (v3)), (16, some (vU64 dp0.Next.toUInt64))], [some (rowS u8S v3 put3)], []⟩ from ?_) a w (hs.wkS [13, 16] [4] [] rfl rfl rfl rfl)
  clear hs hL
  obtain ⟨put4, hx4, h⟩ := ob_e h
  refine TA_exP htb (by kernel_rfl) rfl rfl (OpT_call (w_ref_put03 hx4) [0] [] rfl rfl rfl rfl rfl callee64 rfl rfl rfl rfl) ?_
  rintro _ ⟨v4, _, _, ⟨_, rfl, rfl, rfl⟩, rfl⟩
  refine TA_step htb (by kernel_rfl) rfl rfl (OpT_assign rfl rfl rfl rfl) ?_
  refine TA_end rfl ?_
  refine Tk_wkS (fr' := [(2, some (v4))]) (own' := [some (rowS u8S v4 put4)]) (shr' := []) [2] [1] [] rfl rfl rfl rfl ?_
  obtain rfl := Option.some.inj h
  exact Tk_retV rfl rfl (resA (vs := [v4]) rfl ⟨rfl, trivial⟩) [0] [] rfl rfl rfl ⟨v4, rfl, rfl, rfl⟩

set_option maxRecDepth 100000 in
set_option maxHeartbeats 4000000 in
theorem w_ref_SplitTable09 {l : List Seg} {vl1 : Value} {r : ((List UInt8) × Int)} (h : ref_SplitTable09 l = some r) :
  Ctr Try.prog 26 #[vl1] [] [Fact.sl SegS vl1 l]
   (fun rv own shr => ∃ (w1 : Value), rv = .tuple #[w1, vI r.2] ∧ own = [(rowS u8S w1 r.1)] ∧ shr = []) := by
 unfold ref_SplitTable09 at h
 refine Ctr.mk (args := [vl1]) Try.func26 rfl rfl (fun R0 w0 B => ?_)
 refine Tk_seq (Tk_region (Tops_step rfl (OpT_assign rfl rfl rfl rfl) ?_))
 refine Tops_step rfl (OpT_assign rfl rfl rfl rfl) ?_
 refine Tops_nil (Tk_wkS (fr' := [(0, some (vl1))]) (own' := []) (shr' := [Fact.sl SegS vl1 l]) [0] [] [0] rfl rfl rfl rfl ?_)
 refine Tk_seq (Tk_region (Tops_step rfl (OpT_assign rfl rfl rfl rfl) ?_))
 refine Tops_nil (Tk_seq (Tk_seq (Tk_region (Tops_step rfl (OpT_assign rfl rfl rfl rfl) ?_))))
 refine Tops_nil (Tk_block (Tk_nilrow iS ?_))
 refine Tk_loopS (σ := (List Int) × Int × Value) [0, 4, 5] [0] [0] (fun s => ⟨[(0, some (vl1)), (4, some (s.2.2)), (5, some (vI s.2.1))], [some (rowS iS s.2.2 s.1)], [Fact.sl SegS vl1 l]⟩) (fun nf1 s => ref_SplitTable09L1 l nf1 s.1 s.2.1 = some r) fuel ([], (0 : Int), (.slice none 0 0)) h rfl rfl rfl rfl rfl (fun s h => by cases h) ?_
 rintro nf1 ⟨ids1, i1, v1⟩ h
 replace h : ref_SplitTable09L1B l (ref_SplitTable09L1 l nf1) ids1 i1 = some r := h
 unfold ref_SplitTable09L1B at h
 refine Tk_seq (Tk_seq (Tk_region (Tops_step rfl (OpT_move rfl rfl rfl rfl) ?_)))
 refine Tops_step rfl (OpT_move rfl rfl rfl rfl) ?_
 refine Tops_step rfl (OpT_lenS rfl rfl rfl rfl Try.underlying27 (i := 0) rfl) ?_
 refine Tops_step rfl (OpT_bin rfl rfl rfl rfl rfl (bin_lss_i (a := i1) (b := len l))) ?_
 refine Tops_nil (Tk_wkS (fr' := [(0, some (vl1)), (4, some (v1)), (5, some (vI i1)), (13, some (vB (decide (i1 < (len l)))))]) (own' := [some (rowS iS v1 ids1)]) (shr' := [Fact.sl SegS vl1 l]) [0, 4, 5, 13] [0] [0] rfl rfl rfl rfl ?_)
 rcases Bool.eq_false_or_eq_true (decide (i1 < (len l))) with hg1 | hg1
 ·replace h := br_t hg1 h
  refine Tk_condT (congrArg (fun b => some (Value.bool b)) hg1) ?_
  refine Tk_skip (Tk_seq (Tk_block (Tk_region (Tops_step rfl (OpT_move rfl rfl rfl rfl) ?_))))
  refine Tops_step rfl (OpT_move rfl rfl rfl rfl) ?_
  refine Tops_ex rfl (OpT_buildSlice (S := iS) (xs := [i1]) (css := [[vI i1]]) (cs := [vI i1]) (e := 3) rfl rfl rfl rfl (bldF slF26 (by decide) (by kernel_rfl)) rfl rfl rfl rfl (rel_plainD (S := iS) (xs := [i1]) (css := [[vI i1]]) rfl rfl)) fun v2 => ?_
  obtain ⟨hc1, h⟩ := chk_e h
  refine Tops_ex rfl (OpT_appendB (S := iS) rfl rfl rfl rfl rfl rfl slF26 (i := 0) (j := 1) rfl rfl hc1) fun v3 => ?_
  refine Tops_step rfl (OpT_assign rfl rfl rfl rfl) ?_
  refine Tops_nil (Tk_wkS (fr' := [(0, some (vl1)), (4, some (v3)), (5, some (vI i1))]) (own' := [some (rowS iS v3 (ids1 ++ [i1]))]) (shr' := [Fact.sl SegS vl1 l]) [0, 4, 5] [0] [0] rfl rfl rfl rfl ?_)
  refine Tk_blk (Tk_region (Tops_step rfl (OpT_move rfl rfl rfl rfl) ?_))
  refine Tops_step rfl (OpT_bin rfl rfl rfl rfl rfl (bin_add_i (a := i1) (b := (1 : Int)))) ?_
  refine Tops_step rfl (OpT_assign rfl rfl rfl rfl) ?_
  refine Tops_nil (Tk_wkS (fr' := [(0, some (vl1)), (4, some (v3)), (5, some (vI (wi (i1 + (1 : Int)))))]) (own' := [some (rowS iS v3 (ids1 ++ [i1]))]) (shr' := [Fact.sl SegS vl1 l]) [0, 4, 5] [0] [0] rfl rfl rfl rfl ?_)
  exact Tk_backS (ids1 ++ [i1], wi (i1 + (1 : Int)), v3) h [0, 4, 5] [0] [0] rfl rfl rfl rfl rfl
 ·replace h := br_f hg1 h
  refine Tk_condF (congrArg (fun b => some (Value.bool b)) hg1) ?_
  refine Tk_exit _ rfl ?_
  refine Tk_seq (Tk_region (Tops_step rfl (OpT_move rfl rfl rfl rfl) ?_))
  refine Tops_step rfl (OpT_move rfl rfl rfl rfl) ?_
  obtain ⟨split1, hx1, h⟩ := ob_e h
  refine Tops_exP rfl (OpT_callB [0] [0, 1] (w_ref_Split09 hx1) [] rfl rfl rfl rfl rfl callee22 rfl rfl rfl rfl rfl rfl (bor_cons (bor_row 0 rfl rfl) (bor_cons (bor_shr 0 rfl) bor_nil)) (by rintro _ _ _ ⟨_, rfl, rfl, rfl⟩; exact ⟨rfl, (ri_cons (ri_row (S := PutS) rfl _ _) ri_nil)⟩)) ?_
  rintro _ ⟨_, _, _, ⟨v4, rfl, rfl, rfl⟩, rfl⟩
  refine Tops_step rfl (OpT_move rfl rfl rfl rfl) ?_
  refine Tops_step rfl (OpT_extract rfl rfl rfl rfl rfl) ?_
  refine Tops_step rfl (OpT_extract rfl rfl rfl rfl rfl) ?_
  refine Tops_step rfl (OpT_assign rfl rfl rfl rfl) ?_
  refine Tops_step rfl (OpT_assign rfl rfl rfl rfl) ?_
  refine Tops_nil (Tk_wkS (fr' := [(6, some (v4)), (7, some (vI split1.2))]) (own' := [some (rowS PutS v4 split1.1)]) (shr' := []) [6, 7] [1] [] rfl rfl rfl rfl ?_)
  refine Tk_seq (Tk_region (Tops_step rfl (OpT_assign rfl rfl rfl rfl) ?_))
  refine Tops_nil (Tk_seq (Tk_seq (Tk_region (Tops_step rfl (OpT_assign rfl rfl rfl rfl) ?_))))
  refine Tops_nil (Tk_block (Tk_nilrow u8S ?_))
  refine Tk_loopS (σ := (List Put) × (List UInt8) × Int × Value × Value) [6, 7, 8, 9] [0, 1] [] (fun s => ⟨[(6, some (s.2.2.2.1)), (7, some (vI split1.2)), (8, some (s.2.2.2.2)), (9, some (vI s.2.2.1))], [some (rowS PutS s.2.2.2.1 s.1), some (rowS u8S s.2.2.2.2 s.2.1)], []⟩) (fun nf2 s => ref_SplitTable09L2 split1 nf2 s.1 s.2.1 s.2.2.1 = some r) fuel (split1.1, [], (0 : Int), v4, (.slice none 0 0)) h rfl rfl rfl rfl rfl (fun s h => by cases h) ?_
  rintro nf2 ⟨l1, out1, i2, v5, v6⟩ h
  replace h : ref_SplitTable09L2B split1 (ref_SplitTable09L2 split1 nf2) l1 out1 i2 = some r := h
  unfold ref_SplitTable09L2B at h
  refine Tk_seq (Tk_seq (Tk_region (Tops_step rfl (OpT_move rfl rfl rfl rfl) ?_)))
  refine Tops_step rfl (OpT_move rfl rfl rfl rfl) ?_
  refine Tops_step rfl (OpT_lenO rfl rfl rfl rfl Try.underlying22 (i := 0) rfl) ?_
  refine Tops_step rfl (OpT_bin rfl rfl rfl rfl rfl (bin_lss_i (a := i2) (b := len l1))) ?_
  refine Tops_nil (Tk_wkS (fr' := [(6, some (v5)), (7, some (vI split1.2)), (8, some (v6)), (9, some (vI i2)), (29, some (vB (decide (i2 < (len l1)))))]) (own' := [some (rowS PutS v5 l1), some (rowS u8S v6 out1)]) (shr' := []) [6, 7, 8, 9, 29] [0, 1] [] rfl rfl rfl rfl ?_)
  rcases Bool.eq_false_or_eq_true (decide (i2 < (len l1))) with hg2 | hg2
  ·replace h := br_t hg2 h
   refine Tk_condT (congrArg (fun b => some (Value.bool b)) hg2) ?_
   refine Tk_skip (Tk_seq (Tk_block (Tk_region (Tops_step rfl (OpT_move rfl rfl rfl rfl) ?_))))
   refine Tops_step rfl (OpT_move rfl rfl rfl rfl) ?_
   refine Tops_step rfl (OpT_move rfl rfl rfl rfl) ?_
   obtain ⟨p1, hx2, h⟩ := ob_e h
   refine Tops_step rfl (OpT_idxO rfl rfl rfl rfl rfl slF22 (i := 0) rfl hx2) ?_
   refine Tops_step rfl (OpT_fieldR (S := PutS) rfl rfl rfl rfl fldF40x1 (i := 0) rfl hx2) ?_
   refine Tops_step rfl (OpT_loadOFA (S := PutS) (vs := [vU64 p1.Desc.Addr, vU32 p1.Desc.Len, vU16 p1.Desc.Flags, vU16 p1.Desc.Next]) rfl rfl rfl rfl rfl tyF38 (i := 0) rfl hx2 rfl rfl) ?_
   obtain ⟨bytes1, hx3, h⟩ := ob_e h
   refine Tops_exP rfl (OpT_call (w_ref_Bytes03 hx3) [] [] rfl rfl rfl rfl rfl callee54 rfl rfl rfl rfl) ?_
   rintro _ ⟨v7, _, _, ⟨_, rfl, rfl, rfl⟩, rfl⟩
   obtain ⟨hc2, h⟩ := chk_e h
   refine Tops_ex rfl (OpT_appendB (S := u8S) rfl rfl rfl rfl rfl rfl slF49 (i := 1) (j := 2) rfl rfl hc2) fun v8 => ?_
   refine Tops_step rfl (OpT_assign rfl rfl rfl rfl) ?_
   refine Tops_nil (Tk_wkS (fr' := [(6, some (v5)), (7, some (vI split1.2)), (8, some (v8)), (9, some (vI i2))]) (own' := [some (rowS PutS v5 l1), some (rowS u8S v8 (out1 ++ bytes1))]) (shr' := []) [6, 7, 8, 9] [0, 1] [] rfl rfl rfl rfl ?_)
   refine Tk_blk (Tk_region (Tops_step rfl (OpT_move rfl rfl rfl rfl) ?_))
   refine Tops_step rfl (OpT_bin rfl rfl rfl rfl rfl (bin_add_i (a := i2) (b := (1 : Int)))) ?_
   refine Tops_step rfl (OpT_assign rfl rfl rfl rfl) ?_
   refine Tops_nil (Tk_wkS (fr' := [(6, some (v5)), (7, some (vI split1.2)), (8, some (v8)), (9, some (vI (wi (i2 + (1 : Int)))))]) (own' := [some (rowS PutS v5 l1), some (rowS u8S v8 (out1 ++ bytes1))]) (shr' := []) [6, 7, 8, 9] [0, 1] [] rfl rfl rfl rfl ?_)
   exact Tk_backS (l1, out1 ++ bytes1, wi (i2 + (1 : Int)), v5, v8) h [6, 7, 8, 9] [0, 1] [] rfl rfl rfl rfl rfl
  ·replace h := br_f hg2 h
   refine Tk_condF (congrArg (fun b => some (Value.bool b)) hg2) ?_
   refine Tk_exit _ rfl ?_
   refine Tk_seq (Tk_region (Tops_step rfl (OpT_move rfl rfl rfl rfl) ?_))
   refine Tops_step rfl (OpT_move rfl rfl rfl rfl) ?_
   refine Tops_step rfl (OpT_assign rfl rfl rfl rfl) ?_
   refine Tops_step rfl (OpT_assign rfl rfl rfl rfl) ?_
   refine Tops_nil (Tk_wkS (fr' := [(2, some (v6)), (3, some (vI split1.2))]) (own' := [some (rowS u8S v6 out1)]) (shr' := []) [2, 3] [1] [] rfl rfl rfl rfl ?_)
   obtain rfl := Option.some.inj h
   exact Tk_retV rfl rfl (resA (vs := [v6, vI split1.2]) rfl ⟨rfl, rfl, trivial⟩) [0] [] rfl rfl rfl ⟨v6, rfl, rfl, rfl⟩

set_option maxRecDepth 100000 in
set_option maxHeartbeats 4000000 in
theorem w_ref_PackedBytes03 {dp0 : Packed} {r : (List UInt8)} (h : ref_PackedBytes03 dp0 = some r) :
  Ctr Try.prog 55 #[.agg #[vU64 dp0.Addr, vU32 dp0.Len, vU16 dp0.ID, vU16 dp0.Flags]] [] []
   (fun rv own shr => ∃ (w1 : Value), rv = w1 ∧ own = [(rowS u8S w1 r)] ∧ shr = []) := by
 unfold ref_PackedBytes03 at h
 refine Ctr.mk (args := [.agg #[vU64 dp0.Addr, vU32 dp0.Len, vU16 dp0.ID, vU16 dp0.Flags]]) Try.func55 rfl rfl (fun R0 w0 B => ?_)
 refine Tk_seq (Tk_region (Tops_ex rfl (OpT_box rfl rfl rfl rfl) fun b1 => ?_))
 refine Tops_step rfl (OpT_assign rfl rfl rfl rfl) ?_
 refine Tops_nil (Tk_wkS (fr' := [(1, some (.pointer (some ⟨b1, 0, none⟩)))]) (own' := [some (cellsR b1 44 [vU64 dp0.Addr, vU32 dp0.Len, vU16 dp0.ID, vU16 dp0.Flags])]) (shr' := []) [1] [0] [] rfl rfl rfl rfl ?_)
 refine Tk_seq (Tk_drawT (by kernel_rfl) ?_)
 refine TA_tb [0, 1, 3, 0, 8, 24, 63, 0, 128, 384, 1023, 0, 2048, 6144, 16383, 32767] (by kernel_rfl) fun htb => ?_
 refine TA_nilrow u8S ?_
 obtain ⟨put1, hx1, h⟩ := ob_e h
 obtain ⟨put2, hx2, h⟩ := ob_e h
 obtain ⟨put3, hx3, h⟩ := ob_e h
 refine TA_seg (lo := 0) (hi := 14) htb rfl rfl (by kernel_rfl) (fun c L a w => ∃ (v1 : Value), ∃ (v2 : Value), ∃ (v3 : Value), Sat c ⟨[(1, some (.pointer (some ⟨b1, 0, none⟩))), (3, bif L 0 then some (.pointer (some ⟨b1, 0, none⟩)) else none), (4, bif L 1 then some (vU64 dp0.Addr) else none), (5, bif L 2 then some (v1) else none), (6, bif L 3 then some (.pointer (some ⟨b1, 1, none⟩)) else none), (7, bif L 4 then some (vU32 dp0.Len) else none), (8, bif L 5 then some (vU64 dp0.Len.toUInt64) else none), (9, bif L 6 then some (v2) else none), (10, bif L 7 then some (.pointer (some ⟨b1, 2, none⟩)) else none), (11, bif L 8 then some (vU16 dp0.ID) else none), (12, bif L 9 then some (vU64 dp0.ID.toUInt64) else none), (13, bif L 10 then some (v3) else none), (14, bif L 11 then some (.pointer (some ⟨b1, 3, none⟩)) else none), (15, bif L 12 then some (vU16 dp0.Flags) else none), (16, bif L 13 then some (vU64 dp0.Flags.toUInt64) else none)], [(some (cellsR b1 44 [vU64 dp0.Addr, vU32 dp0.Len, vU16 dp0.ID, vU16 dp0.Flags]) : Option Res), (bif L 2 then none else some (rowS u8S (.slice none 0 0) ([] : List UInt8)) : Option Res), (bif L 6 then none else bif L 2 then some (rowS u8S v1 put1) else none : Option Res), (bif L 10 then none else bif L 6 then some (rowS u8S v2 put2) else none : Option Res), (bif L 10 then some (rowS u8S v3 put3) else none : Option Res)], []⟩ a w) [([], [1, 2, 6, 10]), ([0], [2, 6, 10]), ([0, 1], [6, 10]), ([], [4, 5, 6, 10]), ([3], [5, 6, 10]), ([3, 4], [6, 10]), ([0, 1, 2, 3, 4, 5], [10]), ([], [8, 9, 10]), ([7], [9, 10]), ([7, 8], [10]), ([0, 1, 2, 3, 4, 5, 6, 7, 8, 9], []), ([], [12, 13]), ([11], [13]), ([11, 12], [])] rfl (by kernel_rfl) ?_ (steps_cons ?_ (steps_cons ?_ (steps_cons ?_ (steps_cons ?_ (steps_cons ?_ (steps_cons ?_ (steps_cons ?_ (steps_cons ?_ (steps_cons ?_ (steps_cons ?_ (steps_cons ?_ (steps_cons ?_ (steps_cons ?_ (steps_cons ?_ (steps_nil))))))))))))))) ?_
 ·intro a w hs
  exact ⟨undef, undef, undef, hs.startF [3, 4, 5, 6, 7, 8, 9, 10, 11, 12, 13, 14, 15, 16] [0, 1, 2, 3, 4] [] rfl rfl rfl rfl⟩
 ·intro L a w hv K Q hK
  obtain ⟨v1, v2, v3, hs⟩ := hv
  refine wpOp_go rfl rfl hs (OpT_fieldC rfl rfl rfl rfl fldF44x0) ?_
  rintro _ rfl a' w' hs'
  exact hK a' w' ⟨v1, v2, v3, hs'.putF (i := 1) rfl [0, 1, 2, 3, 4] [] rfl rfl rfl rfl⟩
 ·intro L a w hv K Q hK
  obtain ⟨v1, v2, v3, hs⟩ := hv
  refine wpOp_go rfl rfl hs (OpT_loadC rfl rfl rfl rfl tyF34 (i := 0) rfl rfl) ?_
  rintro _ rfl a' w' hs'
  exact hK a' w' ⟨v1, v2, v3, hs'.putF (i := 2) rfl [0, 1, 2, 3, 4] [] rfl rfl rfl rfl⟩
 ·intro L a w hv K Q hK
  obtain ⟨v1, v2, v3, hs⟩ := hv
  refine wpOp_go rfl rfl hs (OpT_call (w_ref_put03 hx1) [1] [] rfl rfl rfl rfl rfl callee64 rfl rfl rfl rfl) ?_
  rintro _ ⟨v1', _, _, ⟨_, rfl, rfl, rfl⟩, rfl⟩ a' w' hs'
  exact hK a' w' ⟨v1', v2, v3, hs'.putF (i := 3) rfl [0, 1, 5, 3, 4] [] rfl rfl rfl rfl⟩
 ·intro L a w hv K Q hK
  obtain ⟨v1, v2, v3, hs⟩ := hv
  refine wpOp_go rfl rfl hs (OpT_fieldC rfl rfl rfl rfl fldF44x1) ?_
  rintro _ rfl a' w' hs'
  exact hK a' w' ⟨v1, v2, v3, hs'.putF (i := 4) rfl [0, 1, 2, 3, 4] [] rfl rfl rfl rfl⟩
 ·intro L a w hv K Q hK
  obtain ⟨v1, v2, v3, hs⟩ := hv
  refine wpOp_go rfl rfl hs (OpT_loadC rfl rfl rfl rfl tyF35 (i := 0) rfl rfl) ?_
  rintro _ rfl a' w' hs'
  exact hK a' w' ⟨v1, v2, v3, hs'.putF (i := 5) rfl [0, 1, 2, 3, 4] [] rfl rfl rfl rfl⟩
 ·intro L a w hv K Q hK
  obtain ⟨v1, v2, v3, hs⟩ := hv
  refine wpOp_go rfl rfl hs (OpT_cnv rfl rfl rfl rfl (cnv_u32_u64 (n := dp0.Len) Try.underlying35 Try.underlying34)) ?_
  rintro _ rfl a' w' hs'
  exact hK a' w' ⟨v1, v2, v3, hs'.putF (i := 6) rfl [0, 1, 2, 3, 4] [] rfl rfl rfl rfl⟩
 ·intro L a w hv K Q hK
  obtain ⟨v1, v2, v3, hs⟩ := hv
  refine wpOp_go rfl rfl hs (OpT_call (w_ref_put03 hx2) [2] [] rfl rfl rfl rfl rfl callee64 rfl rfl rfl rfl) ?_
  rintro _ ⟨v2', _, _, ⟨_, rfl, rfl, rfl⟩, rfl⟩ a' w' hs'
  exact hK a' w' ⟨v1, v2', v3, hs'.putF (i := 7) rfl [0, 1, 2, 5, 4] [] rfl rfl rfl rfl⟩
 ·intro L a w hv K Q hK
  obtain ⟨v1, v2, v3, hs⟩ := hv
  refine wpOp_go rfl rfl hs (OpT_fieldC rfl rfl rfl rfl fldF44x2) ?_
  rintro _ rfl a' w' hs'
  exact hK a' w' ⟨v1, v2, v3, hs'.putF (i := 8) rfl [0, 1, 2, 3, 4] [] rfl rfl rfl rfl⟩
 ·intro L a w hv K Q hK
  obtain ⟨v1, v2, v3, hs⟩ := hv
  refine wpOp_go rfl rfl hs (OpT_loadC rfl rfl rfl rfl tyF36 (i := 0) rfl rfl) ?_
  rintro _ rfl a' w' hs'
  exact hK a' w' ⟨v1, v2, v3, hs'.putF (i := 9) rfl [0, 1, 2, 3, 4] [] rfl rfl rfl rfl⟩
 ·intro L a w hv K Q hK
  obtain ⟨v1, v2, v3, hs⟩ := hv
  refine wpOp_go rfl rfl hs (OpT_cnv rfl rfl rfl rfl (cnv_u16_u64 (n := dp0.ID) Try.underlying36 Try.underlying34)) ?_
  rintro _ rfl a' w' hs'
  exact hK a' w' ⟨v1, v2, v3, hs'.putF (i := 10) rfl [0, 1, 2, 3, 4] [] rfl rfl rfl rfl⟩
 ·intro L a w hv K Q hK
  obtain ⟨v1, v2, v3, hs⟩ := hv
  refine wpOp_go rfl rfl hs (OpT_call (w_ref_put03 hx3) [3] [] rfl rfl rfl rfl rfl callee64 rfl rfl rfl rfl) ?_
  rintro _ ⟨v3', _, _, ⟨_, rfl, rfl, rfl⟩, rfl⟩ a' w' hs'
  exact hK a' w' ⟨v1, v2, v3', hs'.putF (i := 11) rfl [0, 1, 2, 3, 5] [] rfl rfl rfl rfl⟩
 ·intro L a w hv K Q hK
  obtain ⟨v1, v2, v3, hs⟩ := hv
  refine wpOp_go rfl rfl hs (OpT_fieldC rfl rfl rfl rfl fldF44x3) ?_
  rintro _ rfl a' w' hs'
  exact hK a' w' ⟨v1, v2, v3, hs'.putF (i := 12) rfl [0, 1, 2, 3, 4] [] rfl rfl rfl rfl⟩
 ·intro L a w hv K Q hK
  obtain ⟨v1, v2, v3, hs⟩ := hv
  refine wpOp_go rfl rfl hs (OpT_loadC rfl rfl rfl rfl tyF36 (i := 0) rfl rfl) ?_
  rintro _ rfl a' w' hs'
  exact hK a' w' ⟨v1, v2, v3, hs'.putF (i := 13) rfl [0, 1, 2, 3, 4] [] rfl rfl rfl rfl⟩
 ·intro L a w hv K Q hK
  obtain ⟨v1, v2, v3, hs⟩ := hv
  refine wpOp_go rfl rfl hs (OpT_cnv rfl rfl rfl rfl (cnv_u16_u64 (n := dp0.Flags) Try.underlying36 Try.underlying34)) ?_
  rintro _ rfl a' w' hs'
  exact hK a' w' ⟨v1, v2, v3, hs'.putF (i := 14) rfl [0, 1, 2, 3, 4] [] rfl rfl rfl rfl⟩
 ·intro L a w hL hv
  rw [allTrue hL] at hv
  obtain ⟨v1, v2, v3, hs⟩ := hv
  refine (show TA _ _ _ 14 ⟨[(13, some (v3)), (16, some (vU64 dp0.Flags.toUInt64))], [some (rowS u8S v3 put3)], []⟩ from ?_) a w (hs.wkS [13, 16] [4] [] rfl rfl rfl rfl)
  clear hs hL
  obtain ⟨put4, hx4, h⟩ := ob_e h
  refine TA_exP htb (by kernel_rfl) rfl rfl (OpT_call (w_ref_put03 hx4) [0] [] rfl rfl rfl rfl rfl callee64 rfl rfl rfl rfl) ?_
  rintro _ ⟨v4, _, _, ⟨_, rfl, rfl, rfl⟩, rfl⟩
  refine TA_step htb (by kernel_rfl) rfl rfl (OpT_assign rfl rfl rfl rfl) ?_
  refine TA_end rfl ?_
  refine Tk_wkS (fr' := [(2, some (v4))]) (own' := [some (rowS u8S v4 put4)]) (shr' := []) [2] [1] [] rfl rfl rfl rfl ?_
  obtain rfl := Option.some.inj h
  exact Tk_retV rfl rfl (resA (vs := [v4]) rfl ⟨rfl, trivial⟩) [0] [] rfl rfl rfl ⟨v4, rfl, rfl, rfl⟩

set_option maxRecDepth 100000 in
set_option maxHeartbeats 4000000 in
theorem w_ref_PackedTable09 {l : List Seg} {vl1 : Value} {r : ((List UInt8) × Int)} (h : ref_PackedTable09 l = some r) :
  Ctr Try.prog 27 #[vl1] [] [Fact.sl SegS vl1 l]
   (fun rv own shr => ∃ (w1 : Value), rv = .tuple #[w1, vI r.2] ∧ own = [(rowS u8S w1 r.1)] ∧ shr = []) := by
 unfold ref_PackedTable09 at h
 refine Ctr.mk (args := [vl1]) Try.func27 rfl rfl (fun R0 w0 B => ?_)
 refine Tk_seq (Tk_region (Tops_step rfl (OpT_assign rfl rfl rfl rfl) ?_))
 refine Tops_step rfl (OpT_assign rfl rfl rfl rfl) ?_
 refine Tops_nil (Tk_wkS (fr' := [(0, some (vl1))]) (own' := []) (shr' := [Fact.sl SegS vl1 l]) [0] [] [0] rfl rfl rfl rfl ?_)
 refine Tk_seq (Tk_region (Tops_step rfl (OpT_move rfl rfl rfl rfl) ?_))
 obtain ⟨may1, hx1, h⟩ := ob_e h
 refine Tops_exP rfl (OpT_call (w_ref_may09 hx1) [] [0] rfl rfl rfl rfl rfl callee50 rfl rfl rfl rfl) ?_
 rintro _ ⟨_, _, _, ⟨rfl, rfl, rfl⟩, rfl⟩
 refine Tops_step rfl (OpT_assign rfl rfl rfl rfl) ?_
 refine Tops_nil (Tk_wkS (fr' := [(0, some (vl1)), (4, some (vI may1))]) (own' := []) (shr' := [Fact.sl SegS vl1 l]) [0, 4] [] [0] rfl rfl rfl rfl ?_)
 refine Tk_seq (Tk_seq (Tk_region (Tops_step rfl (OpT_move rfl rfl rfl rfl) ?_)))
 refine Tops_step rfl (OpT_bin rfl rfl rfl rfl rfl (bin_neq_i (a := may1) (b := (0 : Int)))) ?_
 refine Tops_nil (Tk_wkS (fr' := [(0, some (vl1)), (4, some (vI may1)), (11, some (vB (may1 != (0 : Int))))]) (own' := []) (shr' := [Fact.sl SegS vl1 l]) [0, 4, 11] [] [0] rfl rfl rfl rfl ?_)
 rcases Bool.eq_false_or_eq_true (may1 != (0 : Int)) with hg1 | hg1
 ·replace h := br_t hg1 h
  refine Tk_condT (congrArg (fun b => some (Value.bool b)) hg1) ?_
  refine Tk_seq (Tk_region (Tops_step rfl (OpT_move rfl rfl rfl rfl) ?_))
  refine Tops_step rfl (OpT_assign rfl rfl rfl rfl) ?_
  refine Tops_step rfl (OpT_assign rfl rfl rfl rfl) ?_
  refine Tops_nil (Tk_wkS (fr' := [(2, some (.slice none 0 0)), (3, some (vI may1))]) (own' := []) (shr' := []) [2, 3] [] [] rfl rfl rfl rfl ?_)
  refine Tk_nilrow u8S ?_
  obtain rfl := Option.some.inj h
  exact Tk_retV rfl rfl (resA (vs := [.slice none 0 0, vI may1]) rfl ⟨rfl, rfl, trivial⟩) [0] [] rfl rfl rfl ⟨(.slice none 0 0), rfl, rfl, rfl⟩
 ·replace h := br_f hg1 h
  refine Tk_condF (congrArg (fun b => some (Value.bool b)) hg1) ?_
  refine Tk_skip (Tk_seq (Tk_region (Tops_step rfl (OpT_assign rfl rfl rfl rfl) ?_)))
  refine Tops_nil (Tk_wkS (fr' := [(0, some (vl1)), (5, some (.slice none 0 0))]) (own' := []) (shr' := [Fact.sl SegS vl1 l]) [0, 5] [] [0] rfl rfl rfl rfl ?_)
  refine Tk_seq (Tk_seq (Tk_region (Tops_step rfl (OpT_assign rfl rfl rfl rfl) ?_)))
  refine Tops_nil (Tk_block (Tk_nilrow u8S ?_))
  refine Tk_loopS (σ := (List UInt8) × Int × Value) [0, 5, 6] [0] [0] (fun s => ⟨[(0, some (vl1)), (5, some (s.2.2)), (6, some (vI s.2.1))], [some (rowS u8S s.2.2 s.1)], [Fact.sl SegS vl1 l]⟩) (fun nf1 s => ref_PackedTable09L1 l nf1 s.1 s.2.1 = some r) fuel ([], (0 : Int), (.slice none 0 0)) h rfl rfl rfl rfl rfl (fun s h => by cases h) ?_
  rintro nf1 ⟨out1, i1, v1⟩ h
  replace h : ref_PackedTable09L1B l (ref_PackedTable09L1 l nf1) out1 i1 = some r := h
  unfold ref_PackedTable09L1B at h
  refine Tk_seq (Tk_seq (Tk_region (Tops_step rfl (OpT_move rfl rfl rfl rfl) ?_)))
  refine Tops_step rfl (OpT_move rfl rfl rfl rfl) ?_
  refine Tops_step rfl (OpT_lenS rfl rfl rfl rfl Try.underlying27 (i := 0) rfl) ?_
  refine Tops_step rfl (OpT_bin rfl rfl rfl rfl rfl (bin_lss_i (a := i1) (b := len l))) ?_
  refine Tops_nil (Tk_wkS (fr' := [(0, some (vl1)), (5, some (v1)), (6, some (vI i1)), (16, some (vB (decide (i1 < (len l)))))]) (own' := [some (rowS u8S v1 out1)]) (shr' := [Fact.sl SegS vl1 l]) [0, 5, 6, 16] [0] [0] rfl rfl rfl rfl ?_)
  rcases Bool.eq_false_or_eq_true (decide (i1 < (len l))) with hg2 | hg2
  ·replace h := br_t hg2 h
   refine Tk_condT (congrArg (fun b => some (Value.bool b)) hg2) ?_
   refine Tk_skip (Tk_seq (Tk_block (Tk_seq (Tk_drawT (by kernel_rfl) ?_))))
   refine TA_tb [0, 0, 3, 7, 15, 0, 0, 96, 224, 480, 1023, 0, 4095] (by kernel_rfl) fun htb => ?_
   refine TA_wkS (fr' := [(0, some (vl1)), (5, some (v1)), (6, some (vI i1))]) (own' := [some (rowS u8S v1 out1)]) (shr' := [Fact.sl SegS vl1 l]) [0, 5, 6] [0] [0] rfl rfl rfl rfl ?_
   obtain ⟨s1, hx2, h⟩ := ob_e h
   obtain ⟨s2, hx3, h⟩ := ob_e h
   refine TA_seg (lo := 0) (hi := 12) htb rfl rfl (by kernel_rfl) (fun c L a w => ∃ (p1 : Value), ∃ (p2 : Value), ∃ (p3 : Value), ∃ (p4 : Value), ∃ (b1 : Nat), Sat c ⟨[(0, some (vl1)), (5, some (v1)), (6, some (vI i1)), (19, bif L 0 then some (vl1) else none), (20, bif L 1 then some (vI i1) else none), (21, bif L 2 then some (p1) else none), (22, bif L 3 then some (p2) else none), (23, bif L 4 then some (vU64 s1.At) else none), (24, bif L 5 then some (vl1) else none), (25, bif L 6 then some (vI i1) else none), (26, bif L 7 then some (p3) else none), (27, bif L 8 then some (p4) else none), (28, bif L 9 then some (vU32 s2.Len) else none), (29, bif L 10 then some (.agg #[vU64 s1.At, vU32 s2.Len, vU16 (0 : UInt16), vU16 (0 : UInt16)]) else none), (7, bif L 11 then some (.pointer (some ⟨b1, 0, none⟩)) else none)], [(some (rowS u8S v1 out1) : Option Res), (bif L 11 then some (cellsR b1 44 [vU64 (0 : UInt64), vU32 (0 : UInt32), vU16 (0 : UInt16), vU16 (0 : UInt16)]) else none : Option Res)], [Fact.sl SegS vl1 l, (bif L 2 then Fact.pt SegS p1 s1 else Fact.tt), (bif L 3 then Fact.pt u64S p2 s1.At else Fact.tt), (bif L 7 then Fact.pt SegS p3 s2 else Fact.tt), (bif L 8 then Fact.pt u32S p4 s2.Len else Fact.tt)]⟩ a w) [([], [2, 3, 4, 10]), ([], [2, 3, 4, 10]), ([0, 1], [3, 4, 10]), ([0, 1, 2], [4, 10]), ([0, 1, 2, 3], [10]), ([], [7, 8, 9, 10]), ([], [7, 8, 9, 10]), ([5, 6], [8, 9, 10]), ([5, 6, 7], [9, 10]), ([5, 6, 7, 8], [10]), ([0, 1, 2, 3, 4, 5, 6, 7, 8, 9], []), ([], [])] rfl (by kernel_rfl) ?_ (steps_cons ?_ (steps_cons ?_ (steps_cons ?_ (steps_cons ?_ (steps_cons ?_ (steps_cons ?_ (steps_cons ?_ (steps_cons ?_ (steps_cons ?_ (steps_cons ?_ (steps_cons ?_ (steps_cons ?_ (steps_nil))))))))))))) ?_
   ·intro a w hs
    exact ⟨undef, undef, undef, undef, 0, hs.startF [19, 20, 21, 22, 23, 24, 25, 26, 27, 28, 29, 7] [0, 1] [0, 1, 2, 3, 4] rfl rfl rfl rfl⟩
   ·intro L a w hv K Q hK
    obtain ⟨p1, p2, p3, p4, b1, hs⟩ := hv
    refine wpOp_go rfl rfl hs (OpT_move rfl rfl rfl rfl) ?_
    rintro _ rfl a' w' hs'
    exact hK a' w' ⟨p1, p2, p3, p4, b1, hs'.putF (i := 3) rfl [0, 1] [0, 1, 2, 3, 4] rfl rfl rfl rfl⟩
   ·intro L a w hv K Q hK
    obtain ⟨p1, p2, p3, p4, b1, hs⟩ := hv
    refine wpOp_go rfl rfl hs (OpT_move rfl rfl rfl rfl) ?_
    rintro _ rfl a' w' hs'
    exact hK a' w' ⟨p1, p2, p3, p4, b1, hs'.putF (i := 4) rfl [0, 1] [0, 1, 2, 3, 4] rfl rfl rfl rfl⟩
   ·intro L a w hv K Q hK
    obtain ⟨p1, p2, p3, p4, b1, hs⟩ := hv
    refine wpOp_go rfl rfl hs (OpT_idxS rfl rfl rfl rfl rfl slF27 (i := 0) rfl hx2) ?_
    rintro _ ⟨p1', rfl⟩ a' w' hs'
    exact hK a' w' ⟨p1', p2, p3, p4, b1, hs'.putF (i := 5) rfl [0, 1] [0, 5, 2, 3, 4] rfl rfl rfl rfl⟩
   ·intro L a w hv K Q hK
    obtain ⟨p1, p2, p3, p4, b1, hs⟩ := hv
    refine wpOp_go rfl rfl hs (OpT_fieldP (S' := u64S) (y := s1.At) rfl rfl rfl rfl fldF59x0 (i := 1) rfl (by intro h cs hr; subst hr; rfl)) ?_
    rintro _ ⟨p2', rfl⟩ a' w' hs'
    exact hK a' w' ⟨p1, p2', p3, p4, b1, hs'.putF (i := 6) rfl [0, 1] [0, 1, 5, 3, 4] rfl rfl rfl rfl⟩
   ·intro L a w hv K Q hK
    obtain ⟨p1, p2, p3, p4, b1, hs⟩ := hv
    refine wpOp_go rfl rfl hs (OpT_loadP rfl rfl rfl rfl tyF34 (i := 2) rfl rfl) ?_
    rintro _ rfl a' w' hs'
    exact hK a' w' ⟨p1, p2, p3, p4, b1, hs'.putF (i := 7) rfl [0, 1] [0, 1, 2, 3, 4] rfl rfl rfl rfl⟩
   ·intro L a w hv K Q hK
    obtain ⟨p1, p2, p3, p4, b1, hs⟩ := hv
    refine wpOp_go rfl rfl hs (OpT_move rfl rfl rfl rfl) ?_
    rintro _ rfl a' w' hs'
    exact hK a' w' ⟨p1, p2, p3, p4, b1, hs'.putF (i := 8) rfl [0, 1] [0, 1, 2, 3, 4] rfl rfl rfl rfl⟩
   ·intro L a w hv K Q hK
    obtain ⟨p1, p2, p3, p4, b1, hs⟩ := hv
    refine wpOp_go rfl rfl hs (OpT_move rfl rfl rfl rfl) ?_
    rintro _ rfl a' w' hs'
    exact hK a' w' ⟨p1, p2, p3, p4, b1, hs'.putF (i := 9) rfl [0, 1] [0, 1, 2, 3, 4] rfl rfl rfl rfl⟩
   ·intro L a w hv K Q hK
    obtain ⟨p1, p2, p3, p4, b1, hs⟩ := hv
    refine wpOp_go rfl rfl hs (OpT_idxS rfl rfl rfl rfl rfl slF27 (i := 0) rfl hx3) ?_
    rintro _ ⟨p3', rfl⟩ a' w' hs'
    exact hK a' w' ⟨p1, p2, p3', p4, b1, hs'.putF (i := 10) rfl [0, 1] [0, 1, 2, 5, 4] rfl rfl rfl rfl⟩
   ·intro L a w hv K Q hK
    obtain ⟨p1, p2, p3, p4, b1, hs⟩ := hv
    refine wpOp_go rfl rfl hs (OpT_fieldP (S' := u32S) (y := s2.Len) rfl rfl rfl rfl fldF59x1 (i := 3) rfl (by intro h cs hr; subst hr; rfl)) ?_
    rintro _ ⟨p4', rfl⟩ a' w' hs'
    exact hK a' w' ⟨p1, p2, p3, p4', b1, hs'.putF (i := 11) rfl [0, 1] [0, 1, 2, 3, 5] rfl rfl rfl rfl⟩
   ·intro L a w hv K Q hK
    obtain ⟨p1, p2, p3, p4, b1, hs⟩ := hv
    refine wpOp_go rfl rfl hs (OpT_loadP rfl rfl rfl rfl tyF35 (i := 4) rfl rfl) ?_
    rintro _ rfl a' w' hs'
    exact hK a' w' ⟨p1, p2, p3, p4, b1, hs'.putF (i := 12) rfl [0, 1] [0, 1, 2, 3, 4] rfl rfl rfl rfl⟩
   ·intro L a w hv K Q hK
    obtain ⟨p1, p2, p3, p4, b1, hs⟩ := hv
    refine wpOp_go rfl rfl hs (OpT_build (v := .agg #[vU64 s1.At, vU32 s2.Len, vU16 (0 : UInt16), vU16 (0 : UInt16)]) rfl rfl rfl rfl (bldV (by kernel_rfl))) ?_
    rintro _ rfl a' w' hs'
    exact hK a' w' ⟨p1, p2, p3, p4, b1, hs'.putF (i := 13) rfl [0, 1] [0, 1, 2, 3, 4] rfl rfl rfl rfl⟩
   ·intro L a w hv K Q hK
    obtain ⟨p1, p2, p3, p4, b1, hs⟩ := hv
    refine wpOp_go rfl rfl hs (OpT_alloc rfl rfl rfl tyZ44) ?_
    rintro _ ⟨b1', rfl⟩ a' w' hs'
    exact hK a' w' ⟨p1, p2, p3, p4, b1', hs'.putF (i := 14) rfl [0, 2] [0, 1, 2, 3, 4] rfl rfl rfl rfl⟩
   ·intro L a w hL hv
    rw [allTrue hL] at hv
    obtain ⟨p1, p2, p3, p4, b1, hs⟩ := hv
    refine (show TA _ _ _ 12 ⟨[(0, some (vl1)), (5, some (v1)), (6, some (vI i1)), (29, some (.agg #[vU64 s1.At, vU32 s2.Len, vU16 (0 : UInt16), vU16 (0 : UInt16)])), (7, some (.pointer (some ⟨b1, 0, none⟩)))], [some (rowS u8S v1 out1), some (cellsR b1 44 [vU64 (0 : UInt64), vU32 (0 : UInt32), vU16 (0 : UInt16), vU16 (0 : UInt16)])], [Fact.sl SegS vl1 l]⟩ from ?_) a w (hs.wkS [0, 5, 6, 29, 7] [0, 1] [0] rfl rfl rfl rfl)
    clear hs hL
    refine TA_step htb (by kernel_rfl) rfl rfl (OpT_storeC (cs' := [vU64 s1.At, vU32 s2.Len, vU16 (0 : UInt16), vU16 (0 : UInt16)]) rfl rfl rfl rfl tyF44 (i := 1) rfl rfl rfl (one_of rfl) rfl) ?_
    refine TA_end rfl ?_
    refine Tk_wkS (fr' := [(0, some (vl1)), (5, some (v1)), (6, some (vI i1)), (7, some (.pointer (some ⟨b1, 0, none⟩)))]) (own' := [some (rowS u8S v1 out1), some (cellsR b1 44 [vU64 s1.At, vU32 s2.Len, vU16 (0 : UInt16), vU16 (0 : UInt16)])]) (shr' := [Fact.sl SegS vl1 l]) [0, 5, 6, 7] [0, 1] [0] rfl rfl rfl rfl ?_
    refine Tk_seq (Tk_seq (Tk_region (Tops_step rfl (OpT_move rfl rfl rfl rfl) ?_)))
    refine Tops_step rfl (OpT_move rfl rfl rfl rfl) ?_
    obtain ⟨s3, hx4, h⟩ := ob_e h
    refine Tops_ex rfl (OpT_idxS rfl rfl rfl rfl rfl slF27 (i := 0) rfl hx4) fun p5 => ?_
    refine Tops_ex rfl (OpT_fieldP (S' := bS) (y := s3.Write) rfl rfl rfl rfl fldF59x2 (i := 1) rfl (by intro h cs hr; subst hr; rfl)) fun p6 => ?_
    refine Tops_step rfl (OpT_loadP rfl rfl rfl rfl tyF4 (i := 2) rfl rfl) ?_
    refine Tops_nil (Tk_wkS (fr' := [(0, some (vl1)), (5, some (v1)), (6, some (vI i1)), (7, some (.pointer (some ⟨b1, 0, none⟩))), (34, some (vB s3.Write))]) (own' := [some (rowS u8S v1 out1), some (cellsR b1 44 [vU64 s1.At, vU32 s2.Len, vU16 (0 : UInt16), vU16 (0 : UInt16)])]) (shr' := [Fact.sl SegS vl1 l]) [0, 5, 6, 7, 34] [0, 1] [0] rfl rfl rfl rfl ?_)
    refine Tk_join (α := (List UInt8) × Packed × Value) (fun s => ⟨[(0, some (vl1)), (5, some (s.2.2)), (6, some (vI i1)), (7, some (.pointer (some ⟨b1, 0, none⟩)))], [some (rowS u8S s.2.2 s.1), some (cellsR b1 44 [vU64 s.2.1.Addr, vU32 s.2.1.Len, vU16 s.2.1.ID, vU16 s.2.1.Flags])], [Fact.sl SegS vl1 l]⟩) (fun s => ref_PackedTable09J2 i1 (ref_PackedTable09L1 l nf1) s.1 s.2.1 = some r) ?_ ?_
    ·rintro ⟨l1, m1, v2⟩ h
     replace h : ref_PackedTable09J2 i1 (ref_PackedTable09L1 l nf1) l1 m1 = some r := h
     unfold ref_PackedTable09J2 at h
     refine Tk_region (Tops_step rfl (OpT_move rfl rfl rfl rfl) ?_)
     refine Tops_step rfl (OpT_loadCA (vs := [vU64 m1.Addr, vU32 m1.Len, vU16 m1.ID, vU16 m1.Flags]) rfl rfl rfl rfl tyF44 (i := 1) rfl rfl rfl) ?_
     obtain ⟨packed1, hx5, h⟩ := ob_e h
     refine Tops_exP rfl (OpT_call (w_ref_PackedBytes03 hx5) [] [] rfl rfl rfl rfl rfl callee55 rfl rfl rfl rfl) ?_
     rintro _ ⟨v3, _, _, ⟨_, rfl, rfl, rfl⟩, rfl⟩
     obtain ⟨hc1, h⟩ := chk_e h
     refine Tops_ex rfl (OpT_appendB (S := u8S) rfl rfl rfl rfl rfl rfl slF49 (i := 0) (j := 2) rfl rfl hc1) fun v4 => ?_
     refine Tops_step rfl (OpT_assign rfl rfl rfl rfl) ?_
     refine Tops_nil (Tk_wkS (fr' := [(0, some (vl1)), (5, some (v4)), (6, some (vI i1))]) (own' := [some (rowS u8S v4 (l1 ++ packed1))]) (shr' := [Fact.sl SegS vl1 l]) [0, 5, 6] [0] [0] rfl rfl rfl rfl ?_)
     refine Tk_blk (Tk_region (Tops_step rfl (OpT_move rfl rfl rfl rfl) ?_))
     refine Tops_step rfl (OpT_bin rfl rfl rfl rfl rfl (bin_add_i (a := i1) (b := (1 : Int)))) ?_
     refine Tops_step rfl (OpT_assign rfl rfl rfl rfl) ?_
     refine Tops_nil (Tk_wkS (fr' := [(0, some (vl1)), (5, some (v4)), (6, some (vI (wi (i1 + (1 : Int)))))]) (own' := [some (rowS u8S v4 (l1 ++ packed1))]) (shr' := [Fact.sl SegS vl1 l]) [0, 5, 6] [0] [0] rfl rfl rfl rfl ?_)
     exact Tk_backS (l1 ++ packed1, wi (i1 + (1 : Int)), v4) h [0, 5, 6] [0] [0] rfl rfl rfl rfl rfl
    ·intro HJ1
     rcases Bool.eq_false_or_eq_true (s3.Write) with hg3 | hg3
     ·replace h := br_t hg3 h
      refine Tk_condT (congrArg (fun b => some (Value.bool b)) hg3) ?_
      refine Tk_region (Tops_step rfl (OpT_fieldC rfl rfl rfl rfl fldF44x3) ?_)
      refine Tops_step rfl (OpT_storeC (cs' := [vU64 s1.At, vU32 s2.Len, vU16 (0 : UInt16), vU16 (2 : UInt16)]) rfl rfl rfl rfl tyF36 (i := 1) rfl rfl rfl (one_of rfl) rfl) ?_
      refine Tops_nil (Tk_wkS (fr' := [(0, some (vl1)), (5, some (v1)), (6, some (vI i1)), (7, some (.pointer (some ⟨b1, 0, none⟩)))]) (own' := [some (rowS u8S v1 out1), some (cellsR b1 44 [vU64 s1.At, vU32 s2.Len, vU16 (0 : UInt16), vU16 (2 : UInt16)])]) (shr' := [Fact.sl SegS vl1 l]) [0, 5, 6, 7] [0, 1] [0] rfl rfl rfl rfl ?_)
      exact Tk_jmpS (HJ1 (out1, (Packed.mk s1.At s2.Len (0 : UInt16) (2 : UInt16)), v1) h) [0, 5, 6, 7] [0, 1] [0] rfl rfl rfl rfl
     ·replace h := br_f hg3 h
      refine Tk_condF (congrArg (fun b => some (Value.bool b)) hg3) ?_
      refine Tk_skip ?_
      exact Tk_jmpS (HJ1 (out1, (Packed.mk s1.At s2.Len (0 : UInt16) (0 : UInt16)), v1) h) [0, 5, 6, 7] [0, 1] [0] rfl rfl rfl rfl
  ·replace h := br_f hg2 h
   refine Tk_condF (congrArg (fun b => some (Value.bool b)) hg2) ?_
   refine Tk_exit _ rfl ?_
   refine Tk_seq (Tk_region (Tops_step rfl (OpT_move rfl rfl rfl rfl) ?_))
   refine Tops_step rfl (OpT_assign rfl rfl rfl rfl) ?_
   refine Tops_step rfl (OpT_assign rfl rfl rfl rfl) ?_
   refine Tops_nil (Tk_wkS (fr' := [(2, some (v1)), (3, some (vI (0 : Int)))]) (own' := [some (rowS u8S v1 out1)]) (shr' := []) [2, 3] [0] [] rfl rfl rfl rfl ?_)
   obtain rfl := Option.some.inj h
   exact Tk_retV rfl rfl (resA (vs := [v1, vI (0 : Int)]) rfl ⟨rfl, rfl, trivial⟩) [0] [] rfl rfl rfl ⟨v1, rfl, rfl, rfl⟩

set_option maxRecDepth 100000 in
set_option maxHeartbeats 4000000 in
theorem w_ref_Needs09 {l : List Seg} {table : Bool} {vl1 : Value} {r : Int} (h : ref_Needs09 l table = some r) :
  Ctr Try.prog 30 #[vl1, vB table] [] [Fact.sl SegS vl1 l]
   (fun rv own shr => rv = vI r ∧ own = [] ∧ shr = []) := by
 unfold ref_Needs09 at h
 refine Ctr.mk (args := [vl1, vB table]) Try.func30 rfl rfl (fun R0 w0 B => ?_)
 refine Tk_seq (Tk_region (Tops_step rfl (OpT_assign rfl rfl rfl rfl) ?_))
 refine Tops_nil (Tk_wkS (fr' := [(0, some (vl1)), (1, some (vB table))]) (own' := []) (shr' := [Fact.sl SegS vl1 l]) [0, 1] [] [0] rfl rfl rfl rfl ?_)
 refine Tk_seq (Tk_seq (Tk_region (Tops_step rfl (OpT_move rfl rfl rfl rfl) ?_)))
 obtain ⟨may1, hx1, h⟩ := ob_e h
 refine Tops_exP rfl (OpT_call (w_ref_may09 hx1) [] [0] rfl rfl rfl rfl rfl callee50 rfl rfl rfl rfl) ?_
 rintro _ ⟨_, _, _, ⟨rfl, rfl, rfl⟩, rfl⟩
 refine Tops_step rfl (OpT_bin rfl rfl rfl rfl rfl (bin_neq_i (a := may1) (b := (0 : Int)))) ?_
 refine Tops_nil (Tk_wkS (fr' := [(0, some (vl1)), (1, some (vB table)), (7, some (vB (may1 != (0 : Int))))]) (own' := []) (shr' := [Fact.sl SegS vl1 l]) [0, 1, 7] [] [0] rfl rfl rfl rfl ?_)
 rcases Bool.eq_false_or_eq_true (may1 != (0 : Int)) with hg1 | hg1
 ·replace h := br_t hg1 h
  refine Tk_condT (congrArg (fun b => some (Value.bool b)) hg1) ?_
  refine Tk_seq (Tk_region (Tops_step rfl (OpT_assign rfl rfl rfl rfl) ?_))
  refine Tops_nil (Tk_wkS (fr' := [(4, some (vI (0 : Int)))]) (own' := []) (shr' := []) [4] [] [] rfl rfl rfl rfl ?_)
  obtain rfl := Option.some.inj h
  exact Tk_retV rfl rfl (resA (vs := [vI (0 : Int)]) rfl ⟨rfl, trivial⟩) [] [] rfl rfl rfl ⟨rfl, rfl, rfl⟩
 ·replace h := br_f hg1 h
  refine Tk_condF (congrArg (fun b => some (Value.bool b)) hg1) ?_
  refine Tk_skip (Tk_seq (Tk_seq (Tk_region (Tops_step rfl (OpT_move rfl rfl rfl rfl) ?_))))
  refine Tops_nil (Tk_wkS (fr' := [(0, some (vl1)), (8, some (vB table))]) (own' := []) (shr' := [Fact.sl SegS vl1 l]) [0, 8] [] [0] rfl rfl rfl rfl ?_)
  rcases Bool.eq_false_or_eq_true (table) with hg2 | hg2
  ·replace h := br_t hg2 h
   refine Tk_condT (congrArg (fun b => some (Value.bool b)) hg2) ?_
   refine Tk_seq (Tk_region (Tops_step rfl (OpT_assign rfl rfl rfl rfl) ?_))
   refine Tops_nil (Tk_wkS (fr' := [(4, some (vI (1 : Int)))]) (own' := []) (shr' := []) [4] [] [] rfl rfl rfl rfl ?_)
   obtain rfl := Option.some.inj h
   exact Tk_retV rfl rfl (resA (vs := [vI (1 : Int)]) rfl ⟨rfl, trivial⟩) [] [] rfl rfl rfl ⟨rfl, rfl, rfl⟩
  ·replace h := br_f hg2 h
   refine Tk_condF (congrArg (fun b => some (Value.bool b)) hg2) ?_
   refine Tk_skip (Tk_seq (Tk_region (Tops_step rfl (OpT_move rfl rfl rfl rfl) ?_)))
   refine Tops_step rfl (OpT_lenS rfl rfl rfl rfl Try.underlying27 (i := 0) rfl) ?_
   refine Tops_step rfl (OpT_assign rfl rfl rfl rfl) ?_
   refine Tops_nil (Tk_wkS (fr' := [(4, some (vI (len l)))]) (own' := []) (shr' := []) [4] [] [] rfl rfl rfl rfl ?_)
   obtain rfl := Option.some.inj h
   exact Tk_retV rfl rfl (resA (vs := [vI (len l)]) rfl ⟨rfl, trivial⟩) [] [] rfl rfl rfl ⟨rfl, rfl, rfl⟩

theorem ws_kit_Segs {l : List Seg} {vl1 : Value} {r : (List Seg)} (h : kit_Segs l = some r) :
  Ctr Try.prog 21 #[vl1] [] [Fact.sl SegS vl1 l]
   (fun rv own shr => ∃ (w1 : Value), rv = w1 ∧ own = [] ∧ shr = [Fact.sl SegS w1 r]) :=
 Ctr.sh (w_kit_Segs h) (by rintro w1 _ _ ⟨_, rfl, rfl, rfl⟩; exact ⟨[], _, _, _, _, rfl, w1, rfl, rfl, rfl⟩)

set_option maxRecDepth 100000 in
set_option maxHeartbeats 4000000 in
theorem w_ref_SplitOne09 {id : Int} {atp1 : UInt64} {np2 : Int} {r : (Put × Int)} (h : ref_SplitOne09 id atp1 np2 = some r) :
  Ctr Try.prog 28 #[vI id, vU64 atp1, vI np2] [] []
   (fun rv own shr => rv = .tuple #[.agg #[vI r.1.At, vU64 r.1.Desc.Addr, vU32 r.1.Desc.Len, vU16 r.1.Desc.Flags, vU16 r.1.Desc.Next], vI r.2] ∧ own = [] ∧ shr = []) := by
 unfold ref_SplitOne09 at h
 refine Ctr.mk (args := [vI id, vU64 atp1, vI np2]) Try.func28 rfl rfl (fun R0 w0 B => ?_)
 refine Tk_seq (Tk_region (Tops_ex rfl (OpT_alloc rfl rfl rfl tyZ40) fun b1 => ?_))
 refine Tops_step rfl (OpT_assign rfl rfl rfl rfl) ?_
 refine Tops_nil (Tk_wkS (fr' := [(0, some (vI id)), (1, some (vU64 atp1)), (2, some (vI np2)), (6, some (.pointer (some ⟨b1, 0, none⟩)))]) (own' := [some (cellsR b1 40 [vI (0 : Int), vU64 (0 : UInt64), vU32 (0 : UInt32), vU16 (0 : UInt16), vU16 (0 : UInt16)])]) (shr' := []) [0, 1, 2, 6] [0] [] rfl rfl rfl rfl ?_)
 refine Tk_seq (Tk_seq (Tk_region (Tops_step rfl (OpT_move rfl rfl rfl rfl) ?_)))
 refine Tops_step rfl (OpT_bin rfl rfl rfl rfl rfl (bin_lss_i (a := id) (b := (0 : Int)))) ?_
 refine Tops_step rfl (OpT_move rfl rfl rfl rfl) ?_
 rcases Bool.eq_false_or_eq_true (decide (id < (0 : Int))) with hg1 | hg1
 ·replace h := br_t hg1 h
  refine Tops_no rfl rfl (congrArg (fun b => some (Value.bool b)) hg1) rfl rfl ?_
  refine Tops_no rfl rfl (congrArg (fun b => some (Value.bool b)) hg1) rfl rfl ?_
  refine Tops_step rfl (OpT_pickT rfl rfl rfl (congrArg (fun b => some (Value.bool b)) hg1) rfl) ?_
  refine Tops_step rfl (OpT_move rfl rfl rfl rfl) ?_
  refine Tops_no rfl rfl rfl rfl rfl ?_
  refine Tops_no rfl rfl rfl rfl rfl ?_
  refine Tops_step rfl (OpT_pickT rfl rfl rfl rfl rfl) ?_
  refine Tops_step rfl (OpT_move rfl rfl rfl rfl) ?_
  refine Tops_no rfl rfl rfl rfl rfl ?_
  refine Tops_no rfl rfl rfl rfl rfl ?_
  refine Tops_step rfl (OpT_pickT rfl rfl rfl rfl rfl) ?_
  refine Tops_nil (Tk_wkS (fr' := [(0, some (vI id)), (1, some (vU64 atp1)), (2, some (vI np2)), (6, some (.pointer (some ⟨b1, 0, none⟩))), (21, some (vB true))]) (own' := [some (cellsR b1 40 [vI (0 : Int), vU64 (0 : UInt64), vU32 (0 : UInt32), vU16 (0 : UInt16), vU16 (0 : UInt16)])]) (shr' := []) [0, 1, 2, 6, 21] [0] [] rfl rfl rfl rfl ?_)
  refine Tk_condT rfl ?_
  refine Tk_seq (Tk_region (Tops_step rfl (OpT_build (v := .agg #[vI (0 : Int), vU64 (0 : UInt64), vU32 (0 : UInt32), vU16 (0 : UInt16), vU16 (0 : UInt16)]) rfl rfl rfl rfl (bldV (by kernel_rfl))) ?_))
  refine Tops_step rfl (OpT_storeC (cs' := [vI (0 : Int), vU64 (0 : UInt64), vU32 (0 : UInt32), vU16 (0 : UInt16), vU16 (0 : UInt16)]) rfl rfl rfl rfl tyF40 (i := 0) rfl rfl rfl (one_of rfl) rfl) ?_
  refine Tops_step rfl (OpT_assign rfl rfl rfl rfl) ?_
  refine Tops_nil (Tk_wkS (fr' := [(6, some (.pointer (some ⟨b1, 0, none⟩))), (7, some (vI (2 : Int)))]) (own' := [some (cellsR b1 40 [vI (0 : Int), vU64 (0 : UInt64), vU32 (0 : UInt32), vU16 (0 : UInt16), vU16 (0 : UInt16)])]) (shr' := []) [6, 7] [0] [] rfl rfl rfl rfl ?_)
  obtain rfl := Option.some.inj h
  exact Tk_retV rfl rfl (resA (vs := [.agg #[vI (0 : Int), vU64 (0 : UInt64), vU32 (0 : UInt32), vU16 (0 : UInt16), vU16 (0 : UInt16)], vI (2 : Int)]) rfl ⟨⟨_, 0, _, _, _, rfl, rfl, .inl ⟨tyF40, rfl, rfl⟩⟩, rfl, trivial⟩) [] [] rfl rfl rfl ⟨rfl, rfl, rfl⟩
 ·replace h := br_f hg1 h
  refine Tops_yes rfl rfl (congrArg (fun b => some (Value.bool b)) hg1) (OpT_move rfl rfl rfl rfl) ?_
  rintro _ rfl
  refine Tops_yes rfl rfl (congrArg (fun b => some (Value.bool b)) hg1) (OpT_bin rfl rfl rfl rfl rfl (bin_geq_i (a := id) (b := (32768 : Int)))) ?_
  rintro _ rfl
  refine Tops_step rfl (OpT_pickF rfl rfl rfl (congrArg (fun b => some (Value.bool b)) hg1) rfl) ?_
  refine Tops_step rfl (OpT_move rfl rfl rfl rfl) ?_
  rcases Bool.eq_false_or_eq_true (decide (id ≥ (32768 : Int))) with hg2 | hg2
  ·replace h := br_t hg2 h
   refine Tops_no rfl rfl (congrArg (fun b => some (Value.bool b)) hg2) rfl rfl ?_
   refine Tops_no rfl rfl (congrArg (fun b => some (Value.bool b)) hg2) rfl rfl ?_
   refine Tops_step rfl (OpT_pickT rfl rfl rfl (congrArg (fun b => some (Value.bool b)) hg2) rfl) ?_
   refine Tops_step rfl (OpT_move rfl rfl rfl rfl) ?_
   refine Tops_no rfl rfl rfl rfl rfl ?_
   refine Tops_no rfl rfl rfl rfl rfl ?_
   refine Tops_step rfl (OpT_pickT rfl rfl rfl rfl rfl) ?_
   refine Tops_nil (Tk_wkS (fr' := [(0, some (vI id)), (1, some (vU64 atp1)), (2, some (vI np2)), (6, some (.pointer (some ⟨b1, 0, none⟩))), (21, some (vB true))]) (own' := [some (cellsR b1 40 [vI (0 : Int), vU64 (0 : UInt64), vU32 (0 : UInt32), vU16 (0 : UInt16), vU16 (0 : UInt16)])]) (shr' := []) [0, 1, 2, 6, 21] [0] [] rfl rfl rfl rfl ?_)
   refine Tk_condT rfl ?_
   refine Tk_seq (Tk_region (Tops_step rfl (OpT_build (v := .agg #[vI (0 : Int), vU64 (0 : UInt64), vU32 (0 : UInt32), vU16 (0 : UInt16), vU16 (0 : UInt16)]) rfl rfl rfl rfl (bldV (by kernel_rfl))) ?_))
   refine Tops_step rfl (OpT_storeC (cs' := [vI (0 : Int), vU64 (0 : UInt64), vU32 (0 : UInt32), vU16 (0 : UInt16), vU16 (0 : UInt16)]) rfl rfl rfl rfl tyF40 (i := 0) rfl rfl rfl (one_of rfl) rfl) ?_
   refine Tops_step rfl (OpT_assign rfl rfl rfl rfl) ?_
   refine Tops_nil (Tk_wkS (fr' := [(6, some (.pointer (some ⟨b1, 0, none⟩))), (7, some (vI (2 : Int)))]) (own' := [some (cellsR b1 40 [vI (0 : Int), vU64 (0 : UInt64), vU32 (0 : UInt32), vU16 (0 : UInt16), vU16 (0 : UInt16)])]) (shr' := []) [6, 7] [0] [] rfl rfl rfl rfl ?_)
   obtain rfl := Option.some.inj h
   exact Tk_retV rfl rfl (resA (vs := [.agg #[vI (0 : Int), vU64 (0 : UInt64), vU32 (0 : UInt32), vU16 (0 : UInt16), vU16 (0 : UInt16)], vI (2 : Int)]) rfl ⟨⟨_, 0, _, _, _, rfl, rfl, .inl ⟨tyF40, rfl, rfl⟩⟩, rfl, trivial⟩) [] [] rfl rfl rfl ⟨rfl, rfl, rfl⟩
  ·replace h := br_f hg2 h
   refine Tops_yes rfl rfl (congrArg (fun b => some (Value.bool b)) hg2) (OpT_move rfl rfl rfl rfl) ?_
   rintro _ rfl
   refine Tops_yes rfl rfl (congrArg (fun b => some (Value.bool b)) hg2) (OpT_bin rfl rfl rfl rfl rfl (bin_lss_i (a := np2) (b := (1 : Int)))) ?_
   rintro _ rfl
   refine Tops_step rfl (OpT_pickF rfl rfl rfl (congrArg (fun b => some (Value.bool b)) hg2) rfl) ?_
   refine Tops_step rfl (OpT_move rfl rfl rfl rfl) ?_
   rcases Bool.eq_false_or_eq_true (decide (np2 < (1 : Int))) with hg3 | hg3
   ·replace h := br_t hg3 h
    refine Tops_no rfl rfl (congrArg (fun b => some (Value.bool b)) hg3) rfl rfl ?_
    refine Tops_no rfl rfl (congrArg (fun b => some (Value.bool b)) hg3) rfl rfl ?_
    refine Tops_step rfl (OpT_pickT rfl rfl rfl (congrArg (fun b => some (Value.bool b)) hg3) rfl) ?_
    refine Tops_nil (Tk_wkS (fr' := [(0, some (vI id)), (1, some (vU64 atp1)), (2, some (vI np2)), (6, some (.pointer (some ⟨b1, 0, none⟩))), (21, some (vB true))]) (own' := [some (cellsR b1 40 [vI (0 : Int), vU64 (0 : UInt64), vU32 (0 : UInt32), vU16 (0 : UInt16), vU16 (0 : UInt16)])]) (shr' := []) [0, 1, 2, 6, 21] [0] [] rfl rfl rfl rfl ?_)
    refine Tk_condT rfl ?_
    refine Tk_seq (Tk_region (Tops_step rfl (OpT_build (v := .agg #[vI (0 : Int), vU64 (0 : UInt64), vU32 (0 : UInt32), vU16 (0 : UInt16), vU16 (0 : UInt16)]) rfl rfl rfl rfl (bldV (by kernel_rfl))) ?_))
    refine Tops_step rfl (OpT_storeC (cs' := [vI (0 : Int), vU64 (0 : UInt64), vU32 (0 : UInt32), vU16 (0 : UInt16), vU16 (0 : UInt16)]) rfl rfl rfl rfl tyF40 (i := 0) rfl rfl rfl (one_of rfl) rfl) ?_
    refine Tops_step rfl (OpT_assign rfl rfl rfl rfl) ?_
    refine Tops_nil (Tk_wkS (fr' := [(6, some (.pointer (some ⟨b1, 0, none⟩))), (7, some (vI (2 : Int)))]) (own' := [some (cellsR b1 40 [vI (0 : Int), vU64 (0 : UInt64), vU32 (0 : UInt32), vU16 (0 : UInt16), vU16 (0 : UInt16)])]) (shr' := []) [6, 7] [0] [] rfl rfl rfl rfl ?_)
    obtain rfl := Option.some.inj h
    exact Tk_retV rfl rfl (resA (vs := [.agg #[vI (0 : Int), vU64 (0 : UInt64), vU32 (0 : UInt32), vU16 (0 : UInt16), vU16 (0 : UInt16)], vI (2 : Int)]) rfl ⟨⟨_, 0, _, _, _, rfl, rfl, .inl ⟨tyF40, rfl, rfl⟩⟩, rfl, trivial⟩) [] [] rfl rfl rfl ⟨rfl, rfl, rfl⟩
   ·replace h := br_f hg3 h
    refine Tops_yes rfl rfl (congrArg (fun b => some (Value.bool b)) hg3) (OpT_move rfl rfl rfl rfl) ?_
    rintro _ rfl
    refine Tops_yes rfl rfl (congrArg (fun b => some (Value.bool b)) hg3) (OpT_bin rfl rfl rfl rfl rfl (bin_gtr_i (a := np2) (b := (64 : Int)))) ?_
    rintro _ rfl
    refine Tops_step rfl (OpT_pickF rfl rfl rfl (congrArg (fun b => some (Value.bool b)) hg3) rfl) ?_
    refine Tops_nil (Tk_wkS (fr' := [(0, some (vI id)), (1, some (vU64 atp1)), (2, some (vI np2)), (6, some (.pointer (some ⟨b1, 0, none⟩))), (21, some (vB (decide (np2 > (64 : Int)))))]) (own' := [some (cellsR b1 40 [vI (0 : Int), vU64 (0 : UInt64), vU32 (0 : UInt32), vU16 (0 : UInt16), vU16 (0 : UInt16)])]) (shr' := []) [0, 1, 2, 6, 21] [0] [] rfl rfl rfl rfl ?_)
    rcases Bool.eq_false_or_eq_true (decide (np2 > (64 : Int))) with hg4 | hg4
    ·replace h := br_t hg4 h
     refine Tk_condT (congrArg (fun b => some (Value.bool b)) hg4) ?_
     refine Tk_seq (Tk_region (Tops_step rfl (OpT_build (v := .agg #[vI (0 : Int), vU64 (0 : UInt64), vU32 (0 : UInt32), vU16 (0 : UInt16), vU16 (0 : UInt16)]) rfl rfl rfl rfl (bldV (by kernel_rfl))) ?_))
     refine Tops_step rfl (OpT_storeC (cs' := [vI (0 : Int), vU64 (0 : UInt64), vU32 (0 : UInt32), vU16 (0 : UInt16), vU16 (0 : UInt16)]) rfl rfl rfl rfl tyF40 (i := 0) rfl rfl rfl (one_of rfl) rfl) ?_
     refine Tops_step rfl (OpT_assign rfl rfl rfl rfl) ?_
     refine Tops_nil (Tk_wkS (fr' := [(6, some (.pointer (some ⟨b1, 0, none⟩))), (7, some (vI (2 : Int)))]) (own' := [some (cellsR b1 40 [vI (0 : Int), vU64 (0 : UInt64), vU32 (0 : UInt32), vU16 (0 : UInt16), vU16 (0 : UInt16)])]) (shr' := []) [6, 7] [0] [] rfl rfl rfl rfl ?_)
     obtain rfl := Option.some.inj h
     exact Tk_retV rfl rfl (resA (vs := [.agg #[vI (0 : Int), vU64 (0 : UInt64), vU32 (0 : UInt32), vU16 (0 : UInt16), vU16 (0 : UInt16)], vI (2 : Int)]) rfl ⟨⟨_, 0, _, _, _, rfl, rfl, .inl ⟨tyF40, rfl, rfl⟩⟩, rfl, trivial⟩) [] [] rfl rfl rfl ⟨rfl, rfl, rfl⟩
    ·replace h := br_f hg4 h
     refine Tk_condF (congrArg (fun b => some (Value.bool b)) hg4) ?_
     refine Tk_skip (Tk_seq (Tk_region (Tops_step rfl (OpT_move rfl rfl rfl rfl) ?_)))
     refine Tops_step rfl (OpT_move rfl rfl rfl rfl) ?_
     refine Tops_step rfl (OpT_move rfl rfl rfl rfl) ?_
     refine Tops_step rfl (OpT_bin rfl rfl rfl rfl rfl (bin_mul_i (a := (16 : Int)) (b := np2))) ?_
     refine Tops_step rfl (OpT_cnv rfl rfl rfl rfl (cnv_i_u32 (n := wi ((16 : Int) * np2)) Try.underlying3 Try.underlying35)) ?_
     refine Tops_step rfl (OpT_build (v := .agg #[vU64 atp1, vU32 (u32 (wi ((16 : Int) * np2))), vU16 (4 : UInt16), vU16 (0 : UInt16)]) rfl rfl rfl rfl (bldV (by kernel_rfl))) ?_
     refine Tops_step rfl (OpT_build (v := .agg #[vI id, vU64 atp1, vU32 (u32 (wi ((16 : Int) * np2))), vU16 (4 : UInt16), vU16 (0 : UInt16)]) rfl rfl rfl rfl (bldV (by kernel_rfl))) ?_
     refine Tops_step rfl (OpT_storeC (cs' := [vI id, vU64 atp1, vU32 (u32 (wi ((16 : Int) * np2))), vU16 (4 : UInt16), vU16 (0 : UInt16)]) rfl rfl rfl rfl tyF40 (i := 0) rfl rfl rfl (one_of rfl) rfl) ?_
     refine Tops_step rfl (OpT_assign rfl rfl rfl rfl) ?_
     refine Tops_nil (Tk_wkS (fr' := [(6, some (.pointer (some ⟨b1, 0, none⟩))), (7, some (vI (0 : Int)))]) (own' := [some (cellsR b1 40 [vI id, vU64 atp1, vU32 (u32 (wi ((16 : Int) * np2))), vU16 (4 : UInt16), vU16 (0 : UInt16)])]) (shr' := []) [6, 7] [0] [] rfl rfl rfl rfl ?_)
     obtain rfl := Option.some.inj h
     exact Tk_retV rfl rfl (resA (vs := [.agg #[vI id, vU64 atp1, vU32 (u32 (wi ((16 : Int) * np2))), vU16 (4 : UInt16), vU16 (0 : UInt16)], vI (0 : Int)]) rfl ⟨⟨_, 0, _, _, _, rfl, rfl, .inl ⟨tyF40, rfl, rfl⟩⟩, rfl, trivial⟩) [] [] rfl rfl rfl ⟨rfl, rfl, rfl⟩

set_option maxRecDepth 100000 in
set_option maxHeartbeats 4000000 in
theorem w_ref_PackedOne09 {pp0 : Pos} {size : Int} {id : Int} {atp3 : UInt64} {np4 : Int} {r : (PutPacked × Int)} (h : ref_PackedOne09 pp0 size id atp3 np4 = some r) :
  Ctr Try.prog 29 #[.agg #[vI pp0.At, vB pp0.Wrap], vI size, vI id, vU64 atp3, vI np4] [] []
   (fun rv own shr => rv = .tuple #[.agg #[vI r.1.At, vU64 r.1.Desc.Addr, vU32 r.1.Desc.Len, vU16 r.1.Desc.ID, vU16 r.1.Desc.Flags], vI r.2] ∧ own = [] ∧ shr = []) := by
 unfold ref_PackedOne09 at h
 refine Ctr.mk (args := [.agg #[vI pp0.At, vB pp0.Wrap], vI size, vI id, vU64 atp3, vI np4]) Try.func29 rfl rfl (fun R0 w0 B => ?_)
 refine Tk_seq (Tk_region (Tops_ex rfl (OpT_box rfl rfl rfl rfl) fun b1 => ?_))
 refine Tops_ex rfl (OpT_alloc rfl rfl rfl tyZ46) fun b2 => ?_
 refine Tops_step rfl (OpT_assign rfl rfl rfl rfl) ?_
 refine Tops_nil (Tk_wkS (fr' := [(1, some (vI size)), (2, some (vI id)), (3, some (vU64 atp3)), (4, some (vI np4)), (5, some (.pointer (some ⟨b1, 0, none⟩))), (10, some (.pointer (some ⟨b2, 0, none⟩)))]) (own' := [some (cellsR b1 33 [vI pp0.At, vB pp0.Wrap]), some (cellsR b2 46 [vI (0 : Int), vU64 (0 : UInt64), vU32 (0 : UInt32), vU16 (0 : UInt16), vU16 (0 : UInt16)])]) (shr' := []) [1, 2, 3, 4, 5, 10] [0, 1] [] rfl rfl rfl rfl ?_)
 refine Tk_seq (Tk_seq (Tk_region (Tops_step rfl (OpT_loadCA (vs := [vI pp0.At, vB pp0.Wrap]) rfl rfl rfl rfl tyF33 (i := 0) rfl rfl rfl) ?_)))
 refine Tops_step rfl (OpT_move rfl rfl rfl rfl) ?_
 obtain ⟨check1, hx1, h⟩ := ob_e h
 refine Tops_exP rfl (OpT_call (w_ref_Check01 hx1) [] [] rfl rfl rfl rfl rfl callee51 rfl rfl rfl rfl) ?_
 rintro _ ⟨_, _, _, ⟨rfl, rfl, rfl⟩, rfl⟩
 refine Tops_step rfl (OpT_bin rfl rfl rfl rfl rfl (bin_neq_i (a := check1) (b := (0 : Int)))) ?_
 refine Tops_step rfl (OpT_move rfl rfl rfl rfl) ?_
 rcases Bool.eq_false_or_eq_true (check1 != (0 : Int)) with hg1 | hg1
 ·replace h := br_t hg1 h
  refine Tops_no rfl rfl (congrArg (fun b => some (Value.bool b)) hg1) rfl rfl ?_
  refine Tops_no rfl rfl (congrArg (fun b => some (Value.bool b)) hg1) rfl rfl ?_
  refine Tops_step rfl (OpT_pickT rfl rfl rfl (congrArg (fun b => some (Value.bool b)) hg1) rfl) ?_
  refine Tops_step rfl (OpT_move rfl rfl rfl rfl) ?_
  refine Tops_no rfl rfl rfl rfl rfl ?_
  refine Tops_no rfl rfl rfl rfl rfl ?_
  refine Tops_no rfl rfl rfl rfl rfl ?_
  refine Tops_step rfl (OpT_pickT rfl rfl rfl rfl rfl) ?_
  refine Tops_step rfl (OpT_move rfl rfl rfl rfl) ?_
  refine Tops_no rfl rfl rfl rfl rfl ?_
  refine Tops_no rfl rfl rfl rfl rfl ?_
  refine Tops_step rfl (OpT_pickT rfl rfl rfl rfl rfl) ?_
  refine Tops_step rfl (OpT_move rfl rfl rfl rfl) ?_
  refine Tops_no rfl rfl rfl rfl rfl ?_
  refine Tops_no rfl rfl rfl rfl rfl ?_
  refine Tops_step rfl (OpT_pickT rfl rfl rfl rfl rfl) ?_
  refine Tops_nil (Tk_wkS (fr' := [(2, some (vI id)), (3, some (vU64 atp3)), (4, some (vI np4)), (5, some (.pointer (some ⟨b1, 0, none⟩))), (10, some (.pointer (some ⟨b2, 0, none⟩))), (32, some (vB true))]) (own' := [some (cellsR b1 33 [vI pp0.At, vB pp0.Wrap]), some (cellsR b2 46 [vI (0 : Int), vU64 (0 : UInt64), vU32 (0 : UInt32), vU16 (0 : UInt16), vU16 (0 : UInt16)])]) (shr' := []) [2, 3, 4, 5, 10, 32] [0, 1] [] rfl rfl rfl rfl ?_)
  refine Tk_condT rfl ?_
  refine Tk_seq (Tk_region (Tops_step rfl (OpT_build (v := .agg #[vI (0 : Int), vU64 (0 : UInt64), vU32 (0 : UInt32), vU16 (0 : UInt16), vU16 (0 : UInt16)]) rfl rfl rfl rfl (bldV (by kernel_rfl))) ?_))
  refine Tops_step rfl (OpT_storeC (cs' := [vI (0 : Int), vU64 (0 : UInt64), vU32 (0 : UInt32), vU16 (0 : UInt16), vU16 (0 : UInt16)]) rfl rfl rfl rfl tyF46 (i := 1) rfl rfl rfl (one_of rfl) rfl) ?_
  refine Tops_step rfl (OpT_assign rfl rfl rfl rfl) ?_
  refine Tops_nil (Tk_wkS (fr' := [(10, some (.pointer (some ⟨b2, 0, none⟩))), (11, some (vI (2 : Int)))]) (own' := [some (cellsR b2 46 [vI (0 : Int), vU64 (0 : UInt64), vU32 (0 : UInt32), vU16 (0 : UInt16), vU16 (0 : UInt16)])]) (shr' := []) [10, 11] [1] [] rfl rfl rfl rfl ?_)
  obtain rfl := Option.some.inj h
  exact Tk_retV rfl rfl (resA (vs := [.agg #[vI (0 : Int), vU64 (0 : UInt64), vU32 (0 : UInt32), vU16 (0 : UInt16), vU16 (0 : UInt16)], vI (2 : Int)]) rfl ⟨⟨_, 0, _, _, _, rfl, rfl, .inl ⟨tyF46, rfl, rfl⟩⟩, rfl, trivial⟩) [] [] rfl rfl rfl ⟨rfl, rfl, rfl⟩
 ·replace h := br_f hg1 h
  refine Tops_yes rfl rfl (congrArg (fun b => some (Value.bool b)) hg1) (OpT_move rfl rfl rfl rfl) ?_
  rintro _ rfl
  refine Tops_yes rfl rfl (congrArg (fun b => some (Value.bool b)) hg1) (OpT_bin rfl rfl rfl rfl rfl (bin_lss_i (a := id) (b := (0 : Int)))) ?_
  rintro _ rfl
  refine Tops_step rfl (OpT_pickF rfl rfl rfl (congrArg (fun b => some (Value.bool b)) hg1) rfl) ?_
  refine Tops_step rfl (OpT_move rfl rfl rfl rfl) ?_
  rcases Bool.eq_false_or_eq_true (decide (id < (0 : Int))) with hg2 | hg2
  ·replace h := br_t hg2 h
   refine Tops_no rfl rfl (congrArg (fun b => some (Value.bool b)) hg2) rfl rfl ?_
   refine Tops_no rfl rfl (congrArg (fun b => some (Value.bool b)) hg2) rfl rfl ?_
   refine Tops_no rfl rfl (congrArg (fun b => some (Value.bool b)) hg2) rfl rfl ?_
   refine Tops_step rfl (OpT_pickT rfl rfl rfl (congrArg (fun b => some (Value.bool b)) hg2) rfl) ?_
   refine Tops_step rfl (OpT_move rfl rfl rfl rfl) ?_
   refine Tops_no rfl rfl rfl rfl rfl ?_
   refine Tops_no rfl rfl rfl rfl rfl ?_
   refine Tops_step rfl (OpT_pickT rfl rfl rfl rfl rfl) ?_
   refine Tops_step rfl (OpT_move rfl rfl rfl rfl) ?_
   refine Tops_no rfl rfl rfl rfl rfl ?_
   refine Tops_no rfl rfl rfl rfl rfl ?_
   refine Tops_step rfl (OpT_pickT rfl rfl rfl rfl rfl) ?_
   refine Tops_nil (Tk_wkS (fr' := [(2, some (vI id)), (3, some (vU64 atp3)), (4, some (vI np4)), (5, some (.pointer (some ⟨b1, 0, none⟩))), (10, some (.pointer (some ⟨b2, 0, none⟩))), (32, some (vB true))]) (own' := [some (cellsR b1 33 [vI pp0.At, vB pp0.Wrap]), some (cellsR b2 46 [vI (0 : Int), vU64 (0 : UInt64), vU32 (0 : UInt32), vU16 (0 : UInt16), vU16 (0 : UInt16)])]) (shr' := []) [2, 3, 4, 5, 10, 32] [0, 1] [] rfl rfl rfl rfl ?_)
   refine Tk_condT rfl ?_
   refine Tk_seq (Tk_region (Tops_step rfl (OpT_build (v := .agg #[vI (0 : Int), vU64 (0 : UInt64), vU32 (0 : UInt32), vU16 (0 : UInt16), vU16 (0 : UInt16)]) rfl rfl rfl rfl (bldV (by kernel_rfl))) ?_))
   refine Tops_step rfl (OpT_storeC (cs' := [vI (0 : Int), vU64 (0 : UInt64), vU32 (0 : UInt32), vU16 (0 : UInt16), vU16 (0 : UInt16)]) rfl rfl rfl rfl tyF46 (i := 1) rfl rfl rfl (one_of rfl) rfl) ?_
   refine Tops_step rfl (OpT_assign rfl rfl rfl rfl) ?_
   refine Tops_nil (Tk_wkS (fr' := [(10, some (.pointer (some ⟨b2, 0, none⟩))), (11, some (vI (2 : Int)))]) (own' := [some (cellsR b2 46 [vI (0 : Int), vU64 (0 : UInt64), vU32 (0 : UInt32), vU16 (0 : UInt16), vU16 (0 : UInt16)])]) (shr' := []) [10, 11] [1] [] rfl rfl rfl rfl ?_)
   obtain rfl := Option.some.inj h
   exact Tk_retV rfl rfl (resA (vs := [.agg #[vI (0 : Int), vU64 (0 : UInt64), vU32 (0 : UInt32), vU16 (0 : UInt16), vU16 (0 : UInt16)], vI (2 : Int)]) rfl ⟨⟨_, 0, _, _, _, rfl, rfl, .inl ⟨tyF46, rfl, rfl⟩⟩, rfl, trivial⟩) [] [] rfl rfl rfl ⟨rfl, rfl, rfl⟩
  ·replace h := br_f hg2 h
   refine Tops_yes rfl rfl (congrArg (fun b => some (Value.bool b)) hg2) (OpT_move rfl rfl rfl rfl) ?_
   rintro _ rfl
   refine Tops_yes rfl rfl (congrArg (fun b => some (Value.bool b)) hg2) (OpT_move rfl rfl rfl rfl) ?_
   rintro _ rfl
   refine Tops_yes rfl rfl (congrArg (fun b => some (Value.bool b)) hg2) (OpT_bin rfl rfl rfl rfl rfl (bin_geq_i (a := id) (b := size))) ?_
   rintro _ rfl
   refine Tops_step rfl (OpT_pickF rfl rfl rfl (congrArg (fun b => some (Value.bool b)) hg2) rfl) ?_
   refine Tops_step rfl (OpT_move rfl rfl rfl rfl) ?_
   rcases Bool.eq_false_or_eq_true (decide (id ≥ size)) with hg3 | hg3
   ·replace h := br_t hg3 h
    refine Tops_no rfl rfl (congrArg (fun b => some (Value.bool b)) hg3) rfl rfl ?_
    refine Tops_no rfl rfl (congrArg (fun b => some (Value.bool b)) hg3) rfl rfl ?_
    refine Tops_step rfl (OpT_pickT rfl rfl rfl (congrArg (fun b => some (Value.bool b)) hg3) rfl) ?_
    refine Tops_step rfl (OpT_move rfl rfl rfl rfl) ?_
    refine Tops_no rfl rfl rfl rfl rfl ?_
    refine Tops_no rfl rfl rfl rfl rfl ?_
    refine Tops_step rfl (OpT_pickT rfl rfl rfl rfl rfl) ?_
    refine Tops_nil (Tk_wkS (fr' := [(2, some (vI id)), (3, some (vU64 atp3)), (4, some (vI np4)), (5, some (.pointer (some ⟨b1, 0, none⟩))), (10, some (.pointer (some ⟨b2, 0, none⟩))), (32, some (vB true))]) (own' := [some (cellsR b1 33 [vI pp0.At, vB pp0.Wrap]), some (cellsR b2 46 [vI (0 : Int), vU64 (0 : UInt64), vU32 (0 : UInt32), vU16 (0 : UInt16), vU16 (0 : UInt16)])]) (shr' := []) [2, 3, 4, 5, 10, 32] [0, 1] [] rfl rfl rfl rfl ?_)
    refine Tk_condT rfl ?_
    refine Tk_seq (Tk_region (Tops_step rfl (OpT_build (v := .agg #[vI (0 : Int), vU64 (0 : UInt64), vU32 (0 : UInt32), vU16 (0 : UInt16), vU16 (0 : UInt16)]) rfl rfl rfl rfl (bldV (by kernel_rfl))) ?_))
    refine Tops_step rfl (OpT_storeC (cs' := [vI (0 : Int), vU64 (0 : UInt64), vU32 (0 : UInt32), vU16 (0 : UInt16), vU16 (0 : UInt16)]) rfl rfl rfl rfl tyF46 (i := 1) rfl rfl rfl (one_of rfl) rfl) ?_
    refine Tops_step rfl (OpT_assign rfl rfl rfl rfl) ?_
    refine Tops_nil (Tk_wkS (fr' := [(10, some (.pointer (some ⟨b2, 0, none⟩))), (11, some (vI (2 : Int)))]) (own' := [some (cellsR b2 46 [vI (0 : Int), vU64 (0 : UInt64), vU32 (0 : UInt32), vU16 (0 : UInt16), vU16 (0 : UInt16)])]) (shr' := []) [10, 11] [1] [] rfl rfl rfl rfl ?_)
    obtain rfl := Option.some.inj h
    exact Tk_retV rfl rfl (resA (vs := [.agg #[vI (0 : Int), vU64 (0 : UInt64), vU32 (0 : UInt32), vU16 (0 : UInt16), vU16 (0 : UInt16)], vI (2 : Int)]) rfl ⟨⟨_, 0, _, _, _, rfl, rfl, .inl ⟨tyF46, rfl, rfl⟩⟩, rfl, trivial⟩) [] [] rfl rfl rfl ⟨rfl, rfl, rfl⟩
   ·replace h := br_f hg3 h
    refine Tops_yes rfl rfl (congrArg (fun b => some (Value.bool b)) hg3) (OpT_move rfl rfl rfl rfl) ?_
    rintro _ rfl
    refine Tops_yes rfl rfl (congrArg (fun b => some (Value.bool b)) hg3) (OpT_bin rfl rfl rfl rfl rfl (bin_lss_i (a := np4) (b := (1 : Int)))) ?_
    rintro _ rfl
    refine Tops_step rfl (OpT_pickF rfl rfl rfl (congrArg (fun b => some (Value.bool b)) hg3) rfl) ?_
    refine Tops_step rfl (OpT_move rfl rfl rfl rfl) ?_
    rcases Bool.eq_false_or_eq_true (decide (np4 < (1 : Int))) with hg4 | hg4
    ·replace h := br_t hg4 h
     refine Tops_no rfl rfl (congrArg (fun b => some (Value.bool b)) hg4) rfl rfl ?_
     refine Tops_no rfl rfl (congrArg (fun b => some (Value.bool b)) hg4) rfl rfl ?_
     refine Tops_step rfl (OpT_pickT rfl rfl rfl (congrArg (fun b => some (Value.bool b)) hg4) rfl) ?_
     refine Tops_nil (Tk_wkS (fr' := [(2, some (vI id)), (3, some (vU64 atp3)), (4, some (vI np4)), (5, some (.pointer (some ⟨b1, 0, none⟩))), (10, some (.pointer (some ⟨b2, 0, none⟩))), (32, some (vB true))]) (own' := [some (cellsR b1 33 [vI pp0.At, vB pp0.Wrap]), some (cellsR b2 46 [vI (0 : Int), vU64 (0 : UInt64), vU32 (0 : UInt32), vU16 (0 : UInt16), vU16 (0 : UInt16)])]) (shr' := []) [2, 3, 4, 5, 10, 32] [0, 1] [] rfl rfl rfl rfl ?_)
     refine Tk_condT rfl ?_
     refine Tk_seq (Tk_region (Tops_step rfl (OpT_build (v := .agg #[vI (0 : Int), vU64 (0 : UInt64), vU32 (0 : UInt32), vU16 (0 : UInt16), vU16 (0 : UInt16)]) rfl rfl rfl rfl (bldV (by kernel_rfl))) ?_))
     refine Tops_step rfl (OpT_storeC (cs' := [vI (0 : Int), vU64 (0 : UInt64), vU32 (0 : UInt32), vU16 (0 : UInt16), vU16 (0 : UInt16)]) rfl rfl rfl rfl tyF46 (i := 1) rfl rfl rfl (one_of rfl) rfl) ?_
     refine Tops_step rfl (OpT_assign rfl rfl rfl rfl) ?_
     refine Tops_nil (Tk_wkS (fr' := [(10, some (.pointer (some ⟨b2, 0, none⟩))), (11, some (vI (2 : Int)))]) (own' := [some (cellsR b2 46 [vI (0 : Int), vU64 (0 : UInt64), vU32 (0 : UInt32), vU16 (0 : UInt16), vU16 (0 : UInt16)])]) (shr' := []) [10, 11] [1] [] rfl rfl rfl rfl ?_)
     obtain rfl := Option.some.inj h
     exact Tk_retV rfl rfl (resA (vs := [.agg #[vI (0 : Int), vU64 (0 : UInt64), vU32 (0 : UInt32), vU16 (0 : UInt16), vU16 (0 : UInt16)], vI (2 : Int)]) rfl ⟨⟨_, 0, _, _, _, rfl, rfl, .inl ⟨tyF46, rfl, rfl⟩⟩, rfl, trivial⟩) [] [] rfl rfl rfl ⟨rfl, rfl, rfl⟩
    ·replace h := br_f hg4 h
     refine Tops_yes rfl rfl (congrArg (fun b => some (Value.bool b)) hg4) (OpT_move rfl rfl rfl rfl) ?_
     rintro _ rfl
     refine Tops_yes rfl rfl (congrArg (fun b => some (Value.bool b)) hg4) (OpT_bin rfl rfl rfl rfl rfl (bin_gtr_i (a := np4) (b := (64 : Int)))) ?_
     rintro _ rfl
     refine Tops_step rfl (OpT_pickF rfl rfl rfl (congrArg (fun b => some (Value.bool b)) hg4) rfl) ?_
     refine Tops_nil (Tk_wkS (fr' := [(2, some (vI id)), (3, some (vU64 atp3)), (4, some (vI np4)), (5, some (.pointer (some ⟨b1, 0, none⟩))), (10, some (.pointer (some ⟨b2, 0, none⟩))), (32, some (vB (decide (np4 > (64 : Int)))))]) (own' := [some (cellsR b1 33 [vI pp0.At, vB pp0.Wrap]), some (cellsR b2 46 [vI (0 : Int), vU64 (0 : UInt64), vU32 (0 : UInt32), vU16 (0 : UInt16), vU16 (0 : UInt16)])]) (shr' := []) [2, 3, 4, 5, 10, 32] [0, 1] [] rfl rfl rfl rfl ?_)
     rcases Bool.eq_false_or_eq_true (decide (np4 > (64 : Int))) with hg5 | hg5
     ·replace h := br_t hg5 h
      refine Tk_condT (congrArg (fun b => some (Value.bool b)) hg5) ?_
      refine Tk_seq (Tk_region (Tops_step rfl (OpT_build (v := .agg #[vI (0 : Int), vU64 (0 : UInt64), vU32 (0 : UInt32), vU16 (0 : UInt16), vU16 (0 : UInt16)]) rfl rfl rfl rfl (bldV (by kernel_rfl))) ?_))
      refine Tops_step rfl (OpT_storeC (cs' := [vI (0 : Int), vU64 (0 : UInt64), vU32 (0 : UInt32), vU16 (0 : UInt16), vU16 (0 : UInt16)]) rfl rfl rfl rfl tyF46 (i := 1) rfl rfl rfl (one_of rfl) rfl) ?_
      refine Tops_step rfl (OpT_assign rfl rfl rfl rfl) ?_
      refine Tops_nil (Tk_wkS (fr' := [(10, some (.pointer (some ⟨b2, 0, none⟩))), (11, some (vI (2 : Int)))]) (own' := [some (cellsR b2 46 [vI (0 : Int), vU64 (0 : UInt64), vU32 (0 : UInt32), vU16 (0 : UInt16), vU16 (0 : UInt16)])]) (shr' := []) [10, 11] [1] [] rfl rfl rfl rfl ?_)
      obtain rfl := Option.some.inj h
      exact Tk_retV rfl rfl (resA (vs := [.agg #[vI (0 : Int), vU64 (0 : UInt64), vU32 (0 : UInt32), vU16 (0 : UInt16), vU16 (0 : UInt16)], vI (2 : Int)]) rfl ⟨⟨_, 0, _, _, _, rfl, rfl, .inl ⟨tyF46, rfl, rfl⟩⟩, rfl, trivial⟩) [] [] rfl rfl rfl ⟨rfl, rfl, rfl⟩
     ·replace h := br_f hg5 h
      refine Tk_condF (congrArg (fun b => some (Value.bool b)) hg5) ?_
      refine Tk_skip (Tk_seq (Tk_drawT (by kernel_rfl) ?_))
      refine TA_tb [0, 1, 0, 0, 8, 24, 0, 64, 0, 256, 768, 2044, 4095, 8191, 16383] (by kernel_rfl) fun htb => ?_
      refine TA_wkS (fr' := [(2, some (vI id)), (3, some (vU64 atp3)), (4, some (vI np4)), (5, some (.pointer (some ⟨b1, 0, none⟩))), (10, some (.pointer (some ⟨b2, 0, none⟩)))]) (own' := [some (cellsR b1 33 [vI pp0.At, vB pp0.Wrap]), some (cellsR b2 46 [vI (0 : Int), vU64 (0 : UInt64), vU32 (0 : UInt32), vU16 (0 : UInt16), vU16 (0 : UInt16)])]) (shr' := []) [2, 3, 4, 5, 10] [0, 1] [] rfl rfl rfl rfl ?_
      obtain ⟨mark1, hx2, h⟩ := ob_e h
      refine TA_seg (lo := 0) (hi := 12) htb rfl rfl (by kernel_rfl) (fun c L a w => Sat c ⟨[(2, some (vI id)), (3, some (vU64 atp3)), (4, some (vI np4)), (5, some (.pointer (some ⟨b1, 0, none⟩))), (10, some (.pointer (some ⟨b2, 0, none⟩))), (34, bif L 0 then some (.pointer (some ⟨b1, 0, none⟩)) else none), (35, bif L 1 then some (vI pp0.At) else none), (36, bif L 2 then some (vU64 atp3) else none), (37, bif L 3 then some (vI np4) else none), (38, bif L 4 then some (vI (wi ((16 : Int) * np4))) else none), (39, bif L 5 then some (vU32 (u32 (wi ((16 : Int) * np4)))) else none), (40, bif L 6 then some (vI id) else none), (41, bif L 7 then some (vU16 (u16 id)) else none), (42, bif L 8 then some (.pointer (some ⟨b1, 1, none⟩)) else none), (43, bif L 9 then some (vB pp0.Wrap) else none), (44, bif L 10 then some (vU16 mark1) else none), (45, bif L 11 then some (.agg #[vU64 atp3, vU32 (u32 (wi ((16 : Int) * np4))), vU16 (u16 id), vU16 mark1]) else none)], [(some (cellsR b1 33 [vI pp0.At, vB pp0.Wrap]) : Option Res), (some (cellsR b2 46 [vI (0 : Int), vU64 (0 : UInt64), vU32 (0 : UInt32), vU16 (0 : UInt16), vU16 (0 : UInt16)]) : Option Res)], []⟩ a w) [([], [1]), ([0], []), ([], [11]), ([], [4, 5, 11]), ([3], [5, 11]), ([3, 4], [11]), ([], [7, 11]), ([6], [11]), ([], [9, 10, 11]), ([8], [10, 11]), ([8, 9], [11]), ([2, 3, 4, 5, 6, 7, 8, 9, 10], [])] rfl (by kernel_rfl) ?_ (steps_cons ?_ (steps_cons ?_ (steps_cons ?_ (steps_cons ?_ (steps_cons ?_ (steps_cons ?_ (steps_cons ?_ (steps_cons ?_ (steps_cons ?_ (steps_cons ?_ (steps_cons ?_ (steps_cons ?_ (steps_nil))))))))))))) ?_
      ·intro a w hs
       exact hs.startF [34, 35, 36, 37, 38, 39, 40, 41, 42, 43, 44, 45] [0, 1] [] rfl rfl rfl rfl
      ·intro L a w hv K Q hK
       have hs := hv
       refine wpOp_go rfl rfl hs (OpT_fieldC rfl rfl rfl rfl fldF33x0) ?_
       rintro _ rfl a' w' hs'
       exact hK a' w' (hs'.putF (i := 5) rfl [0, 1] [] rfl rfl rfl rfl)
      ·intro L a w hv K Q hK
       have hs := hv
       refine wpOp_go rfl rfl hs (OpT_loadC rfl rfl rfl rfl tyF3 (i := 0) rfl rfl) ?_
       rintro _ rfl a' w' hs'
       exact hK a' w' (hs'.putF (i := 6) rfl [0, 1] [] rfl rfl rfl rfl)
      ·intro L a w hv K Q hK
       have hs := hv
       refine wpOp_go rfl rfl hs (OpT_move rfl rfl rfl rfl) ?_
       rintro _ rfl a' w' hs'
       exact hK a' w' (hs'.putF (i := 7) rfl [0, 1] [] rfl rfl rfl rfl)
      ·intro L a w hv K Q hK
       have hs := hv
       refine wpOp_go rfl rfl hs (OpT_move rfl rfl rfl rfl) ?_
       rintro _ rfl a' w' hs'
       exact hK a' w' (hs'.putF (i := 8) rfl [0, 1] [] rfl rfl rfl rfl)
      ·intro L a w hv K Q hK
       have hs := hv
       refine wpOp_go rfl rfl hs (OpT_bin rfl rfl rfl rfl rfl (bin_mul_i (a := (16 : Int)) (b := np4))) ?_
       rintro _ rfl a' w' hs'
       exact hK a' w' (hs'.putF (i := 9) rfl [0, 1] [] rfl rfl rfl rfl)
      ·intro L a w hv K Q hK
       have hs := hv
       refine wpOp_go rfl rfl hs (OpT_cnv rfl rfl rfl rfl (cnv_i_u32 (n := wi ((16 : Int) * np4)) Try.underlying3 Try.underlying35)) ?_
       rintro _ rfl a' w' hs'
       exact hK a' w' (hs'.putF (i := 10) rfl [0, 1] [] rfl rfl rfl rfl)
      ·intro L a w hv K Q hK
       have hs := hv
       refine wpOp_go rfl rfl hs (OpT_move rfl rfl rfl rfl) ?_
       rintro _ rfl a' w' hs'
       exact hK a' w' (hs'.putF (i := 11) rfl [0, 1] [] rfl rfl rfl rfl)
      ·intro L a w hv K Q hK
       have hs := hv
       refine wpOp_go rfl rfl hs (OpT_cnv rfl rfl rfl rfl (cnv_i_u16 (n := id) Try.underlying3 Try.underlying36)) ?_
       rintro _ rfl a' w' hs'
       exact hK a' w' (hs'.putF (i := 12) rfl [0, 1] [] rfl rfl rfl rfl)
      ·intro L a w hv K Q hK
       have hs := hv
       refine wpOp_go rfl rfl hs (OpT_fieldC rfl rfl rfl rfl fldF33x1) ?_
       rintro _ rfl a' w' hs'
       exact hK a' w' (hs'.putF (i := 13) rfl [0, 1] [] rfl rfl rfl rfl)
      ·intro L a w hv K Q hK
       have hs := hv
       refine wpOp_go rfl rfl hs (OpT_loadC rfl rfl rfl rfl tyF4 (i := 0) rfl rfl) ?_
       rintro _ rfl a' w' hs'
       exact hK a' w' (hs'.putF (i := 14) rfl [0, 1] [] rfl rfl rfl rfl)
      ·intro L a w hv K Q hK
       have hs := hv
       refine wpOp_go rfl rfl hs (OpT_call (w_ref_Mark03 hx2) [] [] rfl rfl rfl rfl rfl callee52 rfl rfl rfl rfl) ?_
       rintro _ ⟨_, _, _, ⟨rfl, rfl, rfl⟩, rfl⟩ a' w' hs'
       exact hK a' w' (hs'.putF (i := 15) rfl [0, 1] [] rfl rfl rfl rfl)
      ·intro L a w hv K Q hK
       have hs := hv
       refine wpOp_go rfl rfl hs (OpT_build (v := .agg #[vU64 atp3, vU32 (u32 (wi ((16 : Int) * np4))), vU16 (u16 id), vU16 mark1]) rfl rfl rfl rfl (bldV (by kernel_rfl))) ?_
       rintro _ rfl a' w' hs'
       exact hK a' w' (hs'.putF (i := 16) rfl [0, 1] [] rfl rfl rfl rfl)
      ·intro L a w hL hv
       rw [allTrue hL] at hv
       have hs := hv
       refine (show TA _ _ _ 12 ⟨[(10, some (.pointer (some ⟨b2, 0, none⟩))), (35, some (vI pp0.At)), (45, some (.agg #[vU64 atp3, vU32 (u32 (wi ((16 : Int) * np4))), vU16 (u16 id), vU16 mark1]))], [some (cellsR b2 46 [vI (0 : Int), vU64 (0 : UInt64), vU32 (0 : UInt32), vU16 (0 : UInt16), vU16 (0 : UInt16)])], []⟩ from ?_) a w (hs.wkS [10, 35, 45] [1] [] rfl rfl rfl rfl)
       clear hs hL
       refine TA_step htb (by kernel_rfl) rfl rfl (OpT_build (v := .agg #[vI pp0.At, vU64 atp3, vU32 (u32 (wi ((16 : Int) * np4))), vU16 (u16 id), vU16 mark1]) rfl rfl rfl rfl (bldV (by kernel_rfl))) ?_
       refine TA_step htb (by kernel_rfl) rfl rfl (OpT_storeC (cs' := [vI pp0.At, vU64 atp3, vU32 (u32 (wi ((16 : Int) * np4))), vU16 (u16 id), vU16 mark1]) rfl rfl rfl rfl tyF46 (i := 0) rfl rfl rfl (one_of rfl) rfl) ?_
       refine TA_step htb (by kernel_rfl) rfl rfl (OpT_assign rfl rfl rfl rfl) ?_
       refine TA_end rfl ?_
       refine Tk_wkS (fr' := [(10, some (.pointer (some ⟨b2, 0, none⟩))), (11, some (vI (0 : Int)))]) (own' := [some (cellsR b2 46 [vI pp0.At, vU64 atp3, vU32 (u32 (wi ((16 : Int) * np4))), vU16 (u16 id), vU16 mark1])]) (shr' := []) [10, 11] [0] [] rfl rfl rfl rfl ?_
       obtain rfl := Option.some.inj h
       exact Tk_retV rfl rfl (resA (vs := [.agg #[vI pp0.At, vU64 atp3, vU32 (u32 (wi ((16 : Int) * np4))), vU16 (u16 id), vU16 mark1], vI (0 : Int)]) rfl ⟨⟨_, 0, _, _, _, rfl, rfl, .inl ⟨tyF46, rfl, rfl⟩⟩, rfl, trivial⟩) [] [] rfl rfl rfl ⟨rfl, rfl, rfl⟩
end Go.Proofs.Ytihcimjfabdafaa
