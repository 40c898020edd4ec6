/- The law SegCuts is walked: it returns what its plain words say. No condition. -/
import Derived.Test.YtkdekmjcfoahjaaWa1
namespace Go.Proofs.Ytkdekmjcfoahjaa

set_option maxRecDepth 100000 in
set_option maxHeartbeats 4000000 in
theorem w_law05zSegCuts {l : List Seg} {fromp1 : UInt64} {np2 : UInt64} {more : UInt64} {vl1 : Value}  (h : law05zSegCuts l fromp1 np2 more = some true) :
    Ctr Try.prog 3 #[vl1, vU64 fromp1, vU64 np2, vU64 more] [] [Fact.sl SegS vl1 l]
      (fun rv own shr => rv = .bool true ∧ own = [] ∧ shr = []) := by
  unfold law05zSegCuts at h
  refine Ctr.mk (args := [vl1, vU64 fromp1, vU64 np2, vU64 more]) Try.func3 rfl rfl (fun R0 w0 B => ?_)
  refine Tk_seq ?_
  refine Tk_region ?_
  refine Tops_step rfl (OpT_assign rfl rfl rfl rfl) ?_
  refine Tops_nil ?_
  refine Tk_wkS (fr' := [(0, some (vl1)), (1, some (vU64 fromp1)), (2, some (vU64 np2)), (3, some (vU64 more))]) (own' := []) (shr' := [Fact.sl SegS vl1 l]) [0, 1, 2, 3] [] [0] rfl rfl rfl rfl ?_
  refine Tk_seq ?_
  refine Tk_seq ?_
  refine Tk_region ?_
  obtain ⟨lives1, hx1, h⟩ := ob_e h
  refine Tops_exP rfl (OpT_call (w_law05zlives hx1) [] [] rfl rfl rfl rfl rfl callee8 rfl rfl rfl rfl) ?_
  rintro _ ⟨_, _, _, ⟨rfl, rfl, rfl⟩, rfl⟩
  refine Tops_step rfl (OpT_not rfl rfl rfl rfl) ?_
  refine Tops_nil ?_
  refine Tk_wkS (fr' := [(0, some (vl1)), (1, some (vU64 fromp1)), (2, some (vU64 np2)), (3, some (vU64 more)), (23, some (vB (!lives1)))]) (own' := []) (shr' := [Fact.sl SegS vl1 l]) [0, 1, 2, 3, 23] [] [0] rfl rfl rfl rfl ?_
  obtain ⟨hg1, h⟩ := chk_e h
  replace hg1 := not_t hg1
  refine Tk_condF (congrArg (fun b => some (Value.bool b)) hg1) ?_
  refine Tk_skip ?_
  refine Tk_seq ?_
  refine Tk_seq ?_
  refine Tk_region ?_
  refine Tops_step rfl (OpT_move rfl rfl rfl rfl) ?_
  refine Tops_step rfl (OpT_lenS rfl rfl rfl rfl Try.underlying22 (i := 0) rfl) ?_
  refine Tops_step rfl (OpT_bin rfl rfl rfl rfl rfl (bin_gtr_i (a := len l) (b := (100 : Int)))) ?_
  refine Tops_step rfl (OpT_move rfl rfl rfl rfl) ?_
  rcases Bool.eq_false_or_eq_true (decide ((len l) > (100 : Int))) with hg2 | hg2
  · replace h := br_t hg2 h
    refine Tops_no rfl rfl (congrArg (fun b => some (Value.bool b)) hg2) rfl rfl ?_
    refine Tops_no rfl rfl (congrArg (fun b => some (Value.bool b)) hg2) rfl rfl ?_
    refine Tops_no rfl rfl (congrArg (fun b => some (Value.bool b)) hg2) rfl rfl ?_
    refine Tops_step rfl (OpT_pickT rfl rfl rfl (congrArg (fun b => some (Value.bool b)) hg2) rfl) ?_
    refine Tops_nil ?_
    refine Tk_wkS (fr' := [(0, some (vl1)), (1, some (vU64 fromp1)), (2, some (vU64 np2)), (3, some (vU64 more)), (31, some (vB true))]) (own' := []) (shr' := [Fact.sl SegS vl1 l]) [0, 1, 2, 3, 31] [] [0] rfl rfl rfl rfl ?_
    refine Tk_condT rfl ?_
    refine Tk_seq ?_
    refine Tk_region ?_
    refine Tops_step rfl (OpT_assign rfl rfl rfl rfl) ?_
    refine Tops_nil ?_
    refine Tk_wkS (fr' := [(8, some (vB true))]) (own' := []) (shr' := []) [8] [] [] rfl rfl rfl rfl ?_
    exact Tk_retV rfl rfl (resA (vs := [.bool true]) rfl ⟨rfl, trivial⟩) [] [] rfl rfl rfl ⟨rfl, rfl, rfl⟩
  · replace h := br_f hg2 h
    refine Tops_yes rfl rfl (congrArg (fun b => some (Value.bool b)) hg2) (OpT_move rfl rfl rfl rfl) ?_
    rintro _ rfl
    obtain ⟨check1, hx2, h⟩ := ob_e h
    refine Tops_yes rfl rfl (congrArg (fun b => some (Value.bool b)) hg2) (OpT_call (w_seg_Check hx2) [] [0] rfl rfl rfl rfl rfl callee9 rfl rfl rfl rfl) ?_
    rintro _ ⟨_, _, _, ⟨rfl, rfl, rfl⟩, rfl⟩
    refine Tops_yes rfl rfl (congrArg (fun b => some (Value.bool b)) hg2) (OpT_bin rfl rfl rfl rfl rfl (bin_neq_i (a := check1) (b := (0 : Int)))) ?_
    rintro _ rfl
    refine Tops_step rfl (OpT_pickF rfl rfl rfl (congrArg (fun b => some (Value.bool b)) hg2) rfl) ?_
    refine Tops_nil ?_
    refine Tk_wkS (fr' := [(0, some (vl1)), (1, some (vU64 fromp1)), (2, some (vU64 np2)), (3, some (vU64 more)), (31, some (vB (check1 != (0 : Int))))]) (own' := []) (shr' := [Fact.sl SegS vl1 l]) [0, 1, 2, 3, 31] [] [0] rfl rfl rfl rfl ?_
    rcases Bool.eq_false_or_eq_true (check1 != (0 : Int)) with hg3 | hg3
    · replace h := br_t hg3 h
      refine Tk_condT (congrArg (fun b => some (Value.bool b)) hg3) ?_
      refine Tk_seq ?_
      refine Tk_region ?_
      refine Tops_step rfl (OpT_assign rfl rfl rfl rfl) ?_
      refine Tops_nil ?_
      refine Tk_wkS (fr' := [(8, some (vB true))]) (own' := []) (shr' := []) [8] [] [] rfl rfl rfl rfl ?_
      exact Tk_retV rfl rfl (resA (vs := [.bool true]) rfl ⟨rfl, trivial⟩) [] [] rfl rfl rfl ⟨rfl, rfl, rfl⟩
    · replace h := br_f hg3 h
      refine Tk_condF (congrArg (fun b => some (Value.bool b)) hg3) ?_
      refine Tk_skip ?_
      refine Tk_seq ?_
      refine Tk_region ?_
      refine Tops_step rfl (OpT_move rfl rfl rfl rfl) ?_
      refine Tops_step rfl (OpT_bin rfl rfl rfl rfl rfl (bin_rem_u64 (a := fromp1) (b := (8589934592 : UInt64)) rfl)) ?_
      refine Tops_step rfl (OpT_move rfl rfl rfl rfl) ?_
      refine Tops_step rfl (OpT_bin rfl rfl rfl rfl rfl (bin_rem_u64 (a := np2) (b := (8589934592 : UInt64)) rfl)) ?_
      refine Tops_step rfl (OpT_move rfl rfl rfl rfl) ?_
      refine Tops_step rfl (OpT_bin rfl rfl rfl rfl rfl (bin_rem_u64 (a := more) (b := (8589934592 : UInt64)) rfl)) ?_
      refine Tops_step rfl (OpT_assign rfl rfl rfl rfl) ?_
      refine Tops_step rfl (OpT_assign rfl rfl rfl rfl) ?_
      refine Tops_step rfl (OpT_assign rfl rfl rfl rfl) ?_
      refine Tops_nil ?_
      refine Tk_wkS (fr' := [(0, some (vl1)), (1, some (vU64 (fromp1 % (8589934592 : UInt64)))), (2, some (vU64 (np2 % (8589934592 : UInt64)))), (3, some (vU64 (more % (8589934592 : UInt64))))]) (own' := []) (shr' := [Fact.sl SegS vl1 l]) [0, 1, 2, 3] [] [0] rfl rfl rfl rfl ?_
      refine Tk_seq ?_
      refine Tk_region ?_
      refine Tops_step rfl (OpT_move rfl rfl rfl rfl) ?_
      obtain ⟨total1, hx3, h⟩ := ob_e h
      refine Tops_exP rfl (OpT_call (w_seg_Total hx3) [] [0] rfl rfl rfl rfl rfl callee10 rfl rfl rfl rfl) ?_
      rintro _ ⟨_, _, _, ⟨rfl, rfl, rfl⟩, rfl⟩
      refine Tops_step rfl (OpT_move rfl rfl rfl rfl) ?_
      refine Tops_step rfl (OpT_extract rfl rfl rfl rfl rfl) ?_
      refine Tops_step rfl (OpT_extract rfl rfl rfl rfl rfl) ?_
      refine Tops_step rfl (OpT_assign rfl rfl rfl rfl) ?_
      refine Tops_step rfl (OpT_assign rfl rfl rfl rfl) ?_
      refine Tops_nil ?_
      refine Tk_wkS (fr' := [(0, some (vl1)), (1, some (vU64 (fromp1 % (8589934592 : UInt64)))), (2, some (vU64 (np2 % (8589934592 : UInt64)))), (3, some (vU64 (more % (8589934592 : UInt64)))), (9, some (vU64 total1.1)), (10, some (vU64 total1.2))]) (own' := []) (shr' := [Fact.sl SegS vl1 l]) [0, 1, 2, 3, 9, 10] [] [0] rfl rfl rfl rfl ?_
      refine Tk_seq ?_
      refine Tk_region ?_
      refine Tops_step rfl (OpT_move rfl rfl rfl rfl) ?_
      refine Tops_step rfl (OpT_move rfl rfl rfl rfl) ?_
      refine Tops_step rfl (OpT_bin rfl rfl rfl rfl rfl (bin_add_u64 (a := total1.1) (b := total1.2))) ?_
      refine Tops_step rfl (OpT_assign rfl rfl rfl rfl) ?_
      refine Tops_nil ?_
      refine Tk_wkS (fr' := [(0, some (vl1)), (1, some (vU64 (fromp1 % (8589934592 : UInt64)))), (2, some (vU64 (np2 % (8589934592 : UInt64)))), (3, some (vU64 (more % (8589934592 : UInt64)))), (9, some (vU64 total1.1)), (11, some (vU64 (total1.1 + total1.2)))]) (own' := []) (shr' := [Fact.sl SegS vl1 l]) [0, 1, 2, 3, 9, 11] [] [0] rfl rfl rfl rfl ?_
      refine Tk_seq ?_
      refine Tk_region ?_
      refine Tops_step rfl (OpT_move rfl rfl rfl rfl) ?_
      refine Tops_step rfl (OpT_move rfl rfl rfl rfl) ?_
      refine Tops_step rfl (OpT_move rfl rfl rfl rfl) ?_
      obtain ⟨cut1, hx4, h⟩ := ob_e h
      refine Tops_exP rfl (OpT_call (w_seg_Cut hx4) [] [0] rfl rfl rfl rfl rfl callee11 rfl rfl rfl rfl) ?_
      rintro _ ⟨v1, _, _, ⟨_, rfl, rfl, rfl⟩, rfl⟩
      refine Tops_step rfl (OpT_assign rfl rfl rfl rfl) ?_
      refine Tops_nil ?_
      refine Tk_wkS (fr' := [(0, some (vl1)), (1, some (vU64 (fromp1 % (8589934592 : UInt64)))), (2, some (vU64 (np2 % (8589934592 : UInt64)))), (3, some (vU64 (more % (8589934592 : UInt64)))), (9, some (vU64 total1.1)), (11, some (vU64 (total1.1 + total1.2))), (12, some (v1))]) (own' := [some (rowS SegS v1 cut1)]) (shr' := [Fact.sl SegS vl1 l]) [0, 1, 2, 3, 9, 11, 12] [0] [0] rfl rfl rfl rfl ?_
      refine Tk_seq ?_
      refine Tk_region ?_
      refine Tops_step rfl (OpT_move rfl rfl rfl rfl) ?_
      obtain ⟨total2, hx5, h⟩ := ob_e h
      refine Tops_exP rfl (OpT_callB [0] [0] (w_seg_Total hx5) [] rfl rfl rfl rfl rfl callee10 rfl rfl rfl rfl rfl rfl (bor_cons (bor_row 0 rfl rfl) bor_nil) (by rintro _ _ _ ⟨rfl, rfl, rfl⟩; exact ⟨rfl, ri_nil⟩)) ?_
      rintro _ ⟨_, _, _, ⟨rfl, rfl, rfl⟩, rfl⟩
      refine Tops_step rfl (OpT_move rfl rfl rfl rfl) ?_
      refine Tops_step rfl (OpT_extract rfl rfl rfl rfl rfl) ?_
      refine Tops_step rfl (OpT_extract rfl rfl rfl rfl rfl) ?_
      refine Tops_step rfl (OpT_assign rfl rfl rfl rfl) ?_
      refine Tops_step rfl (OpT_assign rfl rfl rfl rfl) ?_
      refine Tops_nil ?_
      refine Tk_wkS (fr' := [(0, some (vl1)), (1, some (vU64 (fromp1 % (8589934592 : UInt64)))), (2, some (vU64 (np2 % (8589934592 : UInt64)))), (3, some (vU64 (more % (8589934592 : UInt64)))), (9, some (vU64 total1.1)), (11, some (vU64 (total1.1 + total1.2))), (12, some (v1)), (13, some (vU64 total2.1)), (14, some (vU64 total2.2))]) (own' := [some (rowS SegS v1 cut1)]) (shr' := [Fact.sl SegS vl1 l]) [0, 1, 2, 3, 9, 11, 12, 13, 14] [0] [0] rfl rfl rfl rfl ?_
      refine Tk_seq ?_
      refine Tk_region ?_
      refine Tops_step rfl (OpT_assign rfl rfl rfl rfl) ?_
      refine Tops_nil ?_
      refine Tk_seq ?_
      refine Tk_seq ?_
      refine Tk_region ?_
      refine Tops_step rfl (OpT_move rfl rfl rfl rfl) ?_
      refine Tops_step rfl (OpT_move rfl rfl rfl rfl) ?_
      refine Tops_step rfl (OpT_bin rfl rfl rfl rfl rfl (bin_lss_u64 (a := fromp1 % (8589934592 : UInt64)) (b := total1.1 + total1.2))) ?_
      refine Tops_nil ?_
      refine Tk_wkS (fr' := [(0, some (vl1)), (1, some (vU64 (fromp1 % (8589934592 : UInt64)))), (2, some (vU64 (np2 % (8589934592 : UInt64)))), (3, some (vU64 (more % (8589934592 : UInt64)))), (9, some (vU64 total1.1)), (11, some (vU64 (total1.1 + total1.2))), (12, some (v1)), (13, some (vU64 total2.1)), (14, some (vU64 total2.2)), (15, some (vU64 (0 : UInt64))), (57, some (vB (decide ((fromp1 % (8589934592 : UInt64)) < (total1.1 + total1.2)))))]) (own' := [some (rowS SegS v1 cut1)]) (shr' := [Fact.sl SegS vl1 l]) [0, 1, 2, 3, 9, 11, 12, 13, 14, 15, 57] [0] [0] rfl rfl rfl rfl ?_
      refine Tk_join (α := UInt64) (fun s => ⟨[(0, some (vl1)), (1, some (vU64 (fromp1 % (8589934592 : UInt64)))), (2, some (vU64 (np2 % (8589934592 : UInt64)))), (3, some (vU64 (more % (8589934592 : UInt64)))), (9, some (vU64 total1.1)), (11, some (vU64 (total1.1 + total1.2))), (12, some (v1)), (13, some (vU64 total2.1)), (14, some (vU64 total2.2)), (15, some (vU64 s))], [some (rowS SegS v1 cut1)], [Fact.sl SegS vl1 l]⟩) (fun s => law05zSegCutsJ1 l fromp1 np2 more total1 cut1 total2 s = some true) ?_ ?_
      · rintro have1 h
        replace h : law05zSegCutsJ1 l fromp1 np2 more total1 cut1 total2 have1 = some true := h
        unfold law05zSegCutsJ1 at h
        refine Tk_seq ?_
        refine Tk_region ?_
        refine Tops_step rfl (OpT_move rfl rfl rfl rfl) ?_
        refine Tops_step rfl (OpT_move rfl rfl rfl rfl) ?_
        obtain ⟨cut2, hx6, h⟩ := ob_e h
        refine Tops_exP rfl (OpT_call (w_seg_Cut hx6) [] [0] rfl rfl rfl rfl rfl callee11 rfl rfl rfl rfl) ?_
        rintro _ ⟨v2, _, _, ⟨_, rfl, rfl, rfl⟩, rfl⟩
        refine Tops_step rfl (OpT_move rfl rfl rfl rfl) ?_
        refine Tops_step rfl (OpT_move rfl rfl rfl rfl) ?_
        refine Tops_step rfl (OpT_move rfl rfl rfl rfl) ?_
        obtain ⟨cut3, hx7, h⟩ := ob_e h
        refine Tops_exP rfl (OpT_call (w_seg_Cut hx7) [] [0] rfl rfl rfl rfl rfl callee11 rfl rfl rfl rfl) ?_
        rintro _ ⟨v3, _, _, ⟨_, rfl, rfl, rfl⟩, rfl⟩
        refine Tops_step rfl (OpT_assign rfl rfl rfl rfl) ?_
        refine Tops_step rfl (OpT_assign rfl rfl rfl rfl) ?_
        refine Tops_nil ?_
        refine Tk_wkS (fr' := [(0, some (vl1)), (1, some (vU64 (fromp1 % (8589934592 : UInt64)))), (2, some (vU64 (np2 % (8589934592 : UInt64)))), (3, some (vU64 (more % (8589934592 : UInt64)))), (9, some (vU64 total1.1)), (11, some (vU64 (total1.1 + total1.2))), (12, some (v1)), (13, some (vU64 total2.1)), (14, some (vU64 total2.2)), (15, some (vU64 have1)), (16, some (v2)), (17, some (v3))]) (own' := [some (rowS SegS v1 cut1), some (rowS SegS v2 cut2), some (rowS SegS v3 cut3)]) (shr' := [Fact.sl SegS vl1 l]) [0, 1, 2, 3, 9, 11, 12, 13, 14, 15, 16, 17] [0, 1, 2] [0] rfl rfl rfl rfl ?_
        refine Tk_seq ?_
        refine Tk_region ?_
        refine Tops_step rfl (OpT_move rfl rfl rfl rfl) ?_
        obtain ⟨total3, hx8, h⟩ := ob_e h
        refine Tops_exP rfl (OpT_callB [1] [0, 1, 2] (w_seg_Total hx8) [] rfl rfl rfl rfl rfl callee10 rfl rfl rfl rfl rfl rfl (bor_cons (bor_row 1 rfl rfl) bor_nil) (by rintro _ _ _ ⟨rfl, rfl, rfl⟩; exact ⟨rfl, ri_nil⟩)) ?_
        rintro _ ⟨_, _, _, ⟨rfl, rfl, rfl⟩, rfl⟩
        refine Tops_step rfl (OpT_move rfl rfl rfl rfl) ?_
        refine Tops_step rfl (OpT_extract rfl rfl rfl rfl rfl) ?_
        refine Tops_step rfl (OpT_extract rfl rfl rfl rfl rfl) ?_
        refine Tops_step rfl (OpT_assign rfl rfl rfl rfl) ?_
        refine Tops_step rfl (OpT_assign rfl rfl rfl rfl) ?_
        refine Tops_nil ?_
        refine Tk_wkS (fr' := [(0, some (vl1)), (1, some (vU64 (fromp1 % (8589934592 : UInt64)))), (2, some (vU64 (np2 % (8589934592 : UInt64)))), (3, some (vU64 (more % (8589934592 : UInt64)))), (9, some (vU64 total1.1)), (11, some (vU64 (total1.1 + total1.2))), (12, some (v1)), (13, some (vU64 total2.1)), (14, some (vU64 total2.2)), (15, some (vU64 have1)), (17, some (v3)), (18, some (vU64 total3.1)), (19, some (vU64 total3.2))]) (own' := [some (rowS SegS v1 cut1), some (rowS SegS v3 cut3)]) (shr' := [Fact.sl SegS vl1 l]) [0, 1, 2, 3, 9, 11, 12, 13, 14, 15, 17, 18, 19] [0, 2] [0] rfl rfl rfl rfl ?_
        refine Tk_seq ?_
        refine Tk_region ?_
        refine Tops_step rfl (OpT_move rfl rfl rfl rfl) ?_
        obtain ⟨total4, hx9, h⟩ := ob_e h
        refine Tops_exP rfl (OpT_callB [1] [0, 1] (w_seg_Total hx9) [] rfl rfl rfl rfl rfl callee10 rfl rfl rfl rfl rfl rfl (bor_cons (bor_row 1 rfl rfl) bor_nil) (by rintro _ _ _ ⟨rfl, rfl, rfl⟩; exact ⟨rfl, ri_nil⟩)) ?_
        rintro _ ⟨_, _, _, ⟨rfl, rfl, rfl⟩, rfl⟩
        refine Tops_step rfl (OpT_move rfl rfl rfl rfl) ?_
        refine Tops_step rfl (OpT_extract rfl rfl rfl rfl rfl) ?_
        refine Tops_step rfl (OpT_extract rfl rfl rfl rfl rfl) ?_
        refine Tops_step rfl (OpT_assign rfl rfl rfl rfl) ?_
        refine Tops_step rfl (OpT_assign rfl rfl rfl rfl) ?_
        refine Tops_nil ?_
        refine Tk_wkS (fr' := [(0, some (vl1)), (1, some (vU64 (fromp1 % (8589934592 : UInt64)))), (2, some (vU64 (np2 % (8589934592 : UInt64)))), (3, some (vU64 (more % (8589934592 : UInt64)))), (9, some (vU64 total1.1)), (11, some (vU64 (total1.1 + total1.2))), (12, some (v1)), (13, some (vU64 total2.1)), (14, some (vU64 total2.2)), (15, some (vU64 have1)), (18, some (vU64 total3.1)), (19, some (vU64 total3.2)), (20, some (vU64 total4.1)), (21, some (vU64 total4.2))]) (own' := [some (rowS SegS v1 cut1)]) (shr' := [Fact.sl SegS vl1 l]) [0, 1, 2, 3, 9, 11, 12, 13, 14, 15, 18, 19, 20, 21] [0] [0] rfl rfl rfl rfl ?_
        refine Tk_seq ?_
        refine Tk_seq ?_
        refine Tk_region ?_
        refine Tops_step rfl (OpT_move rfl rfl rfl rfl) ?_
        refine Tops_step rfl (OpT_move rfl rfl rfl rfl) ?_
        refine Tops_step rfl (OpT_bin rfl rfl rfl rfl rfl (bin_add_u64 (a := total2.1) (b := total2.2))) ?_
        refine Tops_step rfl (OpT_move rfl rfl rfl rfl) ?_
        refine Tops_step rfl (OpT_bin rfl rfl rfl rfl rfl (bin_neq_u64 (a := total2.1 + total2.2) (b := have1))) ?_
        refine Tops_step rfl (OpT_move rfl rfl rfl rfl) ?_
        obtain ⟨hg4, h⟩ := chk_e h
        replace hg4 := not_t hg4
        refine Tops_yes rfl rfl (congrArg (fun b => some (Value.bool b)) hg4) (OpT_move rfl rfl rfl rfl) ?_
        rintro _ rfl
        refine Tops_yes rfl rfl (congrArg (fun b => some (Value.bool b)) hg4) (OpT_move rfl rfl rfl rfl) ?_
        rintro _ rfl
        refine Tops_yes rfl rfl (congrArg (fun b => some (Value.bool b)) hg4) (OpT_bin rfl rfl rfl rfl rfl (bin_add_u64 (a := total3.1) (b := total3.2))) ?_
        rintro _ rfl
        refine Tops_yes rfl rfl (congrArg (fun b => some (Value.bool b)) hg4) (OpT_move rfl rfl rfl rfl) ?_
        rintro _ rfl
        refine Tops_yes rfl rfl (congrArg (fun b => some (Value.bool b)) hg4) (OpT_bin rfl rfl rfl rfl rfl (bin_add_u64 (a := total3.1 + total3.2) (b := total4.1))) ?_
        rintro _ rfl
        refine Tops_yes rfl rfl (congrArg (fun b => some (Value.bool b)) hg4) (OpT_move rfl rfl rfl rfl) ?_
        rintro _ rfl
        refine Tops_yes rfl rfl (congrArg (fun b => some (Value.bool b)) hg4) (OpT_bin rfl rfl rfl rfl rfl (bin_add_u64 (a := (total3.1 + total3.2) + total4.1) (b := total4.2))) ?_
        rintro _ rfl
        refine Tops_yes rfl rfl (congrArg (fun b => some (Value.bool b)) hg4) (OpT_move rfl rfl rfl rfl) ?_
        rintro _ rfl
        refine Tops_yes rfl rfl (congrArg (fun b => some (Value.bool b)) hg4) (OpT_bin rfl rfl rfl rfl rfl (bin_neq_u64 (a := ((total3.1 + total3.2) + total4.1) + total4.2) (b := total1.1 + total1.2))) ?_
        rintro _ rfl
        refine Tops_step rfl (OpT_pickF rfl rfl rfl (congrArg (fun b => some (Value.bool b)) hg4) rfl) ?_
        refine Tops_step rfl (OpT_move rfl rfl rfl rfl) ?_
        obtain ⟨hg5, h⟩ := chk_e h
        replace hg5 := not_t hg5
        refine Tops_yes rfl rfl (congrArg (fun b => some (Value.bool b)) hg5) (OpT_move rfl rfl rfl rfl) ?_
        rintro _ rfl
        refine Tops_yes rfl rfl (congrArg (fun b => some (Value.bool b)) hg5) (OpT_move rfl rfl rfl rfl) ?_
        rintro _ rfl
        refine Tops_yes rfl rfl (congrArg (fun b => some (Value.bool b)) hg5) (OpT_bin rfl rfl rfl rfl rfl (bin_add_u64 (a := total3.1) (b := total4.1))) ?_
        rintro _ rfl
        refine Tops_yes rfl rfl (congrArg (fun b => some (Value.bool b)) hg5) (OpT_move rfl rfl rfl rfl) ?_
        rintro _ rfl
        refine Tops_yes rfl rfl (congrArg (fun b => some (Value.bool b)) hg5) (OpT_bin rfl rfl rfl rfl rfl (bin_neq_u64 (a := total3.1 + total4.1) (b := total1.1))) ?_
        rintro _ rfl
        refine Tops_step rfl (OpT_pickF rfl rfl rfl (congrArg (fun b => some (Value.bool b)) hg5) rfl) ?_
        refine Tops_step rfl (OpT_move rfl rfl rfl rfl) ?_
        obtain ⟨hg6, h⟩ := chk_e h
        replace hg6 := not_t hg6
        refine Tops_yes rfl rfl (congrArg (fun b => some (Value.bool b)) hg6) (OpT_move rfl rfl rfl rfl) ?_
        rintro _ rfl
        obtain ⟨check2, hx10, h⟩ := ob_e h
        refine Tops_yes rfl rfl (congrArg (fun b => some (Value.bool b)) hg6) (OpT_callB [0] [0] (w_seg_Check hx10) [] rfl rfl rfl rfl rfl callee9 rfl rfl rfl rfl rfl rfl (bor_cons (bor_row 0 rfl rfl) bor_nil) (by rintro _ _ _ ⟨rfl, rfl, rfl⟩; exact ⟨rfl, ri_nil⟩)) ?_
        rintro _ ⟨_, _, _, ⟨rfl, rfl, rfl⟩, rfl⟩
        refine Tops_yes rfl rfl (congrArg (fun b => some (Value.bool b)) hg6) (OpT_bin rfl rfl rfl rfl rfl (bin_neq_i (a := check2) (b := (0 : Int)))) ?_
        rintro _ rfl
        refine Tops_step rfl (OpT_pickF rfl rfl rfl (congrArg (fun b => some (Value.bool b)) hg6) rfl) ?_
        refine Tops_step rfl (OpT_move rfl rfl rfl rfl) ?_
        obtain ⟨hg7, h⟩ := chk_e h
        replace hg7 := not_t hg7
        refine Tops_yes rfl rfl (congrArg (fun b => some (Value.bool b)) hg7) (OpT_move rfl rfl rfl rfl) ?_
        rintro _ rfl
        refine Tops_yes rfl rfl (congrArg (fun b => some (Value.bool b)) hg7) (OpT_move rfl rfl rfl rfl) ?_
        rintro _ rfl
        refine Tops_yes rfl rfl (congrArg (fun b => some (Value.bool b)) hg7) (OpT_move rfl rfl rfl rfl) ?_
        rintro _ rfl
        obtain ⟨cut4, hx11, h⟩ := ob_e h
        refine Tops_yes rfl rfl (congrArg (fun b => some (Value.bool b)) hg7) (OpT_callB [0] [0, 1] (w_seg_Cut hx11) [] rfl rfl rfl rfl rfl callee11 rfl rfl rfl rfl rfl rfl (bor_cons (bor_row 0 rfl rfl) bor_nil) (by rintro _ _ _ ⟨_, rfl, rfl, rfl⟩; exact ⟨rfl, (ri_cons (ri_row (S := SegS) rfl _ _) ri_nil)⟩)) ?_
        rintro _ ⟨v4, _, _, ⟨_, rfl, rfl, rfl⟩, rfl⟩
        refine Tops_yes rfl rfl (congrArg (fun b => some (Value.bool b)) hg7) (OpT_move rfl rfl rfl rfl) ?_
        rintro _ rfl
        refine Tops_yes rfl rfl (congrArg (fun b => some (Value.bool b)) hg7) (OpT_move rfl rfl rfl rfl) ?_
        rintro _ rfl
        refine Tops_yes rfl rfl (congrArg (fun b => some (Value.bool b)) hg7) (OpT_move rfl rfl rfl rfl) ?_
        rintro _ rfl
        refine Tops_yes rfl rfl (congrArg (fun b => some (Value.bool b)) hg7) (OpT_bin rfl rfl rfl rfl rfl (bin_add_u64 (a := fromp1 % (8589934592 : UInt64)) (b := more % (8589934592 : UInt64)))) ?_
        rintro _ rfl
        refine Tops_yes rfl rfl (congrArg (fun b => some (Value.bool b)) hg7) (OpT_move rfl rfl rfl rfl) ?_
        rintro _ rfl
        refine Tops_yes rfl rfl (congrArg (fun b => some (Value.bool b)) hg7) (OpT_move rfl rfl rfl rfl) ?_
        rintro _ rfl
        refine Tops_yes rfl rfl (congrArg (fun b => some (Value.bool b)) hg7) (OpT_move rfl rfl rfl rfl) ?_
        rintro _ rfl
        refine Tops_yes rfl rfl (congrArg (fun b => some (Value.bool b)) hg7) (OpT_min_u64 (u := more % (8589934592 : UInt64)) (v := np2 % (8589934592 : UInt64)) rfl rfl rfl rfl rfl) ?_
        rintro _ rfl
        refine Tops_yes rfl rfl (congrArg (fun b => some (Value.bool b)) hg7) (OpT_bin rfl rfl rfl rfl rfl (bin_sub_u64 (a := np2 % (8589934592 : UInt64)) (b := minu64 (more % (8589934592 : UInt64)) (np2 % (8589934592 : UInt64))))) ?_
        rintro _ rfl
        obtain ⟨cut5, hx12, h⟩ := ob_e h
        refine Tops_yes rfl rfl (congrArg (fun b => some (Value.bool b)) hg7) (OpT_call (w_seg_Cut hx12) [] [0] rfl rfl rfl rfl rfl callee11 rfl rfl rfl rfl) ?_
        rintro _ ⟨v5, _, _, ⟨_, rfl, rfl, rfl⟩, rfl⟩
        obtain ⟨same1, hx13, h⟩ := ob_e h
        refine Tops_yes rfl rfl (congrArg (fun b => some (Value.bool b)) hg7) (OpT_callB [1, 2] [0, 1, 2] (w_seg_Same hx13) [] rfl rfl rfl rfl rfl callee12 rfl rfl rfl rfl rfl rfl (bor_cons (bor_row 1 rfl rfl) (bor_cons (bor_row 2 rfl rfl) bor_nil)) (by rintro _ _ _ ⟨rfl, rfl, rfl⟩; exact ⟨rfl, ri_nil⟩)) ?_
        rintro _ ⟨_, _, _, ⟨rfl, rfl, rfl⟩, rfl⟩
        refine Tops_yes rfl rfl (congrArg (fun b => some (Value.bool b)) hg7) (OpT_not rfl rfl rfl rfl) ?_
        rintro _ rfl
        refine Tops_step rfl (OpT_pickF rfl rfl rfl (congrArg (fun b => some (Value.bool b)) hg7) rfl) ?_
        refine Tops_nil ?_
        refine Tk_wkS (fr' := [(0, some (vl1)), (11, some (vU64 (total1.1 + total1.2))), (125, some (vB (!same1)))]) (own' := []) (shr' := [Fact.sl SegS vl1 l]) [0, 11, 125] [] [0] rfl rfl rfl rfl ?_
        obtain ⟨hg8, h⟩ := chk_e h
        replace hg8 := not_t hg8
        refine Tk_condF (congrArg (fun b => some (Value.bool b)) hg8) ?_
        refine Tk_skip ?_
        refine Tk_seq ?_
        refine Tk_region ?_
        refine Tops_ex rfl (OpT_buildSlice (S := SegS) (xs := ([] : List Seg)) (css := []) (cs := []) (e := 47) rfl rfl rfl rfl (bldF slF22 (by decide) (by kernel_rfl)) rfl rfl rfl rfl (rel_plainD (S := SegS) (xs := ([] : List Seg)) (css := []) rfl rfl)) fun v6 => ?_
        refine Tops_step rfl (OpT_move rfl rfl rfl rfl) ?_
        obtain ⟨part1, hx14, h⟩ := ob_e h
        refine Tops_exP rfl (OpT_call (w_seg_Part hx14) [] [0] rfl rfl rfl rfl rfl callee13 rfl rfl rfl rfl) ?_
        rintro _ ⟨v7, _, _, ⟨_, rfl, rfl, rfl⟩, rfl⟩
        obtain ⟨hc1, h⟩ := chk_e h
        refine Tops_ex rfl (OpT_appendB (S := SegS) rfl rfl rfl rfl rfl rfl slF22 (i := 0) (j := 1) rfl rfl hc1) fun v8 => ?_
        refine Tops_step rfl (OpT_move rfl rfl rfl rfl) ?_
        obtain ⟨part2, hx15, h⟩ := ob_e h
        refine Tops_exP rfl (OpT_call (w_seg_Part hx15) [] [0] rfl rfl rfl rfl rfl callee13 rfl rfl rfl rfl) ?_
        rintro _ ⟨v9, _, _, ⟨_, rfl, rfl, rfl⟩, rfl⟩
        obtain ⟨hc2, h⟩ := chk_e h
        refine Tops_ex rfl (OpT_appendB (S := SegS) rfl rfl rfl rfl rfl rfl slF22 (i := 0) (j := 2) rfl rfl hc2) fun v10 => ?_
        refine Tops_step rfl (OpT_move rfl rfl rfl rfl) ?_
        obtain ⟨same2, hx16, h⟩ := ob_e h
        refine Tops_exP rfl (OpT_callB [0] [0, 1, 2] (w_seg_Same hx16) [] rfl rfl rfl rfl rfl callee12 rfl rfl rfl rfl rfl rfl (bor_cons (bor_row 0 rfl rfl) (bor_cons (bor_shr 0 rfl) bor_nil)) (by rintro _ _ _ ⟨rfl, rfl, rfl⟩; exact ⟨rfl, ri_nil⟩)) ?_
        rintro _ ⟨_, _, _, ⟨rfl, rfl, rfl⟩, rfl⟩
        refine Tops_step rfl (OpT_move rfl rfl rfl rfl) ?_
        obtain ⟨hg9, h⟩ := chk_e h
        refine Tops_yes rfl rfl (congrArg (fun b => some (Value.bool b)) hg9) (OpT_move rfl rfl rfl rfl) ?_
        rintro _ rfl
        refine Tops_yes rfl rfl (congrArg (fun b => some (Value.bool b)) hg9) (OpT_move rfl rfl rfl rfl) ?_
        rintro _ rfl
        obtain ⟨cut6, hx17, h⟩ := ob_e h
        refine Tops_yes rfl rfl (congrArg (fun b => some (Value.bool b)) hg9) (OpT_call (w_seg_Cut hx17) [] [0] rfl rfl rfl rfl rfl callee11 rfl rfl rfl rfl) ?_
        rintro _ ⟨v11, _, _, ⟨_, rfl, rfl, rfl⟩, rfl⟩
        refine Tops_yes rfl rfl (congrArg (fun b => some (Value.bool b)) hg9) (OpT_move rfl rfl rfl rfl) ?_
        rintro _ rfl
        obtain ⟨same3, hx18, h⟩ := ob_e h
        refine Tops_yes rfl rfl (congrArg (fun b => some (Value.bool b)) hg9) (OpT_callB [3] [0, 1, 2, 3] (w_seg_Same hx18) [] rfl rfl rfl rfl rfl callee12 rfl rfl rfl rfl rfl rfl (bor_cons (bor_row 3 rfl rfl) (bor_cons (bor_shr 0 rfl) bor_nil)) (by rintro _ _ _ ⟨rfl, rfl, rfl⟩; exact ⟨rfl, ri_nil⟩)) ?_
        rintro _ ⟨_, _, _, ⟨rfl, rfl, rfl⟩, rfl⟩
        refine Tops_step rfl (OpT_pickT rfl rfl rfl (congrArg (fun b => some (Value.bool b)) hg9) rfl) ?_
        refine Tops_step rfl (OpT_assign rfl rfl rfl rfl) ?_
        refine Tops_nil ?_
        refine Tk_wkS (fr' := [(8, some (vB same3))]) (own' := []) (shr' := []) [8] [] [] rfl rfl rfl rfl ?_
        obtain ⟨hg10, h⟩ := chk_e h
        exact Tk_retV rfl rfl (resA (vs := [.bool true]) rfl ⟨(congrArg (fun b => some (Value.bool b)) hg10), trivial⟩) [] [] rfl rfl rfl ⟨rfl, rfl, rfl⟩
      · intro HJ1
        rcases Bool.eq_false_or_eq_true (decide ((fromp1 % (8589934592 : UInt64)) < (total1.1 + total1.2))) with hg11 | hg11
        · replace h := br_t hg11 h
          refine Tk_condT (congrArg (fun b => some (Value.bool b)) hg11) ?_
          refine Tk_region ?_
          refine Tops_step rfl (OpT_move rfl rfl rfl rfl) ?_
          refine Tops_step rfl (OpT_move rfl rfl rfl rfl) ?_
          refine Tops_step rfl (OpT_move rfl rfl rfl rfl) ?_
          refine Tops_step rfl (OpT_bin rfl rfl rfl rfl rfl (bin_sub_u64 (a := total1.1 + total1.2) (b := fromp1 % (8589934592 : UInt64)))) ?_
          refine Tops_step rfl (OpT_min_u64 (u := np2 % (8589934592 : UInt64)) (v := (total1.1 + total1.2) - (fromp1 % (8589934592 : UInt64))) rfl rfl rfl rfl rfl) ?_
          refine Tops_step rfl (OpT_assign rfl rfl rfl rfl) ?_
          refine Tops_nil ?_
          refine Tk_wkS (fr' := [(0, some (vl1)), (1, some (vU64 (fromp1 % (8589934592 : UInt64)))), (2, some (vU64 (np2 % (8589934592 : UInt64)))), (3, some (vU64 (more % (8589934592 : UInt64)))), (9, some (vU64 total1.1)), (11, some (vU64 (total1.1 + total1.2))), (12, some (v1)), (13, some (vU64 total2.1)), (14, some (vU64 total2.2)), (15, some (vU64 (minu64 (np2 % (8589934592 : UInt64)) ((total1.1 + total1.2) - (fromp1 % (8589934592 : UInt64))))))]) (own' := [some (rowS SegS v1 cut1)]) (shr' := [Fact.sl SegS vl1 l]) [0, 1, 2, 3, 9, 11, 12, 13, 14, 15] [0] [0] rfl rfl rfl rfl ?_
          exact Tk_jmpS (HJ1 (minu64 (np2 % (8589934592 : UInt64)) ((total1.1 + total1.2) - (fromp1 % (8589934592 : UInt64)))) h) [0, 1, 2, 3, 9, 11, 12, 13, 14, 15] [0] [0] rfl rfl rfl rfl
        · replace h := br_f hg11 h
          refine Tk_condF (congrArg (fun b => some (Value.bool b)) hg11) ?_
          refine Tk_skip ?_
          exact Tk_jmpS (HJ1 (0 : UInt64) h) [0, 1, 2, 3, 9, 11, 12, 13, 14, 15] [0] [0] rfl rfl rfl rfl
end Go.Proofs.Ytkdekmjcfoahjaa
