/- The law NetdrvPosts is walked: it returns what its plain words say. No condition. -/
import Derived.Test.YtgcbcnpbnonnjaaWa6
namespace Go.Proofs.Ytgcbcnpbnonnjaa
attribute [local irreducible] sub

set_option maxRecDepth 100000 in
set_option maxHeartbeats 4000000 in
theorem w_law26zNetdrvPosts {atp0 : UInt64} {np1 : Int} {cuts : List Int} {vcuts1 : Value}  (h : law26zNetdrvPosts atp0 np1 cuts = some true) :
  Ctr Try.prog 3 #[vU64 atp0, vI np1, vcuts1] [] [Fact.sl iS vcuts1 cuts]
   (fun rv own shr => rv = .bool true ∧ own = [] ∧ shr = []) := by
 unfold law26zNetdrvPosts at h
 refine Ctr.mk (args := [vU64 atp0, vI np1, vcuts1]) Try.func3 rfl rfl (fun R0 w0 B => ?_)
 refine Tk_seq (Tk_region (Tops_step rfl (OpT_assign rfl rfl rfl rfl) ?_))
 refine Tops_nil (Tk_wkS (fr' := [(0, some (vU64 atp0)), (1, some (vI np1)), (2, some (vcuts1))]) (own' := []) (shr' := [Fact.sl iS vcuts1 cuts]) [0, 1, 2] [] [0] rfl rfl rfl rfl ?_)
 refine Tk_seq (Tk_seq (Tk_region ?_))
 obtain ⟨lives1, hx1, h⟩ := ob_e h
 refine Tops_exP rfl (OpT_call (w_law26zlives hx1) [] [] rfl rfl rfl rfl rfl callee7 rfl rfl rfl rfl) ?_
 rintro _ ⟨_, _, _, ⟨rfl, rfl, rfl⟩, rfl⟩
 refine Tops_step rfl (OpT_not rfl rfl rfl rfl) ?_
 refine Tops_nil (Tk_wkS (fr' := [(0, some (vU64 atp0)), (1, some (vI np1)), (2, some (vcuts1)), (11, some (vB (!lives1)))]) (own' := []) (shr' := [Fact.sl iS vcuts1 cuts]) [0, 1, 2, 11] [] [0] rfl rfl rfl rfl ?_)
 obtain ⟨hg1, h⟩ := chk_e h
 replace hg1 := not_t hg1
 refine Tk_condF (congrArg (fun b => some (Value.bool b)) hg1) ?_
 refine Tk_skip (Tk_seq (Tk_seq (Tk_region (Tops_step rfl (OpT_move rfl rfl rfl rfl) ?_))))
 refine Tops_step rfl (OpT_lenS rfl rfl rfl rfl Try.underlying23 (i := 0) rfl) ?_
 refine Tops_step rfl (OpT_bin rfl rfl rfl rfl rfl (bin_gtr_i (a := len cuts) (b := (70 : Int)))) ?_
 refine Tops_nil (Tk_wkS (fr' := [(0, some (vU64 atp0)), (1, some (vI np1)), (2, some (vcuts1)), (14, some (vB (decide ((len cuts) > (70 : Int)))))]) (own' := []) (shr' := [Fact.sl iS vcuts1 cuts]) [0, 1, 2, 14] [] [0] rfl rfl rfl rfl ?_)
 rcases Bool.eq_false_or_eq_true (decide ((len cuts) > (70 : Int))) with hg2 | hg2
 ·replace h := br_t hg2 h
  refine Tk_condT (congrArg (fun b => some (Value.bool b)) hg2) ?_
  refine Tk_seq (Tk_region (Tops_step rfl (OpT_assign rfl rfl rfl rfl) ?_))
  refine Tops_nil (Tk_wkS (fr' := [(6, some (vB true))]) (own' := []) (shr' := []) [6] [] [] rfl rfl rfl rfl ?_)
  exact Tk_retV rfl rfl (resA (vs := [.bool true]) rfl ⟨rfl, trivial⟩) [] [] rfl rfl rfl ⟨rfl, rfl, rfl⟩
 ·replace h := br_f hg2 h
  refine Tk_condF (congrArg (fun b => some (Value.bool b)) hg2) ?_
  refine Tk_skip (Tk_seq (Tk_region (Tops_step rfl (OpT_move rfl rfl rfl rfl) ?_)))
  refine Tops_step rfl (OpT_move rfl rfl rfl rfl) ?_
  refine Tops_ex rfl (OpT_buildSlice (S := iS) (xs := ([] : List Int)) (css := []) (cs := []) (e := 3) rfl rfl rfl rfl (bldF slF23 (by decide) (by kernel_rfl)) rfl rfl rfl rfl (rel_plainD (S := iS) (xs := ([] : List Int)) (css := []) rfl rfl)) fun v1 => ?_
  refine Tops_step rfl (OpT_move rfl rfl rfl rfl) ?_
  obtain ⟨hc1, h⟩ := chk_e h
  refine Tops_ex rfl (OpT_append rfl rfl rfl rfl rfl slF23 (i := 0) (j := 0) rfl rfl hc1) fun v2 => ?_
  obtain ⟨post1, hx2, h⟩ := ob_e h
  refine Tops_exP rfl (OpT_callB [0] [0, 1] (w_netdrv_Post hx2) [] rfl rfl rfl rfl rfl callee8 rfl rfl rfl rfl rfl rfl (bor_cons (bor_row 0 rfl rfl) bor_nil) (by rintro _ _ _ ⟨_, rfl, rfl, rfl⟩; exact ⟨rfl, (ri_cons (ri_row (S := SegS) rfl _ _) ri_nil)⟩)) ?_
  rintro _ ⟨v3, _, _, ⟨_, rfl, rfl, rfl⟩, rfl⟩
  refine Tops_step rfl (OpT_assign rfl rfl rfl rfl) ?_
  refine Tops_nil (Tk_wkS (fr' := [(0, some (vU64 atp0)), (1, some (vI np1)), (7, some (v3))]) (own' := [some (rowS SegS v3 post1)]) (shr' := []) [0, 1, 7] [1] [] rfl rfl rfl rfl ?_)
  refine Tk_seq (Tk_seq (Tk_region (Tops_step rfl (OpT_move rfl rfl rfl rfl) ?_)))
  refine Tops_step rfl (OpT_bin rfl rfl rfl rfl rfl (bin_lss_i (a := np1) (b := (1 : Int)))) ?_
  refine Tops_step rfl (OpT_move rfl rfl rfl rfl) ?_
  rcases Bool.eq_false_or_eq_true (decide (np1 < (1 : Int))) with hg3 | hg3
  ·replace h := br_t hg3 h
   refine Tops_no rfl rfl (congrArg (fun b => some (Value.bool b)) hg3) rfl rfl ?_
   refine Tops_no rfl rfl (congrArg (fun b => some (Value.bool b)) hg3) rfl rfl ?_
   refine Tops_step rfl (OpT_pickT rfl rfl rfl (congrArg (fun b => some (Value.bool b)) hg3) rfl) ?_
   refine Tops_step rfl (OpT_move rfl rfl rfl rfl) ?_
   refine Tops_no rfl rfl rfl rfl rfl ?_
   refine Tops_no rfl rfl rfl rfl rfl ?_
   refine Tops_no rfl rfl rfl rfl rfl ?_
   refine Tops_no rfl rfl rfl rfl rfl ?_
   refine Tops_no rfl rfl rfl rfl rfl ?_
   refine Tops_no rfl rfl rfl rfl rfl ?_
   refine Tops_step rfl (OpT_pickT rfl rfl rfl rfl rfl) ?_
   refine Tops_nil (Tk_wkS (fr' := [(0, some (vU64 atp0)), (1, some (vI np1)), (7, some (v3)), (34, some (vB true))]) (own' := [some (rowS SegS v3 post1)]) (shr' := []) [0, 1, 7, 34] [0] [] rfl rfl rfl rfl ?_)
   refine Tk_condT rfl ?_
   refine Tk_seq (Tk_region (Tops_step rfl (OpT_move rfl rfl rfl rfl) ?_))
   refine Tops_step rfl (OpT_lenO rfl rfl rfl rfl Try.underlying25 (i := 0) rfl) ?_
   refine Tops_step rfl (OpT_bin rfl rfl rfl rfl rfl (bin_eql_i (a := len post1) (b := (0 : Int)))) ?_
   refine Tops_step rfl (OpT_assign rfl rfl rfl rfl) ?_
   refine Tops_nil (Tk_wkS (fr' := [(6, some (vB ((len post1) == (0 : Int))))]) (own' := []) (shr' := []) [6] [] [] rfl rfl rfl rfl ?_)
   obtain ⟨hg4, h⟩ := chk_e h
   exact Tk_retV rfl rfl (resA (vs := [.bool true]) rfl ⟨(congrArg (fun b => some (Value.bool b)) hg4), trivial⟩) [] [] rfl rfl rfl ⟨rfl, rfl, rfl⟩
  ·replace h := br_f hg3 h
   refine Tops_yes rfl rfl (congrArg (fun b => some (Value.bool b)) hg3) (OpT_move rfl rfl rfl rfl) ?_
   rintro _ rfl
   refine Tops_yes rfl rfl (congrArg (fun b => some (Value.bool b)) hg3) (OpT_bin rfl rfl rfl rfl rfl (bin_geq_i (a := np1) (b := (4294967296 : Int)))) ?_
   rintro _ rfl
   refine Tops_step rfl (OpT_pickF rfl rfl rfl (congrArg (fun b => some (Value.bool b)) hg3) rfl) ?_
   refine Tops_step rfl (OpT_move rfl rfl rfl rfl) ?_
   rcases Bool.eq_false_or_eq_true (decide (np1 ≥ (4294967296 : Int))) with hg5 | hg5
   ·replace h := br_t hg5 h
    refine Tops_no rfl rfl (congrArg (fun b => some (Value.bool b)) hg5) rfl rfl ?_
    refine Tops_no rfl rfl (congrArg (fun b => some (Value.bool b)) hg5) rfl rfl ?_
    refine Tops_no rfl rfl (congrArg (fun b => some (Value.bool b)) hg5) rfl rfl ?_
    refine Tops_no rfl rfl (congrArg (fun b => some (Value.bool b)) hg5) rfl rfl ?_
    refine Tops_no rfl rfl (congrArg (fun b => some (Value.bool b)) hg5) rfl rfl ?_
    refine Tops_no rfl rfl (congrArg (fun b => some (Value.bool b)) hg5) rfl rfl ?_
    refine Tops_step rfl (OpT_pickT rfl rfl rfl (congrArg (fun b => some (Value.bool b)) hg5) rfl) ?_
    refine Tops_nil (Tk_wkS (fr' := [(0, some (vU64 atp0)), (1, some (vI np1)), (7, some (v3)), (34, some (vB true))]) (own' := [some (rowS SegS v3 post1)]) (shr' := []) [0, 1, 7, 34] [0] [] rfl rfl rfl rfl ?_)
    refine Tk_condT rfl ?_
    refine Tk_seq (Tk_region (Tops_step rfl (OpT_move rfl rfl rfl rfl) ?_))
    refine Tops_step rfl (OpT_lenO rfl rfl rfl rfl Try.underlying25 (i := 0) rfl) ?_
    refine Tops_step rfl (OpT_bin rfl rfl rfl rfl rfl (bin_eql_i (a := len post1) (b := (0 : Int)))) ?_
    refine Tops_step rfl (OpT_assign rfl rfl rfl rfl) ?_
    refine Tops_nil (Tk_wkS (fr' := [(6, some (vB ((len post1) == (0 : Int))))]) (own' := []) (shr' := []) [6] [] [] rfl rfl rfl rfl ?_)
    obtain ⟨hg6, h⟩ := chk_e h
    exact Tk_retV rfl rfl (resA (vs := [.bool true]) rfl ⟨(congrArg (fun b => some (Value.bool b)) hg6), trivial⟩) [] [] rfl rfl rfl ⟨rfl, rfl, rfl⟩
   ·replace h := br_f hg5 h
    refine Tops_yes rfl rfl (congrArg (fun b => some (Value.bool b)) hg5) (OpT_move rfl rfl rfl rfl) ?_
    rintro _ rfl
    refine Tops_yes rfl rfl (congrArg (fun b => some (Value.bool b)) hg5) (OpT_cnv rfl rfl rfl rfl (cnv_i_u64 (n := np1) Try.underlying3 Try.underlying22)) ?_
    rintro _ rfl
    refine Tops_yes rfl rfl (congrArg (fun b => some (Value.bool b)) hg5) (OpT_bin rfl rfl rfl rfl rfl (bin_sub_u64 (a := u64 np1) (b := (1 : UInt64)))) ?_
    rintro _ rfl
    refine Tops_yes rfl rfl (congrArg (fun b => some (Value.bool b)) hg5) (OpT_move rfl rfl rfl rfl) ?_
    rintro _ rfl
    refine Tops_yes rfl rfl (congrArg (fun b => some (Value.bool b)) hg5) (OpT_bin rfl rfl rfl rfl rfl (bin_sub_u64 (a := (18446744073709551615 : UInt64)) (b := atp0))) ?_
    rintro _ rfl
    refine Tops_yes rfl rfl (congrArg (fun b => some (Value.bool b)) hg5) (OpT_bin rfl rfl rfl rfl rfl (bin_gtr_u64 (a := (u64 np1) - (1 : UInt64)) (b := (18446744073709551615 : UInt64) - atp0))) ?_
    rintro _ rfl
    refine Tops_step rfl (OpT_pickF rfl rfl rfl (congrArg (fun b => some (Value.bool b)) hg5) rfl) ?_
    refine Tops_nil (Tk_wkS (fr' := [(0, some (vU64 atp0)), (1, some (vI np1)), (7, some (v3)), (34, some (vB (decide (((u64 np1) - (1 : UInt64)) > ((18446744073709551615 : UInt64) - atp0)))))]) (own' := [some (rowS SegS v3 post1)]) (shr' := []) [0, 1, 7, 34] [0] [] rfl rfl rfl rfl ?_)
    rcases Bool.eq_false_or_eq_true (decide (((u64 np1) - (1 : UInt64)) > ((18446744073709551615 : UInt64) - atp0))) with hg7 | hg7
    ·replace h := br_t hg7 h
     refine Tk_condT (congrArg (fun b => some (Value.bool b)) hg7) ?_
     refine Tk_seq (Tk_region (Tops_step rfl (OpT_move rfl rfl rfl rfl) ?_))
     refine Tops_step rfl (OpT_lenO rfl rfl rfl rfl Try.underlying25 (i := 0) rfl) ?_
     refine Tops_step rfl (OpT_bin rfl rfl rfl rfl rfl (bin_eql_i (a := len post1) (b := (0 : Int)))) ?_
     refine Tops_step rfl (OpT_assign rfl rfl rfl rfl) ?_
     refine Tops_nil (Tk_wkS (fr' := [(6, some (vB ((len post1) == (0 : Int))))]) (own' := []) (shr' := []) [6] [] [] rfl rfl rfl rfl ?_)
     obtain ⟨hg8, h⟩ := chk_e h
     exact Tk_retV rfl rfl (resA (vs := [.bool true]) rfl ⟨(congrArg (fun b => some (Value.bool b)) hg8), trivial⟩) [] [] rfl rfl rfl ⟨rfl, rfl, rfl⟩
    ·replace h := br_f hg7 h
     refine Tk_condF (congrArg (fun b => some (Value.bool b)) hg7) ?_
     refine Tk_skip (Tk_seq (Tk_region (Tops_step rfl (OpT_move rfl rfl rfl rfl) ?_)))
     refine Tops_step rfl (OpT_assign rfl rfl rfl rfl) ?_
     refine Tops_nil (Tk_wkS (fr' := [(0, some (vU64 atp0)), (1, some (vI np1)), (7, some (v3)), (8, some (vU64 atp0))]) (own' := [some (rowS SegS v3 post1)]) (shr' := []) [0, 1, 7, 8] [0] [] rfl rfl rfl rfl ?_)
     refine Tk_seq (Tk_seq (Tk_region (Tops_step rfl (OpT_assign rfl rfl rfl rfl) ?_)))
     refine Tops_nil (Tk_block (Tk_loopS (σ := UInt64 × Int) [0, 1, 7, 8, 9] [0] [] (fun s => ⟨[(0, some (vU64 atp0)), (1, some (vI np1)), (7, some (v3)), (8, some (vU64 s.1)), (9, some (vI s.2))], [some (rowS SegS v3 post1)], []⟩) (fun nf1 s => law26zNetdrvPostsL1 atp0 np1 post1 nf1 s.1 s.2 = some true) fuel (atp0, (0 : Int)) h rfl rfl rfl rfl rfl (fun s h => by cases h) ?_))
     rintro nf1 ⟨next1, i1⟩ h
     replace h : law26zNetdrvPostsL1B atp0 np1 post1 (law26zNetdrvPostsL1 atp0 np1 post1 nf1) next1 i1 = some true := h
     unfold law26zNetdrvPostsL1B at h
     refine Tk_seq (Tk_seq (Tk_region (Tops_step rfl (OpT_move rfl rfl rfl rfl) ?_)))
     refine Tops_step rfl (OpT_move rfl rfl rfl rfl) ?_
     refine Tops_step rfl (OpT_lenO rfl rfl rfl rfl Try.underlying25 (i := 0) rfl) ?_
     refine Tops_step rfl (OpT_bin rfl rfl rfl rfl rfl (bin_lss_i (a := i1) (b := len post1))) ?_
     refine Tops_nil (Tk_wkS (fr' := [(0, some (vU64 atp0)), (1, some (vI np1)), (7, some (v3)), (8, some (vU64 next1)), (9, some (vI i1)), (42, some (vB (decide (i1 < (len post1)))))]) (own' := [some (rowS SegS v3 post1)]) (shr' := []) [0, 1, 7, 8, 9, 42] [0] [] rfl rfl rfl rfl ?_)
     rcases Bool.eq_false_or_eq_true (decide (i1 < (len post1))) with hg9 | hg9
     ·replace h := br_t hg9 h
      refine Tk_condT (congrArg (fun b => some (Value.bool b)) hg9) ?_
      refine Tk_skip (Tk_seq (Tk_block (Tk_seq (Tk_seq (Tk_region (Tops_step rfl (OpT_move rfl rfl rfl rfl) ?_))))))
      refine Tops_step rfl (OpT_move rfl rfl rfl rfl) ?_
      obtain ⟨s1, hx3, h⟩ := ob_e h
      refine Tops_step rfl (OpT_idxO rfl rfl rfl rfl rfl slF25 (i := 0) rfl hx3) ?_
      refine Tops_step rfl (OpT_fieldR (S := SegS) rfl rfl rfl rfl fldF29x2 (i := 0) rfl hx3) ?_
      refine Tops_step rfl (OpT_loadOF (S := SegS) rfl rfl rfl rfl rfl tyF4 (i := 0) rfl hx3 rfl rfl) ?_
      refine Tops_step rfl (OpT_not rfl rfl rfl rfl) ?_
      refine Tops_step rfl (OpT_move rfl rfl rfl rfl) ?_
      obtain ⟨hg10, h⟩ := chk_e h
      replace hg10 := not_t hg10
      refine Tops_yes rfl rfl (congrArg (fun b => some (Value.bool b)) hg10) (OpT_move rfl rfl rfl rfl) ?_
      rintro _ rfl
      refine Tops_yes rfl rfl (congrArg (fun b => some (Value.bool b)) hg10) (OpT_move rfl rfl rfl rfl) ?_
      rintro _ rfl
      obtain ⟨s2, hx4, h⟩ := ob_e h
      refine Tops_yes rfl rfl (congrArg (fun b => some (Value.bool b)) hg10) (OpT_idxO rfl rfl rfl rfl rfl slF25 (i := 0) rfl hx4) ?_
      rintro _ rfl
      refine Tops_yes rfl rfl (congrArg (fun b => some (Value.bool b)) hg10) (OpT_fieldR (S := SegS) rfl rfl rfl rfl fldF29x0 (i := 0) rfl hx4) ?_
      rintro _ rfl
      refine Tops_yes rfl rfl (congrArg (fun b => some (Value.bool b)) hg10) (OpT_loadOF (S := SegS) rfl rfl rfl rfl rfl tyF22 (i := 0) rfl hx4 rfl rfl) ?_
      rintro _ rfl
      refine Tops_yes rfl rfl (congrArg (fun b => some (Value.bool b)) hg10) (OpT_move rfl rfl rfl rfl) ?_
      rintro _ rfl
      refine Tops_yes rfl rfl (congrArg (fun b => some (Value.bool b)) hg10) (OpT_bin rfl rfl rfl rfl rfl (bin_neq_u64 (a := s2.At) (b := next1))) ?_
      rintro _ rfl
      refine Tops_step rfl (OpT_pickF rfl rfl rfl (congrArg (fun b => some (Value.bool b)) hg10) rfl) ?_
      refine Tops_nil (Tk_wkS (fr' := [(0, some (vU64 atp0)), (1, some (vI np1)), (7, some (v3)), (8, some (vU64 next1)), (9, some (vI i1)), (59, some (vB (s2.At != next1)))]) (own' := [some (rowS SegS v3 post1)]) (shr' := []) [0, 1, 7, 8, 9, 59] [0] [] rfl rfl rfl rfl ?_)
      obtain ⟨hg11, h⟩ := chk_e h
      replace hg11 := not_t hg11
      refine Tk_condF (congrArg (fun b => some (Value.bool b)) hg11) ?_
      refine Tk_skip (Tk_region (Tops_step rfl (OpT_move rfl rfl rfl rfl) ?_))
      refine Tops_step rfl (OpT_move rfl rfl rfl rfl) ?_
      refine Tops_step rfl (OpT_move rfl rfl rfl rfl) ?_
      obtain ⟨s3, hx5, h⟩ := ob_e h
      refine Tops_step rfl (OpT_idxO rfl rfl rfl rfl rfl slF25 (i := 0) rfl hx5) ?_
      refine Tops_step rfl (OpT_fieldR (S := SegS) rfl rfl rfl rfl fldF29x1 (i := 0) rfl hx5) ?_
      refine Tops_step rfl (OpT_loadOF (S := SegS) rfl rfl rfl rfl rfl tyF27 (i := 0) rfl hx5 rfl rfl) ?_
      refine Tops_step rfl (OpT_cnv rfl rfl rfl rfl (cnv_u32_u64 (n := s3.Len) Try.underlying27 Try.underlying22)) ?_
      refine Tops_step rfl (OpT_bin rfl rfl rfl rfl rfl (bin_add_u64 (a := next1) (b := s3.Len.toUInt64))) ?_
      refine Tops_step rfl (OpT_assign rfl rfl rfl rfl) ?_
      refine Tops_nil (Tk_wkS (fr' := [(0, some (vU64 atp0)), (1, some (vI np1)), (7, some (v3)), (8, some (vU64 (next1 + s3.Len.toUInt64))), (9, some (vI i1))]) (own' := [some (rowS SegS v3 post1)]) (shr' := []) [0, 1, 7, 8, 9] [0] [] rfl rfl rfl rfl ?_)
      refine Tk_blk (Tk_region (Tops_step rfl (OpT_move rfl rfl rfl rfl) ?_))
      refine Tops_step rfl (OpT_bin rfl rfl rfl rfl rfl (bin_add_i (a := i1) (b := (1 : Int)))) ?_
      refine Tops_step rfl (OpT_assign rfl rfl rfl rfl) ?_
      refine Tops_nil (Tk_wkS (fr' := [(0, some (vU64 atp0)), (1, some (vI np1)), (7, some (v3)), (8, some (vU64 (next1 + s3.Len.toUInt64))), (9, some (vI (wi (i1 + (1 : Int)))))]) (own' := [some (rowS SegS v3 post1)]) (shr' := []) [0, 1, 7, 8, 9] [0] [] rfl rfl rfl rfl ?_)
      exact Tk_backS (next1 + s3.Len.toUInt64, wi (i1 + (1 : Int))) h [0, 1, 7, 8, 9] [0] [] rfl rfl rfl rfl rfl
     ·replace h := br_f hg9 h
      refine Tk_condF (congrArg (fun b => some (Value.bool b)) hg9) ?_
      refine Tk_exit _ rfl ?_
      refine Tk_seq (Tk_region (Tops_step rfl (OpT_move rfl rfl rfl rfl) ?_))
      refine Tops_step rfl (OpT_lenO rfl rfl rfl rfl Try.underlying25 (i := 0) rfl) ?_
      refine Tops_step rfl (OpT_bin rfl rfl rfl rfl rfl (bin_gtr_i (a := len post1) (b := (0 : Int)))) ?_
      refine Tops_step rfl (OpT_move rfl rfl rfl rfl) ?_
      obtain ⟨hg12, h⟩ := chk_e h
      refine Tops_yes rfl rfl (congrArg (fun b => some (Value.bool b)) hg12) (OpT_move rfl rfl rfl rfl) ?_
      rintro _ rfl
      refine Tops_yes rfl rfl (congrArg (fun b => some (Value.bool b)) hg12) (OpT_lenO rfl rfl rfl rfl Try.underlying25 (i := 0) rfl) ?_
      rintro _ rfl
      refine Tops_yes rfl rfl (congrArg (fun b => some (Value.bool b)) hg12) (OpT_bin rfl rfl rfl rfl rfl (bin_leq_i (a := len post1) (b := (64 : Int)))) ?_
      rintro _ rfl
      refine Tops_step rfl (OpT_pickT rfl rfl rfl (congrArg (fun b => some (Value.bool b)) hg12) rfl) ?_
      refine Tops_step rfl (OpT_move rfl rfl rfl rfl) ?_
      obtain ⟨hg13, h⟩ := chk_e h
      refine Tops_yes rfl rfl (congrArg (fun b => some (Value.bool b)) hg13) (OpT_move rfl rfl rfl rfl) ?_
      rintro _ rfl
      refine Tops_yes rfl rfl (congrArg (fun b => some (Value.bool b)) hg13) (OpT_move rfl rfl rfl rfl) ?_
      rintro _ rfl
      refine Tops_yes rfl rfl (congrArg (fun b => some (Value.bool b)) hg13) (OpT_move rfl rfl rfl rfl) ?_
      rintro _ rfl
      refine Tops_yes rfl rfl (congrArg (fun b => some (Value.bool b)) hg13) (OpT_cnv rfl rfl rfl rfl (cnv_i_u64 (n := np1) Try.underlying3 Try.underlying22)) ?_
      rintro _ rfl
      refine Tops_yes rfl rfl (congrArg (fun b => some (Value.bool b)) hg13) (OpT_bin rfl rfl rfl rfl rfl (bin_add_u64 (a := atp0) (b := u64 np1))) ?_
      rintro _ rfl
      refine Tops_yes rfl rfl (congrArg (fun b => some (Value.bool b)) hg13) (OpT_bin rfl rfl rfl rfl rfl (bin_eql_u64 (a := next1) (b := atp0 + (u64 np1)))) ?_
      rintro _ rfl
      refine Tops_step rfl (OpT_pickT rfl rfl rfl (congrArg (fun b => some (Value.bool b)) hg13) rfl) ?_
      refine Tops_step rfl (OpT_move rfl rfl rfl rfl) ?_
      obtain ⟨hg14, h⟩ := chk_e h
      refine Tops_yes rfl rfl (congrArg (fun b => some (Value.bool b)) hg14) (OpT_move rfl rfl rfl rfl) ?_
      rintro _ rfl
      obtain ⟨check1, hx6, h⟩ := ob_e h
      refine Tops_yes rfl rfl (congrArg (fun b => some (Value.bool b)) hg14) (OpT_callB [0] [0] (w_ref_Check05 hx6) [] rfl rfl rfl rfl rfl callee9 rfl rfl rfl rfl rfl rfl (bor_cons (bor_row 0 rfl rfl) bor_nil) (by rintro _ _ _ ⟨rfl, rfl, rfl⟩; exact ⟨rfl, ri_nil⟩)) ?_
      rintro _ ⟨_, _, _, ⟨rfl, rfl, rfl⟩, rfl⟩
      refine Tops_yes rfl rfl (congrArg (fun b => some (Value.bool b)) hg14) (OpT_bin rfl rfl rfl rfl rfl (bin_eql_i (a := check1) (b := (0 : Int)))) ?_
      rintro _ rfl
      refine Tops_step rfl (OpT_pickT rfl rfl rfl (congrArg (fun b => some (Value.bool b)) hg14) rfl) ?_
      refine Tops_step rfl (OpT_assign rfl rfl rfl rfl) ?_
      refine Tops_nil (Tk_wkS (fr' := [(6, some (vB (check1 == (0 : Int))))]) (own' := []) (shr' := []) [6] [] [] rfl rfl rfl rfl ?_)
      obtain ⟨hg15, h⟩ := chk_e h
      exact Tk_retV rfl rfl (resA (vs := [.bool true]) rfl ⟨(congrArg (fun b => some (Value.bool b)) hg15), trivial⟩) [] [] rfl rfl rfl ⟨rfl, rfl, rfl⟩
end Go.Proofs.Ytgcbcnpbnonnjaa
