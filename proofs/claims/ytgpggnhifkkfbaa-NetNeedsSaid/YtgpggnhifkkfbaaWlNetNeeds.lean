/- The law NetNeeds is walked: it returns what its plain words say. No condition. -/
import Derived.Test.YtgpggnhifkkfbaaWa3
namespace Go.Proofs.Ytgpggnhifkkfbaa

set_option maxRecDepth 100000 in
set_option maxHeartbeats 4000000 in
theorem w_law25zNetNeeds {l : List (List Seg)} {feats : UInt64} {np2 : Int} {less : Int} {more : List Seg} {vl1 : Value} {vmore1 : Value}  (h : law25zNetNeeds l feats np2 less more = some true) :
    Ctr Try.prog 10 #[vl1, vU64 feats, vI np2, vI less, vmore1] [] [Fact.sl (Shape.slice SegS) vl1 l, Fact.sl SegS vmore1 more]
      (fun rv own shr => rv = .bool true ∧ own = [] ∧ shr = []) := by
  unfold law25zNetNeeds at h
  refine Ctr.mk (args := [vl1, vU64 feats, vI np2, vI less, vmore1]) Try.func10 rfl rfl (fun R0 w0 B => ?_)
  refine Tk_seq ?_
  refine Tk_region ?_
  refine Tops_step rfl (OpT_assign rfl rfl rfl rfl) ?_
  refine Tops_nil ?_
  refine Tk_wkS (fr' := [(0, some (vl1)), (1, some (vU64 feats)), (2, some (vI np2)), (3, some (vI less)), (4, some (vmore1))]) (own' := []) (shr' := [Fact.sl (Shape.slice SegS) vl1 l, Fact.sl SegS vmore1 more]) [0, 1, 2, 3, 4] [] [0, 1] rfl rfl rfl rfl ?_
  refine Tk_seq ?_
  refine Tk_seq ?_
  refine Tk_region ?_
  obtain ⟨lives1, hx1, h⟩ := ob_e h
  refine Tops_exP rfl (OpT_call (w_law25zlives hx1) [] [] rfl rfl rfl rfl rfl callee34 rfl rfl rfl rfl) ?_
  rintro _ ⟨_, _, _, ⟨rfl, rfl, rfl⟩, rfl⟩
  refine Tops_step rfl (OpT_not rfl rfl rfl rfl) ?_
  refine Tops_nil ?_
  refine Tk_wkS (fr' := [(0, some (vl1)), (1, some (vU64 feats)), (2, some (vI np2)), (3, some (vI less)), (4, some (vmore1)), (22, some (vB (!lives1)))]) (own' := []) (shr' := [Fact.sl (Shape.slice SegS) vl1 l, Fact.sl SegS vmore1 more]) [0, 1, 2, 3, 4, 22] [] [0, 1] rfl rfl rfl rfl ?_
  obtain ⟨hg1, h⟩ := chk_e h
  replace hg1 := not_t hg1
  refine Tk_condF (congrArg (fun b => some (Value.bool b)) hg1) ?_
  refine Tk_skip ?_
  refine Tk_seq ?_
  refine Tk_seq ?_
  refine Tk_region ?_
  refine Tops_step rfl (OpT_move rfl rfl rfl rfl) ?_
  obtain ⟨lightb1, hx2, h⟩ := ob_e h
  refine Tops_exP rfl (OpT_call (w_kit_LightBufs hx2) [] [0] rfl rfl rfl rfl rfl callee35 rfl rfl rfl rfl) ?_
  rintro _ ⟨_, _, _, ⟨rfl, rfl, rfl⟩, rfl⟩
  refine Tops_step rfl (OpT_not rfl rfl rfl rfl) ?_
  refine Tops_step rfl (OpT_move rfl rfl rfl rfl) ?_
  rcases Bool.eq_false_or_eq_true ((!lightb1)) with hg2 | hg2
  · replace h := br_t hg2 h
    refine Tops_no rfl rfl (congrArg (fun b => some (Value.bool b)) hg2) rfl rfl ?_
    refine Tops_no rfl rfl (congrArg (fun b => some (Value.bool b)) hg2) rfl rfl ?_
    refine Tops_no rfl rfl (congrArg (fun b => some (Value.bool b)) hg2) rfl rfl ?_
    refine Tops_step rfl (OpT_pickT rfl rfl rfl (congrArg (fun b => some (Value.bool b)) hg2) rfl) ?_
    refine Tops_step rfl (OpT_move rfl rfl rfl rfl) ?_
    refine Tops_no rfl rfl rfl rfl rfl ?_
    refine Tops_no rfl rfl rfl rfl rfl ?_
    refine Tops_step rfl (OpT_pickT rfl rfl rfl rfl rfl) ?_
    refine Tops_step rfl (OpT_move rfl rfl rfl rfl) ?_
    refine Tops_no rfl rfl rfl rfl rfl ?_
    refine Tops_no rfl rfl rfl rfl rfl ?_
    refine Tops_step rfl (OpT_pickT rfl rfl rfl rfl rfl) ?_
    refine Tops_step rfl (OpT_move rfl rfl rfl rfl) ?_
    refine Tops_no rfl rfl rfl rfl rfl ?_
    refine Tops_no rfl rfl rfl rfl rfl ?_
    refine Tops_step rfl (OpT_pickT rfl rfl rfl rfl rfl) ?_
    refine Tops_nil ?_
    refine Tk_wkS (fr' := [(0, some (vl1)), (1, some (vU64 feats)), (2, some (vI np2)), (3, some (vI less)), (4, some (vmore1)), (42, some (vB true))]) (own' := []) (shr' := [Fact.sl (Shape.slice SegS) vl1 l, Fact.sl SegS vmore1 more]) [0, 1, 2, 3, 4, 42] [] [0, 1] rfl rfl rfl rfl ?_
    refine Tk_condT rfl ?_
    refine Tk_seq ?_
    refine Tk_region ?_
    refine Tops_step rfl (OpT_assign rfl rfl rfl rfl) ?_
    refine Tops_nil ?_
    refine Tk_wkS (fr' := [(10, some (vB true))]) (own' := []) (shr' := []) [10] [] [] rfl rfl rfl rfl ?_
    exact Tk_retV rfl rfl (resA (vs := [.bool true]) rfl ⟨rfl, trivial⟩) [] [] rfl rfl rfl ⟨rfl, rfl, rfl⟩
  · replace h := br_f hg2 h
    refine Tops_yes rfl rfl (congrArg (fun b => some (Value.bool b)) hg2) (OpT_move rfl rfl rfl rfl) ?_
    rintro _ rfl
    refine Tops_yes rfl rfl (congrArg (fun b => some (Value.bool b)) hg2) (OpT_lenS rfl rfl rfl rfl Try.underlying54 (i := 1) rfl) ?_
    rintro _ rfl
    refine Tops_yes rfl rfl (congrArg (fun b => some (Value.bool b)) hg2) (OpT_bin rfl rfl rfl rfl rfl (bin_gtr_i (a := len more) (b := (20 : Int)))) ?_
    rintro _ rfl
    refine Tops_step rfl (OpT_pickF rfl rfl rfl (congrArg (fun b => some (Value.bool b)) hg2) rfl) ?_
    refine Tops_step rfl (OpT_move rfl rfl rfl rfl) ?_
    rcases Bool.eq_false_or_eq_true (decide ((len more) > (20 : Int))) with hg3 | hg3
    · replace h := br_t hg3 h
      refine Tops_no rfl rfl (congrArg (fun b => some (Value.bool b)) hg3) rfl rfl ?_
      refine Tops_no rfl rfl (congrArg (fun b => some (Value.bool b)) hg3) rfl rfl ?_
      refine Tops_step rfl (OpT_pickT rfl rfl rfl (congrArg (fun b => some (Value.bool b)) hg3) rfl) ?_
      refine Tops_step rfl (OpT_move rfl rfl rfl rfl) ?_
      refine Tops_no rfl rfl rfl rfl rfl ?_
      refine Tops_no rfl rfl rfl rfl rfl ?_
      refine Tops_step rfl (OpT_pickT rfl rfl rfl rfl rfl) ?_
      refine Tops_step rfl (OpT_move rfl rfl rfl rfl) ?_
      refine Tops_no rfl rfl rfl rfl rfl ?_
      refine Tops_no rfl rfl rfl rfl rfl ?_
      refine Tops_step rfl (OpT_pickT rfl rfl rfl rfl rfl) ?_
      refine Tops_nil ?_
      refine Tk_wkS (fr' := [(0, some (vl1)), (1, some (vU64 feats)), (2, some (vI np2)), (3, some (vI less)), (4, some (vmore1)), (42, some (vB true))]) (own' := []) (shr' := [Fact.sl (Shape.slice SegS) vl1 l, Fact.sl SegS vmore1 more]) [0, 1, 2, 3, 4, 42] [] [0, 1] rfl rfl rfl rfl ?_
      refine Tk_condT rfl ?_
      refine Tk_seq ?_
      refine Tk_region ?_
      refine Tops_step rfl (OpT_assign rfl rfl rfl rfl) ?_
      refine Tops_nil ?_
      refine Tk_wkS (fr' := [(10, some (vB true))]) (own' := []) (shr' := []) [10] [] [] rfl rfl rfl rfl ?_
      exact Tk_retV rfl rfl (resA (vs := [.bool true]) rfl ⟨rfl, trivial⟩) [] [] rfl rfl rfl ⟨rfl, rfl, rfl⟩
    · replace h := br_f hg3 h
      refine Tops_yes rfl rfl (congrArg (fun b => some (Value.bool b)) hg3) (OpT_move rfl rfl rfl rfl) ?_
      rintro _ rfl
      refine Tops_yes rfl rfl (congrArg (fun b => some (Value.bool b)) hg3) (OpT_bin rfl rfl rfl rfl rfl (bin_gtr_i (a := np2) (b := (1099511627776 : Int)))) ?_
      rintro _ rfl
      refine Tops_step rfl (OpT_pickF rfl rfl rfl (congrArg (fun b => some (Value.bool b)) hg3) rfl) ?_
      refine Tops_step rfl (OpT_move rfl rfl rfl rfl) ?_
      rcases Bool.eq_false_or_eq_true (decide (np2 > (1099511627776 : Int))) with hg4 | hg4
      · replace h := br_t hg4 h
        refine Tops_no rfl rfl (congrArg (fun b => some (Value.bool b)) hg4) rfl rfl ?_
        refine Tops_no rfl rfl (congrArg (fun b => some (Value.bool b)) hg4) rfl rfl ?_
        refine Tops_step rfl (OpT_pickT rfl rfl rfl (congrArg (fun b => some (Value.bool b)) hg4) rfl) ?_
        refine Tops_step rfl (OpT_move rfl rfl rfl rfl) ?_
        refine Tops_no rfl rfl rfl rfl rfl ?_
        refine Tops_no rfl rfl rfl rfl rfl ?_
        refine Tops_step rfl (OpT_pickT rfl rfl rfl rfl rfl) ?_
        refine Tops_nil ?_
        refine Tk_wkS (fr' := [(0, some (vl1)), (1, some (vU64 feats)), (2, some (vI np2)), (3, some (vI less)), (4, some (vmore1)), (42, some (vB true))]) (own' := []) (shr' := [Fact.sl (Shape.slice SegS) vl1 l, Fact.sl SegS vmore1 more]) [0, 1, 2, 3, 4, 42] [] [0, 1] rfl rfl rfl rfl ?_
        refine Tk_condT rfl ?_
        refine Tk_seq ?_
        refine Tk_region ?_
        refine Tops_step rfl (OpT_assign rfl rfl rfl rfl) ?_
        refine Tops_nil ?_
        refine Tk_wkS (fr' := [(10, some (vB true))]) (own' := []) (shr' := []) [10] [] [] rfl rfl rfl rfl ?_
        exact Tk_retV rfl rfl (resA (vs := [.bool true]) rfl ⟨rfl, trivial⟩) [] [] rfl rfl rfl ⟨rfl, rfl, rfl⟩
      · replace h := br_f hg4 h
        refine Tops_yes rfl rfl (congrArg (fun b => some (Value.bool b)) hg4) (OpT_move rfl rfl rfl rfl) ?_
        rintro _ rfl
        refine Tops_yes rfl rfl (congrArg (fun b => some (Value.bool b)) hg4) (OpT_bin rfl rfl rfl rfl rfl (bin_lss_i (a := less) (b := (0 : Int)))) ?_
        rintro _ rfl
        refine Tops_step rfl (OpT_pickF rfl rfl rfl (congrArg (fun b => some (Value.bool b)) hg4) rfl) ?_
        refine Tops_step rfl (OpT_move rfl rfl rfl rfl) ?_
        rcases Bool.eq_false_or_eq_true (decide (less < (0 : Int))) with hg5 | hg5
        · replace h := br_t hg5 h
          refine Tops_no rfl rfl (congrArg (fun b => some (Value.bool b)) hg5) rfl rfl ?_
          refine Tops_no rfl rfl (congrArg (fun b => some (Value.bool b)) hg5) rfl rfl ?_
          refine Tops_step rfl (OpT_pickT rfl rfl rfl (congrArg (fun b => some (Value.bool b)) hg5) rfl) ?_
          refine Tops_nil ?_
          refine Tk_wkS (fr' := [(0, some (vl1)), (1, some (vU64 feats)), (2, some (vI np2)), (3, some (vI less)), (4, some (vmore1)), (42, some (vB true))]) (own' := []) (shr' := [Fact.sl (Shape.slice SegS) vl1 l, Fact.sl SegS vmore1 more]) [0, 1, 2, 3, 4, 42] [] [0, 1] rfl rfl rfl rfl ?_
          refine Tk_condT rfl ?_
          refine Tk_seq ?_
          refine Tk_region ?_
          refine Tops_step rfl (OpT_assign rfl rfl rfl rfl) ?_
          refine Tops_nil ?_
          refine Tk_wkS (fr' := [(10, some (vB true))]) (own' := []) (shr' := []) [10] [] [] rfl rfl rfl rfl ?_
          exact Tk_retV rfl rfl (resA (vs := [.bool true]) rfl ⟨rfl, trivial⟩) [] [] rfl rfl rfl ⟨rfl, rfl, rfl⟩
        · replace h := br_f hg5 h
          refine Tops_yes rfl rfl (congrArg (fun b => some (Value.bool b)) hg5) (OpT_move rfl rfl rfl rfl) ?_
          rintro _ rfl
          refine Tops_yes rfl rfl (congrArg (fun b => some (Value.bool b)) hg5) (OpT_bin rfl rfl rfl rfl rfl (bin_lss_i (a := np2) (b := ((-1099511627776) : Int)))) ?_
          rintro _ rfl
          refine Tops_step rfl (OpT_pickF rfl rfl rfl (congrArg (fun b => some (Value.bool b)) hg5) rfl) ?_
          refine Tops_nil ?_
          refine Tk_wkS (fr' := [(0, some (vl1)), (1, some (vU64 feats)), (2, some (vI np2)), (3, some (vI less)), (4, some (vmore1)), (42, some (vB (decide (np2 < ((-1099511627776) : Int)))))]) (own' := []) (shr' := [Fact.sl (Shape.slice SegS) vl1 l, Fact.sl SegS vmore1 more]) [0, 1, 2, 3, 4, 42] [] [0, 1] rfl rfl rfl rfl ?_
          rcases Bool.eq_false_or_eq_true (decide (np2 < ((-1099511627776) : Int))) with hg6 | hg6
          · replace h := br_t hg6 h
            refine Tk_condT (congrArg (fun b => some (Value.bool b)) hg6) ?_
            refine Tk_seq ?_
            refine Tk_region ?_
            refine Tops_step rfl (OpT_assign rfl rfl rfl rfl) ?_
            refine Tops_nil ?_
            refine Tk_wkS (fr' := [(10, some (vB true))]) (own' := []) (shr' := []) [10] [] [] rfl rfl rfl rfl ?_
            exact Tk_retV rfl rfl (resA (vs := [.bool true]) rfl ⟨rfl, trivial⟩) [] [] rfl rfl rfl ⟨rfl, rfl, rfl⟩
          · replace h := br_f hg6 h
            refine Tk_condF (congrArg (fun b => some (Value.bool b)) hg6) ?_
            refine Tk_skip ?_
            refine Tk_seq ?_
            refine Tk_region ?_
            refine Tops_step rfl (OpT_move rfl rfl rfl rfl) ?_
            refine Tops_step rfl (OpT_move rfl rfl rfl rfl) ?_
            obtain ⟨bufs1, hx3, h⟩ := ob_e h
            refine Tops_exP rfl (OpT_call (w_kit_Bufs hx3) [] [0] rfl rfl rfl rfl rfl callee37 rfl rfl rfl rfl) ?_
            rintro _ ⟨v1, _, _, ⟨_, rfl, rfl, rfl⟩, rfl⟩
            refine Tops_step rfl (OpT_move rfl rfl rfl rfl) ?_
            obtain ⟨needs1, hx4, h⟩ := ob_e h
            refine Tops_exP rfl (OpT_callB [0] [0] (w_net_Needs hx4) [] rfl rfl rfl rfl rfl callee36 rfl rfl rfl rfl rfl rfl (bor_cons (bor_row 0 rfl rfl) bor_nil) (by rintro _ _ _ ⟨rfl, rfl, rfl⟩; exact ⟨rfl, ri_nil⟩)) ?_
            rintro _ ⟨_, _, _, ⟨rfl, rfl, rfl⟩, rfl⟩
            refine Tops_step rfl (OpT_move rfl rfl rfl rfl) ?_
            refine Tops_step rfl (OpT_extract rfl rfl rfl rfl rfl) ?_
            refine Tops_step rfl (OpT_extract rfl rfl rfl rfl rfl) ?_
            refine Tops_step rfl (OpT_assign rfl rfl rfl rfl) ?_
            refine Tops_step rfl (OpT_assign rfl rfl rfl rfl) ?_
            refine Tops_nil ?_
            refine Tk_wkS (fr' := [(0, some (vl1)), (1, some (vU64 feats)), (2, some (vI np2)), (3, some (vI less)), (4, some (vmore1)), (11, some (vI needs1.1)), (12, some (vB needs1.2))]) (own' := []) (shr' := [Fact.sl (Shape.slice SegS) vl1 l, Fact.sl SegS vmore1 more]) [0, 1, 2, 3, 4, 11, 12] [] [0, 1] rfl rfl rfl rfl ?_
            refine Tk_seq ?_
            refine Tk_region ?_
            refine Tops_step rfl (OpT_move rfl rfl rfl rfl) ?_
            refine Tops_step rfl (OpT_move rfl rfl rfl rfl) ?_
            obtain ⟨bufs2, hx5, h⟩ := ob_e h
            refine Tops_exP rfl (OpT_call (w_kit_Bufs hx5) [] [0] rfl rfl rfl rfl rfl callee37 rfl rfl rfl rfl) ?_
            rintro _ ⟨v2, _, _, ⟨_, rfl, rfl, rfl⟩, rfl⟩
            refine Tops_step rfl (OpT_move rfl rfl rfl rfl) ?_
            obtain ⟨segs1, hx6, h⟩ := ob_e h
            refine Tops_exP rfl (OpT_call (w_kit_Segs hx6) [] [1] rfl rfl rfl rfl rfl callee38 rfl rfl rfl rfl) ?_
            rintro _ ⟨v3, _, _, ⟨_, rfl, rfl, rfl⟩, rfl⟩
            refine Tops_retire (i := 1) rfl ?_
            refine Tops_ex rfl (OpT_buildSl (Shape.slice SegS) (vs := [v3]) (xs := [segs1]) rfl rfl rfl rfl rfl slF52 (isl_cons (is_sl (i := 2) rfl) isl_nil) rfl rfl rfl (rel_cons (rel_sl (i := 2) rfl) (rel_nil rfl))) fun v4 => ?_
            refine Tops_retire (i := 2) rfl ?_
            obtain ⟨hc1, h⟩ := chk_e h
            refine Tops_ex rfl (OpT_append rfl rfl rfl rfl rfl slF52 (i := 0) (j := 3) rfl rfl hc1) fun v5 => ?_
            refine Tops_step rfl (OpT_move rfl rfl rfl rfl) ?_
            obtain ⟨needs2, hx7, h⟩ := ob_e h
            refine Tops_exP rfl (OpT_callB [0] [0, 1, 2] (w_net_Needs hx7) [] rfl rfl rfl rfl rfl callee36 rfl rfl rfl rfl rfl rfl (bor_cons (bor_row 0 rfl rfl) bor_nil) (by rintro _ _ _ ⟨rfl, rfl, rfl⟩; exact ⟨rfl, ri_nil⟩)) ?_
            rintro _ ⟨_, _, _, ⟨rfl, rfl, rfl⟩, rfl⟩
            refine Tops_step rfl (OpT_move rfl rfl rfl rfl) ?_
            refine Tops_step rfl (OpT_extract rfl rfl rfl rfl rfl) ?_
            refine Tops_step rfl (OpT_extract rfl rfl rfl rfl rfl) ?_
            refine Tops_step rfl (OpT_assign rfl rfl rfl rfl) ?_
            refine Tops_step rfl (OpT_assign rfl rfl rfl rfl) ?_
            refine Tops_nil ?_
            refine Tk_wkS (fr' := [(0, some (vl1)), (1, some (vU64 feats)), (2, some (vI np2)), (3, some (vI less)), (11, some (vI needs1.1)), (12, some (vB needs1.2)), (13, some (vI needs2.1)), (14, some (vB needs2.2))]) (own' := []) (shr' := [Fact.sl (Shape.slice SegS) vl1 l]) [0, 1, 2, 3, 11, 12, 13, 14] [] [0] rfl rfl rfl rfl ?_
            refine Tk_seq ?_
            refine Tk_seq ?_
            refine Tk_region ?_
            refine Tops_step rfl (OpT_move rfl rfl rfl rfl) ?_
            refine Tops_step rfl (OpT_not rfl rfl rfl rfl) ?_
            refine Tops_nil ?_
            refine Tk_wkS (fr' := [(0, some (vl1)), (1, some (vU64 feats)), (2, some (vI np2)), (3, some (vI less)), (11, some (vI needs1.1)), (13, some (vI needs2.1)), (14, some (vB needs2.2)), (64, some (vB (!needs1.2)))]) (own' := []) (shr' := [Fact.sl (Shape.slice SegS) vl1 l]) [0, 1, 2, 3, 11, 13, 14, 64] [] [0] rfl rfl rfl rfl ?_
            rcases Bool.eq_false_or_eq_true ((!needs1.2)) with hg7 | hg7
            · replace h := br_t hg7 h
              refine Tk_condT (congrArg (fun b => some (Value.bool b)) hg7) ?_
              refine Tk_seq ?_
              refine Tk_region ?_
              refine Tops_step rfl (OpT_move rfl rfl rfl rfl) ?_
              refine Tops_step rfl (OpT_bin rfl rfl rfl rfl rfl (bin_eql_i (a := needs1.1) (b := (0 : Int)))) ?_
              refine Tops_step rfl (OpT_assign rfl rfl rfl rfl) ?_
              refine Tops_nil ?_
              refine Tk_wkS (fr' := [(10, some (vB (needs1.1 == (0 : Int))))]) (own' := []) (shr' := []) [10] [] [] rfl rfl rfl rfl ?_
              obtain ⟨hg8, h⟩ := chk_e h
              exact Tk_retV rfl rfl (resA (vs := [.bool true]) rfl ⟨(congrArg (fun b => some (Value.bool b)) hg8), trivial⟩) [] [] rfl rfl rfl ⟨rfl, rfl, rfl⟩
            · replace h := br_f hg7 h
              refine Tk_condF (congrArg (fun b => some (Value.bool b)) hg7) ?_
              refine Tk_skip ?_
              refine Tk_seq ?_
              refine Tk_region ?_
              refine Tops_step rfl (OpT_assign rfl rfl rfl rfl) ?_
              refine Tops_nil ?_
              refine Tk_wkS (fr' := [(0, some (vl1)), (1, some (vU64 feats)), (2, some (vI np2)), (3, some (vI less)), (11, some (vI needs1.1)), (13, some (vI needs2.1)), (14, some (vB needs2.2)), (15, some (vU64 (0 : UInt64)))]) (own' := []) (shr' := [Fact.sl (Shape.slice SegS) vl1 l]) [0, 1, 2, 3, 11, 13, 14, 15] [] [0] rfl rfl rfl rfl ?_
              refine Tk_seq ?_
              refine Tk_seq ?_
              refine Tk_region ?_
              refine Tops_step rfl (OpT_assign rfl rfl rfl rfl) ?_
              refine Tops_nil ?_
              refine Tk_block ?_
              refine Tk_loopS (σ := UInt64 × Int) [0, 1, 2, 3, 11, 13, 14, 15, 16] [] [0] (fun s => ⟨[(0, some (vl1)), (1, some (vU64 feats)), (2, some (vI np2)), (3, some (vI less)), (11, some (vI needs1.1)), (13, some (vI needs2.1)), (14, some (vB needs2.2)), (15, some (vU64 s.1)), (16, some (vI s.2))], [], [Fact.sl (Shape.slice SegS) vl1 l]⟩) (fun nf s => law25zNetNeedsL1 l feats np2 less needs1 needs2 nf s.1 s.2 = some true) fuel ((0 : UInt64), (0 : Int)) h rfl rfl rfl rfl rfl (fun s h => by cases h) ?_
              rintro nf ⟨sum1, i1⟩ h
              replace h : law25zNetNeedsL1B l feats np2 less needs1 needs2 (law25zNetNeedsL1 l feats np2 less needs1 needs2 nf) sum1 i1 = some true := h
              unfold law25zNetNeedsL1B at h
              refine Tk_seq ?_
              refine Tk_seq ?_
              refine Tk_region ?_
              refine Tops_step rfl (OpT_move rfl rfl rfl rfl) ?_
              refine Tops_step rfl (OpT_move rfl rfl rfl rfl) ?_
              refine Tops_step rfl (OpT_bin rfl rfl rfl rfl rfl (bin_lss_i (a := i1) (b := needs1.1))) ?_
              refine Tops_nil ?_
              refine Tk_wkS (fr' := [(0, some (vl1)), (1, some (vU64 feats)), (2, some (vI np2)), (3, some (vI less)), (11, some (vI needs1.1)), (13, some (vI needs2.1)), (14, some (vB needs2.2)), (15, some (vU64 sum1)), (16, some (vI i1)), (69, some (vB (decide (i1 < needs1.1))))]) (own' := []) (shr' := [Fact.sl (Shape.slice SegS) vl1 l]) [0, 1, 2, 3, 11, 13, 14, 15, 16, 69] [] [0] rfl rfl rfl rfl ?_
              rcases Bool.eq_false_or_eq_true (decide (i1 < needs1.1)) with hg9 | hg9
              · replace h := br_t hg9 h
                refine Tk_condT (congrArg (fun b => some (Value.bool b)) hg9) ?_
                refine Tk_skip ?_
                refine Tk_seq ?_
                refine Tk_block ?_
                refine Tk_seq ?_
                refine Tk_region ?_
                refine Tops_step rfl (OpT_move rfl rfl rfl rfl) ?_
                refine Tops_step rfl (OpT_move rfl rfl rfl rfl) ?_
                obtain ⟨y1, hx8, h⟩ := ob_e h
                refine Tops_ex rfl (OpT_idxS rfl rfl rfl rfl rfl slF52 (i := 0) rfl hx8) fun p1 => ?_
                refine Tops_ex rfl (OpT_loadPS rfl rfl rfl rfl tyF54 (i := 1) rfl) fun v6 => ?_
                obtain ⟨total1, hx9, h⟩ := ob_e h
                refine Tops_exP rfl (OpT_call (w_ref_Total05 hx9) [] [2] rfl rfl rfl rfl rfl callee39 rfl rfl rfl rfl) ?_
                rintro _ ⟨_, _, _, ⟨rfl, rfl, rfl⟩, rfl⟩
                refine Tops_step rfl (OpT_move rfl rfl rfl rfl) ?_
                refine Tops_step rfl (OpT_extract rfl rfl rfl rfl rfl) ?_
                refine Tops_step rfl (OpT_extract rfl rfl rfl rfl rfl) ?_
                refine Tops_step rfl (OpT_assign rfl rfl rfl rfl) ?_
                refine Tops_step rfl (OpT_assign rfl rfl rfl rfl) ?_
                refine Tops_nil ?_
                refine Tk_wkS (fr' := [(0, some (vl1)), (1, some (vU64 feats)), (2, some (vI np2)), (3, some (vI less)), (11, some (vI needs1.1)), (13, some (vI needs2.1)), (14, some (vB needs2.2)), (15, some (vU64 sum1)), (16, some (vI i1)), (18, some (vU64 total1.2))]) (own' := []) (shr' := [Fact.sl (Shape.slice SegS) vl1 l]) [0, 1, 2, 3, 11, 13, 14, 15, 16, 18] [] [0] rfl rfl rfl rfl ?_
                refine Tk_seq ?_
                refine Tk_seq ?_
                refine Tk_region ?_
                refine Tops_step rfl (OpT_move rfl rfl rfl rfl) ?_
                refine Tops_step rfl (OpT_move rfl rfl rfl rfl) ?_
                refine Tops_step rfl (OpT_bin rfl rfl rfl rfl rfl (bin_sub_i (a := needs1.1) (b := (1 : Int)))) ?_
                refine Tops_step rfl (OpT_bin rfl rfl rfl rfl rfl (bin_eql_i (a := i1) (b := wi (needs1.1 - (1 : Int))))) ?_
                refine Tops_step rfl (OpT_move rfl rfl rfl rfl) ?_
                rcases Bool.eq_false_or_eq_true (i1 == (wi (needs1.1 - (1 : Int)))) with hg10 | hg10
                · replace h := br_t hg10 h
                  refine Tops_yes rfl rfl (congrArg (fun b => some (Value.bool b)) hg10) (OpT_move rfl rfl rfl rfl) ?_
                  rintro _ rfl
                  refine Tops_yes rfl rfl (congrArg (fun b => some (Value.bool b)) hg10) (OpT_move rfl rfl rfl rfl) ?_
                  rintro _ rfl
                  refine Tops_yes rfl rfl (congrArg (fun b => some (Value.bool b)) hg10) (OpT_max_i (u := np2) (v := (12 : Int)) rfl rfl rfl rfl rfl) ?_
                  rintro _ rfl
                  refine Tops_yes rfl rfl (congrArg (fun b => some (Value.bool b)) hg10) (OpT_cnv rfl rfl rfl rfl (cnv_i_u64 (n := maxi np2 (12 : Int)) Try.underlying3 Try.underlying53)) ?_
                  rintro _ rfl
                  refine Tops_yes rfl rfl (congrArg (fun b => some (Value.bool b)) hg10) (OpT_bin rfl rfl rfl rfl rfl (bin_geq_u64 (a := sum1) (b := u64 (maxi np2 (12 : Int))))) ?_
                  rintro _ rfl
                  refine Tops_step rfl (OpT_pickT rfl rfl rfl (congrArg (fun b => some (Value.bool b)) hg10) rfl) ?_
                  refine Tops_nil ?_
                  refine Tk_wkS (fr' := [(0, some (vl1)), (1, some (vU64 feats)), (2, some (vI np2)), (3, some (vI less)), (11, some (vI needs1.1)), (13, some (vI needs2.1)), (14, some (vB needs2.2)), (15, some (vU64 sum1)), (16, some (vI i1)), (18, some (vU64 total1.2)), (90, some (vB (decide (sum1 ≥ (u64 (maxi np2 (12 : Int)))))))]) (own' := []) (shr' := [Fact.sl (Shape.slice SegS) vl1 l]) [0, 1, 2, 3, 11, 13, 14, 15, 16, 18, 90] [] [0] rfl rfl rfl rfl ?_
                  obtain ⟨hg11, h⟩ := chk_e h
                  replace hg11 := not_t hg11
                  refine Tk_condF (congrArg (fun b => some (Value.bool b)) hg11) ?_
                  refine Tk_skip ?_
                  refine Tk_region ?_
                  refine Tops_step rfl (OpT_move rfl rfl rfl rfl) ?_
                  refine Tops_step rfl (OpT_move rfl rfl rfl rfl) ?_
                  refine Tops_step rfl (OpT_bin rfl rfl rfl rfl rfl (bin_add_u64 (a := sum1) (b := total1.2))) ?_
                  refine Tops_step rfl (OpT_assign rfl rfl rfl rfl) ?_
                  refine Tops_nil ?_
                  refine Tk_wkS (fr' := [(0, some (vl1)), (1, some (vU64 feats)), (2, some (vI np2)), (3, some (vI less)), (11, some (vI needs1.1)), (13, some (vI needs2.1)), (14, some (vB needs2.2)), (15, some (vU64 (sum1 + total1.2))), (16, some (vI i1))]) (own' := []) (shr' := [Fact.sl (Shape.slice SegS) vl1 l]) [0, 1, 2, 3, 11, 13, 14, 15, 16] [] [0] rfl rfl rfl rfl ?_
                  refine Tk_blk ?_
                  refine Tk_region ?_
                  refine Tops_step rfl (OpT_move rfl rfl rfl rfl) ?_
                  refine Tops_step rfl (OpT_bin rfl rfl rfl rfl rfl (bin_add_i (a := i1) (b := (1 : Int)))) ?_
                  refine Tops_step rfl (OpT_assign rfl rfl rfl rfl) ?_
                  refine Tops_nil ?_
                  refine Tk_wkS (fr' := [(0, some (vl1)), (1, some (vU64 feats)), (2, some (vI np2)), (3, some (vI less)), (11, some (vI needs1.1)), (13, some (vI needs2.1)), (14, some (vB needs2.2)), (15, some (vU64 (sum1 + total1.2))), (16, some (vI (wi (i1 + (1 : Int)))))]) (own' := []) (shr' := [Fact.sl (Shape.slice SegS) vl1 l]) [0, 1, 2, 3, 11, 13, 14, 15, 16] [] [0] rfl rfl rfl rfl ?_
                  exact Tk_backS (sum1 + total1.2, wi (i1 + (1 : Int))) h [0, 1, 2, 3, 11, 13, 14, 15, 16] [] [0] rfl rfl rfl rfl rfl
                · replace h := br_f hg10 h
                  refine Tops_no rfl rfl (congrArg (fun b => some (Value.bool b)) hg10) rfl rfl ?_
                  refine Tops_no rfl rfl (congrArg (fun b => some (Value.bool b)) hg10) rfl rfl ?_
                  refine Tops_no rfl rfl (congrArg (fun b => some (Value.bool b)) hg10) rfl rfl ?_
                  refine Tops_no rfl rfl (congrArg (fun b => some (Value.bool b)) hg10) rfl rfl ?_
                  refine Tops_no rfl rfl (congrArg (fun b => some (Value.bool b)) hg10) rfl rfl ?_
                  refine Tops_step rfl (OpT_pickF rfl rfl rfl (congrArg (fun b => some (Value.bool b)) hg10) rfl) ?_
                  refine Tops_nil ?_
                  refine Tk_wkS (fr' := [(0, some (vl1)), (1, some (vU64 feats)), (2, some (vI np2)), (3, some (vI less)), (11, some (vI needs1.1)), (13, some (vI needs2.1)), (14, some (vB needs2.2)), (15, some (vU64 sum1)), (16, some (vI i1)), (18, some (vU64 total1.2)), (90, some (vB false))]) (own' := []) (shr' := [Fact.sl (Shape.slice SegS) vl1 l]) [0, 1, 2, 3, 11, 13, 14, 15, 16, 18, 90] [] [0] rfl rfl rfl rfl ?_
                  refine Tk_condF rfl ?_
                  refine Tk_skip ?_
                  refine Tk_region ?_
                  refine Tops_step rfl (OpT_move rfl rfl rfl rfl) ?_
                  refine Tops_step rfl (OpT_move rfl rfl rfl rfl) ?_
                  refine Tops_step rfl (OpT_bin rfl rfl rfl rfl rfl (bin_add_u64 (a := sum1) (b := total1.2))) ?_
                  refine Tops_step rfl (OpT_assign rfl rfl rfl rfl) ?_
                  refine Tops_nil ?_
                  refine Tk_wkS (fr' := [(0, some (vl1)), (1, some (vU64 feats)), (2, some (vI np2)), (3, some (vI less)), (11, some (vI needs1.1)), (13, some (vI needs2.1)), (14, some (vB needs2.2)), (15, some (vU64 (sum1 + total1.2))), (16, some (vI i1))]) (own' := []) (shr' := [Fact.sl (Shape.slice SegS) vl1 l]) [0, 1, 2, 3, 11, 13, 14, 15, 16] [] [0] rfl rfl rfl rfl ?_
                  refine Tk_blk ?_
                  refine Tk_region ?_
                  refine Tops_step rfl (OpT_move rfl rfl rfl rfl) ?_
                  refine Tops_step rfl (OpT_bin rfl rfl rfl rfl rfl (bin_add_i (a := i1) (b := (1 : Int)))) ?_
                  refine Tops_step rfl (OpT_assign rfl rfl rfl rfl) ?_
                  refine Tops_nil ?_
                  refine Tk_wkS (fr' := [(0, some (vl1)), (1, some (vU64 feats)), (2, some (vI np2)), (3, some (vI less)), (11, some (vI needs1.1)), (13, some (vI needs2.1)), (14, some (vB needs2.2)), (15, some (vU64 (sum1 + total1.2))), (16, some (vI (wi (i1 + (1 : Int)))))]) (own' := []) (shr' := [Fact.sl (Shape.slice SegS) vl1 l]) [0, 1, 2, 3, 11, 13, 14, 15, 16] [] [0] rfl rfl rfl rfl ?_
                  exact Tk_backS (sum1 + total1.2, wi (i1 + (1 : Int))) h [0, 1, 2, 3, 11, 13, 14, 15, 16] [] [0] rfl rfl rfl rfl rfl
              · replace h := br_f hg9 h
                refine Tk_condF (congrArg (fun b => some (Value.bool b)) hg9) ?_
                refine Tk_exit _ rfl ?_
                refine Tk_seq ?_
                refine Tk_region ?_
                refine Tops_step rfl (OpT_move rfl rfl rfl rfl) ?_
                refine Tops_step rfl (OpT_move rfl rfl rfl rfl) ?_
                obtain ⟨bufs3, hx10, h⟩ := ob_e h
                refine Tops_exP rfl (OpT_call (w_kit_Bufs hx10) [] [0] rfl rfl rfl rfl rfl callee37 rfl rfl rfl rfl) ?_
                rintro _ ⟨v7, _, _, ⟨_, rfl, rfl, rfl⟩, rfl⟩
                refine Tops_step rfl (OpT_move rfl rfl rfl rfl) ?_
                refine Tops_step rfl (OpT_move rfl rfl rfl rfl) ?_
                refine Tops_step rfl (OpT_min_i (u := less) (v := (1099511627776 : Int)) rfl rfl rfl rfl rfl) ?_
                refine Tops_step rfl (OpT_bin rfl rfl rfl rfl rfl (bin_sub_i (a := np2) (b := mini less (1099511627776 : Int)))) ?_
                obtain ⟨needs3, hx11, h⟩ := ob_e h
                refine Tops_exP rfl (OpT_callB [0] [0] (w_net_Needs hx11) [] rfl rfl rfl rfl rfl callee36 rfl rfl rfl rfl rfl rfl (bor_cons (bor_row 0 rfl rfl) bor_nil) (by rintro _ _ _ ⟨rfl, rfl, rfl⟩; exact ⟨rfl, ri_nil⟩)) ?_
                rintro _ ⟨_, _, _, ⟨rfl, rfl, rfl⟩, rfl⟩
                refine Tops_step rfl (OpT_move rfl rfl rfl rfl) ?_
                refine Tops_step rfl (OpT_extract rfl rfl rfl rfl rfl) ?_
                refine Tops_step rfl (OpT_extract rfl rfl rfl rfl rfl) ?_
                refine Tops_step rfl (OpT_assign rfl rfl rfl rfl) ?_
                refine Tops_step rfl (OpT_assign rfl rfl rfl rfl) ?_
                refine Tops_nil ?_
                refine Tk_wkS (fr' := [(0, some (vl1)), (1, some (vU64 feats)), (2, some (vI np2)), (11, some (vI needs1.1)), (13, some (vI needs2.1)), (14, some (vB needs2.2)), (15, some (vU64 sum1)), (19, some (vI needs3.1)), (20, some (vB needs3.2))]) (own' := []) (shr' := [Fact.sl (Shape.slice SegS) vl1 l]) [0, 1, 2, 11, 13, 14, 15, 19, 20] [] [0] rfl rfl rfl rfl ?_
                refine Tk_seq ?_
                refine Tk_region ?_
                refine Tops_step rfl (OpT_move rfl rfl rfl rfl) ?_
                refine Tops_step rfl (OpT_bin rfl rfl rfl rfl rfl (bin_geq_i (a := needs1.1) (b := (1 : Int)))) ?_
                refine Tops_step rfl (OpT_move rfl rfl rfl rfl) ?_
                obtain ⟨hg12, h⟩ := chk_e h
                refine Tops_yes rfl rfl (congrArg (fun b => some (Value.bool b)) hg12) (OpT_move rfl rfl rfl rfl) ?_
                rintro _ rfl
                refine Tops_yes rfl rfl (congrArg (fun b => some (Value.bool b)) hg12) (OpT_move rfl rfl rfl rfl) ?_
                rintro _ rfl
                refine Tops_yes rfl rfl (congrArg (fun b => some (Value.bool b)) hg12) (OpT_lenS rfl rfl rfl rfl Try.underlying52 (i := 0) rfl) ?_
                rintro _ rfl
                refine Tops_yes rfl rfl (congrArg (fun b => some (Value.bool b)) hg12) (OpT_bin rfl rfl rfl rfl rfl (bin_leq_i (a := needs1.1) (b := len l))) ?_
                rintro _ rfl
                refine Tops_step rfl (OpT_pickT rfl rfl rfl (congrArg (fun b => some (Value.bool b)) hg12) rfl) ?_
                refine Tops_step rfl (OpT_move rfl rfl rfl rfl) ?_
                obtain ⟨hg13, h⟩ := chk_e h
                refine Tops_yes rfl rfl (congrArg (fun b => some (Value.bool b)) hg13) (OpT_move rfl rfl rfl rfl) ?_
                rintro _ rfl
                refine Tops_yes rfl rfl (congrArg (fun b => some (Value.bool b)) hg13) (OpT_move rfl rfl rfl rfl) ?_
                rintro _ rfl
                refine Tops_yes rfl rfl (congrArg (fun b => some (Value.bool b)) hg13) (OpT_max_i (u := np2) (v := (12 : Int)) rfl rfl rfl rfl rfl) ?_
                rintro _ rfl
                refine Tops_yes rfl rfl (congrArg (fun b => some (Value.bool b)) hg13) (OpT_cnv rfl rfl rfl rfl (cnv_i_u64 (n := maxi np2 (12 : Int)) Try.underlying3 Try.underlying53)) ?_
                rintro _ rfl
                refine Tops_yes rfl rfl (congrArg (fun b => some (Value.bool b)) hg13) (OpT_bin rfl rfl rfl rfl rfl (bin_geq_u64 (a := sum1) (b := u64 (maxi np2 (12 : Int))))) ?_
                rintro _ rfl
                refine Tops_step rfl (OpT_pickT rfl rfl rfl (congrArg (fun b => some (Value.bool b)) hg13) rfl) ?_
                refine Tops_step rfl (OpT_move rfl rfl rfl rfl) ?_
                obtain ⟨hg14, h⟩ := chk_e h
                refine Tops_yes rfl rfl (congrArg (fun b => some (Value.bool b)) hg14) (OpT_move rfl rfl rfl rfl) ?_
                rintro _ rfl
                refine Tops_step rfl (OpT_pickT rfl rfl rfl (congrArg (fun b => some (Value.bool b)) hg14) rfl) ?_
                refine Tops_step rfl (OpT_move rfl rfl rfl rfl) ?_
                obtain ⟨hg15, h⟩ := chk_e h
                refine Tops_yes rfl rfl (congrArg (fun b => some (Value.bool b)) hg15) (OpT_move rfl rfl rfl rfl) ?_
                rintro _ rfl
                refine Tops_yes rfl rfl (congrArg (fun b => some (Value.bool b)) hg15) (OpT_move rfl rfl rfl rfl) ?_
                rintro _ rfl
                refine Tops_yes rfl rfl (congrArg (fun b => some (Value.bool b)) hg15) (OpT_bin rfl rfl rfl rfl rfl (bin_eql_i (a := needs2.1) (b := needs1.1))) ?_
                rintro _ rfl
                refine Tops_step rfl (OpT_pickT rfl rfl rfl (congrArg (fun b => some (Value.bool b)) hg15) rfl) ?_
                refine Tops_step rfl (OpT_move rfl rfl rfl rfl) ?_
                obtain ⟨hg16, h⟩ := chk_e h
                refine Tops_yes rfl rfl (congrArg (fun b => some (Value.bool b)) hg16) (OpT_move rfl rfl rfl rfl) ?_
                rintro _ rfl
                refine Tops_step rfl (OpT_pickT rfl rfl rfl (congrArg (fun b => some (Value.bool b)) hg16) rfl) ?_
                refine Tops_step rfl (OpT_move rfl rfl rfl rfl) ?_
                obtain ⟨hg17, h⟩ := chk_e h
                refine Tops_yes rfl rfl (congrArg (fun b => some (Value.bool b)) hg17) (OpT_move rfl rfl rfl rfl) ?_
                rintro _ rfl
                refine Tops_yes rfl rfl (congrArg (fun b => some (Value.bool b)) hg17) (OpT_move rfl rfl rfl rfl) ?_
                rintro _ rfl
                refine Tops_yes rfl rfl (congrArg (fun b => some (Value.bool b)) hg17) (OpT_bin rfl rfl rfl rfl rfl (bin_leq_i (a := needs3.1) (b := needs1.1))) ?_
                rintro _ rfl
                refine Tops_step rfl (OpT_pickT rfl rfl rfl (congrArg (fun b => some (Value.bool b)) hg17) rfl) ?_
                refine Tops_step rfl (OpT_move rfl rfl rfl rfl) ?_
                obtain ⟨hg18, h⟩ := chk_e h
                refine Tops_yes rfl rfl (congrArg (fun b => some (Value.bool b)) hg18) (OpT_move rfl rfl rfl rfl) ?_
                rintro _ rfl
                refine Tops_yes rfl rfl (congrArg (fun b => some (Value.bool b)) hg18) (OpT_bin rfl rfl rfl rfl rfl (bin_shr_u64_u64 (a := feats) (n := (15 : UInt64)))) ?_
                rintro _ rfl
                refine Tops_yes rfl rfl (congrArg (fun b => some (Value.bool b)) hg18) (OpT_bin rfl rfl rfl rfl rfl (bin_and_u64 (a := shr64 feats ((15 : UInt64).toNat)) (b := (1 : UInt64)))) ?_
                rintro _ rfl
                refine Tops_yes rfl rfl (congrArg (fun b => some (Value.bool b)) hg18) (OpT_bin rfl rfl rfl rfl rfl (bin_eql_u64 (a := (shr64 feats ((15 : UInt64).toNat)) &&& (1 : UInt64)) (b := (1 : UInt64)))) ?_
                rintro _ rfl
                refine Tops_yes rfl rfl (congrArg (fun b => some (Value.bool b)) hg18) (OpT_move rfl rfl rfl rfl) ?_
                rintro _ rfl
                rcases Bool.eq_false_or_eq_true (((shr64 feats ((15 : UInt64).toNat)) &&& (1 : UInt64)) == (1 : UInt64)) with hg19 | hg19
                · replace h := br_t hg19 h
                  refine Tops_no rfl rfl (congrArg (fun b => some (Value.bool b)) hg19) rfl rfl ?_
                  refine Tops_no rfl rfl (congrArg (fun b => some (Value.bool b)) hg19) rfl rfl ?_
                  refine Tops_yes rfl rfl (congrArg (fun b => some (Value.bool b)) hg18) (OpT_pickT rfl rfl rfl (congrArg (fun b => some (Value.bool b)) hg19) rfl) ?_
                  rintro _ rfl
                  refine Tops_step rfl (OpT_pickT rfl rfl rfl (congrArg (fun b => some (Value.bool b)) hg18) rfl) ?_
                  refine Tops_step rfl (OpT_assign rfl rfl rfl rfl) ?_
                  refine Tops_nil ?_
                  refine Tk_wkS (fr' := [(10, some (vB true))]) (own' := []) (shr' := []) [10] [] [] rfl rfl rfl rfl ?_
                  exact Tk_retV rfl rfl (resA (vs := [.bool true]) rfl ⟨rfl, trivial⟩) [] [] rfl rfl rfl ⟨rfl, rfl, rfl⟩
                · replace h := br_f hg19 h
                  refine Tops_yes rfl rfl (congrArg (fun b => some (Value.bool b)) hg19) (OpT_move rfl rfl rfl rfl) ?_
                  rintro _ rfl
                  refine Tops_yes rfl rfl (congrArg (fun b => some (Value.bool b)) hg19) (OpT_bin rfl rfl rfl rfl rfl (bin_eql_i (a := needs1.1) (b := (1 : Int)))) ?_
                  rintro _ rfl
                  refine Tops_yes rfl rfl (congrArg (fun b => some (Value.bool b)) hg18) (OpT_pickF rfl rfl rfl (congrArg (fun b => some (Value.bool b)) hg19) rfl) ?_
                  rintro _ rfl
                  refine Tops_step rfl (OpT_pickT rfl rfl rfl (congrArg (fun b => some (Value.bool b)) hg18) rfl) ?_
                  refine Tops_step rfl (OpT_assign rfl rfl rfl rfl) ?_
                  refine Tops_nil ?_
                  refine Tk_wkS (fr' := [(10, some (vB (needs1.1 == (1 : Int))))]) (own' := []) (shr' := []) [10] [] [] rfl rfl rfl rfl ?_
                  obtain ⟨hg20, h⟩ := chk_e h
                  exact Tk_retV rfl rfl (resA (vs := [.bool true]) rfl ⟨(congrArg (fun b => some (Value.bool b)) hg20), trivial⟩) [] [] rfl rfl rfl ⟨rfl, rfl, rfl⟩
end Go.Proofs.Ytgpggnhifkkfbaa
