/- The law BuildTells is walked: it returns what its plain words say. No condition. -/
import Derived.Test.YtihcimjfabdafaaWa3
namespace Go.Proofs.Ytihcimjfabdafaa
attribute [local irreducible] sub

set_option maxRecDepth 100000 in
set_option maxHeartbeats 4000000 in
theorem w_law09zBuildTells {l : List Seg} {size : Int} {id : Int} {atp3 : Int} {first : Int} {wrap : Bool} {vl1 : Value}  (h : law09zBuildTells l size id atp3 first wrap = some true) :
  Ctr Try.prog 4 #[vl1, vI size, vI id, vI atp3, vI first, vB wrap] [] [Fact.sl SegS vl1 l]
   (fun rv own shr => rv = .bool true ∧ own = [] ∧ shr = []) := by
 unfold law09zBuildTells at h
 refine Ctr.mk (args := [vl1, vI size, vI id, vI atp3, vI first, vB wrap]) Try.func4 rfl rfl (fun R0 w0 B => ?_)
 refine Tk_seq (Tk_region (Tops_ex rfl (OpT_box1 rfl rfl rfl rfl (is_sl (i := 0) rfl)) fun b1 => ?_))
 refine Tops_step rfl (OpT_assign rfl rfl rfl rfl) ?_
 refine Tops_nil (Tk_wkS (fr' := [(1, some (vI size)), (2, some (vI id)), (3, some (vI atp3)), (4, some (vI first)), (5, some (vB wrap)), (6, some (.pointer (some ⟨b1, 0, none⟩)))]) (own' := [some (cellsR b1 27 [vl1])]) (shr' := [Fact.sl SegS vl1 l]) [1, 2, 3, 4, 5, 6] [0] [0] rfl rfl rfl rfl ?_)
 refine Tk_seq (Tk_seq (Tk_region ?_))
 obtain ⟨lives1, hx1, h⟩ := ob_e h
 refine Tops_exP rfl (OpT_call (w_law09zlives hx1) [] [] rfl rfl rfl rfl rfl callee13 rfl rfl rfl rfl) ?_
 rintro _ ⟨_, _, _, ⟨rfl, rfl, rfl⟩, rfl⟩
 refine Tops_step rfl (OpT_not rfl rfl rfl rfl) ?_
 refine Tops_nil (Tk_wkS (fr' := [(1, some (vI size)), (2, some (vI id)), (3, some (vI atp3)), (4, some (vI first)), (5, some (vB wrap)), (6, some (.pointer (some ⟨b1, 0, none⟩))), (34, some (vB (!lives1)))]) (own' := [some (cellsR b1 27 [vl1])]) (shr' := [Fact.sl SegS vl1 l]) [1, 2, 3, 4, 5, 6, 34] [0] [0] rfl rfl rfl rfl ?_)
 obtain ⟨hg1, h⟩ := chk_e h
 replace hg1 := not_t hg1
 refine Tk_condF (congrArg (fun b => some (Value.bool b)) hg1) ?_
 refine Tk_skip (Tk_seq (Tk_seq (Tk_region (Tops_step rfl (OpT_loadC rfl rfl rfl rfl tyF27 (i := 0) rfl rfl) ?_))))
 refine Tops_step rfl (OpT_lenS rfl rfl rfl rfl Try.underlying27 (i := 0) rfl) ?_
 refine Tops_step rfl (OpT_bin rfl rfl rfl rfl rfl (bin_gtr_i (a := len l) (b := (100 : Int)))) ?_
 refine Tops_step rfl (OpT_move rfl rfl rfl rfl) ?_
 rcases Bool.eq_false_or_eq_true (decide ((len l) > (100 : Int))) with hg2 | hg2
 ·replace h := br_t hg2 h
  refine Tops_no rfl rfl (congrArg (fun b => some (Value.bool b)) hg2) rfl rfl ?_
  refine Tops_no rfl rfl (congrArg (fun b => some (Value.bool b)) hg2) rfl rfl ?_
  refine Tops_no rfl rfl (congrArg (fun b => some (Value.bool b)) hg2) rfl rfl ?_
  refine Tops_step rfl (OpT_pickT rfl rfl rfl (congrArg (fun b => some (Value.bool b)) hg2) rfl) ?_
  refine Tops_nil (Tk_wkS (fr' := [(1, some (vI size)), (2, some (vI id)), (3, some (vI atp3)), (4, some (vI first)), (5, some (vB wrap)), (6, some (.pointer (some ⟨b1, 0, none⟩))), (42, some (vB true))]) (own' := [some (cellsR b1 27 [vl1])]) (shr' := [Fact.sl SegS vl1 l]) [1, 2, 3, 4, 5, 6, 42] [0] [0] rfl rfl rfl rfl ?_)
  refine Tk_condT rfl ?_
  refine Tk_seq (Tk_region (Tops_step rfl (OpT_assign rfl rfl rfl rfl) ?_))
  refine Tops_nil (Tk_wkS (fr' := [(12, some (vB true))]) (own' := []) (shr' := []) [12] [] [] rfl rfl rfl rfl ?_)
  exact Tk_retV rfl rfl (resA (vs := [.bool true]) rfl ⟨rfl, trivial⟩) [] [] rfl rfl rfl ⟨rfl, rfl, rfl⟩
 ·replace h := br_f hg2 h
  refine Tops_yes rfl rfl (congrArg (fun b => some (Value.bool b)) hg2) (OpT_loadC rfl rfl rfl rfl tyF27 (i := 0) rfl rfl) ?_
  rintro _ rfl
  obtain ⟨needs1, hx2, h⟩ := ob_e h
  refine Tops_yes rfl rfl (congrArg (fun b => some (Value.bool b)) hg2) (OpT_call (w_build_Needs hx2) [] [0] rfl rfl rfl rfl rfl callee14 rfl rfl rfl rfl) ?_
  rintro _ ⟨_, _, _, ⟨rfl, rfl, rfl⟩, rfl⟩
  refine Tops_yes rfl rfl (congrArg (fun b => some (Value.bool b)) hg2) (OpT_bin rfl rfl rfl rfl rfl (bin_eql_i (a := needs1) (b := (0 : Int)))) ?_
  rintro _ rfl
  refine Tops_step rfl (OpT_pickF rfl rfl rfl (congrArg (fun b => some (Value.bool b)) hg2) rfl) ?_
  refine Tops_nil (Tk_wkS (fr' := [(1, some (vI size)), (2, some (vI id)), (3, some (vI atp3)), (4, some (vI first)), (5, some (vB wrap)), (6, some (.pointer (some ⟨b1, 0, none⟩))), (42, some (vB (needs1 == (0 : Int))))]) (own' := [some (cellsR b1 27 [vl1])]) (shr' := [Fact.sl SegS vl1 l]) [1, 2, 3, 4, 5, 6, 42] [0] [0] rfl rfl rfl rfl ?_)
  rcases Bool.eq_false_or_eq_true (needs1 == (0 : Int)) with hg3 | hg3
  ·replace h := br_t hg3 h
   refine Tk_condT (congrArg (fun b => some (Value.bool b)) hg3) ?_
   refine Tk_seq (Tk_region (Tops_step rfl (OpT_assign rfl rfl rfl rfl) ?_))
   refine Tops_nil (Tk_wkS (fr' := [(12, some (vB true))]) (own' := []) (shr' := []) [12] [] [] rfl rfl rfl rfl ?_)
   exact Tk_retV rfl rfl (resA (vs := [.bool true]) rfl ⟨rfl, trivial⟩) [] [] rfl rfl rfl ⟨rfl, rfl, rfl⟩
  ·replace h := br_f hg3 h
   refine Tk_condF (congrArg (fun b => some (Value.bool b)) hg3) ?_
   refine Tk_skip (Tk_seq (Tk_region (Tops_step rfl (OpT_move rfl rfl rfl rfl) ?_)))
   obtain ⟨pick1, hx3, h⟩ := ob_e h
   refine Tops_exP rfl (OpT_call (w_kit_Pick hx3) [] [] rfl rfl rfl rfl rfl callee15 rfl rfl rfl rfl) ?_
   rintro _ ⟨_, _, _, ⟨rfl, rfl, rfl⟩, rfl⟩
   refine Tops_step rfl (OpT_bin rfl rfl rfl rfl rfl (bin_add_i (a := (64 : Int)) (b := pick1))) ?_
   refine Tops_step rfl (OpT_assign rfl rfl rfl rfl) ?_
   refine Tops_nil (Tk_wkS (fr' := [(1, some (vI (wi ((64 : Int) + pick1)))), (2, some (vI id)), (3, some (vI atp3)), (4, some (vI first)), (5, some (vB wrap)), (6, some (.pointer (some ⟨b1, 0, none⟩)))]) (own' := [some (cellsR b1 27 [vl1])]) (shr' := [Fact.sl SegS vl1 l]) [1, 2, 3, 4, 5, 6] [0] [0] rfl rfl rfl rfl ?_)
   refine Tk_seq (Tk_region (Tops_step rfl (OpT_assign rfl rfl rfl rfl) ?_))
   refine Tops_nil (Tk_seq (Tk_seq (Tk_region (Tops_step rfl (OpT_assign rfl rfl rfl rfl) ?_))))
   refine Tops_nil (Tk_block (Tk_nilrow iS ?_))
   refine Tk_loopS (σ := (List Seg) × (List Int) × Int × Value × Value) [1, 2, 3, 4, 5, 6, 13, 14] [0, 1] [0] (fun s => ⟨[(1, some (vI (wi ((64 : Int) + pick1)))), (2, some (vI id)), (3, some (vI atp3)), (4, some (vI first)), (5, some (vB wrap)), (6, some (.pointer (some ⟨b1, 0, none⟩))), (13, some (s.2.2.2.2)), (14, some (vI s.2.2.1))], [some (cellsR b1 27 [s.2.2.2.1]), some (rowS iS s.2.2.2.2 s.2.1)], [Fact.sl SegS s.2.2.2.1 s.1]⟩) (fun nf1 s => law09zBuildTellsL1 id atp3 first wrap pick1 nf1 s.1 s.2.1 s.2.2.1 = some true) fuel (l, [], (0 : Int), vl1, (.slice none 0 0)) h rfl rfl rfl rfl rfl (fun s h => by cases h) ?_
   rintro nf1 ⟨m1, ids1, i1, v1, v2⟩ h
   replace h : law09zBuildTellsL1B id atp3 first wrap pick1 (law09zBuildTellsL1 id atp3 first wrap pick1 nf1) m1 ids1 i1 = some true := h
   unfold law09zBuildTellsL1B at h
   refine Tk_seq (Tk_seq (Tk_region (Tops_step rfl (OpT_move rfl rfl rfl rfl) ?_)))
   refine Tops_step rfl (OpT_loadC rfl rfl rfl rfl tyF27 (i := 0) rfl rfl) ?_
   refine Tops_step rfl (OpT_lenS rfl rfl rfl rfl Try.underlying27 (i := 0) rfl) ?_
   refine Tops_step rfl (OpT_bin rfl rfl rfl rfl rfl (bin_lss_i (a := i1) (b := len m1))) ?_
   refine Tops_nil (Tk_wkS (fr' := [(1, some (vI (wi ((64 : Int) + pick1)))), (2, some (vI id)), (3, some (vI atp3)), (4, some (vI first)), (5, some (vB wrap)), (6, some (.pointer (some ⟨b1, 0, none⟩))), (13, some (v2)), (14, some (vI i1)), (49, some (vB (decide (i1 < (len m1)))))]) (own' := [some (cellsR b1 27 [v1]), some (rowS iS v2 ids1)]) (shr' := [Fact.sl SegS v1 m1]) [1, 2, 3, 4, 5, 6, 13, 14, 49] [0, 1] [0] rfl rfl rfl rfl ?_)
   rcases Bool.eq_false_or_eq_true (decide (i1 < (len m1))) with hg4 | hg4
   ·replace h := br_t hg4 h
    refine Tk_condT (congrArg (fun b => some (Value.bool b)) hg4) ?_
    refine Tk_skip (Tk_seq (Tk_block (Tk_region (Tops_step rfl (OpT_move rfl rfl rfl rfl) ?_))))
    refine Tops_step rfl (OpT_move rfl rfl rfl rfl) ?_
    refine Tops_step rfl (OpT_move rfl rfl rfl rfl) ?_
    obtain ⟨pick2, hx4, h⟩ := ob_e h
    refine Tops_exP rfl (OpT_call (w_kit_Pick hx4) [] [] rfl rfl rfl rfl rfl callee15 rfl rfl rfl rfl) ?_
    rintro _ ⟨_, _, _, ⟨rfl, rfl, rfl⟩, rfl⟩
    refine Tops_step rfl (OpT_move rfl rfl rfl rfl) ?_
    refine Tops_step rfl (OpT_bin rfl rfl rfl rfl rfl (bin_mul_i (a := i1) (b := (5 : Int)))) ?_
    refine Tops_step rfl (OpT_bin rfl rfl rfl rfl rfl (bin_add_i (a := pick2) (b := wi (i1 * (5 : Int))))) ?_
    refine Tops_step rfl (OpT_bin rfl rfl rfl rfl rfl (bin_rem_i (a := wi (pick2 + (wi (i1 * (5 : Int))))) (b := (1000 : Int)) rfl)) ?_
    refine Tops_ex rfl (OpT_buildSlice (S := iS) (xs := [remi (wi (pick2 + (wi (i1 * (5 : Int))))) (1000 : Int)]) (css := [[vI (remi (wi (pick2 + (wi (i1 * (5 : Int))))) (1000 : Int))]]) (cs := [vI (remi (wi (pick2 + (wi (i1 * (5 : Int))))) (1000 : Int))]) (e := 3) rfl rfl rfl rfl (bldF slF26 (by decide) (by kernel_rfl)) rfl rfl rfl rfl (rel_plainD (S := iS) (xs := [remi (wi (pick2 + (wi (i1 * (5 : Int))))) (1000 : Int)]) (css := [[vI (remi (wi (pick2 + (wi (i1 * (5 : Int))))) (1000 : Int))]]) rfl rfl)) fun v3 => ?_
    obtain ⟨hc1, h⟩ := chk_e h
    refine Tops_ex rfl (OpT_appendB (S := iS) rfl rfl rfl rfl rfl rfl slF26 (i := 1) (j := 2) rfl rfl hc1) fun v4 => ?_
    refine Tops_step rfl (OpT_assign rfl rfl rfl rfl) ?_
    refine Tops_nil (Tk_wkS (fr' := [(1, some (vI (wi ((64 : Int) + pick1)))), (2, some (vI id)), (3, some (vI atp3)), (4, some (vI first)), (5, some (vB wrap)), (6, some (.pointer (some ⟨b1, 0, none⟩))), (13, some (v4)), (14, some (vI i1))]) (own' := [some (cellsR b1 27 [v1]), some (rowS iS v4 (ids1 ++ [remi (wi (pick2 + (wi (i1 * (5 : Int))))) (1000 : Int)]))]) (shr' := [Fact.sl SegS v1 m1]) [1, 2, 3, 4, 5, 6, 13, 14] [0, 1] [0] rfl rfl rfl rfl ?_)
    refine Tk_blk (Tk_region (Tops_step rfl (OpT_move rfl rfl rfl rfl) ?_))
    refine Tops_step rfl (OpT_bin rfl rfl rfl rfl rfl (bin_add_i (a := i1) (b := (1 : Int)))) ?_
    refine Tops_step rfl (OpT_assign rfl rfl rfl rfl) ?_
    refine Tops_nil (Tk_wkS (fr' := [(1, some (vI (wi ((64 : Int) + pick1)))), (2, some (vI id)), (3, some (vI atp3)), (4, some (vI first)), (5, some (vB wrap)), (6, some (.pointer (some ⟨b1, 0, none⟩))), (13, some (v4)), (14, some (vI (wi (i1 + (1 : Int)))))]) (own' := [some (cellsR b1 27 [v1]), some (rowS iS v4 (ids1 ++ [remi (wi (pick2 + (wi (i1 * (5 : Int))))) (1000 : Int)]))]) (shr' := [Fact.sl SegS v1 m1]) [1, 2, 3, 4, 5, 6, 13, 14] [0, 1] [0] rfl rfl rfl rfl ?_)
    exact Tk_backS (m1, ids1 ++ [remi (wi (pick2 + (wi (i1 * (5 : Int))))) (1000 : Int)], wi (i1 + (1 : Int)), v1, v4) h [1, 2, 3, 4, 5, 6, 13, 14] [0, 1] [0] rfl rfl rfl rfl rfl
   ·replace h := br_f hg4 h
    refine Tk_condF (congrArg (fun b => some (Value.bool b)) hg4) ?_
    refine Tk_exit _ rfl ?_
    refine Tk_seq (Tk_region (Tops_step rfl (OpT_move rfl rfl rfl rfl) ?_))
    refine Tops_step rfl (OpT_loadC rfl rfl rfl rfl tyF27 (i := 0) rfl rfl) ?_
    obtain ⟨split1, hx5, h⟩ := ob_e h
    refine Tops_exP rfl (OpT_callB [1] [0, 1, 2] (w_build_Split hx5) [] rfl rfl rfl rfl rfl callee7 rfl rfl rfl rfl rfl rfl (bor_cons (bor_row 1 rfl rfl) (bor_cons (bor_shr 0 rfl) bor_nil)) (by rintro _ _ _ ⟨_, rfl, rfl, rfl⟩; exact ⟨rfl, (ri_cons (ri_row (S := PutS) rfl _ _) ri_nil)⟩)) ?_
    rintro _ ⟨_, _, _, ⟨v5, rfl, rfl, rfl⟩, rfl⟩
    refine Tops_step rfl (OpT_move rfl rfl rfl rfl) ?_
    refine Tops_step rfl (OpT_extract rfl rfl rfl rfl rfl) ?_
    refine Tops_step rfl (OpT_extract rfl rfl rfl rfl rfl) ?_
    refine Tops_step rfl (OpT_assign rfl rfl rfl rfl) ?_
    refine Tops_step rfl (OpT_assign rfl rfl rfl rfl) ?_
    refine Tops_nil (Tk_wkS (fr' := [(1, some (vI (wi ((64 : Int) + pick1)))), (2, some (vI id)), (3, some (vI atp3)), (5, some (vB wrap)), (6, some (.pointer (some ⟨b1, 0, none⟩))), (13, some (v2)), (15, some (v5)), (16, some (vI split1.2))]) (own' := [some (cellsR b1 27 [v1]), some (rowS iS v2 ids1), some (rowS PutS v5 split1.1)]) (shr' := [Fact.sl SegS v1 m1]) [1, 2, 3, 5, 6, 13, 15, 16] [0, 1, 2] [0] rfl rfl rfl rfl ?_)
    refine Tk_seq (Tk_region (Tops_step rfl (OpT_loadC rfl rfl rfl rfl tyF27 (i := 0) rfl rfl) ?_))
    obtain ⟨splitt1, hx6, h⟩ := ob_e h
    refine Tops_exP rfl (OpT_call (w_build_SplitTable hx6) [] [0] rfl rfl rfl rfl rfl callee12 rfl rfl rfl rfl) ?_
    rintro _ ⟨_, _, _, ⟨v6, rfl, rfl, rfl⟩, rfl⟩
    refine Tops_step rfl (OpT_move rfl rfl rfl rfl) ?_
    refine Tops_step rfl (OpT_extract rfl rfl rfl rfl rfl) ?_
    refine Tops_step rfl (OpT_extract rfl rfl rfl rfl rfl) ?_
    refine Tops_step rfl (OpT_assign rfl rfl rfl rfl) ?_
    refine Tops_step rfl (OpT_assign rfl rfl rfl rfl) ?_
    refine Tops_nil (Tk_wkS (fr' := [(1, some (vI (wi ((64 : Int) + pick1)))), (2, some (vI id)), (3, some (vI atp3)), (5, some (vB wrap)), (6, some (.pointer (some ⟨b1, 0, none⟩))), (13, some (v2)), (15, some (v5)), (16, some (vI split1.2)), (17, some (v6)), (18, some (vI splitt1.2))]) (own' := [some (cellsR b1 27 [v1]), some (rowS iS v2 ids1), some (rowS PutS v5 split1.1), some (rowS u8S v6 splitt1.1)]) (shr' := [Fact.sl SegS v1 m1]) [1, 2, 3, 5, 6, 13, 15, 16, 17, 18] [0, 1, 2, 3] [0] rfl rfl rfl rfl ?_)
    refine Tk_seq (Tk_region (Tops_step rfl (OpT_move rfl rfl rfl rfl) ?_))
    obtain ⟨readta1, hx7, h⟩ := ob_e h
    refine Tops_exP rfl (OpT_callB [3] [0, 1, 2, 3, 4] (w_ref_ReadTable03 hx7) [] rfl rfl rfl rfl rfl callee16 rfl rfl rfl rfl rfl rfl (bor_cons (bor_row 3 rfl rfl) bor_nil) (by rintro _ _ _ ⟨_, rfl, rfl, rfl⟩; exact ⟨rfl, (ri_cons (ri_row (S := DescS) rfl _ _) ri_nil)⟩)) ?_
    rintro _ ⟨_, _, _, ⟨v7, rfl, rfl, rfl⟩, rfl⟩
    refine Tops_step rfl (OpT_move rfl rfl rfl rfl) ?_
    refine Tops_step rfl (OpT_extract rfl rfl rfl rfl rfl) ?_
    refine Tops_step rfl (OpT_extract rfl rfl rfl rfl rfl) ?_
    refine Tops_step rfl (OpT_assign rfl rfl rfl rfl) ?_
    refine Tops_step rfl (OpT_assign rfl rfl rfl rfl) ?_
    refine Tops_nil (Tk_wkS (fr' := [(1, some (vI (wi ((64 : Int) + pick1)))), (2, some (vI id)), (3, some (vI atp3)), (5, some (vB wrap)), (6, some (.pointer (some ⟨b1, 0, none⟩))), (13, some (v2)), (15, some (v5)), (16, some (vI split1.2)), (18, some (vI splitt1.2)), (19, some (v7)), (20, some (vI readta1.2))]) (own' := [some (cellsR b1 27 [v1]), some (rowS iS v2 ids1), some (rowS PutS v5 split1.1), some (rowS DescS v7 readta1.1)]) (shr' := [Fact.sl SegS v1 m1]) [1, 2, 3, 5, 6, 13, 15, 16, 18, 19, 20] [0, 1, 2, 4] [0] rfl rfl rfl rfl ?_)
    refine Tk_seq (Tk_seq (Tk_drawT (by kernel_rfl) ?_))
    refine TA_tb [0, 1, 3, 7, 15, 31, 63, 127, 255, 511, 1023, 2047, 4095, 2047, 10239, 32767, 65535, 131071, 262143, 524287, 262143, 1310719, 4194303, 8388607, 16777215, 33554431, 67108863, 33554431, 167772159, 536870911, 1073741823] (by kernel_rfl) fun htb => ?_
    refine TA_step htb (by kernel_rfl) rfl rfl (OpT_move rfl rfl rfl rfl) ?_
    refine TA_step htb (by kernel_rfl) rfl rfl (OpT_bin rfl rfl rfl rfl rfl (bin_neq_i (a := split1.2) (b := (0 : Int)))) ?_
    refine TA_step htb (by kernel_rfl) rfl rfl (OpT_move rfl rfl rfl rfl) ?_
    obtain ⟨hg5, h⟩ := chk_e h
    replace hg5 := not_t hg5
    refine TA_yes htb (by kernel_rfl) rfl rfl rfl (congrArg (fun b => some (Value.bool b)) hg5) (OpT_move rfl rfl rfl rfl) ?_
    rintro _ rfl
    refine TA_yes htb (by kernel_rfl) rfl rfl rfl (congrArg (fun b => some (Value.bool b)) hg5) (OpT_bin rfl rfl rfl rfl rfl (bin_neq_i (a := splitt1.2) (b := (0 : Int)))) ?_
    rintro _ rfl
    refine TA_step htb (by kernel_rfl) rfl rfl (OpT_pickF rfl rfl rfl (congrArg (fun b => some (Value.bool b)) hg5) rfl) ?_
    refine TA_step htb (by kernel_rfl) rfl rfl (OpT_move rfl rfl rfl rfl) ?_
    refine TA_wkS (fr' := [(1, some (vI (wi ((64 : Int) + pick1)))), (2, some (vI id)), (3, some (vI atp3)), (5, some (vB wrap)), (6, some (.pointer (some ⟨b1, 0, none⟩))), (13, some (v2)), (15, some (v5)), (19, some (v7)), (20, some (vI readta1.2)), (84, some (vB (splitt1.2 != (0 : Int))))]) (own' := [some (cellsR b1 27 [v1]), some (rowS iS v2 ids1), some (rowS PutS v5 split1.1), some (rowS DescS v7 readta1.1)]) (shr' := [Fact.sl SegS v1 m1]) [1, 2, 3, 5, 6, 13, 15, 19, 20, 84] [0, 1, 2, 3] [0] rfl rfl rfl rfl ?_
    obtain ⟨hg6, h⟩ := chk_e h
    replace hg6 := not_t hg6
    refine TA_yes htb (by kernel_rfl) rfl rfl rfl (congrArg (fun b => some (Value.bool b)) hg6) (OpT_move rfl rfl rfl rfl) ?_
    rintro _ rfl
    refine TA_yes htb (by kernel_rfl) rfl rfl rfl (congrArg (fun b => some (Value.bool b)) hg6) (OpT_bin rfl rfl rfl rfl rfl (bin_neq_i (a := readta1.2) (b := (0 : Int)))) ?_
    rintro _ rfl
    refine TA_step htb (by kernel_rfl) rfl rfl (OpT_pickF rfl rfl rfl (congrArg (fun b => some (Value.bool b)) hg6) rfl) ?_
    refine TA_step htb (by kernel_rfl) rfl rfl (OpT_move rfl rfl rfl rfl) ?_
    refine TA_wkS (fr' := [(1, some (vI (wi ((64 : Int) + pick1)))), (2, some (vI id)), (3, some (vI atp3)), (5, some (vB wrap)), (6, some (.pointer (some ⟨b1, 0, none⟩))), (13, some (v2)), (15, some (v5)), (19, some (v7)), (88, some (vB (readta1.2 != (0 : Int))))]) (own' := [some (cellsR b1 27 [v1]), some (rowS iS v2 ids1), some (rowS PutS v5 split1.1), some (rowS DescS v7 readta1.1)]) (shr' := [Fact.sl SegS v1 m1]) [1, 2, 3, 5, 6, 13, 15, 19, 88] [0, 1, 2, 3] [0] rfl rfl rfl rfl ?_
    obtain ⟨hg7, h⟩ := chk_e h
    replace hg7 := not_t hg7
    refine TA_seg (lo := 11) (hi := 15) htb rfl rfl (by kernel_rfl) (fun c L a w => Sat c ⟨[(1, some (vI (wi ((64 : Int) + pick1)))), (2, some (vI id)), (3, some (vI atp3)), (5, some (vB wrap)), (6, some (.pointer (some ⟨b1, 0, none⟩))), (13, some (v2)), (15, some (v5)), (19, some (v7)), (88, some (vB (readta1.2 != (0 : Int)))), (89, bif L 11 then some (v5) else none), (90, bif L 12 then some (vI (len split1.1)) else none), (91, bif L 13 then some (v1) else none), (92, bif L 14 then some (vI (len m1)) else none)], [(some (cellsR b1 27 [v1]) : Option Res), (some (rowS iS v2 ids1) : Option Res), (some (rowS PutS v5 split1.1) : Option Res), (some (rowS DescS v7 readta1.1) : Option Res)], [Fact.sl SegS v1 m1]⟩ a w) [([], [12]), ([11], []), ([], [14]), ([13], [])] rfl (by kernel_rfl) ?_ (steps_cons ?_ (steps_cons ?_ (steps_cons ?_ (steps_cons ?_ (steps_nil))))) ?_
    ·intro a w hs
     exact hs.startF [89, 90, 91, 92] [0, 1, 2, 3] [0] rfl rfl rfl rfl
    ·intro L a w hv K Q hK
     have hs := hv
     refine wpOp_yes rfl rfl rfl hs (congrArg (fun b => some (Value.bool b)) hg7) (OpT_move rfl rfl rfl rfl) ?_
     rintro _ rfl a' w' hs'
     exact hK a' w' (hs'.putF (i := 9) rfl [0, 1, 2, 3] [0] rfl rfl rfl rfl)
    ·intro L a w hv K Q hK
     have hs := hv
     refine wpOp_yes rfl rfl rfl hs (congrArg (fun b => some (Value.bool b)) hg7) (OpT_lenO rfl rfl rfl rfl Try.underlying22 (i := 2) rfl) ?_
     rintro _ rfl a' w' hs'
     exact hK a' w' (hs'.putF (i := 10) rfl [0, 1, 2, 3] [0] rfl rfl rfl rfl)
    ·intro L a w hv K Q hK
     have hs := hv
     refine wpOp_yes rfl rfl rfl hs (congrArg (fun b => some (Value.bool b)) hg7) (OpT_loadC rfl rfl rfl rfl tyF27 (i := 0) rfl rfl) ?_
     rintro _ rfl a' w' hs'
     exact hK a' w' (hs'.putF (i := 11) rfl [0, 1, 2, 3] [0] rfl rfl rfl rfl)
    ·intro L a w hv K Q hK
     have hs := hv
     refine wpOp_yes rfl rfl rfl hs (congrArg (fun b => some (Value.bool b)) hg7) (OpT_lenS rfl rfl rfl rfl Try.underlying27 (i := 0) rfl) ?_
     rintro _ rfl a' w' hs'
     exact hK a' w' (hs'.putF (i := 12) rfl [0, 1, 2, 3] [0] rfl rfl rfl rfl)
    ·intro L a w hL hv
     rw [allTrue hL] at hv
     have hs := hv
     refine (show TA _ _ _ 15 ⟨[(1, some (vI (wi ((64 : Int) + pick1)))), (2, some (vI id)), (3, some (vI atp3)), (5, some (vB wrap)), (6, some (.pointer (some ⟨b1, 0, none⟩))), (13, some (v2)), (15, some (v5)), (19, some (v7)), (88, some (vB (readta1.2 != (0 : Int)))), (90, some (vI (len split1.1))), (92, some (vI (len m1)))], [some (cellsR b1 27 [v1]), some (rowS iS v2 ids1), some (rowS PutS v5 split1.1), some (rowS DescS v7 readta1.1)], [Fact.sl SegS v1 m1]⟩ from ?_) a w (hs.wkS [1, 2, 3, 5, 6, 13, 15, 19, 88, 90, 92] [0, 1, 2, 3] [0] rfl rfl rfl rfl)
     clear hs hL
     refine TA_yes htb (by kernel_rfl) rfl rfl rfl (congrArg (fun b => some (Value.bool b)) hg7) (OpT_bin rfl rfl rfl rfl rfl (bin_neq_i (a := len split1.1) (b := len m1))) ?_
     rintro _ rfl
     refine TA_step htb (by kernel_rfl) rfl rfl (OpT_pickF rfl rfl rfl (congrArg (fun b => some (Value.bool b)) hg7) rfl) ?_
     refine TA_step htb (by kernel_rfl) rfl rfl (OpT_move rfl rfl rfl rfl) ?_
     refine TA_wkS (fr' := [(1, some (vI (wi ((64 : Int) + pick1)))), (2, some (vI id)), (3, some (vI atp3)), (5, some (vB wrap)), (6, some (.pointer (some ⟨b1, 0, none⟩))), (13, some (v2)), (15, some (v5)), (19, some (v7)), (95, some (vB ((len split1.1) != (len m1))))]) (own' := [some (cellsR b1 27 [v1]), some (rowS iS v2 ids1), some (rowS PutS v5 split1.1), some (rowS DescS v7 readta1.1)]) (shr' := [Fact.sl SegS v1 m1]) [1, 2, 3, 5, 6, 13, 15, 19, 95] [0, 1, 2, 3] [0] rfl rfl rfl rfl ?_
     obtain ⟨hg8, h⟩ := chk_e h
     replace hg8 := not_t hg8
     refine TA_seg (lo := 18) (hi := 22) htb rfl rfl (by kernel_rfl) (fun c L a w => Sat c ⟨[(1, some (vI (wi ((64 : Int) + pick1)))), (2, some (vI id)), (3, some (vI atp3)), (5, some (vB wrap)), (6, some (.pointer (some ⟨b1, 0, none⟩))), (13, some (v2)), (15, some (v5)), (19, some (v7)), (95, some (vB ((len split1.1) != (len m1)))), (96, bif L 18 then some (v7) else none), (97, bif L 19 then some (vI (len readta1.1)) else none), (98, bif L 20 then some (v1) else none), (99, bif L 21 then some (vI (len m1)) else none)], [(some (cellsR b1 27 [v1]) : Option Res), (some (rowS iS v2 ids1) : Option Res), (some (rowS PutS v5 split1.1) : Option Res), (some (rowS DescS v7 readta1.1) : Option Res)], [Fact.sl SegS v1 m1]⟩ a w) [([], [19]), ([18], []), ([], [21]), ([20], [])] rfl (by kernel_rfl) ?_ (steps_cons ?_ (steps_cons ?_ (steps_cons ?_ (steps_cons ?_ (steps_nil))))) ?_
     ·intro a w hs
      exact hs.startF [96, 97, 98, 99] [0, 1, 2, 3] [0] rfl rfl rfl rfl
     ·intro L a w hv K Q hK
      have hs := hv
      refine wpOp_yes rfl rfl rfl hs (congrArg (fun b => some (Value.bool b)) hg8) (OpT_move rfl rfl rfl rfl) ?_
      rintro _ rfl a' w' hs'
      exact hK a' w' (hs'.putF (i := 9) rfl [0, 1, 2, 3] [0] rfl rfl rfl rfl)
     ·intro L a w hv K Q hK
      have hs := hv
      refine wpOp_yes rfl rfl rfl hs (congrArg (fun b => some (Value.bool b)) hg8) (OpT_lenO rfl rfl rfl rfl Try.underlying55 (i := 3) rfl) ?_
      rintro _ rfl a' w' hs'
      exact hK a' w' (hs'.putF (i := 10) rfl [0, 1, 2, 3] [0] rfl rfl rfl rfl)
     ·intro L a w hv K Q hK
      have hs := hv
      refine wpOp_yes rfl rfl rfl hs (congrArg (fun b => some (Value.bool b)) hg8) (OpT_loadC rfl rfl rfl rfl tyF27 (i := 0) rfl rfl) ?_
      rintro _ rfl a' w' hs'
      exact hK a' w' (hs'.putF (i := 11) rfl [0, 1, 2, 3] [0] rfl rfl rfl rfl)
     ·intro L a w hv K Q hK
      have hs := hv
      refine wpOp_yes rfl rfl rfl hs (congrArg (fun b => some (Value.bool b)) hg8) (OpT_lenS rfl rfl rfl rfl Try.underlying27 (i := 0) rfl) ?_
      rintro _ rfl a' w' hs'
      exact hK a' w' (hs'.putF (i := 12) rfl [0, 1, 2, 3] [0] rfl rfl rfl rfl)
     ·intro L a w hL hv
      rw [allTrue hL] at hv
      have hs := hv
      refine (show TA _ _ _ 22 ⟨[(1, some (vI (wi ((64 : Int) + pick1)))), (2, some (vI id)), (3, some (vI atp3)), (5, some (vB wrap)), (6, some (.pointer (some ⟨b1, 0, none⟩))), (13, some (v2)), (15, some (v5)), (19, some (v7)), (95, some (vB ((len split1.1) != (len m1)))), (97, some (vI (len readta1.1))), (99, some (vI (len m1)))], [some (cellsR b1 27 [v1]), some (rowS iS v2 ids1), some (rowS PutS v5 split1.1), some (rowS DescS v7 readta1.1)], [Fact.sl SegS v1 m1]⟩ from ?_) a w (hs.wkS [1, 2, 3, 5, 6, 13, 15, 19, 95, 97, 99] [0, 1, 2, 3] [0] rfl rfl rfl rfl)
      clear hs hL
      refine TA_yes htb (by kernel_rfl) rfl rfl rfl (congrArg (fun b => some (Value.bool b)) hg8) (OpT_bin rfl rfl rfl rfl rfl (bin_neq_i (a := len readta1.1) (b := len m1))) ?_
      rintro _ rfl
      refine TA_step htb (by kernel_rfl) rfl rfl (OpT_pickF rfl rfl rfl (congrArg (fun b => some (Value.bool b)) hg8) rfl) ?_
      refine TA_step htb (by kernel_rfl) rfl rfl (OpT_move rfl rfl rfl rfl) ?_
      refine TA_wkS (fr' := [(1, some (vI (wi ((64 : Int) + pick1)))), (2, some (vI id)), (3, some (vI atp3)), (5, some (vB wrap)), (6, some (.pointer (some ⟨b1, 0, none⟩))), (13, some (v2)), (15, some (v5)), (19, some (v7)), (102, some (vB ((len readta1.1) != (len m1))))]) (own' := [some (cellsR b1 27 [v1]), some (rowS iS v2 ids1), some (rowS PutS v5 split1.1), some (rowS DescS v7 readta1.1)]) (shr' := [Fact.sl SegS v1 m1]) [1, 2, 3, 5, 6, 13, 15, 19, 102] [0, 1, 2, 3] [0] rfl rfl rfl rfl ?_
      obtain ⟨hg9, h⟩ := chk_e h
      replace hg9 := not_t hg9
      obtain ⟨needs2, hx8, h⟩ := ob_e h
      refine TA_seg (lo := 25) (hi := 29) htb rfl rfl (by kernel_rfl) (fun c L a w => Sat c ⟨[(1, some (vI (wi ((64 : Int) + pick1)))), (2, some (vI id)), (3, some (vI atp3)), (5, some (vB wrap)), (6, some (.pointer (some ⟨b1, 0, none⟩))), (13, some (v2)), (15, some (v5)), (19, some (v7)), (102, some (vB ((len readta1.1) != (len m1)))), (103, bif L 25 then some (v1) else none), (104, bif L 26 then some (vI needs2) else none), (105, bif L 27 then some (v1) else none), (106, bif L 28 then some (vI (len m1)) else none)], [(some (cellsR b1 27 [v1]) : Option Res), (some (rowS iS v2 ids1) : Option Res), (some (rowS PutS v5 split1.1) : Option Res), (some (rowS DescS v7 readta1.1) : Option Res)], [Fact.sl SegS v1 m1]⟩ a w) [([], [26]), ([25], []), ([], [28]), ([27], [])] rfl (by kernel_rfl) ?_ (steps_cons ?_ (steps_cons ?_ (steps_cons ?_ (steps_cons ?_ (steps_nil))))) ?_
      ·intro a w hs
       exact hs.startF [103, 104, 105, 106] [0, 1, 2, 3] [0] rfl rfl rfl rfl
      ·intro L a w hv K Q hK
       have hs := hv
       refine wpOp_yes rfl rfl rfl hs (congrArg (fun b => some (Value.bool b)) hg9) (OpT_loadC rfl rfl rfl rfl tyF27 (i := 0) rfl rfl) ?_
       rintro _ rfl a' w' hs'
       exact hK a' w' (hs'.putF (i := 9) rfl [0, 1, 2, 3] [0] rfl rfl rfl rfl)
      ·intro L a w hv K Q hK
       have hs := hv
       refine wpOp_yes rfl rfl rfl hs (congrArg (fun b => some (Value.bool b)) hg9) (OpT_call (w_build_Needs hx8) [] [0] rfl rfl rfl rfl rfl callee14 rfl rfl rfl rfl) ?_
       rintro _ ⟨_, _, _, ⟨rfl, rfl, rfl⟩, rfl⟩ a' w' hs'
       exact hK a' w' (hs'.putF (i := 10) rfl [0, 1, 2, 3] [0] rfl rfl rfl rfl)
      ·intro L a w hv K Q hK
       have hs := hv
       refine wpOp_yes rfl rfl rfl hs (congrArg (fun b => some (Value.bool b)) hg9) (OpT_loadC rfl rfl rfl rfl tyF27 (i := 0) rfl rfl) ?_
       rintro _ rfl a' w' hs'
       exact hK a' w' (hs'.putF (i := 11) rfl [0, 1, 2, 3] [0] rfl rfl rfl rfl)
      ·intro L a w hv K Q hK
       have hs := hv
       refine wpOp_yes rfl rfl rfl hs (congrArg (fun b => some (Value.bool b)) hg9) (OpT_lenS rfl rfl rfl rfl Try.underlying27 (i := 0) rfl) ?_
       rintro _ rfl a' w' hs'
       exact hK a' w' (hs'.putF (i := 12) rfl [0, 1, 2, 3] [0] rfl rfl rfl rfl)
      ·intro L a w hL hv
       rw [allTrue hL] at hv
       have hs := hv
       refine (show TA _ _ _ 29 ⟨[(1, some (vI (wi ((64 : Int) + pick1)))), (2, some (vI id)), (3, some (vI atp3)), (5, some (vB wrap)), (6, some (.pointer (some ⟨b1, 0, none⟩))), (13, some (v2)), (15, some (v5)), (19, some (v7)), (102, some (vB ((len readta1.1) != (len m1)))), (104, some (vI needs2)), (106, some (vI (len m1)))], [some (cellsR b1 27 [v1]), some (rowS iS v2 ids1), some (rowS PutS v5 split1.1), some (rowS DescS v7 readta1.1)], [Fact.sl SegS v1 m1]⟩ from ?_) a w (hs.wkS [1, 2, 3, 5, 6, 13, 15, 19, 102, 104, 106] [0, 1, 2, 3] [0] rfl rfl rfl rfl)
       clear hs hL
       refine TA_yes htb (by kernel_rfl) rfl rfl rfl (congrArg (fun b => some (Value.bool b)) hg9) (OpT_bin rfl rfl rfl rfl rfl (bin_neq_i (a := needs2) (b := len m1))) ?_
       rintro _ rfl
       refine TA_step htb (by kernel_rfl) rfl rfl (OpT_pickF rfl rfl rfl (congrArg (fun b => some (Value.bool b)) hg9) rfl) ?_
       refine TA_end rfl ?_
       refine Tk_wkS (fr' := [(1, some (vI (wi ((64 : Int) + pick1)))), (2, some (vI id)), (3, some (vI atp3)), (5, some (vB wrap)), (6, some (.pointer (some ⟨b1, 0, none⟩))), (13, some (v2)), (15, some (v5)), (19, some (v7)), (108, some (vB (needs2 != (len m1))))]) (own' := [some (cellsR b1 27 [v1]), some (rowS iS v2 ids1), some (rowS PutS v5 split1.1), some (rowS DescS v7 readta1.1)]) (shr' := [Fact.sl SegS v1 m1]) [1, 2, 3, 5, 6, 13, 15, 19, 108] [0, 1, 2, 3] [0] rfl rfl rfl rfl ?_
       obtain ⟨hg10, h⟩ := chk_e h
       replace hg10 := not_t hg10
       refine Tk_condF (congrArg (fun b => some (Value.bool b)) hg10) ?_
       refine Tk_skip (Tk_seq (Tk_region (Tops_step rfl (OpT_makeFunc (vs := [.pointer (some ⟨b1, 0, none⟩)]) rfl rfl rfl rfl) ?_)))
       refine Tops_step rfl (OpT_assign rfl rfl rfl rfl) ?_
       refine Tops_nil (Tk_wkS (fr' := [(1, some (vI (wi ((64 : Int) + pick1)))), (2, some (vI id)), (3, some (vI atp3)), (5, some (vB wrap)), (6, some (.pointer (some ⟨b1, 0, none⟩))), (13, some (v2)), (15, some (v5)), (19, some (v7)), (21, some (.func (.func 17) #[] #[.pointer (some ⟨b1, 0, none⟩)]))]) (own' := [some (cellsR b1 27 [v1]), some (rowS iS v2 ids1), some (rowS PutS v5 split1.1), some (rowS DescS v7 readta1.1)]) (shr' := [Fact.sl SegS v1 m1]) [1, 2, 3, 5, 6, 13, 15, 19, 21] [0, 1, 2, 3] [0] rfl rfl rfl rfl ?_)
       refine Tk_seq (Tk_seq (Tk_region (Tops_step rfl (OpT_assign rfl rfl rfl rfl) ?_)))
       refine Tops_nil (Tk_block (Tk_loopS (σ := (List Seg) × (List Int) × (List Put) × (List Desc) × Int × Value × Value × Value × Value) [1, 2, 3, 5, 6, 13, 15, 19, 21, 22] [0, 1, 2, 3] [0] (fun s => ⟨[(1, some (vI (wi ((64 : Int) + pick1)))), (2, some (vI id)), (3, some (vI atp3)), (5, some (vB wrap)), (6, some (.pointer (some ⟨b1, 0, none⟩))), (13, some (s.2.2.2.2.2.2.1)), (15, some (s.2.2.2.2.2.2.2.1)), (19, some (s.2.2.2.2.2.2.2.2)), (21, some (.func (.func 17) #[] #[.pointer (some ⟨b1, 0, none⟩)])), (22, some (vI s.2.2.2.2.1))], [some (cellsR b1 27 [s.2.2.2.2.2.1]), some (rowS iS s.2.2.2.2.2.2.1 s.2.1), some (rowS PutS s.2.2.2.2.2.2.2.1 s.2.2.1), some (rowS DescS s.2.2.2.2.2.2.2.2 s.2.2.2.1)], [Fact.sl SegS s.2.2.2.2.2.1 s.1]⟩) (fun nf2 s => law09zBuildTellsL2 id atp3 wrap pick1 nf2 s.1 s.2.1 s.2.2.1 s.2.2.2.1 s.2.2.2.2.1 = some true) fuel (m1, ids1, split1.1, readta1.1, (0 : Int), v1, v2, v5, v7) h rfl rfl rfl rfl rfl (fun s h => by cases h) ?_))
       rintro nf2 ⟨m2, l1, l2, l3, i2, v8, v9, v10, v11⟩ h
       replace h : law09zBuildTellsL2B id atp3 wrap pick1 (law09zBuildTellsL2 id atp3 wrap pick1 nf2) m2 l1 l2 l3 i2 = some true := h
       unfold law09zBuildTellsL2B at h
       refine Tk_seq (Tk_seq (Tk_region (Tops_step rfl (OpT_move rfl rfl rfl rfl) ?_)))
       refine Tops_step rfl (OpT_loadC rfl rfl rfl rfl tyF27 (i := 0) rfl rfl) ?_
       refine Tops_step rfl (OpT_lenS rfl rfl rfl rfl Try.underlying27 (i := 0) rfl) ?_
       refine Tops_step rfl (OpT_bin rfl rfl rfl rfl rfl (bin_lss_i (a := i2) (b := len m2))) ?_
       refine Tops_nil (Tk_wkS (fr' := [(1, some (vI (wi ((64 : Int) + pick1)))), (2, some (vI id)), (3, some (vI atp3)), (5, some (vB wrap)), (6, some (.pointer (some ⟨b1, 0, none⟩))), (13, some (v9)), (15, some (v10)), (19, some (v11)), (21, some (.func (.func 17) #[] #[.pointer (some ⟨b1, 0, none⟩)])), (22, some (vI i2)), (113, some (vB (decide (i2 < (len m2)))))]) (own' := [some (cellsR b1 27 [v8]), some (rowS iS v9 l1), some (rowS PutS v10 l2), some (rowS DescS v11 l3)]) (shr' := [Fact.sl SegS v8 m2]) [1, 2, 3, 5, 6, 13, 15, 19, 21, 22, 113] [0, 1, 2, 3] [0] rfl rfl rfl rfl ?_)
       rcases Bool.eq_false_or_eq_true (decide (i2 < (len m2))) with hg11 | hg11
       ·replace h := br_t hg11 h
        refine Tk_condT (congrArg (fun b => some (Value.bool b)) hg11) ?_
        refine Tk_skip (Tk_seq (Tk_block (Tk_seq (Tk_region (Tops_step rfl (OpT_move rfl rfl rfl rfl) ?_)))))
        refine Tops_step rfl (OpT_move rfl rfl rfl rfl) ?_
        obtain ⟨p1, hx9, h⟩ := ob_e h
        refine Tops_step rfl (OpT_idxO rfl rfl rfl rfl rfl slF22 (i := 2) rfl hx9) ?_
        refine Tops_step rfl (OpT_fieldR (S := PutS) rfl rfl rfl rfl fldF40x1 (i := 2) rfl hx9) ?_
        refine Tops_step rfl (OpT_loadOFA (S := PutS) (vs := [vU64 p1.Desc.Addr, vU32 p1.Desc.Len, vU16 p1.Desc.Flags, vU16 p1.Desc.Next]) rfl rfl rfl rfl rfl tyF38 (i := 2) rfl hx9 rfl rfl) ?_
        refine Tops_ex rfl (OpT_alloc rfl rfl rfl tyZ38) fun b2 => ?_
        refine Tops_step rfl (OpT_storeC (cs' := [vU64 p1.Desc.Addr, vU32 p1.Desc.Len, vU16 p1.Desc.Flags, vU16 p1.Desc.Next]) rfl rfl rfl rfl tyF38 (i := 4) rfl rfl rfl (one_of rfl) rfl) ?_
        refine Tops_nil (Tk_wkS (fr' := [(1, some (vI (wi ((64 : Int) + pick1)))), (2, some (vI id)), (3, some (vI atp3)), (5, some (vB wrap)), (6, some (.pointer (some ⟨b1, 0, none⟩))), (13, some (v9)), (15, some (v10)), (19, some (v11)), (21, some (.func (.func 17) #[] #[.pointer (some ⟨b1, 0, none⟩)])), (22, some (vI i2)), (23, some (.pointer (some ⟨b2, 0, none⟩)))]) (own' := [some (cellsR b1 27 [v8]), some (rowS iS v9 l1), some (rowS PutS v10 l2), some (rowS DescS v11 l3), some (cellsR b2 38 [vU64 p1.Desc.Addr, vU32 p1.Desc.Len, vU16 p1.Desc.Flags, vU16 p1.Desc.Next])]) (shr' := [Fact.sl SegS v8 m2]) [1, 2, 3, 5, 6, 13, 15, 19, 21, 22, 23] [0, 1, 2, 3, 4] [0] rfl rfl rfl rfl ?_)
        refine Tk_seq (Tk_seq (Tk_drawT (by kernel_rfl) ?_))
        refine TA_tb [0, 0, 3, 7, 15, 0, 0, 96, 224, 511, 1023, 2047, 4095, 2047, 2047, 26623, 59391, 124927, 262143, 524287, 1048575, 2097151, 4194303, 2097151, 2097151, 27262975, 60817407, 127926271, 268435455, 536870911, 1073741823, 2147483647, 2147483647, 2147483647, 10737418239, 34359738367, 68719476735, 137438953471, 274877906943, 549755813887, 549755813887, 2199023255551, 4398046511103, 8796093022207, 549755813887, 18141941858303, 70368744177663, 140737488355327, 281474976710655, 562949953421311, 562949953421311, 2251799813685247, 4503599627370495, 9007199254740991, 562949953421311, 18577348462903295, 72057594037927935, 144115188075855871, 288230376151711743, 576460752303423487, 576460752303423487, 2305843009213693951, 4611686018427387903, 9223372036854775807, 576460752303423487, 19023204826012975103, 73786976294838206463, 147573952589676412927] (by kernel_rfl) fun htb => ?_
        obtain ⟨p2, hx10, h⟩ := ob_e h
        obtain ⟨y1, hx11, h⟩ := ob_e h
        refine TA_seg (lo := 0) (hi := 9) htb rfl rfl (by kernel_rfl) (fun c L a w => Sat c ⟨[(1, some (vI (wi ((64 : Int) + pick1)))), (2, some (vI id)), (3, some (vI atp3)), (5, some (vB wrap)), (6, some (.pointer (some ⟨b1, 0, none⟩))), (13, some (v9)), (15, some (v10)), (19, some (v11)), (21, some (.func (.func 17) #[] #[.pointer (some ⟨b1, 0, none⟩)])), (22, some (vI i2)), (23, some (.pointer (some ⟨b2, 0, none⟩))), (121, bif L 0 then some (v10) else none), (122, bif L 1 then some (vI i2) else none), (123, bif L 2 then some (rowPtr v10 (Int.toNat i2 * 5)) else none), (124, bif L 3 then some (rowPtr v10 (Int.toNat i2 * 5 + 0)) else none), (125, bif L 4 then some (vI p2.At) else none), (126, bif L 5 then some (v9) else none), (127, bif L 6 then some (vI i2) else none), (128, bif L 7 then some (rowPtr v9 (Int.toNat i2 * 1)) else none), (129, bif L 8 then some (vI y1) else none)], [(some (cellsR b1 27 [v8]) : Option Res), (some (rowS iS v9 l1) : Option Res), (some (rowS PutS v10 l2) : Option Res), (some (rowS DescS v11 l3) : Option Res), (some (cellsR b2 38 [vU64 p1.Desc.Addr, vU32 p1.Desc.Len, vU16 p1.Desc.Flags, vU16 p1.Desc.Next]) : Option Res)], [Fact.sl SegS v8 m2]⟩ a w) [([], [2, 3, 4]), ([], [2, 3, 4]), ([0, 1], [3, 4]), ([0, 1, 2], [4]), ([0, 1, 2, 3], []), ([], [7, 8]), ([], [7, 8]), ([5, 6], [8]), ([5, 6, 7], [])] rfl (by kernel_rfl) ?_ (steps_cons ?_ (steps_cons ?_ (steps_cons ?_ (steps_cons ?_ (steps_cons ?_ (steps_cons ?_ (steps_cons ?_ (steps_cons ?_ (steps_cons ?_ (steps_nil)))))))))) ?_
        ·intro a w hs
         exact hs.startF [121, 122, 123, 124, 125, 126, 127, 128, 129] [0, 1, 2, 3, 4] [0] rfl rfl rfl rfl
        ·intro L a w hv K Q hK
         have hs := hv
         refine wpOp_go rfl rfl hs (OpT_move rfl rfl rfl rfl) ?_
         rintro _ rfl a' w' hs'
         exact hK a' w' (hs'.putF (i := 11) rfl [0, 1, 2, 3, 4] [0] rfl rfl rfl rfl)
        ·intro L a w hv K Q hK
         have hs := hv
         refine wpOp_go rfl rfl hs (OpT_move rfl rfl rfl rfl) ?_
         rintro _ rfl a' w' hs'
         exact hK a' w' (hs'.putF (i := 12) rfl [0, 1, 2, 3, 4] [0] rfl rfl rfl rfl)
        ·intro L a w hv K Q hK
         have hs := hv
         refine wpOp_go rfl rfl hs (OpT_idxO rfl rfl rfl rfl rfl slF22 (i := 2) rfl hx10) ?_
         rintro _ rfl a' w' hs'
         exact hK a' w' (hs'.putF (i := 13) rfl [0, 1, 2, 3, 4] [0] rfl rfl rfl rfl)
        ·intro L a w hv K Q hK
         have hs := hv
         refine wpOp_go rfl rfl hs (OpT_fieldR (S := PutS) rfl rfl rfl rfl fldF40x0 (i := 2) rfl hx10) ?_
         rintro _ rfl a' w' hs'
         exact hK a' w' (hs'.putF (i := 14) rfl [0, 1, 2, 3, 4] [0] rfl rfl rfl rfl)
        ·intro L a w hv K Q hK
         have hs := hv
         refine wpOp_go rfl rfl hs (OpT_loadOF (S := PutS) rfl rfl rfl rfl rfl tyF3 (i := 2) rfl hx10 rfl rfl) ?_
         rintro _ rfl a' w' hs'
         exact hK a' w' (hs'.putF (i := 15) rfl [0, 1, 2, 3, 4] [0] rfl rfl rfl rfl)
        ·intro L a w hv K Q hK
         have hs := hv
         refine wpOp_go rfl rfl hs (OpT_move rfl rfl rfl rfl) ?_
         rintro _ rfl a' w' hs'
         exact hK a' w' (hs'.putF (i := 16) rfl [0, 1, 2, 3, 4] [0] rfl rfl rfl rfl)
        ·intro L a w hv K Q hK
         have hs := hv
         refine wpOp_go rfl rfl hs (OpT_move rfl rfl rfl rfl) ?_
         rintro _ rfl a' w' hs'
         exact hK a' w' (hs'.putF (i := 17) rfl [0, 1, 2, 3, 4] [0] rfl rfl rfl rfl)
        ·intro L a w hv K Q hK
         have hs := hv
         refine wpOp_go rfl rfl hs (OpT_idxO rfl rfl rfl rfl rfl slF26 (i := 1) rfl hx11) ?_
         rintro _ rfl a' w' hs'
         exact hK a' w' (hs'.putF (i := 18) rfl [0, 1, 2, 3, 4] [0] rfl rfl rfl rfl)
        ·intro L a w hv K Q hK
         have hs := hv
         refine wpOp_go rfl rfl hs (OpT_loadO (S := iS) rfl rfl rfl rfl rfl tyF3 (i := 1) rfl hx11 rfl rfl) ?_
         rintro _ rfl a' w' hs'
         exact hK a' w' (hs'.putF (i := 19) rfl [0, 1, 2, 3, 4] [0] rfl rfl rfl rfl)
        ·intro L a w hL hv
         rw [allTrue hL] at hv
         have hs := hv
         refine (show TA _ _ _ 9 ⟨[(1, some (vI (wi ((64 : Int) + pick1)))), (2, some (vI id)), (3, some (vI atp3)), (5, some (vB wrap)), (6, some (.pointer (some ⟨b1, 0, none⟩))), (13, some (v9)), (15, some (v10)), (19, some (v11)), (21, some (.func (.func 17) #[] #[.pointer (some ⟨b1, 0, none⟩)])), (22, some (vI i2)), (23, some (.pointer (some ⟨b2, 0, none⟩))), (125, some (vI p2.At)), (129, some (vI y1))], [some (cellsR b1 27 [v8]), some (rowS iS v9 l1), some (rowS PutS v10 l2), some (rowS DescS v11 l3), some (cellsR b2 38 [vU64 p1.Desc.Addr, vU32 p1.Desc.Len, vU16 p1.Desc.Flags, vU16 p1.Desc.Next])], [Fact.sl SegS v8 m2]⟩ from ?_) a w (hs.wkS [1, 2, 3, 5, 6, 13, 15, 19, 21, 22, 23, 125, 129] [0, 1, 2, 3, 4] [0] rfl rfl rfl rfl)
         clear hs hL
         refine TA_step htb (by kernel_rfl) rfl rfl (OpT_bin rfl rfl rfl rfl rfl (bin_neq_i (a := p2.At) (b := y1))) ?_
         refine TA_step htb (by kernel_rfl) rfl rfl (OpT_move rfl rfl rfl rfl) ?_
         refine TA_wkS (fr' := [(1, some (vI (wi ((64 : Int) + pick1)))), (2, some (vI id)), (3, some (vI atp3)), (5, some (vB wrap)), (6, some (.pointer (some ⟨b1, 0, none⟩))), (13, some (v9)), (15, some (v10)), (19, some (v11)), (21, some (.func (.func 17) #[] #[.pointer (some ⟨b1, 0, none⟩)])), (22, some (vI i2)), (23, some (.pointer (some ⟨b2, 0, none⟩))), (131, some (vB (p2.At != y1)))]) (own' := [some (cellsR b1 27 [v8]), some (rowS iS v9 l1), some (rowS PutS v10 l2), some (rowS DescS v11 l3), some (cellsR b2 38 [vU64 p1.Desc.Addr, vU32 p1.Desc.Len, vU16 p1.Desc.Flags, vU16 p1.Desc.Next])]) (shr' := [Fact.sl SegS v8 m2]) [1, 2, 3, 5, 6, 13, 15, 19, 21, 22, 23, 131] [0, 1, 2, 3, 4] [0] rfl rfl rfl rfl ?_
         obtain ⟨hg12, h⟩ := chk_e h
         replace hg12 := not_t hg12
         obtain ⟨s1, hx12, h⟩ := ob_e h
         refine TA_seg (lo := 11) (hi := 18) htb rfl rfl (by kernel_rfl) (fun c L a w => ∃ (p3 : Value), ∃ (p4 : Value), Sat c ⟨[(1, some (vI (wi ((64 : Int) + pick1)))), (2, some (vI id)), (3, some (vI atp3)), (5, some (vB wrap)), (6, some (.pointer (some ⟨b1, 0, none⟩))), (13, some (v9)), (15, some (v10)), (19, some (v11)), (21, some (.func (.func 17) #[] #[.pointer (some ⟨b1, 0, none⟩)])), (22, some (vI i2)), (23, some (.pointer (some ⟨b2, 0, none⟩))), (131, some (vB (p2.At != y1))), (132, bif L 11 then some (.pointer (some ⟨b2, 0, none⟩)) else none), (133, bif L 12 then some (vU64 p1.Desc.Addr) else none), (134, bif L 13 then some (v8) else none), (135, bif L 14 then some (vI i2) else none), (136, bif L 15 then some (p3) else none), (137, bif L 16 then some (p4) else none), (138, bif L 17 then some (vU64 s1.At) else none)], [(some (cellsR b1 27 [v8]) : Option Res), (some (rowS iS v9 l1) : Option Res), (some (rowS PutS v10 l2) : Option Res), (some (rowS DescS v11 l3) : Option Res), (some (cellsR b2 38 [vU64 p1.Desc.Addr, vU32 p1.Desc.Len, vU16 p1.Desc.Flags, vU16 p1.Desc.Next]) : Option Res)], [Fact.sl SegS v8 m2, (bif L 15 then Fact.pt SegS p3 s1 else Fact.tt), (bif L 16 then Fact.pt u64S p4 s1.At else Fact.tt)]⟩ a w) [([], [12]), ([11], []), ([], [15, 16, 17]), ([], [15, 16, 17]), ([13, 14], [16, 17]), ([13, 14, 15], [17]), ([13, 14, 15, 16], [])] rfl (by kernel_rfl) ?_ (steps_cons ?_ (steps_cons ?_ (steps_cons ?_ (steps_cons ?_ (steps_cons ?_ (steps_cons ?_ (steps_cons ?_ (steps_nil)))))))) ?_
         ·intro a w hs
          exact ⟨undef, undef, hs.startF [132, 133, 134, 135, 136, 137, 138] [0, 1, 2, 3, 4] [0, 1, 2] rfl rfl rfl rfl⟩
         ·intro L a w hv K Q hK
          obtain ⟨p3, p4, hs⟩ := hv
          refine wpOp_yes rfl rfl rfl hs (congrArg (fun b => some (Value.bool b)) hg12) (OpT_fieldC rfl rfl rfl rfl fldF38x0) ?_
          rintro _ rfl a' w' hs'
          exact hK a' w' ⟨p3, p4, hs'.putF (i := 12) rfl [0, 1, 2, 3, 4] [0, 1, 2] rfl rfl rfl rfl⟩
         ·intro L a w hv K Q hK
          obtain ⟨p3, p4, hs⟩ := hv
          refine wpOp_yes rfl rfl rfl hs (congrArg (fun b => some (Value.bool b)) hg12) (OpT_loadC rfl rfl rfl rfl tyF34 (i := 4) rfl rfl) ?_
          rintro _ rfl a' w' hs'
          exact hK a' w' ⟨p3, p4, hs'.putF (i := 13) rfl [0, 1, 2, 3, 4] [0, 1, 2] rfl rfl rfl rfl⟩
         ·intro L a w hv K Q hK
          obtain ⟨p3, p4, hs⟩ := hv
          refine wpOp_yes rfl rfl rfl hs (congrArg (fun b => some (Value.bool b)) hg12) (OpT_loadC rfl rfl rfl rfl tyF27 (i := 0) rfl rfl) ?_
          rintro _ rfl a' w' hs'
          exact hK a' w' ⟨p3, p4, hs'.putF (i := 14) rfl [0, 1, 2, 3, 4] [0, 1, 2] rfl rfl rfl rfl⟩
         ·intro L a w hv K Q hK
          obtain ⟨p3, p4, hs⟩ := hv
          refine wpOp_yes rfl rfl rfl hs (congrArg (fun b => some (Value.bool b)) hg12) (OpT_move rfl rfl rfl rfl) ?_
          rintro _ rfl a' w' hs'
          exact hK a' w' ⟨p3, p4, hs'.putF (i := 15) rfl [0, 1, 2, 3, 4] [0, 1, 2] rfl rfl rfl rfl⟩
         ·intro L a w hv K Q hK
          obtain ⟨p3, p4, hs⟩ := hv
          refine wpOp_yes rfl rfl rfl hs (congrArg (fun b => some (Value.bool b)) hg12) (OpT_idxS rfl rfl rfl rfl rfl slF27 (i := 0) rfl hx12) ?_
          rintro _ ⟨p3', rfl⟩ a' w' hs'
          exact hK a' w' ⟨p3', p4, hs'.putF (i := 16) rfl [0, 1, 2, 3, 4] [0, 3, 2] rfl rfl rfl rfl⟩
         ·intro L a w hv K Q hK
          obtain ⟨p3, p4, hs⟩ := hv
          refine wpOp_yes rfl rfl rfl hs (congrArg (fun b => some (Value.bool b)) hg12) (OpT_fieldP (S' := u64S) (y := s1.At) rfl rfl rfl rfl fldF59x0 (i := 1) rfl (by intro h cs hr; subst hr; rfl)) ?_
          rintro _ ⟨p4', rfl⟩ a' w' hs'
          exact hK a' w' ⟨p3, p4', hs'.putF (i := 17) rfl [0, 1, 2, 3, 4] [0, 1, 3] rfl rfl rfl rfl⟩
         ·intro L a w hv K Q hK
          obtain ⟨p3, p4, hs⟩ := hv
          refine wpOp_yes rfl rfl rfl hs (congrArg (fun b => some (Value.bool b)) hg12) (OpT_loadP rfl rfl rfl rfl tyF34 (i := 2) rfl rfl) ?_
          rintro _ rfl a' w' hs'
          exact hK a' w' ⟨p3, p4, hs'.putF (i := 18) rfl [0, 1, 2, 3, 4] [0, 1, 2] rfl rfl rfl rfl⟩
         ·intro L a w hL hv
          rw [allTrue hL] at hv
          obtain ⟨p3, p4, hs⟩ := hv
          refine (show TA _ _ _ 18 ⟨[(1, some (vI (wi ((64 : Int) + pick1)))), (2, some (vI id)), (3, some (vI atp3)), (5, some (vB wrap)), (6, some (.pointer (some ⟨b1, 0, none⟩))), (13, some (v9)), (15, some (v10)), (19, some (v11)), (21, some (.func (.func 17) #[] #[.pointer (some ⟨b1, 0, none⟩)])), (22, some (vI i2)), (23, some (.pointer (some ⟨b2, 0, none⟩))), (131, some (vB (p2.At != y1))), (133, some (vU64 p1.Desc.Addr)), (138, some (vU64 s1.At))], [some (cellsR b1 27 [v8]), some (rowS iS v9 l1), some (rowS PutS v10 l2), some (rowS DescS v11 l3), some (cellsR b2 38 [vU64 p1.Desc.Addr, vU32 p1.Desc.Len, vU16 p1.Desc.Flags, vU16 p1.Desc.Next])], [Fact.sl SegS v8 m2]⟩ from ?_) a w (hs.wkS [1, 2, 3, 5, 6, 13, 15, 19, 21, 22, 23, 131, 133, 138] [0, 1, 2, 3, 4] [0] rfl rfl rfl rfl)
          clear hs hL
          refine TA_yes htb (by kernel_rfl) rfl rfl rfl (congrArg (fun b => some (Value.bool b)) hg12) (OpT_bin rfl rfl rfl rfl rfl (bin_neq_u64 (a := p1.Desc.Addr) (b := s1.At))) ?_
          rintro _ rfl
          refine TA_step htb (by kernel_rfl) rfl rfl (OpT_pickF rfl rfl rfl (congrArg (fun b => some (Value.bool b)) hg12) rfl) ?_
          refine TA_step htb (by kernel_rfl) rfl rfl (OpT_move rfl rfl rfl rfl) ?_
          refine TA_wkS (fr' := [(1, some (vI (wi ((64 : Int) + pick1)))), (2, some (vI id)), (3, some (vI atp3)), (5, some (vB wrap)), (6, some (.pointer (some ⟨b1, 0, none⟩))), (13, some (v9)), (15, some (v10)), (19, some (v11)), (21, some (.func (.func 17) #[] #[.pointer (some ⟨b1, 0, none⟩)])), (22, some (vI i2)), (23, some (.pointer (some ⟨b2, 0, none⟩))), (141, some (vB (p1.Desc.Addr != s1.At)))]) (own' := [some (cellsR b1 27 [v8]), some (rowS iS v9 l1), some (rowS PutS v10 l2), some (rowS DescS v11 l3), some (cellsR b2 38 [vU64 p1.Desc.Addr, vU32 p1.Desc.Len, vU16 p1.Desc.Flags, vU16 p1.Desc.Next])]) (shr' := [Fact.sl SegS v8 m2]) [1, 2, 3, 5, 6, 13, 15, 19, 21, 22, 23, 141] [0, 1, 2, 3, 4] [0] rfl rfl rfl rfl ?_
          obtain ⟨hg13, h⟩ := chk_e h
          replace hg13 := not_t hg13
          obtain ⟨s2, hx13, h⟩ := ob_e h
          refine TA_seg (lo := 21) (hi := 28) htb rfl rfl (by kernel_rfl) (fun c L a w => ∃ (p5 : Value), ∃ (p6 : Value), Sat c ⟨[(1, some (vI (wi ((64 : Int) + pick1)))), (2, some (vI id)), (3, some (vI atp3)), (5, some (vB wrap)), (6, some (.pointer (some ⟨b1, 0, none⟩))), (13, some (v9)), (15, some (v10)), (19, some (v11)), (21, some (.func (.func 17) #[] #[.pointer (some ⟨b1, 0, none⟩)])), (22, some (vI i2)), (23, some (.pointer (some ⟨b2, 0, none⟩))), (141, some (vB (p1.Desc.Addr != s1.At))), (142, bif L 21 then some (.pointer (some ⟨b2, 1, none⟩)) else none), (143, bif L 22 then some (vU32 p1.Desc.Len) else none), (144, bif L 23 then some (v8) else none), (145, bif L 24 then some (vI i2) else none), (146, bif L 25 then some (p5) else none), (147, bif L 26 then some (p6) else none), (148, bif L 27 then some (vU32 s2.Len) else none)], [(some (cellsR b1 27 [v8]) : Option Res), (some (rowS iS v9 l1) : Option Res), (some (rowS PutS v10 l2) : Option Res), (some (rowS DescS v11 l3) : Option Res), (some (cellsR b2 38 [vU64 p1.Desc.Addr, vU32 p1.Desc.Len, vU16 p1.Desc.Flags, vU16 p1.Desc.Next]) : Option Res)], [Fact.sl SegS v8 m2, (bif L 25 then Fact.pt SegS p5 s2 else Fact.tt), (bif L 26 then Fact.pt u32S p6 s2.Len else Fact.tt)]⟩ a w) [([], [22]), ([21], []), ([], [25, 26, 27]), ([], [25, 26, 27]), ([23, 24], [26, 27]), ([23, 24, 25], [27]), ([23, 24, 25, 26], [])] rfl (by kernel_rfl) ?_ (steps_cons ?_ (steps_cons ?_ (steps_cons ?_ (steps_cons ?_ (steps_cons ?_ (steps_cons ?_ (steps_cons ?_ (steps_nil)))))))) ?_
          ·intro a w hs
           exact ⟨undef, undef, hs.startF [142, 143, 144, 145, 146, 147, 148] [0, 1, 2, 3, 4] [0, 1, 2] rfl rfl rfl rfl⟩
          ·intro L a w hv K Q hK
           obtain ⟨p5, p6, hs⟩ := hv
           refine wpOp_yes rfl rfl rfl hs (congrArg (fun b => some (Value.bool b)) hg13) (OpT_fieldC rfl rfl rfl rfl fldF38x1) ?_
           rintro _ rfl a' w' hs'
           exact hK a' w' ⟨p5, p6, hs'.putF (i := 12) rfl [0, 1, 2, 3, 4] [0, 1, 2] rfl rfl rfl rfl⟩
          ·intro L a w hv K Q hK
           obtain ⟨p5, p6, hs⟩ := hv
           refine wpOp_yes rfl rfl rfl hs (congrArg (fun b => some (Value.bool b)) hg13) (OpT_loadC rfl rfl rfl rfl tyF35 (i := 4) rfl rfl) ?_
           rintro _ rfl a' w' hs'
           exact hK a' w' ⟨p5, p6, hs'.putF (i := 13) rfl [0, 1, 2, 3, 4] [0, 1, 2] rfl rfl rfl rfl⟩
          ·intro L a w hv K Q hK
           obtain ⟨p5, p6, hs⟩ := hv
           refine wpOp_yes rfl rfl rfl hs (congrArg (fun b => some (Value.bool b)) hg13) (OpT_loadC rfl rfl rfl rfl tyF27 (i := 0) rfl rfl) ?_
           rintro _ rfl a' w' hs'
           exact hK a' w' ⟨p5, p6, hs'.putF (i := 14) rfl [0, 1, 2, 3, 4] [0, 1, 2] rfl rfl rfl rfl⟩
          ·intro L a w hv K Q hK
           obtain ⟨p5, p6, hs⟩ := hv
           refine wpOp_yes rfl rfl rfl hs (congrArg (fun b => some (Value.bool b)) hg13) (OpT_move rfl rfl rfl rfl) ?_
           rintro _ rfl a' w' hs'
           exact hK a' w' ⟨p5, p6, hs'.putF (i := 15) rfl [0, 1, 2, 3, 4] [0, 1, 2] rfl rfl rfl rfl⟩
          ·intro L a w hv K Q hK
           obtain ⟨p5, p6, hs⟩ := hv
           refine wpOp_yes rfl rfl rfl hs (congrArg (fun b => some (Value.bool b)) hg13) (OpT_idxS rfl rfl rfl rfl rfl slF27 (i := 0) rfl hx13) ?_
           rintro _ ⟨p5', rfl⟩ a' w' hs'
           exact hK a' w' ⟨p5', p6, hs'.putF (i := 16) rfl [0, 1, 2, 3, 4] [0, 3, 2] rfl rfl rfl rfl⟩
          ·intro L a w hv K Q hK
           obtain ⟨p5, p6, hs⟩ := hv
           refine wpOp_yes rfl rfl rfl hs (congrArg (fun b => some (Value.bool b)) hg13) (OpT_fieldP (S' := u32S) (y := s2.Len) rfl rfl rfl rfl fldF59x1 (i := 1) rfl (by intro h cs hr; subst hr; rfl)) ?_
           rintro _ ⟨p6', rfl⟩ a' w' hs'
           exact hK a' w' ⟨p5, p6', hs'.putF (i := 17) rfl [0, 1, 2, 3, 4] [0, 1, 3] rfl rfl rfl rfl⟩
          ·intro L a w hv K Q hK
           obtain ⟨p5, p6, hs⟩ := hv
           refine wpOp_yes rfl rfl rfl hs (congrArg (fun b => some (Value.bool b)) hg13) (OpT_loadP rfl rfl rfl rfl tyF35 (i := 2) rfl rfl) ?_
           rintro _ rfl a' w' hs'
           exact hK a' w' ⟨p5, p6, hs'.putF (i := 18) rfl [0, 1, 2, 3, 4] [0, 1, 2] rfl rfl rfl rfl⟩
          ·intro L a w hL hv
           rw [allTrue hL] at hv
           obtain ⟨p5, p6, hs⟩ := hv
           refine (show TA _ _ _ 28 ⟨[(1, some (vI (wi ((64 : Int) + pick1)))), (2, some (vI id)), (3, some (vI atp3)), (5, some (vB wrap)), (6, some (.pointer (some ⟨b1, 0, none⟩))), (13, some (v9)), (15, some (v10)), (19, some (v11)), (21, some (.func (.func 17) #[] #[.pointer (some ⟨b1, 0, none⟩)])), (22, some (vI i2)), (23, some (.pointer (some ⟨b2, 0, none⟩))), (141, some (vB (p1.Desc.Addr != s1.At))), (143, some (vU32 p1.Desc.Len)), (148, some (vU32 s2.Len))], [some (cellsR b1 27 [v8]), some (rowS iS v9 l1), some (rowS PutS v10 l2), some (rowS DescS v11 l3), some (cellsR b2 38 [vU64 p1.Desc.Addr, vU32 p1.Desc.Len, vU16 p1.Desc.Flags, vU16 p1.Desc.Next])], [Fact.sl SegS v8 m2]⟩ from ?_) a w (hs.wkS [1, 2, 3, 5, 6, 13, 15, 19, 21, 22, 23, 141, 143, 148] [0, 1, 2, 3, 4] [0] rfl rfl rfl rfl)
           clear hs hL
           refine TA_yes htb (by kernel_rfl) rfl rfl rfl (congrArg (fun b => some (Value.bool b)) hg13) (OpT_bin rfl rfl rfl rfl rfl (bin_neq_u32 (a := p1.Desc.Len) (b := s2.Len))) ?_
           rintro _ rfl
           refine TA_step htb (by kernel_rfl) rfl rfl (OpT_pickF rfl rfl rfl (congrArg (fun b => some (Value.bool b)) hg13) rfl) ?_
           refine TA_step htb (by kernel_rfl) rfl rfl (OpT_move rfl rfl rfl rfl) ?_
           refine TA_wkS (fr' := [(1, some (vI (wi ((64 : Int) + pick1)))), (2, some (vI id)), (3, some (vI atp3)), (5, some (vB wrap)), (6, some (.pointer (some ⟨b1, 0, none⟩))), (13, some (v9)), (15, some (v10)), (19, some (v11)), (21, some (.func (.func 17) #[] #[.pointer (some ⟨b1, 0, none⟩)])), (22, some (vI i2)), (23, some (.pointer (some ⟨b2, 0, none⟩))), (151, some (vB (p1.Desc.Len != s2.Len)))]) (own' := [some (cellsR b1 27 [v8]), some (rowS iS v9 l1), some (rowS PutS v10 l2), some (rowS DescS v11 l3), some (cellsR b2 38 [vU64 p1.Desc.Addr, vU32 p1.Desc.Len, vU16 p1.Desc.Flags, vU16 p1.Desc.Next])]) (shr' := [Fact.sl SegS v8 m2]) [1, 2, 3, 5, 6, 13, 15, 19, 21, 22, 23, 151] [0, 1, 2, 3, 4] [0] rfl rfl rfl rfl ?_
           obtain ⟨hg14, h⟩ := chk_e h
           replace hg14 := not_t hg14
           refine TA_seg (lo := 31) (hi := 35) htb rfl rfl (by kernel_rfl) (fun c L a w => Sat c ⟨[(1, some (vI (wi ((64 : Int) + pick1)))), (2, some (vI id)), (3, some (vI atp3)), (5, some (vB wrap)), (6, some (.pointer (some ⟨b1, 0, none⟩))), (13, some (v9)), (15, some (v10)), (19, some (v11)), (21, some (.func (.func 17) #[] #[.pointer (some ⟨b1, 0, none⟩)])), (22, some (vI i2)), (23, some (.pointer (some ⟨b2, 0, none⟩))), (151, some (vB (p1.Desc.Len != s2.Len))), (152, bif L 31 then some (.func (.func 17) #[] #[.pointer (some ⟨b1, 0, none⟩)]) else none), (153, bif L 32 then some (vI i2) else none), (154, bif L 33 then some (.pointer (some ⟨b2, 2, none⟩)) else none), (155, bif L 34 then some (vU16 p1.Desc.Flags) else none)], [(some (cellsR b1 27 [v8]) : Option Res), (some (rowS iS v9 l1) : Option Res), (some (rowS PutS v10 l2) : Option Res), (some (rowS DescS v11 l3) : Option Res), (some (cellsR b2 38 [vU64 p1.Desc.Addr, vU32 p1.Desc.Len, vU16 p1.Desc.Flags, vU16 p1.Desc.Next]) : Option Res)], [Fact.sl SegS v8 m2]⟩ a w) [([], []), ([], []), ([], [34]), ([33], [])] rfl (by kernel_rfl) ?_ (steps_cons ?_ (steps_cons ?_ (steps_cons ?_ (steps_cons ?_ (steps_nil))))) ?_
           ·intro a w hs
            exact hs.startF [152, 153, 154, 155] [0, 1, 2, 3, 4] [0] rfl rfl rfl rfl
           ·intro L a w hv K Q hK
            have hs := hv
            refine wpOp_yes rfl rfl rfl hs (congrArg (fun b => some (Value.bool b)) hg14) (OpT_move rfl rfl rfl rfl) ?_
            rintro _ rfl a' w' hs'
            exact hK a' w' (hs'.putF (i := 12) rfl [0, 1, 2, 3, 4] [0] rfl rfl rfl rfl)
           ·intro L a w hv K Q hK
            have hs := hv
            refine wpOp_yes rfl rfl rfl hs (congrArg (fun b => some (Value.bool b)) hg14) (OpT_move rfl rfl rfl rfl) ?_
            rintro _ rfl a' w' hs'
            exact hK a' w' (hs'.putF (i := 13) rfl [0, 1, 2, 3, 4] [0] rfl rfl rfl rfl)
           ·intro L a w hv K Q hK
            have hs := hv
            refine wpOp_yes rfl rfl rfl hs (congrArg (fun b => some (Value.bool b)) hg14) (OpT_fieldC rfl rfl rfl rfl fldF38x2) ?_
            rintro _ rfl a' w' hs'
            exact hK a' w' (hs'.putF (i := 14) rfl [0, 1, 2, 3, 4] [0] rfl rfl rfl rfl)
           ·intro L a w hv K Q hK
            have hs := hv
            refine wpOp_yes rfl rfl rfl hs (congrArg (fun b => some (Value.bool b)) hg14) (OpT_loadC rfl rfl rfl rfl tyF36 (i := 4) rfl rfl) ?_
            rintro _ rfl a' w' hs'
            exact hK a' w' (hs'.putF (i := 15) rfl [0, 1, 2, 3, 4] [0] rfl rfl rfl rfl)
           ·intro L a w hL hv
            rw [allTrue hL] at hv
            have hs := hv
            refine (show TA _ _ _ 35 ⟨[(1, some (vI (wi ((64 : Int) + pick1)))), (2, some (vI id)), (3, some (vI atp3)), (5, some (vB wrap)), (6, some (.pointer (some ⟨b1, 0, none⟩))), (13, some (v9)), (15, some (v10)), (19, some (v11)), (21, some (.func (.func 17) #[] #[.pointer (some ⟨b1, 0, none⟩)])), (22, some (vI i2)), (23, some (.pointer (some ⟨b2, 0, none⟩))), (151, some (vB (p1.Desc.Len != s2.Len))), (152, some (.func (.func 17) #[] #[.pointer (some ⟨b1, 0, none⟩)])), (153, some (vI i2)), (155, some (vU16 p1.Desc.Flags))], [some (cellsR b1 27 [v8]), some (rowS iS v9 l1), some (rowS PutS v10 l2), some (rowS DescS v11 l3), some (cellsR b2 38 [vU64 p1.Desc.Addr, vU32 p1.Desc.Len, vU16 p1.Desc.Flags, vU16 p1.Desc.Next])], [Fact.sl SegS v8 m2]⟩ from ?_) a w (hs.wkS [1, 2, 3, 5, 6, 13, 15, 19, 21, 22, 23, 151, 152, 153, 155] [0, 1, 2, 3, 4] [0] rfl rfl rfl rfl)
            clear hs hL
            obtain ⟨buildt1, hx14, h⟩ := ob_e h
            refine TA_yes htb (by kernel_rfl) rfl rfl rfl (congrArg (fun b => some (Value.bool b)) hg14) (OpT_callP [5, 1, 2, 3, 4] (w_law09zBuildTells_1 hx14) [0] [0] rfl rfl rfl rfl rfl callee17 rfl rfl rfl rfl rfl) ?_
            rintro _ ⟨_, _, _, ⟨rfl, rfl, rfl⟩, rfl⟩
            refine TA_yes htb (by kernel_rfl) rfl rfl rfl (congrArg (fun b => some (Value.bool b)) hg14) (OpT_not rfl rfl rfl rfl) ?_
            rintro _ rfl
            refine TA_step htb (by kernel_rfl) rfl rfl (OpT_pickF rfl rfl rfl (congrArg (fun b => some (Value.bool b)) hg14) rfl) ?_
            refine TA_step htb (by kernel_rfl) rfl rfl (OpT_move rfl rfl rfl rfl) ?_
            refine TA_wkS (fr' := [(1, some (vI (wi ((64 : Int) + pick1)))), (2, some (vI id)), (3, some (vI atp3)), (5, some (vB wrap)), (6, some (.pointer (some ⟨b1, 0, none⟩))), (13, some (v9)), (15, some (v10)), (19, some (v11)), (21, some (.func (.func 17) #[] #[.pointer (some ⟨b1, 0, none⟩)])), (22, some (vI i2)), (23, some (.pointer (some ⟨b2, 0, none⟩))), (159, some (vB (!buildt1)))]) (own' := [some (cellsR b1 27 [v8]), some (rowS iS v9 l1), some (rowS PutS v10 l2), some (rowS DescS v11 l3), some (cellsR b2 38 [vU64 p1.Desc.Addr, vU32 p1.Desc.Len, vU16 p1.Desc.Flags, vU16 p1.Desc.Next])]) (shr' := [Fact.sl SegS v8 m2]) [1, 2, 3, 5, 6, 13, 15, 19, 21, 22, 23, 159] [0, 1, 2, 3, 4] [0] rfl rfl rfl rfl ?_
            obtain ⟨hg15, h⟩ := chk_e h
            replace hg15 := not_t hg15
            obtain ⟨d1, hx15, h⟩ := ob_e h
            refine TA_seg (lo := 39) (hi := 46) htb rfl rfl (by kernel_rfl) (fun c L a w => Sat c ⟨[(1, some (vI (wi ((64 : Int) + pick1)))), (2, some (vI id)), (3, some (vI atp3)), (5, some (vB wrap)), (6, some (.pointer (some ⟨b1, 0, none⟩))), (13, some (v9)), (15, some (v10)), (19, some (v11)), (21, some (.func (.func 17) #[] #[.pointer (some ⟨b1, 0, none⟩)])), (22, some (vI i2)), (23, some (.pointer (some ⟨b2, 0, none⟩))), (159, some (vB (!buildt1))), (160, bif L 39 then some (v11) else none), (161, bif L 40 then some (vI i2) else none), (162, bif L 41 then some (rowPtr v11 (Int.toNat i2 * 4)) else none), (163, bif L 42 then some (rowPtr v11 (Int.toNat i2 * 4 + 0)) else none), (164, bif L 43 then some (vU64 d1.Addr) else none), (165, bif L 44 then some (.pointer (some ⟨b2, 0, none⟩)) else none), (166, bif L 45 then some (vU64 p1.Desc.Addr) else none)], [(some (cellsR b1 27 [v8]) : Option Res), (some (rowS iS v9 l1) : Option Res), (some (rowS PutS v10 l2) : Option Res), (some (rowS DescS v11 l3) : Option Res), (some (cellsR b2 38 [vU64 p1.Desc.Addr, vU32 p1.Desc.Len, vU16 p1.Desc.Flags, vU16 p1.Desc.Next]) : Option Res)], [Fact.sl SegS v8 m2]⟩ a w) [([], [41, 42, 43]), ([], [41, 42, 43]), ([39, 40], [42, 43]), ([39, 40, 41], [43]), ([39, 40, 41, 42], []), ([], [45]), ([44], [])] rfl (by kernel_rfl) ?_ (steps_cons ?_ (steps_cons ?_ (steps_cons ?_ (steps_cons ?_ (steps_cons ?_ (steps_cons ?_ (steps_cons ?_ (steps_nil)))))))) ?_
            ·intro a w hs
             exact hs.startF [160, 161, 162, 163, 164, 165, 166] [0, 1, 2, 3, 4] [0] rfl rfl rfl rfl
            ·intro L a w hv K Q hK
             have hs := hv
             refine wpOp_yes rfl rfl rfl hs (congrArg (fun b => some (Value.bool b)) hg15) (OpT_move rfl rfl rfl rfl) ?_
             rintro _ rfl a' w' hs'
             exact hK a' w' (hs'.putF (i := 12) rfl [0, 1, 2, 3, 4] [0] rfl rfl rfl rfl)
            ·intro L a w hv K Q hK
             have hs := hv
             refine wpOp_yes rfl rfl rfl hs (congrArg (fun b => some (Value.bool b)) hg15) (OpT_move rfl rfl rfl rfl) ?_
             rintro _ rfl a' w' hs'
             exact hK a' w' (hs'.putF (i := 13) rfl [0, 1, 2, 3, 4] [0] rfl rfl rfl rfl)
            ·intro L a w hv K Q hK
             have hs := hv
             refine wpOp_yes rfl rfl rfl hs (congrArg (fun b => some (Value.bool b)) hg15) (OpT_idxO rfl rfl rfl rfl rfl slF55 (i := 3) rfl hx15) ?_
             rintro _ rfl a' w' hs'
             exact hK a' w' (hs'.putF (i := 14) rfl [0, 1, 2, 3, 4] [0] rfl rfl rfl rfl)
            ·intro L a w hv K Q hK
             have hs := hv
             refine wpOp_yes rfl rfl rfl hs (congrArg (fun b => some (Value.bool b)) hg15) (OpT_fieldR (S := DescS) rfl rfl rfl rfl fldF38x0 (i := 3) rfl hx15) ?_
             rintro _ rfl a' w' hs'
             exact hK a' w' (hs'.putF (i := 15) rfl [0, 1, 2, 3, 4] [0] rfl rfl rfl rfl)
            ·intro L a w hv K Q hK
             have hs := hv
             refine wpOp_yes rfl rfl rfl hs (congrArg (fun b => some (Value.bool b)) hg15) (OpT_loadOF (S := DescS) rfl rfl rfl rfl rfl tyF34 (i := 3) rfl hx15 rfl rfl) ?_
             rintro _ rfl a' w' hs'
             exact hK a' w' (hs'.putF (i := 16) rfl [0, 1, 2, 3, 4] [0] rfl rfl rfl rfl)
            ·intro L a w hv K Q hK
             have hs := hv
             refine wpOp_yes rfl rfl rfl hs (congrArg (fun b => some (Value.bool b)) hg15) (OpT_fieldC rfl rfl rfl rfl fldF38x0) ?_
             rintro _ rfl a' w' hs'
             exact hK a' w' (hs'.putF (i := 17) rfl [0, 1, 2, 3, 4] [0] rfl rfl rfl rfl)
            ·intro L a w hv K Q hK
             have hs := hv
             refine wpOp_yes rfl rfl rfl hs (congrArg (fun b => some (Value.bool b)) hg15) (OpT_loadC rfl rfl rfl rfl tyF34 (i := 4) rfl rfl) ?_
             rintro _ rfl a' w' hs'
             exact hK a' w' (hs'.putF (i := 18) rfl [0, 1, 2, 3, 4] [0] rfl rfl rfl rfl)
            ·intro L a w hL hv
             rw [allTrue hL] at hv
             have hs := hv
             refine (show TA _ _ _ 46 ⟨[(1, some (vI (wi ((64 : Int) + pick1)))), (2, some (vI id)), (3, some (vI atp3)), (5, some (vB wrap)), (6, some (.pointer (some ⟨b1, 0, none⟩))), (13, some (v9)), (15, some (v10)), (19, some (v11)), (21, some (.func (.func 17) #[] #[.pointer (some ⟨b1, 0, none⟩)])), (22, some (vI i2)), (23, some (.pointer (some ⟨b2, 0, none⟩))), (159, some (vB (!buildt1))), (164, some (vU64 d1.Addr)), (166, some (vU64 p1.Desc.Addr))], [some (cellsR b1 27 [v8]), some (rowS iS v9 l1), some (rowS PutS v10 l2), some (rowS DescS v11 l3), some (cellsR b2 38 [vU64 p1.Desc.Addr, vU32 p1.Desc.Len, vU16 p1.Desc.Flags, vU16 p1.Desc.Next])], [Fact.sl SegS v8 m2]⟩ from ?_) a w (hs.wkS [1, 2, 3, 5, 6, 13, 15, 19, 21, 22, 23, 159, 164, 166] [0, 1, 2, 3, 4] [0] rfl rfl rfl rfl)
             clear hs hL
             refine TA_yes htb (by kernel_rfl) rfl rfl rfl (congrArg (fun b => some (Value.bool b)) hg15) (OpT_bin rfl rfl rfl rfl rfl (bin_neq_u64 (a := d1.Addr) (b := p1.Desc.Addr))) ?_
             rintro _ rfl
             refine TA_step htb (by kernel_rfl) rfl rfl (OpT_pickF rfl rfl rfl (congrArg (fun b => some (Value.bool b)) hg15) rfl) ?_
             refine TA_step htb (by kernel_rfl) rfl rfl (OpT_move rfl rfl rfl rfl) ?_
             refine TA_wkS (fr' := [(1, some (vI (wi ((64 : Int) + pick1)))), (2, some (vI id)), (3, some (vI atp3)), (5, some (vB wrap)), (6, some (.pointer (some ⟨b1, 0, none⟩))), (13, some (v9)), (15, some (v10)), (19, some (v11)), (21, some (.func (.func 17) #[] #[.pointer (some ⟨b1, 0, none⟩)])), (22, some (vI i2)), (23, some (.pointer (some ⟨b2, 0, none⟩))), (169, some (vB (d1.Addr != p1.Desc.Addr)))]) (own' := [some (cellsR b1 27 [v8]), some (rowS iS v9 l1), some (rowS PutS v10 l2), some (rowS DescS v11 l3), some (cellsR b2 38 [vU64 p1.Desc.Addr, vU32 p1.Desc.Len, vU16 p1.Desc.Flags, vU16 p1.Desc.Next])]) (shr' := [Fact.sl SegS v8 m2]) [1, 2, 3, 5, 6, 13, 15, 19, 21, 22, 23, 169] [0, 1, 2, 3, 4] [0] rfl rfl rfl rfl ?_
             obtain ⟨hg16, h⟩ := chk_e h
             replace hg16 := not_t hg16
             obtain ⟨d2, hx16, h⟩ := ob_e h
             refine TA_seg (lo := 49) (hi := 56) htb rfl rfl (by kernel_rfl) (fun c L a w => Sat c ⟨[(1, some (vI (wi ((64 : Int) + pick1)))), (2, some (vI id)), (3, some (vI atp3)), (5, some (vB wrap)), (6, some (.pointer (some ⟨b1, 0, none⟩))), (13, some (v9)), (15, some (v10)), (19, some (v11)), (21, some (.func (.func 17) #[] #[.pointer (some ⟨b1, 0, none⟩)])), (22, some (vI i2)), (23, some (.pointer (some ⟨b2, 0, none⟩))), (169, some (vB (d1.Addr != p1.Desc.Addr))), (170, bif L 49 then some (v11) else none), (171, bif L 50 then some (vI i2) else none), (172, bif L 51 then some (rowPtr v11 (Int.toNat i2 * 4)) else none), (173, bif L 52 then some (rowPtr v11 (Int.toNat i2 * 4 + 1)) else none), (174, bif L 53 then some (vU32 d2.Len) else none), (175, bif L 54 then some (.pointer (some ⟨b2, 1, none⟩)) else none), (176, bif L 55 then some (vU32 p1.Desc.Len) else none)], [(some (cellsR b1 27 [v8]) : Option Res), (some (rowS iS v9 l1) : Option Res), (some (rowS PutS v10 l2) : Option Res), (some (rowS DescS v11 l3) : Option Res), (some (cellsR b2 38 [vU64 p1.Desc.Addr, vU32 p1.Desc.Len, vU16 p1.Desc.Flags, vU16 p1.Desc.Next]) : Option Res)], [Fact.sl SegS v8 m2]⟩ a w) [([], [51, 52, 53]), ([], [51, 52, 53]), ([49, 50], [52, 53]), ([49, 50, 51], [53]), ([49, 50, 51, 52], []), ([], [55]), ([54], [])] rfl (by kernel_rfl) ?_ (steps_cons ?_ (steps_cons ?_ (steps_cons ?_ (steps_cons ?_ (steps_cons ?_ (steps_cons ?_ (steps_cons ?_ (steps_nil)))))))) ?_
             ·intro a w hs
              exact hs.startF [170, 171, 172, 173, 174, 175, 176] [0, 1, 2, 3, 4] [0] rfl rfl rfl rfl
             ·intro L a w hv K Q hK
              have hs := hv
              refine wpOp_yes rfl rfl rfl hs (congrArg (fun b => some (Value.bool b)) hg16) (OpT_move rfl rfl rfl rfl) ?_
              rintro _ rfl a' w' hs'
              exact hK a' w' (hs'.putF (i := 12) rfl [0, 1, 2, 3, 4] [0] rfl rfl rfl rfl)
             ·intro L a w hv K Q hK
              have hs := hv
              refine wpOp_yes rfl rfl rfl hs (congrArg (fun b => some (Value.bool b)) hg16) (OpT_move rfl rfl rfl rfl) ?_
              rintro _ rfl a' w' hs'
              exact hK a' w' (hs'.putF (i := 13) rfl [0, 1, 2, 3, 4] [0] rfl rfl rfl rfl)
             ·intro L a w hv K Q hK
              have hs := hv
              refine wpOp_yes rfl rfl rfl hs (congrArg (fun b => some (Value.bool b)) hg16) (OpT_idxO rfl rfl rfl rfl rfl slF55 (i := 3) rfl hx16) ?_
              rintro _ rfl a' w' hs'
              exact hK a' w' (hs'.putF (i := 14) rfl [0, 1, 2, 3, 4] [0] rfl rfl rfl rfl)
             ·intro L a w hv K Q hK
              have hs := hv
              refine wpOp_yes rfl rfl rfl hs (congrArg (fun b => some (Value.bool b)) hg16) (OpT_fieldR (S := DescS) rfl rfl rfl rfl fldF38x1 (i := 3) rfl hx16) ?_
              rintro _ rfl a' w' hs'
              exact hK a' w' (hs'.putF (i := 15) rfl [0, 1, 2, 3, 4] [0] rfl rfl rfl rfl)
             ·intro L a w hv K Q hK
              have hs := hv
              refine wpOp_yes rfl rfl rfl hs (congrArg (fun b => some (Value.bool b)) hg16) (OpT_loadOF (S := DescS) rfl rfl rfl rfl rfl tyF35 (i := 3) rfl hx16 rfl rfl) ?_
              rintro _ rfl a' w' hs'
              exact hK a' w' (hs'.putF (i := 16) rfl [0, 1, 2, 3, 4] [0] rfl rfl rfl rfl)
             ·intro L a w hv K Q hK
              have hs := hv
              refine wpOp_yes rfl rfl rfl hs (congrArg (fun b => some (Value.bool b)) hg16) (OpT_fieldC rfl rfl rfl rfl fldF38x1) ?_
              rintro _ rfl a' w' hs'
              exact hK a' w' (hs'.putF (i := 17) rfl [0, 1, 2, 3, 4] [0] rfl rfl rfl rfl)
             ·intro L a w hv K Q hK
              have hs := hv
              refine wpOp_yes rfl rfl rfl hs (congrArg (fun b => some (Value.bool b)) hg16) (OpT_loadC rfl rfl rfl rfl tyF35 (i := 4) rfl rfl) ?_
              rintro _ rfl a' w' hs'
              exact hK a' w' (hs'.putF (i := 18) rfl [0, 1, 2, 3, 4] [0] rfl rfl rfl rfl)
             ·intro L a w hL hv
              rw [allTrue hL] at hv
              have hs := hv
              refine (show TA _ _ _ 56 ⟨[(1, some (vI (wi ((64 : Int) + pick1)))), (2, some (vI id)), (3, some (vI atp3)), (5, some (vB wrap)), (6, some (.pointer (some ⟨b1, 0, none⟩))), (13, some (v9)), (15, some (v10)), (19, some (v11)), (21, some (.func (.func 17) #[] #[.pointer (some ⟨b1, 0, none⟩)])), (22, some (vI i2)), (23, some (.pointer (some ⟨b2, 0, none⟩))), (169, some (vB (d1.Addr != p1.Desc.Addr))), (174, some (vU32 d2.Len)), (176, some (vU32 p1.Desc.Len))], [some (cellsR b1 27 [v8]), some (rowS iS v9 l1), some (rowS PutS v10 l2), some (rowS DescS v11 l3), some (cellsR b2 38 [vU64 p1.Desc.Addr, vU32 p1.Desc.Len, vU16 p1.Desc.Flags, vU16 p1.Desc.Next])], [Fact.sl SegS v8 m2]⟩ from ?_) a w (hs.wkS [1, 2, 3, 5, 6, 13, 15, 19, 21, 22, 23, 169, 174, 176] [0, 1, 2, 3, 4] [0] rfl rfl rfl rfl)
              clear hs hL
              refine TA_yes htb (by kernel_rfl) rfl rfl rfl (congrArg (fun b => some (Value.bool b)) hg16) (OpT_bin rfl rfl rfl rfl rfl (bin_neq_u32 (a := d2.Len) (b := p1.Desc.Len))) ?_
              rintro _ rfl
              refine TA_step htb (by kernel_rfl) rfl rfl (OpT_pickF rfl rfl rfl (congrArg (fun b => some (Value.bool b)) hg16) rfl) ?_
              refine TA_step htb (by kernel_rfl) rfl rfl (OpT_move rfl rfl rfl rfl) ?_
              refine TA_wkS (fr' := [(1, some (vI (wi ((64 : Int) + pick1)))), (2, some (vI id)), (3, some (vI atp3)), (5, some (vB wrap)), (6, some (.pointer (some ⟨b1, 0, none⟩))), (13, some (v9)), (15, some (v10)), (19, some (v11)), (21, some (.func (.func 17) #[] #[.pointer (some ⟨b1, 0, none⟩)])), (22, some (vI i2)), (23, some (.pointer (some ⟨b2, 0, none⟩))), (179, some (vB (d2.Len != p1.Desc.Len)))]) (own' := [some (cellsR b1 27 [v8]), some (rowS iS v9 l1), some (rowS PutS v10 l2), some (rowS DescS v11 l3), some (cellsR b2 38 [vU64 p1.Desc.Addr, vU32 p1.Desc.Len, vU16 p1.Desc.Flags, vU16 p1.Desc.Next])]) (shr' := [Fact.sl SegS v8 m2]) [1, 2, 3, 5, 6, 13, 15, 19, 21, 22, 23, 179] [0, 1, 2, 3, 4] [0] rfl rfl rfl rfl ?_
              obtain ⟨hg17, h⟩ := chk_e h
              replace hg17 := not_t hg17
              obtain ⟨d3, hx17, h⟩ := ob_e h
              refine TA_seg (lo := 59) (hi := 66) htb rfl rfl (by kernel_rfl) (fun c L a w => Sat c ⟨[(1, some (vI (wi ((64 : Int) + pick1)))), (2, some (vI id)), (3, some (vI atp3)), (5, some (vB wrap)), (6, some (.pointer (some ⟨b1, 0, none⟩))), (13, some (v9)), (15, some (v10)), (19, some (v11)), (21, some (.func (.func 17) #[] #[.pointer (some ⟨b1, 0, none⟩)])), (22, some (vI i2)), (23, some (.pointer (some ⟨b2, 0, none⟩))), (179, some (vB (d2.Len != p1.Desc.Len))), (180, bif L 59 then some (v11) else none), (181, bif L 60 then some (vI i2) else none), (182, bif L 61 then some (rowPtr v11 (Int.toNat i2 * 4)) else none), (183, bif L 62 then some (rowPtr v11 (Int.toNat i2 * 4 + 2)) else none), (184, bif L 63 then some (vU16 d3.Flags) else none), (185, bif L 64 then some (.pointer (some ⟨b2, 2, none⟩)) else none), (186, bif L 65 then some (vU16 p1.Desc.Flags) else none)], [(some (cellsR b1 27 [v8]) : Option Res), (some (rowS iS v9 l1) : Option Res), (some (rowS PutS v10 l2) : Option Res), (some (rowS DescS v11 l3) : Option Res), (some (cellsR b2 38 [vU64 p1.Desc.Addr, vU32 p1.Desc.Len, vU16 p1.Desc.Flags, vU16 p1.Desc.Next]) : Option Res)], [Fact.sl SegS v8 m2]⟩ a w) [([], [61, 62, 63]), ([], [61, 62, 63]), ([59, 60], [62, 63]), ([59, 60, 61], [63]), ([59, 60, 61, 62], []), ([], [65]), ([64], [])] rfl (by kernel_rfl) ?_ (steps_cons ?_ (steps_cons ?_ (steps_cons ?_ (steps_cons ?_ (steps_cons ?_ (steps_cons ?_ (steps_cons ?_ (steps_nil)))))))) ?_
              ·intro a w hs
               exact hs.startF [180, 181, 182, 183, 184, 185, 186] [0, 1, 2, 3, 4] [0] rfl rfl rfl rfl
              ·intro L a w hv K Q hK
               have hs := hv
               refine wpOp_yes rfl rfl rfl hs (congrArg (fun b => some (Value.bool b)) hg17) (OpT_move rfl rfl rfl rfl) ?_
               rintro _ rfl a' w' hs'
               exact hK a' w' (hs'.putF (i := 12) rfl [0, 1, 2, 3, 4] [0] rfl rfl rfl rfl)
              ·intro L a w hv K Q hK
               have hs := hv
               refine wpOp_yes rfl rfl rfl hs (congrArg (fun b => some (Value.bool b)) hg17) (OpT_move rfl rfl rfl rfl) ?_
               rintro _ rfl a' w' hs'
               exact hK a' w' (hs'.putF (i := 13) rfl [0, 1, 2, 3, 4] [0] rfl rfl rfl rfl)
              ·intro L a w hv K Q hK
               have hs := hv
               refine wpOp_yes rfl rfl rfl hs (congrArg (fun b => some (Value.bool b)) hg17) (OpT_idxO rfl rfl rfl rfl rfl slF55 (i := 3) rfl hx17) ?_
               rintro _ rfl a' w' hs'
               exact hK a' w' (hs'.putF (i := 14) rfl [0, 1, 2, 3, 4] [0] rfl rfl rfl rfl)
              ·intro L a w hv K Q hK
               have hs := hv
               refine wpOp_yes rfl rfl rfl hs (congrArg (fun b => some (Value.bool b)) hg17) (OpT_fieldR (S := DescS) rfl rfl rfl rfl fldF38x2 (i := 3) rfl hx17) ?_
               rintro _ rfl a' w' hs'
               exact hK a' w' (hs'.putF (i := 15) rfl [0, 1, 2, 3, 4] [0] rfl rfl rfl rfl)
              ·intro L a w hv K Q hK
               have hs := hv
               refine wpOp_yes rfl rfl rfl hs (congrArg (fun b => some (Value.bool b)) hg17) (OpT_loadOF (S := DescS) rfl rfl rfl rfl rfl tyF36 (i := 3) rfl hx17 rfl rfl) ?_
               rintro _ rfl a' w' hs'
               exact hK a' w' (hs'.putF (i := 16) rfl [0, 1, 2, 3, 4] [0] rfl rfl rfl rfl)
              ·intro L a w hv K Q hK
               have hs := hv
               refine wpOp_yes rfl rfl rfl hs (congrArg (fun b => some (Value.bool b)) hg17) (OpT_fieldC rfl rfl rfl rfl fldF38x2) ?_
               rintro _ rfl a' w' hs'
               exact hK a' w' (hs'.putF (i := 17) rfl [0, 1, 2, 3, 4] [0] rfl rfl rfl rfl)
              ·intro L a w hv K Q hK
               have hs := hv
               refine wpOp_yes rfl rfl rfl hs (congrArg (fun b => some (Value.bool b)) hg17) (OpT_loadC rfl rfl rfl rfl tyF36 (i := 4) rfl rfl) ?_
               rintro _ rfl a' w' hs'
               exact hK a' w' (hs'.putF (i := 18) rfl [0, 1, 2, 3, 4] [0] rfl rfl rfl rfl)
              ·intro L a w hL hv
               rw [allTrue hL] at hv
               have hs := hv
               refine (show TA _ _ _ 66 ⟨[(1, some (vI (wi ((64 : Int) + pick1)))), (2, some (vI id)), (3, some (vI atp3)), (5, some (vB wrap)), (6, some (.pointer (some ⟨b1, 0, none⟩))), (13, some (v9)), (15, some (v10)), (19, some (v11)), (21, some (.func (.func 17) #[] #[.pointer (some ⟨b1, 0, none⟩)])), (22, some (vI i2)), (23, some (.pointer (some ⟨b2, 0, none⟩))), (179, some (vB (d2.Len != p1.Desc.Len))), (184, some (vU16 d3.Flags)), (186, some (vU16 p1.Desc.Flags))], [some (cellsR b1 27 [v8]), some (rowS iS v9 l1), some (rowS PutS v10 l2), some (rowS DescS v11 l3), some (cellsR b2 38 [vU64 p1.Desc.Addr, vU32 p1.Desc.Len, vU16 p1.Desc.Flags, vU16 p1.Desc.Next])], [Fact.sl SegS v8 m2]⟩ from ?_) a w (hs.wkS [1, 2, 3, 5, 6, 13, 15, 19, 21, 22, 23, 179, 184, 186] [0, 1, 2, 3, 4] [0] rfl rfl rfl rfl)
               clear hs hL
               refine TA_yes htb (by kernel_rfl) rfl rfl rfl (congrArg (fun b => some (Value.bool b)) hg17) (OpT_bin rfl rfl rfl rfl rfl (bin_neq_u16 (a := d3.Flags) (b := p1.Desc.Flags))) ?_
               rintro _ rfl
               refine TA_step htb (by kernel_rfl) rfl rfl (OpT_pickF rfl rfl rfl (congrArg (fun b => some (Value.bool b)) hg17) rfl) ?_
               refine TA_end rfl ?_
               refine Tk_wkS (fr' := [(1, some (vI (wi ((64 : Int) + pick1)))), (2, some (vI id)), (3, some (vI atp3)), (5, some (vB wrap)), (6, some (.pointer (some ⟨b1, 0, none⟩))), (13, some (v9)), (15, some (v10)), (19, some (v11)), (21, some (.func (.func 17) #[] #[.pointer (some ⟨b1, 0, none⟩)])), (22, some (vI i2)), (23, some (.pointer (some ⟨b2, 0, none⟩))), (188, some (vB (d3.Flags != p1.Desc.Flags)))]) (own' := [some (cellsR b1 27 [v8]), some (rowS iS v9 l1), some (rowS PutS v10 l2), some (rowS DescS v11 l3), some (cellsR b2 38 [vU64 p1.Desc.Addr, vU32 p1.Desc.Len, vU16 p1.Desc.Flags, vU16 p1.Desc.Next])]) (shr' := [Fact.sl SegS v8 m2]) [1, 2, 3, 5, 6, 13, 15, 19, 21, 22, 23, 188] [0, 1, 2, 3, 4] [0] rfl rfl rfl rfl ?_
               obtain ⟨hg18, h⟩ := chk_e h
               replace hg18 := not_t hg18
               refine Tk_condF (congrArg (fun b => some (Value.bool b)) hg18) ?_
               refine Tk_skip (Tk_seq (Tk_drawT (by kernel_rfl) ?_))
               refine TA_tb [0, 1, 0, 4, 15, 31, 63, 127, 255, 63, 63, 1087, 3647, 7743, 16383, 32767, 65535, 65535, 262143, 524287, 1048575, 2097151, 65535, 4259839, 16777215, 33554431, 67108863, 134217727, 268435455, 536870911, 268435455, 1342177279, 4294967295, 8589934591, 17179869183, 34359738367, 17179869183, 17179869183, 223338299391, 498216206335, 1047972020223, 2199023255551, 4398046511103, 8796093022207, 17592186044415] (by kernel_rfl) fun htb => ?_
               refine TA_wkS (fr' := [(1, some (vI (wi ((64 : Int) + pick1)))), (2, some (vI id)), (3, some (vI atp3)), (5, some (vB wrap)), (6, some (.pointer (some ⟨b1, 0, none⟩))), (13, some (v9)), (15, some (v10)), (19, some (v11)), (21, some (.func (.func 17) #[] #[.pointer (some ⟨b1, 0, none⟩)])), (22, some (vI i2)), (23, some (.pointer (some ⟨b2, 0, none⟩)))]) (own' := [some (cellsR b1 27 [v8]), some (rowS iS v9 l1), some (rowS PutS v10 l2), some (rowS DescS v11 l3), some (cellsR b2 38 [vU64 p1.Desc.Addr, vU32 p1.Desc.Len, vU16 p1.Desc.Flags, vU16 p1.Desc.Next])]) (shr' := [Fact.sl SegS v8 m2]) [1, 2, 3, 5, 6, 13, 15, 19, 21, 22, 23] [0, 1, 2, 3, 4] [0] rfl rfl rfl rfl ?_
               refine TA_seg (lo := 0) (hi := 4) htb rfl rfl (by kernel_rfl) (fun c L a w => Sat c ⟨[(1, some (vI (wi ((64 : Int) + pick1)))), (2, some (vI id)), (3, some (vI atp3)), (5, some (vB wrap)), (6, some (.pointer (some ⟨b1, 0, none⟩))), (13, some (v9)), (15, some (v10)), (19, some (v11)), (21, some (.func (.func 17) #[] #[.pointer (some ⟨b1, 0, none⟩)])), (22, some (vI i2)), (23, some (.pointer (some ⟨b2, 0, none⟩))), (189, bif L 0 then some (vI i2) else none), (190, bif L 1 then some (vI (wi (i2 + (1 : Int)))) else none), (191, bif L 2 then some (v8) else none), (192, bif L 3 then some (vI (len m2)) else none)], [(some (cellsR b1 27 [v8]) : Option Res), (some (rowS iS v9 l1) : Option Res), (some (rowS PutS v10 l2) : Option Res), (some (rowS DescS v11 l3) : Option Res), (some (cellsR b2 38 [vU64 p1.Desc.Addr, vU32 p1.Desc.Len, vU16 p1.Desc.Flags, vU16 p1.Desc.Next]) : Option Res)], [Fact.sl SegS v8 m2]⟩ a w) [([], [1]), ([0], []), ([], [3]), ([2], [])] rfl (by kernel_rfl) ?_ (steps_cons ?_ (steps_cons ?_ (steps_cons ?_ (steps_cons ?_ (steps_nil))))) ?_
               ·intro a w hs
                exact hs.startF [189, 190, 191, 192] [0, 1, 2, 3, 4] [0] rfl rfl rfl rfl
               ·intro L a w hv K Q hK
                have hs := hv
                refine wpOp_go rfl rfl hs (OpT_move rfl rfl rfl rfl) ?_
                rintro _ rfl a' w' hs'
                exact hK a' w' (hs'.putF (i := 11) rfl [0, 1, 2, 3, 4] [0] rfl rfl rfl rfl)
               ·intro L a w hv K Q hK
                have hs := hv
                refine wpOp_go rfl rfl hs (OpT_bin rfl rfl rfl rfl rfl (bin_add_i (a := i2) (b := (1 : Int)))) ?_
                rintro _ rfl a' w' hs'
                exact hK a' w' (hs'.putF (i := 12) rfl [0, 1, 2, 3, 4] [0] rfl rfl rfl rfl)
               ·intro L a w hv K Q hK
                have hs := hv
                refine wpOp_go rfl rfl hs (OpT_loadC rfl rfl rfl rfl tyF27 (i := 0) rfl rfl) ?_
                rintro _ rfl a' w' hs'
                exact hK a' w' (hs'.putF (i := 13) rfl [0, 1, 2, 3, 4] [0] rfl rfl rfl rfl)
               ·intro L a w hv K Q hK
                have hs := hv
                refine wpOp_go rfl rfl hs (OpT_lenS rfl rfl rfl rfl Try.underlying27 (i := 0) rfl) ?_
                rintro _ rfl a' w' hs'
                exact hK a' w' (hs'.putF (i := 14) rfl [0, 1, 2, 3, 4] [0] rfl rfl rfl rfl)
               ·intro L a w hL hv
                rw [allTrue hL] at hv
                have hs := hv
                refine (show TA _ _ _ 4 ⟨[(1, some (vI (wi ((64 : Int) + pick1)))), (2, some (vI id)), (3, some (vI atp3)), (5, some (vB wrap)), (6, some (.pointer (some ⟨b1, 0, none⟩))), (13, some (v9)), (15, some (v10)), (19, some (v11)), (21, some (.func (.func 17) #[] #[.pointer (some ⟨b1, 0, none⟩)])), (22, some (vI i2)), (23, some (.pointer (some ⟨b2, 0, none⟩))), (190, some (vI (wi (i2 + (1 : Int))))), (192, some (vI (len m2)))], [some (cellsR b1 27 [v8]), some (rowS iS v9 l1), some (rowS PutS v10 l2), some (rowS DescS v11 l3), some (cellsR b2 38 [vU64 p1.Desc.Addr, vU32 p1.Desc.Len, vU16 p1.Desc.Flags, vU16 p1.Desc.Next])], [Fact.sl SegS v8 m2]⟩ from ?_) a w (hs.wkS [1, 2, 3, 5, 6, 13, 15, 19, 21, 22, 23, 190, 192] [0, 1, 2, 3, 4] [0] rfl rfl rfl rfl)
                clear hs hL
                refine TA_step htb (by kernel_rfl) rfl rfl (OpT_bin rfl rfl rfl rfl rfl (bin_lss_i (a := wi (i2 + (1 : Int))) (b := len m2))) ?_
                refine TA_step htb (by kernel_rfl) rfl rfl (OpT_move rfl rfl rfl rfl) ?_
                refine TA_wkS (fr' := [(1, some (vI (wi ((64 : Int) + pick1)))), (2, some (vI id)), (3, some (vI atp3)), (5, some (vB wrap)), (6, some (.pointer (some ⟨b1, 0, none⟩))), (13, some (v9)), (15, some (v10)), (19, some (v11)), (21, some (.func (.func 17) #[] #[.pointer (some ⟨b1, 0, none⟩)])), (22, some (vI i2)), (23, some (.pointer (some ⟨b2, 0, none⟩))), (194, some (vB (decide ((wi (i2 + (1 : Int))) < (len m2)))))]) (own' := [some (cellsR b1 27 [v8]), some (rowS iS v9 l1), some (rowS PutS v10 l2), some (rowS DescS v11 l3), some (cellsR b2 38 [vU64 p1.Desc.Addr, vU32 p1.Desc.Len, vU16 p1.Desc.Flags, vU16 p1.Desc.Next])]) (shr' := [Fact.sl SegS v8 m2]) [1, 2, 3, 5, 6, 13, 15, 19, 21, 22, 23, 194] [0, 1, 2, 3, 4] [0] rfl rfl rfl rfl ?_
                rcases Bool.eq_false_or_eq_true (decide ((wi (i2 + (1 : Int))) < (len m2))) with hg19 | hg19
                ·replace h := br_t hg19 h
                 obtain ⟨y2, hx18, h⟩ := ob_e h
                 refine TA_seg (lo := 6) (hi := 14) htb rfl rfl (by kernel_rfl) (fun c L a w => Sat c ⟨[(1, some (vI (wi ((64 : Int) + pick1)))), (2, some (vI id)), (3, some (vI atp3)), (5, some (vB wrap)), (6, some (.pointer (some ⟨b1, 0, none⟩))), (13, some (v9)), (15, some (v10)), (19, some (v11)), (21, some (.func (.func 17) #[] #[.pointer (some ⟨b1, 0, none⟩)])), (22, some (vI i2)), (23, some (.pointer (some ⟨b2, 0, none⟩))), (194, some (vB (decide ((wi (i2 + (1 : Int))) < (len m2))))), (195, bif L 6 then some (.pointer (some ⟨b2, 3, none⟩)) else none), (196, bif L 7 then some (vU16 p1.Desc.Next) else none), (197, bif L 8 then some (vI (i16 p1.Desc.Next)) else none), (198, bif L 9 then some (v9) else none), (199, bif L 10 then some (vI i2) else none), (200, bif L 11 then some (vI (wi (i2 + (1 : Int)))) else none), (201, bif L 12 then some (rowPtr v9 (Int.toNat (wi (i2 + (1 : Int))) * 1)) else none), (202, bif L 13 then some (vI y2) else none)], [(some (cellsR b1 27 [v8]) : Option Res), (some (rowS iS v9 l1) : Option Res), (some (rowS PutS v10 l2) : Option Res), (some (rowS DescS v11 l3) : Option Res), (some (cellsR b2 38 [vU64 p1.Desc.Addr, vU32 p1.Desc.Len, vU16 p1.Desc.Flags, vU16 p1.Desc.Next]) : Option Res)], [Fact.sl SegS v8 m2]⟩ a w) [([], [7, 8]), ([6], [8]), ([6, 7], []), ([], [12, 13]), ([], [11, 12, 13]), ([10], [12, 13]), ([9, 10, 11], [13]), ([9, 10, 11, 12], [])] rfl (by kernel_rfl) ?_ (steps_cons ?_ (steps_cons ?_ (steps_cons ?_ (steps_cons ?_ (steps_cons ?_ (steps_cons ?_ (steps_cons ?_ (steps_cons ?_ (steps_nil))))))))) ?_
                 ·intro a w hs
                  exact hs.startF [195, 196, 197, 198, 199, 200, 201, 202] [0, 1, 2, 3, 4] [0] rfl rfl rfl rfl
                 ·intro L a w hv K Q hK
                  have hs := hv
                  refine wpOp_yes rfl rfl rfl hs (congrArg (fun b => some (Value.bool b)) hg19) (OpT_fieldC rfl rfl rfl rfl fldF38x3) ?_
                  rintro _ rfl a' w' hs'
                  exact hK a' w' (hs'.putF (i := 12) rfl [0, 1, 2, 3, 4] [0] rfl rfl rfl rfl)
                 ·intro L a w hv K Q hK
                  have hs := hv
                  refine wpOp_yes rfl rfl rfl hs (congrArg (fun b => some (Value.bool b)) hg19) (OpT_loadC rfl rfl rfl rfl tyF36 (i := 4) rfl rfl) ?_
                  rintro _ rfl a' w' hs'
                  exact hK a' w' (hs'.putF (i := 13) rfl [0, 1, 2, 3, 4] [0] rfl rfl rfl rfl)
                 ·intro L a w hv K Q hK
                  have hs := hv
                  refine wpOp_yes rfl rfl rfl hs (congrArg (fun b => some (Value.bool b)) hg19) (OpT_cnv rfl rfl rfl rfl (cnv_u16_i (n := p1.Desc.Next) Try.underlying36 Try.underlying3)) ?_
                  rintro _ rfl a' w' hs'
                  exact hK a' w' (hs'.putF (i := 14) rfl [0, 1, 2, 3, 4] [0] rfl rfl rfl rfl)
                 ·intro L a w hv K Q hK
                  have hs := hv
                  refine wpOp_yes rfl rfl rfl hs (congrArg (fun b => some (Value.bool b)) hg19) (OpT_move rfl rfl rfl rfl) ?_
                  rintro _ rfl a' w' hs'
                  exact hK a' w' (hs'.putF (i := 15) rfl [0, 1, 2, 3, 4] [0] rfl rfl rfl rfl)
                 ·intro L a w hv K Q hK
                  have hs := hv
                  refine wpOp_yes rfl rfl rfl hs (congrArg (fun b => some (Value.bool b)) hg19) (OpT_move rfl rfl rfl rfl) ?_
                  rintro _ rfl a' w' hs'
                  exact hK a' w' (hs'.putF (i := 16) rfl [0, 1, 2, 3, 4] [0] rfl rfl rfl rfl)
                 ·intro L a w hv K Q hK
                  have hs := hv
                  refine wpOp_yes rfl rfl rfl hs (congrArg (fun b => some (Value.bool b)) hg19) (OpT_bin rfl rfl rfl rfl rfl (bin_add_i (a := i2) (b := (1 : Int)))) ?_
                  rintro _ rfl a' w' hs'
                  exact hK a' w' (hs'.putF (i := 17) rfl [0, 1, 2, 3, 4] [0] rfl rfl rfl rfl)
                 ·intro L a w hv K Q hK
                  have hs := hv
                  refine wpOp_yes rfl rfl rfl hs (congrArg (fun b => some (Value.bool b)) hg19) (OpT_idxO rfl rfl rfl rfl rfl slF26 (i := 1) rfl hx18) ?_
                  rintro _ rfl a' w' hs'
                  exact hK a' w' (hs'.putF (i := 18) rfl [0, 1, 2, 3, 4] [0] rfl rfl rfl rfl)
                 ·intro L a w hv K Q hK
                  have hs := hv
                  refine wpOp_yes rfl rfl rfl hs (congrArg (fun b => some (Value.bool b)) hg19) (OpT_loadO (S := iS) rfl rfl rfl rfl rfl tyF3 (i := 1) rfl hx18 rfl rfl) ?_
                  rintro _ rfl a' w' hs'
                  exact hK a' w' (hs'.putF (i := 19) rfl [0, 1, 2, 3, 4] [0] rfl rfl rfl rfl)
                 ·intro L a w hL hv
                  rw [allTrue hL] at hv
                  have hs := hv
                  refine (show TA _ _ _ 14 ⟨[(1, some (vI (wi ((64 : Int) + pick1)))), (2, some (vI id)), (3, some (vI atp3)), (5, some (vB wrap)), (6, some (.pointer (some ⟨b1, 0, none⟩))), (13, some (v9)), (15, some (v10)), (19, some (v11)), (21, some (.func (.func 17) #[] #[.pointer (some ⟨b1, 0, none⟩)])), (22, some (vI i2)), (23, some (.pointer (some ⟨b2, 0, none⟩))), (194, some (vB (decide ((wi (i2 + (1 : Int))) < (len m2))))), (197, some (vI (i16 p1.Desc.Next))), (202, some (vI y2))], [some (cellsR b1 27 [v8]), some (rowS iS v9 l1), some (rowS PutS v10 l2), some (rowS DescS v11 l3), some (cellsR b2 38 [vU64 p1.Desc.Addr, vU32 p1.Desc.Len, vU16 p1.Desc.Flags, vU16 p1.Desc.Next])], [Fact.sl SegS v8 m2]⟩ from ?_) a w (hs.wkS [1, 2, 3, 5, 6, 13, 15, 19, 21, 22, 23, 194, 197, 202] [0, 1, 2, 3, 4] [0] rfl rfl rfl rfl)
                  clear hs hL
                  refine TA_yes htb (by kernel_rfl) rfl rfl rfl (congrArg (fun b => some (Value.bool b)) hg19) (OpT_bin rfl rfl rfl rfl rfl (bin_neq_i (a := i16 p1.Desc.Next) (b := y2))) ?_
                  rintro _ rfl
                  refine TA_yes htb (by kernel_rfl) rfl rfl rfl (congrArg (fun b => some (Value.bool b)) hg19) (OpT_move rfl rfl rfl rfl) ?_
                  rintro _ rfl
                  refine TA_wkS (fr' := [(1, some (vI (wi ((64 : Int) + pick1)))), (2, some (vI id)), (3, some (vI atp3)), (5, some (vB wrap)), (6, some (.pointer (some ⟨b1, 0, none⟩))), (13, some (v9)), (15, some (v10)), (19, some (v11)), (21, some (.func (.func 17) #[] #[.pointer (some ⟨b1, 0, none⟩)])), (22, some (vI i2)), (23, some (.pointer (some ⟨b2, 0, none⟩))), (194, some (vB (decide ((wi (i2 + (1 : Int))) < (len m2))))), (204, some (vB ((i16 p1.Desc.Next) != y2)))]) (own' := [some (cellsR b1 27 [v8]), some (rowS iS v9 l1), some (rowS PutS v10 l2), some (rowS DescS v11 l3), some (cellsR b2 38 [vU64 p1.Desc.Addr, vU32 p1.Desc.Len, vU16 p1.Desc.Flags, vU16 p1.Desc.Next])]) (shr' := [Fact.sl SegS v8 m2]) [1, 2, 3, 5, 6, 13, 15, 19, 21, 22, 23, 194, 204] [0, 1, 2, 3, 4] [0] rfl rfl rfl rfl ?_
                  obtain ⟨hg20, h⟩ := chk_e h
                  replace hg20 := not_t hg20
                  obtain ⟨d4, hx19, h⟩ := ob_e h
                  refine TA_seg (lo := 16) (hi := 24) htb rfl rfl (by kernel_rfl) (fun c L a w => Sat c ⟨[(1, some (vI (wi ((64 : Int) + pick1)))), (2, some (vI id)), (3, some (vI atp3)), (5, some (vB wrap)), (6, some (.pointer (some ⟨b1, 0, none⟩))), (13, some (v9)), (15, some (v10)), (19, some (v11)), (21, some (.func (.func 17) #[] #[.pointer (some ⟨b1, 0, none⟩)])), (22, some (vI i2)), (23, some (.pointer (some ⟨b2, 0, none⟩))), (194, some (vB (decide ((wi (i2 + (1 : Int))) < (len m2))))), (204, some (vB ((i16 p1.Desc.Next) != y2))), (205, bif L 16 then some (v11) else none), (206, bif L 17 then some (vI i2) else none), (207, bif L 18 then some (rowPtr v11 (Int.toNat i2 * 4)) else none), (208, bif L 19 then some (rowPtr v11 (Int.toNat i2 * 4 + 3)) else none), (209, bif L 20 then some (vU16 d4.Next) else none), (210, bif L 21 then some (vI (i16 d4.Next)) else none), (211, bif L 22 then some (vI i2) else none), (212, bif L 23 then some (vI (wi (i2 + (1 : Int)))) else none)], [(some (cellsR b1 27 [v8]) : Option Res), (some (rowS iS v9 l1) : Option Res), (some (rowS PutS v10 l2) : Option Res), (some (rowS DescS v11 l3) : Option Res), (some (cellsR b2 38 [vU64 p1.Desc.Addr, vU32 p1.Desc.Len, vU16 p1.Desc.Flags, vU16 p1.Desc.Next]) : Option Res)], [Fact.sl SegS v8 m2]⟩ a w) [([], [18, 19, 20, 21]), ([], [18, 19, 20, 21]), ([16, 17], [19, 20, 21]), ([16, 17, 18], [20, 21]), ([16, 17, 18, 19], [21]), ([16, 17, 18, 19, 20], []), ([], [23]), ([22], [])] rfl (by kernel_rfl) ?_ (steps_cons ?_ (steps_cons ?_ (steps_cons ?_ (steps_cons ?_ (steps_cons ?_ (steps_cons ?_ (steps_cons ?_ (steps_cons ?_ (steps_nil))))))))) ?_
                  ·intro a w hs
                   exact hs.startF [205, 206, 207, 208, 209, 210, 211, 212] [0, 1, 2, 3, 4] [0] rfl rfl rfl rfl
                  ·intro L a w hv K Q hK
                   have hs := hv
                   refine wpOp_yes rfl rfl rfl hs (congrArg (fun b => some (Value.bool b)) hg20) (OpT_move rfl rfl rfl rfl) ?_
                   rintro _ rfl a' w' hs'
                   exact hK a' w' (hs'.putF (i := 13) rfl [0, 1, 2, 3, 4] [0] rfl rfl rfl rfl)
                  ·intro L a w hv K Q hK
                   have hs := hv
                   refine wpOp_yes rfl rfl rfl hs (congrArg (fun b => some (Value.bool b)) hg20) (OpT_move rfl rfl rfl rfl) ?_
                   rintro _ rfl a' w' hs'
                   exact hK a' w' (hs'.putF (i := 14) rfl [0, 1, 2, 3, 4] [0] rfl rfl rfl rfl)
                  ·intro L a w hv K Q hK
                   have hs := hv
                   refine wpOp_yes rfl rfl rfl hs (congrArg (fun b => some (Value.bool b)) hg20) (OpT_idxO rfl rfl rfl rfl rfl slF55 (i := 3) rfl hx19) ?_
                   rintro _ rfl a' w' hs'
                   exact hK a' w' (hs'.putF (i := 15) rfl [0, 1, 2, 3, 4] [0] rfl rfl rfl rfl)
                  ·intro L a w hv K Q hK
                   have hs := hv
                   refine wpOp_yes rfl rfl rfl hs (congrArg (fun b => some (Value.bool b)) hg20) (OpT_fieldR (S := DescS) rfl rfl rfl rfl fldF38x3 (i := 3) rfl hx19) ?_
                   rintro _ rfl a' w' hs'
                   exact hK a' w' (hs'.putF (i := 16) rfl [0, 1, 2, 3, 4] [0] rfl rfl rfl rfl)
                  ·intro L a w hv K Q hK
                   have hs := hv
                   refine wpOp_yes rfl rfl rfl hs (congrArg (fun b => some (Value.bool b)) hg20) (OpT_loadOF (S := DescS) rfl rfl rfl rfl rfl tyF36 (i := 3) rfl hx19 rfl rfl) ?_
                   rintro _ rfl a' w' hs'
                   exact hK a' w' (hs'.putF (i := 17) rfl [0, 1, 2, 3, 4] [0] rfl rfl rfl rfl)
                  ·intro L a w hv K Q hK
                   have hs := hv
                   refine wpOp_yes rfl rfl rfl hs (congrArg (fun b => some (Value.bool b)) hg20) (OpT_cnv rfl rfl rfl rfl (cnv_u16_i (n := d4.Next) Try.underlying36 Try.underlying3)) ?_
                   rintro _ rfl a' w' hs'
                   exact hK a' w' (hs'.putF (i := 18) rfl [0, 1, 2, 3, 4] [0] rfl rfl rfl rfl)
                  ·intro L a w hv K Q hK
                   have hs := hv
                   refine wpOp_yes rfl rfl rfl hs (congrArg (fun b => some (Value.bool b)) hg20) (OpT_move rfl rfl rfl rfl) ?_
                   rintro _ rfl a' w' hs'
                   exact hK a' w' (hs'.putF (i := 19) rfl [0, 1, 2, 3, 4] [0] rfl rfl rfl rfl)
                  ·intro L a w hv K Q hK
                   have hs := hv
                   refine wpOp_yes rfl rfl rfl hs (congrArg (fun b => some (Value.bool b)) hg20) (OpT_bin rfl rfl rfl rfl rfl (bin_add_i (a := i2) (b := (1 : Int)))) ?_
                   rintro _ rfl a' w' hs'
                   exact hK a' w' (hs'.putF (i := 20) rfl [0, 1, 2, 3, 4] [0] rfl rfl rfl rfl)
                  ·intro L a w hL hv
                   rw [allTrue hL] at hv
                   have hs := hv
                   refine (show TA _ _ _ 24 ⟨[(1, some (vI (wi ((64 : Int) + pick1)))), (2, some (vI id)), (3, some (vI atp3)), (5, some (vB wrap)), (6, some (.pointer (some ⟨b1, 0, none⟩))), (13, some (v9)), (15, some (v10)), (19, some (v11)), (21, some (.func (.func 17) #[] #[.pointer (some ⟨b1, 0, none⟩)])), (22, some (vI i2)), (23, some (.pointer (some ⟨b2, 0, none⟩))), (194, some (vB (decide ((wi (i2 + (1 : Int))) < (len m2))))), (204, some (vB ((i16 p1.Desc.Next) != y2))), (210, some (vI (i16 d4.Next))), (212, some (vI (wi (i2 + (1 : Int)))))], [some (cellsR b1 27 [v8]), some (rowS iS v9 l1), some (rowS PutS v10 l2), some (rowS DescS v11 l3), some (cellsR b2 38 [vU64 p1.Desc.Addr, vU32 p1.Desc.Len, vU16 p1.Desc.Flags, vU16 p1.Desc.Next])], [Fact.sl SegS v8 m2]⟩ from ?_) a w (hs.wkS [1, 2, 3, 5, 6, 13, 15, 19, 21, 22, 23, 194, 204, 210, 212] [0, 1, 2, 3, 4] [0] rfl rfl rfl rfl)
                   clear hs hL
                   refine TA_yes htb (by kernel_rfl) rfl rfl rfl (congrArg (fun b => some (Value.bool b)) hg20) (OpT_bin rfl rfl rfl rfl rfl (bin_neq_i (a := i16 d4.Next) (b := wi (i2 + (1 : Int))))) ?_
                   rintro _ rfl
                   refine TA_yes htb (by kernel_rfl) rfl rfl rfl (congrArg (fun b => some (Value.bool b)) hg19) (OpT_pickF rfl rfl rfl (congrArg (fun b => some (Value.bool b)) hg20) rfl) ?_
                   rintro _ rfl
                   refine TA_step htb (by kernel_rfl) rfl rfl (OpT_pickT rfl rfl rfl (congrArg (fun b => some (Value.bool b)) hg19) rfl) ?_
                   refine TA_step htb (by kernel_rfl) rfl rfl (OpT_move rfl rfl rfl rfl) ?_
                   refine TA_wkS (fr' := [(1, some (vI (wi ((64 : Int) + pick1)))), (2, some (vI id)), (3, some (vI atp3)), (5, some (vB wrap)), (6, some (.pointer (some ⟨b1, 0, none⟩))), (13, some (v9)), (15, some (v10)), (19, some (v11)), (21, some (.func (.func 17) #[] #[.pointer (some ⟨b1, 0, none⟩)])), (22, some (vI i2)), (23, some (.pointer (some ⟨b2, 0, none⟩))), (216, some (vB ((i16 d4.Next) != (wi (i2 + (1 : Int))))))]) (own' := [some (cellsR b1 27 [v8]), some (rowS iS v9 l1), some (rowS PutS v10 l2), some (rowS DescS v11 l3), some (cellsR b2 38 [vU64 p1.Desc.Addr, vU32 p1.Desc.Len, vU16 p1.Desc.Flags, vU16 p1.Desc.Next])]) (shr' := [Fact.sl SegS v8 m2]) [1, 2, 3, 5, 6, 13, 15, 19, 21, 22, 23, 216] [0, 1, 2, 3, 4] [0] rfl rfl rfl rfl ?_
                   obtain ⟨hg21, h⟩ := chk_e h
                   replace hg21 := not_t hg21
                   refine TA_seg (lo := 28) (hi := 32) htb rfl rfl (by kernel_rfl) (fun c L a w => Sat c ⟨[(1, some (vI (wi ((64 : Int) + pick1)))), (2, some (vI id)), (3, some (vI atp3)), (5, some (vB wrap)), (6, some (.pointer (some ⟨b1, 0, none⟩))), (13, some (v9)), (15, some (v10)), (19, some (v11)), (21, some (.func (.func 17) #[] #[.pointer (some ⟨b1, 0, none⟩)])), (22, some (vI i2)), (23, some (.pointer (some ⟨b2, 0, none⟩))), (216, some (vB ((i16 d4.Next) != (wi (i2 + (1 : Int)))))), (217, bif L 28 then some (vI i2) else none), (218, bif L 29 then some (vI (wi (i2 + (1 : Int)))) else none), (219, bif L 30 then some (v8) else none), (220, bif L 31 then some (vI (len m2)) else none)], [(some (cellsR b1 27 [v8]) : Option Res), (some (rowS iS v9 l1) : Option Res), (some (rowS PutS v10 l2) : Option Res), (some (rowS DescS v11 l3) : Option Res), (some (cellsR b2 38 [vU64 p1.Desc.Addr, vU32 p1.Desc.Len, vU16 p1.Desc.Flags, vU16 p1.Desc.Next]) : Option Res)], [Fact.sl SegS v8 m2]⟩ a w) [([], [29]), ([28], []), ([], [31]), ([30], [])] rfl (by kernel_rfl) ?_ (steps_cons ?_ (steps_cons ?_ (steps_cons ?_ (steps_cons ?_ (steps_nil))))) ?_
                   ·intro a w hs
                    exact hs.startF [217, 218, 219, 220] [0, 1, 2, 3, 4] [0] rfl rfl rfl rfl
                   ·intro L a w hv K Q hK
                    have hs := hv
                    refine wpOp_yes rfl rfl rfl hs (congrArg (fun b => some (Value.bool b)) hg21) (OpT_move rfl rfl rfl rfl) ?_
                    rintro _ rfl a' w' hs'
                    exact hK a' w' (hs'.putF (i := 12) rfl [0, 1, 2, 3, 4] [0] rfl rfl rfl rfl)
                   ·intro L a w hv K Q hK
                    have hs := hv
                    refine wpOp_yes rfl rfl rfl hs (congrArg (fun b => some (Value.bool b)) hg21) (OpT_bin rfl rfl rfl rfl rfl (bin_add_i (a := i2) (b := (1 : Int)))) ?_
                    rintro _ rfl a' w' hs'
                    exact hK a' w' (hs'.putF (i := 13) rfl [0, 1, 2, 3, 4] [0] rfl rfl rfl rfl)
                   ·intro L a w hv K Q hK
                    have hs := hv
                    refine wpOp_yes rfl rfl rfl hs (congrArg (fun b => some (Value.bool b)) hg21) (OpT_loadC rfl rfl rfl rfl tyF27 (i := 0) rfl rfl) ?_
                    rintro _ rfl a' w' hs'
                    exact hK a' w' (hs'.putF (i := 14) rfl [0, 1, 2, 3, 4] [0] rfl rfl rfl rfl)
                   ·intro L a w hv K Q hK
                    have hs := hv
                    refine wpOp_yes rfl rfl rfl hs (congrArg (fun b => some (Value.bool b)) hg21) (OpT_lenS rfl rfl rfl rfl Try.underlying27 (i := 0) rfl) ?_
                    rintro _ rfl a' w' hs'
                    exact hK a' w' (hs'.putF (i := 15) rfl [0, 1, 2, 3, 4] [0] rfl rfl rfl rfl)
                   ·intro L a w hL hv
                    rw [allTrue hL] at hv
                    have hs := hv
                    refine (show TA _ _ _ 32 ⟨[(1, some (vI (wi ((64 : Int) + pick1)))), (2, some (vI id)), (3, some (vI atp3)), (5, some (vB wrap)), (6, some (.pointer (some ⟨b1, 0, none⟩))), (13, some (v9)), (15, some (v10)), (19, some (v11)), (21, some (.func (.func 17) #[] #[.pointer (some ⟨b1, 0, none⟩)])), (22, some (vI i2)), (23, some (.pointer (some ⟨b2, 0, none⟩))), (216, some (vB ((i16 d4.Next) != (wi (i2 + (1 : Int)))))), (218, some (vI (wi (i2 + (1 : Int))))), (220, some (vI (len m2)))], [some (cellsR b1 27 [v8]), some (rowS iS v9 l1), some (rowS PutS v10 l2), some (rowS DescS v11 l3), some (cellsR b2 38 [vU64 p1.Desc.Addr, vU32 p1.Desc.Len, vU16 p1.Desc.Flags, vU16 p1.Desc.Next])], [Fact.sl SegS v8 m2]⟩ from ?_) a w (hs.wkS [1, 2, 3, 5, 6, 13, 15, 19, 21, 22, 23, 216, 218, 220] [0, 1, 2, 3, 4] [0] rfl rfl rfl rfl)
                    clear hs hL
                    refine TA_yes htb (by kernel_rfl) rfl rfl rfl (congrArg (fun b => some (Value.bool b)) hg21) (OpT_bin rfl rfl rfl rfl rfl (bin_eql_i (a := wi (i2 + (1 : Int))) (b := len m2))) ?_
                    rintro _ rfl
                    refine TA_yes htb (by kernel_rfl) rfl rfl rfl (congrArg (fun b => some (Value.bool b)) hg21) (OpT_move rfl rfl rfl rfl) ?_
                    rintro _ rfl
                    refine TA_wkS (fr' := [(1, some (vI (wi ((64 : Int) + pick1)))), (2, some (vI id)), (3, some (vI atp3)), (5, some (vB wrap)), (6, some (.pointer (some ⟨b1, 0, none⟩))), (13, some (v9)), (15, some (v10)), (19, some (v11)), (21, some (.func (.func 17) #[] #[.pointer (some ⟨b1, 0, none⟩)])), (22, some (vI i2)), (23, some (.pointer (some ⟨b2, 0, none⟩))), (216, some (vB ((i16 d4.Next) != (wi (i2 + (1 : Int)))))), (222, some (vB ((wi (i2 + (1 : Int))) == (len m2))))]) (own' := [some (cellsR b1 27 [v8]), some (rowS iS v9 l1), some (rowS PutS v10 l2), some (rowS DescS v11 l3), some (cellsR b2 38 [vU64 p1.Desc.Addr, vU32 p1.Desc.Len, vU16 p1.Desc.Flags, vU16 p1.Desc.Next])]) (shr' := [Fact.sl SegS v8 m2]) [1, 2, 3, 5, 6, 13, 15, 19, 21, 22, 23, 216, 222] [0, 1, 2, 3, 4] [0] rfl rfl rfl rfl ?_
                    rcases Bool.eq_false_or_eq_true ((wi (i2 + (1 : Int))) == (len m2)) with hg22 | hg22
                    ·replace h := br_t hg22 h
                     obtain ⟨d5, hx20, h⟩ := ob_e h
                     refine TA_seg (lo := 34) (hi := 41) htb rfl rfl (by kernel_rfl) (fun c L a w => Sat c ⟨[(1, some (vI (wi ((64 : Int) + pick1)))), (2, some (vI id)), (3, some (vI atp3)), (5, some (vB wrap)), (6, some (.pointer (some ⟨b1, 0, none⟩))), (13, some (v9)), (15, some (v10)), (19, some (v11)), (21, some (.func (.func 17) #[] #[.pointer (some ⟨b1, 0, none⟩)])), (22, some (vI i2)), (23, some (.pointer (some ⟨b2, 0, none⟩))), (216, some (vB ((i16 d4.Next) != (wi (i2 + (1 : Int)))))), (222, some (vB ((wi (i2 + (1 : Int))) == (len m2)))), (223, bif L 34 then some (.pointer (some ⟨b2, 3, none⟩)) else none), (224, bif L 35 then some (vU16 p1.Desc.Next) else none), (225, bif L 36 then some (v11) else none), (226, bif L 37 then some (vI i2) else none), (227, bif L 38 then some (rowPtr v11 (Int.toNat i2 * 4)) else none), (228, bif L 39 then some (rowPtr v11 (Int.toNat i2 * 4 + 3)) else none), (229, bif L 40 then some (vU16 d5.Next) else none)], [(some (cellsR b1 27 [v8]) : Option Res), (some (rowS iS v9 l1) : Option Res), (some (rowS PutS v10 l2) : Option Res), (some (rowS DescS v11 l3) : Option Res), (some (cellsR b2 38 [vU64 p1.Desc.Addr, vU32 p1.Desc.Len, vU16 p1.Desc.Flags, vU16 p1.Desc.Next]) : Option Res)], [Fact.sl SegS v8 m2]⟩ a w) [([], [35]), ([34], []), ([], [38, 39, 40]), ([], [38, 39, 40]), ([36, 37], [39, 40]), ([36, 37, 38], [40]), ([36, 37, 38, 39], [])] rfl (by kernel_rfl) ?_ (steps_cons ?_ (steps_cons ?_ (steps_cons ?_ (steps_cons ?_ (steps_cons ?_ (steps_cons ?_ (steps_cons ?_ (steps_nil)))))))) ?_
                     ·intro a w hs
                      exact hs.startF [223, 224, 225, 226, 227, 228, 229] [0, 1, 2, 3, 4] [0] rfl rfl rfl rfl
                     ·intro L a w hv K Q hK
                      have hs := hv
                      refine wpOp_yes rfl rfl rfl hs (congrArg (fun b => some (Value.bool b)) hg22) (OpT_fieldC rfl rfl rfl rfl fldF38x3) ?_
                      rintro _ rfl a' w' hs'
                      exact hK a' w' (hs'.putF (i := 13) rfl [0, 1, 2, 3, 4] [0] rfl rfl rfl rfl)
                     ·intro L a w hv K Q hK
                      have hs := hv
                      refine wpOp_yes rfl rfl rfl hs (congrArg (fun b => some (Value.bool b)) hg22) (OpT_loadC rfl rfl rfl rfl tyF36 (i := 4) rfl rfl) ?_
                      rintro _ rfl a' w' hs'
                      exact hK a' w' (hs'.putF (i := 14) rfl [0, 1, 2, 3, 4] [0] rfl rfl rfl rfl)
                     ·intro L a w hv K Q hK
                      have hs := hv
                      refine wpOp_yes rfl rfl rfl hs (congrArg (fun b => some (Value.bool b)) hg22) (OpT_move rfl rfl rfl rfl) ?_
                      rintro _ rfl a' w' hs'
                      exact hK a' w' (hs'.putF (i := 15) rfl [0, 1, 2, 3, 4] [0] rfl rfl rfl rfl)
                     ·intro L a w hv K Q hK
                      have hs := hv
                      refine wpOp_yes rfl rfl rfl hs (congrArg (fun b => some (Value.bool b)) hg22) (OpT_move rfl rfl rfl rfl) ?_
                      rintro _ rfl a' w' hs'
                      exact hK a' w' (hs'.putF (i := 16) rfl [0, 1, 2, 3, 4] [0] rfl rfl rfl rfl)
                     ·intro L a w hv K Q hK
                      have hs := hv
                      refine wpOp_yes rfl rfl rfl hs (congrArg (fun b => some (Value.bool b)) hg22) (OpT_idxO rfl rfl rfl rfl rfl slF55 (i := 3) rfl hx20) ?_
                      rintro _ rfl a' w' hs'
                      exact hK a' w' (hs'.putF (i := 17) rfl [0, 1, 2, 3, 4] [0] rfl rfl rfl rfl)
                     ·intro L a w hv K Q hK
                      have hs := hv
                      refine wpOp_yes rfl rfl rfl hs (congrArg (fun b => some (Value.bool b)) hg22) (OpT_fieldR (S := DescS) rfl rfl rfl rfl fldF38x3 (i := 3) rfl hx20) ?_
                      rintro _ rfl a' w' hs'
                      exact hK a' w' (hs'.putF (i := 18) rfl [0, 1, 2, 3, 4] [0] rfl rfl rfl rfl)
                     ·intro L a w hv K Q hK
                      have hs := hv
                      refine wpOp_yes rfl rfl rfl hs (congrArg (fun b => some (Value.bool b)) hg22) (OpT_loadOF (S := DescS) rfl rfl rfl rfl rfl tyF36 (i := 3) rfl hx20 rfl rfl) ?_
                      rintro _ rfl a' w' hs'
                      exact hK a' w' (hs'.putF (i := 19) rfl [0, 1, 2, 3, 4] [0] rfl rfl rfl rfl)
                     ·intro L a w hL hv
                      rw [allTrue hL] at hv
                      have hs := hv
                      refine (show TA _ _ _ 41 ⟨[(1, some (vI (wi ((64 : Int) + pick1)))), (2, some (vI id)), (3, some (vI atp3)), (5, some (vB wrap)), (6, some (.pointer (some ⟨b1, 0, none⟩))), (13, some (v9)), (15, some (v10)), (19, some (v11)), (21, some (.func (.func 17) #[] #[.pointer (some ⟨b1, 0, none⟩)])), (22, some (vI i2)), (216, some (vB ((i16 d4.Next) != (wi (i2 + (1 : Int)))))), (222, some (vB ((wi (i2 + (1 : Int))) == (len m2)))), (224, some (vU16 p1.Desc.Next)), (229, some (vU16 d5.Next))], [some (cellsR b1 27 [v8]), some (rowS iS v9 l1), some (rowS PutS v10 l2), some (rowS DescS v11 l3)], [Fact.sl SegS v8 m2]⟩ from ?_) a w (hs.wkS [1, 2, 3, 5, 6, 13, 15, 19, 21, 22, 216, 222, 224, 229] [0, 1, 2, 3] [0] rfl rfl rfl rfl)
                      clear hs hL
                      refine TA_yes htb (by kernel_rfl) rfl rfl rfl (congrArg (fun b => some (Value.bool b)) hg22) (OpT_bin rfl rfl rfl rfl rfl (bin_add_u16 (a := p1.Desc.Next) (b := d5.Next))) ?_
                      rintro _ rfl
                      refine TA_yes htb (by kernel_rfl) rfl rfl rfl (congrArg (fun b => some (Value.bool b)) hg22) (OpT_bin rfl rfl rfl rfl rfl (bin_neq_u16 (a := p1.Desc.Next + d5.Next) (b := (0 : UInt16)))) ?_
                      rintro _ rfl
                      refine TA_yes htb (by kernel_rfl) rfl rfl rfl (congrArg (fun b => some (Value.bool b)) hg21) (OpT_pickT rfl rfl rfl (congrArg (fun b => some (Value.bool b)) hg22) rfl) ?_
                      rintro _ rfl
                      refine TA_step htb (by kernel_rfl) rfl rfl (OpT_pickF rfl rfl rfl (congrArg (fun b => some (Value.bool b)) hg21) rfl) ?_
                      refine TA_end rfl ?_
                      refine Tk_wkS (fr' := [(1, some (vI (wi ((64 : Int) + pick1)))), (2, some (vI id)), (3, some (vI atp3)), (5, some (vB wrap)), (6, some (.pointer (some ⟨b1, 0, none⟩))), (13, some (v9)), (15, some (v10)), (19, some (v11)), (21, some (.func (.func 17) #[] #[.pointer (some ⟨b1, 0, none⟩)])), (22, some (vI i2)), (233, some (vB ((p1.Desc.Next + d5.Next) != (0 : UInt16))))]) (own' := [some (cellsR b1 27 [v8]), some (rowS iS v9 l1), some (rowS PutS v10 l2), some (rowS DescS v11 l3)]) (shr' := [Fact.sl SegS v8 m2]) [1, 2, 3, 5, 6, 13, 15, 19, 21, 22, 233] [0, 1, 2, 3] [0] rfl rfl rfl rfl ?_
                      obtain ⟨hg23, h⟩ := chk_e h
                      replace hg23 := not_t hg23
                      refine Tk_condF (congrArg (fun b => some (Value.bool b)) hg23) ?_
                      refine Tk_skip (Tk_blk (Tk_region (Tops_step rfl (OpT_move rfl rfl rfl rfl) ?_)))
                      refine Tops_step rfl (OpT_bin rfl rfl rfl rfl rfl (bin_add_i (a := i2) (b := (1 : Int)))) ?_
                      refine Tops_step rfl (OpT_assign rfl rfl rfl rfl) ?_
                      refine Tops_nil (Tk_wkS (fr' := [(1, some (vI (wi ((64 : Int) + pick1)))), (2, some (vI id)), (3, some (vI atp3)), (5, some (vB wrap)), (6, some (.pointer (some ⟨b1, 0, none⟩))), (13, some (v9)), (15, some (v10)), (19, some (v11)), (21, some (.func (.func 17) #[] #[.pointer (some ⟨b1, 0, none⟩)])), (22, some (vI (wi (i2 + (1 : Int)))))]) (own' := [some (cellsR b1 27 [v8]), some (rowS iS v9 l1), some (rowS PutS v10 l2), some (rowS DescS v11 l3)]) (shr' := [Fact.sl SegS v8 m2]) [1, 2, 3, 5, 6, 13, 15, 19, 21, 22] [0, 1, 2, 3] [0] rfl rfl rfl rfl ?_)
                      exact Tk_backS (m2, l1, l2, l3, wi (i2 + (1 : Int)), v8, v9, v10, v11) h [1, 2, 3, 5, 6, 13, 15, 19, 21, 22] [0, 1, 2, 3] [0] rfl rfl rfl rfl rfl
                    ·replace h := br_f hg22 h
                     refine TA_seg (lo := 34) (hi := 41) htb rfl rfl (by kernel_rfl) (fun c L a w => Sat c ⟨[(1, some (vI (wi ((64 : Int) + pick1)))), (2, some (vI id)), (3, some (vI atp3)), (5, some (vB wrap)), (6, some (.pointer (some ⟨b1, 0, none⟩))), (13, some (v9)), (15, some (v10)), (19, some (v11)), (21, some (.func (.func 17) #[] #[.pointer (some ⟨b1, 0, none⟩)])), (22, some (vI i2)), (23, some (.pointer (some ⟨b2, 0, none⟩))), (216, some (vB ((i16 d4.Next) != (wi (i2 + (1 : Int)))))), (222, some (vB ((wi (i2 + (1 : Int))) == (len m2)))), (223, bif L 34 then some (undef) else none), (224, bif L 35 then some (undef) else none), (225, bif L 36 then some (undef) else none), (226, bif L 37 then some (undef) else none), (227, bif L 38 then some (undef) else none), (228, bif L 39 then some (undef) else none), (229, bif L 40 then some (undef) else none)], [(some (cellsR b1 27 [v8]) : Option Res), (some (rowS iS v9 l1) : Option Res), (some (rowS PutS v10 l2) : Option Res), (some (rowS DescS v11 l3) : Option Res), (some (cellsR b2 38 [vU64 p1.Desc.Addr, vU32 p1.Desc.Len, vU16 p1.Desc.Flags, vU16 p1.Desc.Next]) : Option Res)], [Fact.sl SegS v8 m2]⟩ a w) [([], [35]), ([34], []), ([], [38, 39, 40]), ([], [38, 39, 40]), ([36, 37], [39, 40]), ([36, 37, 38], [40]), ([36, 37, 38, 39], [])] rfl (by kernel_rfl) ?_ (steps_cons ?_ (steps_cons ?_ (steps_cons ?_ (steps_cons ?_ (steps_cons ?_ (steps_cons ?_ (steps_cons ?_ (steps_nil)))))))) ?_
                     ·intro a w hs
                      exact hs.startF [223, 224, 225, 226, 227, 228, 229] [0, 1, 2, 3, 4] [0] rfl rfl rfl rfl
                     ·intro L a w hv K Q hK
                      have hs := hv
                      refine wpOp_no rfl rfl rfl hs (congrArg (fun b => some (Value.bool b)) hg22) rfl rfl ?_
                      intro a' w' hs'
                      exact hK a' w' (hs'.putF (i := 13) rfl [0, 1, 2, 3, 4] [0] rfl rfl rfl rfl)
                     ·intro L a w hv K Q hK
                      have hs := hv
                      refine wpOp_no rfl rfl rfl hs (congrArg (fun b => some (Value.bool b)) hg22) rfl rfl ?_
                      intro a' w' hs'
                      exact hK a' w' (hs'.putF (i := 14) rfl [0, 1, 2, 3, 4] [0] rfl rfl rfl rfl)
                     ·intro L a w hv K Q hK
                      have hs := hv
                      refine wpOp_no rfl rfl rfl hs (congrArg (fun b => some (Value.bool b)) hg22) rfl rfl ?_
                      intro a' w' hs'
                      exact hK a' w' (hs'.putF (i := 15) rfl [0, 1, 2, 3, 4] [0] rfl rfl rfl rfl)
                     ·intro L a w hv K Q hK
                      have hs := hv
                      refine wpOp_no rfl rfl rfl hs (congrArg (fun b => some (Value.bool b)) hg22) rfl rfl ?_
                      intro a' w' hs'
                      exact hK a' w' (hs'.putF (i := 16) rfl [0, 1, 2, 3, 4] [0] rfl rfl rfl rfl)
                     ·intro L a w hv K Q hK
                      have hs := hv
                      refine wpOp_no rfl rfl rfl hs (congrArg (fun b => some (Value.bool b)) hg22) rfl rfl ?_
                      intro a' w' hs'
                      exact hK a' w' (hs'.putF (i := 17) rfl [0, 1, 2, 3, 4] [0] rfl rfl rfl rfl)
                     ·intro L a w hv K Q hK
                      have hs := hv
                      refine wpOp_no rfl rfl rfl hs (congrArg (fun b => some (Value.bool b)) hg22) rfl rfl ?_
                      intro a' w' hs'
                      exact hK a' w' (hs'.putF (i := 18) rfl [0, 1, 2, 3, 4] [0] rfl rfl rfl rfl)
                     ·intro L a w hv K Q hK
                      have hs := hv
                      refine wpOp_no rfl rfl rfl hs (congrArg (fun b => some (Value.bool b)) hg22) rfl rfl ?_
                      intro a' w' hs'
                      exact hK a' w' (hs'.putF (i := 19) rfl [0, 1, 2, 3, 4] [0] rfl rfl rfl rfl)
                     ·intro L a w hL hv
                      rw [allTrue hL] at hv
                      have hs := hv
                      refine (show TA _ _ _ 41 ⟨[(1, some (vI (wi ((64 : Int) + pick1)))), (2, some (vI id)), (3, some (vI atp3)), (5, some (vB wrap)), (6, some (.pointer (some ⟨b1, 0, none⟩))), (13, some (v9)), (15, some (v10)), (19, some (v11)), (21, some (.func (.func 17) #[] #[.pointer (some ⟨b1, 0, none⟩)])), (22, some (vI i2)), (216, some (vB ((i16 d4.Next) != (wi (i2 + (1 : Int)))))), (222, some (vB ((wi (i2 + (1 : Int))) == (len m2)))), (224, some (undef)), (229, some (undef))], [some (cellsR b1 27 [v8]), some (rowS iS v9 l1), some (rowS PutS v10 l2), some (rowS DescS v11 l3)], [Fact.sl SegS v8 m2]⟩ from ?_) a w (hs.wkS [1, 2, 3, 5, 6, 13, 15, 19, 21, 22, 216, 222, 224, 229] [0, 1, 2, 3] [0] rfl rfl rfl rfl)
                      clear hs hL
                      refine TA_no htb (by kernel_rfl) rfl rfl rfl (congrArg (fun b => some (Value.bool b)) hg22) rfl rfl ?_
                      refine TA_no htb (by kernel_rfl) rfl rfl rfl (congrArg (fun b => some (Value.bool b)) hg22) rfl rfl ?_
                      refine TA_yes htb (by kernel_rfl) rfl rfl rfl (congrArg (fun b => some (Value.bool b)) hg21) (OpT_pickF rfl rfl rfl (congrArg (fun b => some (Value.bool b)) hg22) rfl) ?_
                      rintro _ rfl
                      refine TA_step htb (by kernel_rfl) rfl rfl (OpT_pickF rfl rfl rfl (congrArg (fun b => some (Value.bool b)) hg21) rfl) ?_
                      refine TA_end rfl ?_
                      refine Tk_wkS (fr' := [(1, some (vI (wi ((64 : Int) + pick1)))), (2, some (vI id)), (3, some (vI atp3)), (5, some (vB wrap)), (6, some (.pointer (some ⟨b1, 0, none⟩))), (13, some (v9)), (15, some (v10)), (19, some (v11)), (21, some (.func (.func 17) #[] #[.pointer (some ⟨b1, 0, none⟩)])), (22, some (vI i2)), (233, some (vB false))]) (own' := [some (cellsR b1 27 [v8]), some (rowS iS v9 l1), some (rowS PutS v10 l2), some (rowS DescS v11 l3)]) (shr' := [Fact.sl SegS v8 m2]) [1, 2, 3, 5, 6, 13, 15, 19, 21, 22, 233] [0, 1, 2, 3] [0] rfl rfl rfl rfl ?_
                      refine Tk_condF rfl ?_
                      refine Tk_skip (Tk_blk (Tk_region (Tops_step rfl (OpT_move rfl rfl rfl rfl) ?_)))
                      refine Tops_step rfl (OpT_bin rfl rfl rfl rfl rfl (bin_add_i (a := i2) (b := (1 : Int)))) ?_
                      refine Tops_step rfl (OpT_assign rfl rfl rfl rfl) ?_
                      refine Tops_nil (Tk_wkS (fr' := [(1, some (vI (wi ((64 : Int) + pick1)))), (2, some (vI id)), (3, some (vI atp3)), (5, some (vB wrap)), (6, some (.pointer (some ⟨b1, 0, none⟩))), (13, some (v9)), (15, some (v10)), (19, some (v11)), (21, some (.func (.func 17) #[] #[.pointer (some ⟨b1, 0, none⟩)])), (22, some (vI (wi (i2 + (1 : Int)))))]) (own' := [some (cellsR b1 27 [v8]), some (rowS iS v9 l1), some (rowS PutS v10 l2), some (rowS DescS v11 l3)]) (shr' := [Fact.sl SegS v8 m2]) [1, 2, 3, 5, 6, 13, 15, 19, 21, 22] [0, 1, 2, 3] [0] rfl rfl rfl rfl ?_)
                      exact Tk_backS (m2, l1, l2, l3, wi (i2 + (1 : Int)), v8, v9, v10, v11) h [1, 2, 3, 5, 6, 13, 15, 19, 21, 22] [0, 1, 2, 3] [0] rfl rfl rfl rfl rfl
                ·replace h := br_f hg19 h
                 refine TA_seg (lo := 6) (hi := 14) htb rfl rfl (by kernel_rfl) (fun c L a w => Sat c ⟨[(1, some (vI (wi ((64 : Int) + pick1)))), (2, some (vI id)), (3, some (vI atp3)), (5, some (vB wrap)), (6, some (.pointer (some ⟨b1, 0, none⟩))), (13, some (v9)), (15, some (v10)), (19, some (v11)), (21, some (.func (.func 17) #[] #[.pointer (some ⟨b1, 0, none⟩)])), (22, some (vI i2)), (23, some (.pointer (some ⟨b2, 0, none⟩))), (194, some (vB (decide ((wi (i2 + (1 : Int))) < (len m2))))), (195, bif L 6 then some (undef) else none), (196, bif L 7 then some (undef) else none), (197, bif L 8 then some (undef) else none), (198, bif L 9 then some (undef) else none), (199, bif L 10 then some (undef) else none), (200, bif L 11 then some (undef) else none), (201, bif L 12 then some (undef) else none), (202, bif L 13 then some (undef) else none)], [(some (cellsR b1 27 [v8]) : Option Res), (some (rowS iS v9 l1) : Option Res), (some (rowS PutS v10 l2) : Option Res), (some (rowS DescS v11 l3) : Option Res), (some (cellsR b2 38 [vU64 p1.Desc.Addr, vU32 p1.Desc.Len, vU16 p1.Desc.Flags, vU16 p1.Desc.Next]) : Option Res)], [Fact.sl SegS v8 m2]⟩ a w) [([], [7, 8]), ([6], [8]), ([6, 7], []), ([], [12, 13]), ([], [11, 12, 13]), ([10], [12, 13]), ([9, 10, 11], [13]), ([9, 10, 11, 12], [])] rfl (by kernel_rfl) ?_ (steps_cons ?_ (steps_cons ?_ (steps_cons ?_ (steps_cons ?_ (steps_cons ?_ (steps_cons ?_ (steps_cons ?_ (steps_cons ?_ (steps_nil))))))))) ?_
                 ·intro a w hs
                  exact hs.startF [195, 196, 197, 198, 199, 200, 201, 202] [0, 1, 2, 3, 4] [0] rfl rfl rfl rfl
                 ·intro L a w hv K Q hK
                  have hs := hv
                  refine wpOp_no rfl rfl rfl hs (congrArg (fun b => some (Value.bool b)) hg19) rfl rfl ?_
                  intro a' w' hs'
                  exact hK a' w' (hs'.putF (i := 12) rfl [0, 1, 2, 3, 4] [0] rfl rfl rfl rfl)
                 ·intro L a w hv K Q hK
                  have hs := hv
                  refine wpOp_no rfl rfl rfl hs (congrArg (fun b => some (Value.bool b)) hg19) rfl rfl ?_
                  intro a' w' hs'
                  exact hK a' w' (hs'.putF (i := 13) rfl [0, 1, 2, 3, 4] [0] rfl rfl rfl rfl)
                 ·intro L a w hv K Q hK
                  have hs := hv
                  refine wpOp_no rfl rfl rfl hs (congrArg (fun b => some (Value.bool b)) hg19) rfl rfl ?_
                  intro a' w' hs'
                  exact hK a' w' (hs'.putF (i := 14) rfl [0, 1, 2, 3, 4] [0] rfl rfl rfl rfl)
                 ·intro L a w hv K Q hK
                  have hs := hv
                  refine wpOp_no rfl rfl rfl hs (congrArg (fun b => some (Value.bool b)) hg19) rfl rfl ?_
                  intro a' w' hs'
                  exact hK a' w' (hs'.putF (i := 15) rfl [0, 1, 2, 3, 4] [0] rfl rfl rfl rfl)
                 ·intro L a w hv K Q hK
                  have hs := hv
                  refine wpOp_no rfl rfl rfl hs (congrArg (fun b => some (Value.bool b)) hg19) rfl rfl ?_
                  intro a' w' hs'
                  exact hK a' w' (hs'.putF (i := 16) rfl [0, 1, 2, 3, 4] [0] rfl rfl rfl rfl)
                 ·intro L a w hv K Q hK
                  have hs := hv
                  refine wpOp_no rfl rfl rfl hs (congrArg (fun b => some (Value.bool b)) hg19) rfl rfl ?_
                  intro a' w' hs'
                  exact hK a' w' (hs'.putF (i := 17) rfl [0, 1, 2, 3, 4] [0] rfl rfl rfl rfl)
                 ·intro L a w hv K Q hK
                  have hs := hv
                  refine wpOp_no rfl rfl rfl hs (congrArg (fun b => some (Value.bool b)) hg19) rfl rfl ?_
                  intro a' w' hs'
                  exact hK a' w' (hs'.putF (i := 18) rfl [0, 1, 2, 3, 4] [0] rfl rfl rfl rfl)
                 ·intro L a w hv K Q hK
                  have hs := hv
                  refine wpOp_no rfl rfl rfl hs (congrArg (fun b => some (Value.bool b)) hg19) rfl rfl ?_
                  intro a' w' hs'
                  exact hK a' w' (hs'.putF (i := 19) rfl [0, 1, 2, 3, 4] [0] rfl rfl rfl rfl)
                 ·intro L a w hL hv
                  rw [allTrue hL] at hv
                  have hs := hv
                  refine (show TA _ _ _ 14 ⟨[(1, some (vI (wi ((64 : Int) + pick1)))), (2, some (vI id)), (3, some (vI atp3)), (5, some (vB wrap)), (6, some (.pointer (some ⟨b1, 0, none⟩))), (13, some (v9)), (15, some (v10)), (19, some (v11)), (21, some (.func (.func 17) #[] #[.pointer (some ⟨b1, 0, none⟩)])), (22, some (vI i2)), (23, some (.pointer (some ⟨b2, 0, none⟩))), (194, some (vB (decide ((wi (i2 + (1 : Int))) < (len m2))))), (197, some (undef)), (202, some (undef))], [some (cellsR b1 27 [v8]), some (rowS iS v9 l1), some (rowS PutS v10 l2), some (rowS DescS v11 l3), some (cellsR b2 38 [vU64 p1.Desc.Addr, vU32 p1.Desc.Len, vU16 p1.Desc.Flags, vU16 p1.Desc.Next])], [Fact.sl SegS v8 m2]⟩ from ?_) a w (hs.wkS [1, 2, 3, 5, 6, 13, 15, 19, 21, 22, 23, 194, 197, 202] [0, 1, 2, 3, 4] [0] rfl rfl rfl rfl)
                  clear hs hL
                  refine TA_no htb (by kernel_rfl) rfl rfl rfl (congrArg (fun b => some (Value.bool b)) hg19) rfl rfl ?_
                  refine TA_no htb (by kernel_rfl) rfl rfl rfl (congrArg (fun b => some (Value.bool b)) hg19) rfl rfl ?_
                  refine TA_wkS (fr' := [(1, some (vI (wi ((64 : Int) + pick1)))), (2, some (vI id)), (3, some (vI atp3)), (5, some (vB wrap)), (6, some (.pointer (some ⟨b1, 0, none⟩))), (13, some (v9)), (15, some (v10)), (19, some (v11)), (21, some (.func (.func 17) #[] #[.pointer (some ⟨b1, 0, none⟩)])), (22, some (vI i2)), (23, some (.pointer (some ⟨b2, 0, none⟩))), (194, some (vB (decide ((wi (i2 + (1 : Int))) < (len m2))))), (204, some (undef))]) (own' := [some (cellsR b1 27 [v8]), some (rowS iS v9 l1), some (rowS PutS v10 l2), some (rowS DescS v11 l3), some (cellsR b2 38 [vU64 p1.Desc.Addr, vU32 p1.Desc.Len, vU16 p1.Desc.Flags, vU16 p1.Desc.Next])]) (shr' := [Fact.sl SegS v8 m2]) [1, 2, 3, 5, 6, 13, 15, 19, 21, 22, 23, 194, 204] [0, 1, 2, 3, 4] [0] rfl rfl rfl rfl ?_
                  refine TA_seg (lo := 16) (hi := 24) htb rfl rfl (by kernel_rfl) (fun c L a w => Sat c ⟨[(1, some (vI (wi ((64 : Int) + pick1)))), (2, some (vI id)), (3, some (vI atp3)), (5, some (vB wrap)), (6, some (.pointer (some ⟨b1, 0, none⟩))), (13, some (v9)), (15, some (v10)), (19, some (v11)), (21, some (.func (.func 17) #[] #[.pointer (some ⟨b1, 0, none⟩)])), (22, some (vI i2)), (23, some (.pointer (some ⟨b2, 0, none⟩))), (194, some (vB (decide ((wi (i2 + (1 : Int))) < (len m2))))), (204, some (undef)), (205, bif L 16 then some (undef) else none), (206, bif L 17 then some (undef) else none), (207, bif L 18 then some (undef) else none), (208, bif L 19 then some (undef) else none), (209, bif L 20 then some (undef) else none), (210, bif L 21 then some (undef) else none), (211, bif L 22 then some (undef) else none), (212, bif L 23 then some (undef) else none)], [(some (cellsR b1 27 [v8]) : Option Res), (some (rowS iS v9 l1) : Option Res), (some (rowS PutS v10 l2) : Option Res), (some (rowS DescS v11 l3) : Option Res), (some (cellsR b2 38 [vU64 p1.Desc.Addr, vU32 p1.Desc.Len, vU16 p1.Desc.Flags, vU16 p1.Desc.Next]) : Option Res)], [Fact.sl SegS v8 m2]⟩ a w) [([], [18, 19, 20, 21]), ([], [18, 19, 20, 21]), ([16, 17], [19, 20, 21]), ([16, 17, 18], [20, 21]), ([16, 17, 18, 19], [21]), ([16, 17, 18, 19, 20], []), ([], [23]), ([22], [])] rfl (by kernel_rfl) ?_ (steps_cons ?_ (steps_cons ?_ (steps_cons ?_ (steps_cons ?_ (steps_cons ?_ (steps_cons ?_ (steps_cons ?_ (steps_cons ?_ (steps_nil))))))))) ?_
                  ·intro a w hs
                   exact hs.startF [205, 206, 207, 208, 209, 210, 211, 212] [0, 1, 2, 3, 4] [0] rfl rfl rfl rfl
                  ·intro L a w hv K Q hK
                   have hs := hv
                   refine wpOp_noU rfl rfl rfl hs rfl rfl rfl ?_
                   intro a' w' hs'
                   exact hK a' w' (hs'.putF (i := 13) rfl [0, 1, 2, 3, 4] [0] rfl rfl rfl rfl)
                  ·intro L a w hv K Q hK
                   have hs := hv
                   refine wpOp_noU rfl rfl rfl hs rfl rfl rfl ?_
                   intro a' w' hs'
                   exact hK a' w' (hs'.putF (i := 14) rfl [0, 1, 2, 3, 4] [0] rfl rfl rfl rfl)
                  ·intro L a w hv K Q hK
                   have hs := hv
                   refine wpOp_noU rfl rfl rfl hs rfl rfl rfl ?_
                   intro a' w' hs'
                   exact hK a' w' (hs'.putF (i := 15) rfl [0, 1, 2, 3, 4] [0] rfl rfl rfl rfl)
                  ·intro L a w hv K Q hK
                   have hs := hv
                   refine wpOp_noU rfl rfl rfl hs rfl rfl rfl ?_
                   intro a' w' hs'
                   exact hK a' w' (hs'.putF (i := 16) rfl [0, 1, 2, 3, 4] [0] rfl rfl rfl rfl)
                  ·intro L a w hv K Q hK
                   have hs := hv
                   refine wpOp_noU rfl rfl rfl hs rfl rfl rfl ?_
                   intro a' w' hs'
                   exact hK a' w' (hs'.putF (i := 17) rfl [0, 1, 2, 3, 4] [0] rfl rfl rfl rfl)
                  ·intro L a w hv K Q hK
                   have hs := hv
                   refine wpOp_noU rfl rfl rfl hs rfl rfl rfl ?_
                   intro a' w' hs'
                   exact hK a' w' (hs'.putF (i := 18) rfl [0, 1, 2, 3, 4] [0] rfl rfl rfl rfl)
                  ·intro L a w hv K Q hK
                   have hs := hv
                   refine wpOp_noU rfl rfl rfl hs rfl rfl rfl ?_
                   intro a' w' hs'
                   exact hK a' w' (hs'.putF (i := 19) rfl [0, 1, 2, 3, 4] [0] rfl rfl rfl rfl)
                  ·intro L a w hv K Q hK
                   have hs := hv
                   refine wpOp_noU rfl rfl rfl hs rfl rfl rfl ?_
                   intro a' w' hs'
                   exact hK a' w' (hs'.putF (i := 20) rfl [0, 1, 2, 3, 4] [0] rfl rfl rfl rfl)
                  ·intro L a w hL hv
                   rw [allTrue hL] at hv
                   have hs := hv
                   refine (show TA _ _ _ 24 ⟨[(1, some (vI (wi ((64 : Int) + pick1)))), (2, some (vI id)), (3, some (vI atp3)), (5, some (vB wrap)), (6, some (.pointer (some ⟨b1, 0, none⟩))), (13, some (v9)), (15, some (v10)), (19, some (v11)), (21, some (.func (.func 17) #[] #[.pointer (some ⟨b1, 0, none⟩)])), (22, some (vI i2)), (23, some (.pointer (some ⟨b2, 0, none⟩))), (194, some (vB (decide ((wi (i2 + (1 : Int))) < (len m2))))), (204, some (undef)), (210, some (undef)), (212, some (undef))], [some (cellsR b1 27 [v8]), some (rowS iS v9 l1), some (rowS PutS v10 l2), some (rowS DescS v11 l3), some (cellsR b2 38 [vU64 p1.Desc.Addr, vU32 p1.Desc.Len, vU16 p1.Desc.Flags, vU16 p1.Desc.Next])], [Fact.sl SegS v8 m2]⟩ from ?_) a w (hs.wkS [1, 2, 3, 5, 6, 13, 15, 19, 21, 22, 23, 194, 204, 210, 212] [0, 1, 2, 3, 4] [0] rfl rfl rfl rfl)
                   clear hs hL
                   refine TA_noU htb (by kernel_rfl) rfl rfl rfl rfl rfl rfl ?_
                   refine TA_no htb (by kernel_rfl) rfl rfl rfl (congrArg (fun b => some (Value.bool b)) hg19) rfl rfl ?_
                   refine TA_step htb (by kernel_rfl) rfl rfl (OpT_pickF rfl rfl rfl (congrArg (fun b => some (Value.bool b)) hg19) rfl) ?_
                   refine TA_step htb (by kernel_rfl) rfl rfl (OpT_move rfl rfl rfl rfl) ?_
                   refine TA_wkS (fr' := [(1, some (vI (wi ((64 : Int) + pick1)))), (2, some (vI id)), (3, some (vI atp3)), (5, some (vB wrap)), (6, some (.pointer (some ⟨b1, 0, none⟩))), (13, some (v9)), (15, some (v10)), (19, some (v11)), (21, some (.func (.func 17) #[] #[.pointer (some ⟨b1, 0, none⟩)])), (22, some (vI i2)), (23, some (.pointer (some ⟨b2, 0, none⟩))), (216, some (vB false))]) (own' := [some (cellsR b1 27 [v8]), some (rowS iS v9 l1), some (rowS PutS v10 l2), some (rowS DescS v11 l3), some (cellsR b2 38 [vU64 p1.Desc.Addr, vU32 p1.Desc.Len, vU16 p1.Desc.Flags, vU16 p1.Desc.Next])]) (shr' := [Fact.sl SegS v8 m2]) [1, 2, 3, 5, 6, 13, 15, 19, 21, 22, 23, 216] [0, 1, 2, 3, 4] [0] rfl rfl rfl rfl ?_
                   refine TA_seg (lo := 28) (hi := 32) htb rfl rfl (by kernel_rfl) (fun c L a w => Sat c ⟨[(1, some (vI (wi ((64 : Int) + pick1)))), (2, some (vI id)), (3, some (vI atp3)), (5, some (vB wrap)), (6, some (.pointer (some ⟨b1, 0, none⟩))), (13, some (v9)), (15, some (v10)), (19, some (v11)), (21, some (.func (.func 17) #[] #[.pointer (some ⟨b1, 0, none⟩)])), (22, some (vI i2)), (23, some (.pointer (some ⟨b2, 0, none⟩))), (216, some (vB false)), (217, bif L 28 then some (vI i2) else none), (218, bif L 29 then some (vI (wi (i2 + (1 : Int)))) else none), (219, bif L 30 then some (v8) else none), (220, bif L 31 then some (vI (len m2)) else none)], [(some (cellsR b1 27 [v8]) : Option Res), (some (rowS iS v9 l1) : Option Res), (some (rowS PutS v10 l2) : Option Res), (some (rowS DescS v11 l3) : Option Res), (some (cellsR b2 38 [vU64 p1.Desc.Addr, vU32 p1.Desc.Len, vU16 p1.Desc.Flags, vU16 p1.Desc.Next]) : Option Res)], [Fact.sl SegS v8 m2]⟩ a w) [([], [29]), ([28], []), ([], [31]), ([30], [])] rfl (by kernel_rfl) ?_ (steps_cons ?_ (steps_cons ?_ (steps_cons ?_ (steps_cons ?_ (steps_nil))))) ?_
                   ·intro a w hs
                    exact hs.startF [217, 218, 219, 220] [0, 1, 2, 3, 4] [0] rfl rfl rfl rfl
                   ·intro L a w hv K Q hK
                    have hs := hv
                    refine wpOp_yes rfl rfl rfl hs rfl (OpT_move rfl rfl rfl rfl) ?_
                    rintro _ rfl a' w' hs'
                    exact hK a' w' (hs'.putF (i := 12) rfl [0, 1, 2, 3, 4] [0] rfl rfl rfl rfl)
                   ·intro L a w hv K Q hK
                    have hs := hv
                    refine wpOp_yes rfl rfl rfl hs rfl (OpT_bin rfl rfl rfl rfl rfl (bin_add_i (a := i2) (b := (1 : Int)))) ?_
                    rintro _ rfl a' w' hs'
                    exact hK a' w' (hs'.putF (i := 13) rfl [0, 1, 2, 3, 4] [0] rfl rfl rfl rfl)
                   ·intro L a w hv K Q hK
                    have hs := hv
                    refine wpOp_yes rfl rfl rfl hs rfl (OpT_loadC rfl rfl rfl rfl tyF27 (i := 0) rfl rfl) ?_
                    rintro _ rfl a' w' hs'
                    exact hK a' w' (hs'.putF (i := 14) rfl [0, 1, 2, 3, 4] [0] rfl rfl rfl rfl)
                   ·intro L a w hv K Q hK
                    have hs := hv
                    refine wpOp_yes rfl rfl rfl hs rfl (OpT_lenS rfl rfl rfl rfl Try.underlying27 (i := 0) rfl) ?_
                    rintro _ rfl a' w' hs'
                    exact hK a' w' (hs'.putF (i := 15) rfl [0, 1, 2, 3, 4] [0] rfl rfl rfl rfl)
                   ·intro L a w hL hv
                    rw [allTrue hL] at hv
                    have hs := hv
                    refine (show TA _ _ _ 32 ⟨[(1, some (vI (wi ((64 : Int) + pick1)))), (2, some (vI id)), (3, some (vI atp3)), (5, some (vB wrap)), (6, some (.pointer (some ⟨b1, 0, none⟩))), (13, some (v9)), (15, some (v10)), (19, some (v11)), (21, some (.func (.func 17) #[] #[.pointer (some ⟨b1, 0, none⟩)])), (22, some (vI i2)), (23, some (.pointer (some ⟨b2, 0, none⟩))), (216, some (vB false)), (218, some (vI (wi (i2 + (1 : Int))))), (220, some (vI (len m2)))], [some (cellsR b1 27 [v8]), some (rowS iS v9 l1), some (rowS PutS v10 l2), some (rowS DescS v11 l3), some (cellsR b2 38 [vU64 p1.Desc.Addr, vU32 p1.Desc.Len, vU16 p1.Desc.Flags, vU16 p1.Desc.Next])], [Fact.sl SegS v8 m2]⟩ from ?_) a w (hs.wkS [1, 2, 3, 5, 6, 13, 15, 19, 21, 22, 23, 216, 218, 220] [0, 1, 2, 3, 4] [0] rfl rfl rfl rfl)
                    clear hs hL
                    refine TA_yes htb (by kernel_rfl) rfl rfl rfl rfl (OpT_bin rfl rfl rfl rfl rfl (bin_eql_i (a := wi (i2 + (1 : Int))) (b := len m2))) ?_
                    rintro _ rfl
                    refine TA_yes htb (by kernel_rfl) rfl rfl rfl rfl (OpT_move rfl rfl rfl rfl) ?_
                    rintro _ rfl
                    refine TA_wkS (fr' := [(1, some (vI (wi ((64 : Int) + pick1)))), (2, some (vI id)), (3, some (vI atp3)), (5, some (vB wrap)), (6, some (.pointer (some ⟨b1, 0, none⟩))), (13, some (v9)), (15, some (v10)), (19, some (v11)), (21, some (.func (.func 17) #[] #[.pointer (some ⟨b1, 0, none⟩)])), (22, some (vI i2)), (23, some (.pointer (some ⟨b2, 0, none⟩))), (216, some (vB false)), (222, some (vB ((wi (i2 + (1 : Int))) == (len m2))))]) (own' := [some (cellsR b1 27 [v8]), some (rowS iS v9 l1), some (rowS PutS v10 l2), some (rowS DescS v11 l3), some (cellsR b2 38 [vU64 p1.Desc.Addr, vU32 p1.Desc.Len, vU16 p1.Desc.Flags, vU16 p1.Desc.Next])]) (shr' := [Fact.sl SegS v8 m2]) [1, 2, 3, 5, 6, 13, 15, 19, 21, 22, 23, 216, 222] [0, 1, 2, 3, 4] [0] rfl rfl rfl rfl ?_
                    rcases Bool.eq_false_or_eq_true ((wi (i2 + (1 : Int))) == (len m2)) with hg24 | hg24
                    ·replace h := br_t hg24 h
                     obtain ⟨d6, hx21, h⟩ := ob_e h
                     refine TA_seg (lo := 34) (hi := 41) htb rfl rfl (by kernel_rfl) (fun c L a w => Sat c ⟨[(1, some (vI (wi ((64 : Int) + pick1)))), (2, some (vI id)), (3, some (vI atp3)), (5, some (vB wrap)), (6, some (.pointer (some ⟨b1, 0, none⟩))), (13, some (v9)), (15, some (v10)), (19, some (v11)), (21, some (.func (.func 17) #[] #[.pointer (some ⟨b1, 0, none⟩)])), (22, some (vI i2)), (23, some (.pointer (some ⟨b2, 0, none⟩))), (216, some (vB false)), (222, some (vB ((wi (i2 + (1 : Int))) == (len m2)))), (223, bif L 34 then some (.pointer (some ⟨b2, 3, none⟩)) else none), (224, bif L 35 then some (vU16 p1.Desc.Next) else none), (225, bif L 36 then some (v11) else none), (226, bif L 37 then some (vI i2) else none), (227, bif L 38 then some (rowPtr v11 (Int.toNat i2 * 4)) else none), (228, bif L 39 then some (rowPtr v11 (Int.toNat i2 * 4 + 3)) else none), (229, bif L 40 then some (vU16 d6.Next) else none)], [(some (cellsR b1 27 [v8]) : Option Res), (some (rowS iS v9 l1) : Option Res), (some (rowS PutS v10 l2) : Option Res), (some (rowS DescS v11 l3) : Option Res), (some (cellsR b2 38 [vU64 p1.Desc.Addr, vU32 p1.Desc.Len, vU16 p1.Desc.Flags, vU16 p1.Desc.Next]) : Option Res)], [Fact.sl SegS v8 m2]⟩ a w) [([], [35]), ([34], []), ([], [38, 39, 40]), ([], [38, 39, 40]), ([36, 37], [39, 40]), ([36, 37, 38], [40]), ([36, 37, 38, 39], [])] rfl (by kernel_rfl) ?_ (steps_cons ?_ (steps_cons ?_ (steps_cons ?_ (steps_cons ?_ (steps_cons ?_ (steps_cons ?_ (steps_cons ?_ (steps_nil)))))))) ?_
                     ·intro a w hs
                      exact hs.startF [223, 224, 225, 226, 227, 228, 229] [0, 1, 2, 3, 4] [0] rfl rfl rfl rfl
                     ·intro L a w hv K Q hK
                      have hs := hv
                      refine wpOp_yes rfl rfl rfl hs (congrArg (fun b => some (Value.bool b)) hg24) (OpT_fieldC rfl rfl rfl rfl fldF38x3) ?_
                      rintro _ rfl a' w' hs'
                      exact hK a' w' (hs'.putF (i := 13) rfl [0, 1, 2, 3, 4] [0] rfl rfl rfl rfl)
                     ·intro L a w hv K Q hK
                      have hs := hv
                      refine wpOp_yes rfl rfl rfl hs (congrArg (fun b => some (Value.bool b)) hg24) (OpT_loadC rfl rfl rfl rfl tyF36 (i := 4) rfl rfl) ?_
                      rintro _ rfl a' w' hs'
                      exact hK a' w' (hs'.putF (i := 14) rfl [0, 1, 2, 3, 4] [0] rfl rfl rfl rfl)
                     ·intro L a w hv K Q hK
                      have hs := hv
                      refine wpOp_yes rfl rfl rfl hs (congrArg (fun b => some (Value.bool b)) hg24) (OpT_move rfl rfl rfl rfl) ?_
                      rintro _ rfl a' w' hs'
                      exact hK a' w' (hs'.putF (i := 15) rfl [0, 1, 2, 3, 4] [0] rfl rfl rfl rfl)
                     ·intro L a w hv K Q hK
                      have hs := hv
                      refine wpOp_yes rfl rfl rfl hs (congrArg (fun b => some (Value.bool b)) hg24) (OpT_move rfl rfl rfl rfl) ?_
                      rintro _ rfl a' w' hs'
                      exact hK a' w' (hs'.putF (i := 16) rfl [0, 1, 2, 3, 4] [0] rfl rfl rfl rfl)
                     ·intro L a w hv K Q hK
                      have hs := hv
                      refine wpOp_yes rfl rfl rfl hs (congrArg (fun b => some (Value.bool b)) hg24) (OpT_idxO rfl rfl rfl rfl rfl slF55 (i := 3) rfl hx21) ?_
                      rintro _ rfl a' w' hs'
                      exact hK a' w' (hs'.putF (i := 17) rfl [0, 1, 2, 3, 4] [0] rfl rfl rfl rfl)
                     ·intro L a w hv K Q hK
                      have hs := hv
                      refine wpOp_yes rfl rfl rfl hs (congrArg (fun b => some (Value.bool b)) hg24) (OpT_fieldR (S := DescS) rfl rfl rfl rfl fldF38x3 (i := 3) rfl hx21) ?_
                      rintro _ rfl a' w' hs'
                      exact hK a' w' (hs'.putF (i := 18) rfl [0, 1, 2, 3, 4] [0] rfl rfl rfl rfl)
                     ·intro L a w hv K Q hK
                      have hs := hv
                      refine wpOp_yes rfl rfl rfl hs (congrArg (fun b => some (Value.bool b)) hg24) (OpT_loadOF (S := DescS) rfl rfl rfl rfl rfl tyF36 (i := 3) rfl hx21 rfl rfl) ?_
                      rintro _ rfl a' w' hs'
                      exact hK a' w' (hs'.putF (i := 19) rfl [0, 1, 2, 3, 4] [0] rfl rfl rfl rfl)
                     ·intro L a w hL hv
                      rw [allTrue hL] at hv
                      have hs := hv
                      refine (show TA _ _ _ 41 ⟨[(1, some (vI (wi ((64 : Int) + pick1)))), (2, some (vI id)), (3, some (vI atp3)), (5, some (vB wrap)), (6, some (.pointer (some ⟨b1, 0, none⟩))), (13, some (v9)), (15, some (v10)), (19, some (v11)), (21, some (.func (.func 17) #[] #[.pointer (some ⟨b1, 0, none⟩)])), (22, some (vI i2)), (216, some (vB false)), (222, some (vB ((wi (i2 + (1 : Int))) == (len m2)))), (224, some (vU16 p1.Desc.Next)), (229, some (vU16 d6.Next))], [some (cellsR b1 27 [v8]), some (rowS iS v9 l1), some (rowS PutS v10 l2), some (rowS DescS v11 l3)], [Fact.sl SegS v8 m2]⟩ from ?_) a w (hs.wkS [1, 2, 3, 5, 6, 13, 15, 19, 21, 22, 216, 222, 224, 229] [0, 1, 2, 3] [0] rfl rfl rfl rfl)
                      clear hs hL
                      refine TA_yes htb (by kernel_rfl) rfl rfl rfl (congrArg (fun b => some (Value.bool b)) hg24) (OpT_bin rfl rfl rfl rfl rfl (bin_add_u16 (a := p1.Desc.Next) (b := d6.Next))) ?_
                      rintro _ rfl
                      refine TA_yes htb (by kernel_rfl) rfl rfl rfl (congrArg (fun b => some (Value.bool b)) hg24) (OpT_bin rfl rfl rfl rfl rfl (bin_neq_u16 (a := p1.Desc.Next + d6.Next) (b := (0 : UInt16)))) ?_
                      rintro _ rfl
                      refine TA_yes htb (by kernel_rfl) rfl rfl rfl rfl (OpT_pickT rfl rfl rfl (congrArg (fun b => some (Value.bool b)) hg24) rfl) ?_
                      rintro _ rfl
                      refine TA_step htb (by kernel_rfl) rfl rfl (OpT_pickF rfl rfl rfl rfl rfl) ?_
                      refine TA_end rfl ?_
                      refine Tk_wkS (fr' := [(1, some (vI (wi ((64 : Int) + pick1)))), (2, some (vI id)), (3, some (vI atp3)), (5, some (vB wrap)), (6, some (.pointer (some ⟨b1, 0, none⟩))), (13, some (v9)), (15, some (v10)), (19, some (v11)), (21, some (.func (.func 17) #[] #[.pointer (some ⟨b1, 0, none⟩)])), (22, some (vI i2)), (233, some (vB ((p1.Desc.Next + d6.Next) != (0 : UInt16))))]) (own' := [some (cellsR b1 27 [v8]), some (rowS iS v9 l1), some (rowS PutS v10 l2), some (rowS DescS v11 l3)]) (shr' := [Fact.sl SegS v8 m2]) [1, 2, 3, 5, 6, 13, 15, 19, 21, 22, 233] [0, 1, 2, 3] [0] rfl rfl rfl rfl ?_
                      obtain ⟨hg25, h⟩ := chk_e h
                      replace hg25 := not_t hg25
                      refine Tk_condF (congrArg (fun b => some (Value.bool b)) hg25) ?_
                      refine Tk_skip (Tk_blk (Tk_region (Tops_step rfl (OpT_move rfl rfl rfl rfl) ?_)))
                      refine Tops_step rfl (OpT_bin rfl rfl rfl rfl rfl (bin_add_i (a := i2) (b := (1 : Int)))) ?_
                      refine Tops_step rfl (OpT_assign rfl rfl rfl rfl) ?_
                      refine Tops_nil (Tk_wkS (fr' := [(1, some (vI (wi ((64 : Int) + pick1)))), (2, some (vI id)), (3, some (vI atp3)), (5, some (vB wrap)), (6, some (.pointer (some ⟨b1, 0, none⟩))), (13, some (v9)), (15, some (v10)), (19, some (v11)), (21, some (.func (.func 17) #[] #[.pointer (some ⟨b1, 0, none⟩)])), (22, some (vI (wi (i2 + (1 : Int)))))]) (own' := [some (cellsR b1 27 [v8]), some (rowS iS v9 l1), some (rowS PutS v10 l2), some (rowS DescS v11 l3)]) (shr' := [Fact.sl SegS v8 m2]) [1, 2, 3, 5, 6, 13, 15, 19, 21, 22] [0, 1, 2, 3] [0] rfl rfl rfl rfl ?_)
                      exact Tk_backS (m2, l1, l2, l3, wi (i2 + (1 : Int)), v8, v9, v10, v11) h [1, 2, 3, 5, 6, 13, 15, 19, 21, 22] [0, 1, 2, 3] [0] rfl rfl rfl rfl rfl
                    ·replace h := br_f hg24 h
                     refine TA_seg (lo := 34) (hi := 41) htb rfl rfl (by kernel_rfl) (fun c L a w => Sat c ⟨[(1, some (vI (wi ((64 : Int) + pick1)))), (2, some (vI id)), (3, some (vI atp3)), (5, some (vB wrap)), (6, some (.pointer (some ⟨b1, 0, none⟩))), (13, some (v9)), (15, some (v10)), (19, some (v11)), (21, some (.func (.func 17) #[] #[.pointer (some ⟨b1, 0, none⟩)])), (22, some (vI i2)), (23, some (.pointer (some ⟨b2, 0, none⟩))), (216, some (vB false)), (222, some (vB ((wi (i2 + (1 : Int))) == (len m2)))), (223, bif L 34 then some (undef) else none), (224, bif L 35 then some (undef) else none), (225, bif L 36 then some (undef) else none), (226, bif L 37 then some (undef) else none), (227, bif L 38 then some (undef) else none), (228, bif L 39 then some (undef) else none), (229, bif L 40 then some (undef) else none)], [(some (cellsR b1 27 [v8]) : Option Res), (some (rowS iS v9 l1) : Option Res), (some (rowS PutS v10 l2) : Option Res), (some (rowS DescS v11 l3) : Option Res), (some (cellsR b2 38 [vU64 p1.Desc.Addr, vU32 p1.Desc.Len, vU16 p1.Desc.Flags, vU16 p1.Desc.Next]) : Option Res)], [Fact.sl SegS v8 m2]⟩ a w) [([], [35]), ([34], []), ([], [38, 39, 40]), ([], [38, 39, 40]), ([36, 37], [39, 40]), ([36, 37, 38], [40]), ([36, 37, 38, 39], [])] rfl (by kernel_rfl) ?_ (steps_cons ?_ (steps_cons ?_ (steps_cons ?_ (steps_cons ?_ (steps_cons ?_ (steps_cons ?_ (steps_cons ?_ (steps_nil)))))))) ?_
                     ·intro a w hs
                      exact hs.startF [223, 224, 225, 226, 227, 228, 229] [0, 1, 2, 3, 4] [0] rfl rfl rfl rfl
                     ·intro L a w hv K Q hK
                      have hs := hv
                      refine wpOp_no rfl rfl rfl hs (congrArg (fun b => some (Value.bool b)) hg24) rfl rfl ?_
                      intro a' w' hs'
                      exact hK a' w' (hs'.putF (i := 13) rfl [0, 1, 2, 3, 4] [0] rfl rfl rfl rfl)
                     ·intro L a w hv K Q hK
                      have hs := hv
                      refine wpOp_no rfl rfl rfl hs (congrArg (fun b => some (Value.bool b)) hg24) rfl rfl ?_
                      intro a' w' hs'
                      exact hK a' w' (hs'.putF (i := 14) rfl [0, 1, 2, 3, 4] [0] rfl rfl rfl rfl)
                     ·intro L a w hv K Q hK
                      have hs := hv
                      refine wpOp_no rfl rfl rfl hs (congrArg (fun b => some (Value.bool b)) hg24) rfl rfl ?_
                      intro a' w' hs'
                      exact hK a' w' (hs'.putF (i := 15) rfl [0, 1, 2, 3, 4] [0] rfl rfl rfl rfl)
                     ·intro L a w hv K Q hK
                      have hs := hv
                      refine wpOp_no rfl rfl rfl hs (congrArg (fun b => some (Value.bool b)) hg24) rfl rfl ?_
                      intro a' w' hs'
                      exact hK a' w' (hs'.putF (i := 16) rfl [0, 1, 2, 3, 4] [0] rfl rfl rfl rfl)
                     ·intro L a w hv K Q hK
                      have hs := hv
                      refine wpOp_no rfl rfl rfl hs (congrArg (fun b => some (Value.bool b)) hg24) rfl rfl ?_
                      intro a' w' hs'
                      exact hK a' w' (hs'.putF (i := 17) rfl [0, 1, 2, 3, 4] [0] rfl rfl rfl rfl)
                     ·intro L a w hv K Q hK
                      have hs := hv
                      refine wpOp_no rfl rfl rfl hs (congrArg (fun b => some (Value.bool b)) hg24) rfl rfl ?_
                      intro a' w' hs'
                      exact hK a' w' (hs'.putF (i := 18) rfl [0, 1, 2, 3, 4] [0] rfl rfl rfl rfl)
                     ·intro L a w hv K Q hK
                      have hs := hv
                      refine wpOp_no rfl rfl rfl hs (congrArg (fun b => some (Value.bool b)) hg24) rfl rfl ?_
                      intro a' w' hs'
                      exact hK a' w' (hs'.putF (i := 19) rfl [0, 1, 2, 3, 4] [0] rfl rfl rfl rfl)
                     ·intro L a w hL hv
                      rw [allTrue hL] at hv
                      have hs := hv
                      refine (show TA _ _ _ 41 ⟨[(1, some (vI (wi ((64 : Int) + pick1)))), (2, some (vI id)), (3, some (vI atp3)), (5, some (vB wrap)), (6, some (.pointer (some ⟨b1, 0, none⟩))), (13, some (v9)), (15, some (v10)), (19, some (v11)), (21, some (.func (.func 17) #[] #[.pointer (some ⟨b1, 0, none⟩)])), (22, some (vI i2)), (216, some (vB false)), (222, some (vB ((wi (i2 + (1 : Int))) == (len m2)))), (224, some (undef)), (229, some (undef))], [some (cellsR b1 27 [v8]), some (rowS iS v9 l1), some (rowS PutS v10 l2), some (rowS DescS v11 l3)], [Fact.sl SegS v8 m2]⟩ from ?_) a w (hs.wkS [1, 2, 3, 5, 6, 13, 15, 19, 21, 22, 216, 222, 224, 229] [0, 1, 2, 3] [0] rfl rfl rfl rfl)
                      clear hs hL
                      refine TA_no htb (by kernel_rfl) rfl rfl rfl (congrArg (fun b => some (Value.bool b)) hg24) rfl rfl ?_
                      refine TA_no htb (by kernel_rfl) rfl rfl rfl (congrArg (fun b => some (Value.bool b)) hg24) rfl rfl ?_
                      refine TA_yes htb (by kernel_rfl) rfl rfl rfl rfl (OpT_pickF rfl rfl rfl (congrArg (fun b => some (Value.bool b)) hg24) rfl) ?_
                      rintro _ rfl
                      refine TA_step htb (by kernel_rfl) rfl rfl (OpT_pickF rfl rfl rfl rfl rfl) ?_
                      refine TA_end rfl ?_
                      refine Tk_wkS (fr' := [(1, some (vI (wi ((64 : Int) + pick1)))), (2, some (vI id)), (3, some (vI atp3)), (5, some (vB wrap)), (6, some (.pointer (some ⟨b1, 0, none⟩))), (13, some (v9)), (15, some (v10)), (19, some (v11)), (21, some (.func (.func 17) #[] #[.pointer (some ⟨b1, 0, none⟩)])), (22, some (vI i2)), (233, some (vB false))]) (own' := [some (cellsR b1 27 [v8]), some (rowS iS v9 l1), some (rowS PutS v10 l2), some (rowS DescS v11 l3)]) (shr' := [Fact.sl SegS v8 m2]) [1, 2, 3, 5, 6, 13, 15, 19, 21, 22, 233] [0, 1, 2, 3] [0] rfl rfl rfl rfl ?_
                      refine Tk_condF rfl ?_
                      refine Tk_skip (Tk_blk (Tk_region (Tops_step rfl (OpT_move rfl rfl rfl rfl) ?_)))
                      refine Tops_step rfl (OpT_bin rfl rfl rfl rfl rfl (bin_add_i (a := i2) (b := (1 : Int)))) ?_
                      refine Tops_step rfl (OpT_assign rfl rfl rfl rfl) ?_
                      refine Tops_nil (Tk_wkS (fr' := [(1, some (vI (wi ((64 : Int) + pick1)))), (2, some (vI id)), (3, some (vI atp3)), (5, some (vB wrap)), (6, some (.pointer (some ⟨b1, 0, none⟩))), (13, some (v9)), (15, some (v10)), (19, some (v11)), (21, some (.func (.func 17) #[] #[.pointer (some ⟨b1, 0, none⟩)])), (22, some (vI (wi (i2 + (1 : Int)))))]) (own' := [some (cellsR b1 27 [v8]), some (rowS iS v9 l1), some (rowS PutS v10 l2), some (rowS DescS v11 l3)]) (shr' := [Fact.sl SegS v8 m2]) [1, 2, 3, 5, 6, 13, 15, 19, 21, 22] [0, 1, 2, 3] [0] rfl rfl rfl rfl ?_)
                      exact Tk_backS (m2, l1, l2, l3, wi (i2 + (1 : Int)), v8, v9, v10, v11) h [1, 2, 3, 5, 6, 13, 15, 19, 21, 22] [0, 1, 2, 3] [0] rfl rfl rfl rfl rfl
       ·replace h := br_f hg11 h
        refine Tk_condF (congrArg (fun b => some (Value.bool b)) hg11) ?_
        refine Tk_exit _ rfl ?_
        refine Tk_seq (Tk_region (Tops_step rfl (OpT_move rfl rfl rfl rfl) ?_))
        refine Tops_step rfl (OpT_move rfl rfl rfl rfl) ?_
        obtain ⟨pick3, hx22, h⟩ := ob_e h
        refine Tops_exP rfl (OpT_call (w_kit_Pick hx22) [] [] rfl rfl rfl rfl rfl callee15 rfl rfl rfl rfl) ?_
        rintro _ ⟨_, _, _, ⟨rfl, rfl, rfl⟩, rfl⟩
        refine Tops_step rfl (OpT_move rfl rfl rfl rfl) ?_
        refine Tops_step rfl (OpT_build (v := .agg #[vI pick3, vB wrap]) rfl rfl rfl rfl (bldV (by kernel_rfl))) ?_
        refine Tops_ex rfl (OpT_alloc rfl rfl rfl tyZ33) fun b3 => ?_
        refine Tops_step rfl (OpT_storeC (cs' := [vI pick3, vB wrap]) rfl rfl rfl rfl tyF33 (i := 4) rfl rfl rfl (one_of rfl) rfl) ?_
        refine Tops_nil (Tk_wkS (fr' := [(1, some (vI (wi ((64 : Int) + pick1)))), (2, some (vI id)), (5, some (vB wrap)), (6, some (.pointer (some ⟨b1, 0, none⟩))), (21, some (.func (.func 17) #[] #[.pointer (some ⟨b1, 0, none⟩)])), (24, some (.pointer (some ⟨b3, 0, none⟩)))]) (own' := [some (cellsR b1 27 [v8]), some (cellsR b3 33 [vI pick3, vB wrap])]) (shr' := [Fact.sl SegS v8 m2]) [1, 2, 5, 6, 21, 24] [0, 4] [0] rfl rfl rfl rfl ?_)
        refine Tk_seq (Tk_region (Tops_step rfl (OpT_move rfl rfl rfl rfl) ?_))
        refine Tops_step rfl (OpT_move rfl rfl rfl rfl) ?_
        obtain ⟨pick4, hx23, h⟩ := ob_e h
        refine Tops_exP rfl (OpT_call (w_kit_Pick hx23) [] [] rfl rfl rfl rfl rfl callee15 rfl rfl rfl rfl) ?_
        rintro _ ⟨_, _, _, ⟨rfl, rfl, rfl⟩, rfl⟩
        refine Tops_step rfl (OpT_assign rfl rfl rfl rfl) ?_
        refine Tops_nil (Tk_wkS (fr' := [(1, some (vI (wi ((64 : Int) + pick1)))), (2, some (vI pick4)), (5, some (vB wrap)), (6, some (.pointer (some ⟨b1, 0, none⟩))), (21, some (.func (.func 17) #[] #[.pointer (some ⟨b1, 0, none⟩)])), (24, some (.pointer (some ⟨b3, 0, none⟩)))]) (own' := [some (cellsR b1 27 [v8]), some (cellsR b3 33 [vI pick3, vB wrap])]) (shr' := [Fact.sl SegS v8 m2]) [1, 2, 5, 6, 21, 24] [0, 1] [0] rfl rfl rfl rfl ?_)
        refine Tk_seq (Tk_region (Tops_step rfl (OpT_loadCA (vs := [vI pick3, vB wrap]) rfl rfl rfl rfl tyF33 (i := 1) rfl rfl rfl) ?_))
        refine Tops_step rfl (OpT_move rfl rfl rfl rfl) ?_
        refine Tops_step rfl (OpT_move rfl rfl rfl rfl) ?_
        refine Tops_step rfl (OpT_loadC rfl rfl rfl rfl tyF27 (i := 0) rfl rfl) ?_
        obtain ⟨packed1, hx24, h⟩ := ob_e h
        refine Tops_exP rfl (OpT_call (w_build_Packed hx24) [] [0] rfl rfl rfl rfl rfl callee9 rfl rfl rfl rfl) ?_
        rintro _ ⟨_, _, _, ⟨v12, rfl, rfl, rfl⟩, rfl⟩
        refine Tops_step rfl (OpT_move rfl rfl rfl rfl) ?_
        refine Tops_step rfl (OpT_extract rfl rfl rfl rfl rfl) ?_
        refine Tops_step rfl (OpT_extract rfl rfl rfl rfl rfl) ?_
        refine Tops_step rfl (OpT_assign rfl rfl rfl rfl) ?_
        refine Tops_step rfl (OpT_assign rfl rfl rfl rfl) ?_
        refine Tops_nil (Tk_wkS (fr' := [(1, some (vI (wi ((64 : Int) + pick1)))), (2, some (vI pick4)), (5, some (vB wrap)), (6, some (.pointer (some ⟨b1, 0, none⟩))), (21, some (.func (.func 17) #[] #[.pointer (some ⟨b1, 0, none⟩)])), (24, some (.pointer (some ⟨b3, 0, none⟩))), (25, some (v12)), (16, some (vI packed1.2))]) (own' := [some (cellsR b1 27 [v8]), some (cellsR b3 33 [vI pick3, vB wrap]), some (rowS PutPackedS v12 packed1.1)]) (shr' := [Fact.sl SegS v8 m2]) [1, 2, 5, 6, 21, 24, 25, 16] [0, 1, 2] [0] rfl rfl rfl rfl ?_)
        refine Tk_seq (Tk_region (Tops_step rfl (OpT_loadC rfl rfl rfl rfl tyF27 (i := 0) rfl rfl) ?_))
        obtain ⟨packed2, hx25, h⟩ := ob_e h
        refine Tops_exP rfl (OpT_call (w_build_PackedTable hx25) [] [0] rfl rfl rfl rfl rfl callee18 rfl rfl rfl rfl) ?_
        rintro _ ⟨_, _, _, ⟨v13, rfl, rfl, rfl⟩, rfl⟩
        refine Tops_step rfl (OpT_move rfl rfl rfl rfl) ?_
        refine Tops_step rfl (OpT_extract rfl rfl rfl rfl rfl) ?_
        refine Tops_step rfl (OpT_extract rfl rfl rfl rfl rfl) ?_
        refine Tops_step rfl (OpT_assign rfl rfl rfl rfl) ?_
        refine Tops_step rfl (OpT_assign rfl rfl rfl rfl) ?_
        refine Tops_nil (Tk_wkS (fr' := [(1, some (vI (wi ((64 : Int) + pick1)))), (2, some (vI pick4)), (5, some (vB wrap)), (6, some (.pointer (some ⟨b1, 0, none⟩))), (21, some (.func (.func 17) #[] #[.pointer (some ⟨b1, 0, none⟩)])), (24, some (.pointer (some ⟨b3, 0, none⟩))), (25, some (v12)), (16, some (vI packed1.2)), (26, some (v13)), (18, some (vI packed2.2))]) (own' := [some (cellsR b1 27 [v8]), some (cellsR b3 33 [vI pick3, vB wrap]), some (rowS PutPackedS v12 packed1.1), some (rowS u8S v13 packed2.1)]) (shr' := [Fact.sl SegS v8 m2]) [1, 2, 5, 6, 21, 24, 25, 16, 26, 18] [0, 1, 2, 3] [0] rfl rfl rfl rfl ?_)
        refine Tk_seq (Tk_seq (Tk_region (Tops_step rfl (OpT_move rfl rfl rfl rfl) ?_)))
        refine Tops_step rfl (OpT_bin rfl rfl rfl rfl rfl (bin_neq_i (a := packed1.2) (b := (0 : Int)))) ?_
        refine Tops_step rfl (OpT_move rfl rfl rfl rfl) ?_
        obtain ⟨hg26, h⟩ := chk_e h
        replace hg26 := not_t hg26
        refine Tops_yes rfl rfl (congrArg (fun b => some (Value.bool b)) hg26) (OpT_move rfl rfl rfl rfl) ?_
        rintro _ rfl
        refine Tops_yes rfl rfl (congrArg (fun b => some (Value.bool b)) hg26) (OpT_bin rfl rfl rfl rfl rfl (bin_neq_i (a := packed2.2) (b := (0 : Int)))) ?_
        rintro _ rfl
        refine Tops_step rfl (OpT_pickF rfl rfl rfl (congrArg (fun b => some (Value.bool b)) hg26) rfl) ?_
        refine Tops_step rfl (OpT_move rfl rfl rfl rfl) ?_
        obtain ⟨hg27, h⟩ := chk_e h
        replace hg27 := not_t hg27
        refine Tops_yes rfl rfl (congrArg (fun b => some (Value.bool b)) hg27) (OpT_move rfl rfl rfl rfl) ?_
        rintro _ rfl
        refine Tops_yes rfl rfl (congrArg (fun b => some (Value.bool b)) hg27) (OpT_lenO rfl rfl rfl rfl Try.underlying29 (i := 2) rfl) ?_
        rintro _ rfl
        refine Tops_yes rfl rfl (congrArg (fun b => some (Value.bool b)) hg27) (OpT_loadC rfl rfl rfl rfl tyF27 (i := 0) rfl rfl) ?_
        rintro _ rfl
        refine Tops_yes rfl rfl (congrArg (fun b => some (Value.bool b)) hg27) (OpT_lenS rfl rfl rfl rfl Try.underlying27 (i := 0) rfl) ?_
        rintro _ rfl
        refine Tops_yes rfl rfl (congrArg (fun b => some (Value.bool b)) hg27) (OpT_bin rfl rfl rfl rfl rfl (bin_neq_i (a := len packed1.1) (b := len m2))) ?_
        rintro _ rfl
        refine Tops_step rfl (OpT_pickF rfl rfl rfl (congrArg (fun b => some (Value.bool b)) hg27) rfl) ?_
        refine Tops_step rfl (OpT_move rfl rfl rfl rfl) ?_
        obtain ⟨hg28, h⟩ := chk_e h
        replace hg28 := not_t hg28
        refine Tops_yes rfl rfl (congrArg (fun b => some (Value.bool b)) hg28) (OpT_move rfl rfl rfl rfl) ?_
        rintro _ rfl
        refine Tops_yes rfl rfl (congrArg (fun b => some (Value.bool b)) hg28) (OpT_lenO rfl rfl rfl rfl Try.underlying49 (i := 3) rfl) ?_
        rintro _ rfl
        refine Tops_yes rfl rfl (congrArg (fun b => some (Value.bool b)) hg28) (OpT_loadC rfl rfl rfl rfl tyF27 (i := 0) rfl rfl) ?_
        rintro _ rfl
        refine Tops_yes rfl rfl (congrArg (fun b => some (Value.bool b)) hg28) (OpT_lenS rfl rfl rfl rfl Try.underlying27 (i := 0) rfl) ?_
        rintro _ rfl
        refine Tops_yes rfl rfl (congrArg (fun b => some (Value.bool b)) hg28) (OpT_bin rfl rfl rfl rfl rfl (bin_mul_i (a := (16 : Int)) (b := len m2))) ?_
        rintro _ rfl
        refine Tops_yes rfl rfl (congrArg (fun b => some (Value.bool b)) hg28) (OpT_bin rfl rfl rfl rfl rfl (bin_neq_i (a := len packed2.1) (b := wi ((16 : Int) * (len m2))))) ?_
        rintro _ rfl
        refine Tops_step rfl (OpT_pickF rfl rfl rfl (congrArg (fun b => some (Value.bool b)) hg28) rfl) ?_
        refine Tops_nil (Tk_wkS (fr' := [(1, some (vI (wi ((64 : Int) + pick1)))), (2, some (vI pick4)), (5, some (vB wrap)), (6, some (.pointer (some ⟨b1, 0, none⟩))), (21, some (.func (.func 17) #[] #[.pointer (some ⟨b1, 0, none⟩)])), (24, some (.pointer (some ⟨b3, 0, none⟩))), (25, some (v12)), (26, some (v13)), (275, some (vB ((len packed2.1) != (wi ((16 : Int) * (len m2))))))]) (own' := [some (cellsR b1 27 [v8]), some (cellsR b3 33 [vI pick3, vB wrap]), some (rowS PutPackedS v12 packed1.1), some (rowS u8S v13 packed2.1)]) (shr' := [Fact.sl SegS v8 m2]) [1, 2, 5, 6, 21, 24, 25, 26, 275] [0, 1, 2, 3] [0] rfl rfl rfl rfl ?_)
        obtain ⟨hg29, h⟩ := chk_e h
        replace hg29 := not_t hg29
        refine Tk_condF (congrArg (fun b => some (Value.bool b)) hg29) ?_
        refine Tk_skip (Tk_seq (Tk_seq (Tk_region (Tops_step rfl (OpT_assign rfl rfl rfl rfl) ?_))))
        refine Tops_nil (Tk_wkS (fr' := [(1, some (vI (wi ((64 : Int) + pick1)))), (2, some (vI pick4)), (5, some (vB wrap)), (6, some (.pointer (some ⟨b1, 0, none⟩))), (21, some (.func (.func 17) #[] #[.pointer (some ⟨b1, 0, none⟩)])), (24, some (.pointer (some ⟨b3, 0, none⟩))), (25, some (v12)), (26, some (v13)), (27, some (vI (0 : Int)))]) (own' := [some (cellsR b1 27 [v8]), some (cellsR b3 33 [vI pick3, vB wrap]), some (rowS PutPackedS v12 packed1.1), some (rowS u8S v13 packed2.1)]) (shr' := [Fact.sl SegS v8 m2]) [1, 2, 5, 6, 21, 24, 25, 26, 27] [0, 1, 2, 3] [0] rfl rfl rfl rfl ?_)
        refine Tk_block (Tk_loopS (σ := (List Seg) × Pos × (List PutPacked) × (List UInt8) × Int × Value × Value × Value) [1, 2, 5, 6, 21, 24, 25, 26, 27] [0, 1, 2, 3] [0] (fun s => ⟨[(1, some (vI (wi ((64 : Int) + pick1)))), (2, some (vI pick4)), (5, some (vB wrap)), (6, some (.pointer (some ⟨b1, 0, none⟩))), (21, some (.func (.func 17) #[] #[.pointer (some ⟨b1, 0, none⟩)])), (24, some (.pointer (some ⟨b3, 0, none⟩))), (25, some (s.2.2.2.2.2.2.1)), (26, some (s.2.2.2.2.2.2.2)), (27, some (vI s.2.2.2.2.1))], [some (cellsR b1 27 [s.2.2.2.2.2.1]), some (cellsR b3 33 [vI s.2.1.At, vB s.2.1.Wrap]), some (rowS PutPackedS s.2.2.2.2.2.2.1 s.2.2.1), some (rowS u8S s.2.2.2.2.2.2.2 s.2.2.2.1)], [Fact.sl SegS s.2.2.2.2.2.1 s.1]⟩) (fun nf3 s => law09zBuildTellsL3 wrap pick1 pick4 nf3 s.1 s.2.1 s.2.2.1 s.2.2.2.1 s.2.2.2.2.1 = some true) fuel (m2, (Pos.mk pick3 wrap), packed1.1, packed2.1, (0 : Int), v8, v12, v13) h rfl rfl rfl rfl rfl (fun s h => by cases h) ?_)
        rintro nf3 ⟨m3, m4, l4, l5, i3, v14, v15, v16⟩ h
        replace h : law09zBuildTellsL3B wrap pick1 pick4 (law09zBuildTellsL3 wrap pick1 pick4 nf3) m3 m4 l4 l5 i3 = some true := h
        unfold law09zBuildTellsL3B at h
        refine Tk_seq (Tk_seq (Tk_region (Tops_step rfl (OpT_move rfl rfl rfl rfl) ?_)))
        refine Tops_step rfl (OpT_loadC rfl rfl rfl rfl tyF27 (i := 0) rfl rfl) ?_
        refine Tops_step rfl (OpT_lenS rfl rfl rfl rfl Try.underlying27 (i := 0) rfl) ?_
        refine Tops_step rfl (OpT_bin rfl rfl rfl rfl rfl (bin_lss_i (a := i3) (b := len m3))) ?_
        refine Tops_nil (Tk_wkS (fr' := [(1, some (vI (wi ((64 : Int) + pick1)))), (2, some (vI pick4)), (5, some (vB wrap)), (6, some (.pointer (some ⟨b1, 0, none⟩))), (21, some (.func (.func 17) #[] #[.pointer (some ⟨b1, 0, none⟩)])), (24, some (.pointer (some ⟨b3, 0, none⟩))), (25, some (v15)), (26, some (v16)), (27, some (vI i3)), (279, some (vB (decide (i3 < (len m3)))))]) (own' := [some (cellsR b1 27 [v14]), some (cellsR b3 33 [vI m4.At, vB m4.Wrap]), some (rowS PutPackedS v15 l4), some (rowS u8S v16 l5)]) (shr' := [Fact.sl SegS v14 m3]) [1, 2, 5, 6, 21, 24, 25, 26, 27, 279] [0, 1, 2, 3] [0] rfl rfl rfl rfl ?_)
        rcases Bool.eq_false_or_eq_true (decide (i3 < (len m3))) with hg30 | hg30
        ·replace h := br_t hg30 h
         refine Tk_condT (congrArg (fun b => some (Value.bool b)) hg30) ?_
         refine Tk_skip (Tk_seq (Tk_block (Tk_seq (Tk_region (Tops_step rfl (OpT_move rfl rfl rfl rfl) ?_)))))
         refine Tops_step rfl (OpT_move rfl rfl rfl rfl) ?_
         obtain ⟨p7, hx26, h⟩ := ob_e h
         refine Tops_step rfl (OpT_idxO rfl rfl rfl rfl rfl slF29 (i := 2) rfl hx26) ?_
         refine Tops_step rfl (OpT_fieldR (S := PutPackedS) rfl rfl rfl rfl fldF46x1 (i := 2) rfl hx26) ?_
         refine Tops_step rfl (OpT_loadOFA (S := PutPackedS) (vs := [vU64 p7.Desc.Addr, vU32 p7.Desc.Len, vU16 p7.Desc.ID, vU16 p7.Desc.Flags]) rfl rfl rfl rfl rfl tyF44 (i := 2) rfl hx26 rfl rfl) ?_
         refine Tops_ex rfl (OpT_alloc rfl rfl rfl tyZ44) fun b4 => ?_
         refine Tops_step rfl (OpT_storeC (cs' := [vU64 p7.Desc.Addr, vU32 p7.Desc.Len, vU16 p7.Desc.ID, vU16 p7.Desc.Flags]) rfl rfl rfl rfl tyF44 (i := 4) rfl rfl rfl (one_of rfl) rfl) ?_
         refine Tops_nil (Tk_wkS (fr' := [(1, some (vI (wi ((64 : Int) + pick1)))), (2, some (vI pick4)), (5, some (vB wrap)), (6, some (.pointer (some ⟨b1, 0, none⟩))), (21, some (.func (.func 17) #[] #[.pointer (some ⟨b1, 0, none⟩)])), (24, some (.pointer (some ⟨b3, 0, none⟩))), (25, some (v15)), (26, some (v16)), (27, some (vI i3)), (28, some (.pointer (some ⟨b4, 0, none⟩)))]) (own' := [some (cellsR b1 27 [v14]), some (cellsR b3 33 [vI m4.At, vB m4.Wrap]), some (rowS PutPackedS v15 l4), some (rowS u8S v16 l5), some (cellsR b4 44 [vU64 p7.Desc.Addr, vU32 p7.Desc.Len, vU16 p7.Desc.ID, vU16 p7.Desc.Flags])]) (shr' := [Fact.sl SegS v14 m3]) [1, 2, 5, 6, 21, 24, 25, 26, 27, 28] [0, 1, 2, 3, 4] [0] rfl rfl rfl rfl ?_)
         refine Tk_seq (Tk_region (Tops_step rfl (OpT_fieldC rfl rfl rfl rfl fldF33x0) ?_))
         refine Tops_step rfl (OpT_loadC rfl rfl rfl rfl tyF3 (i := 1) rfl rfl) ?_
         refine Tops_step rfl (OpT_move rfl rfl rfl rfl) ?_
         refine Tops_step rfl (OpT_bin rfl rfl rfl rfl rfl (bin_add_i (a := m4.At) (b := i3))) ?_
         refine Tops_step rfl (OpT_assign rfl rfl rfl rfl) ?_
         refine Tops_nil (Tk_wkS (fr' := [(1, some (vI (wi ((64 : Int) + pick1)))), (2, some (vI pick4)), (5, some (vB wrap)), (6, some (.pointer (some ⟨b1, 0, none⟩))), (21, some (.func (.func 17) #[] #[.pointer (some ⟨b1, 0, none⟩)])), (24, some (.pointer (some ⟨b3, 0, none⟩))), (25, some (v15)), (26, some (v16)), (27, some (vI i3)), (28, some (.pointer (some ⟨b4, 0, none⟩))), (29, some (vI (wi (m4.At + i3))))]) (own' := [some (cellsR b1 27 [v14]), some (cellsR b3 33 [vI m4.At, vB m4.Wrap]), some (rowS PutPackedS v15 l4), some (rowS u8S v16 l5), some (cellsR b4 44 [vU64 p7.Desc.Addr, vU32 p7.Desc.Len, vU16 p7.Desc.ID, vU16 p7.Desc.Flags])]) (shr' := [Fact.sl SegS v14 m3]) [1, 2, 5, 6, 21, 24, 25, 26, 27, 28, 29] [0, 1, 2, 3, 4] [0] rfl rfl rfl rfl ?_)
         refine Tk_seq (Tk_seq (Tk_drawT (by kernel_rfl) ?_))
         refine TA_tb [0, 0, 3, 7, 15, 0, 0, 96, 255, 511, 1023, 2047, 1023, 1023, 13311, 29695, 62463, 131071, 262143, 524287, 1048575, 2097151, 1048575, 1048575, 13631487, 30408703, 63963135, 134217727, 268435455, 536870911, 1073741823, 2147483647, 4294967295, 1073741823, 17179869183, 34359738367, 68719476735, 137438953471, 137438953471, 137438953471, 687194767359, 2199023255551, 4398046511103, 8796093022207, 17592186044415, 35184372088831, 70368744177663, 35184372088831, 35184372088831, 35184372088831, 879609302220799, 2146246697418751, 4503599627370495, 9007199254740991, 18014398509481983] (by kernel_rfl) fun htb => ?_
         obtain ⟨p8, hx27, h⟩ := ob_e h
         obtain ⟨hc2, h⟩ := chk_e h
         refine TA_seg (lo := 0) (hi := 8) htb rfl rfl (by kernel_rfl) (fun c L a w => Sat c ⟨[(1, some (vI (wi ((64 : Int) + pick1)))), (2, some (vI pick4)), (5, some (vB wrap)), (6, some (.pointer (some ⟨b1, 0, none⟩))), (21, some (.func (.func 17) #[] #[.pointer (some ⟨b1, 0, none⟩)])), (24, some (.pointer (some ⟨b3, 0, none⟩))), (25, some (v15)), (26, some (v16)), (27, some (vI i3)), (28, some (.pointer (some ⟨b4, 0, none⟩))), (29, some (vI (wi (m4.At + i3)))), (291, bif L 0 then some (v15) else none), (292, bif L 1 then some (vI i3) else none), (293, bif L 2 then some (rowPtr v15 (Int.toNat i3 * 5)) else none), (294, bif L 3 then some (rowPtr v15 (Int.toNat i3 * 5 + 0)) else none), (295, bif L 4 then some (vI p8.At) else none), (296, bif L 5 then some (vI (wi (m4.At + i3))) else none), (297, bif L 6 then some (vI (wi ((64 : Int) + pick1))) else none), (298, bif L 7 then some (vI (remi (wi (m4.At + i3)) (wi ((64 : Int) + pick1)))) else none)], [(some (cellsR b1 27 [v14]) : Option Res), (some (cellsR b3 33 [vI m4.At, vB m4.Wrap]) : Option Res), (some (rowS PutPackedS v15 l4) : Option Res), (some (rowS u8S v16 l5) : Option Res), (some (cellsR b4 44 [vU64 p7.Desc.Addr, vU32 p7.Desc.Len, vU16 p7.Desc.ID, vU16 p7.Desc.Flags]) : Option Res)], [Fact.sl SegS v14 m3]⟩ a w) [([], [2, 3, 4]), ([], [2, 3, 4]), ([0, 1], [3, 4]), ([0, 1, 2], [4]), ([0, 1, 2, 3], []), ([], [7]), ([], [7]), ([5, 6], [])] rfl (by kernel_rfl) ?_ (steps_cons ?_ (steps_cons ?_ (steps_cons ?_ (steps_cons ?_ (steps_cons ?_ (steps_cons ?_ (steps_cons ?_ (steps_cons ?_ (steps_nil))))))))) ?_
         ·intro a w hs
          exact hs.startF [291, 292, 293, 294, 295, 296, 297, 298] [0, 1, 2, 3, 4] [0] rfl rfl rfl rfl
         ·intro L a w hv K Q hK
          have hs := hv
          refine wpOp_go rfl rfl hs (OpT_move rfl rfl rfl rfl) ?_
          rintro _ rfl a' w' hs'
          exact hK a' w' (hs'.putF (i := 11) rfl [0, 1, 2, 3, 4] [0] rfl rfl rfl rfl)
         ·intro L a w hv K Q hK
          have hs := hv
          refine wpOp_go rfl rfl hs (OpT_move rfl rfl rfl rfl) ?_
          rintro _ rfl a' w' hs'
          exact hK a' w' (hs'.putF (i := 12) rfl [0, 1, 2, 3, 4] [0] rfl rfl rfl rfl)
         ·intro L a w hv K Q hK
          have hs := hv
          refine wpOp_go rfl rfl hs (OpT_idxO rfl rfl rfl rfl rfl slF29 (i := 2) rfl hx27) ?_
          rintro _ rfl a' w' hs'
          exact hK a' w' (hs'.putF (i := 13) rfl [0, 1, 2, 3, 4] [0] rfl rfl rfl rfl)
         ·intro L a w hv K Q hK
          have hs := hv
          refine wpOp_go rfl rfl hs (OpT_fieldR (S := PutPackedS) rfl rfl rfl rfl fldF46x0 (i := 2) rfl hx27) ?_
          rintro _ rfl a' w' hs'
          exact hK a' w' (hs'.putF (i := 14) rfl [0, 1, 2, 3, 4] [0] rfl rfl rfl rfl)
         ·intro L a w hv K Q hK
          have hs := hv
          refine wpOp_go rfl rfl hs (OpT_loadOF (S := PutPackedS) rfl rfl rfl rfl rfl tyF3 (i := 2) rfl hx27 rfl rfl) ?_
          rintro _ rfl a' w' hs'
          exact hK a' w' (hs'.putF (i := 15) rfl [0, 1, 2, 3, 4] [0] rfl rfl rfl rfl)
         ·intro L a w hv K Q hK
          have hs := hv
          refine wpOp_go rfl rfl hs (OpT_move rfl rfl rfl rfl) ?_
          rintro _ rfl a' w' hs'
          exact hK a' w' (hs'.putF (i := 16) rfl [0, 1, 2, 3, 4] [0] rfl rfl rfl rfl)
         ·intro L a w hv K Q hK
          have hs := hv
          refine wpOp_go rfl rfl hs (OpT_move rfl rfl rfl rfl) ?_
          rintro _ rfl a' w' hs'
          exact hK a' w' (hs'.putF (i := 17) rfl [0, 1, 2, 3, 4] [0] rfl rfl rfl rfl)
         ·intro L a w hv K Q hK
          have hs := hv
          refine wpOp_go rfl rfl hs (OpT_bin rfl rfl rfl rfl rfl (bin_rem_i (a := wi (m4.At + i3)) (b := wi ((64 : Int) + pick1)) (not_t hc2))) ?_
          rintro _ rfl a' w' hs'
          exact hK a' w' (hs'.putF (i := 18) rfl [0, 1, 2, 3, 4] [0] rfl rfl rfl rfl)
         ·intro L a w hL hv
          rw [allTrue hL] at hv
          have hs := hv
          refine (show TA _ _ _ 8 ⟨[(1, some (vI (wi ((64 : Int) + pick1)))), (2, some (vI pick4)), (5, some (vB wrap)), (6, some (.pointer (some ⟨b1, 0, none⟩))), (21, some (.func (.func 17) #[] #[.pointer (some ⟨b1, 0, none⟩)])), (24, some (.pointer (some ⟨b3, 0, none⟩))), (25, some (v15)), (26, some (v16)), (27, some (vI i3)), (28, some (.pointer (some ⟨b4, 0, none⟩))), (29, some (vI (wi (m4.At + i3)))), (295, some (vI p8.At)), (298, some (vI (remi (wi (m4.At + i3)) (wi ((64 : Int) + pick1)))))], [some (cellsR b1 27 [v14]), some (cellsR b3 33 [vI m4.At, vB m4.Wrap]), some (rowS PutPackedS v15 l4), some (rowS u8S v16 l5), some (cellsR b4 44 [vU64 p7.Desc.Addr, vU32 p7.Desc.Len, vU16 p7.Desc.ID, vU16 p7.Desc.Flags])], [Fact.sl SegS v14 m3]⟩ from ?_) a w (hs.wkS [1, 2, 5, 6, 21, 24, 25, 26, 27, 28, 29, 295, 298] [0, 1, 2, 3, 4] [0] rfl rfl rfl rfl)
          clear hs hL
          refine TA_step htb (by kernel_rfl) rfl rfl (OpT_bin rfl rfl rfl rfl rfl (bin_neq_i (a := p8.At) (b := remi (wi (m4.At + i3)) (wi ((64 : Int) + pick1))))) ?_
          refine TA_step htb (by kernel_rfl) rfl rfl (OpT_move rfl rfl rfl rfl) ?_
          refine TA_wkS (fr' := [(1, some (vI (wi ((64 : Int) + pick1)))), (2, some (vI pick4)), (5, some (vB wrap)), (6, some (.pointer (some ⟨b1, 0, none⟩))), (21, some (.func (.func 17) #[] #[.pointer (some ⟨b1, 0, none⟩)])), (24, some (.pointer (some ⟨b3, 0, none⟩))), (25, some (v15)), (26, some (v16)), (27, some (vI i3)), (28, some (.pointer (some ⟨b4, 0, none⟩))), (29, some (vI (wi (m4.At + i3)))), (300, some (vB (p8.At != (remi (wi (m4.At + i3)) (wi ((64 : Int) + pick1))))))]) (own' := [some (cellsR b1 27 [v14]), some (cellsR b3 33 [vI m4.At, vB m4.Wrap]), some (rowS PutPackedS v15 l4), some (rowS u8S v16 l5), some (cellsR b4 44 [vU64 p7.Desc.Addr, vU32 p7.Desc.Len, vU16 p7.Desc.ID, vU16 p7.Desc.Flags])]) (shr' := [Fact.sl SegS v14 m3]) [1, 2, 5, 6, 21, 24, 25, 26, 27, 28, 29, 300] [0, 1, 2, 3, 4] [0] rfl rfl rfl rfl ?_
          obtain ⟨hg31, h⟩ := chk_e h
          replace hg31 := not_t hg31
          obtain ⟨s3, hx28, h⟩ := ob_e h
          refine TA_seg (lo := 10) (hi := 17) htb rfl rfl (by kernel_rfl) (fun c L a w => ∃ (p9 : Value), ∃ (p10 : Value), Sat c ⟨[(1, some (vI (wi ((64 : Int) + pick1)))), (2, some (vI pick4)), (5, some (vB wrap)), (6, some (.pointer (some ⟨b1, 0, none⟩))), (21, some (.func (.func 17) #[] #[.pointer (some ⟨b1, 0, none⟩)])), (24, some (.pointer (some ⟨b3, 0, none⟩))), (25, some (v15)), (26, some (v16)), (27, some (vI i3)), (28, some (.pointer (some ⟨b4, 0, none⟩))), (29, some (vI (wi (m4.At + i3)))), (300, some (vB (p8.At != (remi (wi (m4.At + i3)) (wi ((64 : Int) + pick1)))))), (301, bif L 10 then some (.pointer (some ⟨b4, 0, none⟩)) else none), (302, bif L 11 then some (vU64 p7.Desc.Addr) else none), (303, bif L 12 then some (v14) else none), (304, bif L 13 then some (vI i3) else none), (305, bif L 14 then some (p9) else none), (306, bif L 15 then some (p10) else none), (307, bif L 16 then some (vU64 s3.At) else none)], [(some (cellsR b1 27 [v14]) : Option Res), (some (cellsR b3 33 [vI m4.At, vB m4.Wrap]) : Option Res), (some (rowS PutPackedS v15 l4) : Option Res), (some (rowS u8S v16 l5) : Option Res), (some (cellsR b4 44 [vU64 p7.Desc.Addr, vU32 p7.Desc.Len, vU16 p7.Desc.ID, vU16 p7.Desc.Flags]) : Option Res)], [Fact.sl SegS v14 m3, (bif L 14 then Fact.pt SegS p9 s3 else Fact.tt), (bif L 15 then Fact.pt u64S p10 s3.At else Fact.tt)]⟩ a w) [([], [11]), ([10], []), ([], [14, 15, 16]), ([], [14, 15, 16]), ([12, 13], [15, 16]), ([12, 13, 14], [16]), ([12, 13, 14, 15], [])] rfl (by kernel_rfl) ?_ (steps_cons ?_ (steps_cons ?_ (steps_cons ?_ (steps_cons ?_ (steps_cons ?_ (steps_cons ?_ (steps_cons ?_ (steps_nil)))))))) ?_
          ·intro a w hs
           exact ⟨undef, undef, hs.startF [301, 302, 303, 304, 305, 306, 307] [0, 1, 2, 3, 4] [0, 1, 2] rfl rfl rfl rfl⟩
          ·intro L a w hv K Q hK
           obtain ⟨p9, p10, hs⟩ := hv
           refine wpOp_yes rfl rfl rfl hs (congrArg (fun b => some (Value.bool b)) hg31) (OpT_fieldC rfl rfl rfl rfl fldF44x0) ?_
           rintro _ rfl a' w' hs'
           exact hK a' w' ⟨p9, p10, hs'.putF (i := 12) rfl [0, 1, 2, 3, 4] [0, 1, 2] rfl rfl rfl rfl⟩
          ·intro L a w hv K Q hK
           obtain ⟨p9, p10, hs⟩ := hv
           refine wpOp_yes rfl rfl rfl hs (congrArg (fun b => some (Value.bool b)) hg31) (OpT_loadC rfl rfl rfl rfl tyF34 (i := 4) rfl rfl) ?_
           rintro _ rfl a' w' hs'
           exact hK a' w' ⟨p9, p10, hs'.putF (i := 13) rfl [0, 1, 2, 3, 4] [0, 1, 2] rfl rfl rfl rfl⟩
          ·intro L a w hv K Q hK
           obtain ⟨p9, p10, hs⟩ := hv
           refine wpOp_yes rfl rfl rfl hs (congrArg (fun b => some (Value.bool b)) hg31) (OpT_loadC rfl rfl rfl rfl tyF27 (i := 0) rfl rfl) ?_
           rintro _ rfl a' w' hs'
           exact hK a' w' ⟨p9, p10, hs'.putF (i := 14) rfl [0, 1, 2, 3, 4] [0, 1, 2] rfl rfl rfl rfl⟩
          ·intro L a w hv K Q hK
           obtain ⟨p9, p10, hs⟩ := hv
           refine wpOp_yes rfl rfl rfl hs (congrArg (fun b => some (Value.bool b)) hg31) (OpT_move rfl rfl rfl rfl) ?_
           rintro _ rfl a' w' hs'
           exact hK a' w' ⟨p9, p10, hs'.putF (i := 15) rfl [0, 1, 2, 3, 4] [0, 1, 2] rfl rfl rfl rfl⟩
          ·intro L a w hv K Q hK
           obtain ⟨p9, p10, hs⟩ := hv
           refine wpOp_yes rfl rfl rfl hs (congrArg (fun b => some (Value.bool b)) hg31) (OpT_idxS rfl rfl rfl rfl rfl slF27 (i := 0) rfl hx28) ?_
           rintro _ ⟨p9', rfl⟩ a' w' hs'
           exact hK a' w' ⟨p9', p10, hs'.putF (i := 16) rfl [0, 1, 2, 3, 4] [0, 3, 2] rfl rfl rfl rfl⟩
          ·intro L a w hv K Q hK
           obtain ⟨p9, p10, hs⟩ := hv
           refine wpOp_yes rfl rfl rfl hs (congrArg (fun b => some (Value.bool b)) hg31) (OpT_fieldP (S' := u64S) (y := s3.At) rfl rfl rfl rfl fldF59x0 (i := 1) rfl (by intro h cs hr; subst hr; rfl)) ?_
           rintro _ ⟨p10', rfl⟩ a' w' hs'
           exact hK a' w' ⟨p9, p10', hs'.putF (i := 17) rfl [0, 1, 2, 3, 4] [0, 1, 3] rfl rfl rfl rfl⟩
          ·intro L a w hv K Q hK
           obtain ⟨p9, p10, hs⟩ := hv
           refine wpOp_yes rfl rfl rfl hs (congrArg (fun b => some (Value.bool b)) hg31) (OpT_loadP rfl rfl rfl rfl tyF34 (i := 2) rfl rfl) ?_
           rintro _ rfl a' w' hs'
           exact hK a' w' ⟨p9, p10, hs'.putF (i := 18) rfl [0, 1, 2, 3, 4] [0, 1, 2] rfl rfl rfl rfl⟩
          ·intro L a w hL hv
           rw [allTrue hL] at hv
           obtain ⟨p9, p10, hs⟩ := hv
           refine (show TA _ _ _ 17 ⟨[(1, some (vI (wi ((64 : Int) + pick1)))), (2, some (vI pick4)), (5, some (vB wrap)), (6, some (.pointer (some ⟨b1, 0, none⟩))), (21, some (.func (.func 17) #[] #[.pointer (some ⟨b1, 0, none⟩)])), (24, some (.pointer (some ⟨b3, 0, none⟩))), (25, some (v15)), (26, some (v16)), (27, some (vI i3)), (28, some (.pointer (some ⟨b4, 0, none⟩))), (29, some (vI (wi (m4.At + i3)))), (300, some (vB (p8.At != (remi (wi (m4.At + i3)) (wi ((64 : Int) + pick1)))))), (302, some (vU64 p7.Desc.Addr)), (307, some (vU64 s3.At))], [some (cellsR b1 27 [v14]), some (cellsR b3 33 [vI m4.At, vB m4.Wrap]), some (rowS PutPackedS v15 l4), some (rowS u8S v16 l5), some (cellsR b4 44 [vU64 p7.Desc.Addr, vU32 p7.Desc.Len, vU16 p7.Desc.ID, vU16 p7.Desc.Flags])], [Fact.sl SegS v14 m3]⟩ from ?_) a w (hs.wkS [1, 2, 5, 6, 21, 24, 25, 26, 27, 28, 29, 300, 302, 307] [0, 1, 2, 3, 4] [0] rfl rfl rfl rfl)
           clear hs hL
           refine TA_yes htb (by kernel_rfl) rfl rfl rfl (congrArg (fun b => some (Value.bool b)) hg31) (OpT_bin rfl rfl rfl rfl rfl (bin_neq_u64 (a := p7.Desc.Addr) (b := s3.At))) ?_
           rintro _ rfl
           refine TA_step htb (by kernel_rfl) rfl rfl (OpT_pickF rfl rfl rfl (congrArg (fun b => some (Value.bool b)) hg31) rfl) ?_
           refine TA_step htb (by kernel_rfl) rfl rfl (OpT_move rfl rfl rfl rfl) ?_
           refine TA_wkS (fr' := [(1, some (vI (wi ((64 : Int) + pick1)))), (2, some (vI pick4)), (5, some (vB wrap)), (6, some (.pointer (some ⟨b1, 0, none⟩))), (21, some (.func (.func 17) #[] #[.pointer (some ⟨b1, 0, none⟩)])), (24, some (.pointer (some ⟨b3, 0, none⟩))), (25, some (v15)), (26, some (v16)), (27, some (vI i3)), (28, some (.pointer (some ⟨b4, 0, none⟩))), (29, some (vI (wi (m4.At + i3)))), (310, some (vB (p7.Desc.Addr != s3.At)))]) (own' := [some (cellsR b1 27 [v14]), some (cellsR b3 33 [vI m4.At, vB m4.Wrap]), some (rowS PutPackedS v15 l4), some (rowS u8S v16 l5), some (cellsR b4 44 [vU64 p7.Desc.Addr, vU32 p7.Desc.Len, vU16 p7.Desc.ID, vU16 p7.Desc.Flags])]) (shr' := [Fact.sl SegS v14 m3]) [1, 2, 5, 6, 21, 24, 25, 26, 27, 28, 29, 310] [0, 1, 2, 3, 4] [0] rfl rfl rfl rfl ?_
           obtain ⟨hg32, h⟩ := chk_e h
           replace hg32 := not_t hg32
           obtain ⟨s4, hx29, h⟩ := ob_e h
           refine TA_seg (lo := 20) (hi := 27) htb rfl rfl (by kernel_rfl) (fun c L a w => ∃ (p11 : Value), ∃ (p12 : Value), Sat c ⟨[(1, some (vI (wi ((64 : Int) + pick1)))), (2, some (vI pick4)), (5, some (vB wrap)), (6, some (.pointer (some ⟨b1, 0, none⟩))), (21, some (.func (.func 17) #[] #[.pointer (some ⟨b1, 0, none⟩)])), (24, some (.pointer (some ⟨b3, 0, none⟩))), (25, some (v15)), (26, some (v16)), (27, some (vI i3)), (28, some (.pointer (some ⟨b4, 0, none⟩))), (29, some (vI (wi (m4.At + i3)))), (310, some (vB (p7.Desc.Addr != s3.At))), (311, bif L 20 then some (.pointer (some ⟨b4, 1, none⟩)) else none), (312, bif L 21 then some (vU32 p7.Desc.Len) else none), (313, bif L 22 then some (v14) else none), (314, bif L 23 then some (vI i3) else none), (315, bif L 24 then some (p11) else none), (316, bif L 25 then some (p12) else none), (317, bif L 26 then some (vU32 s4.Len) else none)], [(some (cellsR b1 27 [v14]) : Option Res), (some (cellsR b3 33 [vI m4.At, vB m4.Wrap]) : Option Res), (some (rowS PutPackedS v15 l4) : Option Res), (some (rowS u8S v16 l5) : Option Res), (some (cellsR b4 44 [vU64 p7.Desc.Addr, vU32 p7.Desc.Len, vU16 p7.Desc.ID, vU16 p7.Desc.Flags]) : Option Res)], [Fact.sl SegS v14 m3, (bif L 24 then Fact.pt SegS p11 s4 else Fact.tt), (bif L 25 then Fact.pt u32S p12 s4.Len else Fact.tt)]⟩ a w) [([], [21]), ([20], []), ([], [24, 25, 26]), ([], [24, 25, 26]), ([22, 23], [25, 26]), ([22, 23, 24], [26]), ([22, 23, 24, 25], [])] rfl (by kernel_rfl) ?_ (steps_cons ?_ (steps_cons ?_ (steps_cons ?_ (steps_cons ?_ (steps_cons ?_ (steps_cons ?_ (steps_cons ?_ (steps_nil)))))))) ?_
           ·intro a w hs
            exact ⟨undef, undef, hs.startF [311, 312, 313, 314, 315, 316, 317] [0, 1, 2, 3, 4] [0, 1, 2] rfl rfl rfl rfl⟩
           ·intro L a w hv K Q hK
            obtain ⟨p11, p12, hs⟩ := hv
            refine wpOp_yes rfl rfl rfl hs (congrArg (fun b => some (Value.bool b)) hg32) (OpT_fieldC rfl rfl rfl rfl fldF44x1) ?_
            rintro _ rfl a' w' hs'
            exact hK a' w' ⟨p11, p12, hs'.putF (i := 12) rfl [0, 1, 2, 3, 4] [0, 1, 2] rfl rfl rfl rfl⟩
           ·intro L a w hv K Q hK
            obtain ⟨p11, p12, hs⟩ := hv
            refine wpOp_yes rfl rfl rfl hs (congrArg (fun b => some (Value.bool b)) hg32) (OpT_loadC rfl rfl rfl rfl tyF35 (i := 4) rfl rfl) ?_
            rintro _ rfl a' w' hs'
            exact hK a' w' ⟨p11, p12, hs'.putF (i := 13) rfl [0, 1, 2, 3, 4] [0, 1, 2] rfl rfl rfl rfl⟩
           ·intro L a w hv K Q hK
            obtain ⟨p11, p12, hs⟩ := hv
            refine wpOp_yes rfl rfl rfl hs (congrArg (fun b => some (Value.bool b)) hg32) (OpT_loadC rfl rfl rfl rfl tyF27 (i := 0) rfl rfl) ?_
            rintro _ rfl a' w' hs'
            exact hK a' w' ⟨p11, p12, hs'.putF (i := 14) rfl [0, 1, 2, 3, 4] [0, 1, 2] rfl rfl rfl rfl⟩
           ·intro L a w hv K Q hK
            obtain ⟨p11, p12, hs⟩ := hv
            refine wpOp_yes rfl rfl rfl hs (congrArg (fun b => some (Value.bool b)) hg32) (OpT_move rfl rfl rfl rfl) ?_
            rintro _ rfl a' w' hs'
            exact hK a' w' ⟨p11, p12, hs'.putF (i := 15) rfl [0, 1, 2, 3, 4] [0, 1, 2] rfl rfl rfl rfl⟩
           ·intro L a w hv K Q hK
            obtain ⟨p11, p12, hs⟩ := hv
            refine wpOp_yes rfl rfl rfl hs (congrArg (fun b => some (Value.bool b)) hg32) (OpT_idxS rfl rfl rfl rfl rfl slF27 (i := 0) rfl hx29) ?_
            rintro _ ⟨p11', rfl⟩ a' w' hs'
            exact hK a' w' ⟨p11', p12, hs'.putF (i := 16) rfl [0, 1, 2, 3, 4] [0, 3, 2] rfl rfl rfl rfl⟩
           ·intro L a w hv K Q hK
            obtain ⟨p11, p12, hs⟩ := hv
            refine wpOp_yes rfl rfl rfl hs (congrArg (fun b => some (Value.bool b)) hg32) (OpT_fieldP (S' := u32S) (y := s4.Len) rfl rfl rfl rfl fldF59x1 (i := 1) rfl (by intro h cs hr; subst hr; rfl)) ?_
            rintro _ ⟨p12', rfl⟩ a' w' hs'
            exact hK a' w' ⟨p11, p12', hs'.putF (i := 17) rfl [0, 1, 2, 3, 4] [0, 1, 3] rfl rfl rfl rfl⟩
           ·intro L a w hv K Q hK
            obtain ⟨p11, p12, hs⟩ := hv
            refine wpOp_yes rfl rfl rfl hs (congrArg (fun b => some (Value.bool b)) hg32) (OpT_loadP rfl rfl rfl rfl tyF35 (i := 2) rfl rfl) ?_
            rintro _ rfl a' w' hs'
            exact hK a' w' ⟨p11, p12, hs'.putF (i := 18) rfl [0, 1, 2, 3, 4] [0, 1, 2] rfl rfl rfl rfl⟩
           ·intro L a w hL hv
            rw [allTrue hL] at hv
            obtain ⟨p11, p12, hs⟩ := hv
            refine (show TA _ _ _ 27 ⟨[(1, some (vI (wi ((64 : Int) + pick1)))), (2, some (vI pick4)), (5, some (vB wrap)), (6, some (.pointer (some ⟨b1, 0, none⟩))), (21, some (.func (.func 17) #[] #[.pointer (some ⟨b1, 0, none⟩)])), (24, some (.pointer (some ⟨b3, 0, none⟩))), (25, some (v15)), (26, some (v16)), (27, some (vI i3)), (28, some (.pointer (some ⟨b4, 0, none⟩))), (29, some (vI (wi (m4.At + i3)))), (310, some (vB (p7.Desc.Addr != s3.At))), (312, some (vU32 p7.Desc.Len)), (317, some (vU32 s4.Len))], [some (cellsR b1 27 [v14]), some (cellsR b3 33 [vI m4.At, vB m4.Wrap]), some (rowS PutPackedS v15 l4), some (rowS u8S v16 l5), some (cellsR b4 44 [vU64 p7.Desc.Addr, vU32 p7.Desc.Len, vU16 p7.Desc.ID, vU16 p7.Desc.Flags])], [Fact.sl SegS v14 m3]⟩ from ?_) a w (hs.wkS [1, 2, 5, 6, 21, 24, 25, 26, 27, 28, 29, 310, 312, 317] [0, 1, 2, 3, 4] [0] rfl rfl rfl rfl)
            clear hs hL
            refine TA_yes htb (by kernel_rfl) rfl rfl rfl (congrArg (fun b => some (Value.bool b)) hg32) (OpT_bin rfl rfl rfl rfl rfl (bin_neq_u32 (a := p7.Desc.Len) (b := s4.Len))) ?_
            rintro _ rfl
            refine TA_step htb (by kernel_rfl) rfl rfl (OpT_pickF rfl rfl rfl (congrArg (fun b => some (Value.bool b)) hg32) rfl) ?_
            refine TA_step htb (by kernel_rfl) rfl rfl (OpT_move rfl rfl rfl rfl) ?_
            refine TA_wkS (fr' := [(1, some (vI (wi ((64 : Int) + pick1)))), (2, some (vI pick4)), (5, some (vB wrap)), (6, some (.pointer (some ⟨b1, 0, none⟩))), (21, some (.func (.func 17) #[] #[.pointer (some ⟨b1, 0, none⟩)])), (24, some (.pointer (some ⟨b3, 0, none⟩))), (25, some (v15)), (26, some (v16)), (27, some (vI i3)), (28, some (.pointer (some ⟨b4, 0, none⟩))), (29, some (vI (wi (m4.At + i3)))), (320, some (vB (p7.Desc.Len != s4.Len)))]) (own' := [some (cellsR b1 27 [v14]), some (cellsR b3 33 [vI m4.At, vB m4.Wrap]), some (rowS PutPackedS v15 l4), some (rowS u8S v16 l5), some (cellsR b4 44 [vU64 p7.Desc.Addr, vU32 p7.Desc.Len, vU16 p7.Desc.ID, vU16 p7.Desc.Flags])]) (shr' := [Fact.sl SegS v14 m3]) [1, 2, 5, 6, 21, 24, 25, 26, 27, 28, 29, 320] [0, 1, 2, 3, 4] [0] rfl rfl rfl rfl ?_
            obtain ⟨hg33, h⟩ := chk_e h
            replace hg33 := not_t hg33
            refine TA_seg (lo := 30) (hi := 34) htb rfl rfl (by kernel_rfl) (fun c L a w => Sat c ⟨[(1, some (vI (wi ((64 : Int) + pick1)))), (2, some (vI pick4)), (5, some (vB wrap)), (6, some (.pointer (some ⟨b1, 0, none⟩))), (21, some (.func (.func 17) #[] #[.pointer (some ⟨b1, 0, none⟩)])), (24, some (.pointer (some ⟨b3, 0, none⟩))), (25, some (v15)), (26, some (v16)), (27, some (vI i3)), (28, some (.pointer (some ⟨b4, 0, none⟩))), (29, some (vI (wi (m4.At + i3)))), (320, some (vB (p7.Desc.Len != s4.Len))), (321, bif L 30 then some (.pointer (some ⟨b4, 2, none⟩)) else none), (322, bif L 31 then some (vU16 p7.Desc.ID) else none), (323, bif L 32 then some (vI (i16 p7.Desc.ID)) else none), (324, bif L 33 then some (vI pick4) else none)], [(some (cellsR b1 27 [v14]) : Option Res), (some (cellsR b3 33 [vI m4.At, vB m4.Wrap]) : Option Res), (some (rowS PutPackedS v15 l4) : Option Res), (some (rowS u8S v16 l5) : Option Res), (some (cellsR b4 44 [vU64 p7.Desc.Addr, vU32 p7.Desc.Len, vU16 p7.Desc.ID, vU16 p7.Desc.Flags]) : Option Res)], [Fact.sl SegS v14 m3]⟩ a w) [([], [31, 32]), ([30], [32]), ([30, 31], []), ([], [])] rfl (by kernel_rfl) ?_ (steps_cons ?_ (steps_cons ?_ (steps_cons ?_ (steps_cons ?_ (steps_nil))))) ?_
            ·intro a w hs
             exact hs.startF [321, 322, 323, 324] [0, 1, 2, 3, 4] [0] rfl rfl rfl rfl
            ·intro L a w hv K Q hK
             have hs := hv
             refine wpOp_yes rfl rfl rfl hs (congrArg (fun b => some (Value.bool b)) hg33) (OpT_fieldC rfl rfl rfl rfl fldF44x2) ?_
             rintro _ rfl a' w' hs'
             exact hK a' w' (hs'.putF (i := 12) rfl [0, 1, 2, 3, 4] [0] rfl rfl rfl rfl)
            ·intro L a w hv K Q hK
             have hs := hv
             refine wpOp_yes rfl rfl rfl hs (congrArg (fun b => some (Value.bool b)) hg33) (OpT_loadC rfl rfl rfl rfl tyF36 (i := 4) rfl rfl) ?_
             rintro _ rfl a' w' hs'
             exact hK a' w' (hs'.putF (i := 13) rfl [0, 1, 2, 3, 4] [0] rfl rfl rfl rfl)
            ·intro L a w hv K Q hK
             have hs := hv
             refine wpOp_yes rfl rfl rfl hs (congrArg (fun b => some (Value.bool b)) hg33) (OpT_cnv rfl rfl rfl rfl (cnv_u16_i (n := p7.Desc.ID) Try.underlying36 Try.underlying3)) ?_
             rintro _ rfl a' w' hs'
             exact hK a' w' (hs'.putF (i := 14) rfl [0, 1, 2, 3, 4] [0] rfl rfl rfl rfl)
            ·intro L a w hv K Q hK
             have hs := hv
             refine wpOp_yes rfl rfl rfl hs (congrArg (fun b => some (Value.bool b)) hg33) (OpT_move rfl rfl rfl rfl) ?_
             rintro _ rfl a' w' hs'
             exact hK a' w' (hs'.putF (i := 15) rfl [0, 1, 2, 3, 4] [0] rfl rfl rfl rfl)
            ·intro L a w hL hv
             rw [allTrue hL] at hv
             have hs := hv
             refine (show TA _ _ _ 34 ⟨[(1, some (vI (wi ((64 : Int) + pick1)))), (2, some (vI pick4)), (5, some (vB wrap)), (6, some (.pointer (some ⟨b1, 0, none⟩))), (21, some (.func (.func 17) #[] #[.pointer (some ⟨b1, 0, none⟩)])), (24, some (.pointer (some ⟨b3, 0, none⟩))), (25, some (v15)), (26, some (v16)), (27, some (vI i3)), (28, some (.pointer (some ⟨b4, 0, none⟩))), (29, some (vI (wi (m4.At + i3)))), (320, some (vB (p7.Desc.Len != s4.Len))), (323, some (vI (i16 p7.Desc.ID))), (324, some (vI pick4))], [some (cellsR b1 27 [v14]), some (cellsR b3 33 [vI m4.At, vB m4.Wrap]), some (rowS PutPackedS v15 l4), some (rowS u8S v16 l5), some (cellsR b4 44 [vU64 p7.Desc.Addr, vU32 p7.Desc.Len, vU16 p7.Desc.ID, vU16 p7.Desc.Flags])], [Fact.sl SegS v14 m3]⟩ from ?_) a w (hs.wkS [1, 2, 5, 6, 21, 24, 25, 26, 27, 28, 29, 320, 323, 324] [0, 1, 2, 3, 4] [0] rfl rfl rfl rfl)
             clear hs hL
             refine TA_yes htb (by kernel_rfl) rfl rfl rfl (congrArg (fun b => some (Value.bool b)) hg33) (OpT_bin rfl rfl rfl rfl rfl (bin_neq_i (a := i16 p7.Desc.ID) (b := pick4))) ?_
             rintro _ rfl
             refine TA_step htb (by kernel_rfl) rfl rfl (OpT_pickF rfl rfl rfl (congrArg (fun b => some (Value.bool b)) hg33) rfl) ?_
             refine TA_step htb (by kernel_rfl) rfl rfl (OpT_move rfl rfl rfl rfl) ?_
             refine TA_wkS (fr' := [(1, some (vI (wi ((64 : Int) + pick1)))), (2, some (vI pick4)), (5, some (vB wrap)), (6, some (.pointer (some ⟨b1, 0, none⟩))), (21, some (.func (.func 17) #[] #[.pointer (some ⟨b1, 0, none⟩)])), (24, some (.pointer (some ⟨b3, 0, none⟩))), (25, some (v15)), (26, some (v16)), (27, some (vI i3)), (28, some (.pointer (some ⟨b4, 0, none⟩))), (29, some (vI (wi (m4.At + i3)))), (327, some (vB ((i16 p7.Desc.ID) != pick4)))]) (own' := [some (cellsR b1 27 [v14]), some (cellsR b3 33 [vI m4.At, vB m4.Wrap]), some (rowS PutPackedS v15 l4), some (rowS u8S v16 l5), some (cellsR b4 44 [vU64 p7.Desc.Addr, vU32 p7.Desc.Len, vU16 p7.Desc.ID, vU16 p7.Desc.Flags])]) (shr' := [Fact.sl SegS v14 m3]) [1, 2, 5, 6, 21, 24, 25, 26, 27, 28, 29, 327] [0, 1, 2, 3, 4] [0] rfl rfl rfl rfl ?_
             obtain ⟨hg34, h⟩ := chk_e h
             replace hg34 := not_t hg34
             refine TA_seg (lo := 37) (hi := 41) htb rfl rfl (by kernel_rfl) (fun c L a w => Sat c ⟨[(1, some (vI (wi ((64 : Int) + pick1)))), (2, some (vI pick4)), (5, some (vB wrap)), (6, some (.pointer (some ⟨b1, 0, none⟩))), (21, some (.func (.func 17) #[] #[.pointer (some ⟨b1, 0, none⟩)])), (24, some (.pointer (some ⟨b3, 0, none⟩))), (25, some (v15)), (26, some (v16)), (27, some (vI i3)), (28, some (.pointer (some ⟨b4, 0, none⟩))), (29, some (vI (wi (m4.At + i3)))), (327, some (vB ((i16 p7.Desc.ID) != pick4))), (328, bif L 37 then some (.func (.func 17) #[] #[.pointer (some ⟨b1, 0, none⟩)]) else none), (329, bif L 38 then some (vI i3) else none), (330, bif L 39 then some (.pointer (some ⟨b4, 3, none⟩)) else none), (331, bif L 40 then some (vU16 p7.Desc.Flags) else none)], [(some (cellsR b1 27 [v14]) : Option Res), (some (cellsR b3 33 [vI m4.At, vB m4.Wrap]) : Option Res), (some (rowS PutPackedS v15 l4) : Option Res), (some (rowS u8S v16 l5) : Option Res), (some (cellsR b4 44 [vU64 p7.Desc.Addr, vU32 p7.Desc.Len, vU16 p7.Desc.ID, vU16 p7.Desc.Flags]) : Option Res)], [Fact.sl SegS v14 m3]⟩ a w) [([], []), ([], []), ([], [40]), ([39], [])] rfl (by kernel_rfl) ?_ (steps_cons ?_ (steps_cons ?_ (steps_cons ?_ (steps_cons ?_ (steps_nil))))) ?_
             ·intro a w hs
              exact hs.startF [328, 329, 330, 331] [0, 1, 2, 3, 4] [0] rfl rfl rfl rfl
             ·intro L a w hv K Q hK
              have hs := hv
              refine wpOp_yes rfl rfl rfl hs (congrArg (fun b => some (Value.bool b)) hg34) (OpT_move rfl rfl rfl rfl) ?_
              rintro _ rfl a' w' hs'
              exact hK a' w' (hs'.putF (i := 12) rfl [0, 1, 2, 3, 4] [0] rfl rfl rfl rfl)
             ·intro L a w hv K Q hK
              have hs := hv
              refine wpOp_yes rfl rfl rfl hs (congrArg (fun b => some (Value.bool b)) hg34) (OpT_move rfl rfl rfl rfl) ?_
              rintro _ rfl a' w' hs'
              exact hK a' w' (hs'.putF (i := 13) rfl [0, 1, 2, 3, 4] [0] rfl rfl rfl rfl)
             ·intro L a w hv K Q hK
              have hs := hv
              refine wpOp_yes rfl rfl rfl hs (congrArg (fun b => some (Value.bool b)) hg34) (OpT_fieldC rfl rfl rfl rfl fldF44x3) ?_
              rintro _ rfl a' w' hs'
              exact hK a' w' (hs'.putF (i := 14) rfl [0, 1, 2, 3, 4] [0] rfl rfl rfl rfl)
             ·intro L a w hv K Q hK
              have hs := hv
              refine wpOp_yes rfl rfl rfl hs (congrArg (fun b => some (Value.bool b)) hg34) (OpT_loadC rfl rfl rfl rfl tyF36 (i := 4) rfl rfl) ?_
              rintro _ rfl a' w' hs'
              exact hK a' w' (hs'.putF (i := 15) rfl [0, 1, 2, 3, 4] [0] rfl rfl rfl rfl)
             ·intro L a w hL hv
              rw [allTrue hL] at hv
              have hs := hv
              refine (show TA _ _ _ 41 ⟨[(1, some (vI (wi ((64 : Int) + pick1)))), (2, some (vI pick4)), (5, some (vB wrap)), (6, some (.pointer (some ⟨b1, 0, none⟩))), (21, some (.func (.func 17) #[] #[.pointer (some ⟨b1, 0, none⟩)])), (24, some (.pointer (some ⟨b3, 0, none⟩))), (25, some (v15)), (26, some (v16)), (27, some (vI i3)), (28, some (.pointer (some ⟨b4, 0, none⟩))), (29, some (vI (wi (m4.At + i3)))), (327, some (vB ((i16 p7.Desc.ID) != pick4))), (328, some (.func (.func 17) #[] #[.pointer (some ⟨b1, 0, none⟩)])), (329, some (vI i3)), (331, some (vU16 p7.Desc.Flags))], [some (cellsR b1 27 [v14]), some (cellsR b3 33 [vI m4.At, vB m4.Wrap]), some (rowS PutPackedS v15 l4), some (rowS u8S v16 l5), some (cellsR b4 44 [vU64 p7.Desc.Addr, vU32 p7.Desc.Len, vU16 p7.Desc.ID, vU16 p7.Desc.Flags])], [Fact.sl SegS v14 m3]⟩ from ?_) a w (hs.wkS [1, 2, 5, 6, 21, 24, 25, 26, 27, 28, 29, 327, 328, 329, 331] [0, 1, 2, 3, 4] [0] rfl rfl rfl rfl)
              clear hs hL
              obtain ⟨buildt2, hx30, h⟩ := ob_e h
              refine TA_yes htb (by kernel_rfl) rfl rfl rfl (congrArg (fun b => some (Value.bool b)) hg34) (OpT_callP [5, 1, 2, 3, 4] (w_law09zBuildTells_1 hx30) [0] [0] rfl rfl rfl rfl rfl callee17 rfl rfl rfl rfl rfl) ?_
              rintro _ ⟨_, _, _, ⟨rfl, rfl, rfl⟩, rfl⟩
              refine TA_yes htb (by kernel_rfl) rfl rfl rfl (congrArg (fun b => some (Value.bool b)) hg34) (OpT_not rfl rfl rfl rfl) ?_
              rintro _ rfl
              refine TA_step htb (by kernel_rfl) rfl rfl (OpT_pickF rfl rfl rfl (congrArg (fun b => some (Value.bool b)) hg34) rfl) ?_
              refine TA_step htb (by kernel_rfl) rfl rfl (OpT_move rfl rfl rfl rfl) ?_
              refine TA_wkS (fr' := [(1, some (vI (wi ((64 : Int) + pick1)))), (2, some (vI pick4)), (5, some (vB wrap)), (6, some (.pointer (some ⟨b1, 0, none⟩))), (21, some (.func (.func 17) #[] #[.pointer (some ⟨b1, 0, none⟩)])), (24, some (.pointer (some ⟨b3, 0, none⟩))), (25, some (v15)), (26, some (v16)), (27, some (vI i3)), (28, some (.pointer (some ⟨b4, 0, none⟩))), (29, some (vI (wi (m4.At + i3)))), (335, some (vB (!buildt2)))]) (own' := [some (cellsR b1 27 [v14]), some (cellsR b3 33 [vI m4.At, vB m4.Wrap]), some (rowS PutPackedS v15 l4), some (rowS u8S v16 l5), some (cellsR b4 44 [vU64 p7.Desc.Addr, vU32 p7.Desc.Len, vU16 p7.Desc.ID, vU16 p7.Desc.Flags])]) (shr' := [Fact.sl SegS v14 m3]) [1, 2, 5, 6, 21, 24, 25, 26, 27, 28, 29, 335] [0, 1, 2, 3, 4] [0] rfl rfl rfl rfl ?_
              obtain ⟨hg35, h⟩ := chk_e h
              replace hg35 := not_t hg35
              refine TA_seg (lo := 45) (hi := 52) htb rfl rfl (by kernel_rfl) (fun c L a w => Sat c ⟨[(1, some (vI (wi ((64 : Int) + pick1)))), (2, some (vI pick4)), (5, some (vB wrap)), (6, some (.pointer (some ⟨b1, 0, none⟩))), (21, some (.func (.func 17) #[] #[.pointer (some ⟨b1, 0, none⟩)])), (24, some (.pointer (some ⟨b3, 0, none⟩))), (25, some (v15)), (26, some (v16)), (27, some (vI i3)), (28, some (.pointer (some ⟨b4, 0, none⟩))), (29, some (vI (wi (m4.At + i3)))), (335, some (vB (!buildt2))), (336, bif L 45 then some (.pointer (some ⟨b4, 3, none⟩)) else none), (337, bif L 46 then some (vU16 p7.Desc.Flags) else none), (338, bif L 47 then some (vB wrap) else none), (339, bif L 48 then some (vI (wi (m4.At + i3))) else none), (340, bif L 49 then some (vI (wi ((64 : Int) + pick1))) else none), (341, bif L 50 then some (vB (decide ((wi (m4.At + i3)) ≥ (wi ((64 : Int) + pick1))))) else none), (342, bif L 51 then some (vB (wrap != (decide ((wi (m4.At + i3)) ≥ (wi ((64 : Int) + pick1)))))) else none)], [(some (cellsR b1 27 [v14]) : Option Res), (some (cellsR b3 33 [vI m4.At, vB m4.Wrap]) : Option Res), (some (rowS PutPackedS v15 l4) : Option Res), (some (rowS u8S v16 l5) : Option Res), (some (cellsR b4 44 [vU64 p7.Desc.Addr, vU32 p7.Desc.Len, vU16 p7.Desc.ID, vU16 p7.Desc.Flags]) : Option Res)], [Fact.sl SegS v14 m3]⟩ a w) [([], [46]), ([45], []), ([], [51]), ([], [50, 51]), ([], [50, 51]), ([48, 49], [51]), ([47, 48, 49, 50], [])] rfl (by kernel_rfl) ?_ (steps_cons ?_ (steps_cons ?_ (steps_cons ?_ (steps_cons ?_ (steps_cons ?_ (steps_cons ?_ (steps_cons ?_ (steps_nil)))))))) ?_
              ·intro a w hs
               exact hs.startF [336, 337, 338, 339, 340, 341, 342] [0, 1, 2, 3, 4] [0] rfl rfl rfl rfl
              ·intro L a w hv K Q hK
               have hs := hv
               refine wpOp_yes rfl rfl rfl hs (congrArg (fun b => some (Value.bool b)) hg35) (OpT_fieldC rfl rfl rfl rfl fldF44x3) ?_
               rintro _ rfl a' w' hs'
               exact hK a' w' (hs'.putF (i := 12) rfl [0, 1, 2, 3, 4] [0] rfl rfl rfl rfl)
              ·intro L a w hv K Q hK
               have hs := hv
               refine wpOp_yes rfl rfl rfl hs (congrArg (fun b => some (Value.bool b)) hg35) (OpT_loadC rfl rfl rfl rfl tyF36 (i := 4) rfl rfl) ?_
               rintro _ rfl a' w' hs'
               exact hK a' w' (hs'.putF (i := 13) rfl [0, 1, 2, 3, 4] [0] rfl rfl rfl rfl)
              ·intro L a w hv K Q hK
               have hs := hv
               refine wpOp_yes rfl rfl rfl hs (congrArg (fun b => some (Value.bool b)) hg35) (OpT_move rfl rfl rfl rfl) ?_
               rintro _ rfl a' w' hs'
               exact hK a' w' (hs'.putF (i := 14) rfl [0, 1, 2, 3, 4] [0] rfl rfl rfl rfl)
              ·intro L a w hv K Q hK
               have hs := hv
               refine wpOp_yes rfl rfl rfl hs (congrArg (fun b => some (Value.bool b)) hg35) (OpT_move rfl rfl rfl rfl) ?_
               rintro _ rfl a' w' hs'
               exact hK a' w' (hs'.putF (i := 15) rfl [0, 1, 2, 3, 4] [0] rfl rfl rfl rfl)
              ·intro L a w hv K Q hK
               have hs := hv
               refine wpOp_yes rfl rfl rfl hs (congrArg (fun b => some (Value.bool b)) hg35) (OpT_move rfl rfl rfl rfl) ?_
               rintro _ rfl a' w' hs'
               exact hK a' w' (hs'.putF (i := 16) rfl [0, 1, 2, 3, 4] [0] rfl rfl rfl rfl)
              ·intro L a w hv K Q hK
               have hs := hv
               refine wpOp_yes rfl rfl rfl hs (congrArg (fun b => some (Value.bool b)) hg35) (OpT_bin rfl rfl rfl rfl rfl (bin_geq_i (a := wi (m4.At + i3)) (b := wi ((64 : Int) + pick1)))) ?_
               rintro _ rfl a' w' hs'
               exact hK a' w' (hs'.putF (i := 17) rfl [0, 1, 2, 3, 4] [0] rfl rfl rfl rfl)
              ·intro L a w hv K Q hK
               have hs := hv
               refine wpOp_yes rfl rfl rfl hs (congrArg (fun b => some (Value.bool b)) hg35) (OpT_bin rfl rfl rfl rfl rfl (bin_neq_b (a := wrap) (b := decide ((wi (m4.At + i3)) ≥ (wi ((64 : Int) + pick1)))) Try.underlying4)) ?_
               rintro _ rfl a' w' hs'
               exact hK a' w' (hs'.putF (i := 18) rfl [0, 1, 2, 3, 4] [0] rfl rfl rfl rfl)
              ·intro L a w hL hv
               rw [allTrue hL] at hv
               have hs := hv
               refine (show TA _ _ _ 52 ⟨[(1, some (vI (wi ((64 : Int) + pick1)))), (2, some (vI pick4)), (5, some (vB wrap)), (6, some (.pointer (some ⟨b1, 0, none⟩))), (21, some (.func (.func 17) #[] #[.pointer (some ⟨b1, 0, none⟩)])), (24, some (.pointer (some ⟨b3, 0, none⟩))), (25, some (v15)), (26, some (v16)), (27, some (vI i3)), (335, some (vB (!buildt2))), (337, some (vU16 p7.Desc.Flags)), (342, some (vB (wrap != (decide ((wi (m4.At + i3)) ≥ (wi ((64 : Int) + pick1)))))))], [some (cellsR b1 27 [v14]), some (cellsR b3 33 [vI m4.At, vB m4.Wrap]), some (rowS PutPackedS v15 l4), some (rowS u8S v16 l5)], [Fact.sl SegS v14 m3]⟩ from ?_) a w (hs.wkS [1, 2, 5, 6, 21, 24, 25, 26, 27, 335, 337, 342] [0, 1, 2, 3] [0] rfl rfl rfl rfl)
               clear hs hL
               obtain ⟨avail1, hx31, h⟩ := ob_e h
               refine TA_yes htb (by kernel_rfl) rfl rfl rfl (congrArg (fun b => some (Value.bool b)) hg35) (OpT_call (w_ref_Avail03 hx31) [] [] rfl rfl rfl rfl rfl callee19 rfl rfl rfl rfl) ?_
               rintro _ ⟨_, _, _, ⟨rfl, rfl, rfl⟩, rfl⟩
               refine TA_yes htb (by kernel_rfl) rfl rfl rfl (congrArg (fun b => some (Value.bool b)) hg35) (OpT_not rfl rfl rfl rfl) ?_
               rintro _ rfl
               refine TA_step htb (by kernel_rfl) rfl rfl (OpT_pickF rfl rfl rfl (congrArg (fun b => some (Value.bool b)) hg35) rfl) ?_
               refine TA_end rfl ?_
               refine Tk_wkS (fr' := [(1, some (vI (wi ((64 : Int) + pick1)))), (2, some (vI pick4)), (5, some (vB wrap)), (6, some (.pointer (some ⟨b1, 0, none⟩))), (21, some (.func (.func 17) #[] #[.pointer (some ⟨b1, 0, none⟩)])), (24, some (.pointer (some ⟨b3, 0, none⟩))), (25, some (v15)), (26, some (v16)), (27, some (vI i3)), (345, some (vB (!avail1)))]) (own' := [some (cellsR b1 27 [v14]), some (cellsR b3 33 [vI m4.At, vB m4.Wrap]), some (rowS PutPackedS v15 l4), some (rowS u8S v16 l5)]) (shr' := [Fact.sl SegS v14 m3]) [1, 2, 5, 6, 21, 24, 25, 26, 27, 345] [0, 1, 2, 3] [0] rfl rfl rfl rfl ?_
               obtain ⟨hg36, h⟩ := chk_e h
               replace hg36 := not_t hg36
               refine Tk_condF (congrArg (fun b => some (Value.bool b)) hg36) ?_
               refine Tk_skip (Tk_seq (Tk_region (Tops_step rfl (OpT_move rfl rfl rfl rfl) ?_)))
               refine Tops_step rfl (OpT_move rfl rfl rfl rfl) ?_
               refine Tops_step rfl (OpT_bin rfl rfl rfl rfl rfl (bin_mul_i (a := (16 : Int)) (b := i3))) ?_
               refine Tops_step rfl (OpT_move rfl rfl rfl rfl) ?_
               refine Tops_step rfl (OpT_bin rfl rfl rfl rfl rfl (bin_mul_i (a := (16 : Int)) (b := i3))) ?_
               refine Tops_step rfl (OpT_bin rfl rfl rfl rfl rfl (bin_add_i (a := wi ((16 : Int) * i3)) (b := (16 : Int)))) ?_
               obtain ⟨hc3, h⟩ := chk_e h
               refine Tops_step rfl (OpT_subLH (S := u8S) (l := wi ((16 : Int) * i3)) (m := wi ((wi ((16 : Int) * i3)) + (16 : Int))) rfl rfl rfl rfl rfl rfl slF49 (i := 3) rfl hc3) ?_
               obtain ⟨readpa1, hx32, h⟩ := ob_e h
               refine Tops_exP rfl (OpT_callB [3] [0, 1, 2, 3] (w_ref_ReadPacked03 hx32) [] rfl rfl rfl rfl rfl callee20 rfl rfl rfl rfl rfl rfl (bor_cons (bor_sub (S := u8S) (l := (wi ((16 : Int) * i3))) (m := (wi ((wi ((16 : Int) * i3)) + (16 : Int)))) 3 rfl rfl hc3) bor_nil) (by rintro _ _ _ ⟨rfl, rfl, rfl⟩; exact ⟨rfl, ri_nil⟩)) ?_
               rintro _ ⟨_, _, _, ⟨rfl, rfl, rfl⟩, rfl⟩
               refine Tops_step rfl (OpT_move rfl rfl rfl rfl) ?_
               refine Tops_step rfl (OpT_extract rfl rfl rfl rfl rfl) ?_
               refine Tops_step rfl (OpT_extract rfl rfl rfl rfl rfl) ?_
               refine Tops_ex rfl (OpT_alloc rfl rfl rfl tyZ44) fun b5 => ?_
               refine Tops_step rfl (OpT_storeC (cs' := [vU64 readpa1.1.Addr, vU32 readpa1.1.Len, vU16 readpa1.1.ID, vU16 readpa1.1.Flags]) rfl rfl rfl rfl tyF44 (i := 4) rfl rfl rfl (one_of rfl) rfl) ?_
               refine Tops_step rfl (OpT_assign rfl rfl rfl rfl) ?_
               refine Tops_nil (Tk_wkS (fr' := [(1, some (vI (wi ((64 : Int) + pick1)))), (2, some (vI pick4)), (5, some (vB wrap)), (6, some (.pointer (some ⟨b1, 0, none⟩))), (21, some (.func (.func 17) #[] #[.pointer (some ⟨b1, 0, none⟩)])), (24, some (.pointer (some ⟨b3, 0, none⟩))), (25, some (v15)), (26, some (v16)), (27, some (vI i3)), (30, some (.pointer (some ⟨b5, 0, none⟩)))]) (own' := [some (cellsR b1 27 [v14]), some (cellsR b3 33 [vI m4.At, vB m4.Wrap]), some (rowS PutPackedS v15 l4), some (rowS u8S v16 l5), some (cellsR b5 44 [vU64 readpa1.1.Addr, vU32 readpa1.1.Len, vU16 readpa1.1.ID, vU16 readpa1.1.Flags])]) (shr' := [Fact.sl SegS v14 m3]) [1, 2, 5, 6, 21, 24, 25, 26, 27, 30] [0, 1, 2, 3, 4] [0] rfl rfl rfl rfl ?_)
               refine Tk_seq (Tk_region (Tops_step rfl (OpT_assign rfl rfl rfl rfl) ?_))
               refine Tops_nil (Tk_seq (Tk_seq (Tk_region (Tops_step rfl (OpT_loadC rfl rfl rfl rfl tyF27 (i := 0) rfl rfl) ?_))))
               refine Tops_step rfl (OpT_move rfl rfl rfl rfl) ?_
               obtain ⟨s5, hx33, h⟩ := ob_e h
               refine Tops_ex rfl (OpT_idxS rfl rfl rfl rfl rfl slF27 (i := 0) rfl hx33) fun p13 => ?_
               refine Tops_ex rfl (OpT_fieldP (S' := bS) (y := s5.Write) rfl rfl rfl rfl fldF59x2 (i := 1) rfl (by intro h cs hr; subst hr; rfl)) fun p14 => ?_
               refine Tops_step rfl (OpT_loadP rfl rfl rfl rfl tyF4 (i := 2) rfl rfl) ?_
               refine Tops_nil (Tk_wkS (fr' := [(1, some (vI (wi ((64 : Int) + pick1)))), (2, some (vI pick4)), (5, some (vB wrap)), (6, some (.pointer (some ⟨b1, 0, none⟩))), (21, some (.func (.func 17) #[] #[.pointer (some ⟨b1, 0, none⟩)])), (24, some (.pointer (some ⟨b3, 0, none⟩))), (25, some (v15)), (26, some (v16)), (27, some (vI i3)), (30, some (.pointer (some ⟨b5, 0, none⟩))), (32, some (vU16 (0 : UInt16))), (361, some (vB s5.Write))]) (own' := [some (cellsR b1 27 [v14]), some (cellsR b3 33 [vI m4.At, vB m4.Wrap]), some (rowS PutPackedS v15 l4), some (rowS u8S v16 l5), some (cellsR b5 44 [vU64 readpa1.1.Addr, vU32 readpa1.1.Len, vU16 readpa1.1.ID, vU16 readpa1.1.Flags])]) (shr' := [Fact.sl SegS v14 m3]) [1, 2, 5, 6, 21, 24, 25, 26, 27, 30, 32, 361] [0, 1, 2, 3, 4] [0] rfl rfl rfl rfl ?_)
               refine Tk_join (α := UInt16) (fun s => ⟨[(1, some (vI (wi ((64 : Int) + pick1)))), (2, some (vI pick4)), (5, some (vB wrap)), (6, some (.pointer (some ⟨b1, 0, none⟩))), (21, some (.func (.func 17) #[] #[.pointer (some ⟨b1, 0, none⟩)])), (24, some (.pointer (some ⟨b3, 0, none⟩))), (25, some (v15)), (26, some (v16)), (27, some (vI i3)), (30, some (.pointer (some ⟨b5, 0, none⟩))), (32, some (vU16 s))], [some (cellsR b1 27 [v14]), some (cellsR b3 33 [vI m4.At, vB m4.Wrap]), some (rowS PutPackedS v15 l4), some (rowS u8S v16 l5), some (cellsR b5 44 [vU64 readpa1.1.Addr, vU32 readpa1.1.Len, vU16 readpa1.1.ID, vU16 readpa1.1.Flags])], [Fact.sl SegS v14 m3]⟩) (fun s => law09zBuildTellsJ4 m3 m4 l4 l5 i3 (law09zBuildTellsL3 wrap pick1 pick4 nf3) readpa1 s = some true) ?_ ?_
               ·rintro w1 h
                replace h : law09zBuildTellsJ4 m3 m4 l4 l5 i3 (law09zBuildTellsL3 wrap pick1 pick4 nf3) readpa1 w1 = some true := h
                unfold law09zBuildTellsJ4 at h
                refine Tk_seq (Tk_drawT (by kernel_rfl) ?_)
                refine TA_tb [0, 0, 0, 6, 14, 30, 0, 0, 192, 448, 960, 0, 4094, 8191] (by kernel_rfl) fun htb => ?_
                obtain ⟨s6, hx34, h⟩ := ob_e h
                obtain ⟨s7, hx35, h⟩ := ob_e h
                refine TA_seg (lo := 0) (hi := 13) htb rfl rfl (by kernel_rfl) (fun c L a w => ∃ (p15 : Value), ∃ (p16 : Value), ∃ (p17 : Value), ∃ (p18 : Value), Sat c ⟨[(1, some (vI (wi ((64 : Int) + pick1)))), (2, some (vI pick4)), (5, some (vB wrap)), (6, some (.pointer (some ⟨b1, 0, none⟩))), (21, some (.func (.func 17) #[] #[.pointer (some ⟨b1, 0, none⟩)])), (24, some (.pointer (some ⟨b3, 0, none⟩))), (25, some (v15)), (26, some (v16)), (27, some (vI i3)), (30, some (.pointer (some ⟨b5, 0, none⟩))), (32, some (vU16 w1)), (362, bif L 0 then some (.agg #[vU64 readpa1.1.Addr, vU32 readpa1.1.Len, vU16 readpa1.1.ID, vU16 readpa1.1.Flags]) else none), (363, bif L 1 then some (v14) else none), (364, bif L 2 then some (vI i3) else none), (365, bif L 3 then some (p15) else none), (366, bif L 4 then some (p16) else none), (367, bif L 5 then some (vU64 s6.At) else none), (368, bif L 6 then some (v14) else none), (369, bif L 7 then some (vI i3) else none), (370, bif L 8 then some (p17) else none), (371, bif L 9 then some (p18) else none), (372, bif L 10 then some (vU32 s7.Len) else none), (373, bif L 11 then some (vU16 w1) else none), (374, bif L 12 then some (.agg #[vU64 s6.At, vU32 s7.Len, vU16 (0 : UInt16), vU16 w1]) else none)], [(some (cellsR b1 27 [v14]) : Option Res), (some (cellsR b3 33 [vI m4.At, vB m4.Wrap]) : Option Res), (some (rowS PutPackedS v15 l4) : Option Res), (some (rowS u8S v16 l5) : Option Res), (some (cellsR b5 44 [vU64 readpa1.1.Addr, vU32 readpa1.1.Len, vU16 readpa1.1.ID, vU16 readpa1.1.Flags]) : Option Res)], [Fact.sl SegS v14 m3, (bif L 3 then Fact.pt SegS p15 s6 else Fact.tt), (bif L 4 then Fact.pt u64S p16 s6.At else Fact.tt), (bif L 8 then Fact.pt SegS p17 s7 else Fact.tt), (bif L 9 then Fact.pt u32S p18 s7.Len else Fact.tt)]⟩ a w) [([], []), ([], [3, 4, 5, 12]), ([], [3, 4, 5, 12]), ([1, 2], [4, 5, 12]), ([1, 2, 3], [5, 12]), ([1, 2, 3, 4], [12]), ([], [8, 9, 10, 12]), ([], [8, 9, 10, 12]), ([6, 7], [9, 10, 12]), ([6, 7, 8], [10, 12]), ([6, 7, 8, 9], [12]), ([], [12]), ([1, 2, 3, 4, 5, 6, 7, 8, 9, 10, 11], [])] rfl (by kernel_rfl) ?_ (steps_cons ?_ (steps_cons ?_ (steps_cons ?_ (steps_cons ?_ (steps_cons ?_ (steps_cons ?_ (steps_cons ?_ (steps_cons ?_ (steps_cons ?_ (steps_cons ?_ (steps_cons ?_ (steps_cons ?_ (steps_cons ?_ (steps_nil)))))))))))))) ?_
                ·intro a w hs
                 exact ⟨undef, undef, undef, undef, hs.startF [362, 363, 364, 365, 366, 367, 368, 369, 370, 371, 372, 373, 374] [0, 1, 2, 3, 4] [0, 1, 2, 3, 4] rfl rfl rfl rfl⟩
                ·intro L a w hv K Q hK
                 obtain ⟨p15, p16, p17, p18, hs⟩ := hv
                 refine wpOp_go rfl rfl hs (OpT_loadCA (vs := [vU64 readpa1.1.Addr, vU32 readpa1.1.Len, vU16 readpa1.1.ID, vU16 readpa1.1.Flags]) rfl rfl rfl rfl tyF44 (i := 4) rfl rfl rfl) ?_
                 rintro _ rfl a' w' hs'
                 exact hK a' w' ⟨p15, p16, p17, p18, hs'.putF (i := 11) rfl [0, 1, 2, 3, 4] [0, 1, 2, 3, 4] rfl rfl rfl rfl⟩
                ·intro L a w hv K Q hK
                 obtain ⟨p15, p16, p17, p18, hs⟩ := hv
                 refine wpOp_go rfl rfl hs (OpT_loadC rfl rfl rfl rfl tyF27 (i := 0) rfl rfl) ?_
                 rintro _ rfl a' w' hs'
                 exact hK a' w' ⟨p15, p16, p17, p18, hs'.putF (i := 12) rfl [0, 1, 2, 3, 4] [0, 1, 2, 3, 4] rfl rfl rfl rfl⟩
                ·intro L a w hv K Q hK
                 obtain ⟨p15, p16, p17, p18, hs⟩ := hv
                 refine wpOp_go rfl rfl hs (OpT_move rfl rfl rfl rfl) ?_
                 rintro _ rfl a' w' hs'
                 exact hK a' w' ⟨p15, p16, p17, p18, hs'.putF (i := 13) rfl [0, 1, 2, 3, 4] [0, 1, 2, 3, 4] rfl rfl rfl rfl⟩
                ·intro L a w hv K Q hK
                 obtain ⟨p15, p16, p17, p18, hs⟩ := hv
                 refine wpOp_go rfl rfl hs (OpT_idxS rfl rfl rfl rfl rfl slF27 (i := 0) rfl hx34) ?_
                 rintro _ ⟨p15', rfl⟩ a' w' hs'
                 exact hK a' w' ⟨p15', p16, p17, p18, hs'.putF (i := 14) rfl [0, 1, 2, 3, 4] [0, 5, 2, 3, 4] rfl rfl rfl rfl⟩
                ·intro L a w hv K Q hK
                 obtain ⟨p15, p16, p17, p18, hs⟩ := hv
                 refine wpOp_go rfl rfl hs (OpT_fieldP (S' := u64S) (y := s6.At) rfl rfl rfl rfl fldF59x0 (i := 1) rfl (by intro h cs hr; subst hr; rfl)) ?_
                 rintro _ ⟨p16', rfl⟩ a' w' hs'
                 exact hK a' w' ⟨p15, p16', p17, p18, hs'.putF (i := 15) rfl [0, 1, 2, 3, 4] [0, 1, 5, 3, 4] rfl rfl rfl rfl⟩
                ·intro L a w hv K Q hK
                 obtain ⟨p15, p16, p17, p18, hs⟩ := hv
                 refine wpOp_go rfl rfl hs (OpT_loadP rfl rfl rfl rfl tyF34 (i := 2) rfl rfl) ?_
                 rintro _ rfl a' w' hs'
                 exact hK a' w' ⟨p15, p16, p17, p18, hs'.putF (i := 16) rfl [0, 1, 2, 3, 4] [0, 1, 2, 3, 4] rfl rfl rfl rfl⟩
                ·intro L a w hv K Q hK
                 obtain ⟨p15, p16, p17, p18, hs⟩ := hv
                 refine wpOp_go rfl rfl hs (OpT_loadC rfl rfl rfl rfl tyF27 (i := 0) rfl rfl) ?_
                 rintro _ rfl a' w' hs'
                 exact hK a' w' ⟨p15, p16, p17, p18, hs'.putF (i := 17) rfl [0, 1, 2, 3, 4] [0, 1, 2, 3, 4] rfl rfl rfl rfl⟩
                ·intro L a w hv K Q hK
                 obtain ⟨p15, p16, p17, p18, hs⟩ := hv
                 refine wpOp_go rfl rfl hs (OpT_move rfl rfl rfl rfl) ?_
                 rintro _ rfl a' w' hs'
                 exact hK a' w' ⟨p15, p16, p17, p18, hs'.putF (i := 18) rfl [0, 1, 2, 3, 4] [0, 1, 2, 3, 4] rfl rfl rfl rfl⟩
                ·intro L a w hv K Q hK
                 obtain ⟨p15, p16, p17, p18, hs⟩ := hv
                 refine wpOp_go rfl rfl hs (OpT_idxS rfl rfl rfl rfl rfl slF27 (i := 0) rfl hx35) ?_
                 rintro _ ⟨p17', rfl⟩ a' w' hs'
                 exact hK a' w' ⟨p15, p16, p17', p18, hs'.putF (i := 19) rfl [0, 1, 2, 3, 4] [0, 1, 2, 5, 4] rfl rfl rfl rfl⟩
                ·intro L a w hv K Q hK
                 obtain ⟨p15, p16, p17, p18, hs⟩ := hv
                 refine wpOp_go rfl rfl hs (OpT_fieldP (S' := u32S) (y := s7.Len) rfl rfl rfl rfl fldF59x1 (i := 3) rfl (by intro h cs hr; subst hr; rfl)) ?_
                 rintro _ ⟨p18', rfl⟩ a' w' hs'
                 exact hK a' w' ⟨p15, p16, p17, p18', hs'.putF (i := 20) rfl [0, 1, 2, 3, 4] [0, 1, 2, 3, 5] rfl rfl rfl rfl⟩
                ·intro L a w hv K Q hK
                 obtain ⟨p15, p16, p17, p18, hs⟩ := hv
                 refine wpOp_go rfl rfl hs (OpT_loadP rfl rfl rfl rfl tyF35 (i := 4) rfl rfl) ?_
                 rintro _ rfl a' w' hs'
                 exact hK a' w' ⟨p15, p16, p17, p18, hs'.putF (i := 21) rfl [0, 1, 2, 3, 4] [0, 1, 2, 3, 4] rfl rfl rfl rfl⟩
                ·intro L a w hv K Q hK
                 obtain ⟨p15, p16, p17, p18, hs⟩ := hv
                 refine wpOp_go rfl rfl hs (OpT_move rfl rfl rfl rfl) ?_
                 rintro _ rfl a' w' hs'
                 exact hK a' w' ⟨p15, p16, p17, p18, hs'.putF (i := 22) rfl [0, 1, 2, 3, 4] [0, 1, 2, 3, 4] rfl rfl rfl rfl⟩
                ·intro L a w hv K Q hK
                 obtain ⟨p15, p16, p17, p18, hs⟩ := hv
                 refine wpOp_go rfl rfl hs (OpT_build (v := .agg #[vU64 s6.At, vU32 s7.Len, vU16 (0 : UInt16), vU16 w1]) rfl rfl rfl rfl (bldV (by kernel_rfl))) ?_
                 rintro _ rfl a' w' hs'
                 exact hK a' w' ⟨p15, p16, p17, p18, hs'.putF (i := 23) rfl [0, 1, 2, 3, 4] [0, 1, 2, 3, 4] rfl rfl rfl rfl⟩
                ·intro L a w hL hv
                 rw [allTrue hL] at hv
                 obtain ⟨p15, p16, p17, p18, hs⟩ := hv
                 refine (show TA _ _ _ 13 ⟨[(1, some (vI (wi ((64 : Int) + pick1)))), (2, some (vI pick4)), (5, some (vB wrap)), (6, some (.pointer (some ⟨b1, 0, none⟩))), (21, some (.func (.func 17) #[] #[.pointer (some ⟨b1, 0, none⟩)])), (24, some (.pointer (some ⟨b3, 0, none⟩))), (25, some (v15)), (26, some (v16)), (27, some (vI i3)), (362, some (.agg #[vU64 readpa1.1.Addr, vU32 readpa1.1.Len, vU16 readpa1.1.ID, vU16 readpa1.1.Flags])), (374, some (.agg #[vU64 s6.At, vU32 s7.Len, vU16 (0 : UInt16), vU16 w1]))], [some (cellsR b1 27 [v14]), some (cellsR b3 33 [vI m4.At, vB m4.Wrap]), some (rowS PutPackedS v15 l4), some (rowS u8S v16 l5)], [Fact.sl SegS v14 m3]⟩ from ?_) a w (hs.wkS [1, 2, 5, 6, 21, 24, 25, 26, 27, 362, 374] [0, 1, 2, 3] [0] rfl rfl rfl rfl)
                 clear hs hL
                 refine TA_step htb (by kernel_rfl) rfl rfl (OpT_bin rfl rfl rfl rfl rfl (eqT44_neq readpa1.1 (Packed.mk s6.At s7.Len (0 : UInt16) w1))) ?_
                 refine TA_end rfl ?_
                 refine Tk_wkS (fr' := [(1, some (vI (wi ((64 : Int) + pick1)))), (2, some (vI pick4)), (5, some (vB wrap)), (6, some (.pointer (some ⟨b1, 0, none⟩))), (21, some (.func (.func 17) #[] #[.pointer (some ⟨b1, 0, none⟩)])), (24, some (.pointer (some ⟨b3, 0, none⟩))), (25, some (v15)), (26, some (v16)), (27, some (vI i3)), (375, some (vB (readpa1.1 != (Packed.mk s6.At s7.Len (0 : UInt16) w1))))]) (own' := [some (cellsR b1 27 [v14]), some (cellsR b3 33 [vI m4.At, vB m4.Wrap]), some (rowS PutPackedS v15 l4), some (rowS u8S v16 l5)]) (shr' := [Fact.sl SegS v14 m3]) [1, 2, 5, 6, 21, 24, 25, 26, 27, 375] [0, 1, 2, 3] [0] rfl rfl rfl rfl ?_
                 obtain ⟨hg37, h⟩ := chk_e h
                 replace hg37 := not_t hg37
                 refine Tk_condF (congrArg (fun b => some (Value.bool b)) hg37) ?_
                 refine Tk_skip (Tk_blk (Tk_region (Tops_step rfl (OpT_move rfl rfl rfl rfl) ?_)))
                 refine Tops_step rfl (OpT_bin rfl rfl rfl rfl rfl (bin_add_i (a := i3) (b := (1 : Int)))) ?_
                 refine Tops_step rfl (OpT_assign rfl rfl rfl rfl) ?_
                 refine Tops_nil (Tk_wkS (fr' := [(1, some (vI (wi ((64 : Int) + pick1)))), (2, some (vI pick4)), (5, some (vB wrap)), (6, some (.pointer (some ⟨b1, 0, none⟩))), (21, some (.func (.func 17) #[] #[.pointer (some ⟨b1, 0, none⟩)])), (24, some (.pointer (some ⟨b3, 0, none⟩))), (25, some (v15)), (26, some (v16)), (27, some (vI (wi (i3 + (1 : Int)))))]) (own' := [some (cellsR b1 27 [v14]), some (cellsR b3 33 [vI m4.At, vB m4.Wrap]), some (rowS PutPackedS v15 l4), some (rowS u8S v16 l5)]) (shr' := [Fact.sl SegS v14 m3]) [1, 2, 5, 6, 21, 24, 25, 26, 27] [0, 1, 2, 3] [0] rfl rfl rfl rfl ?_)
                 exact Tk_backS (m3, m4, l4, l5, wi (i3 + (1 : Int)), v14, v15, v16) h [1, 2, 5, 6, 21, 24, 25, 26, 27] [0, 1, 2, 3] [0] rfl rfl rfl rfl rfl
               ·intro HJ1
                rcases Bool.eq_false_or_eq_true (s5.Write) with hg38 | hg38
                ·replace h := br_t hg38 h
                 refine Tk_condT (congrArg (fun b => some (Value.bool b)) hg38) ?_
                 refine Tk_region (Tops_step rfl (OpT_assign rfl rfl rfl rfl) ?_)
                 refine Tops_nil (Tk_wkS (fr' := [(1, some (vI (wi ((64 : Int) + pick1)))), (2, some (vI pick4)), (5, some (vB wrap)), (6, some (.pointer (some ⟨b1, 0, none⟩))), (21, some (.func (.func 17) #[] #[.pointer (some ⟨b1, 0, none⟩)])), (24, some (.pointer (some ⟨b3, 0, none⟩))), (25, some (v15)), (26, some (v16)), (27, some (vI i3)), (30, some (.pointer (some ⟨b5, 0, none⟩))), (32, some (vU16 (2 : UInt16)))]) (own' := [some (cellsR b1 27 [v14]), some (cellsR b3 33 [vI m4.At, vB m4.Wrap]), some (rowS PutPackedS v15 l4), some (rowS u8S v16 l5), some (cellsR b5 44 [vU64 readpa1.1.Addr, vU32 readpa1.1.Len, vU16 readpa1.1.ID, vU16 readpa1.1.Flags])]) (shr' := [Fact.sl SegS v14 m3]) [1, 2, 5, 6, 21, 24, 25, 26, 27, 30, 32] [0, 1, 2, 3, 4] [0] rfl rfl rfl rfl ?_)
                 exact Tk_jmpS (HJ1 (2 : UInt16) h) [1, 2, 5, 6, 21, 24, 25, 26, 27, 30, 32] [0, 1, 2, 3, 4] [0] rfl rfl rfl rfl
                ·replace h := br_f hg38 h
                 refine Tk_condF (congrArg (fun b => some (Value.bool b)) hg38) ?_
                 refine Tk_skip ?_
                 exact Tk_jmpS (HJ1 (0 : UInt16) h) [1, 2, 5, 6, 21, 24, 25, 26, 27, 30, 32] [0, 1, 2, 3, 4] [0] rfl rfl rfl rfl
        ·replace h := br_f hg30 h
         refine Tk_condF (congrArg (fun b => some (Value.bool b)) hg30) ?_
         refine Tk_exit _ rfl ?_
         refine Tk_seq (Tk_region (Tops_step rfl (OpT_assign rfl rfl rfl rfl) ?_))
         refine Tops_nil (Tk_wkS (fr' := [(12, some (vB true))]) (own' := []) (shr' := []) [12] [] [] rfl rfl rfl rfl ?_)
         exact Tk_retV rfl rfl (resA (vs := [.bool true]) rfl ⟨rfl, trivial⟩) [] [] rfl rfl rfl ⟨rfl, rfl, rfl⟩
end Go.Proofs.Ytihcimjfabdafaa
