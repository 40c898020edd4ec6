/- The law ConsGives is walked: it returns what its plain words say. No condition. -/
import Derived.Test.YtkjmmbmlapmkbaaWa3
namespace Go.Proofs.Ytkjmmbmlapmkbaa

set_option maxRecDepth 100000 in
set_option maxHeartbeats 4000000 in
theorem w_law28zConsGives {b : List UInt8} {sizes : List Int} {vp2 : UInt8} {vb1 : Value} {vsizes1 : Value}  (h : law28zConsGives b sizes vp2 = some true) :
  Ctr Try.prog 4 #[vb1, vsizes1, vU8 vp2] [] [Fact.sl u8S vb1 b, Fact.sl iS vsizes1 sizes]
   (fun rv own shr => rv = .bool true ∧ own = [] ∧ shr = []) := by
 unfold law28zConsGives at h
 refine Ctr.mk (args := [vb1, vsizes1, vU8 vp2]) Try.func4 rfl rfl (fun R0 w0 B => ?_)
 refine Tk_seq (Tk_region (Tops_step rfl (OpT_assign rfl rfl rfl rfl) ?_))
 refine Tops_nil (Tk_wkS (fr' := [(0, some (vb1)), (1, some (vsizes1)), (2, some (vU8 vp2))]) (own' := []) (shr' := [Fact.sl u8S vb1 b, Fact.sl iS vsizes1 sizes]) [0, 1, 2] [] [0, 1] rfl rfl rfl rfl ?_)
 refine Tk_seq (Tk_seq (Tk_region ?_))
 obtain ⟨lives1, hx1, h⟩ := ob_e h
 refine Tops_exP rfl (OpT_call (w_law28zlives hx1) [] [] rfl rfl rfl rfl rfl callee8 rfl rfl rfl rfl) ?_
 rintro _ ⟨_, _, _, ⟨rfl, rfl, rfl⟩, rfl⟩
 refine Tops_step rfl (OpT_not rfl rfl rfl rfl) ?_
 refine Tops_nil (Tk_wkS (fr' := [(0, some (vb1)), (1, some (vsizes1)), (2, some (vU8 vp2)), (23, some (vB (!lives1)))]) (own' := []) (shr' := [Fact.sl u8S vb1 b, Fact.sl iS vsizes1 sizes]) [0, 1, 2, 23] [] [0, 1] rfl rfl rfl rfl ?_)
 obtain ⟨hg1, h⟩ := chk_e h
 replace hg1 := not_t hg1
 refine Tk_condF (congrArg (fun b => some (Value.bool b)) hg1) ?_
 refine Tk_skip (Tk_seq (Tk_seq (Tk_region (Tops_step rfl (OpT_move rfl rfl rfl rfl) ?_))))
 refine Tops_step rfl (OpT_lenS rfl rfl rfl rfl Try.underlying30 (i := 0) rfl) ?_
 refine Tops_step rfl (OpT_bin rfl rfl rfl rfl rfl (bin_gtr_i (a := len b) (b := (4096 : Int)))) ?_
 refine Tops_step rfl (OpT_move rfl rfl rfl rfl) ?_
 rcases Bool.eq_false_or_eq_true (decide ((len b) > (4096 : Int))) with hg2 | hg2
 ·replace h := br_t hg2 h
  refine Tops_no rfl rfl (congrArg (fun b => some (Value.bool b)) hg2) rfl rfl ?_
  refine Tops_no rfl rfl (congrArg (fun b => some (Value.bool b)) hg2) rfl rfl ?_
  refine Tops_no rfl rfl (congrArg (fun b => some (Value.bool b)) hg2) rfl rfl ?_
  refine Tops_step rfl (OpT_pickT rfl rfl rfl (congrArg (fun b => some (Value.bool b)) hg2) rfl) ?_
  refine Tops_nil (Tk_wkS (fr' := [(0, some (vb1)), (1, some (vsizes1)), (2, some (vU8 vp2)), (31, some (vB true))]) (own' := []) (shr' := [Fact.sl u8S vb1 b, Fact.sl iS vsizes1 sizes]) [0, 1, 2, 31] [] [0, 1] rfl rfl rfl rfl ?_)
  refine Tk_condT rfl ?_
  refine Tk_seq (Tk_region (Tops_step rfl (OpT_assign rfl rfl rfl rfl) ?_))
  refine Tops_nil (Tk_wkS (fr' := [(6, some (vB true))]) (own' := []) (shr' := []) [6] [] [] rfl rfl rfl rfl ?_)
  exact Tk_retV rfl rfl (resA (vs := [.bool true]) rfl ⟨rfl, trivial⟩) [] [] rfl rfl rfl ⟨rfl, rfl, rfl⟩
 ·replace h := br_f hg2 h
  refine Tops_yes rfl rfl (congrArg (fun b => some (Value.bool b)) hg2) (OpT_move rfl rfl rfl rfl) ?_
  rintro _ rfl
  refine Tops_yes rfl rfl (congrArg (fun b => some (Value.bool b)) hg2) (OpT_lenS rfl rfl rfl rfl Try.underlying31 (i := 1) rfl) ?_
  rintro _ rfl
  refine Tops_yes rfl rfl (congrArg (fun b => some (Value.bool b)) hg2) (OpT_bin rfl rfl rfl rfl rfl (bin_gtr_i (a := len sizes) (b := (20 : Int)))) ?_
  rintro _ rfl
  refine Tops_step rfl (OpT_pickF rfl rfl rfl (congrArg (fun b => some (Value.bool b)) hg2) rfl) ?_
  refine Tops_nil (Tk_wkS (fr' := [(0, some (vb1)), (1, some (vsizes1)), (2, some (vU8 vp2)), (31, some (vB (decide ((len sizes) > (20 : Int)))))]) (own' := []) (shr' := [Fact.sl u8S vb1 b, Fact.sl iS vsizes1 sizes]) [0, 1, 2, 31] [] [0, 1] rfl rfl rfl rfl ?_)
  rcases Bool.eq_false_or_eq_true (decide ((len sizes) > (20 : Int))) with hg3 | hg3
  ·replace h := br_t hg3 h
   refine Tk_condT (congrArg (fun b => some (Value.bool b)) hg3) ?_
   refine Tk_seq (Tk_region (Tops_step rfl (OpT_assign rfl rfl rfl rfl) ?_))
   refine Tops_nil (Tk_wkS (fr' := [(6, some (vB true))]) (own' := []) (shr' := []) [6] [] [] rfl rfl rfl rfl ?_)
   exact Tk_retV rfl rfl (resA (vs := [.bool true]) rfl ⟨rfl, trivial⟩) [] [] rfl rfl rfl ⟨rfl, rfl, rfl⟩
  ·replace h := br_f hg3 h
   refine Tk_condF (congrArg (fun b => some (Value.bool b)) hg3) ?_
   refine Tk_skip (Tk_seq (Tk_region ?_))
   obtain ⟨memory1, hx2, h⟩ := ob_e h
   refine Tops_exP rfl (OpT_call (w_law28zmemory hx2) [] [] rfl rfl rfl rfl rfl callee13 rfl rfl rfl rfl) ?_
   rintro _ ⟨v1, _, _, ⟨_, rfl, rfl, rfl⟩, rfl⟩
   refine Tops_retire (i := 0) rfl ?_
   obtain ⟨new1, hx3, h⟩ := ob_e h
   refine Tops_exP rfl (OpT_call (w_gmem_New hx3) [] [2] rfl rfl rfl rfl rfl callee12 rfl rfl rfl rfl) ?_
   rintro _ ⟨_, _, _, ⟨v2, rfl, rfl, rfl⟩, rfl⟩
   refine Tops_step rfl (OpT_move rfl rfl rfl rfl) ?_
   refine Tops_step rfl (OpT_extract rfl rfl rfl rfl rfl) ?_
   refine Tops_step rfl (OpT_extract rfl rfl rfl rfl rfl) ?_
   refine Tops_step rfl (OpT_assign rfl rfl rfl rfl) ?_
   refine Tops_step rfl (OpT_assign rfl rfl rfl rfl) ?_
   refine Tops_nil (Tk_wkS (fr' := [(0, some (vb1)), (1, some (vsizes1)), (2, some (vU8 vp2)), (7, some (v2)), (8, some (vI new1.2))]) (own' := [some (optR 76 RegionS u8S true gmem_Mem.l gmem_Mem.b v2 new1.1)]) (shr' := [Fact.sl u8S vb1 b, Fact.sl iS vsizes1 sizes]) [0, 1, 2, 7, 8] [1] [0, 1] rfl rfl rfl rfl ?_)
   rcases onO_cases h with ⟨ho1, h⟩ | ⟨mem1, ho1, h⟩
   ·cases h
   ·refine Tk_optS (i := 0) rfl ho1 ?_
    rintro b1 v3 v4 vs1 rfl
    refine Tk_seq (Tk_seq (Tk_region (Tops_step rfl (OpT_move rfl rfl rfl rfl) ?_)))
    refine Tops_step rfl (OpT_bin rfl rfl rfl rfl rfl (bin_neq_i (a := new1.2) (b := (0 : Int)))) ?_
    refine Tops_nil (Tk_wkS (fr' := [(0, some (vb1)), (1, some (vsizes1)), (2, some (vU8 vp2)), (7, some (.pointer (some ⟨b1, 0, none⟩))), (38, some (vB (new1.2 != (0 : Int))))]) (own' := [some (cellsR b1 76 [v3, v4]), some (rowsX u8S true v4 vs1 mem1.b none)]) (shr' := [Fact.sl u8S vb1 b, Fact.sl iS vsizes1 sizes, Fact.sl RegionS v3 mem1.l]) [0, 1, 2, 7, 38] [0, 1] [0, 1, 2] rfl rfl rfl rfl ?_)
    obtain ⟨hg4, h⟩ := chk_e h
    replace hg4 := not_t hg4
    refine Tk_condF (congrArg (fun b => some (Value.bool b)) hg4) ?_
    refine Tk_skip (Tk_seq (Tk_region (Tops_step rfl (OpT_assign rfl rfl rfl rfl) ?_)))
    refine Tops_nil (Tk_wkS (fr' := [(0, some (vb1)), (1, some (vsizes1)), (2, some (vU8 vp2)), (7, some (.pointer (some ⟨b1, 0, none⟩))), (9, some (.slice none 0 0))]) (own' := [some (cellsR b1 76 [v3, v4]), some (rowsX u8S true v4 vs1 mem1.b none)]) (shr' := [Fact.sl u8S vb1 b, Fact.sl iS vsizes1 sizes, Fact.sl RegionS v3 mem1.l]) [0, 1, 2, 7, 9] [0, 1] [0, 1, 2] rfl rfl rfl rfl ?_)
    refine Tk_seq (Tk_seq (Tk_region (Tops_step rfl (OpT_assign rfl rfl rfl rfl) ?_)))
    refine Tops_nil (Tk_block (Tk_nilrow u8S ?_))
    refine Tk_loopS (σ := (List UInt8) × Int × Value) [0, 1, 2, 7, 9, 10] [0, 1, 2] [0, 1, 2] (fun s => ⟨[(0, some (vb1)), (1, some (vsizes1)), (2, some (vU8 vp2)), (7, some (.pointer (some ⟨b1, 0, none⟩))), (9, some (s.2.2)), (10, some (vI s.2.1))], [some (cellsR b1 76 [v3, v4]), some (rowsX u8S true v4 vs1 mem1.b none), some (rowS u8S s.2.2 s.1)], [Fact.sl u8S vb1 b, Fact.sl iS vsizes1 sizes, Fact.sl RegionS v3 mem1.l]⟩) (fun nf1 s => law28zConsGivesL1 b sizes vp2 mem1 nf1 s.1 s.2.1 = some true) fuel ([], (0 : Int), (.slice none 0 0)) h rfl rfl rfl rfl rfl (fun s h => by cases h) ?_
    rintro nf1 ⟨fill1, i1, v5⟩ h
    replace h : law28zConsGivesL1B b sizes vp2 mem1 (law28zConsGivesL1 b sizes vp2 mem1 nf1) fill1 i1 = some true := h
    unfold law28zConsGivesL1B at h
    refine Tk_seq (Tk_seq (Tk_region (Tops_step rfl (OpT_move rfl rfl rfl rfl) ?_)))
    refine Tops_step rfl (OpT_bin rfl rfl rfl rfl rfl (bin_lss_i (a := i1) (b := (16384 : Int)))) ?_
    refine Tops_nil (Tk_wkS (fr' := [(0, some (vb1)), (1, some (vsizes1)), (2, some (vU8 vp2)), (7, some (.pointer (some ⟨b1, 0, none⟩))), (9, some (v5)), (10, some (vI i1)), (40, some (vB (decide (i1 < (16384 : Int)))))]) (own' := [some (cellsR b1 76 [v3, v4]), some (rowsX u8S true v4 vs1 mem1.b none), some (rowS u8S v5 fill1)]) (shr' := [Fact.sl u8S vb1 b, Fact.sl iS vsizes1 sizes, Fact.sl RegionS v3 mem1.l]) [0, 1, 2, 7, 9, 10, 40] [0, 1, 2] [0, 1, 2] rfl rfl rfl rfl ?_)
    rcases Bool.eq_false_or_eq_true (decide (i1 < (16384 : Int))) with hg5 | hg5
    ·replace h := br_t hg5 h
     refine Tk_condT (congrArg (fun b => some (Value.bool b)) hg5) ?_
     refine Tk_skip (Tk_seq (Tk_block (Tk_region (Tops_step rfl (OpT_move rfl rfl rfl rfl) ?_))))
     refine Tops_step rfl (OpT_move rfl rfl rfl rfl) ?_
     refine Tops_ex rfl (OpT_buildSlice (S := u8S) (xs := [vp2]) (css := [[vU8 vp2]]) (cs := [vU8 vp2]) (e := 5) rfl rfl rfl rfl (bldF slF30 (by decide) (by kernel_rfl)) rfl rfl rfl rfl (rel_plainD (S := u8S) (xs := [vp2]) (css := [[vU8 vp2]]) rfl rfl)) fun v6 => ?_
     obtain ⟨hc1, h⟩ := chk_e h
     refine Tops_ex rfl (OpT_appendB (S := u8S) rfl rfl rfl rfl rfl rfl slF30 (i := 2) (j := 3) rfl rfl hc1) fun v7 => ?_
     refine Tops_step rfl (OpT_assign rfl rfl rfl rfl) ?_
     refine Tops_nil (Tk_wkS (fr' := [(0, some (vb1)), (1, some (vsizes1)), (2, some (vU8 vp2)), (7, some (.pointer (some ⟨b1, 0, none⟩))), (9, some (v7)), (10, some (vI i1))]) (own' := [some (cellsR b1 76 [v3, v4]), some (rowsX u8S true v4 vs1 mem1.b none), some (rowS u8S v7 (fill1 ++ [vp2]))]) (shr' := [Fact.sl u8S vb1 b, Fact.sl iS vsizes1 sizes, Fact.sl RegionS v3 mem1.l]) [0, 1, 2, 7, 9, 10] [0, 1, 2] [0, 1, 2] rfl rfl rfl rfl ?_)
     refine Tk_blk (Tk_region (Tops_step rfl (OpT_move rfl rfl rfl rfl) ?_))
     refine Tops_step rfl (OpT_bin rfl rfl rfl rfl rfl (bin_add_i (a := i1) (b := (1 : Int)))) ?_
     refine Tops_step rfl (OpT_assign rfl rfl rfl rfl) ?_
     refine Tops_nil (Tk_wkS (fr' := [(0, some (vb1)), (1, some (vsizes1)), (2, some (vU8 vp2)), (7, some (.pointer (some ⟨b1, 0, none⟩))), (9, some (v7)), (10, some (vI (wi (i1 + (1 : Int)))))]) (own' := [some (cellsR b1 76 [v3, v4]), some (rowsX u8S true v4 vs1 mem1.b none), some (rowS u8S v7 (fill1 ++ [vp2]))]) (shr' := [Fact.sl u8S vb1 b, Fact.sl iS vsizes1 sizes, Fact.sl RegionS v3 mem1.l]) [0, 1, 2, 7, 9, 10] [0, 1, 2] [0, 1, 2] rfl rfl rfl rfl ?_)
     exact Tk_backS (fill1 ++ [vp2], wi (i1 + (1 : Int)), v7) h [0, 1, 2, 7, 9, 10] [0, 1, 2] [0, 1, 2] rfl rfl rfl rfl rfl
    ·replace h := br_f hg5 h
     refine Tk_condF (congrArg (fun b => some (Value.bool b)) hg5) ?_
     refine Tk_exit _ rfl ?_
     refine Tk_seq (Tk_seq (Tk_region (Tops_step rfl (OpT_move rfl rfl rfl rfl) ?_)))
     refine Tops_step rfl (OpT_move rfl rfl rfl rfl) ?_
     obtain ⟨write1, hx4, h⟩ := ob_e h
     refine Tops_exP rfl (OpT_callB [2] [3, 4, 2] (w_gmem_Mem_Write hx4) [0, 1] rfl rfl rfl rfl rfl callee14 rfl rfl rfl rfl rfl rfl (bor_cons (bor_shr 2 rfl) (bor_cons (bor_row 2 rfl rfl) bor_nil)) (by rintro _ _ _ ⟨rfl, rfl, rfl⟩; exact ⟨rfl, (ri_cons (ri_cells _ _ _) (ri_cons (ri_rows rfl _ _ _ _ _) ri_nil))⟩)) ?_
     rintro _ ⟨_, _, _, ⟨rfl, rfl, rfl⟩, rfl⟩
     refine Tops_step rfl (OpT_bin rfl rfl rfl rfl rfl (bin_neq_i (a := write1.1) (b := (0 : Int)))) ?_
     refine Tops_nil (Tk_wkS (fr' := [(0, some (vb1)), (1, some (vsizes1)), (7, some (.pointer (some ⟨b1, 0, none⟩))), (9, some (v5)), (50, some (vB (write1.1 != (0 : Int))))]) (own' := [some (cellsR b1 76 [v3, v4]), some (rowsX u8S true v4 vs1 write1.2 none), some (rowS u8S v5 fill1)]) (shr' := [Fact.sl u8S vb1 b, Fact.sl iS vsizes1 sizes, Fact.sl RegionS v3 mem1.l]) [0, 1, 7, 9, 50] [0, 1, 2] [0, 1, 2] rfl rfl rfl rfl ?_)
     obtain ⟨hg6, h⟩ := chk_e h
     replace hg6 := not_t hg6
     refine Tk_condF (congrArg (fun b => some (Value.bool b)) hg6) ?_
     refine Tk_skip (Tk_seq (Tk_region (Tops_step rfl (OpT_assign rfl rfl rfl rfl) ?_)))
     refine Tops_nil (Tk_wkS (fr' := [(0, some (vb1)), (1, some (vsizes1)), (7, some (.pointer (some ⟨b1, 0, none⟩))), (9, some (v5)), (11, some (.slice none 0 0))]) (own' := [some (cellsR b1 76 [v3, v4]), some (rowsX u8S true v4 vs1 write1.2 none), some (rowS u8S v5 fill1)]) (shr' := [Fact.sl u8S vb1 b, Fact.sl iS vsizes1 sizes, Fact.sl RegionS v3 mem1.l]) [0, 1, 7, 9, 11] [0, 1, 2] [0, 1, 2] rfl rfl rfl rfl ?_)
     refine Tk_seq (Tk_seq (Tk_region (Tops_step rfl (OpT_assign rfl rfl rfl rfl) ?_)))
     refine Tops_nil (Tk_block (Tk_nilrow iS ?_))
     refine Tk_loopS (σ := (List UInt8) × (List Int) × Int × Value × Value) [0, 1, 7, 9, 11, 12] [0, 1, 2, 3] [0, 1, 2] (fun s => ⟨[(0, some (vb1)), (1, some (vsizes1)), (7, some (.pointer (some ⟨b1, 0, none⟩))), (9, some (s.2.2.2.1)), (11, some (s.2.2.2.2)), (12, some (vI s.2.2.1))], [some (cellsR b1 76 [v3, v4]), some (rowsX u8S true v4 vs1 write1.2 none), some (rowS u8S s.2.2.2.1 s.1), some (rowS iS s.2.2.2.2 s.2.1)], [Fact.sl u8S vb1 b, Fact.sl iS vsizes1 sizes, Fact.sl RegionS v3 mem1.l]⟩) (fun nf2 s => law28zConsGivesL2 b sizes mem1 write1 nf2 s.1 s.2.1 s.2.2.1 = some true) fuel (fill1, [], (0 : Int), v5, (.slice none 0 0)) h rfl rfl rfl rfl rfl (fun s h => by cases h) ?_
     rintro nf2 ⟨l1, l2, i2, v8, v9⟩ h
     replace h : law28zConsGivesL2B b sizes mem1 write1 (law28zConsGivesL2 b sizes mem1 write1 nf2) l1 l2 i2 = some true := h
     unfold law28zConsGivesL2B at h
     refine Tk_seq (Tk_seq (Tk_region (Tops_step rfl (OpT_move rfl rfl rfl rfl) ?_)))
     refine Tops_step rfl (OpT_move rfl rfl rfl rfl) ?_
     refine Tops_step rfl (OpT_lenS rfl rfl rfl rfl Try.underlying31 (i := 1) rfl) ?_
     refine Tops_step rfl (OpT_bin rfl rfl rfl rfl rfl (bin_lss_i (a := i2) (b := len sizes))) ?_
     refine Tops_nil (Tk_wkS (fr' := [(0, some (vb1)), (1, some (vsizes1)), (7, some (.pointer (some ⟨b1, 0, none⟩))), (9, some (v8)), (11, some (v9)), (12, some (vI i2)), (54, some (vB (decide (i2 < (len sizes)))))]) (own' := [some (cellsR b1 76 [v3, v4]), some (rowsX u8S true v4 vs1 write1.2 none), some (rowS u8S v8 l1), some (rowS iS v9 l2)]) (shr' := [Fact.sl u8S vb1 b, Fact.sl iS vsizes1 sizes, Fact.sl RegionS v3 mem1.l]) [0, 1, 7, 9, 11, 12, 54] [0, 1, 2, 3] [0, 1, 2] rfl rfl rfl rfl ?_)
     rcases Bool.eq_false_or_eq_true (decide (i2 < (len sizes))) with hg7 | hg7
     ·replace h := br_t hg7 h
      refine Tk_condT (congrArg (fun b => some (Value.bool b)) hg7) ?_
      refine Tk_skip (Tk_seq (Tk_block (Tk_region (Tops_step rfl (OpT_move rfl rfl rfl rfl) ?_))))
      refine Tops_step rfl (OpT_move rfl rfl rfl rfl) ?_
      refine Tops_step rfl (OpT_move rfl rfl rfl rfl) ?_
      obtain ⟨y1, hx5, h⟩ := ob_e h
      refine Tops_ex rfl (OpT_idxS rfl rfl rfl rfl rfl slF31 (i := 1) rfl hx5) fun p1 => ?_
      refine Tops_step rfl (OpT_loadP rfl rfl rfl rfl tyF3 (i := 3) rfl rfl) ?_
      obtain ⟨pick1, hx6, h⟩ := ob_e h
      refine Tops_exP rfl (OpT_call (w_kit_Pick hx6) [] [] rfl rfl rfl rfl rfl callee9 rfl rfl rfl rfl) ?_
      rintro _ ⟨_, _, _, ⟨rfl, rfl, rfl⟩, rfl⟩
      refine Tops_step rfl (OpT_bin rfl rfl rfl rfl rfl (bin_add_i (a := (1 : Int)) (b := pick1))) ?_
      refine Tops_ex rfl (OpT_buildSlice (S := iS) (xs := [wi ((1 : Int) + pick1)]) (css := [[vI (wi ((1 : Int) + pick1))]]) (cs := [vI (wi ((1 : Int) + pick1))]) (e := 3) rfl rfl rfl rfl (bldF slF31 (by decide) (by kernel_rfl)) rfl rfl rfl rfl (rel_plainD (S := iS) (xs := [wi ((1 : Int) + pick1)]) (css := [[vI (wi ((1 : Int) + pick1))]]) rfl rfl)) fun v10 => ?_
      obtain ⟨hc2, h⟩ := chk_e h
      refine Tops_ex rfl (OpT_appendB (S := iS) rfl rfl rfl rfl rfl rfl slF31 (i := 3) (j := 4) rfl rfl hc2) fun v11 => ?_
      refine Tops_step rfl (OpT_assign rfl rfl rfl rfl) ?_
      refine Tops_nil (Tk_wkS (fr' := [(0, some (vb1)), (1, some (vsizes1)), (7, some (.pointer (some ⟨b1, 0, none⟩))), (9, some (v8)), (11, some (v11)), (12, some (vI i2))]) (own' := [some (cellsR b1 76 [v3, v4]), some (rowsX u8S true v4 vs1 write1.2 none), some (rowS u8S v8 l1), some (rowS iS v11 (l2 ++ [wi ((1 : Int) + pick1)]))]) (shr' := [Fact.sl u8S vb1 b, Fact.sl iS vsizes1 sizes, Fact.sl RegionS v3 mem1.l]) [0, 1, 7, 9, 11, 12] [0, 1, 2, 3] [0, 1, 2] rfl rfl rfl rfl ?_)
      refine Tk_blk (Tk_region (Tops_step rfl (OpT_move rfl rfl rfl rfl) ?_))
      refine Tops_step rfl (OpT_bin rfl rfl rfl rfl rfl (bin_add_i (a := i2) (b := (1 : Int)))) ?_
      refine Tops_step rfl (OpT_assign rfl rfl rfl rfl) ?_
      refine Tops_nil (Tk_wkS (fr' := [(0, some (vb1)), (1, some (vsizes1)), (7, some (.pointer (some ⟨b1, 0, none⟩))), (9, some (v8)), (11, some (v11)), (12, some (vI (wi (i2 + (1 : Int)))))]) (own' := [some (cellsR b1 76 [v3, v4]), some (rowsX u8S true v4 vs1 write1.2 none), some (rowS u8S v8 l1), some (rowS iS v11 (l2 ++ [wi ((1 : Int) + pick1)]))]) (shr' := [Fact.sl u8S vb1 b, Fact.sl iS vsizes1 sizes, Fact.sl RegionS v3 mem1.l]) [0, 1, 7, 9, 11, 12] [0, 1, 2, 3] [0, 1, 2] rfl rfl rfl rfl ?_)
      exact Tk_backS (l1, l2 ++ [wi ((1 : Int) + pick1)], wi (i2 + (1 : Int)), v8, v11) h [0, 1, 7, 9, 11, 12] [0, 1, 2, 3] [0, 1, 2] rfl rfl rfl rfl rfl
     ·replace h := br_f hg7 h
      refine Tk_condF (congrArg (fun b => some (Value.bool b)) hg7) ?_
      refine Tk_exit _ rfl ?_
      refine Tk_seq (Tk_region (Tops_step rfl (OpT_move rfl rfl rfl rfl) ?_))
      refine Tops_step rfl (OpT_move rfl rfl rfl rfl) ?_
      obtain ⟨own1, hx7, h⟩ := ob_e h
      refine Tops_exP rfl (OpT_call (w_kit_Own hx7) [] [0] rfl rfl rfl rfl rfl callee16 rfl rfl rfl rfl) ?_
      rintro _ ⟨v12, _, _, ⟨_, rfl, rfl, rfl⟩, rfl⟩
      refine Tops_step rfl (OpT_build1 (fun z0 => [(0, z0)]) (fun z0 => [z0]) rfl rfl rfl rfl (is_row (i := 4) rfl) (by intros; kernel_rfl)) ?_
      refine Tops_step rfl (OpT_move rfl rfl rfl rfl) ?_
      refine Tops_retire (i := 3) rfl ?_
      obtain ⟨rooms1, hx8, h⟩ := ob_e h
      refine Tops_exP rfl (OpT_call (w_law28zrooms hx8) [] [3] rfl rfl rfl rfl rfl callee17 rfl rfl rfl rfl) ?_
      rintro _ ⟨v13, _, _, ⟨_, rfl, rfl, rfl⟩, rfl⟩
      refine Tops_retire (i := 4) rfl ?_
      refine Tops_retire (i := 5) rfl ?_
      obtain ⟨give1, hx9, h⟩ := ob_e h
      refine Tops_exP rfl (OpT_callP [6, 7, 2, 3, 4, 5, 8] (w_cons_Give hx9) [0, 1] [2, 4, 5] rfl rfl rfl rfl rfl callee15 rfl rfl rfl rfl rfl) ?_
      rintro _ ⟨_, _, _, ⟨v14, v15, rfl, rfl, rfl⟩, rfl⟩
      refine Tops_step rfl (OpT_move rfl rfl rfl rfl) ?_
      refine Tops_step rfl (OpT_extract rfl rfl rfl rfl rfl) ?_
      refine Tops_step rfl (OpT_extract rfl rfl rfl rfl rfl) ?_
      refine Tops_step rfl (OpT_extract rfl rfl rfl rfl rfl) ?_
      refine Tops_ex rfl (OpT_alloc rfl rfl rfl tyZ40) fun b2 => ?_
      refine Tops_step rfl (OpT_storeA1 (fun z0 => [z0]) (cs' := [v14]) rfl rfl rfl rfl tyF40 (i := 7) rfl (is_row (i := 6) rfl) (fun _ _ _ => rfl) rfl rfl rfl) ?_
      refine Tops_step rfl (OpT_assign rfl rfl rfl rfl) ?_
      refine Tops_step rfl (OpT_assign rfl rfl rfl rfl) ?_
      refine Tops_nil (Tk_wkS (fr' := [(0, some (vb1)), (7, some (.pointer (some ⟨b1, 0, none⟩))), (9, some (v8)), (11, some (v9)), (13, some (.pointer (some ⟨b2, 0, none⟩))), (14, some (v15)), (8, some (vI give1.2.2.1))]) (own' := [some (cellsR b1 76 [v3, v4]), some (rowsX u8S true v4 vs1 give1.2.2.2 none), some (rowS u8S v8 l1), some (rowS u8S v14 give1.1.Wait), some (cellsR b2 40 [v14])]) (shr' := [Fact.sl u8S vb1 b, Fact.sl RegionS v3 mem1.l, Fact.sl iS v9 l2, Fact.sl u32S v15 give1.2.1]) [0, 7, 9, 11, 13, 14, 8] [0, 1, 2, 6, 7] [0, 2, 3, 6] rfl rfl rfl rfl ?_)
      refine Tk_seq (Tk_seq (Tk_region (Tops_step rfl (OpT_move rfl rfl rfl rfl) ?_)))
      refine Tops_step rfl (OpT_bin rfl rfl rfl rfl rfl (bin_neq_i (a := give1.2.2.1) (b := (0 : Int)))) ?_
      refine Tops_nil (Tk_wkS (fr' := [(0, some (vb1)), (7, some (.pointer (some ⟨b1, 0, none⟩))), (9, some (v8)), (11, some (v9)), (13, some (.pointer (some ⟨b2, 0, none⟩))), (14, some (v15)), (78, some (vB (give1.2.2.1 != (0 : Int))))]) (own' := [some (cellsR b1 76 [v3, v4]), some (rowsX u8S true v4 vs1 give1.2.2.2 none), some (rowS u8S v8 l1), some (rowS u8S v14 give1.1.Wait), some (cellsR b2 40 [v14])]) (shr' := [Fact.sl u8S vb1 b, Fact.sl RegionS v3 mem1.l, Fact.sl iS v9 l2, Fact.sl u32S v15 give1.2.1]) [0, 7, 9, 11, 13, 14, 78] [0, 1, 2, 3, 4] [0, 1, 2, 3] rfl rfl rfl rfl ?_)
      obtain ⟨hg8, h⟩ := chk_e h
      replace hg8 := not_t hg8
      refine Tk_condF (congrArg (fun b => some (Value.bool b)) hg8) ?_
      refine Tk_skip (Tk_seq (Tk_region (Tops_step rfl (OpT_assign rfl rfl rfl rfl) ?_)))
      refine Tops_nil (Tk_wkS (fr' := [(0, some (vb1)), (7, some (.pointer (some ⟨b1, 0, none⟩))), (9, some (v8)), (11, some (v9)), (13, some (.pointer (some ⟨b2, 0, none⟩))), (14, some (v15)), (15, some (vI (0 : Int)))]) (own' := [some (cellsR b1 76 [v3, v4]), some (rowsX u8S true v4 vs1 give1.2.2.2 none), some (rowS u8S v8 l1), some (rowS u8S v14 give1.1.Wait), some (cellsR b2 40 [v14])]) (shr' := [Fact.sl u8S vb1 b, Fact.sl RegionS v3 mem1.l, Fact.sl iS v9 l2, Fact.sl u32S v15 give1.2.1]) [0, 7, 9, 11, 13, 14, 15] [0, 1, 2, 3, 4] [0, 1, 2, 3] rfl rfl rfl rfl ?_)
      refine Tk_seq (Tk_seq (Tk_region (Tops_step rfl (OpT_assign rfl rfl rfl rfl) ?_)))
      refine Tops_nil (Tk_block (Tk_loopS (σ := Int × Int) [0, 7, 9, 11, 13, 14, 15, 16] [0, 1, 2, 4, 3] [0, 1, 2, 3] (fun s => ⟨[(0, some (vb1)), (7, some (.pointer (some ⟨b1, 0, none⟩))), (9, some (v8)), (11, some (v9)), (13, some (.pointer (some ⟨b2, 0, none⟩))), (14, some (v15)), (15, some (vI s.1)), (16, some (vI s.2))], [some (cellsR b1 76 [v3, v4]), some (rowsX u8S true v4 vs1 give1.2.2.2 none), some (rowS u8S v8 l1), some (cellsR b2 40 [v14]), some (rowS u8S v14 give1.1.Wait)], [Fact.sl u8S vb1 b, Fact.sl RegionS v3 mem1.l, Fact.sl iS v9 l2, Fact.sl u32S v15 give1.2.1]⟩) (fun nf3 s => law28zConsGivesL3 b mem1 l1 l2 give1 nf3 s.1 s.2 = some true) fuel ((0 : Int), (0 : Int)) h rfl rfl rfl rfl rfl (fun s h => by cases h) ?_))
      rintro nf3 ⟨n1, i3⟩ h
      replace h : law28zConsGivesL3B b mem1 l1 l2 give1 (law28zConsGivesL3 b mem1 l1 l2 give1 nf3) n1 i3 = some true := h
      unfold law28zConsGivesL3B at h
      refine Tk_seq (Tk_seq (Tk_region (Tops_step rfl (OpT_move rfl rfl rfl rfl) ?_)))
      refine Tops_step rfl (OpT_move rfl rfl rfl rfl) ?_
      refine Tops_step rfl (OpT_lenS rfl rfl rfl rfl Try.underlying41 (i := 3) rfl) ?_
      refine Tops_step rfl (OpT_bin rfl rfl rfl rfl rfl (bin_lss_i (a := i3) (b := len give1.2.1))) ?_
      refine Tops_nil (Tk_wkS (fr' := [(0, some (vb1)), (7, some (.pointer (some ⟨b1, 0, none⟩))), (9, some (v8)), (11, some (v9)), (13, some (.pointer (some ⟨b2, 0, none⟩))), (14, some (v15)), (15, some (vI n1)), (16, some (vI i3)), (82, some (vB (decide (i3 < (len give1.2.1)))))]) (own' := [some (cellsR b1 76 [v3, v4]), some (rowsX u8S true v4 vs1 give1.2.2.2 none), some (rowS u8S v8 l1), some (cellsR b2 40 [v14]), some (rowS u8S v14 give1.1.Wait)]) (shr' := [Fact.sl u8S vb1 b, Fact.sl RegionS v3 mem1.l, Fact.sl iS v9 l2, Fact.sl u32S v15 give1.2.1]) [0, 7, 9, 11, 13, 14, 15, 16, 82] [0, 1, 2, 3, 4] [0, 1, 2, 3] rfl rfl rfl rfl ?_)
      rcases Bool.eq_false_or_eq_true (decide (i3 < (len give1.2.1))) with hg9 | hg9
      ·replace h := br_t hg9 h
       refine Tk_condT (congrArg (fun b => some (Value.bool b)) hg9) ?_
       refine Tk_skip (Tk_seq (Tk_block (Tk_seq (Tk_region (Tops_step rfl (OpT_move rfl rfl rfl rfl) ?_)))))
       obtain ⟨rooms2, hx10, h⟩ := ob_e h
       refine Tops_exP rfl (OpT_call (w_law28zrooms hx10) [] [2] rfl rfl rfl rfl rfl callee17 rfl rfl rfl rfl) ?_
       rintro _ ⟨v16, _, _, ⟨_, rfl, rfl, rfl⟩, rfl⟩
       refine Tops_step rfl (OpT_move rfl rfl rfl rfl) ?_
       refine Tops_retire (i := 5) rfl ?_
       obtain ⟨y2, hx11, h⟩ := ob_e h
       refine Tops_ex rfl (OpT_idxS rfl rfl rfl rfl rfl slF45 (i := 4) rfl hx11) fun p2 => ?_
       refine Tops_ex rfl (OpT_loadPS rfl rfl rfl rfl tyF49 (i := 5) rfl) fun v17 => ?_
       obtain ⟨total1, hx12, h⟩ := ob_e h
       refine Tops_exP rfl (OpT_call (w_ref_Total05 hx12) [] [6] rfl rfl rfl rfl rfl callee18 rfl rfl rfl rfl) ?_
       rintro _ ⟨_, _, _, ⟨rfl, rfl, rfl⟩, rfl⟩
       refine Tops_step rfl (OpT_move rfl rfl rfl rfl) ?_
       refine Tops_step rfl (OpT_extract rfl rfl rfl rfl rfl) ?_
       refine Tops_step rfl (OpT_extract rfl rfl rfl rfl rfl) ?_
       refine Tops_step rfl (OpT_assign rfl rfl rfl rfl) ?_
       refine Tops_step rfl (OpT_assign rfl rfl rfl rfl) ?_
       refine Tops_nil (Tk_wkS (fr' := [(0, some (vb1)), (7, some (.pointer (some ⟨b1, 0, none⟩))), (9, some (v8)), (11, some (v9)), (13, some (.pointer (some ⟨b2, 0, none⟩))), (14, some (v15)), (15, some (vI n1)), (16, some (vI i3)), (18, some (vU64 total1.2))]) (own' := [some (cellsR b1 76 [v3, v4]), some (rowsX u8S true v4 vs1 give1.2.2.2 none), some (rowS u8S v8 l1), some (cellsR b2 40 [v14]), some (rowS u8S v14 give1.1.Wait)]) (shr' := [Fact.sl u8S vb1 b, Fact.sl RegionS v3 mem1.l, Fact.sl iS v9 l2, Fact.sl u32S v15 give1.2.1]) [0, 7, 9, 11, 13, 14, 15, 16, 18] [0, 1, 2, 3, 4] [0, 1, 2, 3] rfl rfl rfl rfl ?_)
       refine Tk_seq (Tk_seq (Tk_region (Tops_step rfl (OpT_move rfl rfl rfl rfl) ?_)))
       refine Tops_step rfl (OpT_move rfl rfl rfl rfl) ?_
       obtain ⟨y3, hx13, h⟩ := ob_e h
       refine Tops_ex rfl (OpT_idxS rfl rfl rfl rfl rfl slF41 (i := 3) rfl hx13) fun p3 => ?_
       refine Tops_step rfl (OpT_loadP rfl rfl rfl rfl tyF50 (i := 4) rfl rfl) ?_
       refine Tops_step rfl (OpT_cnv rfl rfl rfl rfl (cnv_u32_u64 (n := y3) Try.underlying50 Try.underlying38)) ?_
       refine Tops_step rfl (OpT_move rfl rfl rfl rfl) ?_
       refine Tops_step rfl (OpT_bin rfl rfl rfl rfl rfl (bin_gtr_u64 (a := y3.toUInt64) (b := total1.2))) ?_
       refine Tops_step rfl (OpT_move rfl rfl rfl rfl) ?_
       obtain ⟨hg10, h⟩ := chk_e h
       replace hg10 := not_t hg10
       refine Tops_yes rfl rfl (congrArg (fun b => some (Value.bool b)) hg10) (OpT_move rfl rfl rfl rfl) ?_
       rintro _ rfl
       refine Tops_yes rfl rfl (congrArg (fun b => some (Value.bool b)) hg10) (OpT_move rfl rfl rfl rfl) ?_
       rintro _ rfl
       refine Tops_yes rfl rfl (congrArg (fun b => some (Value.bool b)) hg10) (OpT_lenS rfl rfl rfl rfl Try.underlying41 (i := 3) rfl) ?_
       rintro _ rfl
       refine Tops_yes rfl rfl (congrArg (fun b => some (Value.bool b)) hg10) (OpT_bin rfl rfl rfl rfl rfl (bin_sub_i (a := len give1.2.1) (b := (1 : Int)))) ?_
       rintro _ rfl
       refine Tops_yes rfl rfl (congrArg (fun b => some (Value.bool b)) hg10) (OpT_bin rfl rfl rfl rfl rfl (bin_lss_i (a := i3) (b := wi ((len give1.2.1) - (1 : Int))))) ?_
       rintro _ rfl
       refine Tops_yes rfl rfl (congrArg (fun b => some (Value.bool b)) hg10) (OpT_move rfl rfl rfl rfl) ?_
       rintro _ rfl
       rcases Bool.eq_false_or_eq_true (decide (i3 < (wi ((len give1.2.1) - (1 : Int))))) with hg11 | hg11
       ·replace h := br_t hg11 h
        refine Tops_yes rfl rfl (congrArg (fun b => some (Value.bool b)) hg11) (OpT_move rfl rfl rfl rfl) ?_
        rintro _ rfl
        refine Tops_yes rfl rfl (congrArg (fun b => some (Value.bool b)) hg11) (OpT_move rfl rfl rfl rfl) ?_
        rintro _ rfl
        obtain ⟨y4, hx14, h⟩ := ob_e h
        refine Tops_yes rfl rfl (congrArg (fun b => some (Value.bool b)) hg11) (OpT_idxS rfl rfl rfl rfl rfl slF41 (i := 3) rfl hx14) ?_
        rintro _ ⟨p4, rfl⟩
        refine Tops_yes rfl rfl (congrArg (fun b => some (Value.bool b)) hg11) (OpT_loadP rfl rfl rfl rfl tyF50 (i := 5) rfl rfl) ?_
        rintro _ rfl
        refine Tops_yes rfl rfl (congrArg (fun b => some (Value.bool b)) hg11) (OpT_cnv rfl rfl rfl rfl (cnv_u32_u64 (n := y4) Try.underlying50 Try.underlying38)) ?_
        rintro _ rfl
        refine Tops_yes rfl rfl (congrArg (fun b => some (Value.bool b)) hg11) (OpT_move rfl rfl rfl rfl) ?_
        rintro _ rfl
        refine Tops_yes rfl rfl (congrArg (fun b => some (Value.bool b)) hg11) (OpT_bin rfl rfl rfl rfl rfl (bin_neq_u64 (a := y4.toUInt64) (b := total1.2))) ?_
        rintro _ rfl
        refine Tops_yes rfl rfl (congrArg (fun b => some (Value.bool b)) hg10) (OpT_pickT rfl rfl rfl (congrArg (fun b => some (Value.bool b)) hg11) rfl) ?_
        rintro _ rfl
        refine Tops_step rfl (OpT_pickF rfl rfl rfl (congrArg (fun b => some (Value.bool b)) hg10) rfl) ?_
        refine Tops_step rfl (OpT_move rfl rfl rfl rfl) ?_
        obtain ⟨hg12, h⟩ := chk_e h
        replace hg12 := not_t hg12
        refine Tops_yes rfl rfl (congrArg (fun b => some (Value.bool b)) hg12) (OpT_move rfl rfl rfl rfl) ?_
        rintro _ rfl
        refine Tops_yes rfl rfl (congrArg (fun b => some (Value.bool b)) hg12) (OpT_move rfl rfl rfl rfl) ?_
        rintro _ rfl
        obtain ⟨y5, hx15, h⟩ := ob_e h
        refine Tops_yes rfl rfl (congrArg (fun b => some (Value.bool b)) hg12) (OpT_idxS rfl rfl rfl rfl rfl slF41 (i := 3) rfl hx15) ?_
        rintro _ ⟨p5, rfl⟩
        refine Tops_yes rfl rfl (congrArg (fun b => some (Value.bool b)) hg12) (OpT_loadP rfl rfl rfl rfl tyF50 (i := 6) rfl rfl) ?_
        rintro _ rfl
        refine Tops_yes rfl rfl (congrArg (fun b => some (Value.bool b)) hg12) (OpT_bin rfl rfl rfl rfl rfl (bin_eql_u32 (a := y5) (b := (0 : UInt32)))) ?_
        rintro _ rfl
        refine Tops_step rfl (OpT_pickF rfl rfl rfl (congrArg (fun b => some (Value.bool b)) hg12) rfl) ?_
        refine Tops_nil (Tk_wkS (fr' := [(0, some (vb1)), (7, some (.pointer (some ⟨b1, 0, none⟩))), (9, some (v8)), (11, some (v9)), (13, some (.pointer (some ⟨b2, 0, none⟩))), (14, some (v15)), (15, some (vI n1)), (16, some (vI i3)), (123, some (vB (y5 == (0 : UInt32))))]) (own' := [some (cellsR b1 76 [v3, v4]), some (rowsX u8S true v4 vs1 give1.2.2.2 none), some (rowS u8S v8 l1), some (cellsR b2 40 [v14]), some (rowS u8S v14 give1.1.Wait)]) (shr' := [Fact.sl u8S vb1 b, Fact.sl RegionS v3 mem1.l, Fact.sl iS v9 l2, Fact.sl u32S v15 give1.2.1]) [0, 7, 9, 11, 13, 14, 15, 16, 123] [0, 1, 2, 3, 4] [0, 1, 2, 3] rfl rfl rfl rfl ?_)
        obtain ⟨hg13, h⟩ := chk_e h
        replace hg13 := not_t hg13
        refine Tk_condF (congrArg (fun b => some (Value.bool b)) hg13) ?_
        refine Tk_skip (Tk_region (Tops_step rfl (OpT_move rfl rfl rfl rfl) ?_))
        refine Tops_step rfl (OpT_move rfl rfl rfl rfl) ?_
        refine Tops_step rfl (OpT_move rfl rfl rfl rfl) ?_
        obtain ⟨y6, hx16, h⟩ := ob_e h
        refine Tops_ex rfl (OpT_idxS rfl rfl rfl rfl rfl slF41 (i := 3) rfl hx16) fun p6 => ?_
        refine Tops_step rfl (OpT_loadP rfl rfl rfl rfl tyF50 (i := 4) rfl rfl) ?_
        refine Tops_step rfl (OpT_cnv rfl rfl rfl rfl (cnv_u32_i (n := y6) Try.underlying50 Try.underlying3)) ?_
        refine Tops_step rfl (OpT_bin rfl rfl rfl rfl rfl (bin_add_i (a := n1) (b := i32 y6))) ?_
        refine Tops_step rfl (OpT_assign rfl rfl rfl rfl) ?_
        refine Tops_nil (Tk_wkS (fr' := [(0, some (vb1)), (7, some (.pointer (some ⟨b1, 0, none⟩))), (9, some (v8)), (11, some (v9)), (13, some (.pointer (some ⟨b2, 0, none⟩))), (14, some (v15)), (15, some (vI (wi (n1 + (i32 y6))))), (16, some (vI i3))]) (own' := [some (cellsR b1 76 [v3, v4]), some (rowsX u8S true v4 vs1 give1.2.2.2 none), some (rowS u8S v8 l1), some (cellsR b2 40 [v14]), some (rowS u8S v14 give1.1.Wait)]) (shr' := [Fact.sl u8S vb1 b, Fact.sl RegionS v3 mem1.l, Fact.sl iS v9 l2, Fact.sl u32S v15 give1.2.1]) [0, 7, 9, 11, 13, 14, 15, 16] [0, 1, 2, 3, 4] [0, 1, 2, 3] rfl rfl rfl rfl ?_)
        refine Tk_blk (Tk_region (Tops_step rfl (OpT_move rfl rfl rfl rfl) ?_))
        refine Tops_step rfl (OpT_bin rfl rfl rfl rfl rfl (bin_add_i (a := i3) (b := (1 : Int)))) ?_
        refine Tops_step rfl (OpT_assign rfl rfl rfl rfl) ?_
        refine Tops_nil (Tk_wkS (fr' := [(0, some (vb1)), (7, some (.pointer (some ⟨b1, 0, none⟩))), (9, some (v8)), (11, some (v9)), (13, some (.pointer (some ⟨b2, 0, none⟩))), (14, some (v15)), (15, some (vI (wi (n1 + (i32 y6))))), (16, some (vI (wi (i3 + (1 : Int)))))]) (own' := [some (cellsR b1 76 [v3, v4]), some (rowsX u8S true v4 vs1 give1.2.2.2 none), some (rowS u8S v8 l1), some (cellsR b2 40 [v14]), some (rowS u8S v14 give1.1.Wait)]) (shr' := [Fact.sl u8S vb1 b, Fact.sl RegionS v3 mem1.l, Fact.sl iS v9 l2, Fact.sl u32S v15 give1.2.1]) [0, 7, 9, 11, 13, 14, 15, 16] [0, 1, 2, 3, 4] [0, 1, 2, 3] rfl rfl rfl rfl ?_)
        exact Tk_backS (wi (n1 + (i32 y6)), wi (i3 + (1 : Int))) h [0, 7, 9, 11, 13, 14, 15, 16] [0, 1, 2, 3, 4] [0, 1, 2, 3] rfl rfl rfl rfl rfl
       ·replace h := br_f hg11 h
        refine Tops_no rfl rfl (congrArg (fun b => some (Value.bool b)) hg11) rfl rfl ?_
        refine Tops_no rfl rfl (congrArg (fun b => some (Value.bool b)) hg11) rfl rfl ?_
        refine Tops_no rfl rfl (congrArg (fun b => some (Value.bool b)) hg11) rfl rfl ?_
        refine Tops_no rfl rfl (congrArg (fun b => some (Value.bool b)) hg11) rfl rfl ?_
        refine Tops_no rfl rfl (congrArg (fun b => some (Value.bool b)) hg11) rfl rfl ?_
        refine Tops_no rfl rfl (congrArg (fun b => some (Value.bool b)) hg11) rfl rfl ?_
        refine Tops_no rfl rfl (congrArg (fun b => some (Value.bool b)) hg11) rfl rfl ?_
        refine Tops_yes rfl rfl (congrArg (fun b => some (Value.bool b)) hg10) (OpT_pickF rfl rfl rfl (congrArg (fun b => some (Value.bool b)) hg11) rfl) ?_
        rintro _ rfl
        refine Tops_step rfl (OpT_pickF rfl rfl rfl (congrArg (fun b => some (Value.bool b)) hg10) rfl) ?_
        refine Tops_step rfl (OpT_move rfl rfl rfl rfl) ?_
        refine Tops_yes rfl rfl rfl (OpT_move rfl rfl rfl rfl) ?_
        rintro _ rfl
        refine Tops_yes rfl rfl rfl (OpT_move rfl rfl rfl rfl) ?_
        rintro _ rfl
        obtain ⟨y7, hx17, h⟩ := ob_e h
        refine Tops_yes rfl rfl rfl (OpT_idxS rfl rfl rfl rfl rfl slF41 (i := 3) rfl hx17) ?_
        rintro _ ⟨p7, rfl⟩
        refine Tops_yes rfl rfl rfl (OpT_loadP rfl rfl rfl rfl tyF50 (i := 5) rfl rfl) ?_
        rintro _ rfl
        refine Tops_yes rfl rfl rfl (OpT_bin rfl rfl rfl rfl rfl (bin_eql_u32 (a := y7) (b := (0 : UInt32)))) ?_
        rintro _ rfl
        refine Tops_step rfl (OpT_pickF rfl rfl rfl rfl rfl) ?_
        refine Tops_nil (Tk_wkS (fr' := [(0, some (vb1)), (7, some (.pointer (some ⟨b1, 0, none⟩))), (9, some (v8)), (11, some (v9)), (13, some (.pointer (some ⟨b2, 0, none⟩))), (14, some (v15)), (15, some (vI n1)), (16, some (vI i3)), (123, some (vB (y7 == (0 : UInt32))))]) (own' := [some (cellsR b1 76 [v3, v4]), some (rowsX u8S true v4 vs1 give1.2.2.2 none), some (rowS u8S v8 l1), some (cellsR b2 40 [v14]), some (rowS u8S v14 give1.1.Wait)]) (shr' := [Fact.sl u8S vb1 b, Fact.sl RegionS v3 mem1.l, Fact.sl iS v9 l2, Fact.sl u32S v15 give1.2.1]) [0, 7, 9, 11, 13, 14, 15, 16, 123] [0, 1, 2, 3, 4] [0, 1, 2, 3] rfl rfl rfl rfl ?_)
        obtain ⟨hg14, h⟩ := chk_e h
        replace hg14 := not_t hg14
        refine Tk_condF (congrArg (fun b => some (Value.bool b)) hg14) ?_
        refine Tk_skip (Tk_region (Tops_step rfl (OpT_move rfl rfl rfl rfl) ?_))
        refine Tops_step rfl (OpT_move rfl rfl rfl rfl) ?_
        refine Tops_step rfl (OpT_move rfl rfl rfl rfl) ?_
        obtain ⟨y8, hx18, h⟩ := ob_e h
        refine Tops_ex rfl (OpT_idxS rfl rfl rfl rfl rfl slF41 (i := 3) rfl hx18) fun p8 => ?_
        refine Tops_step rfl (OpT_loadP rfl rfl rfl rfl tyF50 (i := 4) rfl rfl) ?_
        refine Tops_step rfl (OpT_cnv rfl rfl rfl rfl (cnv_u32_i (n := y8) Try.underlying50 Try.underlying3)) ?_
        refine Tops_step rfl (OpT_bin rfl rfl rfl rfl rfl (bin_add_i (a := n1) (b := i32 y8))) ?_
        refine Tops_step rfl (OpT_assign rfl rfl rfl rfl) ?_
        refine Tops_nil (Tk_wkS (fr' := [(0, some (vb1)), (7, some (.pointer (some ⟨b1, 0, none⟩))), (9, some (v8)), (11, some (v9)), (13, some (.pointer (some ⟨b2, 0, none⟩))), (14, some (v15)), (15, some (vI (wi (n1 + (i32 y8))))), (16, some (vI i3))]) (own' := [some (cellsR b1 76 [v3, v4]), some (rowsX u8S true v4 vs1 give1.2.2.2 none), some (rowS u8S v8 l1), some (cellsR b2 40 [v14]), some (rowS u8S v14 give1.1.Wait)]) (shr' := [Fact.sl u8S vb1 b, Fact.sl RegionS v3 mem1.l, Fact.sl iS v9 l2, Fact.sl u32S v15 give1.2.1]) [0, 7, 9, 11, 13, 14, 15, 16] [0, 1, 2, 3, 4] [0, 1, 2, 3] rfl rfl rfl rfl ?_)
        refine Tk_blk (Tk_region (Tops_step rfl (OpT_move rfl rfl rfl rfl) ?_))
        refine Tops_step rfl (OpT_bin rfl rfl rfl rfl rfl (bin_add_i (a := i3) (b := (1 : Int)))) ?_
        refine Tops_step rfl (OpT_assign rfl rfl rfl rfl) ?_
        refine Tops_nil (Tk_wkS (fr' := [(0, some (vb1)), (7, some (.pointer (some ⟨b1, 0, none⟩))), (9, some (v8)), (11, some (v9)), (13, some (.pointer (some ⟨b2, 0, none⟩))), (14, some (v15)), (15, some (vI (wi (n1 + (i32 y8))))), (16, some (vI (wi (i3 + (1 : Int)))))]) (own' := [some (cellsR b1 76 [v3, v4]), some (rowsX u8S true v4 vs1 give1.2.2.2 none), some (rowS u8S v8 l1), some (cellsR b2 40 [v14]), some (rowS u8S v14 give1.1.Wait)]) (shr' := [Fact.sl u8S vb1 b, Fact.sl RegionS v3 mem1.l, Fact.sl iS v9 l2, Fact.sl u32S v15 give1.2.1]) [0, 7, 9, 11, 13, 14, 15, 16] [0, 1, 2, 3, 4] [0, 1, 2, 3] rfl rfl rfl rfl ?_)
        exact Tk_backS (wi (n1 + (i32 y8)), wi (i3 + (1 : Int))) h [0, 7, 9, 11, 13, 14, 15, 16] [0, 1, 2, 3, 4] [0, 1, 2, 3] rfl rfl rfl rfl rfl
      ·replace h := br_f hg9 h
       refine Tk_condF (congrArg (fun b => some (Value.bool b)) hg9) ?_
       refine Tk_exit _ rfl ?_
       refine Tk_seq (Tk_region (Tops_step rfl (OpT_move rfl rfl rfl rfl) ?_))
       obtain ⟨image1, hx19, h⟩ := ob_e h
       refine Tops_exP rfl (OpT_callP [5, 6, 2, 3, 4, 7] (w_gmem_Mem_Image hx19) [0, 1] [1] rfl rfl rfl rfl rfl callee19 rfl rfl rfl rfl rfl) ?_
       rintro _ ⟨v18, _, _, ⟨_, rfl, rfl, rfl⟩, rfl⟩
       refine Tops_step rfl (OpT_assign rfl rfl rfl rfl) ?_
       refine Tops_nil (Tk_wkS (fr' := [(0, some (vb1)), (9, some (v8)), (11, some (v9)), (13, some (.pointer (some ⟨b2, 0, none⟩))), (15, some (vI n1)), (19, some (v18))]) (own' := [some (rowS u8S v8 l1), some (cellsR b2 40 [v14]), some (rowS u8S v14 give1.1.Wait), some (rowS u8S v18 image1)]) (shr' := [Fact.sl u8S vb1 b, Fact.sl iS v9 l2]) [0, 9, 11, 13, 15, 19] [2, 3, 4, 5] [0, 2] rfl rfl rfl rfl ?_)
       refine Tk_seq (Tk_region (Tops_step rfl (OpT_assign rfl rfl rfl rfl) ?_))
       refine Tops_nil (Tk_seq (Tk_seq (Tk_region (Tops_step rfl (OpT_assign rfl rfl rfl rfl) ?_))))
       refine Tops_nil (Tk_block (Tk_loopS (σ := Int × Int) [0, 9, 11, 13, 15, 19, 20, 21] [0, 1, 2, 3] [0, 1] (fun s => ⟨[(0, some (vb1)), (9, some (v8)), (11, some (v9)), (13, some (.pointer (some ⟨b2, 0, none⟩))), (15, some (vI n1)), (19, some (v18)), (20, some (vI s.1)), (21, some (vI s.2))], [some (rowS u8S v8 l1), some (cellsR b2 40 [v14]), some (rowS u8S v14 give1.1.Wait), some (rowS u8S v18 image1)], [Fact.sl u8S vb1 b, Fact.sl iS v9 l2]⟩) (fun nf4 s => law28zConsGivesL4 b l1 l2 give1 n1 image1 nf4 s.1 s.2 = some true) fuel ((0 : Int), (0 : Int)) h rfl rfl rfl rfl rfl (fun s h => by cases h) ?_))
       rintro nf4 ⟨all1, i4⟩ h
       replace h : law28zConsGivesL4B b l1 l2 give1 n1 image1 (law28zConsGivesL4 b l1 l2 give1 n1 image1 nf4) all1 i4 = some true := h
       unfold law28zConsGivesL4B at h
       refine Tk_seq (Tk_seq (Tk_region (Tops_step rfl (OpT_move rfl rfl rfl rfl) ?_)))
       refine Tops_step rfl (OpT_move rfl rfl rfl rfl) ?_
       refine Tops_step rfl (OpT_lenS rfl rfl rfl rfl Try.underlying31 (i := 1) rfl) ?_
       refine Tops_step rfl (OpT_bin rfl rfl rfl rfl rfl (bin_lss_i (a := i4) (b := len l2))) ?_
       refine Tops_nil (Tk_wkS (fr' := [(0, some (vb1)), (9, some (v8)), (11, some (v9)), (13, some (.pointer (some ⟨b2, 0, none⟩))), (15, some (vI n1)), (19, some (v18)), (20, some (vI all1)), (21, some (vI i4)), (136, some (vB (decide (i4 < (len l2)))))]) (own' := [some (rowS u8S v8 l1), some (cellsR b2 40 [v14]), some (rowS u8S v14 give1.1.Wait), some (rowS u8S v18 image1)]) (shr' := [Fact.sl u8S vb1 b, Fact.sl iS v9 l2]) [0, 9, 11, 13, 15, 19, 20, 21, 136] [0, 1, 2, 3] [0, 1] rfl rfl rfl rfl ?_)
       rcases Bool.eq_false_or_eq_true (decide (i4 < (len l2))) with hg15 | hg15
       ·replace h := br_t hg15 h
        refine Tk_condT (congrArg (fun b => some (Value.bool b)) hg15) ?_
        refine Tk_skip (Tk_seq (Tk_block (Tk_region (Tops_step rfl (OpT_move rfl rfl rfl rfl) ?_))))
        refine Tops_step rfl (OpT_move rfl rfl rfl rfl) ?_
        refine Tops_step rfl (OpT_move rfl rfl rfl rfl) ?_
        obtain ⟨y9, hx20, h⟩ := ob_e h
        refine Tops_ex rfl (OpT_idxS rfl rfl rfl rfl rfl slF31 (i := 1) rfl hx20) fun p9 => ?_
        refine Tops_step rfl (OpT_loadP rfl rfl rfl rfl tyF3 (i := 2) rfl rfl) ?_
        refine Tops_step rfl (OpT_bin rfl rfl rfl rfl rfl (bin_add_i (a := all1) (b := y9))) ?_
        refine Tops_step rfl (OpT_assign rfl rfl rfl rfl) ?_
        refine Tops_nil (Tk_wkS (fr' := [(0, some (vb1)), (9, some (v8)), (11, some (v9)), (13, some (.pointer (some ⟨b2, 0, none⟩))), (15, some (vI n1)), (19, some (v18)), (20, some (vI (wi (all1 + y9)))), (21, some (vI i4))]) (own' := [some (rowS u8S v8 l1), some (cellsR b2 40 [v14]), some (rowS u8S v14 give1.1.Wait), some (rowS u8S v18 image1)]) (shr' := [Fact.sl u8S vb1 b, Fact.sl iS v9 l2]) [0, 9, 11, 13, 15, 19, 20, 21] [0, 1, 2, 3] [0, 1] rfl rfl rfl rfl ?_)
        refine Tk_blk (Tk_region (Tops_step rfl (OpT_move rfl rfl rfl rfl) ?_))
        refine Tops_step rfl (OpT_bin rfl rfl rfl rfl rfl (bin_add_i (a := i4) (b := (1 : Int)))) ?_
        refine Tops_step rfl (OpT_assign rfl rfl rfl rfl) ?_
        refine Tops_nil (Tk_wkS (fr' := [(0, some (vb1)), (9, some (v8)), (11, some (v9)), (13, some (.pointer (some ⟨b2, 0, none⟩))), (15, some (vI n1)), (19, some (v18)), (20, some (vI (wi (all1 + y9)))), (21, some (vI (wi (i4 + (1 : Int)))))]) (own' := [some (rowS u8S v8 l1), some (cellsR b2 40 [v14]), some (rowS u8S v14 give1.1.Wait), some (rowS u8S v18 image1)]) (shr' := [Fact.sl u8S vb1 b, Fact.sl iS v9 l2]) [0, 9, 11, 13, 15, 19, 20, 21] [0, 1, 2, 3] [0, 1] rfl rfl rfl rfl ?_)
        exact Tk_backS (wi (all1 + y9), wi (i4 + (1 : Int))) h [0, 9, 11, 13, 15, 19, 20, 21] [0, 1, 2, 3] [0, 1] rfl rfl rfl rfl rfl
       ·replace h := br_f hg15 h
        refine Tk_condF (congrArg (fun b => some (Value.bool b)) hg15) ?_
        refine Tk_exit _ rfl ?_
        refine Tk_seq (Tk_drawT (by kernel_rfl) ?_)
        refine TA_tb [0, 0, 2, 0, 14, 31, 63, 127, 255, 511, 127, 127, 3199, 7295, 16383, 32767, 65535, 131071, 131071, 524287, 1048575, 131071, 131071, 6422527, 14811135, 33554431, 67108863, 134217727, 268435455, 268435455, 1073741823, 2147483647, 268435455, 268435455, 13153337343, 30333206527, 68719476735, 137438953471, 274877906943] (by kernel_rfl) fun htb => ?_
        refine TA_wkS (fr' := [(0, some (vb1)), (9, some (v8)), (13, some (.pointer (some ⟨b2, 0, none⟩))), (15, some (vI n1)), (19, some (v18)), (20, some (vI all1))]) (own' := [some (rowS u8S v8 l1), some (cellsR b2 40 [v14]), some (rowS u8S v14 give1.1.Wait), some (rowS u8S v18 image1)]) (shr' := [Fact.sl u8S vb1 b]) [0, 9, 13, 15, 19, 20] [0, 1, 2, 3] [0] rfl rfl rfl rfl ?_
        refine TA_seg (lo := 0) (hi := 5) htb rfl rfl (by kernel_rfl) (fun c L a w => Sat c ⟨[(0, some (vb1)), (9, some (v8)), (13, some (.pointer (some ⟨b2, 0, none⟩))), (15, some (vI n1)), (19, some (v18)), (20, some (vI all1)), (145, bif L 0 then some (vI n1) else none), (146, bif L 1 then some (vb1) else none), (147, bif L 2 then some (vI (len b)) else none), (148, bif L 3 then some (vI all1) else none), (149, bif L 4 then some (vI (mini (len b) all1)) else none)], [(some (rowS u8S v8 l1) : Option Res), (some (cellsR b2 40 [v14]) : Option Res), (some (rowS u8S v14 give1.1.Wait) : Option Res), (some (rowS u8S v18 image1) : Option Res)], [Fact.sl u8S vb1 b]⟩ a w) [([], []), ([], [2, 4]), ([1], [4]), ([], [4]), ([1, 2, 3], [])] rfl (by kernel_rfl) ?_ (steps_cons ?_ (steps_cons ?_ (steps_cons ?_ (steps_cons ?_ (steps_cons ?_ (steps_nil)))))) ?_
        ·intro a w hs
         exact hs.startF [145, 146, 147, 148, 149] [0, 1, 2, 3] [0] rfl rfl rfl rfl
        ·intro L a w hv K Q hK
         have hs := hv
         refine wpOp_go rfl rfl hs (OpT_move rfl rfl rfl rfl) ?_
         rintro _ rfl a' w' hs'
         exact hK a' w' (hs'.putF (i := 6) rfl [0, 1, 2, 3] [0] rfl rfl rfl rfl)
        ·intro L a w hv K Q hK
         have hs := hv
         refine wpOp_go rfl rfl hs (OpT_move rfl rfl rfl rfl) ?_
         rintro _ rfl a' w' hs'
         exact hK a' w' (hs'.putF (i := 7) rfl [0, 1, 2, 3] [0] rfl rfl rfl rfl)
        ·intro L a w hv K Q hK
         have hs := hv
         refine wpOp_go rfl rfl hs (OpT_lenS rfl rfl rfl rfl Try.underlying30 (i := 0) rfl) ?_
         rintro _ rfl a' w' hs'
         exact hK a' w' (hs'.putF (i := 8) rfl [0, 1, 2, 3] [0] rfl rfl rfl rfl)
        ·intro L a w hv K Q hK
         have hs := hv
         refine wpOp_go rfl rfl hs (OpT_move rfl rfl rfl rfl) ?_
         rintro _ rfl a' w' hs'
         exact hK a' w' (hs'.putF (i := 9) rfl [0, 1, 2, 3] [0] rfl rfl rfl rfl)
        ·intro L a w hv K Q hK
         have hs := hv
         refine wpOp_go rfl rfl hs (OpT_min_i (u := len b) (v := all1) rfl rfl rfl rfl rfl) ?_
         rintro _ rfl a' w' hs'
         exact hK a' w' (hs'.putF (i := 10) rfl [0, 1, 2, 3] [0] rfl rfl rfl rfl)
        ·intro L a w hL hv
         rw [allTrue hL] at hv
         have hs := hv
         refine (show TA _ _ _ 5 ⟨[(0, some (vb1)), (9, some (v8)), (13, some (.pointer (some ⟨b2, 0, none⟩))), (15, some (vI n1)), (19, some (v18)), (145, some (vI n1)), (149, some (vI (mini (len b) all1)))], [some (rowS u8S v8 l1), some (cellsR b2 40 [v14]), some (rowS u8S v14 give1.1.Wait), some (rowS u8S v18 image1)], [Fact.sl u8S vb1 b]⟩ from ?_) a w (hs.wkS [0, 9, 13, 15, 19, 145, 149] [0, 1, 2, 3] [0] rfl rfl rfl rfl)
         clear hs hL
         refine TA_step htb (by kernel_rfl) rfl rfl (OpT_bin rfl rfl rfl rfl rfl (bin_eql_i (a := n1) (b := mini (len b) all1))) ?_
         refine TA_step htb (by kernel_rfl) rfl rfl (OpT_move rfl rfl rfl rfl) ?_
         refine TA_wkS (fr' := [(0, some (vb1)), (9, some (v8)), (13, some (.pointer (some ⟨b2, 0, none⟩))), (15, some (vI n1)), (19, some (v18)), (151, some (vB (n1 == (mini (len b) all1))))]) (own' := [some (rowS u8S v8 l1), some (cellsR b2 40 [v14]), some (rowS u8S v14 give1.1.Wait), some (rowS u8S v18 image1)]) (shr' := [Fact.sl u8S vb1 b]) [0, 9, 13, 15, 19, 151] [0, 1, 2, 3] [0] rfl rfl rfl rfl ?_
         refine TA_retire (i := 2) rfl ?_
         obtain ⟨hg16, h⟩ := chk_e h
         obtain ⟨hc3, h⟩ := chk_e h
         refine TA_seg (lo := 7) (hi := 14) htb rfl rfl (by kernel_rfl) (fun c L a w => ∃ (v19 : Value), Sat c ⟨[(0, some (vb1)), (9, some (v8)), (13, some (.pointer (some ⟨b2, 0, none⟩))), (15, some (vI n1)), (19, some (v18)), (151, some (vB (n1 == (mini (len b) all1)))), (152, bif L 7 then some (.pointer (some ⟨b2, 0, none⟩)) else none), (153, bif L 8 then some (v14) else none), (154, bif L 9 then some (vS give1.1.Wait) else none), (155, bif L 10 then some (vb1) else none), (156, bif L 11 then some (vI n1) else none), (157, bif L 12 then some (v19) else none), (158, bif L 13 then some (vS (sub b n1 (len b))) else none)], [(some (rowS u8S v8 l1) : Option Res), (some (cellsR b2 40 [v14]) : Option Res), (none : Option Res), (some (rowS u8S v18 image1) : Option Res)], [Fact.sl u8S vb1 b, Fact.sl u8S v14 give1.1.Wait, (bif L 12 then Fact.sl u8S v19 (sub b n1 (len b)) else Fact.tt)]⟩ a w) [([], [8, 9]), ([7], [9]), ([7, 8], []), ([], [12, 13]), ([], [12, 13]), ([10, 11], [13]), ([10, 11, 12], [])] rfl (by kernel_rfl) ?_ (steps_cons ?_ (steps_cons ?_ (steps_cons ?_ (steps_cons ?_ (steps_cons ?_ (steps_cons ?_ (steps_cons ?_ (steps_nil)))))))) ?_
         ·intro a w hs
          exact ⟨undef, hs.startF [152, 153, 154, 155, 156, 157, 158] [0, 1, 2, 3] [0, 1, 2] rfl rfl rfl rfl⟩
         ·intro L a w hv K Q hK
          obtain ⟨v19, hs⟩ := hv
          refine wpOp_yes rfl rfl rfl hs (congrArg (fun b => some (Value.bool b)) hg16) (OpT_fieldC rfl rfl rfl rfl fldF40x0) ?_
          rintro _ rfl a' w' hs'
          exact hK a' w' ⟨v19, hs'.putF (i := 6) rfl [0, 1, 2, 3] [0, 1, 2] rfl rfl rfl rfl⟩
         ·intro L a w hv K Q hK
          obtain ⟨v19, hs⟩ := hv
          refine wpOp_yes rfl rfl rfl hs (congrArg (fun b => some (Value.bool b)) hg16) (OpT_loadC rfl rfl rfl rfl tyF30 (i := 1) rfl rfl) ?_
          rintro _ rfl a' w' hs'
          exact hK a' w' ⟨v19, hs'.putF (i := 7) rfl [0, 1, 2, 3] [0, 1, 2] rfl rfl rfl rfl⟩
         ·intro L a w hv K Q hK
          obtain ⟨v19, hs⟩ := hv
          refine wpOp_yes rfl rfl rfl hs (congrArg (fun b => some (Value.bool b)) hg16) (OpT_strS rfl rfl rfl rfl Try.underlying30 Try.underlying5 Try.underlying9 (i := 1) rfl) ?_
          rintro _ rfl a' w' hs'
          exact hK a' w' ⟨v19, hs'.putF (i := 8) rfl [0, 1, 2, 3] [0, 1, 2] rfl rfl rfl rfl⟩
         ·intro L a w hv K Q hK
          obtain ⟨v19, hs⟩ := hv
          refine wpOp_yes rfl rfl rfl hs (congrArg (fun b => some (Value.bool b)) hg16) (OpT_move rfl rfl rfl rfl) ?_
          rintro _ rfl a' w' hs'
          exact hK a' w' ⟨v19, hs'.putF (i := 9) rfl [0, 1, 2, 3] [0, 1, 2] rfl rfl rfl rfl⟩
         ·intro L a w hv K Q hK
          obtain ⟨v19, hs⟩ := hv
          refine wpOp_yes rfl rfl rfl hs (congrArg (fun b => some (Value.bool b)) hg16) (OpT_move rfl rfl rfl rfl) ?_
          rintro _ rfl a' w' hs'
          exact hK a' w' ⟨v19, hs'.putF (i := 10) rfl [0, 1, 2, 3] [0, 1, 2] rfl rfl rfl rfl⟩
         ·intro L a w hv K Q hK
          obtain ⟨v19, hs⟩ := hv
          refine wpOp_yes rfl rfl rfl hs (congrArg (fun b => some (Value.bool b)) hg16) (OpT_sliceL (l := n1) rfl rfl rfl rfl rfl slF30 (i := 0) rfl hc3) ?_
          rintro _ ⟨v19', rfl⟩ a' w' hs'
          exact hK a' w' ⟨v19', hs'.putF (i := 11) rfl [0, 1, 2, 3] [0, 1, 3] rfl rfl rfl rfl⟩
         ·intro L a w hv K Q hK
          obtain ⟨v19, hs⟩ := hv
          refine wpOp_yes rfl rfl rfl hs (congrArg (fun b => some (Value.bool b)) hg16) (OpT_strS rfl rfl rfl rfl Try.underlying30 Try.underlying5 Try.underlying9 (i := 2) rfl) ?_
          rintro _ rfl a' w' hs'
          exact hK a' w' ⟨v19, hs'.putF (i := 12) rfl [0, 1, 2, 3] [0, 1, 2] rfl rfl rfl rfl⟩
         ·intro L a w hL hv
          rw [allTrue hL] at hv
          obtain ⟨v19, hs⟩ := hv
          refine (show TA _ _ _ 14 ⟨[(0, some (vb1)), (9, some (v8)), (15, some (vI n1)), (19, some (v18)), (151, some (vB (n1 == (mini (len b) all1)))), (154, some (vS give1.1.Wait)), (158, some (vS (sub b n1 (len b))))], [some (rowS u8S v8 l1), some (rowS u8S v18 image1)], [Fact.sl u8S vb1 b]⟩ from ?_) a w (hs.wkS [0, 9, 15, 19, 151, 154, 158] [0, 3] [0] rfl rfl rfl rfl)
          clear hs hL
          refine TA_yes htb (by kernel_rfl) rfl rfl rfl (congrArg (fun b => some (Value.bool b)) hg16) (OpT_bin rfl rfl rfl rfl rfl (bin_eql_s (a := give1.1.Wait) (b := sub b n1 (len b)))) ?_
          rintro _ rfl
          refine TA_step htb (by kernel_rfl) rfl rfl (OpT_pickT rfl rfl rfl (congrArg (fun b => some (Value.bool b)) hg16) rfl) ?_
          refine TA_step htb (by kernel_rfl) rfl rfl (OpT_move rfl rfl rfl rfl) ?_
          refine TA_wkS (fr' := [(0, some (vb1)), (9, some (v8)), (15, some (vI n1)), (19, some (v18)), (161, some (vB (give1.1.Wait == (sub b n1 (len b)))))]) (own' := [some (rowS u8S v8 l1), some (rowS u8S v18 image1)]) (shr' := [Fact.sl u8S vb1 b]) [0, 9, 15, 19, 161] [0, 1] [0] rfl rfl rfl rfl ?_
          refine TA_retire (i := 1) rfl ?_
          obtain ⟨hg17, h⟩ := chk_e h
          obtain ⟨hc4, h⟩ := chk_e h
          obtain ⟨hc5, h⟩ := chk_e h
          refine TA_seg (lo := 17) (hi := 25) htb rfl rfl (by kernel_rfl) (fun c L a w => ∃ (v20 : Value), ∃ (v21 : Value), Sat c ⟨[(0, some (vb1)), (9, some (v8)), (15, some (vI n1)), (19, some (v18)), (161, some (vB (give1.1.Wait == (sub b n1 (len b))))), (162, bif L 17 then some (v18) else none), (163, bif L 18 then some (vI n1) else none), (164, bif L 19 then some (v20) else none), (165, bif L 20 then some (vS (sub image1 (0 : Int) n1)) else none), (166, bif L 21 then some (vb1) else none), (167, bif L 22 then some (vI n1) else none), (168, bif L 23 then some (v21) else none), (169, bif L 24 then some (vS (sub b (0 : Int) n1)) else none)], [(some (rowS u8S v8 l1) : Option Res), (none : Option Res)], [Fact.sl u8S vb1 b, Fact.sl u8S v18 image1, (bif L 19 then Fact.sl u8S v20 (sub image1 (0 : Int) n1) else Fact.tt), (bif L 23 then Fact.sl u8S v21 (sub b (0 : Int) n1) else Fact.tt)]⟩ a w) [([], [19, 20]), ([], [19, 20]), ([17, 18], [20]), ([17, 18, 19], []), ([], [23, 24]), ([], [23, 24]), ([21, 22], [24]), ([21, 22, 23], [])] rfl (by kernel_rfl) ?_ (steps_cons ?_ (steps_cons ?_ (steps_cons ?_ (steps_cons ?_ (steps_cons ?_ (steps_cons ?_ (steps_cons ?_ (steps_cons ?_ (steps_nil))))))))) ?_
          ·intro a w hs
           exact ⟨undef, undef, hs.startF [162, 163, 164, 165, 166, 167, 168, 169] [0, 1] [0, 1, 2, 3] rfl rfl rfl rfl⟩
          ·intro L a w hv K Q hK
           obtain ⟨v20, v21, hs⟩ := hv
           refine wpOp_yes rfl rfl rfl hs (congrArg (fun b => some (Value.bool b)) hg17) (OpT_move rfl rfl rfl rfl) ?_
           rintro _ rfl a' w' hs'
           exact hK a' w' ⟨v20, v21, hs'.putF (i := 5) rfl [0, 1] [0, 1, 2, 3] rfl rfl rfl rfl⟩
          ·intro L a w hv K Q hK
           obtain ⟨v20, v21, hs⟩ := hv
           refine wpOp_yes rfl rfl rfl hs (congrArg (fun b => some (Value.bool b)) hg17) (OpT_move rfl rfl rfl rfl) ?_
           rintro _ rfl a' w' hs'
           exact hK a' w' ⟨v20, v21, hs'.putF (i := 6) rfl [0, 1] [0, 1, 2, 3] rfl rfl rfl rfl⟩
          ·intro L a w hv K Q hK
           obtain ⟨v20, v21, hs⟩ := hv
           refine wpOp_yes rfl rfl rfl hs (congrArg (fun b => some (Value.bool b)) hg17) (OpT_sliceH (m := n1) rfl rfl rfl rfl rfl slF30 (i := 1) rfl hc4) ?_
           rintro _ ⟨v20', rfl⟩ a' w' hs'
           exact hK a' w' ⟨v20', v21, hs'.putF (i := 7) rfl [0, 1] [0, 1, 4, 3] rfl rfl rfl rfl⟩
          ·intro L a w hv K Q hK
           obtain ⟨v20, v21, hs⟩ := hv
           refine wpOp_yes rfl rfl rfl hs (congrArg (fun b => some (Value.bool b)) hg17) (OpT_strS rfl rfl rfl rfl Try.underlying30 Try.underlying5 Try.underlying9 (i := 2) rfl) ?_
           rintro _ rfl a' w' hs'
           exact hK a' w' ⟨v20, v21, hs'.putF (i := 8) rfl [0, 1] [0, 1, 2, 3] rfl rfl rfl rfl⟩
          ·intro L a w hv K Q hK
           obtain ⟨v20, v21, hs⟩ := hv
           refine wpOp_yes rfl rfl rfl hs (congrArg (fun b => some (Value.bool b)) hg17) (OpT_move rfl rfl rfl rfl) ?_
           rintro _ rfl a' w' hs'
           exact hK a' w' ⟨v20, v21, hs'.putF (i := 9) rfl [0, 1] [0, 1, 2, 3] rfl rfl rfl rfl⟩
          ·intro L a w hv K Q hK
           obtain ⟨v20, v21, hs⟩ := hv
           refine wpOp_yes rfl rfl rfl hs (congrArg (fun b => some (Value.bool b)) hg17) (OpT_move rfl rfl rfl rfl) ?_
           rintro _ rfl a' w' hs'
           exact hK a' w' ⟨v20, v21, hs'.putF (i := 10) rfl [0, 1] [0, 1, 2, 3] rfl rfl rfl rfl⟩
          ·intro L a w hv K Q hK
           obtain ⟨v20, v21, hs⟩ := hv
           refine wpOp_yes rfl rfl rfl hs (congrArg (fun b => some (Value.bool b)) hg17) (OpT_sliceH (m := n1) rfl rfl rfl rfl rfl slF30 (i := 0) rfl hc5) ?_
           rintro _ ⟨v21', rfl⟩ a' w' hs'
           exact hK a' w' ⟨v20, v21', hs'.putF (i := 11) rfl [0, 1] [0, 1, 2, 4] rfl rfl rfl rfl⟩
          ·intro L a w hv K Q hK
           obtain ⟨v20, v21, hs⟩ := hv
           refine wpOp_yes rfl rfl rfl hs (congrArg (fun b => some (Value.bool b)) hg17) (OpT_strS rfl rfl rfl rfl Try.underlying30 Try.underlying5 Try.underlying9 (i := 3) rfl) ?_
           rintro _ rfl a' w' hs'
           exact hK a' w' ⟨v20, v21, hs'.putF (i := 12) rfl [0, 1] [0, 1, 2, 3] rfl rfl rfl rfl⟩
          ·intro L a w hL hv
           rw [allTrue hL] at hv
           obtain ⟨v20, v21, hs⟩ := hv
           refine (show TA _ _ _ 25 ⟨[(9, some (v8)), (15, some (vI n1)), (19, some (v18)), (161, some (vB (give1.1.Wait == (sub b n1 (len b))))), (165, some (vS (sub image1 (0 : Int) n1))), (169, some (vS (sub b (0 : Int) n1)))], [some (rowS u8S v8 l1)], [Fact.sl u8S v18 image1]⟩ from ?_) a w (hs.wkS [9, 15, 19, 161, 165, 169] [0] [1] rfl rfl rfl rfl)
           clear hs hL
           refine TA_yes htb (by kernel_rfl) rfl rfl rfl (congrArg (fun b => some (Value.bool b)) hg17) (OpT_bin rfl rfl rfl rfl rfl (bin_eql_s (a := sub image1 (0 : Int) n1) (b := sub b (0 : Int) n1))) ?_
           rintro _ rfl
           refine TA_step htb (by kernel_rfl) rfl rfl (OpT_pickT rfl rfl rfl (congrArg (fun b => some (Value.bool b)) hg17) rfl) ?_
           refine TA_step htb (by kernel_rfl) rfl rfl (OpT_move rfl rfl rfl rfl) ?_
           refine TA_wkS (fr' := [(9, some (v8)), (15, some (vI n1)), (19, some (v18)), (172, some (vB ((sub image1 (0 : Int) n1) == (sub b (0 : Int) n1))))]) (own' := [some (rowS u8S v8 l1)]) (shr' := [Fact.sl u8S v18 image1]) [9, 15, 19, 172] [0] [0] rfl rfl rfl rfl ?_
           refine TA_retire (i := 0) rfl ?_
           obtain ⟨hg18, h⟩ := chk_e h
           obtain ⟨hc6, h⟩ := chk_e h
           obtain ⟨hc7, h⟩ := chk_e h
           refine TA_seg (lo := 28) (hi := 36) htb rfl rfl (by kernel_rfl) (fun c L a w => ∃ (v22 : Value), ∃ (v23 : Value), Sat c ⟨[(9, some (v8)), (15, some (vI n1)), (19, some (v18)), (172, some (vB ((sub image1 (0 : Int) n1) == (sub b (0 : Int) n1)))), (173, bif L 28 then some (v18) else none), (174, bif L 29 then some (vI n1) else none), (175, bif L 30 then some (v22) else none), (176, bif L 31 then some (vS (sub image1 n1 (len image1))) else none), (177, bif L 32 then some (v8) else none), (178, bif L 33 then some (vI n1) else none), (179, bif L 34 then some (v23) else none), (180, bif L 35 then some (vS (sub l1 n1 (len l1))) else none)], [(none : Option Res)], [Fact.sl u8S v18 image1, Fact.sl u8S v8 l1, (bif L 30 then Fact.sl u8S v22 (sub image1 n1 (len image1)) else Fact.tt), (bif L 34 then Fact.sl u8S v23 (sub l1 n1 (len l1)) else Fact.tt)]⟩ a w) [([], [30, 31]), ([], [30, 31]), ([28, 29], [31]), ([28, 29, 30], []), ([], [34, 35]), ([], [34, 35]), ([32, 33], [35]), ([32, 33, 34], [])] rfl (by kernel_rfl) ?_ (steps_cons ?_ (steps_cons ?_ (steps_cons ?_ (steps_cons ?_ (steps_cons ?_ (steps_cons ?_ (steps_cons ?_ (steps_cons ?_ (steps_nil))))))))) ?_
           ·intro a w hs
            exact ⟨undef, undef, hs.startF [173, 174, 175, 176, 177, 178, 179, 180] [0] [0, 1, 2, 3] rfl rfl rfl rfl⟩
           ·intro L a w hv K Q hK
            obtain ⟨v22, v23, hs⟩ := hv
            refine wpOp_yes rfl rfl rfl hs (congrArg (fun b => some (Value.bool b)) hg18) (OpT_move rfl rfl rfl rfl) ?_
            rintro _ rfl a' w' hs'
            exact hK a' w' ⟨v22, v23, hs'.putF (i := 4) rfl [0] [0, 1, 2, 3] rfl rfl rfl rfl⟩
           ·intro L a w hv K Q hK
            obtain ⟨v22, v23, hs⟩ := hv
            refine wpOp_yes rfl rfl rfl hs (congrArg (fun b => some (Value.bool b)) hg18) (OpT_move rfl rfl rfl rfl) ?_
            rintro _ rfl a' w' hs'
            exact hK a' w' ⟨v22, v23, hs'.putF (i := 5) rfl [0] [0, 1, 2, 3] rfl rfl rfl rfl⟩
           ·intro L a w hv K Q hK
            obtain ⟨v22, v23, hs⟩ := hv
            refine wpOp_yes rfl rfl rfl hs (congrArg (fun b => some (Value.bool b)) hg18) (OpT_sliceL (l := n1) rfl rfl rfl rfl rfl slF30 (i := 0) rfl hc6) ?_
            rintro _ ⟨v22', rfl⟩ a' w' hs'
            exact hK a' w' ⟨v22', v23, hs'.putF (i := 6) rfl [0] [0, 1, 4, 3] rfl rfl rfl rfl⟩
           ·intro L a w hv K Q hK
            obtain ⟨v22, v23, hs⟩ := hv
            refine wpOp_yes rfl rfl rfl hs (congrArg (fun b => some (Value.bool b)) hg18) (OpT_strS rfl rfl rfl rfl Try.underlying30 Try.underlying5 Try.underlying9 (i := 2) rfl) ?_
            rintro _ rfl a' w' hs'
            exact hK a' w' ⟨v22, v23, hs'.putF (i := 7) rfl [0] [0, 1, 2, 3] rfl rfl rfl rfl⟩
           ·intro L a w hv K Q hK
            obtain ⟨v22, v23, hs⟩ := hv
            refine wpOp_yes rfl rfl rfl hs (congrArg (fun b => some (Value.bool b)) hg18) (OpT_move rfl rfl rfl rfl) ?_
            rintro _ rfl a' w' hs'
            exact hK a' w' ⟨v22, v23, hs'.putF (i := 8) rfl [0] [0, 1, 2, 3] rfl rfl rfl rfl⟩
           ·intro L a w hv K Q hK
            obtain ⟨v22, v23, hs⟩ := hv
            refine wpOp_yes rfl rfl rfl hs (congrArg (fun b => some (Value.bool b)) hg18) (OpT_move rfl rfl rfl rfl) ?_
            rintro _ rfl a' w' hs'
            exact hK a' w' ⟨v22, v23, hs'.putF (i := 9) rfl [0] [0, 1, 2, 3] rfl rfl rfl rfl⟩
           ·intro L a w hv K Q hK
            obtain ⟨v22, v23, hs⟩ := hv
            refine wpOp_yes rfl rfl rfl hs (congrArg (fun b => some (Value.bool b)) hg18) (OpT_sliceL (l := n1) rfl rfl rfl rfl rfl slF30 (i := 1) rfl hc7) ?_
            rintro _ ⟨v23', rfl⟩ a' w' hs'
            exact hK a' w' ⟨v22, v23', hs'.putF (i := 10) rfl [0] [0, 1, 2, 4] rfl rfl rfl rfl⟩
           ·intro L a w hv K Q hK
            obtain ⟨v22, v23, hs⟩ := hv
            refine wpOp_yes rfl rfl rfl hs (congrArg (fun b => some (Value.bool b)) hg18) (OpT_strS rfl rfl rfl rfl Try.underlying30 Try.underlying5 Try.underlying9 (i := 3) rfl) ?_
            rintro _ rfl a' w' hs'
            exact hK a' w' ⟨v22, v23, hs'.putF (i := 11) rfl [0] [0, 1, 2, 3] rfl rfl rfl rfl⟩
           ·intro L a w hL hv
            rw [allTrue hL] at hv
            obtain ⟨v22, v23, hs⟩ := hv
            refine (show TA _ _ _ 36 ⟨[(172, some (vB ((sub image1 (0 : Int) n1) == (sub b (0 : Int) n1)))), (176, some (vS (sub image1 n1 (len image1)))), (180, some (vS (sub l1 n1 (len l1))))], [], []⟩ from ?_) a w (hs.wkS [172, 176, 180] [] [] rfl rfl rfl rfl)
            clear hs hL
            refine TA_yes htb (by kernel_rfl) rfl rfl rfl (congrArg (fun b => some (Value.bool b)) hg18) (OpT_bin rfl rfl rfl rfl rfl (bin_eql_s (a := sub image1 n1 (len image1)) (b := sub l1 n1 (len l1)))) ?_
            rintro _ rfl
            refine TA_step htb (by kernel_rfl) rfl rfl (OpT_pickT rfl rfl rfl (congrArg (fun b => some (Value.bool b)) hg18) rfl) ?_
            refine TA_step htb (by kernel_rfl) rfl rfl (OpT_assign rfl rfl rfl rfl) ?_
            refine TA_end rfl ?_
            refine Tk_wkS (fr' := [(6, some (vB ((sub image1 n1 (len image1)) == (sub l1 n1 (len l1)))))]) (own' := []) (shr' := []) [6] [] [] rfl rfl rfl rfl ?_
            obtain ⟨hg19, h⟩ := chk_e h
            exact Tk_retV rfl rfl (resA (vs := [.bool true]) rfl ⟨(congrArg (fun b => some (Value.bool b)) hg19), trivial⟩) [] [] rfl rfl rfl ⟨rfl, rfl, rfl⟩
end Go.Proofs.Ytkjmmbmlapmkbaa
