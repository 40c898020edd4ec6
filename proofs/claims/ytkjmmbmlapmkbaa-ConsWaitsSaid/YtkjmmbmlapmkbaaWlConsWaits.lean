/- The law ConsWaits is walked: it returns what its plain words say. No condition. -/
import Derived.Test.YtkjmmbmlapmkbaaWa3
namespace Go.Proofs.Ytkjmmbmlapmkbaa

set_option maxRecDepth 100000 in
set_option maxHeartbeats 4000000 in
theorem w_law28zConsWaits {b : List UInt8} {sizes : List Int} {cut : Int} {vb1 : Value} {vsizes1 : Value}  (h : law28zConsWaits b sizes cut = some true) :
  Ctr Try.prog 5 #[vb1, vsizes1, vI cut] [] [Fact.sl u8S vb1 b, Fact.sl iS vsizes1 sizes]
   (fun rv own shr => rv = .bool true ∧ own = [] ∧ shr = []) := by
 unfold law28zConsWaits at h
 refine Ctr.mk (args := [vb1, vsizes1, vI cut]) Try.func5 rfl rfl (fun R0 w0 B => ?_)
 refine Tk_seq (Tk_region (Tops_step rfl (OpT_assign rfl rfl rfl rfl) ?_))
 refine Tops_nil (Tk_wkS (fr' := [(0, some (vb1)), (1, some (vsizes1)), (2, some (vI cut))]) (own' := []) (shr' := [Fact.sl u8S vb1 b, Fact.sl iS vsizes1 sizes]) [0, 1, 2] [] [0, 1] rfl rfl rfl rfl ?_)
 refine Tk_seq (Tk_seq (Tk_region ?_))
 obtain ⟨lives1, hx1, h⟩ := ob_e h
 refine Tops_exP rfl (OpT_call (w_law28zlives hx1) [] [] rfl rfl rfl rfl rfl callee8 rfl rfl rfl rfl) ?_
 rintro _ ⟨_, _, _, ⟨rfl, rfl, rfl⟩, rfl⟩
 refine Tops_step rfl (OpT_not rfl rfl rfl rfl) ?_
 refine Tops_nil (Tk_wkS (fr' := [(0, some (vb1)), (1, some (vsizes1)), (2, some (vI cut)), (23, some (vB (!lives1)))]) (own' := []) (shr' := [Fact.sl u8S vb1 b, Fact.sl iS vsizes1 sizes]) [0, 1, 2, 23] [] [0, 1] rfl rfl rfl rfl ?_)
 obtain ⟨hg1, h⟩ := chk_e h
 replace hg1 := not_t hg1
 refine Tk_condF (congrArg (fun b => some (Value.bool b)) hg1) ?_
 refine Tk_skip (Tk_seq (Tk_seq (Tk_region (Tops_step rfl (OpT_move rfl rfl rfl rfl) ?_))))
 refine Tops_step rfl (OpT_lenS rfl rfl rfl rfl Try.underlying30 (i := 0) rfl) ?_
 refine Tops_step rfl (OpT_bin rfl rfl rfl rfl rfl (bin_gtr_i (a := len b) (b := (4096 : Int)))) ?_
 refine Tops_step rfl (OpT_move rfl rfl rfl rfl) ?_
 rcases Bool.eq_false_or_eq_true (decide ((len b) > (4096 : Int))) with hg2 | hg2
 ·replace h := br_t hg2 h
  refine Tops_no rfl rfl (congrArg (fun b => some (Value.bool b)) hg2) rfl rfl ?_
  refine Tops_no rfl rfl (congrArg (fun b => some (Value.bool b)) hg2) rfl rfl ?_
  refine Tops_no rfl rfl (congrArg (fun b => some (Value.bool b)) hg2) rfl rfl ?_
  refine Tops_step rfl (OpT_pickT rfl rfl rfl (congrArg (fun b => some (Value.bool b)) hg2) rfl) ?_
  refine Tops_nil (Tk_wkS (fr' := [(0, some (vb1)), (1, some (vsizes1)), (2, some (vI cut)), (31, some (vB true))]) (own' := []) (shr' := [Fact.sl u8S vb1 b, Fact.sl iS vsizes1 sizes]) [0, 1, 2, 31] [] [0, 1] rfl rfl rfl rfl ?_)
  refine Tk_condT rfl ?_
  refine Tk_seq (Tk_region (Tops_step rfl (OpT_assign rfl rfl rfl rfl) ?_))
  refine Tops_nil (Tk_wkS (fr' := [(6, some (vB true))]) (own' := []) (shr' := []) [6] [] [] rfl rfl rfl rfl ?_)
  exact Tk_retV rfl rfl (resA (vs := [.bool true]) rfl ⟨rfl, trivial⟩) [] [] rfl rfl rfl ⟨rfl, rfl, rfl⟩
 ·replace h := br_f hg2 h
  refine Tops_yes rfl rfl (congrArg (fun b => some (Value.bool b)) hg2) (OpT_move rfl rfl rfl rfl) ?_
  rintro _ rfl
  refine Tops_yes rfl rfl (congrArg (fun b => some (Value.bool b)) hg2) (OpT_lenS rfl rfl rfl rfl Try.underlying31 (i := 1) rfl) ?_
  rintro _ rfl
  refine Tops_yes rfl rfl (congrArg (fun b => some (Value.bool b)) hg2) (OpT_bin rfl rfl rfl rfl rfl (bin_gtr_i (a := len sizes) (b := (20 : Int)))) ?_
  rintro _ rfl
  refine Tops_step rfl (OpT_pickF rfl rfl rfl (congrArg (fun b => some (Value.bool b)) hg2) rfl) ?_
  refine Tops_nil (Tk_wkS (fr' := [(0, some (vb1)), (1, some (vsizes1)), (2, some (vI cut)), (31, some (vB (decide ((len sizes) > (20 : Int)))))]) (own' := []) (shr' := [Fact.sl u8S vb1 b, Fact.sl iS vsizes1 sizes]) [0, 1, 2, 31] [] [0, 1] rfl rfl rfl rfl ?_)
  rcases Bool.eq_false_or_eq_true (decide ((len sizes) > (20 : Int))) with hg3 | hg3
  ·replace h := br_t hg3 h
   refine Tk_condT (congrArg (fun b => some (Value.bool b)) hg3) ?_
   refine Tk_seq (Tk_region (Tops_step rfl (OpT_assign rfl rfl rfl rfl) ?_))
   refine Tops_nil (Tk_wkS (fr' := [(6, some (vB true))]) (own' := []) (shr' := []) [6] [] [] rfl rfl rfl rfl ?_)
   exact Tk_retV rfl rfl (resA (vs := [.bool true]) rfl ⟨rfl, trivial⟩) [] [] rfl rfl rfl ⟨rfl, rfl, rfl⟩
  ·replace h := br_f hg3 h
   refine Tk_condF (congrArg (fun b => some (Value.bool b)) hg3) ?_
   refine Tk_skip (Tk_seq (Tk_region (Tops_step rfl (OpT_assign rfl rfl rfl rfl) ?_)))
   refine Tops_nil (Tk_wkS (fr' := [(0, some (vb1)), (1, some (vsizes1)), (2, some (vI cut)), (7, some (.slice none 0 0))]) (own' := []) (shr' := [Fact.sl u8S vb1 b, Fact.sl iS vsizes1 sizes]) [0, 1, 2, 7] [] [0, 1] rfl rfl rfl rfl ?_)
   refine Tk_seq (Tk_seq (Tk_region (Tops_step rfl (OpT_assign rfl rfl rfl rfl) ?_)))
   refine Tops_nil (Tk_block (Tk_nilrow iS ?_))
   refine Tk_loopS (σ := (List Int) × Int × Value) [0, 1, 2, 7, 8] [0] [0, 1] (fun s => ⟨[(0, some (vb1)), (1, some (vsizes1)), (2, some (vI cut)), (7, some (s.2.2)), (8, some (vI s.2.1))], [some (rowS iS s.2.2 s.1)], [Fact.sl u8S vb1 b, Fact.sl iS vsizes1 sizes]⟩) (fun nf1 s => law28zConsWaitsL1 b sizes cut nf1 s.1 s.2.1 = some true) fuel ([], (0 : Int), (.slice none 0 0)) h rfl rfl rfl rfl rfl (fun s h => by cases h) ?_
   rintro nf1 ⟨l1, i1, v1⟩ h
   replace h : law28zConsWaitsL1B b sizes cut (law28zConsWaitsL1 b sizes cut nf1) l1 i1 = some true := h
   unfold law28zConsWaitsL1B at h
   refine Tk_seq (Tk_seq (Tk_region (Tops_step rfl (OpT_move rfl rfl rfl rfl) ?_)))
   refine Tops_step rfl (OpT_move rfl rfl rfl rfl) ?_
   refine Tops_step rfl (OpT_lenS rfl rfl rfl rfl Try.underlying31 (i := 1) rfl) ?_
   refine Tops_step rfl (OpT_bin rfl rfl rfl rfl rfl (bin_lss_i (a := i1) (b := len sizes))) ?_
   refine Tops_nil (Tk_wkS (fr' := [(0, some (vb1)), (1, some (vsizes1)), (2, some (vI cut)), (7, some (v1)), (8, some (vI i1)), (35, some (vB (decide (i1 < (len sizes)))))]) (own' := [some (rowS iS v1 l1)]) (shr' := [Fact.sl u8S vb1 b, Fact.sl iS vsizes1 sizes]) [0, 1, 2, 7, 8, 35] [0] [0, 1] rfl rfl rfl rfl ?_)
   rcases Bool.eq_false_or_eq_true (decide (i1 < (len sizes))) with hg4 | hg4
   ·replace h := br_t hg4 h
    refine Tk_condT (congrArg (fun b => some (Value.bool b)) hg4) ?_
    refine Tk_skip (Tk_seq (Tk_block (Tk_region (Tops_step rfl (OpT_move rfl rfl rfl rfl) ?_))))
    refine Tops_step rfl (OpT_move rfl rfl rfl rfl) ?_
    refine Tops_step rfl (OpT_move rfl rfl rfl rfl) ?_
    obtain ⟨y1, hx2, h⟩ := ob_e h
    refine Tops_ex rfl (OpT_idxS rfl rfl rfl rfl rfl slF31 (i := 1) rfl hx2) fun p1 => ?_
    refine Tops_step rfl (OpT_loadP rfl rfl rfl rfl tyF3 (i := 2) rfl rfl) ?_
    obtain ⟨pick1, hx3, h⟩ := ob_e h
    refine Tops_exP rfl (OpT_call (w_kit_Pick hx3) [] [] rfl rfl rfl rfl rfl callee9 rfl rfl rfl rfl) ?_
    rintro _ ⟨_, _, _, ⟨rfl, rfl, rfl⟩, rfl⟩
    refine Tops_step rfl (OpT_bin rfl rfl rfl rfl rfl (bin_add_i (a := (1 : Int)) (b := pick1))) ?_
    refine Tops_ex rfl (OpT_buildSlice (S := iS) (xs := [wi ((1 : Int) + pick1)]) (css := [[vI (wi ((1 : Int) + pick1))]]) (cs := [vI (wi ((1 : Int) + pick1))]) (e := 3) rfl rfl rfl rfl (bldF slF31 (by decide) (by kernel_rfl)) rfl rfl rfl rfl (rel_plainD (S := iS) (xs := [wi ((1 : Int) + pick1)]) (css := [[vI (wi ((1 : Int) + pick1))]]) rfl rfl)) fun v2 => ?_
    obtain ⟨hc1, h⟩ := chk_e h
    refine Tops_ex rfl (OpT_appendB (S := iS) rfl rfl rfl rfl rfl rfl slF31 (i := 0) (j := 1) rfl rfl hc1) fun v3 => ?_
    refine Tops_step rfl (OpT_assign rfl rfl rfl rfl) ?_
    refine Tops_nil (Tk_wkS (fr' := [(0, some (vb1)), (1, some (vsizes1)), (2, some (vI cut)), (7, some (v3)), (8, some (vI i1))]) (own' := [some (rowS iS v3 (l1 ++ [wi ((1 : Int) + pick1)]))]) (shr' := [Fact.sl u8S vb1 b, Fact.sl iS vsizes1 sizes]) [0, 1, 2, 7, 8] [0] [0, 1] rfl rfl rfl rfl ?_)
    refine Tk_blk (Tk_region (Tops_step rfl (OpT_move rfl rfl rfl rfl) ?_))
    refine Tops_step rfl (OpT_bin rfl rfl rfl rfl rfl (bin_add_i (a := i1) (b := (1 : Int)))) ?_
    refine Tops_step rfl (OpT_assign rfl rfl rfl rfl) ?_
    refine Tops_nil (Tk_wkS (fr' := [(0, some (vb1)), (1, some (vsizes1)), (2, some (vI cut)), (7, some (v3)), (8, some (vI (wi (i1 + (1 : Int)))))]) (own' := [some (rowS iS v3 (l1 ++ [wi ((1 : Int) + pick1)]))]) (shr' := [Fact.sl u8S vb1 b, Fact.sl iS vsizes1 sizes]) [0, 1, 2, 7, 8] [0] [0, 1] rfl rfl rfl rfl ?_)
    exact Tk_backS (l1 ++ [wi ((1 : Int) + pick1)], wi (i1 + (1 : Int)), v3) h [0, 1, 2, 7, 8] [0] [0, 1] rfl rfl rfl rfl rfl
   ·replace h := br_f hg4 h
    refine Tk_condF (congrArg (fun b => some (Value.bool b)) hg4) ?_
    refine Tk_exit _ rfl ?_
    refine Tk_seq (Tk_region (Tops_step rfl (OpT_move rfl rfl rfl rfl) ?_))
    refine Tops_retire (i := 0) rfl ?_
    obtain ⟨rooms1, hx4, h⟩ := ob_e h
    refine Tops_exP rfl (OpT_call (w_law28zrooms hx4) [] [2] rfl rfl rfl rfl rfl callee17 rfl rfl rfl rfl) ?_
    rintro _ ⟨v4, _, _, ⟨_, rfl, rfl, rfl⟩, rfl⟩
    refine Tops_step rfl (OpT_assign rfl rfl rfl rfl) ?_
    refine Tops_nil (Tk_wkS (fr' := [(0, some (vb1)), (2, some (vI cut)), (9, some (v4))]) (own' := [some (rowS (Shape.slice SegS) v4 rooms1)]) (shr' := [Fact.sl u8S vb1 b]) [0, 2, 9] [1] [0] rfl rfl rfl rfl ?_)
    refine Tk_seq (Tk_region (Tops_step rfl (OpT_move rfl rfl rfl rfl) ?_))
    refine Tops_step rfl (OpT_move rfl rfl rfl rfl) ?_
    refine Tops_step rfl (OpT_lenO rfl rfl rfl rfl Try.underlying45 (i := 0) rfl) ?_
    refine Tops_step rfl (OpT_bin rfl rfl rfl rfl rfl (bin_add_i (a := len rooms1) (b := (1 : Int)))) ?_
    obtain ⟨pick2, hx5, h⟩ := ob_e h
    refine Tops_exP rfl (OpT_call (w_kit_Pick hx5) [] [] rfl rfl rfl rfl rfl callee9 rfl rfl rfl rfl) ?_
    rintro _ ⟨_, _, _, ⟨rfl, rfl, rfl⟩, rfl⟩
    refine Tops_step rfl (OpT_assign rfl rfl rfl rfl) ?_
    refine Tops_nil (Tk_wkS (fr' := [(0, some (vb1)), (9, some (v4)), (10, some (vI pick2))]) (own' := [some (rowS (Shape.slice SegS) v4 rooms1)]) (shr' := [Fact.sl u8S vb1 b]) [0, 9, 10] [0] [0] rfl rfl rfl rfl ?_)
    refine Tk_seq (Tk_region ?_)
    obtain ⟨memory1, hx6, h⟩ := ob_e h
    refine Tops_exP rfl (OpT_call (w_law28zmemory hx6) [] [] rfl rfl rfl rfl rfl callee13 rfl rfl rfl rfl) ?_
    rintro _ ⟨v5, _, _, ⟨_, rfl, rfl, rfl⟩, rfl⟩
    refine Tops_retire (i := 1) rfl ?_
    obtain ⟨new1, hx7, h⟩ := ob_e h
    refine Tops_exP rfl (OpT_call (w_gmem_New hx7) [] [1] rfl rfl rfl rfl rfl callee12 rfl rfl rfl rfl) ?_
    rintro _ ⟨_, _, _, ⟨v6, rfl, rfl, rfl⟩, rfl⟩
    refine Tops_step rfl (OpT_move rfl rfl rfl rfl) ?_
    refine Tops_step rfl (OpT_extract rfl rfl rfl rfl rfl) ?_
    refine Tops_step rfl (OpT_extract rfl rfl rfl rfl rfl) ?_
    refine Tops_step rfl (OpT_assign rfl rfl rfl rfl) ?_
    refine Tops_step rfl (OpT_assign rfl rfl rfl rfl) ?_
    refine Tops_nil (Tk_wkS (fr' := [(0, some (vb1)), (9, some (v4)), (10, some (vI pick2)), (11, some (v6)), (12, some (vI new1.2))]) (own' := [some (rowS (Shape.slice SegS) v4 rooms1), some (optR 76 RegionS u8S true gmem_Mem.l gmem_Mem.b v6 new1.1)]) (shr' := [Fact.sl u8S vb1 b]) [0, 9, 10, 11, 12] [0, 2] [0] rfl rfl rfl rfl ?_)
    rcases onO_cases h with ⟨ho1, h⟩ | ⟨mem1, ho1, h⟩
    ·cases h
    ·refine Tk_optS (i := 1) rfl ho1 ?_
     rintro b1 v7 v8 vs1 rfl
     refine Tk_seq (Tk_region ?_)
     obtain ⟨memory2, hx8, h⟩ := ob_e h
     refine Tops_exP rfl (OpT_call (w_law28zmemory hx8) [] [] rfl rfl rfl rfl rfl callee13 rfl rfl rfl rfl) ?_
     rintro _ ⟨v9, _, _, ⟨_, rfl, rfl, rfl⟩, rfl⟩
     refine Tops_retire (i := 3) rfl ?_
     obtain ⟨new2, hx9, h⟩ := ob_e h
     refine Tops_exP rfl (OpT_call (w_gmem_New hx9) [] [2] rfl rfl rfl rfl rfl callee12 rfl rfl rfl rfl) ?_
     rintro _ ⟨_, _, _, ⟨v10, rfl, rfl, rfl⟩, rfl⟩
     refine Tops_step rfl (OpT_move rfl rfl rfl rfl) ?_
     refine Tops_step rfl (OpT_extract rfl rfl rfl rfl rfl) ?_
     refine Tops_step rfl (OpT_extract rfl rfl rfl rfl rfl) ?_
     refine Tops_step rfl (OpT_assign rfl rfl rfl rfl) ?_
     refine Tops_step rfl (OpT_assign rfl rfl rfl rfl) ?_
     refine Tops_nil (Tk_wkS (fr' := [(0, some (vb1)), (9, some (v4)), (10, some (vI pick2)), (11, some (.pointer (some ⟨b1, 0, none⟩))), (12, some (vI new1.2)), (13, some (v10)), (14, some (vI new2.2))]) (own' := [some (rowS (Shape.slice SegS) v4 rooms1), some (cellsR b1 76 [v7, v8]), some (rowsX u8S true v8 vs1 mem1.b none), some (optR 76 RegionS u8S true gmem_Mem.l gmem_Mem.b v10 new2.1)]) (shr' := [Fact.sl u8S vb1 b, Fact.sl RegionS v7 mem1.l]) [0, 9, 10, 11, 12, 13, 14] [0, 1, 2, 4] [0, 1] rfl rfl rfl rfl ?_)
     rcases onO_cases h with ⟨ho2, h⟩ | ⟨mem2, ho2, h⟩
     ·cases h
     ·refine Tk_optS (i := 3) rfl ho2 ?_
      rintro b2 v11 v12 vs2 rfl
      refine Tk_seq (Tk_seq (Tk_region (Tops_step rfl (OpT_move rfl rfl rfl rfl) ?_)))
      refine Tops_step rfl (OpT_bin rfl rfl rfl rfl rfl (bin_neq_i (a := new1.2) (b := (0 : Int)))) ?_
      refine Tops_step rfl (OpT_move rfl rfl rfl rfl) ?_
      obtain ⟨hg5, h⟩ := chk_e h
      replace hg5 := not_t hg5
      refine Tops_yes rfl rfl (congrArg (fun b => some (Value.bool b)) hg5) (OpT_move rfl rfl rfl rfl) ?_
      rintro _ rfl
      refine Tops_yes rfl rfl (congrArg (fun b => some (Value.bool b)) hg5) (OpT_bin rfl rfl rfl rfl rfl (bin_neq_i (a := new2.2) (b := (0 : Int)))) ?_
      rintro _ rfl
      refine Tops_step rfl (OpT_pickF rfl rfl rfl (congrArg (fun b => some (Value.bool b)) hg5) rfl) ?_
      refine Tops_nil (Tk_wkS (fr' := [(0, some (vb1)), (9, some (v4)), (10, some (vI pick2)), (11, some (.pointer (some ⟨b1, 0, none⟩))), (13, some (.pointer (some ⟨b2, 0, none⟩))), (69, some (vB (new2.2 != (0 : Int))))]) (own' := [some (rowS (Shape.slice SegS) v4 rooms1), some (cellsR b1 76 [v7, v8]), some (rowsX u8S true v8 vs1 mem1.b none), some (cellsR b2 76 [v11, v12]), some (rowsX u8S true v12 vs2 mem2.b none)]) (shr' := [Fact.sl u8S vb1 b, Fact.sl RegionS v7 mem1.l, Fact.sl RegionS v11 mem2.l]) [0, 9, 10, 11, 13, 69] [0, 1, 2, 3, 4] [0, 1, 2] rfl rfl rfl rfl ?_)
      obtain ⟨hg6, h⟩ := chk_e h
      replace hg6 := not_t hg6
      refine Tk_condF (congrArg (fun b => some (Value.bool b)) hg6) ?_
      refine Tk_skip (Tk_seq (Tk_region (Tops_step rfl (OpT_move rfl rfl rfl rfl) ?_)))
      refine Tops_step rfl (OpT_move rfl rfl rfl rfl) ?_
      obtain ⟨own1, hx10, h⟩ := ob_e h
      refine Tops_exP rfl (OpT_call (w_kit_Own hx10) [] [0] rfl rfl rfl rfl rfl callee16 rfl rfl rfl rfl) ?_
      rintro _ ⟨v13, _, _, ⟨_, rfl, rfl, rfl⟩, rfl⟩
      refine Tops_step rfl (OpT_build1 (fun z0 => [(0, z0)]) (fun z0 => [z0]) rfl rfl rfl rfl (is_row (i := 5) rfl) (by intros; kernel_rfl)) ?_
      refine Tops_step rfl (OpT_move rfl rfl rfl rfl) ?_
      refine Tops_retire (i := 5) rfl ?_
      refine Tops_retire (i := 0) rfl ?_
      obtain ⟨give1, hx11, h⟩ := ob_e h
      refine Tops_exP rfl (OpT_callP [0, 6, 7, 3, 4, 5, 8] (w_cons_Give hx11) [1, 2] [1, 3, 4] rfl rfl rfl rfl rfl callee15 rfl rfl rfl rfl rfl) ?_
      rintro _ ⟨_, _, _, ⟨v14, v15, rfl, rfl, rfl⟩, rfl⟩
      refine Tops_step rfl (OpT_move rfl rfl rfl rfl) ?_
      refine Tops_step rfl (OpT_extract rfl rfl rfl rfl rfl) ?_
      refine Tops_step rfl (OpT_extract rfl rfl rfl rfl rfl) ?_
      refine Tops_step rfl (OpT_extract rfl rfl rfl rfl rfl) ?_
      refine Tops_ex rfl (OpT_alloc rfl rfl rfl tyZ40) fun b3 => ?_
      refine Tops_step rfl (OpT_storeA1 (fun z0 => [z0]) (cs' := [v14]) rfl rfl rfl rfl tyF40 (i := 7) rfl (is_row (i := 6) rfl) (fun _ _ _ => rfl) rfl rfl rfl) ?_
      refine Tops_step rfl (OpT_assign rfl rfl rfl rfl) ?_
      refine Tops_step rfl (OpT_assign rfl rfl rfl rfl) ?_
      refine Tops_nil (Tk_wkS (fr' := [(0, some (vb1)), (9, some (v4)), (10, some (vI pick2)), (11, some (.pointer (some ⟨b1, 0, none⟩))), (13, some (.pointer (some ⟨b2, 0, none⟩))), (15, some (.pointer (some ⟨b3, 0, none⟩))), (16, some (v15)), (12, some (vI give1.2.2.1))]) (own' := [some (cellsR b1 76 [v7, v8]), some (rowsX u8S true v8 vs1 give1.2.2.2 none), some (cellsR b2 76 [v11, v12]), some (rowsX u8S true v12 vs2 mem2.b none), some (rowS u8S v14 give1.1.Wait), some (cellsR b3 40 [v14])]) (shr' := [Fact.sl u8S vb1 b, Fact.sl RegionS v7 mem1.l, Fact.sl RegionS v11 mem2.l, Fact.sl (Shape.slice SegS) v4 rooms1, Fact.sl u32S v15 give1.2.1]) [0, 9, 10, 11, 13, 15, 16, 12] [1, 2, 3, 4, 6, 7] [0, 1, 2, 4, 5] rfl rfl rfl rfl ?_)
      refine Tk_seq (Tk_drawT (by kernel_rfl) ?_)
      refine TA_tb [0, 0, 2, 6, 0, 0, 48, 127, 255, 511, 511, 511, 0, 5119, 14335, 32767] (by kernel_rfl) fun htb => ?_
      obtain ⟨own2, hx12, h⟩ := ob_e h
      obtain ⟨hc2, h⟩ := chk_e h
      obtain ⟨give2, hx13, h⟩ := ob_e h
      refine TA_seg (lo := 0) (hi := 15) htb rfl rfl (by kernel_rfl) (fun c L a w => ∃ (v16 : Value), ∃ (v17 : Value), ∃ (v18 : Value), ∃ (v19 : Value), ∃ (b4 : Nat), Sat c ⟨[(0, some (vb1)), (9, some (v4)), (10, some (vI pick2)), (11, some (.pointer (some ⟨b1, 0, none⟩))), (13, some (.pointer (some ⟨b2, 0, none⟩))), (15, some (.pointer (some ⟨b3, 0, none⟩))), (16, some (v15)), (12, some (vI give1.2.2.1)), (81, bif L 0 then some (.pointer (some ⟨b2, 0, none⟩)) else none), (82, bif L 1 then some (vb1) else none), (83, bif L 2 then some (v16) else none), (84, bif L 3 then some (.agg #[v16]) else none), (85, bif L 4 then some (v4) else none), (86, bif L 5 then some (vI pick2) else none), (87, bif L 6 then some (v17) else none), (88, bif L 7 then some (.tuple #[.agg #[v18], v19, vI give2.2.2.1]) else none), (80, bif L 8 then some (.tuple #[.agg #[v18], v19, vI give2.2.2.1]) else none), (89, bif L 9 then some (.agg #[v18]) else none), (90, bif L 10 then some (v19) else none), (91, bif L 11 then some (vI give2.2.2.1) else none), (17, bif L 12 then some (.pointer (some ⟨b4, 0, none⟩)) else none), (18, bif L 14 then some (v19) else none)], [(some (cellsR b1 76 [v7, v8]) : Option Res), (some (rowsX u8S true v8 vs1 give1.2.2.2 none) : Option Res), (some (cellsR b2 76 [v11, v12]) : Option Res), (bif L 7 then some (rowsX u8S true v12 vs2 give2.2.2.2 none) else some (rowsX u8S true v12 vs2 mem2.b none) : Option Res), (some (rowS u8S v14 give1.1.Wait) : Option Res), (some (cellsR b3 40 [v14]) : Option Res), (bif L 7 then some (rowS u8S v18 give2.1.Wait) else none : Option Res), (bif L 13 then some (cellsR b4 40 [v18]) else bif L 12 then some (cellsR b4 40 [.slice none 0 0]) else none : Option Res)], [Fact.sl u8S vb1 b, Fact.sl RegionS v7 mem1.l, Fact.sl RegionS v11 mem2.l, Fact.sl (Shape.slice SegS) v4 rooms1, Fact.sl u32S v15 give1.2.1, (bif L 2 then Fact.sl u8S v16 own2 else Fact.tt), (bif L 6 then Fact.sl (Shape.slice SegS) v17 (sub rooms1 (0 : Int) pick2) else Fact.tt), (bif L 7 then Fact.sl u32S v19 give2.2.1 else Fact.tt)]⟩ a w) [([], [7, 8, 9, 10, 11, 13, 14]), ([], [2, 3, 7, 8, 9, 10, 11, 13, 14]), ([1], [3, 7, 8, 9, 10, 11, 13, 14]), ([1, 2], [7, 8, 9, 10, 11, 13, 14]), ([], [6, 7, 8, 9, 10, 11, 13, 14]), ([], [6, 7, 8, 9, 10, 11, 13, 14]), ([4, 5], [7, 8, 9, 10, 11, 13, 14]), ([0, 1, 2, 3, 4, 5, 6], [8, 9, 10, 11, 13, 14]), ([0, 1, 2, 3, 4, 5, 6, 7], [9, 10, 11, 13, 14]), ([0, 1, 2, 3, 4, 5, 6, 7, 8], [13, 14]), ([0, 1, 2, 3, 4, 5, 6, 7, 8], [14]), ([0, 1, 2, 3, 4, 5, 6, 7, 8], []), ([], [13, 14]), ([0, 1, 2, 3, 4, 5, 6, 7, 8, 9, 12], [14]), ([0, 1, 2, 3, 4, 5, 6, 7, 8, 9, 10, 12, 13], [])] rfl (by kernel_rfl) ?_ (steps_cons ?_ (steps_cons ?_ (steps_cons ?_ (steps_cons ?_ (steps_cons ?_ (steps_cons ?_ (steps_cons ?_ (steps_cons ?_ (steps_cons ?_ (steps_cons ?_ (steps_cons ?_ (steps_cons ?_ (steps_cons ?_ (steps_cons ?_ (steps_cons ?_ (steps_nil)))))))))))))))) ?_
      ·intro a w hs
       exact ⟨undef, undef, undef, undef, 0, hs.startF [81, 82, 83, 84, 85, 86, 87, 88, 80, 89, 90, 91, 17, 18] [0, 1, 2, 3, 4, 5, 6, 7] [0, 1, 2, 3, 4, 5, 6, 7] rfl rfl rfl rfl⟩
      ·intro L a w hv K Q hK
       obtain ⟨v16, v17, v18, v19, b4, hs⟩ := hv
       refine wpOp_go rfl rfl hs (OpT_move rfl rfl rfl rfl) ?_
       rintro _ rfl a' w' hs'
       exact hK a' w' ⟨v16, v17, v18, v19, b4, hs'.putF (i := 8) rfl [0, 1, 2, 3, 4, 5, 6, 7] [0, 1, 2, 3, 4, 5, 6, 7] rfl rfl rfl rfl⟩
      ·intro L a w hv K Q hK
       obtain ⟨v16, v17, v18, v19, b4, hs⟩ := hv
       refine wpOp_go rfl rfl hs (OpT_move rfl rfl rfl rfl) ?_
       rintro _ rfl a' w' hs'
       exact hK a' w' ⟨v16, v17, v18, v19, b4, hs'.putF (i := 9) rfl [0, 1, 2, 3, 4, 5, 6, 7] [0, 1, 2, 3, 4, 5, 6, 7] rfl rfl rfl rfl⟩
      ·intro L a w hv K Q hK
       obtain ⟨v16, v17, v18, v19, b4, hs⟩ := hv
       refine wpOp_go rfl rfl hs (OpT_call (ws_kit_Own hx12) [] [0] rfl rfl rfl rfl rfl callee16 rfl rfl rfl rfl) ?_
       rintro _ ⟨v16', _, _, ⟨_, rfl, rfl, rfl⟩, rfl⟩ a' w' hs'
       exact hK a' w' ⟨v16', v17, v18, v19, b4, hs'.putF (i := 10) rfl [0, 1, 2, 3, 4, 5, 6, 7] [0, 1, 2, 3, 4, 8, 6, 7] rfl rfl rfl rfl⟩
      ·intro L a w hv K Q hK
       obtain ⟨v16, v17, v18, v19, b4, hs⟩ := hv
       refine wpOp_go rfl rfl hs (OpT_build1 (fun z0 => [(0, z0)]) (fun z0 => [z0]) rfl rfl rfl rfl (is_sl (i := 5) rfl) (by intros; kernel_rfl)) ?_
       rintro _ rfl a' w' hs'
       exact hK a' w' ⟨v16, v17, v18, v19, b4, hs'.putF (i := 11) rfl [0, 1, 2, 3, 4, 5, 6, 7] [0, 1, 2, 3, 4, 5, 6, 7] rfl rfl rfl rfl⟩
      ·intro L a w hv K Q hK
       obtain ⟨v16, v17, v18, v19, b4, hs⟩ := hv
       refine wpOp_go rfl rfl hs (OpT_move rfl rfl rfl rfl) ?_
       rintro _ rfl a' w' hs'
       exact hK a' w' ⟨v16, v17, v18, v19, b4, hs'.putF (i := 12) rfl [0, 1, 2, 3, 4, 5, 6, 7] [0, 1, 2, 3, 4, 5, 6, 7] rfl rfl rfl rfl⟩
      ·intro L a w hv K Q hK
       obtain ⟨v16, v17, v18, v19, b4, hs⟩ := hv
       refine wpOp_go rfl rfl hs (OpT_move rfl rfl rfl rfl) ?_
       rintro _ rfl a' w' hs'
       exact hK a' w' ⟨v16, v17, v18, v19, b4, hs'.putF (i := 13) rfl [0, 1, 2, 3, 4, 5, 6, 7] [0, 1, 2, 3, 4, 5, 6, 7] rfl rfl rfl rfl⟩
      ·intro L a w hv K Q hK
       obtain ⟨v16, v17, v18, v19, b4, hs⟩ := hv
       refine wpOp_go rfl rfl hs (OpT_sliceH (m := pick2) rfl rfl rfl rfl rfl slF45 (i := 3) rfl hc2) ?_
       rintro _ ⟨v17', rfl⟩ a' w' hs'
       exact hK a' w' ⟨v16, v17', v18, v19, b4, hs'.putF (i := 14) rfl [0, 1, 2, 3, 4, 5, 6, 7] [0, 1, 2, 3, 4, 5, 8, 7] rfl rfl rfl rfl⟩
      ·intro L a w hv K Q hK
       obtain ⟨v16, v17, v18, v19, b4, hs⟩ := hv
       refine wpOp_go rfl rfl hs (OpT_callP [0, 1, 8, 9, 4, 5, 6, 7, 10] (w_cons_Give hx13) [2, 3] [2, 5, 6] rfl rfl rfl rfl rfl callee15 rfl rfl rfl rfl rfl) ?_
       rintro _ ⟨_, _, _, ⟨v18', v19', rfl, rfl, rfl⟩, rfl⟩ a' w' hs'
       exact hK a' w' ⟨v16, v17, v18', v19', b4, hs'.putF (i := 15) rfl [0, 1, 2, 3, 4, 5, 8, 7] [0, 1, 2, 3, 4, 5, 6, 8] rfl rfl rfl rfl⟩
      ·intro L a w hv K Q hK
       obtain ⟨v16, v17, v18, v19, b4, hs⟩ := hv
       refine wpOp_go rfl rfl hs (OpT_move rfl rfl rfl rfl) ?_
       rintro _ rfl a' w' hs'
       exact hK a' w' ⟨v16, v17, v18, v19, b4, hs'.putF (i := 16) rfl [0, 1, 2, 3, 4, 5, 6, 7] [0, 1, 2, 3, 4, 5, 6, 7] rfl rfl rfl rfl⟩
      ·intro L a w hv K Q hK
       obtain ⟨v16, v17, v18, v19, b4, hs⟩ := hv
       refine wpOp_go rfl rfl hs (OpT_extract rfl rfl rfl rfl rfl) ?_
       rintro _ rfl a' w' hs'
       exact hK a' w' ⟨v16, v17, v18, v19, b4, hs'.putF (i := 17) rfl [0, 1, 2, 3, 4, 5, 6, 7] [0, 1, 2, 3, 4, 5, 6, 7] rfl rfl rfl rfl⟩
      ·intro L a w hv K Q hK
       obtain ⟨v16, v17, v18, v19, b4, hs⟩ := hv
       refine wpOp_go rfl rfl hs (OpT_extract rfl rfl rfl rfl rfl) ?_
       rintro _ rfl a' w' hs'
       exact hK a' w' ⟨v16, v17, v18, v19, b4, hs'.putF (i := 18) rfl [0, 1, 2, 3, 4, 5, 6, 7] [0, 1, 2, 3, 4, 5, 6, 7] rfl rfl rfl rfl⟩
      ·intro L a w hv K Q hK
       obtain ⟨v16, v17, v18, v19, b4, hs⟩ := hv
       refine wpOp_go rfl rfl hs (OpT_extract rfl rfl rfl rfl rfl) ?_
       rintro _ rfl a' w' hs'
       exact hK a' w' ⟨v16, v17, v18, v19, b4, hs'.putF (i := 19) rfl [0, 1, 2, 3, 4, 5, 6, 7] [0, 1, 2, 3, 4, 5, 6, 7] rfl rfl rfl rfl⟩
      ·intro L a w hv K Q hK
       obtain ⟨v16, v17, v18, v19, b4, hs⟩ := hv
       refine wpOp_go rfl rfl hs (OpT_alloc rfl rfl rfl tyZ40) ?_
       rintro _ ⟨b4', rfl⟩ a' w' hs'
       exact hK a' w' ⟨v16, v17, v18, v19, b4', hs'.putF (i := 20) rfl [0, 1, 2, 3, 4, 5, 6, 8] [0, 1, 2, 3, 4, 5, 6, 7] rfl rfl rfl rfl⟩
      ·intro L a w hv K Q hK
       obtain ⟨v16, v17, v18, v19, b4, hs⟩ := hv
       refine wpOp_go rfl rfl hs (OpT_storeA1 (fun z0 => [z0]) (cs' := [v18]) rfl rfl rfl rfl tyF40 (i := 7) rfl (is_row (i := 6) rfl) (fun _ _ _ => rfl) rfl rfl rfl) ?_
       rintro _ rfl a' w' hs'
       exact hK a' w' ⟨v16, v17, v18, v19, b4, hs'.sameF [0, 1, 2, 3, 4, 5, 6, 7] [0, 1, 2, 3, 4, 5, 6, 7] rfl rfl rfl rfl⟩
      ·intro L a w hv K Q hK
       obtain ⟨v16, v17, v18, v19, b4, hs⟩ := hv
       refine wpOp_go rfl rfl hs (OpT_assign rfl rfl rfl rfl) ?_
       rintro _ rfl a' w' hs'
       exact hK a' w' ⟨v16, v17, v18, v19, b4, hs'.putF (i := 21) rfl [0, 1, 2, 3, 4, 5, 6, 7] [0, 1, 2, 3, 4, 5, 6, 7] rfl rfl rfl rfl⟩
      ·intro L a w hL hv
       rw [allTrue hL] at hv
       obtain ⟨v16, v17, v18, v19, b4, hs⟩ := hv
       refine (show TA _ _ _ 15 ⟨[(0, some (vb1)), (9, some (v4)), (10, some (vI pick2)), (11, some (.pointer (some ⟨b1, 0, none⟩))), (13, some (.pointer (some ⟨b2, 0, none⟩))), (15, some (.pointer (some ⟨b3, 0, none⟩))), (16, some (v15)), (12, some (vI give1.2.2.1)), (91, some (vI give2.2.2.1)), (17, some (.pointer (some ⟨b4, 0, none⟩))), (18, some (v19))], [some (cellsR b1 76 [v7, v8]), some (rowsX u8S true v8 vs1 give1.2.2.2 none), some (cellsR b2 76 [v11, v12]), some (rowsX u8S true v12 vs2 give2.2.2.2 none), some (rowS u8S v14 give1.1.Wait), some (cellsR b3 40 [v14]), some (rowS u8S v18 give2.1.Wait), some (cellsR b4 40 [v18])], [Fact.sl u8S vb1 b, Fact.sl RegionS v7 mem1.l, Fact.sl RegionS v11 mem2.l, Fact.sl (Shape.slice SegS) v4 rooms1, Fact.sl u32S v15 give1.2.1, Fact.sl u32S v19 give2.2.1]⟩ from ?_) a w (hs.wkS [0, 9, 10, 11, 13, 15, 16, 12, 91, 17, 18] [0, 1, 2, 3, 4, 5, 6, 7] [0, 1, 2, 3, 4, 7] rfl rfl rfl rfl)
       clear hs hL
       refine TA_step htb (by kernel_rfl) rfl rfl (OpT_assign rfl rfl rfl rfl) ?_
       refine TA_end rfl ?_
       refine Tk_wkS (fr' := [(0, some (vb1)), (9, some (v4)), (10, some (vI pick2)), (11, some (.pointer (some ⟨b1, 0, none⟩))), (13, some (.pointer (some ⟨b2, 0, none⟩))), (15, some (.pointer (some ⟨b3, 0, none⟩))), (16, some (v15)), (12, some (vI give1.2.2.1)), (17, some (.pointer (some ⟨b4, 0, none⟩))), (18, some (v19)), (14, some (vI give2.2.2.1))]) (own' := [some (cellsR b1 76 [v7, v8]), some (rowsX u8S true v8 vs1 give1.2.2.2 none), some (cellsR b2 76 [v11, v12]), some (rowsX u8S true v12 vs2 give2.2.2.2 none), some (rowS u8S v14 give1.1.Wait), some (cellsR b3 40 [v14]), some (rowS u8S v18 give2.1.Wait), some (cellsR b4 40 [v18])]) (shr' := [Fact.sl u8S vb1 b, Fact.sl RegionS v7 mem1.l, Fact.sl RegionS v11 mem2.l, Fact.sl (Shape.slice SegS) v4 rooms1, Fact.sl u32S v15 give1.2.1, Fact.sl u32S v19 give2.2.1]) [0, 9, 10, 11, 13, 15, 16, 12, 17, 18, 14] [0, 1, 2, 3, 4, 5, 6, 7] [0, 1, 2, 3, 4, 5] rfl rfl rfl rfl ?_
       refine Tk_seq (Tk_drawT (by kernel_rfl) ?_)
       refine TA_tb [0, 0, 0, 0, 12, 31, 63, 127, 127, 127, 0, 1279, 3583, 8191] (by kernel_rfl) fun htb => ?_
       refine TA_retire (i := 6) rfl ?_
       obtain ⟨hc3, h⟩ := chk_e h
       obtain ⟨give3, hx14, h⟩ := ob_e h
       refine TA_seg (lo := 0) (hi := 13) htb rfl rfl (by kernel_rfl) (fun c L a w => ∃ (v20 : Value), ∃ (v21 : Value), ∃ (v22 : Value), ∃ (b5 : Nat), Sat c ⟨[(0, some (vb1)), (9, some (v4)), (10, some (vI pick2)), (11, some (.pointer (some ⟨b1, 0, none⟩))), (13, some (.pointer (some ⟨b2, 0, none⟩))), (15, some (.pointer (some ⟨b3, 0, none⟩))), (16, some (v15)), (12, some (vI give1.2.2.1)), (17, some (.pointer (some ⟨b4, 0, none⟩))), (18, some (v19)), (14, some (vI give2.2.2.1)), (93, bif L 0 then some (.pointer (some ⟨b2, 0, none⟩)) else none), (94, bif L 1 then some (.agg #[v18]) else none), (95, bif L 2 then some (v4) else none), (96, bif L 3 then some (vI pick2) else none), (97, bif L 4 then some (v20) else none), (98, bif L 5 then some (.tuple #[.agg #[v21], v22, vI give3.2.2.1]) else none), (92, bif L 6 then some (.tuple #[.agg #[v21], v22, vI give3.2.2.1]) else none), (99, bif L 7 then some (.agg #[v21]) else none), (100, bif L 8 then some (v22) else none), (101, bif L 9 then some (vI give3.2.2.1) else none), (19, bif L 10 then some (.pointer (some ⟨b5, 0, none⟩)) else none), (20, bif L 12 then some (v22) else none)], [(some (cellsR b1 76 [v7, v8]) : Option Res), (some (rowsX u8S true v8 vs1 give1.2.2.2 none) : Option Res), (some (cellsR b2 76 [v11, v12]) : Option Res), (bif L 5 then some (rowsX u8S true v12 vs2 give3.2.2.2 none) else some (rowsX u8S true v12 vs2 give2.2.2.2 none) : Option Res), (some (rowS u8S v14 give1.1.Wait) : Option Res), (some (cellsR b3 40 [v14]) : Option Res), (none : Option Res), (some (cellsR b4 40 [v18]) : Option Res), (bif L 5 then some (rowS u8S v21 give3.1.Wait) else none : Option Res), (bif L 11 then some (cellsR b5 40 [v21]) else bif L 10 then some (cellsR b5 40 [.slice none 0 0]) else none : Option Res)], [Fact.sl u8S vb1 b, Fact.sl RegionS v7 mem1.l, Fact.sl RegionS v11 mem2.l, Fact.sl (Shape.slice SegS) v4 rooms1, Fact.sl u32S v15 give1.2.1, Fact.sl u32S v19 give2.2.1, Fact.sl u8S v18 give2.1.Wait, (bif L 4 then Fact.sl (Shape.slice SegS) v20 (sub rooms1 pick2 (len rooms1)) else Fact.tt), (bif L 5 then Fact.sl u32S v22 give3.2.1 else Fact.tt)]⟩ a w) [([], [5, 6, 7, 8, 9, 11, 12]), ([], [5, 6, 7, 8, 9, 11, 12]), ([], [4, 5, 6, 7, 8, 9, 11, 12]), ([], [4, 5, 6, 7, 8, 9, 11, 12]), ([2, 3], [5, 6, 7, 8, 9, 11, 12]), ([0, 1, 2, 3, 4], [6, 7, 8, 9, 11, 12]), ([0, 1, 2, 3, 4, 5], [7, 8, 9, 11, 12]), ([0, 1, 2, 3, 4, 5, 6], [11, 12]), ([0, 1, 2, 3, 4, 5, 6], [12]), ([0, 1, 2, 3, 4, 5, 6], []), ([], [11, 12]), ([0, 1, 2, 3, 4, 5, 6, 7, 10], [12]), ([0, 1, 2, 3, 4, 5, 6, 7, 8, 10, 11], [])] rfl (by kernel_rfl) ?_ (steps_cons ?_ (steps_cons ?_ (steps_cons ?_ (steps_cons ?_ (steps_cons ?_ (steps_cons ?_ (steps_cons ?_ (steps_cons ?_ (steps_cons ?_ (steps_cons ?_ (steps_cons ?_ (steps_cons ?_ (steps_cons ?_ (steps_nil)))))))))))))) ?_
       ·intro a w hs
        exact ⟨undef, undef, undef, 0, hs.startF [93, 94, 95, 96, 97, 98, 92, 99, 100, 101, 19, 20] [0, 1, 2, 3, 4, 5, 6, 7, 8, 9] [0, 1, 2, 3, 4, 5, 6, 7, 8] rfl rfl rfl rfl⟩
       ·intro L a w hv K Q hK
        obtain ⟨v20, v21, v22, b5, hs⟩ := hv
        refine wpOp_go rfl rfl hs (OpT_move rfl rfl rfl rfl) ?_
        rintro _ rfl a' w' hs'
        exact hK a' w' ⟨v20, v21, v22, b5, hs'.putF (i := 11) rfl [0, 1, 2, 3, 4, 5, 6, 7, 8, 9] [0, 1, 2, 3, 4, 5, 6, 7, 8] rfl rfl rfl rfl⟩
       ·intro L a w hv K Q hK
        obtain ⟨v20, v21, v22, b5, hs⟩ := hv
        refine wpOp_go rfl rfl hs (OpT_loadCA (vs := [v18]) rfl rfl rfl rfl tyF40 (i := 7) rfl rfl rfl) ?_
        rintro _ rfl a' w' hs'
        exact hK a' w' ⟨v20, v21, v22, b5, hs'.putF (i := 12) rfl [0, 1, 2, 3, 4, 5, 6, 7, 8, 9] [0, 1, 2, 3, 4, 5, 6, 7, 8] rfl rfl rfl rfl⟩
       ·intro L a w hv K Q hK
        obtain ⟨v20, v21, v22, b5, hs⟩ := hv
        refine wpOp_go rfl rfl hs (OpT_move rfl rfl rfl rfl) ?_
        rintro _ rfl a' w' hs'
        exact hK a' w' ⟨v20, v21, v22, b5, hs'.putF (i := 13) rfl [0, 1, 2, 3, 4, 5, 6, 7, 8, 9] [0, 1, 2, 3, 4, 5, 6, 7, 8] rfl rfl rfl rfl⟩
       ·intro L a w hv K Q hK
        obtain ⟨v20, v21, v22, b5, hs⟩ := hv
        refine wpOp_go rfl rfl hs (OpT_move rfl rfl rfl rfl) ?_
        rintro _ rfl a' w' hs'
        exact hK a' w' ⟨v20, v21, v22, b5, hs'.putF (i := 14) rfl [0, 1, 2, 3, 4, 5, 6, 7, 8, 9] [0, 1, 2, 3, 4, 5, 6, 7, 8] rfl rfl rfl rfl⟩
       ·intro L a w hv K Q hK
        obtain ⟨v20, v21, v22, b5, hs⟩ := hv
        refine wpOp_go rfl rfl hs (OpT_sliceL (l := pick2) rfl rfl rfl rfl rfl slF45 (i := 3) rfl hc3) ?_
        rintro _ ⟨v20', rfl⟩ a' w' hs'
        exact hK a' w' ⟨v20', v21, v22, b5, hs'.putF (i := 15) rfl [0, 1, 2, 3, 4, 5, 6, 7, 8, 9] [0, 1, 2, 3, 4, 5, 6, 9, 8] rfl rfl rfl rfl⟩
       ·intro L a w hv K Q hK
        obtain ⟨v20, v21, v22, b5, hs⟩ := hv
        refine wpOp_go rfl rfl hs (OpT_callP [0, 1, 10, 11, 4, 5, 6, 7, 8, 9, 12] (w_cons_Give hx14) [2, 3] [2, 6, 7] rfl rfl rfl rfl rfl callee15 rfl rfl rfl rfl rfl) ?_
        rintro _ ⟨_, _, _, ⟨v21', v22', rfl, rfl, rfl⟩, rfl⟩ a' w' hs'
        exact hK a' w' ⟨v20, v21', v22', b5, hs'.putF (i := 16) rfl [0, 1, 2, 3, 4, 5, 6, 7, 10, 9] [0, 1, 2, 3, 4, 5, 6, 7, 9] rfl rfl rfl rfl⟩
       ·intro L a w hv K Q hK
        obtain ⟨v20, v21, v22, b5, hs⟩ := hv
        refine wpOp_go rfl rfl hs (OpT_move rfl rfl rfl rfl) ?_
        rintro _ rfl a' w' hs'
        exact hK a' w' ⟨v20, v21, v22, b5, hs'.putF (i := 17) rfl [0, 1, 2, 3, 4, 5, 6, 7, 8, 9] [0, 1, 2, 3, 4, 5, 6, 7, 8] rfl rfl rfl rfl⟩
       ·intro L a w hv K Q hK
        obtain ⟨v20, v21, v22, b5, hs⟩ := hv
        refine wpOp_go rfl rfl hs (OpT_extract rfl rfl rfl rfl rfl) ?_
        rintro _ rfl a' w' hs'
        exact hK a' w' ⟨v20, v21, v22, b5, hs'.putF (i := 18) rfl [0, 1, 2, 3, 4, 5, 6, 7, 8, 9] [0, 1, 2, 3, 4, 5, 6, 7, 8] rfl rfl rfl rfl⟩
       ·intro L a w hv K Q hK
        obtain ⟨v20, v21, v22, b5, hs⟩ := hv
        refine wpOp_go rfl rfl hs (OpT_extract rfl rfl rfl rfl rfl) ?_
        rintro _ rfl a' w' hs'
        exact hK a' w' ⟨v20, v21, v22, b5, hs'.putF (i := 19) rfl [0, 1, 2, 3, 4, 5, 6, 7, 8, 9] [0, 1, 2, 3, 4, 5, 6, 7, 8] rfl rfl rfl rfl⟩
       ·intro L a w hv K Q hK
        obtain ⟨v20, v21, v22, b5, hs⟩ := hv
        refine wpOp_go rfl rfl hs (OpT_extract rfl rfl rfl rfl rfl) ?_
        rintro _ rfl a' w' hs'
        exact hK a' w' ⟨v20, v21, v22, b5, hs'.putF (i := 20) rfl [0, 1, 2, 3, 4, 5, 6, 7, 8, 9] [0, 1, 2, 3, 4, 5, 6, 7, 8] rfl rfl rfl rfl⟩
       ·intro L a w hv K Q hK
        obtain ⟨v20, v21, v22, b5, hs⟩ := hv
        refine wpOp_go rfl rfl hs (OpT_alloc rfl rfl rfl tyZ40) ?_
        rintro _ ⟨b5', rfl⟩ a' w' hs'
        exact hK a' w' ⟨v20, v21, v22, b5', hs'.putF (i := 21) rfl [0, 1, 2, 3, 4, 5, 6, 7, 8, 10] [0, 1, 2, 3, 4, 5, 6, 7, 8] rfl rfl rfl rfl⟩
       ·intro L a w hv K Q hK
        obtain ⟨v20, v21, v22, b5, hs⟩ := hv
        refine wpOp_go rfl rfl hs (OpT_storeA1 (fun z0 => [z0]) (cs' := [v21]) rfl rfl rfl rfl tyF40 (i := 9) rfl (is_row (i := 8) rfl) (fun _ _ _ => rfl) rfl rfl rfl) ?_
        rintro _ rfl a' w' hs'
        exact hK a' w' ⟨v20, v21, v22, b5, hs'.sameF [0, 1, 2, 3, 4, 5, 6, 7, 8, 9] [0, 1, 2, 3, 4, 5, 6, 7, 8] rfl rfl rfl rfl⟩
       ·intro L a w hv K Q hK
        obtain ⟨v20, v21, v22, b5, hs⟩ := hv
        refine wpOp_go rfl rfl hs (OpT_assign rfl rfl rfl rfl) ?_
        rintro _ rfl a' w' hs'
        exact hK a' w' ⟨v20, v21, v22, b5, hs'.putF (i := 22) rfl [0, 1, 2, 3, 4, 5, 6, 7, 8, 9] [0, 1, 2, 3, 4, 5, 6, 7, 8] rfl rfl rfl rfl⟩
       ·intro L a w hL hv
        rw [allTrue hL] at hv
        obtain ⟨v20, v21, v22, b5, hs⟩ := hv
        refine (show TA _ _ _ 13 ⟨[(0, some (vb1)), (11, some (.pointer (some ⟨b1, 0, none⟩))), (13, some (.pointer (some ⟨b2, 0, none⟩))), (15, some (.pointer (some ⟨b3, 0, none⟩))), (16, some (v15)), (12, some (vI give1.2.2.1)), (18, some (v19)), (14, some (vI give2.2.2.1)), (101, some (vI give3.2.2.1)), (19, some (.pointer (some ⟨b5, 0, none⟩))), (20, some (v22))], [some (cellsR b1 76 [v7, v8]), some (rowsX u8S true v8 vs1 give1.2.2.2 none), some (cellsR b2 76 [v11, v12]), some (rowsX u8S true v12 vs2 give3.2.2.2 none), some (rowS u8S v14 give1.1.Wait), some (cellsR b3 40 [v14]), some (rowS u8S v21 give3.1.Wait), some (cellsR b5 40 [v21])], [Fact.sl u8S vb1 b, Fact.sl RegionS v7 mem1.l, Fact.sl RegionS v11 mem2.l, Fact.sl u32S v15 give1.2.1, Fact.sl u32S v19 give2.2.1, Fact.sl u32S v22 give3.2.1]⟩ from ?_) a w (hs.wkS [0, 11, 13, 15, 16, 12, 18, 14, 101, 19, 20] [0, 1, 2, 3, 4, 5, 8, 9] [0, 1, 2, 4, 5, 8] rfl rfl rfl rfl)
        clear hs hL
        refine TA_step htb (by kernel_rfl) rfl rfl (OpT_assign rfl rfl rfl rfl) ?_
        refine TA_end rfl ?_
        refine Tk_wkS (fr' := [(0, some (vb1)), (11, some (.pointer (some ⟨b1, 0, none⟩))), (13, some (.pointer (some ⟨b2, 0, none⟩))), (15, some (.pointer (some ⟨b3, 0, none⟩))), (16, some (v15)), (12, some (vI give1.2.2.1)), (18, some (v19)), (14, some (vI give2.2.2.1)), (19, some (.pointer (some ⟨b5, 0, none⟩))), (20, some (v22)), (21, some (vI give3.2.2.1))]) (own' := [some (cellsR b1 76 [v7, v8]), some (rowsX u8S true v8 vs1 give1.2.2.2 none), some (cellsR b2 76 [v11, v12]), some (rowsX u8S true v12 vs2 give3.2.2.2 none), some (rowS u8S v14 give1.1.Wait), some (cellsR b3 40 [v14]), some (rowS u8S v21 give3.1.Wait), some (cellsR b5 40 [v21])]) (shr' := [Fact.sl u8S vb1 b, Fact.sl RegionS v7 mem1.l, Fact.sl RegionS v11 mem2.l, Fact.sl u32S v15 give1.2.1, Fact.sl u32S v19 give2.2.1, Fact.sl u32S v22 give3.2.1]) [0, 11, 13, 15, 16, 12, 18, 14, 19, 20, 21] [0, 1, 2, 3, 4, 5, 6, 7] [0, 1, 2, 3, 4, 5] rfl rfl rfl rfl ?_
        refine Tk_seq (Tk_seq (Tk_drawT (by kernel_rfl) ?_))
        refine TA_tb [0, 1, 3, 7, 15, 31, 63, 127, 255, 511, 1023, 2047, 4095, 8191, 2047, 18431, 51199, 131071, 262143, 524287, 1048575, 2097151, 4194303, 1048575, 12582911, 29360127, 67108863, 134217727] (by kernel_rfl) fun htb => ?_
        refine TA_step htb (by kernel_rfl) rfl rfl (OpT_move rfl rfl rfl rfl) ?_
        refine TA_step htb (by kernel_rfl) rfl rfl (OpT_bin rfl rfl rfl rfl rfl (bin_neq_i (a := give1.2.2.1) (b := (0 : Int)))) ?_
        refine TA_step htb (by kernel_rfl) rfl rfl (OpT_move rfl rfl rfl rfl) ?_
        obtain ⟨hg7, h⟩ := chk_e h
        replace hg7 := not_t hg7
        refine TA_yes htb (by kernel_rfl) rfl rfl rfl (congrArg (fun b => some (Value.bool b)) hg7) (OpT_move rfl rfl rfl rfl) ?_
        rintro _ rfl
        refine TA_yes htb (by kernel_rfl) rfl rfl rfl (congrArg (fun b => some (Value.bool b)) hg7) (OpT_bin rfl rfl rfl rfl rfl (bin_neq_i (a := give2.2.2.1) (b := (0 : Int)))) ?_
        rintro _ rfl
        refine TA_step htb (by kernel_rfl) rfl rfl (OpT_pickF rfl rfl rfl (congrArg (fun b => some (Value.bool b)) hg7) rfl) ?_
        refine TA_step htb (by kernel_rfl) rfl rfl (OpT_move rfl rfl rfl rfl) ?_
        refine TA_wkS (fr' := [(0, some (vb1)), (11, some (.pointer (some ⟨b1, 0, none⟩))), (13, some (.pointer (some ⟨b2, 0, none⟩))), (15, some (.pointer (some ⟨b3, 0, none⟩))), (16, some (v15)), (18, some (v19)), (19, some (.pointer (some ⟨b5, 0, none⟩))), (20, some (v22)), (21, some (vI give3.2.2.1)), (108, some (vB (give2.2.2.1 != (0 : Int))))]) (own' := [some (cellsR b1 76 [v7, v8]), some (rowsX u8S true v8 vs1 give1.2.2.2 none), some (cellsR b2 76 [v11, v12]), some (rowsX u8S true v12 vs2 give3.2.2.2 none), some (rowS u8S v14 give1.1.Wait), some (cellsR b3 40 [v14]), some (rowS u8S v21 give3.1.Wait), some (cellsR b5 40 [v21])]) (shr' := [Fact.sl u8S vb1 b, Fact.sl RegionS v7 mem1.l, Fact.sl RegionS v11 mem2.l, Fact.sl u32S v15 give1.2.1, Fact.sl u32S v19 give2.2.1, Fact.sl u32S v22 give3.2.1]) [0, 11, 13, 15, 16, 18, 19, 20, 21, 108] [0, 1, 2, 3, 4, 5, 6, 7] [0, 1, 2, 3, 4, 5] rfl rfl rfl rfl ?_
        obtain ⟨hg8, h⟩ := chk_e h
        replace hg8 := not_t hg8
        refine TA_yes htb (by kernel_rfl) rfl rfl rfl (congrArg (fun b => some (Value.bool b)) hg8) (OpT_move rfl rfl rfl rfl) ?_
        rintro _ rfl
        refine TA_yes htb (by kernel_rfl) rfl rfl rfl (congrArg (fun b => some (Value.bool b)) hg8) (OpT_bin rfl rfl rfl rfl rfl (bin_neq_i (a := give3.2.2.1) (b := (0 : Int)))) ?_
        rintro _ rfl
        refine TA_step htb (by kernel_rfl) rfl rfl (OpT_pickF rfl rfl rfl (congrArg (fun b => some (Value.bool b)) hg8) rfl) ?_
        refine TA_step htb (by kernel_rfl) rfl rfl (OpT_move rfl rfl rfl rfl) ?_
        refine TA_wkS (fr' := [(0, some (vb1)), (11, some (.pointer (some ⟨b1, 0, none⟩))), (13, some (.pointer (some ⟨b2, 0, none⟩))), (15, some (.pointer (some ⟨b3, 0, none⟩))), (16, some (v15)), (18, some (v19)), (19, some (.pointer (some ⟨b5, 0, none⟩))), (20, some (v22)), (112, some (vB (give3.2.2.1 != (0 : Int))))]) (own' := [some (cellsR b1 76 [v7, v8]), some (rowsX u8S true v8 vs1 give1.2.2.2 none), some (cellsR b2 76 [v11, v12]), some (rowsX u8S true v12 vs2 give3.2.2.2 none), some (rowS u8S v14 give1.1.Wait), some (cellsR b3 40 [v14]), some (rowS u8S v21 give3.1.Wait), some (cellsR b5 40 [v21])]) (shr' := [Fact.sl u8S vb1 b, Fact.sl RegionS v7 mem1.l, Fact.sl RegionS v11 mem2.l, Fact.sl u32S v15 give1.2.1, Fact.sl u32S v19 give2.2.1, Fact.sl u32S v22 give3.2.1]) [0, 11, 13, 15, 16, 18, 19, 20, 112] [0, 1, 2, 3, 4, 5, 6, 7] [0, 1, 2, 3, 4, 5] rfl rfl rfl rfl ?_
        refine TA_retire (i := 4) rfl ?_
        refine TA_retire (i := 6) rfl ?_
        obtain ⟨hg9, h⟩ := chk_e h
        replace hg9 := not_t hg9
        refine TA_seg (lo := 11) (hi := 17) htb rfl rfl (by kernel_rfl) (fun c L a w => Sat c ⟨[(0, some (vb1)), (11, some (.pointer (some ⟨b1, 0, none⟩))), (13, some (.pointer (some ⟨b2, 0, none⟩))), (15, some (.pointer (some ⟨b3, 0, none⟩))), (16, some (v15)), (18, some (v19)), (19, some (.pointer (some ⟨b5, 0, none⟩))), (20, some (v22)), (112, some (vB (give3.2.2.1 != (0 : Int)))), (113, bif L 11 then some (.pointer (some ⟨b3, 0, none⟩)) else none), (114, bif L 12 then some (v14) else none), (115, bif L 13 then some (vS give1.1.Wait) else none), (116, bif L 14 then some (.pointer (some ⟨b5, 0, none⟩)) else none), (117, bif L 15 then some (v21) else none), (118, bif L 16 then some (vS give3.1.Wait) else none)], [(some (cellsR b1 76 [v7, v8]) : Option Res), (some (rowsX u8S true v8 vs1 give1.2.2.2 none) : Option Res), (some (cellsR b2 76 [v11, v12]) : Option Res), (some (rowsX u8S true v12 vs2 give3.2.2.2 none) : Option Res), (none : Option Res), (some (cellsR b3 40 [v14]) : Option Res), (none : Option Res), (some (cellsR b5 40 [v21]) : Option Res)], [Fact.sl u8S vb1 b, Fact.sl RegionS v7 mem1.l, Fact.sl RegionS v11 mem2.l, Fact.sl u32S v15 give1.2.1, Fact.sl u32S v19 give2.2.1, Fact.sl u32S v22 give3.2.1, Fact.sl u8S v14 give1.1.Wait, Fact.sl u8S v21 give3.1.Wait]⟩ a w) [([], [12, 13]), ([11], [13]), ([11, 12], []), ([], [15, 16]), ([14], [16]), ([14, 15], [])] rfl (by kernel_rfl) ?_ (steps_cons ?_ (steps_cons ?_ (steps_cons ?_ (steps_cons ?_ (steps_cons ?_ (steps_cons ?_ (steps_nil))))))) ?_
        ·intro a w hs
         exact hs.startF [113, 114, 115, 116, 117, 118] [0, 1, 2, 3, 4, 5, 6, 7] [0, 1, 2, 3, 4, 5, 6, 7] rfl rfl rfl rfl
        ·intro L a w hv K Q hK
         have hs := hv
         refine wpOp_yes rfl rfl rfl hs (congrArg (fun b => some (Value.bool b)) hg9) (OpT_fieldC rfl rfl rfl rfl fldF40x0) ?_
         rintro _ rfl a' w' hs'
         exact hK a' w' (hs'.putF (i := 9) rfl [0, 1, 2, 3, 4, 5, 6, 7] [0, 1, 2, 3, 4, 5, 6, 7] rfl rfl rfl rfl)
        ·intro L a w hv K Q hK
         have hs := hv
         refine wpOp_yes rfl rfl rfl hs (congrArg (fun b => some (Value.bool b)) hg9) (OpT_loadC rfl rfl rfl rfl tyF30 (i := 5) rfl rfl) ?_
         rintro _ rfl a' w' hs'
         exact hK a' w' (hs'.putF (i := 10) rfl [0, 1, 2, 3, 4, 5, 6, 7] [0, 1, 2, 3, 4, 5, 6, 7] rfl rfl rfl rfl)
        ·intro L a w hv K Q hK
         have hs := hv
         refine wpOp_yes rfl rfl rfl hs (congrArg (fun b => some (Value.bool b)) hg9) (OpT_strS rfl rfl rfl rfl Try.underlying30 Try.underlying5 Try.underlying9 (i := 6) rfl) ?_
         rintro _ rfl a' w' hs'
         exact hK a' w' (hs'.putF (i := 11) rfl [0, 1, 2, 3, 4, 5, 6, 7] [0, 1, 2, 3, 4, 5, 6, 7] rfl rfl rfl rfl)
        ·intro L a w hv K Q hK
         have hs := hv
         refine wpOp_yes rfl rfl rfl hs (congrArg (fun b => some (Value.bool b)) hg9) (OpT_fieldC rfl rfl rfl rfl fldF40x0) ?_
         rintro _ rfl a' w' hs'
         exact hK a' w' (hs'.putF (i := 12) rfl [0, 1, 2, 3, 4, 5, 6, 7] [0, 1, 2, 3, 4, 5, 6, 7] rfl rfl rfl rfl)
        ·intro L a w hv K Q hK
         have hs := hv
         refine wpOp_yes rfl rfl rfl hs (congrArg (fun b => some (Value.bool b)) hg9) (OpT_loadC rfl rfl rfl rfl tyF30 (i := 7) rfl rfl) ?_
         rintro _ rfl a' w' hs'
         exact hK a' w' (hs'.putF (i := 13) rfl [0, 1, 2, 3, 4, 5, 6, 7] [0, 1, 2, 3, 4, 5, 6, 7] rfl rfl rfl rfl)
        ·intro L a w hv K Q hK
         have hs := hv
         refine wpOp_yes rfl rfl rfl hs (congrArg (fun b => some (Value.bool b)) hg9) (OpT_strS rfl rfl rfl rfl Try.underlying30 Try.underlying5 Try.underlying9 (i := 7) rfl) ?_
         rintro _ rfl a' w' hs'
         exact hK a' w' (hs'.putF (i := 14) rfl [0, 1, 2, 3, 4, 5, 6, 7] [0, 1, 2, 3, 4, 5, 6, 7] rfl rfl rfl rfl)
        ·intro L a w hL hv
         rw [allTrue hL] at hv
         have hs := hv
         refine (show TA _ _ _ 17 ⟨[(0, some (vb1)), (11, some (.pointer (some ⟨b1, 0, none⟩))), (13, some (.pointer (some ⟨b2, 0, none⟩))), (16, some (v15)), (18, some (v19)), (20, some (v22)), (112, some (vB (give3.2.2.1 != (0 : Int)))), (115, some (vS give1.1.Wait)), (118, some (vS give3.1.Wait))], [some (cellsR b1 76 [v7, v8]), some (rowsX u8S true v8 vs1 give1.2.2.2 none), some (cellsR b2 76 [v11, v12]), some (rowsX u8S true v12 vs2 give3.2.2.2 none)], [Fact.sl u8S vb1 b, Fact.sl RegionS v7 mem1.l, Fact.sl RegionS v11 mem2.l, Fact.sl u32S v15 give1.2.1, Fact.sl u32S v19 give2.2.1, Fact.sl u32S v22 give3.2.1]⟩ from ?_) a w (hs.wkS [0, 11, 13, 16, 18, 20, 112, 115, 118] [0, 1, 2, 3] [0, 1, 2, 3, 4, 5] rfl rfl rfl rfl)
         clear hs hL
         refine TA_yes htb (by kernel_rfl) rfl rfl rfl (congrArg (fun b => some (Value.bool b)) hg9) (OpT_bin rfl rfl rfl rfl rfl (bin_neq_s (a := give1.1.Wait) (b := give3.1.Wait))) ?_
         rintro _ rfl
         refine TA_step htb (by kernel_rfl) rfl rfl (OpT_pickF rfl rfl rfl (congrArg (fun b => some (Value.bool b)) hg9) rfl) ?_
         refine TA_step htb (by kernel_rfl) rfl rfl (OpT_move rfl rfl rfl rfl) ?_
         refine TA_wkS (fr' := [(0, some (vb1)), (11, some (.pointer (some ⟨b1, 0, none⟩))), (13, some (.pointer (some ⟨b2, 0, none⟩))), (16, some (v15)), (18, some (v19)), (20, some (v22)), (121, some (vB (give1.1.Wait != give3.1.Wait)))]) (own' := [some (cellsR b1 76 [v7, v8]), some (rowsX u8S true v8 vs1 give1.2.2.2 none), some (cellsR b2 76 [v11, v12]), some (rowsX u8S true v12 vs2 give3.2.2.2 none)]) (shr' := [Fact.sl u8S vb1 b, Fact.sl RegionS v7 mem1.l, Fact.sl RegionS v11 mem2.l, Fact.sl u32S v15 give1.2.1, Fact.sl u32S v19 give2.2.1, Fact.sl u32S v22 give3.2.1]) [0, 11, 13, 16, 18, 20, 121] [0, 1, 2, 3] [0, 1, 2, 3, 4, 5] rfl rfl rfl rfl ?_
         obtain ⟨hg10, h⟩ := chk_e h
         replace hg10 := not_t hg10
         obtain ⟨image1, hx15, h⟩ := ob_e h
         obtain ⟨image2, hx16, h⟩ := ob_e h
         refine TA_seg (lo := 20) (hi := 26) htb rfl rfl (by kernel_rfl) (fun c L a w => ∃ (v23 : Value), ∃ (v24 : Value), Sat c ⟨[(0, some (vb1)), (11, some (.pointer (some ⟨b1, 0, none⟩))), (13, some (.pointer (some ⟨b2, 0, none⟩))), (16, some (v15)), (18, some (v19)), (20, some (v22)), (121, some (vB (give1.1.Wait != give3.1.Wait))), (122, bif L 20 then some (.pointer (some ⟨b1, 0, none⟩)) else none), (123, bif L 21 then some (v23) else none), (124, bif L 22 then some (vS image1) else none), (125, bif L 23 then some (.pointer (some ⟨b2, 0, none⟩)) else none), (126, bif L 24 then some (v24) else none), (127, bif L 25 then some (vS image2) else none)], [(some (cellsR b1 76 [v7, v8]) : Option Res), (some (rowsX u8S true v8 vs1 give1.2.2.2 none) : Option Res), (some (cellsR b2 76 [v11, v12]) : Option Res), (some (rowsX u8S true v12 vs2 give3.2.2.2 none) : Option Res)], [Fact.sl u8S vb1 b, Fact.sl RegionS v7 mem1.l, Fact.sl RegionS v11 mem2.l, Fact.sl u32S v15 give1.2.1, Fact.sl u32S v19 give2.2.1, Fact.sl u32S v22 give3.2.1, (bif L 21 then Fact.sl u8S v23 image1 else Fact.tt), (bif L 24 then Fact.sl u8S v24 image2 else Fact.tt)]⟩ a w) [([], [21, 22, 24, 25]), ([20], [22, 24, 25]), ([20, 21], []), ([], [24, 25]), ([20, 21, 23], [25]), ([20, 21, 23, 24], [])] rfl (by kernel_rfl) ?_ (steps_cons ?_ (steps_cons ?_ (steps_cons ?_ (steps_cons ?_ (steps_cons ?_ (steps_cons ?_ (steps_nil))))))) ?_
         ·intro a w hs
          exact ⟨undef, undef, hs.startF [122, 123, 124, 125, 126, 127] [0, 1, 2, 3] [0, 1, 2, 3, 4, 5, 6, 7] rfl rfl rfl rfl⟩
         ·intro L a w hv K Q hK
          obtain ⟨v23, v24, hs⟩ := hv
          refine wpOp_yes rfl rfl rfl hs (congrArg (fun b => some (Value.bool b)) hg10) (OpT_move rfl rfl rfl rfl) ?_
          rintro _ rfl a' w' hs'
          exact hK a' w' ⟨v23, v24, hs'.putF (i := 7) rfl [0, 1, 2, 3] [0, 1, 2, 3, 4, 5, 6, 7] rfl rfl rfl rfl⟩
         ·intro L a w hv K Q hK
          obtain ⟨v23, v24, hs⟩ := hv
          refine wpOp_yes rfl rfl rfl hs (congrArg (fun b => some (Value.bool b)) hg10) (OpT_callP [4, 5, 2, 3] (ws_gmem_Mem_Image hx15) [0, 1] [1] rfl rfl rfl rfl rfl callee19 rfl rfl rfl rfl rfl) ?_
          rintro _ ⟨v23', _, _, ⟨_, rfl, rfl, rfl⟩, rfl⟩ a' w' hs'
          exact hK a' w' ⟨v23', v24, hs'.putF (i := 8) rfl [0, 1, 2, 3] [0, 1, 2, 3, 4, 5, 8, 7] rfl rfl rfl rfl⟩
         ·intro L a w hv K Q hK
          obtain ⟨v23, v24, hs⟩ := hv
          refine wpOp_yes rfl rfl rfl hs (congrArg (fun b => some (Value.bool b)) hg10) (OpT_strS rfl rfl rfl rfl Try.underlying30 Try.underlying5 Try.underlying9 (i := 6) rfl) ?_
          rintro _ rfl a' w' hs'
          exact hK a' w' ⟨v23, v24, hs'.putF (i := 9) rfl [0, 1, 2, 3] [0, 1, 2, 3, 4, 5, 6, 7] rfl rfl rfl rfl⟩
         ·intro L a w hv K Q hK
          obtain ⟨v23, v24, hs⟩ := hv
          refine wpOp_yes rfl rfl rfl hs (congrArg (fun b => some (Value.bool b)) hg10) (OpT_move rfl rfl rfl rfl) ?_
          rintro _ rfl a' w' hs'
          exact hK a' w' ⟨v23, v24, hs'.putF (i := 10) rfl [0, 1, 2, 3] [0, 1, 2, 3, 4, 5, 6, 7] rfl rfl rfl rfl⟩
         ·intro L a w hv K Q hK
          obtain ⟨v23, v24, hs⟩ := hv
          refine wpOp_yes rfl rfl rfl hs (congrArg (fun b => some (Value.bool b)) hg10) (OpT_callP [0, 1, 4, 5] (ws_gmem_Mem_Image hx16) [2, 3] [2] rfl rfl rfl rfl rfl callee19 rfl rfl rfl rfl rfl) ?_
          rintro _ ⟨v24', _, _, ⟨_, rfl, rfl, rfl⟩, rfl⟩ a' w' hs'
          exact hK a' w' ⟨v23, v24', hs'.putF (i := 11) rfl [0, 1, 2, 3] [0, 1, 2, 3, 4, 5, 6, 8] rfl rfl rfl rfl⟩
         ·intro L a w hv K Q hK
          obtain ⟨v23, v24, hs⟩ := hv
          refine wpOp_yes rfl rfl rfl hs (congrArg (fun b => some (Value.bool b)) hg10) (OpT_strS rfl rfl rfl rfl Try.underlying30 Try.underlying5 Try.underlying9 (i := 7) rfl) ?_
          rintro _ rfl a' w' hs'
          exact hK a' w' ⟨v23, v24, hs'.putF (i := 12) rfl [0, 1, 2, 3] [0, 1, 2, 3, 4, 5, 6, 7] rfl rfl rfl rfl⟩
         ·intro L a w hL hv
          rw [allTrue hL] at hv
          obtain ⟨v23, v24, hs⟩ := hv
          refine (show TA _ _ _ 26 ⟨[(0, some (vb1)), (16, some (v15)), (18, some (v19)), (20, some (v22)), (121, some (vB (give1.1.Wait != give3.1.Wait))), (124, some (vS image1)), (127, some (vS image2))], [], [Fact.sl u8S vb1 b, Fact.sl u32S v15 give1.2.1, Fact.sl u32S v19 give2.2.1, Fact.sl u32S v22 give3.2.1]⟩ from ?_) a w (hs.wkS [0, 16, 18, 20, 121, 124, 127] [] [0, 3, 4, 5] rfl rfl rfl rfl)
          clear hs hL
          refine TA_yes htb (by kernel_rfl) rfl rfl rfl (congrArg (fun b => some (Value.bool b)) hg10) (OpT_bin rfl rfl rfl rfl rfl (bin_neq_s (a := image1) (b := image2))) ?_
          rintro _ rfl
          refine TA_step htb (by kernel_rfl) rfl rfl (OpT_pickF rfl rfl rfl (congrArg (fun b => some (Value.bool b)) hg10) rfl) ?_
          refine TA_end rfl ?_
          refine Tk_wkS (fr' := [(0, some (vb1)), (16, some (v15)), (18, some (v19)), (20, some (v22)), (129, some (vB (image1 != image2)))]) (own' := []) (shr' := [Fact.sl u8S vb1 b, Fact.sl u32S v15 give1.2.1, Fact.sl u32S v19 give2.2.1, Fact.sl u32S v22 give3.2.1]) [0, 16, 18, 20, 129] [] [0, 1, 2, 3] rfl rfl rfl rfl ?_
          obtain ⟨hg11, h⟩ := chk_e h
          replace hg11 := not_t hg11
          refine Tk_condF (congrArg (fun b => some (Value.bool b)) hg11) ?_
          refine Tk_skip (Tk_seq (Tk_region (Tops_step rfl (OpT_move rfl rfl rfl rfl) ?_)))
          refine Tops_ex rfl (OpT_buildSlice (S := u32S) (xs := ([] : List UInt32)) (css := []) (cs := []) (e := 50) rfl rfl rfl rfl (bldF slF41 (by decide) (by kernel_rfl)) rfl rfl rfl rfl (rel_plainD (S := u32S) (xs := ([] : List UInt32)) (css := []) rfl rfl)) fun v25 => ?_
          refine Tops_step rfl (OpT_move rfl rfl rfl rfl) ?_
          obtain ⟨hc4, h⟩ := chk_e h
          refine Tops_ex rfl (OpT_append rfl rfl rfl rfl rfl slF41 (i := 0) (j := 2) rfl rfl hc4) fun v26 => ?_
          refine Tops_step rfl (OpT_move rfl rfl rfl rfl) ?_
          obtain ⟨hc5, h⟩ := chk_e h
          refine Tops_ex rfl (OpT_append rfl rfl rfl rfl rfl slF41 (i := 0) (j := 3) rfl rfl hc5) fun v27 => ?_
          obtain ⟨words1, hx17, h⟩ := ob_e h
          refine Tops_exP rfl (OpT_callB [0] [0] (w_kit_Words hx17) [] rfl rfl rfl rfl rfl callee20 rfl rfl rfl rfl rfl rfl (bor_cons (bor_shr 1 rfl) (bor_cons (bor_row 0 rfl rfl) bor_nil)) (by rintro _ _ _ ⟨rfl, rfl, rfl⟩; exact ⟨rfl, ri_nil⟩)) ?_
          rintro _ ⟨_, _, _, ⟨rfl, rfl, rfl⟩, rfl⟩
          refine Tops_step rfl (OpT_move rfl rfl rfl rfl) ?_
          rcases Bool.eq_false_or_eq_true (words1) with hg12 | hg12
          ·replace h := br_t hg12 h
           refine Tops_no rfl rfl (congrArg (fun b => some (Value.bool b)) hg12) rfl rfl ?_
           refine Tops_no rfl rfl (congrArg (fun b => some (Value.bool b)) hg12) rfl rfl ?_
           refine Tops_no rfl rfl (congrArg (fun b => some (Value.bool b)) hg12) rfl rfl ?_
           refine Tops_step rfl (OpT_pickT rfl rfl rfl (congrArg (fun b => some (Value.bool b)) hg12) rfl) ?_
           refine Tops_step rfl (OpT_assign rfl rfl rfl rfl) ?_
           refine Tops_nil (Tk_wkS (fr' := [(6, some (vB true))]) (own' := []) (shr' := []) [6] [] [] rfl rfl rfl rfl ?_)
           exact Tk_retV rfl rfl (resA (vs := [.bool true]) rfl ⟨rfl, trivial⟩) [] [] rfl rfl rfl ⟨rfl, rfl, rfl⟩
          ·replace h := br_f hg12 h
           refine Tops_yes rfl rfl (congrArg (fun b => some (Value.bool b)) hg12) (OpT_move rfl rfl rfl rfl) ?_
           rintro _ rfl
           refine Tops_yes rfl rfl (congrArg (fun b => some (Value.bool b)) hg12) (OpT_lenS rfl rfl rfl rfl Try.underlying30 (i := 0) rfl) ?_
           rintro _ rfl
           refine Tops_yes rfl rfl (congrArg (fun b => some (Value.bool b)) hg12) (OpT_bin rfl rfl rfl rfl rfl (bin_eql_i (a := len b) (b := (0 : Int)))) ?_
           rintro _ rfl
           refine Tops_step rfl (OpT_pickF rfl rfl rfl (congrArg (fun b => some (Value.bool b)) hg12) rfl) ?_
           refine Tops_step rfl (OpT_assign rfl rfl rfl rfl) ?_
           refine Tops_nil (Tk_wkS (fr' := [(6, some (vB ((len b) == (0 : Int))))]) (own' := []) (shr' := []) [6] [] [] rfl rfl rfl rfl ?_)
           obtain ⟨hg13, h⟩ := chk_e h
           exact Tk_retV rfl rfl (resA (vs := [.bool true]) rfl ⟨(congrArg (fun b => some (Value.bool b)) hg13), trivial⟩) [] [] rfl rfl rfl ⟨rfl, rfl, rfl⟩
end Go.Proofs.Ytkjmmbmlapmkbaa
