/- The law NetDelivers is walked: it returns what its plain words say. No condition. -/
import Derived.Test.YtdaijemhibbgeaaWa4
namespace Go.Proofs.Ytdaijemhibbgeaa
attribute [local irreducible] sub

set_option maxRecDepth 100000 in
set_option maxHeartbeats 4000000 in
theorem w_law25zNetDelivers {f : Frame} {l : List Int} {feats : UInt64} {vp3 : UInt8} {vf1 : Value} {vl1 : Value}  (h : law25zNetDelivers f l feats vp3 = some true) :
  Ctr Try.prog 3 #[.agg #[vU8 f.Dst.a0, vU8 f.Dst.a1, vU8 f.Dst.a2, vU8 f.Dst.a3, vU8 f.Dst.a4, vU8 f.Dst.a5, vU8 f.Src.a0, vU8 f.Src.a1, vU8 f.Src.a2, vU8 f.Src.a3, vU8 f.Src.a4, vU8 f.Src.a5, vI f.Vlan, vU16 f.Type_, vf1], vl1, vU64 feats, vU8 vp3] [] [Fact.sl u8S vf1 f.Data, Fact.sl iS vl1 l]
   (fun rv own shr => rv = .bool true ∧ own = [] ∧ shr = []) := by
 unfold law25zNetDelivers at h
 refine Ctr.mk (args := [.agg #[vU8 f.Dst.a0, vU8 f.Dst.a1, vU8 f.Dst.a2, vU8 f.Dst.a3, vU8 f.Dst.a4, vU8 f.Dst.a5, vU8 f.Src.a0, vU8 f.Src.a1, vU8 f.Src.a2, vU8 f.Src.a3, vU8 f.Src.a4, vU8 f.Src.a5, vI f.Vlan, vU16 f.Type_, vf1], vl1, vU64 feats, vU8 vp3]) Try.func3 rfl rfl (fun R0 w0 B => ?_)
 refine Tk_seq (Tk_region (Tops_ex rfl (OpT_box rfl rfl rfl rfl) fun b1 => ?_))
 refine Tops_step rfl (OpT_assign rfl rfl rfl rfl) ?_
 refine Tops_nil (Tk_wkS (fr' := [(1, some (vl1)), (2, some (vU64 feats)), (3, some (vU8 vp3)), (4, some (.pointer (some ⟨b1, 0, none⟩)))]) (own' := [some (cellsR b1 26 [vU8 f.Dst.a0, vU8 f.Dst.a1, vU8 f.Dst.a2, vU8 f.Dst.a3, vU8 f.Dst.a4, vU8 f.Dst.a5, vU8 f.Src.a0, vU8 f.Src.a1, vU8 f.Src.a2, vU8 f.Src.a3, vU8 f.Src.a4, vU8 f.Src.a5, vI f.Vlan, vU16 f.Type_, vf1])]) (shr' := [Fact.sl u8S vf1 f.Data, Fact.sl iS vl1 l]) [1, 2, 3, 4] [0] [0, 1] rfl rfl rfl rfl ?_)
 refine Tk_seq (Tk_seq (Tk_region ?_))
 obtain ⟨lives1, hx1, h⟩ := ob_e h
 refine Tops_exP rfl (OpT_call (w_law25zlives hx1) [] [] rfl rfl rfl rfl rfl callee7 rfl rfl rfl rfl) ?_
 rintro _ ⟨_, _, _, ⟨rfl, rfl, rfl⟩, rfl⟩
 refine Tops_step rfl (OpT_not rfl rfl rfl rfl) ?_
 refine Tops_nil (Tk_wkS (fr' := [(1, some (vl1)), (2, some (vU64 feats)), (3, some (vU8 vp3)), (4, some (.pointer (some ⟨b1, 0, none⟩))), (28, some (vB (!lives1)))]) (own' := [some (cellsR b1 26 [vU8 f.Dst.a0, vU8 f.Dst.a1, vU8 f.Dst.a2, vU8 f.Dst.a3, vU8 f.Dst.a4, vU8 f.Dst.a5, vU8 f.Src.a0, vU8 f.Src.a1, vU8 f.Src.a2, vU8 f.Src.a3, vU8 f.Src.a4, vU8 f.Src.a5, vI f.Vlan, vU16 f.Type_, vf1])]) (shr' := [Fact.sl u8S vf1 f.Data, Fact.sl iS vl1 l]) [1, 2, 3, 4, 28] [0] [0, 1] rfl rfl rfl rfl ?_)
 obtain ⟨hg1, h⟩ := chk_e h
 replace hg1 := not_t hg1
 refine Tk_condF (congrArg (fun b => some (Value.bool b)) hg1) ?_
 refine Tk_skip (Tk_seq (Tk_seq (Tk_region (Tops_step rfl (OpT_move rfl rfl rfl rfl) ?_))))
 refine Tops_step rfl (OpT_lenS rfl rfl rfl rfl Try.underlying27 (i := 1) rfl) ?_
 refine Tops_step rfl (OpT_bin rfl rfl rfl rfl rfl (bin_gtr_i (a := len l) (b := (20 : Int)))) ?_
 refine Tops_step rfl (OpT_move rfl rfl rfl rfl) ?_
 rcases Bool.eq_false_or_eq_true (decide ((len l) > (20 : Int))) with hg2 | hg2
 ·replace h := br_t hg2 h
  refine Tops_no rfl rfl (congrArg (fun b => some (Value.bool b)) hg2) rfl rfl ?_
  refine Tops_no rfl rfl (congrArg (fun b => some (Value.bool b)) hg2) rfl rfl ?_
  refine Tops_no rfl rfl (congrArg (fun b => some (Value.bool b)) hg2) rfl rfl ?_
  refine Tops_step rfl (OpT_pickT rfl rfl rfl (congrArg (fun b => some (Value.bool b)) hg2) rfl) ?_
  refine Tops_nil (Tk_wkS (fr' := [(1, some (vl1)), (2, some (vU64 feats)), (3, some (vU8 vp3)), (4, some (.pointer (some ⟨b1, 0, none⟩))), (36, some (vB true))]) (own' := [some (cellsR b1 26 [vU8 f.Dst.a0, vU8 f.Dst.a1, vU8 f.Dst.a2, vU8 f.Dst.a3, vU8 f.Dst.a4, vU8 f.Dst.a5, vU8 f.Src.a0, vU8 f.Src.a1, vU8 f.Src.a2, vU8 f.Src.a3, vU8 f.Src.a4, vU8 f.Src.a5, vI f.Vlan, vU16 f.Type_, vf1])]) (shr' := [Fact.sl u8S vf1 f.Data, Fact.sl iS vl1 l]) [1, 2, 3, 4, 36] [0] [0, 1] rfl rfl rfl rfl ?_)
  refine Tk_condT rfl ?_
  refine Tk_seq (Tk_region (Tops_step rfl (OpT_assign rfl rfl rfl rfl) ?_))
  refine Tops_nil (Tk_wkS (fr' := [(8, some (vB true))]) (own' := []) (shr' := []) [8] [] [] rfl rfl rfl rfl ?_)
  exact Tk_retV rfl rfl (resA (vs := [.bool true]) rfl ⟨rfl, trivial⟩) [] [] rfl rfl rfl ⟨rfl, rfl, rfl⟩
 ·replace h := br_f hg2 h
  refine Tops_yes rfl rfl (congrArg (fun b => some (Value.bool b)) hg2) (OpT_loadCA (vs := [vU8 f.Dst.a0, vU8 f.Dst.a1, vU8 f.Dst.a2, vU8 f.Dst.a3, vU8 f.Dst.a4, vU8 f.Dst.a5, vU8 f.Src.a0, vU8 f.Src.a1, vU8 f.Src.a2, vU8 f.Src.a3, vU8 f.Src.a4, vU8 f.Src.a5, vI f.Vlan, vU16 f.Type_, vf1]) rfl rfl rfl rfl tyF26 (i := 0) rfl rfl rfl) ?_
  rintro _ rfl
  obtain ⟨check1, hx2, h⟩ := ob_e h
  refine Tops_yes rfl rfl (congrArg (fun b => some (Value.bool b)) hg2) (OpT_call (w_ref_Check23 hx2) [] [0] rfl rfl rfl rfl rfl callee8 rfl rfl rfl rfl) ?_
  rintro _ ⟨_, _, _, ⟨rfl, rfl, rfl⟩, rfl⟩
  refine Tops_yes rfl rfl (congrArg (fun b => some (Value.bool b)) hg2) (OpT_bin rfl rfl rfl rfl rfl (bin_neq_i (a := check1) (b := (0 : Int)))) ?_
  rintro _ rfl
  refine Tops_step rfl (OpT_pickF rfl rfl rfl (congrArg (fun b => some (Value.bool b)) hg2) rfl) ?_
  refine Tops_nil (Tk_wkS (fr' := [(1, some (vl1)), (2, some (vU64 feats)), (3, some (vU8 vp3)), (4, some (.pointer (some ⟨b1, 0, none⟩))), (36, some (vB (check1 != (0 : Int))))]) (own' := [some (cellsR b1 26 [vU8 f.Dst.a0, vU8 f.Dst.a1, vU8 f.Dst.a2, vU8 f.Dst.a3, vU8 f.Dst.a4, vU8 f.Dst.a5, vU8 f.Src.a0, vU8 f.Src.a1, vU8 f.Src.a2, vU8 f.Src.a3, vU8 f.Src.a4, vU8 f.Src.a5, vI f.Vlan, vU16 f.Type_, vf1])]) (shr' := [Fact.sl u8S vf1 f.Data, Fact.sl iS vl1 l]) [1, 2, 3, 4, 36] [0] [0, 1] rfl rfl rfl rfl ?_)
  rcases Bool.eq_false_or_eq_true (check1 != (0 : Int)) with hg3 | hg3
  ·replace h := br_t hg3 h
   refine Tk_condT (congrArg (fun b => some (Value.bool b)) hg3) ?_
   refine Tk_seq (Tk_region (Tops_step rfl (OpT_assign rfl rfl rfl rfl) ?_))
   refine Tops_nil (Tk_wkS (fr' := [(8, some (vB true))]) (own' := []) (shr' := []) [8] [] [] rfl rfl rfl rfl ?_)
   exact Tk_retV rfl rfl (resA (vs := [.bool true]) rfl ⟨rfl, trivial⟩) [] [] rfl rfl rfl ⟨rfl, rfl, rfl⟩
  ·replace h := br_f hg3 h
   refine Tk_condF (congrArg (fun b => some (Value.bool b)) hg3) ?_
   refine Tk_skip (Tk_seq (Tk_region (Tops_step rfl (OpT_assign rfl rfl rfl rfl) ?_)))
   refine Tops_nil (Tk_wkS (fr' := [(1, some (vl1)), (2, some (vU64 feats)), (3, some (vU8 vp3)), (4, some (.pointer (some ⟨b1, 0, none⟩))), (9, some (.slice none 0 0))]) (own' := [some (cellsR b1 26 [vU8 f.Dst.a0, vU8 f.Dst.a1, vU8 f.Dst.a2, vU8 f.Dst.a3, vU8 f.Dst.a4, vU8 f.Dst.a5, vU8 f.Src.a0, vU8 f.Src.a1, vU8 f.Src.a2, vU8 f.Src.a3, vU8 f.Src.a4, vU8 f.Src.a5, vI f.Vlan, vU16 f.Type_, vf1])]) (shr' := [Fact.sl u8S vf1 f.Data, Fact.sl iS vl1 l]) [1, 2, 3, 4, 9] [0] [0, 1] rfl rfl rfl rfl ?_)
   refine Tk_seq (Tk_region (Tops_step rfl (OpT_assign rfl rfl rfl rfl) ?_))
   refine Tops_nil (Tk_seq (Tk_seq (Tk_region (Tops_step rfl (OpT_assign rfl rfl rfl rfl) ?_))))
   refine Tops_nil (Tk_block (Tk_nilrow iS ?_))
   refine Tk_loopS (σ := (A6 UInt8) × (A6 UInt8) × Int × UInt16 × (List UInt8) × (List Int) × Int × Int × Value × Value) [1, 2, 3, 4, 9, 10, 11] [0, 1] [1, 0] (fun s => ⟨[(1, some (vl1)), (2, some (vU64 feats)), (3, some (vU8 vp3)), (4, some (.pointer (some ⟨b1, 0, none⟩))), (9, some (s.2.2.2.2.2.2.2.2.2)), (10, some (vI s.2.2.2.2.2.2.1)), (11, some (vI s.2.2.2.2.2.2.2.1))], [some (cellsR b1 26 [vU8 s.1.a0, vU8 s.1.a1, vU8 s.1.a2, vU8 s.1.a3, vU8 s.1.a4, vU8 s.1.a5, vU8 s.2.1.a0, vU8 s.2.1.a1, vU8 s.2.1.a2, vU8 s.2.1.a3, vU8 s.2.1.a4, vU8 s.2.1.a5, vI s.2.2.1, vU16 s.2.2.2.1, s.2.2.2.2.2.2.2.2.1]), some (rowS iS s.2.2.2.2.2.2.2.2.2 s.2.2.2.2.2.1)], [Fact.sl iS vl1 l, Fact.sl u8S s.2.2.2.2.2.2.2.2.1 s.2.2.2.2.1]⟩) (fun nf1 s => law25zNetDeliversL1 l feats vp3 nf1 s.1 s.2.1 s.2.2.1 s.2.2.2.1 s.2.2.2.2.1 s.2.2.2.2.2.1 s.2.2.2.2.2.2.1 s.2.2.2.2.2.2.2.1 = some true) fuel (f.Dst, f.Src, f.Vlan, f.Type_, f.Data, [], (0 : Int), (0 : Int), vf1, (.slice none 0 0)) h rfl rfl rfl rfl rfl (fun s h => by cases h) ?_
   rintro nf1 ⟨Dst1, Src1, Vlan1, Type1, Data1, sizes1, all1, i1, v1, v2⟩ h
   replace h : law25zNetDeliversL1B l feats vp3 (law25zNetDeliversL1 l feats vp3 nf1) Dst1 Src1 Vlan1 Type1 Data1 sizes1 all1 i1 = some true := h
   unfold law25zNetDeliversL1B at h
   refine Tk_seq (Tk_seq (Tk_region (Tops_step rfl (OpT_move rfl rfl rfl rfl) ?_)))
   refine Tops_step rfl (OpT_move rfl rfl rfl rfl) ?_
   refine Tops_step rfl (OpT_lenS rfl rfl rfl rfl Try.underlying27 (i := 0) rfl) ?_
   refine Tops_step rfl (OpT_bin rfl rfl rfl rfl rfl (bin_lss_i (a := i1) (b := len l))) ?_
   refine Tops_nil (Tk_wkS (fr' := [(1, some (vl1)), (2, some (vU64 feats)), (3, some (vU8 vp3)), (4, some (.pointer (some ⟨b1, 0, none⟩))), (9, some (v2)), (10, some (vI all1)), (11, some (vI i1)), (40, some (vB (decide (i1 < (len l)))))]) (own' := [some (cellsR b1 26 [vU8 Dst1.a0, vU8 Dst1.a1, vU8 Dst1.a2, vU8 Dst1.a3, vU8 Dst1.a4, vU8 Dst1.a5, vU8 Src1.a0, vU8 Src1.a1, vU8 Src1.a2, vU8 Src1.a3, vU8 Src1.a4, vU8 Src1.a5, vI Vlan1, vU16 Type1, v1]), some (rowS iS v2 sizes1)]) (shr' := [Fact.sl iS vl1 l, Fact.sl u8S v1 Data1]) [1, 2, 3, 4, 9, 10, 11, 40] [0, 1] [0, 1] rfl rfl rfl rfl ?_)
   rcases Bool.eq_false_or_eq_true (decide (i1 < (len l))) with hg4 | hg4
   ·replace h := br_t hg4 h
    refine Tk_condT (congrArg (fun b => some (Value.bool b)) hg4) ?_
    refine Tk_skip (Tk_seq (Tk_block (Tk_seq (Tk_region (Tops_step rfl (OpT_move rfl rfl rfl rfl) ?_)))))
    refine Tops_step rfl (OpT_move rfl rfl rfl rfl) ?_
    obtain ⟨y1, hx3, h⟩ := ob_e h
    refine Tops_ex rfl (OpT_idxS rfl rfl rfl rfl rfl slF27 (i := 0) rfl hx3) fun p1 => ?_
    refine Tops_step rfl (OpT_loadP rfl rfl rfl rfl tyF3 (i := 2) rfl rfl) ?_
    obtain ⟨pick1, hx4, h⟩ := ob_e h
    refine Tops_exP rfl (OpT_call (w_kit_Pick hx4) [] [] rfl rfl rfl rfl rfl callee9 rfl rfl rfl rfl) ?_
    rintro _ ⟨_, _, _, ⟨rfl, rfl, rfl⟩, rfl⟩
    refine Tops_step rfl (OpT_bin rfl rfl rfl rfl rfl (bin_add_i (a := (1 : Int)) (b := pick1))) ?_
    refine Tops_step rfl (OpT_assign rfl rfl rfl rfl) ?_
    refine Tops_nil (Tk_wkS (fr' := [(1, some (vl1)), (2, some (vU64 feats)), (3, some (vU8 vp3)), (4, some (.pointer (some ⟨b1, 0, none⟩))), (9, some (v2)), (10, some (vI all1)), (11, some (vI i1)), (12, some (vI (wi ((1 : Int) + pick1))))]) (own' := [some (cellsR b1 26 [vU8 Dst1.a0, vU8 Dst1.a1, vU8 Dst1.a2, vU8 Dst1.a3, vU8 Dst1.a4, vU8 Dst1.a5, vU8 Src1.a0, vU8 Src1.a1, vU8 Src1.a2, vU8 Src1.a3, vU8 Src1.a4, vU8 Src1.a5, vI Vlan1, vU16 Type1, v1]), some (rowS iS v2 sizes1)]) (shr' := [Fact.sl iS vl1 l, Fact.sl u8S v1 Data1]) [1, 2, 3, 4, 9, 10, 11, 12] [0, 1] [0, 1] rfl rfl rfl rfl ?_)
    refine Tk_seq (Tk_region (Tops_step rfl (OpT_move rfl rfl rfl rfl) ?_))
    refine Tops_step rfl (OpT_move rfl rfl rfl rfl) ?_
    refine Tops_ex rfl (OpT_buildSlice (S := iS) (xs := [wi ((1 : Int) + pick1)]) (css := [[vI (wi ((1 : Int) + pick1))]]) (cs := [vI (wi ((1 : Int) + pick1))]) (e := 3) rfl rfl rfl rfl (bldF slF27 (by decide) (by kernel_rfl)) rfl rfl rfl rfl (rel_plainD (S := iS) (xs := [wi ((1 : Int) + pick1)]) (css := [[vI (wi ((1 : Int) + pick1))]]) rfl rfl)) fun v3 => ?_
    obtain ⟨hc1, h⟩ := chk_e h
    refine Tops_ex rfl (OpT_appendB (S := iS) rfl rfl rfl rfl rfl rfl slF27 (i := 1) (j := 2) rfl rfl hc1) fun v4 => ?_
    refine Tops_step rfl (OpT_assign rfl rfl rfl rfl) ?_
    refine Tops_nil (Tk_wkS (fr' := [(1, some (vl1)), (2, some (vU64 feats)), (3, some (vU8 vp3)), (4, some (.pointer (some ⟨b1, 0, none⟩))), (9, some (v4)), (10, some (vI all1)), (11, some (vI i1)), (12, some (vI (wi ((1 : Int) + pick1))))]) (own' := [some (cellsR b1 26 [vU8 Dst1.a0, vU8 Dst1.a1, vU8 Dst1.a2, vU8 Dst1.a3, vU8 Dst1.a4, vU8 Dst1.a5, vU8 Src1.a0, vU8 Src1.a1, vU8 Src1.a2, vU8 Src1.a3, vU8 Src1.a4, vU8 Src1.a5, vI Vlan1, vU16 Type1, v1]), some (rowS iS v4 (sizes1 ++ [wi ((1 : Int) + pick1)]))]) (shr' := [Fact.sl iS vl1 l, Fact.sl u8S v1 Data1]) [1, 2, 3, 4, 9, 10, 11, 12] [0, 1] [0, 1] rfl rfl rfl rfl ?_)
    refine Tk_region (Tops_step rfl (OpT_move rfl rfl rfl rfl) ?_)
    refine Tops_step rfl (OpT_move rfl rfl rfl rfl) ?_
    refine Tops_step rfl (OpT_bin rfl rfl rfl rfl rfl (bin_add_i (a := all1) (b := wi ((1 : Int) + pick1)))) ?_
    refine Tops_step rfl (OpT_assign rfl rfl rfl rfl) ?_
    refine Tops_nil (Tk_wkS (fr' := [(1, some (vl1)), (2, some (vU64 feats)), (3, some (vU8 vp3)), (4, some (.pointer (some ⟨b1, 0, none⟩))), (9, some (v4)), (10, some (vI (wi (all1 + (wi ((1 : Int) + pick1)))))), (11, some (vI i1))]) (own' := [some (cellsR b1 26 [vU8 Dst1.a0, vU8 Dst1.a1, vU8 Dst1.a2, vU8 Dst1.a3, vU8 Dst1.a4, vU8 Dst1.a5, vU8 Src1.a0, vU8 Src1.a1, vU8 Src1.a2, vU8 Src1.a3, vU8 Src1.a4, vU8 Src1.a5, vI Vlan1, vU16 Type1, v1]), some (rowS iS v4 (sizes1 ++ [wi ((1 : Int) + pick1)]))]) (shr' := [Fact.sl iS vl1 l, Fact.sl u8S v1 Data1]) [1, 2, 3, 4, 9, 10, 11] [0, 1] [0, 1] rfl rfl rfl rfl ?_)
    refine Tk_blk (Tk_region (Tops_step rfl (OpT_move rfl rfl rfl rfl) ?_))
    refine Tops_step rfl (OpT_bin rfl rfl rfl rfl rfl (bin_add_i (a := i1) (b := (1 : Int)))) ?_
    refine Tops_step rfl (OpT_assign rfl rfl rfl rfl) ?_
    refine Tops_nil (Tk_wkS (fr' := [(1, some (vl1)), (2, some (vU64 feats)), (3, some (vU8 vp3)), (4, some (.pointer (some ⟨b1, 0, none⟩))), (9, some (v4)), (10, some (vI (wi (all1 + (wi ((1 : Int) + pick1)))))), (11, some (vI (wi (i1 + (1 : Int)))))]) (own' := [some (cellsR b1 26 [vU8 Dst1.a0, vU8 Dst1.a1, vU8 Dst1.a2, vU8 Dst1.a3, vU8 Dst1.a4, vU8 Dst1.a5, vU8 Src1.a0, vU8 Src1.a1, vU8 Src1.a2, vU8 Src1.a3, vU8 Src1.a4, vU8 Src1.a5, vI Vlan1, vU16 Type1, v1]), some (rowS iS v4 (sizes1 ++ [wi ((1 : Int) + pick1)]))]) (shr' := [Fact.sl iS vl1 l, Fact.sl u8S v1 Data1]) [1, 2, 3, 4, 9, 10, 11] [0, 1] [0, 1] rfl rfl rfl rfl ?_)
    exact Tk_backS (Dst1, Src1, Vlan1, Type1, Data1, sizes1 ++ [wi ((1 : Int) + pick1)], wi (all1 + (wi ((1 : Int) + pick1))), wi (i1 + (1 : Int)), v1, v4) h [1, 2, 3, 4, 9, 10, 11] [0, 1] [0, 1] rfl rfl rfl rfl rfl
   ·replace h := br_f hg4 h
    refine Tk_condF (congrArg (fun b => some (Value.bool b)) hg4) ?_
    refine Tk_exit _ rfl ?_
    refine Tk_seq (Tk_region (Tops_step rfl (OpT_move rfl rfl rfl rfl) ?_))
    refine Tops_retire (i := 1) rfl ?_
    obtain ⟨rooms1, hx5, h⟩ := ob_e h
    refine Tops_exP rfl (OpT_call (w_law25zrooms hx5) [] [2] rfl rfl rfl rfl rfl callee10 rfl rfl rfl rfl) ?_
    rintro _ ⟨v5, _, _, ⟨_, rfl, rfl, rfl⟩, rfl⟩
    refine Tops_step rfl (OpT_assign rfl rfl rfl rfl) ?_
    refine Tops_nil (Tk_wkS (fr' := [(2, some (vU64 feats)), (3, some (vU8 vp3)), (4, some (.pointer (some ⟨b1, 0, none⟩))), (9, some (v2)), (10, some (vI all1)), (13, some (v5))]) (own' := [some (cellsR b1 26 [vU8 Dst1.a0, vU8 Dst1.a1, vU8 Dst1.a2, vU8 Dst1.a3, vU8 Dst1.a4, vU8 Dst1.a5, vU8 Src1.a0, vU8 Src1.a1, vU8 Src1.a2, vU8 Src1.a3, vU8 Src1.a4, vU8 Src1.a5, vI Vlan1, vU16 Type1, v1]), some (rowS (Shape.slice SegS) v5 rooms1)]) (shr' := [Fact.sl u8S v1 Data1, Fact.sl iS v2 sizes1]) [2, 3, 4, 9, 10, 13] [0, 2] [1, 2] rfl rfl rfl rfl ?_)
    refine Tk_seq (Tk_region ?_)
    obtain ⟨memory1, hx6, h⟩ := ob_e h
    refine Tops_exP rfl (OpT_call (w_law25zmemory hx6) [] [] rfl rfl rfl rfl rfl callee12 rfl rfl rfl rfl) ?_
    rintro _ ⟨v6, _, _, ⟨_, rfl, rfl, rfl⟩, rfl⟩
    refine Tops_retire (i := 2) rfl ?_
    obtain ⟨new1, hx7, h⟩ := ob_e h
    refine Tops_exP rfl (OpT_call (w_gmem_New hx7) [] [2] rfl rfl rfl rfl rfl callee11 rfl rfl rfl rfl) ?_
    rintro _ ⟨_, _, _, ⟨v7, rfl, rfl, rfl⟩, rfl⟩
    refine Tops_step rfl (OpT_move rfl rfl rfl rfl) ?_
    refine Tops_step rfl (OpT_extract rfl rfl rfl rfl rfl) ?_
    refine Tops_step rfl (OpT_extract rfl rfl rfl rfl rfl) ?_
    refine Tops_step rfl (OpT_assign rfl rfl rfl rfl) ?_
    refine Tops_step rfl (OpT_assign rfl rfl rfl rfl) ?_
    refine Tops_nil (Tk_wkS (fr' := [(2, some (vU64 feats)), (3, some (vU8 vp3)), (4, some (.pointer (some ⟨b1, 0, none⟩))), (9, some (v2)), (10, some (vI all1)), (13, some (v5)), (14, some (v7)), (15, some (vI new1.2))]) (own' := [some (cellsR b1 26 [vU8 Dst1.a0, vU8 Dst1.a1, vU8 Dst1.a2, vU8 Dst1.a3, vU8 Dst1.a4, vU8 Dst1.a5, vU8 Src1.a0, vU8 Src1.a1, vU8 Src1.a2, vU8 Src1.a3, vU8 Src1.a4, vU8 Src1.a5, vI Vlan1, vU16 Type1, v1]), some (rowS (Shape.slice SegS) v5 rooms1), some (optR 78 RegionS u8S true gmem_Mem.l gmem_Mem.b v7 new1.1)]) (shr' := [Fact.sl u8S v1 Data1, Fact.sl iS v2 sizes1]) [2, 3, 4, 9, 10, 13, 14, 15] [0, 1, 3] [0, 1] rfl rfl rfl rfl ?_)
    rcases onO_cases h with ⟨ho1, h⟩ | ⟨mem1, ho1, h⟩
    ·cases h
    ·refine Tk_optS (i := 2) rfl ho1 ?_
     rintro b2 v8 v9 vs1 rfl
     refine Tk_seq (Tk_seq (Tk_region (Tops_step rfl (OpT_move rfl rfl rfl rfl) ?_)))
     refine Tops_step rfl (OpT_bin rfl rfl rfl rfl rfl (bin_neq_i (a := new1.2) (b := (0 : Int)))) ?_
     refine Tops_nil (Tk_wkS (fr' := [(2, some (vU64 feats)), (3, some (vU8 vp3)), (4, some (.pointer (some ⟨b1, 0, none⟩))), (9, some (v2)), (10, some (vI all1)), (13, some (v5)), (14, some (.pointer (some ⟨b2, 0, none⟩))), (64, some (vB (new1.2 != (0 : Int))))]) (own' := [some (cellsR b1 26 [vU8 Dst1.a0, vU8 Dst1.a1, vU8 Dst1.a2, vU8 Dst1.a3, vU8 Dst1.a4, vU8 Dst1.a5, vU8 Src1.a0, vU8 Src1.a1, vU8 Src1.a2, vU8 Src1.a3, vU8 Src1.a4, vU8 Src1.a5, vI Vlan1, vU16 Type1, v1]), some (rowS (Shape.slice SegS) v5 rooms1), some (cellsR b2 78 [v8, v9]), some (rowsX u8S true v9 vs1 mem1.b none)]) (shr' := [Fact.sl u8S v1 Data1, Fact.sl iS v2 sizes1, Fact.sl RegionS v8 mem1.l]) [2, 3, 4, 9, 10, 13, 14, 64] [0, 1, 2, 3] [0, 1, 2] rfl rfl rfl rfl ?_)
     obtain ⟨hg5, h⟩ := chk_e h
     replace hg5 := not_t hg5
     refine Tk_condF (congrArg (fun b => some (Value.bool b)) hg5) ?_
     refine Tk_skip (Tk_seq (Tk_region (Tops_step rfl (OpT_assign rfl rfl rfl rfl) ?_)))
     refine Tops_nil (Tk_wkS (fr' := [(2, some (vU64 feats)), (3, some (vU8 vp3)), (4, some (.pointer (some ⟨b1, 0, none⟩))), (9, some (v2)), (10, some (vI all1)), (13, some (v5)), (14, some (.pointer (some ⟨b2, 0, none⟩))), (16, some (.slice none 0 0))]) (own' := [some (cellsR b1 26 [vU8 Dst1.a0, vU8 Dst1.a1, vU8 Dst1.a2, vU8 Dst1.a3, vU8 Dst1.a4, vU8 Dst1.a5, vU8 Src1.a0, vU8 Src1.a1, vU8 Src1.a2, vU8 Src1.a3, vU8 Src1.a4, vU8 Src1.a5, vI Vlan1, vU16 Type1, v1]), some (rowS (Shape.slice SegS) v5 rooms1), some (cellsR b2 78 [v8, v9]), some (rowsX u8S true v9 vs1 mem1.b none)]) (shr' := [Fact.sl u8S v1 Data1, Fact.sl iS v2 sizes1, Fact.sl RegionS v8 mem1.l]) [2, 3, 4, 9, 10, 13, 14, 16] [0, 1, 2, 3] [0, 1, 2] rfl rfl rfl rfl ?_)
     refine Tk_seq (Tk_seq (Tk_region (Tops_step rfl (OpT_assign rfl rfl rfl rfl) ?_)))
     refine Tops_nil (Tk_block (Tk_nilrow u8S ?_))
     refine Tk_loopS (σ := (A6 UInt8) × (A6 UInt8) × Int × UInt16 × (List UInt8) × (List (List Seg)) × (List UInt8) × Int × Value × Value × Value) [2, 3, 4, 9, 10, 13, 14, 16, 17] [0, 1, 2, 3, 4] [0, 1, 2] (fun s => ⟨[(2, some (vU64 feats)), (3, some (vU8 vp3)), (4, some (.pointer (some ⟨b1, 0, none⟩))), (9, some (v2)), (10, some (vI all1)), (13, some (s.2.2.2.2.2.2.2.2.2.1)), (14, some (.pointer (some ⟨b2, 0, none⟩))), (16, some (s.2.2.2.2.2.2.2.2.2.2)), (17, some (vI s.2.2.2.2.2.2.2.1))], [some (cellsR b1 26 [vU8 s.1.a0, vU8 s.1.a1, vU8 s.1.a2, vU8 s.1.a3, vU8 s.1.a4, vU8 s.1.a5, vU8 s.2.1.a0, vU8 s.2.1.a1, vU8 s.2.1.a2, vU8 s.2.1.a3, vU8 s.2.1.a4, vU8 s.2.1.a5, vI s.2.2.1, vU16 s.2.2.2.1, s.2.2.2.2.2.2.2.2.1]), some (rowS (Shape.slice SegS) s.2.2.2.2.2.2.2.2.2.1 s.2.2.2.2.2.1), some (cellsR b2 78 [v8, v9]), some (rowsX u8S true v9 vs1 mem1.b none), some (rowS u8S s.2.2.2.2.2.2.2.2.2.2 s.2.2.2.2.2.2.1)], [Fact.sl u8S s.2.2.2.2.2.2.2.2.1 s.2.2.2.2.1, Fact.sl iS v2 sizes1, Fact.sl RegionS v8 mem1.l]⟩) (fun nf2 s => law25zNetDeliversL2 feats vp3 sizes1 all1 mem1 nf2 s.1 s.2.1 s.2.2.1 s.2.2.2.1 s.2.2.2.2.1 s.2.2.2.2.2.1 s.2.2.2.2.2.2.1 s.2.2.2.2.2.2.2.1 = some true) fuel (Dst1, Src1, Vlan1, Type1, Data1, rooms1, [], (0 : Int), v1, v5, (.slice none 0 0)) h rfl rfl rfl rfl rfl (fun s h => by cases h) ?_
     rintro nf2 ⟨Dst2, Src2, Vlan2, Type2, Data2, l1, fill1, i2, v10, v11, v12⟩ h
     replace h : law25zNetDeliversL2B feats vp3 sizes1 all1 mem1 (law25zNetDeliversL2 feats vp3 sizes1 all1 mem1 nf2) Dst2 Src2 Vlan2 Type2 Data2 l1 fill1 i2 = some true := h
     unfold law25zNetDeliversL2B at h
     refine Tk_seq (Tk_seq (Tk_region (Tops_step rfl (OpT_move rfl rfl rfl rfl) ?_)))
     refine Tops_step rfl (OpT_bin rfl rfl rfl rfl rfl (bin_lss_i (a := i2) (b := (16384 : Int)))) ?_
     refine Tops_nil (Tk_wkS (fr' := [(2, some (vU64 feats)), (3, some (vU8 vp3)), (4, some (.pointer (some ⟨b1, 0, none⟩))), (9, some (v2)), (10, some (vI all1)), (13, some (v11)), (14, some (.pointer (some ⟨b2, 0, none⟩))), (16, some (v12)), (17, some (vI i2)), (66, some (vB (decide (i2 < (16384 : Int)))))]) (own' := [some (cellsR b1 26 [vU8 Dst2.a0, vU8 Dst2.a1, vU8 Dst2.a2, vU8 Dst2.a3, vU8 Dst2.a4, vU8 Dst2.a5, vU8 Src2.a0, vU8 Src2.a1, vU8 Src2.a2, vU8 Src2.a3, vU8 Src2.a4, vU8 Src2.a5, vI Vlan2, vU16 Type2, v10]), some (rowS (Shape.slice SegS) v11 l1), some (cellsR b2 78 [v8, v9]), some (rowsX u8S true v9 vs1 mem1.b none), some (rowS u8S v12 fill1)]) (shr' := [Fact.sl u8S v10 Data2, Fact.sl iS v2 sizes1, Fact.sl RegionS v8 mem1.l]) [2, 3, 4, 9, 10, 13, 14, 16, 17, 66] [0, 1, 2, 3, 4] [0, 1, 2] rfl rfl rfl rfl ?_)
     rcases Bool.eq_false_or_eq_true (decide (i2 < (16384 : Int))) with hg6 | hg6
     ·replace h := br_t hg6 h
      refine Tk_condT (congrArg (fun b => some (Value.bool b)) hg6) ?_
      refine Tk_skip (Tk_seq (Tk_block (Tk_region (Tops_step rfl (OpT_move rfl rfl rfl rfl) ?_))))
      refine Tops_step rfl (OpT_move rfl rfl rfl rfl) ?_
      refine Tops_ex rfl (OpT_buildSlice (S := u8S) (xs := [vp3]) (css := [[vU8 vp3]]) (cs := [vU8 vp3]) (e := 5) rfl rfl rfl rfl (bldF slF24 (by decide) (by kernel_rfl)) rfl rfl rfl rfl (rel_plainD (S := u8S) (xs := [vp3]) (css := [[vU8 vp3]]) rfl rfl)) fun v13 => ?_
      obtain ⟨hc2, h⟩ := chk_e h
      refine Tops_ex rfl (OpT_appendB (S := u8S) rfl rfl rfl rfl rfl rfl slF24 (i := 4) (j := 5) rfl rfl hc2) fun v14 => ?_
      refine Tops_step rfl (OpT_assign rfl rfl rfl rfl) ?_
      refine Tops_nil (Tk_wkS (fr' := [(2, some (vU64 feats)), (3, some (vU8 vp3)), (4, some (.pointer (some ⟨b1, 0, none⟩))), (9, some (v2)), (10, some (vI all1)), (13, some (v11)), (14, some (.pointer (some ⟨b2, 0, none⟩))), (16, some (v14)), (17, some (vI i2))]) (own' := [some (cellsR b1 26 [vU8 Dst2.a0, vU8 Dst2.a1, vU8 Dst2.a2, vU8 Dst2.a3, vU8 Dst2.a4, vU8 Dst2.a5, vU8 Src2.a0, vU8 Src2.a1, vU8 Src2.a2, vU8 Src2.a3, vU8 Src2.a4, vU8 Src2.a5, vI Vlan2, vU16 Type2, v10]), some (rowS (Shape.slice SegS) v11 l1), some (cellsR b2 78 [v8, v9]), some (rowsX u8S true v9 vs1 mem1.b none), some (rowS u8S v14 (fill1 ++ [vp3]))]) (shr' := [Fact.sl u8S v10 Data2, Fact.sl iS v2 sizes1, Fact.sl RegionS v8 mem1.l]) [2, 3, 4, 9, 10, 13, 14, 16, 17] [0, 1, 2, 3, 4] [0, 1, 2] rfl rfl rfl rfl ?_)
      refine Tk_blk (Tk_region (Tops_step rfl (OpT_move rfl rfl rfl rfl) ?_))
      refine Tops_step rfl (OpT_bin rfl rfl rfl rfl rfl (bin_add_i (a := i2) (b := (1 : Int)))) ?_
      refine Tops_step rfl (OpT_assign rfl rfl rfl rfl) ?_
      refine Tops_nil (Tk_wkS (fr' := [(2, some (vU64 feats)), (3, some (vU8 vp3)), (4, some (.pointer (some ⟨b1, 0, none⟩))), (9, some (v2)), (10, some (vI all1)), (13, some (v11)), (14, some (.pointer (some ⟨b2, 0, none⟩))), (16, some (v14)), (17, some (vI (wi (i2 + (1 : Int)))))]) (own' := [some (cellsR b1 26 [vU8 Dst2.a0, vU8 Dst2.a1, vU8 Dst2.a2, vU8 Dst2.a3, vU8 Dst2.a4, vU8 Dst2.a5, vU8 Src2.a0, vU8 Src2.a1, vU8 Src2.a2, vU8 Src2.a3, vU8 Src2.a4, vU8 Src2.a5, vI Vlan2, vU16 Type2, v10]), some (rowS (Shape.slice SegS) v11 l1), some (cellsR b2 78 [v8, v9]), some (rowsX u8S true v9 vs1 mem1.b none), some (rowS u8S v14 (fill1 ++ [vp3]))]) (shr' := [Fact.sl u8S v10 Data2, Fact.sl iS v2 sizes1, Fact.sl RegionS v8 mem1.l]) [2, 3, 4, 9, 10, 13, 14, 16, 17] [0, 1, 2, 3, 4] [0, 1, 2] rfl rfl rfl rfl ?_)
      exact Tk_backS (Dst2, Src2, Vlan2, Type2, Data2, l1, fill1 ++ [vp3], wi (i2 + (1 : Int)), v10, v11, v14) h [2, 3, 4, 9, 10, 13, 14, 16, 17] [0, 1, 2, 3, 4] [0, 1, 2] rfl rfl rfl rfl rfl
     ·replace h := br_f hg6 h
      refine Tk_condF (congrArg (fun b => some (Value.bool b)) hg6) ?_
      refine Tk_exit _ rfl ?_
      refine Tk_seq (Tk_seq (Tk_region (Tops_step rfl (OpT_move rfl rfl rfl rfl) ?_)))
      refine Tops_step rfl (OpT_move rfl rfl rfl rfl) ?_
      obtain ⟨write1, hx8, h⟩ := ob_e h
      refine Tops_exP rfl (OpT_callB [4] [0, 1, 5, 6, 4] (w_gmem_Mem_Write hx8) [2, 3] rfl rfl rfl rfl rfl callee13 rfl rfl rfl rfl rfl rfl (bor_cons (bor_shr 2 rfl) (bor_cons (bor_row 4 rfl rfl) bor_nil)) (by rintro _ _ _ ⟨rfl, rfl, rfl⟩; exact ⟨rfl, (ri_cons (ri_cells _ _ _) (ri_cons (ri_rows rfl _ _ _ _ _) ri_nil))⟩)) ?_
      rintro _ ⟨_, _, _, ⟨rfl, rfl, rfl⟩, rfl⟩
      refine Tops_step rfl (OpT_bin rfl rfl rfl rfl rfl (bin_neq_i (a := write1.1) (b := (0 : Int)))) ?_
      refine Tops_nil (Tk_wkS (fr' := [(2, some (vU64 feats)), (4, some (.pointer (some ⟨b1, 0, none⟩))), (9, some (v2)), (10, some (vI all1)), (13, some (v11)), (14, some (.pointer (some ⟨b2, 0, none⟩))), (16, some (v12)), (76, some (vB (write1.1 != (0 : Int))))]) (own' := [some (cellsR b1 26 [vU8 Dst2.a0, vU8 Dst2.a1, vU8 Dst2.a2, vU8 Dst2.a3, vU8 Dst2.a4, vU8 Dst2.a5, vU8 Src2.a0, vU8 Src2.a1, vU8 Src2.a2, vU8 Src2.a3, vU8 Src2.a4, vU8 Src2.a5, vI Vlan2, vU16 Type2, v10]), some (rowS (Shape.slice SegS) v11 l1), some (cellsR b2 78 [v8, v9]), some (rowsX u8S true v9 vs1 write1.2 none), some (rowS u8S v12 fill1)]) (shr' := [Fact.sl u8S v10 Data2, Fact.sl iS v2 sizes1, Fact.sl RegionS v8 mem1.l]) [2, 4, 9, 10, 13, 14, 16, 76] [0, 1, 2, 3, 4] [0, 1, 2] rfl rfl rfl rfl ?_)
      obtain ⟨hg7, h⟩ := chk_e h
      replace hg7 := not_t hg7
      refine Tk_condF (congrArg (fun b => some (Value.bool b)) hg7) ?_
      refine Tk_skip (Tk_seq (Tk_region (Tops_step rfl (OpT_loadCA (vs := [vU8 Dst2.a0, vU8 Dst2.a1, vU8 Dst2.a2, vU8 Dst2.a3, vU8 Dst2.a4, vU8 Dst2.a5, vU8 Src2.a0, vU8 Src2.a1, vU8 Src2.a2, vU8 Src2.a3, vU8 Src2.a4, vU8 Src2.a5, vI Vlan2, vU16 Type2, v10]) rfl rfl rfl rfl tyF26 (i := 0) rfl rfl rfl) ?_)))
      obtain ⟨bytes1, hx9, h⟩ := ob_e h
      refine Tops_exP rfl (OpT_call (w_ref_Bytes23 hx9) [] [0] rfl rfl rfl rfl rfl callee14 rfl rfl rfl rfl) ?_
      rintro _ ⟨_, _, _, ⟨v15, rfl, rfl, rfl⟩, rfl⟩
      refine Tops_step rfl (OpT_move rfl rfl rfl rfl) ?_
      refine Tops_step rfl (OpT_extract rfl rfl rfl rfl rfl) ?_
      refine Tops_step rfl (OpT_extract rfl rfl rfl rfl rfl) ?_
      refine Tops_step rfl (OpT_assign rfl rfl rfl rfl) ?_
      refine Tops_step rfl (OpT_assign rfl rfl rfl rfl) ?_
      refine Tops_nil (Tk_wkS (fr' := [(2, some (vU64 feats)), (4, some (.pointer (some ⟨b1, 0, none⟩))), (9, some (v2)), (10, some (vI all1)), (13, some (v11)), (14, some (.pointer (some ⟨b2, 0, none⟩))), (16, some (v12)), (18, some (v15))]) (own' := [some (cellsR b1 26 [vU8 Dst2.a0, vU8 Dst2.a1, vU8 Dst2.a2, vU8 Dst2.a3, vU8 Dst2.a4, vU8 Dst2.a5, vU8 Src2.a0, vU8 Src2.a1, vU8 Src2.a2, vU8 Src2.a3, vU8 Src2.a4, vU8 Src2.a5, vI Vlan2, vU16 Type2, v10]), some (rowS (Shape.slice SegS) v11 l1), some (cellsR b2 78 [v8, v9]), some (rowsX u8S true v9 vs1 write1.2 none), some (rowS u8S v12 fill1), some (rowS u8S v15 bytes1.1)]) (shr' := [Fact.sl u8S v10 Data2, Fact.sl iS v2 sizes1, Fact.sl RegionS v8 mem1.l]) [2, 4, 9, 10, 13, 14, 16, 18] [0, 1, 2, 3, 4, 5] [0, 1, 2] rfl rfl rfl rfl ?_)
      refine Tk_seq (Tk_region (Tops_step rfl (OpT_move rfl rfl rfl rfl) ?_))
      refine Tops_step rfl (OpT_move rfl rfl rfl rfl) ?_
      refine Tops_step rfl (OpT_move rfl rfl rfl rfl) ?_
      refine Tops_step rfl (OpT_loadCA (vs := [vU8 Dst2.a0, vU8 Dst2.a1, vU8 Dst2.a2, vU8 Dst2.a3, vU8 Dst2.a4, vU8 Dst2.a5, vU8 Src2.a0, vU8 Src2.a1, vU8 Src2.a2, vU8 Src2.a3, vU8 Src2.a4, vU8 Src2.a5, vI Vlan2, vU16 Type2, v10]) rfl rfl rfl rfl tyF26 (i := 0) rfl rfl rfl) ?_
      obtain ⟨delive1, hx10, h⟩ := ob_e h
      refine Tops_exP rfl (OpT_callB [1] [0, 1, 6, 7, 4, 5, 8] (w_net_Deliver hx10) [2, 3] rfl rfl rfl rfl rfl callee15 rfl rfl rfl rfl rfl rfl (bor_cons (bor_shr 2 rfl) (bor_cons (bor_row 1 rfl rfl) (bor_cons (bor_shr 0 rfl) bor_nil))) (by rintro _ _ _ ⟨_, rfl, rfl, rfl⟩; exact ⟨rfl, (ri_cons (ri_cells _ _ _) (ri_cons (ri_rows rfl _ _ _ _ _) (ri_cons (ri_row (S := u32S) rfl _ _) ri_nil)))⟩)) ?_
      rintro _ ⟨_, _, _, ⟨v16, rfl, rfl, rfl⟩, rfl⟩
      refine Tops_step rfl (OpT_move rfl rfl rfl rfl) ?_
      refine Tops_step rfl (OpT_extract rfl rfl rfl rfl rfl) ?_
      refine Tops_step rfl (OpT_extract rfl rfl rfl rfl rfl) ?_
      refine Tops_step rfl (OpT_assign rfl rfl rfl rfl) ?_
      refine Tops_step rfl (OpT_assign rfl rfl rfl rfl) ?_
      refine Tops_nil (Tk_wkS (fr' := [(2, some (vU64 feats)), (9, some (v2)), (10, some (vI all1)), (14, some (.pointer (some ⟨b2, 0, none⟩))), (16, some (v12)), (18, some (v15)), (20, some (v16)), (15, some (vI delive1.2.1))]) (own' := [some (cellsR b2 78 [v8, v9]), some (rowsX u8S true v9 vs1 delive1.2.2 none), some (rowS u8S v12 fill1), some (rowS u8S v15 bytes1.1), some (rowS u32S v16 delive1.1)]) (shr' := [Fact.sl iS v2 sizes1, Fact.sl RegionS v8 mem1.l]) [2, 9, 10, 14, 16, 18, 20, 15] [2, 3, 4, 5, 6] [1, 2] rfl rfl rfl rfl ?_)
      refine Tk_seq (Tk_region (Tops_step rfl (OpT_move rfl rfl rfl rfl) ?_))
      obtain ⟨image1, hx11, h⟩ := ob_e h
      refine Tops_exP rfl (OpT_callP [5, 6, 2, 3, 4, 7] (w_gmem_Mem_Image hx11) [0, 1] [1] rfl rfl rfl rfl rfl callee16 rfl rfl rfl rfl rfl) ?_
      rintro _ ⟨v17, _, _, ⟨_, rfl, rfl, rfl⟩, rfl⟩
      refine Tops_step rfl (OpT_assign rfl rfl rfl rfl) ?_
      refine Tops_nil (Tk_wkS (fr' := [(2, some (vU64 feats)), (9, some (v2)), (10, some (vI all1)), (16, some (v12)), (18, some (v15)), (20, some (v16)), (15, some (vI delive1.2.1)), (21, some (v17))]) (own' := [some (rowS u8S v12 fill1), some (rowS u8S v15 bytes1.1), some (rowS u32S v16 delive1.1), some (rowS u8S v17 image1)]) (shr' := [Fact.sl iS v2 sizes1]) [2, 9, 10, 16, 18, 20, 15, 21] [2, 3, 4, 5] [0] rfl rfl rfl rfl ?_)
      refine Tk_seq (Tk_seq (Tk_region (Tops_step rfl (OpT_move rfl rfl rfl rfl) ?_)))
      refine Tops_step rfl (OpT_bin rfl rfl rfl rfl rfl (bin_neq_i (a := delive1.2.1) (b := (0 : Int)))) ?_
      refine Tops_nil (Tk_wkS (fr' := [(2, some (vU64 feats)), (9, some (v2)), (10, some (vI all1)), (16, some (v12)), (18, some (v15)), (20, some (v16)), (15, some (vI delive1.2.1)), (21, some (v17)), (93, some (vB (delive1.2.1 != (0 : Int))))]) (own' := [some (rowS u8S v12 fill1), some (rowS u8S v15 bytes1.1), some (rowS u32S v16 delive1.1), some (rowS u8S v17 image1)]) (shr' := [Fact.sl iS v2 sizes1]) [2, 9, 10, 16, 18, 20, 15, 21, 93] [0, 1, 2, 3] [0] rfl rfl rfl rfl ?_)
      rcases Bool.eq_false_or_eq_true (delive1.2.1 != (0 : Int)) with hg8 | hg8
      ·replace h := br_t hg8 h
       refine Tk_condT (congrArg (fun b => some (Value.bool b)) hg8) ?_
       refine Tk_seq (Tk_region (Tops_step rfl (OpT_move rfl rfl rfl rfl) ?_))
       refine Tops_step rfl (OpT_bin rfl rfl rfl rfl rfl (bin_shr_u64_u64 (a := feats) (n := (15 : UInt64)))) ?_
       refine Tops_step rfl (OpT_bin rfl rfl rfl rfl rfl (bin_and_u64 (a := shr64 feats ((15 : UInt64).toNat)) (b := (1 : UInt64)))) ?_
       refine Tops_step rfl (OpT_bin rfl rfl rfl rfl rfl (bin_eql_u64 (a := (shr64 feats ((15 : UInt64).toNat)) &&& (1 : UInt64)) (b := (1 : UInt64)))) ?_
       refine Tops_step rfl (OpT_assign rfl rfl rfl rfl) ?_
       refine Tops_nil (Tk_wkS (fr' := [(9, some (v2)), (10, some (vI all1)), (16, some (v12)), (18, some (v15)), (15, some (vI delive1.2.1)), (21, some (v17)), (22, some (vB (((shr64 feats ((15 : UInt64).toNat)) &&& (1 : UInt64)) == (1 : UInt64))))]) (own' := [some (rowS u8S v12 fill1), some (rowS u8S v15 bytes1.1), some (rowS u8S v17 image1)]) (shr' := [Fact.sl iS v2 sizes1]) [9, 10, 16, 18, 15, 21, 22] [0, 1, 3] [0] rfl rfl rfl rfl ?_)
       refine Tk_seq (Tk_region (Tops_step rfl (OpT_move rfl rfl rfl rfl) ?_))
       refine Tops_step rfl (OpT_lenS rfl rfl rfl rfl Try.underlying27 (i := 0) rfl) ?_
       refine Tops_step rfl (OpT_bin rfl rfl rfl rfl rfl (bin_eql_i (a := len sizes1) (b := (0 : Int)))) ?_
       refine Tops_step rfl (OpT_move rfl rfl rfl rfl) ?_
       rcases Bool.eq_false_or_eq_true ((len sizes1) == (0 : Int)) with hg9 | hg9
       ·replace h := br_t hg9 h
        refine Tops_no rfl rfl (congrArg (fun b => some (Value.bool b)) hg9) rfl rfl ?_
        refine Tops_no rfl rfl (congrArg (fun b => some (Value.bool b)) hg9) rfl rfl ?_
        refine Tops_no rfl rfl (congrArg (fun b => some (Value.bool b)) hg9) rfl rfl ?_
        refine Tops_no rfl rfl (congrArg (fun b => some (Value.bool b)) hg9) rfl rfl ?_
        refine Tops_step rfl (OpT_pickT rfl rfl rfl (congrArg (fun b => some (Value.bool b)) hg9) rfl) ?_
        refine Tops_step rfl (OpT_move rfl rfl rfl rfl) ?_
        refine Tops_no rfl rfl rfl rfl rfl ?_
        refine Tops_no rfl rfl rfl rfl rfl ?_
        refine Tops_no rfl rfl rfl rfl rfl ?_
        refine Tops_noU rfl rfl rfl rfl rfl ?_
        refine Tops_noU rfl rfl rfl rfl rfl ?_
        refine Tops_noU rfl rfl rfl rfl rfl ?_
        refine Tops_noU rfl rfl rfl rfl rfl ?_
        refine Tops_noU rfl rfl rfl rfl rfl ?_
        refine Tops_noU rfl rfl rfl rfl rfl ?_
        refine Tops_noU rfl rfl rfl rfl rfl ?_
        refine Tops_no rfl rfl rfl rfl rfl ?_
        refine Tops_step rfl (OpT_pickT rfl rfl rfl rfl rfl) ?_
        refine Tops_step rfl (OpT_move rfl rfl rfl rfl) ?_
        refine Tops_no rfl rfl rfl rfl rfl ?_
        refine Tops_no rfl rfl rfl rfl rfl ?_
        refine Tops_noU rfl rfl rfl rfl rfl ?_
        refine Tops_noU rfl rfl rfl rfl rfl ?_
        refine Tops_noU rfl rfl rfl rfl rfl ?_
        refine Tops_noU rfl rfl rfl rfl rfl ?_
        refine Tops_noU rfl rfl rfl rfl rfl ?_
        refine Tops_no rfl rfl rfl rfl rfl ?_
        refine Tops_step rfl (OpT_pickT rfl rfl rfl rfl rfl) ?_
        refine Tops_step rfl (OpT_assign rfl rfl rfl rfl) ?_
        refine Tops_nil (Tk_wkS (fr' := [(16, some (v12)), (15, some (vI delive1.2.1)), (21, some (v17)), (23, some (vB true))]) (own' := [some (rowS u8S v12 fill1), some (rowS u8S v17 image1)]) (shr' := []) [16, 15, 21, 23] [0, 2] [] rfl rfl rfl rfl ?_)
        refine Tk_seq (Tk_region (Tops_step rfl (OpT_move rfl rfl rfl rfl) ?_))
        refine Tops_step rfl (OpT_bin rfl rfl rfl rfl rfl (bin_eql_i (a := delive1.2.1) (b := (7 : Int)))) ?_
        refine Tops_step rfl (OpT_move rfl rfl rfl rfl) ?_
        obtain ⟨hg10, h⟩ := chk_e h
        refine Tops_yes rfl rfl (congrArg (fun b => some (Value.bool b)) hg10) (OpT_move rfl rfl rfl rfl) ?_
        rintro _ rfl
        refine Tops_step rfl (OpT_pickT rfl rfl rfl (congrArg (fun b => some (Value.bool b)) hg10) rfl) ?_
        refine Tops_step rfl (OpT_move rfl rfl rfl rfl) ?_
        refine Tops_yes rfl rfl rfl (OpT_move rfl rfl rfl rfl) ?_
        rintro _ rfl
        refine Tops_retire (i := 1) rfl ?_
        refine Tops_yes rfl rfl rfl (OpT_strS rfl rfl rfl rfl Try.underlying24 Try.underlying5 Try.underlying9 (i := 0) rfl) ?_
        rintro _ rfl
        refine Tops_yes rfl rfl rfl (OpT_move rfl rfl rfl rfl) ?_
        rintro _ rfl
        refine Tops_retire (i := 0) rfl ?_
        refine Tops_yes rfl rfl rfl (OpT_strS rfl rfl rfl rfl Try.underlying24 Try.underlying5 Try.underlying9 (i := 1) rfl) ?_
        rintro _ rfl
        refine Tops_yes rfl rfl rfl (OpT_bin rfl rfl rfl rfl rfl (bin_eql_s (a := image1) (b := fill1))) ?_
        rintro _ rfl
        refine Tops_step rfl (OpT_pickT rfl rfl rfl rfl rfl) ?_
        refine Tops_step rfl (OpT_assign rfl rfl rfl rfl) ?_
        refine Tops_nil (Tk_wkS (fr' := [(8, some (vB (image1 == fill1)))]) (own' := []) (shr' := []) [8] [] [] rfl rfl rfl rfl ?_)
        obtain ⟨hg11, h⟩ := chk_e h
        exact Tk_retV rfl rfl (resA (vs := [.bool true]) rfl ⟨(congrArg (fun b => some (Value.bool b)) hg11), trivial⟩) [] [] rfl rfl rfl ⟨rfl, rfl, rfl⟩
       ·replace h := br_f hg9 h
        refine Tops_yes rfl rfl (congrArg (fun b => some (Value.bool b)) hg9) (OpT_move rfl rfl rfl rfl) ?_
        rintro _ rfl
        obtain ⟨y2, hx12, h⟩ := ob_e h
        refine Tops_yes rfl rfl (congrArg (fun b => some (Value.bool b)) hg9) (OpT_idxS rfl rfl rfl rfl rfl slF27 (i := 0) rfl hx12) ?_
        rintro _ ⟨p2, rfl⟩
        refine Tops_yes rfl rfl (congrArg (fun b => some (Value.bool b)) hg9) (OpT_loadP rfl rfl rfl rfl tyF3 (i := 1) rfl rfl) ?_
        rintro _ rfl
        refine Tops_yes rfl rfl (congrArg (fun b => some (Value.bool b)) hg9) (OpT_bin rfl rfl rfl rfl rfl (bin_lss_i (a := y2) (b := (12 : Int)))) ?_
        rintro _ rfl
        refine Tops_step rfl (OpT_pickF rfl rfl rfl (congrArg (fun b => some (Value.bool b)) hg9) rfl) ?_
        refine Tops_step rfl (OpT_move rfl rfl rfl rfl) ?_
        rcases Bool.eq_false_or_eq_true (decide (y2 < (12 : Int))) with hg12 | hg12
        ·replace h := br_t hg12 h
         refine Tops_no rfl rfl (congrArg (fun b => some (Value.bool b)) hg12) rfl rfl ?_
         refine Tops_no rfl rfl (congrArg (fun b => some (Value.bool b)) hg12) rfl rfl ?_
         refine Tops_no rfl rfl (congrArg (fun b => some (Value.bool b)) hg12) rfl rfl ?_
         refine Tops_noU rfl rfl rfl rfl rfl ?_
         refine Tops_noU rfl rfl rfl rfl rfl ?_
         refine Tops_noU rfl rfl rfl rfl rfl ?_
         refine Tops_noU rfl rfl rfl rfl rfl ?_
         refine Tops_noU rfl rfl rfl rfl rfl ?_
         refine Tops_noU rfl rfl rfl rfl rfl ?_
         refine Tops_noU rfl rfl rfl rfl rfl ?_
         refine Tops_no rfl rfl (congrArg (fun b => some (Value.bool b)) hg12) rfl rfl ?_
         refine Tops_step rfl (OpT_pickT rfl rfl rfl (congrArg (fun b => some (Value.bool b)) hg12) rfl) ?_
         refine Tops_step rfl (OpT_move rfl rfl rfl rfl) ?_
         refine Tops_no rfl rfl rfl rfl rfl ?_
         refine Tops_no rfl rfl rfl rfl rfl ?_
         refine Tops_noU rfl rfl rfl rfl rfl ?_
         refine Tops_noU rfl rfl rfl rfl rfl ?_
         refine Tops_noU rfl rfl rfl rfl rfl ?_
         refine Tops_noU rfl rfl rfl rfl rfl ?_
         refine Tops_noU rfl rfl rfl rfl rfl ?_
         refine Tops_no rfl rfl rfl rfl rfl ?_
         refine Tops_step rfl (OpT_pickT rfl rfl rfl rfl rfl) ?_
         refine Tops_step rfl (OpT_assign rfl rfl rfl rfl) ?_
         refine Tops_nil (Tk_wkS (fr' := [(16, some (v12)), (15, some (vI delive1.2.1)), (21, some (v17)), (23, some (vB true))]) (own' := [some (rowS u8S v12 fill1), some (rowS u8S v17 image1)]) (shr' := []) [16, 15, 21, 23] [0, 2] [] rfl rfl rfl rfl ?_)
         refine Tk_seq (Tk_region (Tops_step rfl (OpT_move rfl rfl rfl rfl) ?_))
         refine Tops_step rfl (OpT_bin rfl rfl rfl rfl rfl (bin_eql_i (a := delive1.2.1) (b := (7 : Int)))) ?_
         refine Tops_step rfl (OpT_move rfl rfl rfl rfl) ?_
         obtain ⟨hg13, h⟩ := chk_e h
         refine Tops_yes rfl rfl (congrArg (fun b => some (Value.bool b)) hg13) (OpT_move rfl rfl rfl rfl) ?_
         rintro _ rfl
         refine Tops_step rfl (OpT_pickT rfl rfl rfl (congrArg (fun b => some (Value.bool b)) hg13) rfl) ?_
         refine Tops_step rfl (OpT_move rfl rfl rfl rfl) ?_
         refine Tops_yes rfl rfl rfl (OpT_move rfl rfl rfl rfl) ?_
         rintro _ rfl
         refine Tops_retire (i := 1) rfl ?_
         refine Tops_yes rfl rfl rfl (OpT_strS rfl rfl rfl rfl Try.underlying24 Try.underlying5 Try.underlying9 (i := 0) rfl) ?_
         rintro _ rfl
         refine Tops_yes rfl rfl rfl (OpT_move rfl rfl rfl rfl) ?_
         rintro _ rfl
         refine Tops_retire (i := 0) rfl ?_
         refine Tops_yes rfl rfl rfl (OpT_strS rfl rfl rfl rfl Try.underlying24 Try.underlying5 Try.underlying9 (i := 1) rfl) ?_
         rintro _ rfl
         refine Tops_yes rfl rfl rfl (OpT_bin rfl rfl rfl rfl rfl (bin_eql_s (a := image1) (b := fill1))) ?_
         rintro _ rfl
         refine Tops_step rfl (OpT_pickT rfl rfl rfl rfl rfl) ?_
         refine Tops_step rfl (OpT_assign rfl rfl rfl rfl) ?_
         refine Tops_nil (Tk_wkS (fr' := [(8, some (vB (image1 == fill1)))]) (own' := []) (shr' := []) [8] [] [] rfl rfl rfl rfl ?_)
         obtain ⟨hg14, h⟩ := chk_e h
         exact Tk_retV rfl rfl (resA (vs := [.bool true]) rfl ⟨(congrArg (fun b => some (Value.bool b)) hg14), trivial⟩) [] [] rfl rfl rfl ⟨rfl, rfl, rfl⟩
        ·replace h := br_f hg12 h
         refine Tops_yes rfl rfl (congrArg (fun b => some (Value.bool b)) hg12) (OpT_move rfl rfl rfl rfl) ?_
         rintro _ rfl
         refine Tops_yes rfl rfl (congrArg (fun b => some (Value.bool b)) hg12) (OpT_not rfl rfl rfl rfl) ?_
         rintro _ rfl
         refine Tops_yes rfl rfl (congrArg (fun b => some (Value.bool b)) hg12) (OpT_move rfl rfl rfl rfl) ?_
         rintro _ rfl
         rcases Bool.eq_false_or_eq_true ((!(((shr64 feats ((15 : UInt64).toNat)) &&& (1 : UInt64)) == (1 : UInt64)))) with hg15 | hg15
         ·replace h := br_t hg15 h
          refine Tops_yes rfl rfl (congrArg (fun b => some (Value.bool b)) hg15) (OpT_move rfl rfl rfl rfl) ?_
          rintro _ rfl
          obtain ⟨y3, hx13, h⟩ := ob_e h
          refine Tops_yes rfl rfl (congrArg (fun b => some (Value.bool b)) hg15) (OpT_idxS rfl rfl rfl rfl rfl slF27 (i := 0) rfl hx13) ?_
          rintro _ ⟨p3, rfl⟩
          refine Tops_yes rfl rfl (congrArg (fun b => some (Value.bool b)) hg15) (OpT_loadP rfl rfl rfl rfl tyF3 (i := 2) rfl rfl) ?_
          rintro _ rfl
          refine Tops_yes rfl rfl (congrArg (fun b => some (Value.bool b)) hg15) (OpT_move rfl rfl rfl rfl) ?_
          rintro _ rfl
          refine Tops_yes rfl rfl (congrArg (fun b => some (Value.bool b)) hg15) (OpT_lenO rfl rfl rfl rfl Try.underlying24 (i := 1) rfl) ?_
          rintro _ rfl
          refine Tops_yes rfl rfl (congrArg (fun b => some (Value.bool b)) hg15) (OpT_bin rfl rfl rfl rfl rfl (bin_add_i (a := (12 : Int)) (b := len bytes1.1))) ?_
          rintro _ rfl
          refine Tops_yes rfl rfl (congrArg (fun b => some (Value.bool b)) hg15) (OpT_bin rfl rfl rfl rfl rfl (bin_lss_i (a := y3) (b := wi ((12 : Int) + (len bytes1.1))))) ?_
          rintro _ rfl
          refine Tops_yes rfl rfl (congrArg (fun b => some (Value.bool b)) hg12) (OpT_pickT rfl rfl rfl (congrArg (fun b => some (Value.bool b)) hg15) rfl) ?_
          rintro _ rfl
          refine Tops_step rfl (OpT_pickF rfl rfl rfl (congrArg (fun b => some (Value.bool b)) hg12) rfl) ?_
          refine Tops_step rfl (OpT_move rfl rfl rfl rfl) ?_
          rcases Bool.eq_false_or_eq_true (decide (y3 < (wi ((12 : Int) + (len bytes1.1))))) with hg16 | hg16
          ·replace h := br_t hg16 h
           refine Tops_no rfl rfl (congrArg (fun b => some (Value.bool b)) hg16) rfl rfl ?_
           refine Tops_no rfl rfl (congrArg (fun b => some (Value.bool b)) hg16) rfl rfl ?_
           refine Tops_noU rfl rfl rfl rfl rfl ?_
           refine Tops_noU rfl rfl rfl rfl rfl ?_
           refine Tops_noU rfl rfl rfl rfl rfl ?_
           refine Tops_noU rfl rfl rfl rfl rfl ?_
           refine Tops_noU rfl rfl rfl rfl rfl ?_
           refine Tops_no rfl rfl (congrArg (fun b => some (Value.bool b)) hg16) rfl rfl ?_
           refine Tops_step rfl (OpT_pickT rfl rfl rfl (congrArg (fun b => some (Value.bool b)) hg16) rfl) ?_
           refine Tops_step rfl (OpT_assign rfl rfl rfl rfl) ?_
           refine Tops_nil (Tk_wkS (fr' := [(16, some (v12)), (15, some (vI delive1.2.1)), (21, some (v17)), (23, some (vB true))]) (own' := [some (rowS u8S v12 fill1), some (rowS u8S v17 image1)]) (shr' := []) [16, 15, 21, 23] [0, 2] [] rfl rfl rfl rfl ?_)
           refine Tk_seq (Tk_region (Tops_step rfl (OpT_move rfl rfl rfl rfl) ?_))
           refine Tops_step rfl (OpT_bin rfl rfl rfl rfl rfl (bin_eql_i (a := delive1.2.1) (b := (7 : Int)))) ?_
           refine Tops_step rfl (OpT_move rfl rfl rfl rfl) ?_
           obtain ⟨hg17, h⟩ := chk_e h
           refine Tops_yes rfl rfl (congrArg (fun b => some (Value.bool b)) hg17) (OpT_move rfl rfl rfl rfl) ?_
           rintro _ rfl
           refine Tops_step rfl (OpT_pickT rfl rfl rfl (congrArg (fun b => some (Value.bool b)) hg17) rfl) ?_
           refine Tops_step rfl (OpT_move rfl rfl rfl rfl) ?_
           refine Tops_yes rfl rfl rfl (OpT_move rfl rfl rfl rfl) ?_
           rintro _ rfl
           refine Tops_retire (i := 1) rfl ?_
           refine Tops_yes rfl rfl rfl (OpT_strS rfl rfl rfl rfl Try.underlying24 Try.underlying5 Try.underlying9 (i := 0) rfl) ?_
           rintro _ rfl
           refine Tops_yes rfl rfl rfl (OpT_move rfl rfl rfl rfl) ?_
           rintro _ rfl
           refine Tops_retire (i := 0) rfl ?_
           refine Tops_yes rfl rfl rfl (OpT_strS rfl rfl rfl rfl Try.underlying24 Try.underlying5 Try.underlying9 (i := 1) rfl) ?_
           rintro _ rfl
           refine Tops_yes rfl rfl rfl (OpT_bin rfl rfl rfl rfl rfl (bin_eql_s (a := image1) (b := fill1))) ?_
           rintro _ rfl
           refine Tops_step rfl (OpT_pickT rfl rfl rfl rfl rfl) ?_
           refine Tops_step rfl (OpT_assign rfl rfl rfl rfl) ?_
           refine Tops_nil (Tk_wkS (fr' := [(8, some (vB (image1 == fill1)))]) (own' := []) (shr' := []) [8] [] [] rfl rfl rfl rfl ?_)
           obtain ⟨hg18, h⟩ := chk_e h
           exact Tk_retV rfl rfl (resA (vs := [.bool true]) rfl ⟨(congrArg (fun b => some (Value.bool b)) hg18), trivial⟩) [] [] rfl rfl rfl ⟨rfl, rfl, rfl⟩
          ·replace h := br_f hg16 h
           refine Tops_yes rfl rfl (congrArg (fun b => some (Value.bool b)) hg16) (OpT_move rfl rfl rfl rfl) ?_
           rintro _ rfl
           refine Tops_yes rfl rfl (congrArg (fun b => some (Value.bool b)) hg16) (OpT_move rfl rfl rfl rfl) ?_
           rintro _ rfl
           obtain ⟨hg19, h⟩ := chk_e h
           refine Tops_yes rfl rfl (congrArg (fun b => some (Value.bool b)) hg19) (OpT_move rfl rfl rfl rfl) ?_
           rintro _ rfl
           refine Tops_yes rfl rfl (congrArg (fun b => some (Value.bool b)) hg19) (OpT_move rfl rfl rfl rfl) ?_
           rintro _ rfl
           refine Tops_yes rfl rfl (congrArg (fun b => some (Value.bool b)) hg19) (OpT_lenO rfl rfl rfl rfl Try.underlying24 (i := 1) rfl) ?_
           rintro _ rfl
           refine Tops_yes rfl rfl (congrArg (fun b => some (Value.bool b)) hg19) (OpT_bin rfl rfl rfl rfl rfl (bin_add_i (a := (12 : Int)) (b := len bytes1.1))) ?_
           rintro _ rfl
           refine Tops_yes rfl rfl (congrArg (fun b => some (Value.bool b)) hg19) (OpT_bin rfl rfl rfl rfl rfl (bin_lss_i (a := all1) (b := wi ((12 : Int) + (len bytes1.1))))) ?_
           rintro _ rfl
           refine Tops_yes rfl rfl (congrArg (fun b => some (Value.bool b)) hg16) (OpT_pickT rfl rfl rfl (congrArg (fun b => some (Value.bool b)) hg19) rfl) ?_
           rintro _ rfl
           refine Tops_step rfl (OpT_pickF rfl rfl rfl (congrArg (fun b => some (Value.bool b)) hg16) rfl) ?_
           refine Tops_step rfl (OpT_assign rfl rfl rfl rfl) ?_
           refine Tops_nil (Tk_wkS (fr' := [(16, some (v12)), (15, some (vI delive1.2.1)), (21, some (v17)), (23, some (vB (decide (all1 < (wi ((12 : Int) + (len bytes1.1)))))))]) (own' := [some (rowS u8S v12 fill1), some (rowS u8S v17 image1)]) (shr' := []) [16, 15, 21, 23] [0, 2] [] rfl rfl rfl rfl ?_)
           refine Tk_seq (Tk_region (Tops_step rfl (OpT_move rfl rfl rfl rfl) ?_))
           refine Tops_step rfl (OpT_bin rfl rfl rfl rfl rfl (bin_eql_i (a := delive1.2.1) (b := (7 : Int)))) ?_
           refine Tops_step rfl (OpT_move rfl rfl rfl rfl) ?_
           obtain ⟨hg20, h⟩ := chk_e h
           refine Tops_yes rfl rfl (congrArg (fun b => some (Value.bool b)) hg20) (OpT_move rfl rfl rfl rfl) ?_
           rintro _ rfl
           refine Tops_step rfl (OpT_pickT rfl rfl rfl (congrArg (fun b => some (Value.bool b)) hg20) rfl) ?_
           refine Tops_step rfl (OpT_move rfl rfl rfl rfl) ?_
           obtain ⟨hg21, h⟩ := chk_e h
           refine Tops_yes rfl rfl (congrArg (fun b => some (Value.bool b)) hg21) (OpT_move rfl rfl rfl rfl) ?_
           rintro _ rfl
           refine Tops_retire (i := 1) rfl ?_
           refine Tops_yes rfl rfl (congrArg (fun b => some (Value.bool b)) hg21) (OpT_strS rfl rfl rfl rfl Try.underlying24 Try.underlying5 Try.underlying9 (i := 0) rfl) ?_
           rintro _ rfl
           refine Tops_yes rfl rfl (congrArg (fun b => some (Value.bool b)) hg21) (OpT_move rfl rfl rfl rfl) ?_
           rintro _ rfl
           refine Tops_retire (i := 0) rfl ?_
           refine Tops_yes rfl rfl (congrArg (fun b => some (Value.bool b)) hg21) (OpT_strS rfl rfl rfl rfl Try.underlying24 Try.underlying5 Try.underlying9 (i := 1) rfl) ?_
           rintro _ rfl
           refine Tops_yes rfl rfl (congrArg (fun b => some (Value.bool b)) hg21) (OpT_bin rfl rfl rfl rfl rfl (bin_eql_s (a := image1) (b := fill1))) ?_
           rintro _ rfl
           refine Tops_step rfl (OpT_pickT rfl rfl rfl (congrArg (fun b => some (Value.bool b)) hg21) rfl) ?_
           refine Tops_step rfl (OpT_assign rfl rfl rfl rfl) ?_
           refine Tops_nil (Tk_wkS (fr' := [(8, some (vB (image1 == fill1)))]) (own' := []) (shr' := []) [8] [] [] rfl rfl rfl rfl ?_)
           obtain ⟨hg22, h⟩ := chk_e h
           exact Tk_retV rfl rfl (resA (vs := [.bool true]) rfl ⟨(congrArg (fun b => some (Value.bool b)) hg22), trivial⟩) [] [] rfl rfl rfl ⟨rfl, rfl, rfl⟩
         ·replace h := br_f hg15 h
          refine Tops_no rfl rfl (congrArg (fun b => some (Value.bool b)) hg15) rfl rfl ?_
          refine Tops_no rfl rfl (congrArg (fun b => some (Value.bool b)) hg15) rfl rfl ?_
          refine Tops_no rfl rfl (congrArg (fun b => some (Value.bool b)) hg15) rfl rfl ?_
          refine Tops_no rfl rfl (congrArg (fun b => some (Value.bool b)) hg15) rfl rfl ?_
          refine Tops_no rfl rfl (congrArg (fun b => some (Value.bool b)) hg15) rfl rfl ?_
          refine Tops_no rfl rfl (congrArg (fun b => some (Value.bool b)) hg15) rfl rfl ?_
          refine Tops_no rfl rfl (congrArg (fun b => some (Value.bool b)) hg15) rfl rfl ?_
          refine Tops_yes rfl rfl (congrArg (fun b => some (Value.bool b)) hg12) (OpT_pickF rfl rfl rfl (congrArg (fun b => some (Value.bool b)) hg15) rfl) ?_
          rintro _ rfl
          refine Tops_step rfl (OpT_pickF rfl rfl rfl (congrArg (fun b => some (Value.bool b)) hg12) rfl) ?_
          refine Tops_step rfl (OpT_move rfl rfl rfl rfl) ?_
          refine Tops_yes rfl rfl rfl (OpT_move rfl rfl rfl rfl) ?_
          rintro _ rfl
          refine Tops_yes rfl rfl rfl (OpT_move rfl rfl rfl rfl) ?_
          rintro _ rfl
          obtain ⟨hg24, h⟩ := chk_e h
          refine Tops_yes rfl rfl (congrArg (fun b => some (Value.bool b)) hg24) (OpT_move rfl rfl rfl rfl) ?_
          rintro _ rfl
          refine Tops_yes rfl rfl (congrArg (fun b => some (Value.bool b)) hg24) (OpT_move rfl rfl rfl rfl) ?_
          rintro _ rfl
          refine Tops_yes rfl rfl (congrArg (fun b => some (Value.bool b)) hg24) (OpT_lenO rfl rfl rfl rfl Try.underlying24 (i := 1) rfl) ?_
          rintro _ rfl
          refine Tops_yes rfl rfl (congrArg (fun b => some (Value.bool b)) hg24) (OpT_bin rfl rfl rfl rfl rfl (bin_add_i (a := (12 : Int)) (b := len bytes1.1))) ?_
          rintro _ rfl
          refine Tops_yes rfl rfl (congrArg (fun b => some (Value.bool b)) hg24) (OpT_bin rfl rfl rfl rfl rfl (bin_lss_i (a := all1) (b := wi ((12 : Int) + (len bytes1.1))))) ?_
          rintro _ rfl
          refine Tops_yes rfl rfl rfl (OpT_pickT rfl rfl rfl (congrArg (fun b => some (Value.bool b)) hg24) rfl) ?_
          rintro _ rfl
          refine Tops_step rfl (OpT_pickF rfl rfl rfl rfl rfl) ?_
          refine Tops_step rfl (OpT_assign rfl rfl rfl rfl) ?_
          refine Tops_nil (Tk_wkS (fr' := [(16, some (v12)), (15, some (vI delive1.2.1)), (21, some (v17)), (23, some (vB (decide (all1 < (wi ((12 : Int) + (len bytes1.1)))))))]) (own' := [some (rowS u8S v12 fill1), some (rowS u8S v17 image1)]) (shr' := []) [16, 15, 21, 23] [0, 2] [] rfl rfl rfl rfl ?_)
          refine Tk_seq (Tk_region (Tops_step rfl (OpT_move rfl rfl rfl rfl) ?_))
          refine Tops_step rfl (OpT_bin rfl rfl rfl rfl rfl (bin_eql_i (a := delive1.2.1) (b := (7 : Int)))) ?_
          refine Tops_step rfl (OpT_move rfl rfl rfl rfl) ?_
          obtain ⟨hg25, h⟩ := chk_e h
          refine Tops_yes rfl rfl (congrArg (fun b => some (Value.bool b)) hg25) (OpT_move rfl rfl rfl rfl) ?_
          rintro _ rfl
          refine Tops_step rfl (OpT_pickT rfl rfl rfl (congrArg (fun b => some (Value.bool b)) hg25) rfl) ?_
          refine Tops_step rfl (OpT_move rfl rfl rfl rfl) ?_
          obtain ⟨hg26, h⟩ := chk_e h
          refine Tops_yes rfl rfl (congrArg (fun b => some (Value.bool b)) hg26) (OpT_move rfl rfl rfl rfl) ?_
          rintro _ rfl
          refine Tops_retire (i := 1) rfl ?_
          refine Tops_yes rfl rfl (congrArg (fun b => some (Value.bool b)) hg26) (OpT_strS rfl rfl rfl rfl Try.underlying24 Try.underlying5 Try.underlying9 (i := 0) rfl) ?_
          rintro _ rfl
          refine Tops_yes rfl rfl (congrArg (fun b => some (Value.bool b)) hg26) (OpT_move rfl rfl rfl rfl) ?_
          rintro _ rfl
          refine Tops_retire (i := 0) rfl ?_
          refine Tops_yes rfl rfl (congrArg (fun b => some (Value.bool b)) hg26) (OpT_strS rfl rfl rfl rfl Try.underlying24 Try.underlying5 Try.underlying9 (i := 1) rfl) ?_
          rintro _ rfl
          refine Tops_yes rfl rfl (congrArg (fun b => some (Value.bool b)) hg26) (OpT_bin rfl rfl rfl rfl rfl (bin_eql_s (a := image1) (b := fill1))) ?_
          rintro _ rfl
          refine Tops_step rfl (OpT_pickT rfl rfl rfl (congrArg (fun b => some (Value.bool b)) hg26) rfl) ?_
          refine Tops_step rfl (OpT_assign rfl rfl rfl rfl) ?_
          refine Tops_nil (Tk_wkS (fr' := [(8, some (vB (image1 == fill1)))]) (own' := []) (shr' := []) [8] [] [] rfl rfl rfl rfl ?_)
          obtain ⟨hg27, h⟩ := chk_e h
          exact Tk_retV rfl rfl (resA (vs := [.bool true]) rfl ⟨(congrArg (fun b => some (Value.bool b)) hg27), trivial⟩) [] [] rfl rfl rfl ⟨rfl, rfl, rfl⟩
      ·replace h := br_f hg8 h
       refine Tk_condF (congrArg (fun b => some (Value.bool b)) hg8) ?_
       refine Tk_skip (Tk_seq (Tk_region (Tops_step rfl (OpT_assign rfl rfl rfl rfl) ?_)))
       refine Tops_nil (Tk_wkS (fr' := [(9, some (v2)), (16, some (v12)), (18, some (v15)), (20, some (v16)), (21, some (v17)), (24, some (vI (0 : Int)))]) (own' := [some (rowS u8S v12 fill1), some (rowS u8S v15 bytes1.1), some (rowS u32S v16 delive1.1), some (rowS u8S v17 image1)]) (shr' := [Fact.sl iS v2 sizes1]) [9, 16, 18, 20, 21, 24] [0, 1, 2, 3] [0] rfl rfl rfl rfl ?_)
       refine Tk_seq (Tk_seq (Tk_region (Tops_step rfl (OpT_assign rfl rfl rfl rfl) ?_)))
       refine Tops_nil (Tk_block (Tk_loopS (σ := Int × Int) [9, 16, 18, 20, 21, 24, 25] [0, 1, 2, 3] [0] (fun s => ⟨[(9, some (v2)), (16, some (v12)), (18, some (v15)), (20, some (v16)), (21, some (v17)), (24, some (vI s.1)), (25, some (vI s.2))], [some (rowS u8S v12 fill1), some (rowS u8S v15 bytes1.1), some (rowS u32S v16 delive1.1), some (rowS u8S v17 image1)], [Fact.sl iS v2 sizes1]⟩) (fun nf3 s => law25zNetDeliversL3 sizes1 fill1 bytes1 delive1 image1 nf3 s.1 s.2 = some true) fuel ((0 : Int), (0 : Int)) h rfl rfl rfl rfl rfl (fun s h => by cases h) ?_))
       rintro nf3 ⟨got1, i3⟩ h
       replace h : law25zNetDeliversL3B sizes1 fill1 bytes1 delive1 image1 (law25zNetDeliversL3 sizes1 fill1 bytes1 delive1 image1 nf3) got1 i3 = some true := h
       unfold law25zNetDeliversL3B at h
       refine Tk_seq (Tk_seq (Tk_region (Tops_step rfl (OpT_move rfl rfl rfl rfl) ?_)))
       refine Tops_step rfl (OpT_move rfl rfl rfl rfl) ?_
       refine Tops_step rfl (OpT_lenO rfl rfl rfl rfl Try.underlying43 (i := 2) rfl) ?_
       refine Tops_step rfl (OpT_bin rfl rfl rfl rfl rfl (bin_lss_i (a := i3) (b := len delive1.1))) ?_
       refine Tops_nil (Tk_wkS (fr' := [(9, some (v2)), (16, some (v12)), (18, some (v15)), (20, some (v16)), (21, some (v17)), (24, some (vI got1)), (25, some (vI i3)), (145, some (vB (decide (i3 < (len delive1.1)))))]) (own' := [some (rowS u8S v12 fill1), some (rowS u8S v15 bytes1.1), some (rowS u32S v16 delive1.1), some (rowS u8S v17 image1)]) (shr' := [Fact.sl iS v2 sizes1]) [9, 16, 18, 20, 21, 24, 25, 145] [0, 1, 2, 3] [0] rfl rfl rfl rfl ?_)
       rcases Bool.eq_false_or_eq_true (decide (i3 < (len delive1.1))) with hg29 | hg29
       ·replace h := br_t hg29 h
        refine Tk_condT (congrArg (fun b => some (Value.bool b)) hg29) ?_
        refine Tk_skip (Tk_seq (Tk_block (Tk_seq (Tk_region (Tops_step rfl (OpT_move rfl rfl rfl rfl) ?_)))))
        refine Tops_step rfl (OpT_move rfl rfl rfl rfl) ?_
        refine Tops_step rfl (OpT_move rfl rfl rfl rfl) ?_
        obtain ⟨y4, hx14, h⟩ := ob_e h
        refine Tops_step rfl (OpT_idxO rfl rfl rfl rfl rfl slF43 (i := 2) rfl hx14) ?_
        refine Tops_step rfl (OpT_loadO (S := u32S) rfl rfl rfl rfl rfl tyF48 (i := 2) rfl hx14 rfl rfl) ?_
        refine Tops_step rfl (OpT_cnv rfl rfl rfl rfl (cnv_u32_i (n := y4) Try.underlying48 Try.underlying3)) ?_
        refine Tops_step rfl (OpT_bin rfl rfl rfl rfl rfl (bin_add_i (a := got1) (b := i32 y4))) ?_
        refine Tops_step rfl (OpT_assign rfl rfl rfl rfl) ?_
        refine Tops_nil (Tk_wkS (fr' := [(9, some (v2)), (16, some (v12)), (18, some (v15)), (20, some (v16)), (21, some (v17)), (24, some (vI (wi (got1 + (i32 y4))))), (25, some (vI i3))]) (own' := [some (rowS u8S v12 fill1), some (rowS u8S v15 bytes1.1), some (rowS u32S v16 delive1.1), some (rowS u8S v17 image1)]) (shr' := [Fact.sl iS v2 sizes1]) [9, 16, 18, 20, 21, 24, 25] [0, 1, 2, 3] [0] rfl rfl rfl rfl ?_)
        refine Tk_seq (Tk_drawT (by kernel_rfl) ?_)
        refine TA_tb [0, 0, 2, 6, 15, 31, 63, 63, 255, 511, 1023, 63, 63, 6207, 14399, 32767, 65535, 131071, 262143, 262143, 1048575, 2097151, 4194303, 262143, 262143, 25427967, 58982399, 134217727, 268435455, 536870911, 1073741823, 1073741823, 4294967295, 8589934591, 17179869183, 34359738367] (by kernel_rfl) fun htb => ?_
        refine TA_seg (lo := 0) (hi := 4) htb rfl rfl (by kernel_rfl) (fun c L a w => Sat c ⟨[(9, some (v2)), (16, some (v12)), (18, some (v15)), (20, some (v16)), (21, some (v17)), (24, some (vI (wi (got1 + (i32 y4))))), (25, some (vI i3)), (155, bif L 0 then some (vI i3) else none), (156, bif L 1 then some (v16) else none), (157, bif L 2 then some (vI (len delive1.1)) else none), (158, bif L 3 then some (vI (wi ((len delive1.1) - (1 : Int)))) else none)], [(some (rowS u8S v12 fill1) : Option Res), (some (rowS u8S v15 bytes1.1) : Option Res), (some (rowS u32S v16 delive1.1) : Option Res), (some (rowS u8S v17 image1) : Option Res)], [Fact.sl iS v2 sizes1]⟩ a w) [([], []), ([], [2, 3]), ([1], [3]), ([1, 2], [])] rfl (by kernel_rfl) ?_ (steps_cons ?_ (steps_cons ?_ (steps_cons ?_ (steps_cons ?_ (steps_nil))))) ?_
        ·intro a w hs
         exact hs.startF [155, 156, 157, 158] [0, 1, 2, 3] [0] rfl rfl rfl rfl
        ·intro L a w hv K Q hK
         have hs := hv
         refine wpOp_go rfl rfl hs (OpT_move rfl rfl rfl rfl) ?_
         rintro _ rfl a' w' hs'
         exact hK a' w' (hs'.putF (i := 7) rfl [0, 1, 2, 3] [0] rfl rfl rfl rfl)
        ·intro L a w hv K Q hK
         have hs := hv
         refine wpOp_go rfl rfl hs (OpT_move rfl rfl rfl rfl) ?_
         rintro _ rfl a' w' hs'
         exact hK a' w' (hs'.putF (i := 8) rfl [0, 1, 2, 3] [0] rfl rfl rfl rfl)
        ·intro L a w hv K Q hK
         have hs := hv
         refine wpOp_go rfl rfl hs (OpT_lenO rfl rfl rfl rfl Try.underlying43 (i := 2) rfl) ?_
         rintro _ rfl a' w' hs'
         exact hK a' w' (hs'.putF (i := 9) rfl [0, 1, 2, 3] [0] rfl rfl rfl rfl)
        ·intro L a w hv K Q hK
         have hs := hv
         refine wpOp_go rfl rfl hs (OpT_bin rfl rfl rfl rfl rfl (bin_sub_i (a := len delive1.1) (b := (1 : Int)))) ?_
         rintro _ rfl a' w' hs'
         exact hK a' w' (hs'.putF (i := 10) rfl [0, 1, 2, 3] [0] rfl rfl rfl rfl)
        ·intro L a w hL hv
         rw [allTrue hL] at hv
         have hs := hv
         refine (show TA _ _ _ 4 ⟨[(9, some (v2)), (16, some (v12)), (18, some (v15)), (20, some (v16)), (21, some (v17)), (24, some (vI (wi (got1 + (i32 y4))))), (25, some (vI i3)), (155, some (vI i3)), (158, some (vI (wi ((len delive1.1) - (1 : Int)))))], [some (rowS u8S v12 fill1), some (rowS u8S v15 bytes1.1), some (rowS u32S v16 delive1.1), some (rowS u8S v17 image1)], [Fact.sl iS v2 sizes1]⟩ from ?_) a w (hs.wkS [9, 16, 18, 20, 21, 24, 25, 155, 158] [0, 1, 2, 3] [0] rfl rfl rfl rfl)
         clear hs hL
         refine TA_step htb (by kernel_rfl) rfl rfl (OpT_bin rfl rfl rfl rfl rfl (bin_lss_i (a := i3) (b := wi ((len delive1.1) - (1 : Int))))) ?_
         refine TA_step htb (by kernel_rfl) rfl rfl (OpT_move rfl rfl rfl rfl) ?_
         refine TA_wkS (fr' := [(9, some (v2)), (16, some (v12)), (18, some (v15)), (20, some (v16)), (21, some (v17)), (24, some (vI (wi (got1 + (i32 y4))))), (25, some (vI i3)), (160, some (vB (decide (i3 < (wi ((len delive1.1) - (1 : Int)))))))]) (own' := [some (rowS u8S v12 fill1), some (rowS u8S v15 bytes1.1), some (rowS u32S v16 delive1.1), some (rowS u8S v17 image1)]) (shr' := [Fact.sl iS v2 sizes1]) [9, 16, 18, 20, 21, 24, 25, 160] [0, 1, 2, 3] [0] rfl rfl rfl rfl ?_
         rcases Bool.eq_false_or_eq_true (decide (i3 < (wi ((len delive1.1) - (1 : Int))))) with hg30 | hg30
         ·replace h := br_t hg30 h
          obtain ⟨y5, hx15, h⟩ := ob_e h
          obtain ⟨y6, hx16, h⟩ := ob_e h
          refine TA_seg (lo := 6) (hi := 15) htb rfl rfl (by kernel_rfl) (fun c L a w => ∃ (p4 : Value), Sat c ⟨[(9, some (v2)), (16, some (v12)), (18, some (v15)), (20, some (v16)), (21, some (v17)), (24, some (vI (wi (got1 + (i32 y4))))), (25, some (vI i3)), (160, some (vB (decide (i3 < (wi ((len delive1.1) - (1 : Int))))))), (161, bif L 6 then some (v16) else none), (162, bif L 7 then some (vI i3) else none), (163, bif L 8 then some (rowPtr v16 (Int.toNat i3 * 1)) else none), (164, bif L 9 then some (vU32 y5) else none), (165, bif L 10 then some (vI (i32 y5)) else none), (166, bif L 11 then some (v2) else none), (167, bif L 12 then some (vI i3) else none), (168, bif L 13 then some (p4) else none), (169, bif L 14 then some (vI y6) else none)], [(some (rowS u8S v12 fill1) : Option Res), (some (rowS u8S v15 bytes1.1) : Option Res), (some (rowS u32S v16 delive1.1) : Option Res), (some (rowS u8S v17 image1) : Option Res)], [Fact.sl iS v2 sizes1, (bif L 13 then Fact.pt iS p4 y6 else Fact.tt)]⟩ a w) [([], [8, 9, 10]), ([], [8, 9, 10]), ([6, 7], [9, 10]), ([6, 7, 8], [10]), ([6, 7, 8, 9], []), ([], [13, 14]), ([], [13, 14]), ([11, 12], [14]), ([11, 12, 13], [])] rfl (by kernel_rfl) ?_ (steps_cons ?_ (steps_cons ?_ (steps_cons ?_ (steps_cons ?_ (steps_cons ?_ (steps_cons ?_ (steps_cons ?_ (steps_cons ?_ (steps_cons ?_ (steps_nil)))))))))) ?_
          ·intro a w hs
           exact ⟨undef, hs.startF [161, 162, 163, 164, 165, 166, 167, 168, 169] [0, 1, 2, 3] [0, 1] rfl rfl rfl rfl⟩
          ·intro L a w hv K Q hK
           obtain ⟨p4, hs⟩ := hv
           refine wpOp_yes rfl rfl rfl hs (congrArg (fun b => some (Value.bool b)) hg30) (OpT_move rfl rfl rfl rfl) ?_
           rintro _ rfl a' w' hs'
           exact hK a' w' ⟨p4, hs'.putF (i := 8) rfl [0, 1, 2, 3] [0, 1] rfl rfl rfl rfl⟩
          ·intro L a w hv K Q hK
           obtain ⟨p4, hs⟩ := hv
           refine wpOp_yes rfl rfl rfl hs (congrArg (fun b => some (Value.bool b)) hg30) (OpT_move rfl rfl rfl rfl) ?_
           rintro _ rfl a' w' hs'
           exact hK a' w' ⟨p4, hs'.putF (i := 9) rfl [0, 1, 2, 3] [0, 1] rfl rfl rfl rfl⟩
          ·intro L a w hv K Q hK
           obtain ⟨p4, hs⟩ := hv
           refine wpOp_yes rfl rfl rfl hs (congrArg (fun b => some (Value.bool b)) hg30) (OpT_idxO rfl rfl rfl rfl rfl slF43 (i := 2) rfl hx15) ?_
           rintro _ rfl a' w' hs'
           exact hK a' w' ⟨p4, hs'.putF (i := 10) rfl [0, 1, 2, 3] [0, 1] rfl rfl rfl rfl⟩
          ·intro L a w hv K Q hK
           obtain ⟨p4, hs⟩ := hv
           refine wpOp_yes rfl rfl rfl hs (congrArg (fun b => some (Value.bool b)) hg30) (OpT_loadO (S := u32S) rfl rfl rfl rfl rfl tyF48 (i := 2) rfl hx15 rfl rfl) ?_
           rintro _ rfl a' w' hs'
           exact hK a' w' ⟨p4, hs'.putF (i := 11) rfl [0, 1, 2, 3] [0, 1] rfl rfl rfl rfl⟩
          ·intro L a w hv K Q hK
           obtain ⟨p4, hs⟩ := hv
           refine wpOp_yes rfl rfl rfl hs (congrArg (fun b => some (Value.bool b)) hg30) (OpT_cnv rfl rfl rfl rfl (cnv_u32_i (n := y5) Try.underlying48 Try.underlying3)) ?_
           rintro _ rfl a' w' hs'
           exact hK a' w' ⟨p4, hs'.putF (i := 12) rfl [0, 1, 2, 3] [0, 1] rfl rfl rfl rfl⟩
          ·intro L a w hv K Q hK
           obtain ⟨p4, hs⟩ := hv
           refine wpOp_yes rfl rfl rfl hs (congrArg (fun b => some (Value.bool b)) hg30) (OpT_move rfl rfl rfl rfl) ?_
           rintro _ rfl a' w' hs'
           exact hK a' w' ⟨p4, hs'.putF (i := 13) rfl [0, 1, 2, 3] [0, 1] rfl rfl rfl rfl⟩
          ·intro L a w hv K Q hK
           obtain ⟨p4, hs⟩ := hv
           refine wpOp_yes rfl rfl rfl hs (congrArg (fun b => some (Value.bool b)) hg30) (OpT_move rfl rfl rfl rfl) ?_
           rintro _ rfl a' w' hs'
           exact hK a' w' ⟨p4, hs'.putF (i := 14) rfl [0, 1, 2, 3] [0, 1] rfl rfl rfl rfl⟩
          ·intro L a w hv K Q hK
           obtain ⟨p4, hs⟩ := hv
           refine wpOp_yes rfl rfl rfl hs (congrArg (fun b => some (Value.bool b)) hg30) (OpT_idxS rfl rfl rfl rfl rfl slF27 (i := 0) rfl hx16) ?_
           rintro _ ⟨p4', rfl⟩ a' w' hs'
           exact hK a' w' ⟨p4', hs'.putF (i := 15) rfl [0, 1, 2, 3] [0, 2] rfl rfl rfl rfl⟩
          ·intro L a w hv K Q hK
           obtain ⟨p4, hs⟩ := hv
           refine wpOp_yes rfl rfl rfl hs (congrArg (fun b => some (Value.bool b)) hg30) (OpT_loadP rfl rfl rfl rfl tyF3 (i := 1) rfl rfl) ?_
           rintro _ rfl a' w' hs'
           exact hK a' w' ⟨p4, hs'.putF (i := 16) rfl [0, 1, 2, 3] [0, 1] rfl rfl rfl rfl⟩
          ·intro L a w hL hv
           rw [allTrue hL] at hv
           obtain ⟨p4, hs⟩ := hv
           refine (show TA _ _ _ 15 ⟨[(9, some (v2)), (16, some (v12)), (18, some (v15)), (20, some (v16)), (21, some (v17)), (24, some (vI (wi (got1 + (i32 y4))))), (25, some (vI i3)), (160, some (vB (decide (i3 < (wi ((len delive1.1) - (1 : Int))))))), (165, some (vI (i32 y5))), (169, some (vI y6))], [some (rowS u8S v12 fill1), some (rowS u8S v15 bytes1.1), some (rowS u32S v16 delive1.1), some (rowS u8S v17 image1)], [Fact.sl iS v2 sizes1]⟩ from ?_) a w (hs.wkS [9, 16, 18, 20, 21, 24, 25, 160, 165, 169] [0, 1, 2, 3] [0] rfl rfl rfl rfl)
           clear hs hL
           refine TA_yes htb (by kernel_rfl) rfl rfl rfl (congrArg (fun b => some (Value.bool b)) hg30) (OpT_bin rfl rfl rfl rfl rfl (bin_neq_i (a := i32 y5) (b := y6))) ?_
           rintro _ rfl
           refine TA_step htb (by kernel_rfl) rfl rfl (OpT_pickT rfl rfl rfl (congrArg (fun b => some (Value.bool b)) hg30) rfl) ?_
           refine TA_step htb (by kernel_rfl) rfl rfl (OpT_move rfl rfl rfl rfl) ?_
           refine TA_wkS (fr' := [(9, some (v2)), (16, some (v12)), (18, some (v15)), (20, some (v16)), (21, some (v17)), (24, some (vI (wi (got1 + (i32 y4))))), (25, some (vI i3)), (172, some (vB ((i32 y5) != y6)))]) (own' := [some (rowS u8S v12 fill1), some (rowS u8S v15 bytes1.1), some (rowS u32S v16 delive1.1), some (rowS u8S v17 image1)]) (shr' := [Fact.sl iS v2 sizes1]) [9, 16, 18, 20, 21, 24, 25, 172] [0, 1, 2, 3] [0] rfl rfl rfl rfl ?_
           obtain ⟨hg31, h⟩ := chk_e h
           replace hg31 := not_t hg31
           obtain ⟨y7, hx17, h⟩ := ob_e h
           obtain ⟨y8, hx18, h⟩ := ob_e h
           refine TA_seg (lo := 18) (hi := 27) htb rfl rfl (by kernel_rfl) (fun c L a w => ∃ (p5 : Value), Sat c ⟨[(9, some (v2)), (16, some (v12)), (18, some (v15)), (20, some (v16)), (21, some (v17)), (24, some (vI (wi (got1 + (i32 y4))))), (25, some (vI i3)), (172, some (vB ((i32 y5) != y6))), (173, bif L 18 then some (v16) else none), (174, bif L 19 then some (vI i3) else none), (175, bif L 20 then some (rowPtr v16 (Int.toNat i3 * 1)) else none), (176, bif L 21 then some (vU32 y7) else none), (177, bif L 22 then some (vI (i32 y7)) else none), (178, bif L 23 then some (v2) else none), (179, bif L 24 then some (vI i3) else none), (180, bif L 25 then some (p5) else none), (181, bif L 26 then some (vI y8) else none)], [(some (rowS u8S v12 fill1) : Option Res), (some (rowS u8S v15 bytes1.1) : Option Res), (some (rowS u32S v16 delive1.1) : Option Res), (some (rowS u8S v17 image1) : Option Res)], [Fact.sl iS v2 sizes1, (bif L 25 then Fact.pt iS p5 y8 else Fact.tt)]⟩ a w) [([], [20, 21, 22]), ([], [20, 21, 22]), ([18, 19], [21, 22]), ([18, 19, 20], [22]), ([18, 19, 20, 21], []), ([], [25, 26]), ([], [25, 26]), ([23, 24], [26]), ([23, 24, 25], [])] rfl (by kernel_rfl) ?_ (steps_cons ?_ (steps_cons ?_ (steps_cons ?_ (steps_cons ?_ (steps_cons ?_ (steps_cons ?_ (steps_cons ?_ (steps_cons ?_ (steps_cons ?_ (steps_nil)))))))))) ?_
           ·intro a w hs
            exact ⟨undef, hs.startF [173, 174, 175, 176, 177, 178, 179, 180, 181] [0, 1, 2, 3] [0, 1] rfl rfl rfl rfl⟩
           ·intro L a w hv K Q hK
            obtain ⟨p5, hs⟩ := hv
            refine wpOp_yes rfl rfl rfl hs (congrArg (fun b => some (Value.bool b)) hg31) (OpT_move rfl rfl rfl rfl) ?_
            rintro _ rfl a' w' hs'
            exact hK a' w' ⟨p5, hs'.putF (i := 8) rfl [0, 1, 2, 3] [0, 1] rfl rfl rfl rfl⟩
           ·intro L a w hv K Q hK
            obtain ⟨p5, hs⟩ := hv
            refine wpOp_yes rfl rfl rfl hs (congrArg (fun b => some (Value.bool b)) hg31) (OpT_move rfl rfl rfl rfl) ?_
            rintro _ rfl a' w' hs'
            exact hK a' w' ⟨p5, hs'.putF (i := 9) rfl [0, 1, 2, 3] [0, 1] rfl rfl rfl rfl⟩
           ·intro L a w hv K Q hK
            obtain ⟨p5, hs⟩ := hv
            refine wpOp_yes rfl rfl rfl hs (congrArg (fun b => some (Value.bool b)) hg31) (OpT_idxO rfl rfl rfl rfl rfl slF43 (i := 2) rfl hx17) ?_
            rintro _ rfl a' w' hs'
            exact hK a' w' ⟨p5, hs'.putF (i := 10) rfl [0, 1, 2, 3] [0, 1] rfl rfl rfl rfl⟩
           ·intro L a w hv K Q hK
            obtain ⟨p5, hs⟩ := hv
            refine wpOp_yes rfl rfl rfl hs (congrArg (fun b => some (Value.bool b)) hg31) (OpT_loadO (S := u32S) rfl rfl rfl rfl rfl tyF48 (i := 2) rfl hx17 rfl rfl) ?_
            rintro _ rfl a' w' hs'
            exact hK a' w' ⟨p5, hs'.putF (i := 11) rfl [0, 1, 2, 3] [0, 1] rfl rfl rfl rfl⟩
           ·intro L a w hv K Q hK
            obtain ⟨p5, hs⟩ := hv
            refine wpOp_yes rfl rfl rfl hs (congrArg (fun b => some (Value.bool b)) hg31) (OpT_cnv rfl rfl rfl rfl (cnv_u32_i (n := y7) Try.underlying48 Try.underlying3)) ?_
            rintro _ rfl a' w' hs'
            exact hK a' w' ⟨p5, hs'.putF (i := 12) rfl [0, 1, 2, 3] [0, 1] rfl rfl rfl rfl⟩
           ·intro L a w hv K Q hK
            obtain ⟨p5, hs⟩ := hv
            refine wpOp_yes rfl rfl rfl hs (congrArg (fun b => some (Value.bool b)) hg31) (OpT_move rfl rfl rfl rfl) ?_
            rintro _ rfl a' w' hs'
            exact hK a' w' ⟨p5, hs'.putF (i := 13) rfl [0, 1, 2, 3] [0, 1] rfl rfl rfl rfl⟩
           ·intro L a w hv K Q hK
            obtain ⟨p5, hs⟩ := hv
            refine wpOp_yes rfl rfl rfl hs (congrArg (fun b => some (Value.bool b)) hg31) (OpT_move rfl rfl rfl rfl) ?_
            rintro _ rfl a' w' hs'
            exact hK a' w' ⟨p5, hs'.putF (i := 14) rfl [0, 1, 2, 3] [0, 1] rfl rfl rfl rfl⟩
           ·intro L a w hv K Q hK
            obtain ⟨p5, hs⟩ := hv
            refine wpOp_yes rfl rfl rfl hs (congrArg (fun b => some (Value.bool b)) hg31) (OpT_idxS rfl rfl rfl rfl rfl slF27 (i := 0) rfl hx18) ?_
            rintro _ ⟨p5', rfl⟩ a' w' hs'
            exact hK a' w' ⟨p5', hs'.putF (i := 15) rfl [0, 1, 2, 3] [0, 2] rfl rfl rfl rfl⟩
           ·intro L a w hv K Q hK
            obtain ⟨p5, hs⟩ := hv
            refine wpOp_yes rfl rfl rfl hs (congrArg (fun b => some (Value.bool b)) hg31) (OpT_loadP rfl rfl rfl rfl tyF3 (i := 1) rfl rfl) ?_
            rintro _ rfl a' w' hs'
            exact hK a' w' ⟨p5, hs'.putF (i := 16) rfl [0, 1, 2, 3] [0, 1] rfl rfl rfl rfl⟩
           ·intro L a w hL hv
            rw [allTrue hL] at hv
            obtain ⟨p5, hs⟩ := hv
            refine (show TA _ _ _ 27 ⟨[(9, some (v2)), (16, some (v12)), (18, some (v15)), (20, some (v16)), (21, some (v17)), (24, some (vI (wi (got1 + (i32 y4))))), (25, some (vI i3)), (172, some (vB ((i32 y5) != y6))), (177, some (vI (i32 y7))), (181, some (vI y8))], [some (rowS u8S v12 fill1), some (rowS u8S v15 bytes1.1), some (rowS u32S v16 delive1.1), some (rowS u8S v17 image1)], [Fact.sl iS v2 sizes1]⟩ from ?_) a w (hs.wkS [9, 16, 18, 20, 21, 24, 25, 172, 177, 181] [0, 1, 2, 3] [0] rfl rfl rfl rfl)
            clear hs hL
            refine TA_yes htb (by kernel_rfl) rfl rfl rfl (congrArg (fun b => some (Value.bool b)) hg31) (OpT_bin rfl rfl rfl rfl rfl (bin_gtr_i (a := i32 y7) (b := y8))) ?_
            rintro _ rfl
            refine TA_step htb (by kernel_rfl) rfl rfl (OpT_pickF rfl rfl rfl (congrArg (fun b => some (Value.bool b)) hg31) rfl) ?_
            refine TA_step htb (by kernel_rfl) rfl rfl (OpT_move rfl rfl rfl rfl) ?_
            refine TA_wkS (fr' := [(9, some (v2)), (16, some (v12)), (18, some (v15)), (20, some (v16)), (21, some (v17)), (24, some (vI (wi (got1 + (i32 y4))))), (25, some (vI i3)), (184, some (vB (decide ((i32 y7) > y8))))]) (own' := [some (rowS u8S v12 fill1), some (rowS u8S v15 bytes1.1), some (rowS u32S v16 delive1.1), some (rowS u8S v17 image1)]) (shr' := [Fact.sl iS v2 sizes1]) [9, 16, 18, 20, 21, 24, 25, 184] [0, 1, 2, 3] [0] rfl rfl rfl rfl ?_
            obtain ⟨hg32, h⟩ := chk_e h
            replace hg32 := not_t hg32
            refine TA_seg (lo := 30) (hi := 32) htb rfl rfl (by kernel_rfl) (fun c L a w => Sat c ⟨[(9, some (v2)), (16, some (v12)), (18, some (v15)), (20, some (v16)), (21, some (v17)), (24, some (vI (wi (got1 + (i32 y4))))), (25, some (vI i3)), (184, some (vB (decide ((i32 y7) > y8)))), (185, bif L 30 then some (v16) else none), (186, bif L 31 then some (vI i3) else none)], [(some (rowS u8S v12 fill1) : Option Res), (some (rowS u8S v15 bytes1.1) : Option Res), (some (rowS u32S v16 delive1.1) : Option Res), (some (rowS u8S v17 image1) : Option Res)], [Fact.sl iS v2 sizes1]⟩ a w) [([], []), ([], [])] rfl (by kernel_rfl) ?_ (steps_cons ?_ (steps_cons ?_ (steps_nil))) ?_
            ·intro a w hs
             exact hs.startF [185, 186] [0, 1, 2, 3] [0] rfl rfl rfl rfl
            ·intro L a w hv K Q hK
             have hs := hv
             refine wpOp_yes rfl rfl rfl hs (congrArg (fun b => some (Value.bool b)) hg32) (OpT_move rfl rfl rfl rfl) ?_
             rintro _ rfl a' w' hs'
             exact hK a' w' (hs'.putF (i := 8) rfl [0, 1, 2, 3] [0] rfl rfl rfl rfl)
            ·intro L a w hv K Q hK
             have hs := hv
             refine wpOp_yes rfl rfl rfl hs (congrArg (fun b => some (Value.bool b)) hg32) (OpT_move rfl rfl rfl rfl) ?_
             rintro _ rfl a' w' hs'
             exact hK a' w' (hs'.putF (i := 9) rfl [0, 1, 2, 3] [0] rfl rfl rfl rfl)
            ·intro L a w hL hv
             rw [allTrue hL] at hv
             have hs := hv
             refine (show TA _ _ _ 32 ⟨[(9, some (v2)), (16, some (v12)), (18, some (v15)), (20, some (v16)), (21, some (v17)), (24, some (vI (wi (got1 + (i32 y4))))), (25, some (vI i3)), (184, some (vB (decide ((i32 y7) > y8)))), (185, some (v16)), (186, some (vI i3))], [some (rowS u8S v12 fill1), some (rowS u8S v15 bytes1.1), some (rowS u32S v16 delive1.1), some (rowS u8S v17 image1)], [Fact.sl iS v2 sizes1]⟩ from ?_) a w (hs.wkS [9, 16, 18, 20, 21, 24, 25, 184, 185, 186] [0, 1, 2, 3] [0] rfl rfl rfl rfl)
             clear hs hL
             obtain ⟨y9, hx19, h⟩ := ob_e h
             refine TA_yes htb (by kernel_rfl) rfl rfl rfl (congrArg (fun b => some (Value.bool b)) hg32) (OpT_idxO rfl rfl rfl rfl rfl slF43 (i := 2) rfl hx19) ?_
             rintro _ rfl
             refine TA_yes htb (by kernel_rfl) rfl rfl rfl (congrArg (fun b => some (Value.bool b)) hg32) (OpT_loadO (S := u32S) rfl rfl rfl rfl rfl tyF48 (i := 2) rfl hx19 rfl rfl) ?_
             rintro _ rfl
             refine TA_yes htb (by kernel_rfl) rfl rfl rfl (congrArg (fun b => some (Value.bool b)) hg32) (OpT_bin rfl rfl rfl rfl rfl (bin_eql_u32 (a := y9) (b := (0 : UInt32)))) ?_
             rintro _ rfl
             refine TA_step htb (by kernel_rfl) rfl rfl (OpT_pickF rfl rfl rfl (congrArg (fun b => some (Value.bool b)) hg32) rfl) ?_
             refine TA_end rfl ?_
             refine Tk_wkS (fr' := [(9, some (v2)), (16, some (v12)), (18, some (v15)), (20, some (v16)), (21, some (v17)), (24, some (vI (wi (got1 + (i32 y4))))), (25, some (vI i3)), (190, some (vB (y9 == (0 : UInt32))))]) (own' := [some (rowS u8S v12 fill1), some (rowS u8S v15 bytes1.1), some (rowS u32S v16 delive1.1), some (rowS u8S v17 image1)]) (shr' := [Fact.sl iS v2 sizes1]) [9, 16, 18, 20, 21, 24, 25, 190] [0, 1, 2, 3] [0] rfl rfl rfl rfl ?_
             obtain ⟨hg33, h⟩ := chk_e h
             replace hg33 := not_t hg33
             refine Tk_condF (congrArg (fun b => some (Value.bool b)) hg33) ?_
             refine Tk_skip (Tk_blk (Tk_region (Tops_step rfl (OpT_move rfl rfl rfl rfl) ?_)))
             refine Tops_step rfl (OpT_bin rfl rfl rfl rfl rfl (bin_add_i (a := i3) (b := (1 : Int)))) ?_
             refine Tops_step rfl (OpT_assign rfl rfl rfl rfl) ?_
             refine Tops_nil (Tk_wkS (fr' := [(9, some (v2)), (16, some (v12)), (18, some (v15)), (20, some (v16)), (21, some (v17)), (24, some (vI (wi (got1 + (i32 y4))))), (25, some (vI (wi (i3 + (1 : Int)))))]) (own' := [some (rowS u8S v12 fill1), some (rowS u8S v15 bytes1.1), some (rowS u32S v16 delive1.1), some (rowS u8S v17 image1)]) (shr' := [Fact.sl iS v2 sizes1]) [9, 16, 18, 20, 21, 24, 25] [0, 1, 2, 3] [0] rfl rfl rfl rfl ?_)
             exact Tk_backS (wi (got1 + (i32 y4)), wi (i3 + (1 : Int))) h [9, 16, 18, 20, 21, 24, 25] [0, 1, 2, 3] [0] rfl rfl rfl rfl rfl
         ·replace h := br_f hg30 h
          refine TA_seg (lo := 6) (hi := 15) htb rfl rfl (by kernel_rfl) (fun c L a w => Sat c ⟨[(9, some (v2)), (16, some (v12)), (18, some (v15)), (20, some (v16)), (21, some (v17)), (24, some (vI (wi (got1 + (i32 y4))))), (25, some (vI i3)), (160, some (vB (decide (i3 < (wi ((len delive1.1) - (1 : Int))))))), (161, bif L 6 then some (undef) else none), (162, bif L 7 then some (undef) else none), (163, bif L 8 then some (undef) else none), (164, bif L 9 then some (undef) else none), (165, bif L 10 then some (undef) else none), (166, bif L 11 then some (undef) else none), (167, bif L 12 then some (undef) else none), (168, bif L 13 then some (undef) else none), (169, bif L 14 then some (undef) else none)], [(some (rowS u8S v12 fill1) : Option Res), (some (rowS u8S v15 bytes1.1) : Option Res), (some (rowS u32S v16 delive1.1) : Option Res), (some (rowS u8S v17 image1) : Option Res)], [Fact.sl iS v2 sizes1]⟩ a w) [([], [8, 9, 10]), ([], [8, 9, 10]), ([6, 7], [9, 10]), ([6, 7, 8], [10]), ([6, 7, 8, 9], []), ([], [13, 14]), ([], [13, 14]), ([11, 12], [14]), ([11, 12, 13], [])] rfl (by kernel_rfl) ?_ (steps_cons ?_ (steps_cons ?_ (steps_cons ?_ (steps_cons ?_ (steps_cons ?_ (steps_cons ?_ (steps_cons ?_ (steps_cons ?_ (steps_cons ?_ (steps_nil)))))))))) ?_
          ·intro a w hs
           exact hs.startF [161, 162, 163, 164, 165, 166, 167, 168, 169] [0, 1, 2, 3] [0] rfl rfl rfl rfl
          ·intro L a w hv K Q hK
           have hs := hv
           refine wpOp_no rfl rfl rfl hs (congrArg (fun b => some (Value.bool b)) hg30) rfl rfl ?_
           intro a' w' hs'
           exact hK a' w' (hs'.putF (i := 8) rfl [0, 1, 2, 3] [0] rfl rfl rfl rfl)
          ·intro L a w hv K Q hK
           have hs := hv
           refine wpOp_no rfl rfl rfl hs (congrArg (fun b => some (Value.bool b)) hg30) rfl rfl ?_
           intro a' w' hs'
           exact hK a' w' (hs'.putF (i := 9) rfl [0, 1, 2, 3] [0] rfl rfl rfl rfl)
          ·intro L a w hv K Q hK
           have hs := hv
           refine wpOp_no rfl rfl rfl hs (congrArg (fun b => some (Value.bool b)) hg30) rfl rfl ?_
           intro a' w' hs'
           exact hK a' w' (hs'.putF (i := 10) rfl [0, 1, 2, 3] [0] rfl rfl rfl rfl)
          ·intro L a w hv K Q hK
           have hs := hv
           refine wpOp_no rfl rfl rfl hs (congrArg (fun b => some (Value.bool b)) hg30) rfl rfl ?_
           intro a' w' hs'
           exact hK a' w' (hs'.putF (i := 11) rfl [0, 1, 2, 3] [0] rfl rfl rfl rfl)
          ·intro L a w hv K Q hK
           have hs := hv
           refine wpOp_no rfl rfl rfl hs (congrArg (fun b => some (Value.bool b)) hg30) rfl rfl ?_
           intro a' w' hs'
           exact hK a' w' (hs'.putF (i := 12) rfl [0, 1, 2, 3] [0] rfl rfl rfl rfl)
          ·intro L a w hv K Q hK
           have hs := hv
           refine wpOp_no rfl rfl rfl hs (congrArg (fun b => some (Value.bool b)) hg30) rfl rfl ?_
           intro a' w' hs'
           exact hK a' w' (hs'.putF (i := 13) rfl [0, 1, 2, 3] [0] rfl rfl rfl rfl)
          ·intro L a w hv K Q hK
           have hs := hv
           refine wpOp_no rfl rfl rfl hs (congrArg (fun b => some (Value.bool b)) hg30) rfl rfl ?_
           intro a' w' hs'
           exact hK a' w' (hs'.putF (i := 14) rfl [0, 1, 2, 3] [0] rfl rfl rfl rfl)
          ·intro L a w hv K Q hK
           have hs := hv
           refine wpOp_no rfl rfl rfl hs (congrArg (fun b => some (Value.bool b)) hg30) rfl rfl ?_
           intro a' w' hs'
           exact hK a' w' (hs'.putF (i := 15) rfl [0, 1, 2, 3] [0] rfl rfl rfl rfl)
          ·intro L a w hv K Q hK
           have hs := hv
           refine wpOp_no rfl rfl rfl hs (congrArg (fun b => some (Value.bool b)) hg30) rfl rfl ?_
           intro a' w' hs'
           exact hK a' w' (hs'.putF (i := 16) rfl [0, 1, 2, 3] [0] rfl rfl rfl rfl)
          ·intro L a w hL hv
           rw [allTrue hL] at hv
           have hs := hv
           refine (show TA _ _ _ 15 ⟨[(9, some (v2)), (16, some (v12)), (18, some (v15)), (20, some (v16)), (21, some (v17)), (24, some (vI (wi (got1 + (i32 y4))))), (25, some (vI i3)), (160, some (vB (decide (i3 < (wi ((len delive1.1) - (1 : Int))))))), (165, some (undef)), (169, some (undef))], [some (rowS u8S v12 fill1), some (rowS u8S v15 bytes1.1), some (rowS u32S v16 delive1.1), some (rowS u8S v17 image1)], [Fact.sl iS v2 sizes1]⟩ from ?_) a w (hs.wkS [9, 16, 18, 20, 21, 24, 25, 160, 165, 169] [0, 1, 2, 3] [0] rfl rfl rfl rfl)
           clear hs hL
           refine TA_no htb (by kernel_rfl) rfl rfl rfl (congrArg (fun b => some (Value.bool b)) hg30) rfl rfl ?_
           refine TA_step htb (by kernel_rfl) rfl rfl (OpT_pickF rfl rfl rfl (congrArg (fun b => some (Value.bool b)) hg30) rfl) ?_
           refine TA_step htb (by kernel_rfl) rfl rfl (OpT_move rfl rfl rfl rfl) ?_
           refine TA_wkS (fr' := [(9, some (v2)), (16, some (v12)), (18, some (v15)), (20, some (v16)), (21, some (v17)), (24, some (vI (wi (got1 + (i32 y4))))), (25, some (vI i3)), (172, some (vB false))]) (own' := [some (rowS u8S v12 fill1), some (rowS u8S v15 bytes1.1), some (rowS u32S v16 delive1.1), some (rowS u8S v17 image1)]) (shr' := [Fact.sl iS v2 sizes1]) [9, 16, 18, 20, 21, 24, 25, 172] [0, 1, 2, 3] [0] rfl rfl rfl rfl ?_
           obtain ⟨y10, hx20, h⟩ := ob_e h
           obtain ⟨y11, hx21, h⟩ := ob_e h
           refine TA_seg (lo := 18) (hi := 27) htb rfl rfl (by kernel_rfl) (fun c L a w => ∃ (p6 : Value), Sat c ⟨[(9, some (v2)), (16, some (v12)), (18, some (v15)), (20, some (v16)), (21, some (v17)), (24, some (vI (wi (got1 + (i32 y4))))), (25, some (vI i3)), (172, some (vB false)), (173, bif L 18 then some (v16) else none), (174, bif L 19 then some (vI i3) else none), (175, bif L 20 then some (rowPtr v16 (Int.toNat i3 * 1)) else none), (176, bif L 21 then some (vU32 y10) else none), (177, bif L 22 then some (vI (i32 y10)) else none), (178, bif L 23 then some (v2) else none), (179, bif L 24 then some (vI i3) else none), (180, bif L 25 then some (p6) else none), (181, bif L 26 then some (vI y11) else none)], [(some (rowS u8S v12 fill1) : Option Res), (some (rowS u8S v15 bytes1.1) : Option Res), (some (rowS u32S v16 delive1.1) : Option Res), (some (rowS u8S v17 image1) : Option Res)], [Fact.sl iS v2 sizes1, (bif L 25 then Fact.pt iS p6 y11 else Fact.tt)]⟩ a w) [([], [20, 21, 22]), ([], [20, 21, 22]), ([18, 19], [21, 22]), ([18, 19, 20], [22]), ([18, 19, 20, 21], []), ([], [25, 26]), ([], [25, 26]), ([23, 24], [26]), ([23, 24, 25], [])] rfl (by kernel_rfl) ?_ (steps_cons ?_ (steps_cons ?_ (steps_cons ?_ (steps_cons ?_ (steps_cons ?_ (steps_cons ?_ (steps_cons ?_ (steps_cons ?_ (steps_cons ?_ (steps_nil)))))))))) ?_
           ·intro a w hs
            exact ⟨undef, hs.startF [173, 174, 175, 176, 177, 178, 179, 180, 181] [0, 1, 2, 3] [0, 1] rfl rfl rfl rfl⟩
           ·intro L a w hv K Q hK
            obtain ⟨p6, hs⟩ := hv
            refine wpOp_yes rfl rfl rfl hs rfl (OpT_move rfl rfl rfl rfl) ?_
            rintro _ rfl a' w' hs'
            exact hK a' w' ⟨p6, hs'.putF (i := 8) rfl [0, 1, 2, 3] [0, 1] rfl rfl rfl rfl⟩
           ·intro L a w hv K Q hK
            obtain ⟨p6, hs⟩ := hv
            refine wpOp_yes rfl rfl rfl hs rfl (OpT_move rfl rfl rfl rfl) ?_
            rintro _ rfl a' w' hs'
            exact hK a' w' ⟨p6, hs'.putF (i := 9) rfl [0, 1, 2, 3] [0, 1] rfl rfl rfl rfl⟩
           ·intro L a w hv K Q hK
            obtain ⟨p6, hs⟩ := hv
            refine wpOp_yes rfl rfl rfl hs rfl (OpT_idxO rfl rfl rfl rfl rfl slF43 (i := 2) rfl hx20) ?_
            rintro _ rfl a' w' hs'
            exact hK a' w' ⟨p6, hs'.putF (i := 10) rfl [0, 1, 2, 3] [0, 1] rfl rfl rfl rfl⟩
           ·intro L a w hv K Q hK
            obtain ⟨p6, hs⟩ := hv
            refine wpOp_yes rfl rfl rfl hs rfl (OpT_loadO (S := u32S) rfl rfl rfl rfl rfl tyF48 (i := 2) rfl hx20 rfl rfl) ?_
            rintro _ rfl a' w' hs'
            exact hK a' w' ⟨p6, hs'.putF (i := 11) rfl [0, 1, 2, 3] [0, 1] rfl rfl rfl rfl⟩
           ·intro L a w hv K Q hK
            obtain ⟨p6, hs⟩ := hv
            refine wpOp_yes rfl rfl rfl hs rfl (OpT_cnv rfl rfl rfl rfl (cnv_u32_i (n := y10) Try.underlying48 Try.underlying3)) ?_
            rintro _ rfl a' w' hs'
            exact hK a' w' ⟨p6, hs'.putF (i := 12) rfl [0, 1, 2, 3] [0, 1] rfl rfl rfl rfl⟩
           ·intro L a w hv K Q hK
            obtain ⟨p6, hs⟩ := hv
            refine wpOp_yes rfl rfl rfl hs rfl (OpT_move rfl rfl rfl rfl) ?_
            rintro _ rfl a' w' hs'
            exact hK a' w' ⟨p6, hs'.putF (i := 13) rfl [0, 1, 2, 3] [0, 1] rfl rfl rfl rfl⟩
           ·intro L a w hv K Q hK
            obtain ⟨p6, hs⟩ := hv
            refine wpOp_yes rfl rfl rfl hs rfl (OpT_move rfl rfl rfl rfl) ?_
            rintro _ rfl a' w' hs'
            exact hK a' w' ⟨p6, hs'.putF (i := 14) rfl [0, 1, 2, 3] [0, 1] rfl rfl rfl rfl⟩
           ·intro L a w hv K Q hK
            obtain ⟨p6, hs⟩ := hv
            refine wpOp_yes rfl rfl rfl hs rfl (OpT_idxS rfl rfl rfl rfl rfl slF27 (i := 0) rfl hx21) ?_
            rintro _ ⟨p6', rfl⟩ a' w' hs'
            exact hK a' w' ⟨p6', hs'.putF (i := 15) rfl [0, 1, 2, 3] [0, 2] rfl rfl rfl rfl⟩
           ·intro L a w hv K Q hK
            obtain ⟨p6, hs⟩ := hv
            refine wpOp_yes rfl rfl rfl hs rfl (OpT_loadP rfl rfl rfl rfl tyF3 (i := 1) rfl rfl) ?_
            rintro _ rfl a' w' hs'
            exact hK a' w' ⟨p6, hs'.putF (i := 16) rfl [0, 1, 2, 3] [0, 1] rfl rfl rfl rfl⟩
           ·intro L a w hL hv
            rw [allTrue hL] at hv
            obtain ⟨p6, hs⟩ := hv
            refine (show TA _ _ _ 27 ⟨[(9, some (v2)), (16, some (v12)), (18, some (v15)), (20, some (v16)), (21, some (v17)), (24, some (vI (wi (got1 + (i32 y4))))), (25, some (vI i3)), (172, some (vB false)), (177, some (vI (i32 y10))), (181, some (vI y11))], [some (rowS u8S v12 fill1), some (rowS u8S v15 bytes1.1), some (rowS u32S v16 delive1.1), some (rowS u8S v17 image1)], [Fact.sl iS v2 sizes1]⟩ from ?_) a w (hs.wkS [9, 16, 18, 20, 21, 24, 25, 172, 177, 181] [0, 1, 2, 3] [0] rfl rfl rfl rfl)
            clear hs hL
            refine TA_yes htb (by kernel_rfl) rfl rfl rfl rfl (OpT_bin rfl rfl rfl rfl rfl (bin_gtr_i (a := i32 y10) (b := y11))) ?_
            rintro _ rfl
            refine TA_step htb (by kernel_rfl) rfl rfl (OpT_pickF rfl rfl rfl rfl rfl) ?_
            refine TA_step htb (by kernel_rfl) rfl rfl (OpT_move rfl rfl rfl rfl) ?_
            refine TA_wkS (fr' := [(9, some (v2)), (16, some (v12)), (18, some (v15)), (20, some (v16)), (21, some (v17)), (24, some (vI (wi (got1 + (i32 y4))))), (25, some (vI i3)), (184, some (vB (decide ((i32 y10) > y11))))]) (own' := [some (rowS u8S v12 fill1), some (rowS u8S v15 bytes1.1), some (rowS u32S v16 delive1.1), some (rowS u8S v17 image1)]) (shr' := [Fact.sl iS v2 sizes1]) [9, 16, 18, 20, 21, 24, 25, 184] [0, 1, 2, 3] [0] rfl rfl rfl rfl ?_
            obtain ⟨hg34, h⟩ := chk_e h
            replace hg34 := not_t hg34
            refine TA_seg (lo := 30) (hi := 32) htb rfl rfl (by kernel_rfl) (fun c L a w => Sat c ⟨[(9, some (v2)), (16, some (v12)), (18, some (v15)), (20, some (v16)), (21, some (v17)), (24, some (vI (wi (got1 + (i32 y4))))), (25, some (vI i3)), (184, some (vB (decide ((i32 y10) > y11)))), (185, bif L 30 then some (v16) else none), (186, bif L 31 then some (vI i3) else none)], [(some (rowS u8S v12 fill1) : Option Res), (some (rowS u8S v15 bytes1.1) : Option Res), (some (rowS u32S v16 delive1.1) : Option Res), (some (rowS u8S v17 image1) : Option Res)], [Fact.sl iS v2 sizes1]⟩ a w) [([], []), ([], [])] rfl (by kernel_rfl) ?_ (steps_cons ?_ (steps_cons ?_ (steps_nil))) ?_
            ·intro a w hs
             exact hs.startF [185, 186] [0, 1, 2, 3] [0] rfl rfl rfl rfl
            ·intro L a w hv K Q hK
             have hs := hv
             refine wpOp_yes rfl rfl rfl hs (congrArg (fun b => some (Value.bool b)) hg34) (OpT_move rfl rfl rfl rfl) ?_
             rintro _ rfl a' w' hs'
             exact hK a' w' (hs'.putF (i := 8) rfl [0, 1, 2, 3] [0] rfl rfl rfl rfl)
            ·intro L a w hv K Q hK
             have hs := hv
             refine wpOp_yes rfl rfl rfl hs (congrArg (fun b => some (Value.bool b)) hg34) (OpT_move rfl rfl rfl rfl) ?_
             rintro _ rfl a' w' hs'
             exact hK a' w' (hs'.putF (i := 9) rfl [0, 1, 2, 3] [0] rfl rfl rfl rfl)
            ·intro L a w hL hv
             rw [allTrue hL] at hv
             have hs := hv
             refine (show TA _ _ _ 32 ⟨[(9, some (v2)), (16, some (v12)), (18, some (v15)), (20, some (v16)), (21, some (v17)), (24, some (vI (wi (got1 + (i32 y4))))), (25, some (vI i3)), (184, some (vB (decide ((i32 y10) > y11)))), (185, some (v16)), (186, some (vI i3))], [some (rowS u8S v12 fill1), some (rowS u8S v15 bytes1.1), some (rowS u32S v16 delive1.1), some (rowS u8S v17 image1)], [Fact.sl iS v2 sizes1]⟩ from ?_) a w (hs.wkS [9, 16, 18, 20, 21, 24, 25, 184, 185, 186] [0, 1, 2, 3] [0] rfl rfl rfl rfl)
             clear hs hL
             obtain ⟨y12, hx22, h⟩ := ob_e h
             refine TA_yes htb (by kernel_rfl) rfl rfl rfl (congrArg (fun b => some (Value.bool b)) hg34) (OpT_idxO rfl rfl rfl rfl rfl slF43 (i := 2) rfl hx22) ?_
             rintro _ rfl
             refine TA_yes htb (by kernel_rfl) rfl rfl rfl (congrArg (fun b => some (Value.bool b)) hg34) (OpT_loadO (S := u32S) rfl rfl rfl rfl rfl tyF48 (i := 2) rfl hx22 rfl rfl) ?_
             rintro _ rfl
             refine TA_yes htb (by kernel_rfl) rfl rfl rfl (congrArg (fun b => some (Value.bool b)) hg34) (OpT_bin rfl rfl rfl rfl rfl (bin_eql_u32 (a := y12) (b := (0 : UInt32)))) ?_
             rintro _ rfl
             refine TA_step htb (by kernel_rfl) rfl rfl (OpT_pickF rfl rfl rfl (congrArg (fun b => some (Value.bool b)) hg34) rfl) ?_
             refine TA_end rfl ?_
             refine Tk_wkS (fr' := [(9, some (v2)), (16, some (v12)), (18, some (v15)), (20, some (v16)), (21, some (v17)), (24, some (vI (wi (got1 + (i32 y4))))), (25, some (vI i3)), (190, some (vB (y12 == (0 : UInt32))))]) (own' := [some (rowS u8S v12 fill1), some (rowS u8S v15 bytes1.1), some (rowS u32S v16 delive1.1), some (rowS u8S v17 image1)]) (shr' := [Fact.sl iS v2 sizes1]) [9, 16, 18, 20, 21, 24, 25, 190] [0, 1, 2, 3] [0] rfl rfl rfl rfl ?_
             obtain ⟨hg35, h⟩ := chk_e h
             replace hg35 := not_t hg35
             refine Tk_condF (congrArg (fun b => some (Value.bool b)) hg35) ?_
             refine Tk_skip (Tk_blk (Tk_region (Tops_step rfl (OpT_move rfl rfl rfl rfl) ?_)))
             refine Tops_step rfl (OpT_bin rfl rfl rfl rfl rfl (bin_add_i (a := i3) (b := (1 : Int)))) ?_
             refine Tops_step rfl (OpT_assign rfl rfl rfl rfl) ?_
             refine Tops_nil (Tk_wkS (fr' := [(9, some (v2)), (16, some (v12)), (18, some (v15)), (20, some (v16)), (21, some (v17)), (24, some (vI (wi (got1 + (i32 y4))))), (25, some (vI (wi (i3 + (1 : Int)))))]) (own' := [some (rowS u8S v12 fill1), some (rowS u8S v15 bytes1.1), some (rowS u32S v16 delive1.1), some (rowS u8S v17 image1)]) (shr' := [Fact.sl iS v2 sizes1]) [9, 16, 18, 20, 21, 24, 25] [0, 1, 2, 3] [0] rfl rfl rfl rfl ?_)
             exact Tk_backS (wi (got1 + (i32 y4)), wi (i3 + (1 : Int))) h [9, 16, 18, 20, 21, 24, 25] [0, 1, 2, 3] [0] rfl rfl rfl rfl rfl
       ·replace h := br_f hg29 h
        refine Tk_condF (congrArg (fun b => some (Value.bool b)) hg29) ?_
        refine Tk_exit _ rfl ?_
        refine Tk_seq (Tk_region (Tops_step rfl (OpT_move rfl rfl rfl rfl) ?_))
        obtain ⟨hc3, h⟩ := chk_e h
        refine Tops_step rfl (OpT_subLH (S := u8S) (l := (100 : Int)) (m := (112 : Int)) rfl rfl rfl rfl rfl rfl slF24 (i := 3) rfl hc3) ?_
        obtain ⟨readhd1, hx23, h⟩ := ob_e h
        refine Tops_exP rfl (OpT_callB [3] [0, 1, 2, 3] (w_ref_ReadHdr23 hx23) [] rfl rfl rfl rfl rfl callee17 rfl rfl rfl rfl rfl rfl (bor_cons (bor_sub (S := u8S) (l := (100 : Int)) (m := (112 : Int)) 3 rfl rfl hc3) bor_nil) (by rintro _ _ _ ⟨rfl, rfl, rfl⟩; exact ⟨rfl, ri_nil⟩)) ?_
        rintro _ ⟨_, _, _, ⟨rfl, rfl, rfl⟩, rfl⟩
        refine Tops_step rfl (OpT_move rfl rfl rfl rfl) ?_
        refine Tops_step rfl (OpT_extract rfl rfl rfl rfl rfl) ?_
        refine Tops_step rfl (OpT_extract rfl rfl rfl rfl rfl) ?_
        refine Tops_ex rfl (OpT_alloc rfl rfl rfl tyZ50) fun b3 => ?_
        refine Tops_step rfl (OpT_storeC (cs' := [vU8 readhd1.1.Flags, vU16 readhd1.1.Start, vU16 readhd1.1.Off, vU16 readhd1.1.Buffers]) rfl rfl rfl rfl tyF50 (i := 4) rfl rfl rfl (one_of rfl) rfl) ?_
        refine Tops_step rfl (OpT_assign rfl rfl rfl rfl) ?_
        refine Tops_nil (Tk_wkS (fr' := [(16, some (v12)), (18, some (v15)), (20, some (v16)), (21, some (v17)), (24, some (vI got1)), (26, some (.pointer (some ⟨b3, 0, none⟩))), (15, some (vI readhd1.2))]) (own' := [some (rowS u8S v12 fill1), some (rowS u8S v15 bytes1.1), some (rowS u32S v16 delive1.1), some (rowS u8S v17 image1), some (cellsR b3 50 [vU8 readhd1.1.Flags, vU16 readhd1.1.Start, vU16 readhd1.1.Off, vU16 readhd1.1.Buffers])]) (shr' := []) [16, 18, 20, 21, 24, 26, 15] [0, 1, 2, 3, 4] [] rfl rfl rfl rfl ?_)
        refine Tk_seq (Tk_seq (Tk_drawT (by kernel_rfl) ?_))
        refine TA_tb [0, 1, 3, 7, 15, 31, 7, 71, 255, 511, 1023, 2047, 2047, 6143, 14335, 32767, 65535, 131071, 262143, 262143, 786431, 2097151, 4194303, 262143, 8650751, 33554431, 67108863] (by kernel_rfl) fun htb => ?_
        refine TA_step htb (by kernel_rfl) rfl rfl (OpT_move rfl rfl rfl rfl) ?_
        refine TA_step htb (by kernel_rfl) rfl rfl (OpT_bin rfl rfl rfl rfl rfl (bin_neq_i (a := readhd1.2) (b := (0 : Int)))) ?_
        refine TA_step htb (by kernel_rfl) rfl rfl (OpT_move rfl rfl rfl rfl) ?_
        refine TA_wkS (fr' := [(16, some (v12)), (18, some (v15)), (20, some (v16)), (21, some (v17)), (24, some (vI got1)), (26, some (.pointer (some ⟨b3, 0, none⟩))), (199, some (vB (readhd1.2 != (0 : Int))))]) (own' := [some (rowS u8S v12 fill1), some (rowS u8S v15 bytes1.1), some (rowS u32S v16 delive1.1), some (rowS u8S v17 image1), some (cellsR b3 50 [vU8 readhd1.1.Flags, vU16 readhd1.1.Start, vU16 readhd1.1.Off, vU16 readhd1.1.Buffers])]) (shr' := []) [16, 18, 20, 21, 24, 26, 199] [0, 1, 2, 3, 4] [] rfl rfl rfl rfl ?_
        obtain ⟨hg36, h⟩ := chk_e h
        replace hg36 := not_t hg36
        refine TA_seg (lo := 3) (hi := 8) htb rfl rfl (by kernel_rfl) (fun c L a w => Sat c ⟨[(16, some (v12)), (18, some (v15)), (20, some (v16)), (21, some (v17)), (24, some (vI got1)), (26, some (.pointer (some ⟨b3, 0, none⟩))), (199, some (vB (readhd1.2 != (0 : Int)))), (200, bif L 3 then some (.pointer (some ⟨b3, 3, none⟩)) else none), (201, bif L 4 then some (vU16 readhd1.1.Buffers) else none), (202, bif L 5 then some (vI (i16 readhd1.1.Buffers)) else none), (203, bif L 6 then some (v16) else none), (204, bif L 7 then some (vI (len delive1.1)) else none)], [(some (rowS u8S v12 fill1) : Option Res), (some (rowS u8S v15 bytes1.1) : Option Res), (some (rowS u32S v16 delive1.1) : Option Res), (some (rowS u8S v17 image1) : Option Res), (some (cellsR b3 50 [vU8 readhd1.1.Flags, vU16 readhd1.1.Start, vU16 readhd1.1.Off, vU16 readhd1.1.Buffers]) : Option Res)], []⟩ a w) [([], [4, 5]), ([3], [5]), ([3, 4], []), ([], [7]), ([6], [])] rfl (by kernel_rfl) ?_ (steps_cons ?_ (steps_cons ?_ (steps_cons ?_ (steps_cons ?_ (steps_cons ?_ (steps_nil)))))) ?_
        ·intro a w hs
         exact hs.startF [200, 201, 202, 203, 204] [0, 1, 2, 3, 4] [] rfl rfl rfl rfl
        ·intro L a w hv K Q hK
         have hs := hv
         refine wpOp_yes rfl rfl rfl hs (congrArg (fun b => some (Value.bool b)) hg36) (OpT_fieldC rfl rfl rfl rfl fldF50x3) ?_
         rintro _ rfl a' w' hs'
         exact hK a' w' (hs'.putF (i := 7) rfl [0, 1, 2, 3, 4] [] rfl rfl rfl rfl)
        ·intro L a w hv K Q hK
         have hs := hv
         refine wpOp_yes rfl rfl rfl hs (congrArg (fun b => some (Value.bool b)) hg36) (OpT_loadC rfl rfl rfl rfl tyF23 (i := 4) rfl rfl) ?_
         rintro _ rfl a' w' hs'
         exact hK a' w' (hs'.putF (i := 8) rfl [0, 1, 2, 3, 4] [] rfl rfl rfl rfl)
        ·intro L a w hv K Q hK
         have hs := hv
         refine wpOp_yes rfl rfl rfl hs (congrArg (fun b => some (Value.bool b)) hg36) (OpT_cnv rfl rfl rfl rfl (cnv_u16_i (n := readhd1.1.Buffers) Try.underlying23 Try.underlying3)) ?_
         rintro _ rfl a' w' hs'
         exact hK a' w' (hs'.putF (i := 9) rfl [0, 1, 2, 3, 4] [] rfl rfl rfl rfl)
        ·intro L a w hv K Q hK
         have hs := hv
         refine wpOp_yes rfl rfl rfl hs (congrArg (fun b => some (Value.bool b)) hg36) (OpT_move rfl rfl rfl rfl) ?_
         rintro _ rfl a' w' hs'
         exact hK a' w' (hs'.putF (i := 10) rfl [0, 1, 2, 3, 4] [] rfl rfl rfl rfl)
        ·intro L a w hv K Q hK
         have hs := hv
         refine wpOp_yes rfl rfl rfl hs (congrArg (fun b => some (Value.bool b)) hg36) (OpT_lenO rfl rfl rfl rfl Try.underlying43 (i := 2) rfl) ?_
         rintro _ rfl a' w' hs'
         exact hK a' w' (hs'.putF (i := 11) rfl [0, 1, 2, 3, 4] [] rfl rfl rfl rfl)
        ·intro L a w hL hv
         rw [allTrue hL] at hv
         have hs := hv
         refine (show TA _ _ _ 8 ⟨[(16, some (v12)), (18, some (v15)), (21, some (v17)), (24, some (vI got1)), (199, some (vB (readhd1.2 != (0 : Int)))), (202, some (vI (i16 readhd1.1.Buffers))), (204, some (vI (len delive1.1)))], [some (rowS u8S v12 fill1), some (rowS u8S v15 bytes1.1), some (rowS u8S v17 image1)], []⟩ from ?_) a w (hs.wkS [16, 18, 21, 24, 199, 202, 204] [0, 1, 3] [] rfl rfl rfl rfl)
         clear hs hL
         refine TA_yes htb (by kernel_rfl) rfl rfl rfl (congrArg (fun b => some (Value.bool b)) hg36) (OpT_bin rfl rfl rfl rfl rfl (bin_neq_i (a := i16 readhd1.1.Buffers) (b := len delive1.1))) ?_
         rintro _ rfl
         refine TA_step htb (by kernel_rfl) rfl rfl (OpT_pickF rfl rfl rfl (congrArg (fun b => some (Value.bool b)) hg36) rfl) ?_
         refine TA_step htb (by kernel_rfl) rfl rfl (OpT_move rfl rfl rfl rfl) ?_
         refine TA_wkS (fr' := [(16, some (v12)), (18, some (v15)), (21, some (v17)), (24, some (vI got1)), (207, some (vB ((i16 readhd1.1.Buffers) != (len delive1.1))))]) (own' := [some (rowS u8S v12 fill1), some (rowS u8S v15 bytes1.1), some (rowS u8S v17 image1)]) (shr' := []) [16, 18, 21, 24, 207] [0, 1, 2] [] rfl rfl rfl rfl ?_
         obtain ⟨hg37, h⟩ := chk_e h
         replace hg37 := not_t hg37
         refine TA_seg (lo := 11) (hi := 15) htb rfl rfl (by kernel_rfl) (fun c L a w => Sat c ⟨[(16, some (v12)), (18, some (v15)), (21, some (v17)), (24, some (vI got1)), (207, some (vB ((i16 readhd1.1.Buffers) != (len delive1.1)))), (208, bif L 11 then some (vI got1) else none), (209, bif L 12 then some (v15) else none), (210, bif L 13 then some (vI (len bytes1.1)) else none), (211, bif L 14 then some (vI (wi ((12 : Int) + (len bytes1.1)))) else none)], [(some (rowS u8S v12 fill1) : Option Res), (some (rowS u8S v15 bytes1.1) : Option Res), (some (rowS u8S v17 image1) : Option Res)], []⟩ a w) [([], []), ([], [13, 14]), ([12], [14]), ([12, 13], [])] rfl (by kernel_rfl) ?_ (steps_cons ?_ (steps_cons ?_ (steps_cons ?_ (steps_cons ?_ (steps_nil))))) ?_
         ·intro a w hs
          exact hs.startF [208, 209, 210, 211] [0, 1, 2] [] rfl rfl rfl rfl
         ·intro L a w hv K Q hK
          have hs := hv
          refine wpOp_yes rfl rfl rfl hs (congrArg (fun b => some (Value.bool b)) hg37) (OpT_move rfl rfl rfl rfl) ?_
          rintro _ rfl a' w' hs'
          exact hK a' w' (hs'.putF (i := 5) rfl [0, 1, 2] [] rfl rfl rfl rfl)
         ·intro L a w hv K Q hK
          have hs := hv
          refine wpOp_yes rfl rfl rfl hs (congrArg (fun b => some (Value.bool b)) hg37) (OpT_move rfl rfl rfl rfl) ?_
          rintro _ rfl a' w' hs'
          exact hK a' w' (hs'.putF (i := 6) rfl [0, 1, 2] [] rfl rfl rfl rfl)
         ·intro L a w hv K Q hK
          have hs := hv
          refine wpOp_yes rfl rfl rfl hs (congrArg (fun b => some (Value.bool b)) hg37) (OpT_lenO rfl rfl rfl rfl Try.underlying24 (i := 1) rfl) ?_
          rintro _ rfl a' w' hs'
          exact hK a' w' (hs'.putF (i := 7) rfl [0, 1, 2] [] rfl rfl rfl rfl)
         ·intro L a w hv K Q hK
          have hs := hv
          refine wpOp_yes rfl rfl rfl hs (congrArg (fun b => some (Value.bool b)) hg37) (OpT_bin rfl rfl rfl rfl rfl (bin_add_i (a := (12 : Int)) (b := len bytes1.1))) ?_
          rintro _ rfl a' w' hs'
          exact hK a' w' (hs'.putF (i := 8) rfl [0, 1, 2] [] rfl rfl rfl rfl)
         ·intro L a w hL hv
          rw [allTrue hL] at hv
          have hs := hv
          refine (show TA _ _ _ 15 ⟨[(16, some (v12)), (18, some (v15)), (21, some (v17)), (24, some (vI got1)), (207, some (vB ((i16 readhd1.1.Buffers) != (len delive1.1)))), (208, some (vI got1)), (211, some (vI (wi ((12 : Int) + (len bytes1.1)))))], [some (rowS u8S v12 fill1), some (rowS u8S v15 bytes1.1), some (rowS u8S v17 image1)], []⟩ from ?_) a w (hs.wkS [16, 18, 21, 24, 207, 208, 211] [0, 1, 2] [] rfl rfl rfl rfl)
          clear hs hL
          refine TA_yes htb (by kernel_rfl) rfl rfl rfl (congrArg (fun b => some (Value.bool b)) hg37) (OpT_bin rfl rfl rfl rfl rfl (bin_neq_i (a := got1) (b := wi ((12 : Int) + (len bytes1.1))))) ?_
          rintro _ rfl
          refine TA_step htb (by kernel_rfl) rfl rfl (OpT_pickF rfl rfl rfl (congrArg (fun b => some (Value.bool b)) hg37) rfl) ?_
          refine TA_step htb (by kernel_rfl) rfl rfl (OpT_move rfl rfl rfl rfl) ?_
          refine TA_wkS (fr' := [(16, some (v12)), (18, some (v15)), (21, some (v17)), (24, some (vI got1)), (214, some (vB (got1 != (wi ((12 : Int) + (len bytes1.1))))))]) (own' := [some (rowS u8S v12 fill1), some (rowS u8S v15 bytes1.1), some (rowS u8S v17 image1)]) (shr' := []) [16, 18, 21, 24, 214] [0, 1, 2] [] rfl rfl rfl rfl ?_
          refine TA_retire (i := 2) rfl ?_
          refine TA_retire (i := 1) rfl ?_
          obtain ⟨hg38, h⟩ := chk_e h
          replace hg38 := not_t hg38
          obtain ⟨hc4, h⟩ := chk_e h
          refine TA_seg (lo := 18) (hi := 25) htb rfl rfl (by kernel_rfl) (fun c L a w => ∃ (v18 : Value), Sat c ⟨[(16, some (v12)), (18, some (v15)), (21, some (v17)), (24, some (vI got1)), (214, some (vB (got1 != (wi ((12 : Int) + (len bytes1.1)))))), (215, bif L 18 then some (v17) else none), (216, bif L 19 then some (vI got1) else none), (217, bif L 20 then some (vI (wi ((100 : Int) + got1))) else none), (218, bif L 21 then some (v18) else none), (219, bif L 22 then some (vS (sub image1 (112 : Int) (wi ((100 : Int) + got1)))) else none), (220, bif L 23 then some (v15) else none), (221, bif L 24 then some (vS bytes1.1) else none)], [(some (rowS u8S v12 fill1) : Option Res), (none : Option Res), (none : Option Res)], [Fact.sl u8S v17 image1, Fact.sl u8S v15 bytes1.1, (bif L 21 then Fact.sl u8S v18 (sub image1 (112 : Int) (wi ((100 : Int) + got1))) else Fact.tt)]⟩ a w) [([], [21, 22]), ([], [20, 21, 22]), ([19], [21, 22]), ([18, 19, 20], [22]), ([18, 19, 20, 21], []), ([], [24]), ([23], [])] rfl (by kernel_rfl) ?_ (steps_cons ?_ (steps_cons ?_ (steps_cons ?_ (steps_cons ?_ (steps_cons ?_ (steps_cons ?_ (steps_cons ?_ (steps_nil)))))))) ?_
          ·intro a w hs
           exact ⟨undef, hs.startF [215, 216, 217, 218, 219, 220, 221] [0, 1, 2] [0, 1, 2] rfl rfl rfl rfl⟩
          ·intro L a w hv K Q hK
           obtain ⟨v18, hs⟩ := hv
           refine wpOp_yes rfl rfl rfl hs (congrArg (fun b => some (Value.bool b)) hg38) (OpT_move rfl rfl rfl rfl) ?_
           rintro _ rfl a' w' hs'
           exact hK a' w' ⟨v18, hs'.putF (i := 5) rfl [0, 1, 2] [0, 1, 2] rfl rfl rfl rfl⟩
          ·intro L a w hv K Q hK
           obtain ⟨v18, hs⟩ := hv
           refine wpOp_yes rfl rfl rfl hs (congrArg (fun b => some (Value.bool b)) hg38) (OpT_move rfl rfl rfl rfl) ?_
           rintro _ rfl a' w' hs'
           exact hK a' w' ⟨v18, hs'.putF (i := 6) rfl [0, 1, 2] [0, 1, 2] rfl rfl rfl rfl⟩
          ·intro L a w hv K Q hK
           obtain ⟨v18, hs⟩ := hv
           refine wpOp_yes rfl rfl rfl hs (congrArg (fun b => some (Value.bool b)) hg38) (OpT_bin rfl rfl rfl rfl rfl (bin_add_i (a := (100 : Int)) (b := got1))) ?_
           rintro _ rfl a' w' hs'
           exact hK a' w' ⟨v18, hs'.putF (i := 7) rfl [0, 1, 2] [0, 1, 2] rfl rfl rfl rfl⟩
          ·intro L a w hv K Q hK
           obtain ⟨v18, hs⟩ := hv
           refine wpOp_yes rfl rfl rfl hs (congrArg (fun b => some (Value.bool b)) hg38) (OpT_sliceLH (l := (112 : Int)) (m := wi ((100 : Int) + got1)) rfl rfl rfl rfl rfl rfl slF24 (i := 0) rfl hc4) ?_
           rintro _ ⟨v18', rfl⟩ a' w' hs'
           exact hK a' w' ⟨v18', hs'.putF (i := 8) rfl [0, 1, 2] [0, 1, 3] rfl rfl rfl rfl⟩
          ·intro L a w hv K Q hK
           obtain ⟨v18, hs⟩ := hv
           refine wpOp_yes rfl rfl rfl hs (congrArg (fun b => some (Value.bool b)) hg38) (OpT_strS rfl rfl rfl rfl Try.underlying24 Try.underlying5 Try.underlying9 (i := 2) rfl) ?_
           rintro _ rfl a' w' hs'
           exact hK a' w' ⟨v18, hs'.putF (i := 9) rfl [0, 1, 2] [0, 1, 2] rfl rfl rfl rfl⟩
          ·intro L a w hv K Q hK
           obtain ⟨v18, hs⟩ := hv
           refine wpOp_yes rfl rfl rfl hs (congrArg (fun b => some (Value.bool b)) hg38) (OpT_move rfl rfl rfl rfl) ?_
           rintro _ rfl a' w' hs'
           exact hK a' w' ⟨v18, hs'.putF (i := 10) rfl [0, 1, 2] [0, 1, 2] rfl rfl rfl rfl⟩
          ·intro L a w hv K Q hK
           obtain ⟨v18, hs⟩ := hv
           refine wpOp_yes rfl rfl rfl hs (congrArg (fun b => some (Value.bool b)) hg38) (OpT_strS rfl rfl rfl rfl Try.underlying24 Try.underlying5 Try.underlying9 (i := 1) rfl) ?_
           rintro _ rfl a' w' hs'
           exact hK a' w' ⟨v18, hs'.putF (i := 11) rfl [0, 1, 2] [0, 1, 2] rfl rfl rfl rfl⟩
          ·intro L a w hL hv
           rw [allTrue hL] at hv
           obtain ⟨v18, hs⟩ := hv
           refine (show TA _ _ _ 25 ⟨[(16, some (v12)), (21, some (v17)), (24, some (vI got1)), (214, some (vB (got1 != (wi ((12 : Int) + (len bytes1.1)))))), (219, some (vS (sub image1 (112 : Int) (wi ((100 : Int) + got1))))), (221, some (vS bytes1.1))], [some (rowS u8S v12 fill1)], [Fact.sl u8S v17 image1]⟩ from ?_) a w (hs.wkS [16, 21, 24, 214, 219, 221] [0] [0] rfl rfl rfl rfl)
           clear hs hL
           refine TA_yes htb (by kernel_rfl) rfl rfl rfl (congrArg (fun b => some (Value.bool b)) hg38) (OpT_bin rfl rfl rfl rfl rfl (bin_neq_s (a := sub image1 (112 : Int) (wi ((100 : Int) + got1))) (b := bytes1.1))) ?_
           rintro _ rfl
           refine TA_step htb (by kernel_rfl) rfl rfl (OpT_pickF rfl rfl rfl (congrArg (fun b => some (Value.bool b)) hg38) rfl) ?_
           refine TA_end rfl ?_
           refine Tk_wkS (fr' := [(16, some (v12)), (21, some (v17)), (24, some (vI got1)), (223, some (vB ((sub image1 (112 : Int) (wi ((100 : Int) + got1))) != bytes1.1)))]) (own' := [some (rowS u8S v12 fill1)]) (shr' := [Fact.sl u8S v17 image1]) [16, 21, 24, 223] [0] [0] rfl rfl rfl rfl ?_
           obtain ⟨hg39, h⟩ := chk_e h
           replace hg39 := not_t hg39
           refine Tk_condF (congrArg (fun b => some (Value.bool b)) hg39) ?_
           refine Tk_skip (Tk_seq (Tk_drawT (by kernel_rfl) ?_))
           refine TA_tb [0, 1, 3, 0, 8, 24, 63, 127, 255, 255, 767, 2047, 4095, 255, 255, 16639, 57599, 123135, 262143, 524287, 1048575] (by kernel_rfl) fun htb => ?_
           refine TA_wkS (fr' := [(16, some (v12)), (21, some (v17)), (24, some (vI got1))]) (own' := [some (rowS u8S v12 fill1)]) (shr' := [Fact.sl u8S v17 image1]) [16, 21, 24] [0] [0] rfl rfl rfl rfl ?_
           refine TA_retire (i := 0) rfl ?_
           obtain ⟨hc5, h⟩ := chk_e h
           obtain ⟨hc6, h⟩ := chk_e h
           refine TA_seg (lo := 0) (hi := 6) htb rfl rfl (by kernel_rfl) (fun c L a w => ∃ (v19 : Value), ∃ (v20 : Value), Sat c ⟨[(16, some (v12)), (21, some (v17)), (24, some (vI got1)), (224, bif L 0 then some (v17) else none), (225, bif L 1 then some (v19) else none), (226, bif L 2 then some (vS (sub image1 (0 : Int) (100 : Int))) else none), (227, bif L 3 then some (v12) else none), (228, bif L 4 then some (v20) else none), (229, bif L 5 then some (vS (sub fill1 (0 : Int) (100 : Int))) else none)], [(none : Option Res)], [Fact.sl u8S v17 image1, Fact.sl u8S v12 fill1, (bif L 1 then Fact.sl u8S v19 (sub image1 (0 : Int) (100 : Int)) else Fact.tt), (bif L 4 then Fact.sl u8S v20 (sub fill1 (0 : Int) (100 : Int)) else Fact.tt)]⟩ a w) [([], [1, 2]), ([0], [2]), ([0, 1], []), ([], [4, 5]), ([3], [5]), ([3, 4], [])] rfl (by kernel_rfl) ?_ (steps_cons ?_ (steps_cons ?_ (steps_cons ?_ (steps_cons ?_ (steps_cons ?_ (steps_cons ?_ (steps_nil))))))) ?_
           ·intro a w hs
            exact ⟨undef, undef, hs.startF [224, 225, 226, 227, 228, 229] [0] [0, 1, 2, 3] rfl rfl rfl rfl⟩
           ·intro L a w hv K Q hK
            obtain ⟨v19, v20, hs⟩ := hv
            refine wpOp_go rfl rfl hs (OpT_move rfl rfl rfl rfl) ?_
            rintro _ rfl a' w' hs'
            exact hK a' w' ⟨v19, v20, hs'.putF (i := 3) rfl [0] [0, 1, 2, 3] rfl rfl rfl rfl⟩
           ·intro L a w hv K Q hK
            obtain ⟨v19, v20, hs⟩ := hv
            refine wpOp_go rfl rfl hs (OpT_sliceH (m := (100 : Int)) rfl rfl rfl rfl rfl slF24 (i := 0) rfl hc5) ?_
            rintro _ ⟨v19', rfl⟩ a' w' hs'
            exact hK a' w' ⟨v19', v20, hs'.putF (i := 4) rfl [0] [0, 1, 4, 3] rfl rfl rfl rfl⟩
           ·intro L a w hv K Q hK
            obtain ⟨v19, v20, hs⟩ := hv
            refine wpOp_go rfl rfl hs (OpT_strS rfl rfl rfl rfl Try.underlying24 Try.underlying5 Try.underlying9 (i := 2) rfl) ?_
            rintro _ rfl a' w' hs'
            exact hK a' w' ⟨v19, v20, hs'.putF (i := 5) rfl [0] [0, 1, 2, 3] rfl rfl rfl rfl⟩
           ·intro L a w hv K Q hK
            obtain ⟨v19, v20, hs⟩ := hv
            refine wpOp_go rfl rfl hs (OpT_move rfl rfl rfl rfl) ?_
            rintro _ rfl a' w' hs'
            exact hK a' w' ⟨v19, v20, hs'.putF (i := 6) rfl [0] [0, 1, 2, 3] rfl rfl rfl rfl⟩
           ·intro L a w hv K Q hK
            obtain ⟨v19, v20, hs⟩ := hv
            refine wpOp_go rfl rfl hs (OpT_sliceH (m := (100 : Int)) rfl rfl rfl rfl rfl slF24 (i := 1) rfl hc6) ?_
            rintro _ ⟨v20', rfl⟩ a' w' hs'
            exact hK a' w' ⟨v19, v20', hs'.putF (i := 7) rfl [0] [0, 1, 2, 4] rfl rfl rfl rfl⟩
           ·intro L a w hv K Q hK
            obtain ⟨v19, v20, hs⟩ := hv
            refine wpOp_go rfl rfl hs (OpT_strS rfl rfl rfl rfl Try.underlying24 Try.underlying5 Try.underlying9 (i := 3) rfl) ?_
            rintro _ rfl a' w' hs'
            exact hK a' w' ⟨v19, v20, hs'.putF (i := 8) rfl [0] [0, 1, 2, 3] rfl rfl rfl rfl⟩
           ·intro L a w hL hv
            rw [allTrue hL] at hv
            obtain ⟨v19, v20, hs⟩ := hv
            refine (show TA _ _ _ 6 ⟨[(16, some (v12)), (21, some (v17)), (24, some (vI got1)), (226, some (vS (sub image1 (0 : Int) (100 : Int)))), (229, some (vS (sub fill1 (0 : Int) (100 : Int))))], [], [Fact.sl u8S v17 image1, Fact.sl u8S v12 fill1]⟩ from ?_) a w (hs.wkS [16, 21, 24, 226, 229] [] [0, 1] rfl rfl rfl rfl)
            clear hs hL
            refine TA_step htb (by kernel_rfl) rfl rfl (OpT_bin rfl rfl rfl rfl rfl (bin_eql_s (a := sub image1 (0 : Int) (100 : Int)) (b := sub fill1 (0 : Int) (100 : Int)))) ?_
            refine TA_step htb (by kernel_rfl) rfl rfl (OpT_move rfl rfl rfl rfl) ?_
            refine TA_wkS (fr' := [(16, some (v12)), (21, some (v17)), (24, some (vI got1)), (231, some (vB ((sub image1 (0 : Int) (100 : Int)) == (sub fill1 (0 : Int) (100 : Int)))))]) (own' := []) (shr' := [Fact.sl u8S v17 image1, Fact.sl u8S v12 fill1]) [16, 21, 24, 231] [] [0, 1] rfl rfl rfl rfl ?_
            obtain ⟨hg40, h⟩ := chk_e h
            obtain ⟨hc7, h⟩ := chk_e h
            obtain ⟨hc8, h⟩ := chk_e h
            refine TA_seg (lo := 8) (hi := 18) htb rfl rfl (by kernel_rfl) (fun c L a w => ∃ (v21 : Value), ∃ (v22 : Value), Sat c ⟨[(16, some (v12)), (21, some (v17)), (24, some (vI got1)), (231, some (vB ((sub image1 (0 : Int) (100 : Int)) == (sub fill1 (0 : Int) (100 : Int))))), (232, bif L 8 then some (v17) else none), (233, bif L 9 then some (vI got1) else none), (234, bif L 10 then some (vI (wi ((100 : Int) + got1))) else none), (235, bif L 11 then some (v21) else none), (236, bif L 12 then some (vS (sub image1 (wi ((100 : Int) + got1)) (len image1))) else none), (237, bif L 13 then some (v12) else none), (238, bif L 14 then some (vI got1) else none), (239, bif L 15 then some (vI (wi ((100 : Int) + got1))) else none), (240, bif L 16 then some (v22) else none), (241, bif L 17 then some (vS (sub fill1 (wi ((100 : Int) + got1)) (len fill1))) else none)], [], [Fact.sl u8S v17 image1, Fact.sl u8S v12 fill1, (bif L 11 then Fact.sl u8S v21 (sub image1 (wi ((100 : Int) + got1)) (len image1)) else Fact.tt), (bif L 16 then Fact.sl u8S v22 (sub fill1 (wi ((100 : Int) + got1)) (len fill1)) else Fact.tt)]⟩ a w) [([], [11, 12]), ([], [10, 11, 12]), ([9], [11, 12]), ([8, 9, 10], [12]), ([8, 9, 10, 11], []), ([], [16, 17]), ([], [15, 16, 17]), ([14], [16, 17]), ([13, 14, 15], [17]), ([13, 14, 15, 16], [])] rfl (by kernel_rfl) ?_ (steps_cons ?_ (steps_cons ?_ (steps_cons ?_ (steps_cons ?_ (steps_cons ?_ (steps_cons ?_ (steps_cons ?_ (steps_cons ?_ (steps_cons ?_ (steps_cons ?_ (steps_nil))))))))))) ?_
            ·intro a w hs
             exact ⟨undef, undef, hs.startF [232, 233, 234, 235, 236, 237, 238, 239, 240, 241] [] [0, 1, 2, 3] rfl rfl rfl rfl⟩
            ·intro L a w hv K Q hK
             obtain ⟨v21, v22, hs⟩ := hv
             refine wpOp_yes rfl rfl rfl hs (congrArg (fun b => some (Value.bool b)) hg40) (OpT_move rfl rfl rfl rfl) ?_
             rintro _ rfl a' w' hs'
             exact hK a' w' ⟨v21, v22, hs'.putF (i := 4) rfl [] [0, 1, 2, 3] rfl rfl rfl rfl⟩
            ·intro L a w hv K Q hK
             obtain ⟨v21, v22, hs⟩ := hv
             refine wpOp_yes rfl rfl rfl hs (congrArg (fun b => some (Value.bool b)) hg40) (OpT_move rfl rfl rfl rfl) ?_
             rintro _ rfl a' w' hs'
             exact hK a' w' ⟨v21, v22, hs'.putF (i := 5) rfl [] [0, 1, 2, 3] rfl rfl rfl rfl⟩
            ·intro L a w hv K Q hK
             obtain ⟨v21, v22, hs⟩ := hv
             refine wpOp_yes rfl rfl rfl hs (congrArg (fun b => some (Value.bool b)) hg40) (OpT_bin rfl rfl rfl rfl rfl (bin_add_i (a := (100 : Int)) (b := got1))) ?_
             rintro _ rfl a' w' hs'
             exact hK a' w' ⟨v21, v22, hs'.putF (i := 6) rfl [] [0, 1, 2, 3] rfl rfl rfl rfl⟩
            ·intro L a w hv K Q hK
             obtain ⟨v21, v22, hs⟩ := hv
             refine wpOp_yes rfl rfl rfl hs (congrArg (fun b => some (Value.bool b)) hg40) (OpT_sliceL (l := wi ((100 : Int) + got1)) rfl rfl rfl rfl rfl slF24 (i := 0) rfl hc7) ?_
             rintro _ ⟨v21', rfl⟩ a' w' hs'
             exact hK a' w' ⟨v21', v22, hs'.putF (i := 7) rfl [] [0, 1, 4, 3] rfl rfl rfl rfl⟩
            ·intro L a w hv K Q hK
             obtain ⟨v21, v22, hs⟩ := hv
             refine wpOp_yes rfl rfl rfl hs (congrArg (fun b => some (Value.bool b)) hg40) (OpT_strS rfl rfl rfl rfl Try.underlying24 Try.underlying5 Try.underlying9 (i := 2) rfl) ?_
             rintro _ rfl a' w' hs'
             exact hK a' w' ⟨v21, v22, hs'.putF (i := 8) rfl [] [0, 1, 2, 3] rfl rfl rfl rfl⟩
            ·intro L a w hv K Q hK
             obtain ⟨v21, v22, hs⟩ := hv
             refine wpOp_yes rfl rfl rfl hs (congrArg (fun b => some (Value.bool b)) hg40) (OpT_move rfl rfl rfl rfl) ?_
             rintro _ rfl a' w' hs'
             exact hK a' w' ⟨v21, v22, hs'.putF (i := 9) rfl [] [0, 1, 2, 3] rfl rfl rfl rfl⟩
            ·intro L a w hv K Q hK
             obtain ⟨v21, v22, hs⟩ := hv
             refine wpOp_yes rfl rfl rfl hs (congrArg (fun b => some (Value.bool b)) hg40) (OpT_move rfl rfl rfl rfl) ?_
             rintro _ rfl a' w' hs'
             exact hK a' w' ⟨v21, v22, hs'.putF (i := 10) rfl [] [0, 1, 2, 3] rfl rfl rfl rfl⟩
            ·intro L a w hv K Q hK
             obtain ⟨v21, v22, hs⟩ := hv
             refine wpOp_yes rfl rfl rfl hs (congrArg (fun b => some (Value.bool b)) hg40) (OpT_bin rfl rfl rfl rfl rfl (bin_add_i (a := (100 : Int)) (b := got1))) ?_
             rintro _ rfl a' w' hs'
             exact hK a' w' ⟨v21, v22, hs'.putF (i := 11) rfl [] [0, 1, 2, 3] rfl rfl rfl rfl⟩
            ·intro L a w hv K Q hK
             obtain ⟨v21, v22, hs⟩ := hv
             refine wpOp_yes rfl rfl rfl hs (congrArg (fun b => some (Value.bool b)) hg40) (OpT_sliceL (l := wi ((100 : Int) + got1)) rfl rfl rfl rfl rfl slF24 (i := 1) rfl hc8) ?_
             rintro _ ⟨v22', rfl⟩ a' w' hs'
             exact hK a' w' ⟨v21, v22', hs'.putF (i := 12) rfl [] [0, 1, 2, 4] rfl rfl rfl rfl⟩
            ·intro L a w hv K Q hK
             obtain ⟨v21, v22, hs⟩ := hv
             refine wpOp_yes rfl rfl rfl hs (congrArg (fun b => some (Value.bool b)) hg40) (OpT_strS rfl rfl rfl rfl Try.underlying24 Try.underlying5 Try.underlying9 (i := 3) rfl) ?_
             rintro _ rfl a' w' hs'
             exact hK a' w' ⟨v21, v22, hs'.putF (i := 13) rfl [] [0, 1, 2, 3] rfl rfl rfl rfl⟩
            ·intro L a w hL hv
             rw [allTrue hL] at hv
             obtain ⟨v21, v22, hs⟩ := hv
             refine (show TA _ _ _ 18 ⟨[(231, some (vB ((sub image1 (0 : Int) (100 : Int)) == (sub fill1 (0 : Int) (100 : Int))))), (236, some (vS (sub image1 (wi ((100 : Int) + got1)) (len image1)))), (241, some (vS (sub fill1 (wi ((100 : Int) + got1)) (len fill1))))], [], []⟩ from ?_) a w (hs.wkS [231, 236, 241] [] [] rfl rfl rfl rfl)
             clear hs hL
             refine TA_yes htb (by kernel_rfl) rfl rfl rfl (congrArg (fun b => some (Value.bool b)) hg40) (OpT_bin rfl rfl rfl rfl rfl (bin_eql_s (a := sub image1 (wi ((100 : Int) + got1)) (len image1)) (b := sub fill1 (wi ((100 : Int) + got1)) (len fill1)))) ?_
             rintro _ rfl
             refine TA_step htb (by kernel_rfl) rfl rfl (OpT_pickT rfl rfl rfl (congrArg (fun b => some (Value.bool b)) hg40) rfl) ?_
             refine TA_step htb (by kernel_rfl) rfl rfl (OpT_assign rfl rfl rfl rfl) ?_
             refine TA_end rfl ?_
             refine Tk_wkS (fr' := [(8, some (vB ((sub image1 (wi ((100 : Int) + got1)) (len image1)) == (sub fill1 (wi ((100 : Int) + got1)) (len fill1)))))]) (own' := []) (shr' := []) [8] [] [] rfl rfl rfl rfl ?_
             obtain ⟨hg41, h⟩ := chk_e h
             exact Tk_retV rfl rfl (resA (vs := [.bool true]) rfl ⟨(congrArg (fun b => some (Value.bool b)) hg41), trivial⟩) [] [] rfl rfl rfl ⟨rfl, rfl, rfl⟩
end Go.Proofs.Ytdaijemhibbgeaa
