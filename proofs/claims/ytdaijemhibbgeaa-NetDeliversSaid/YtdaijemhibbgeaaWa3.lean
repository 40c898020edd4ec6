/- The functions do what the plain words say: each is walked once. No statement of the seat is proved here; no condition. -/
import Derived.Test.YtdaijemhibbgeaaWa2
namespace Go.Proofs.Ytdaijemhibbgeaa
attribute [local irreducible] sub
set_option maxRecDepth 100000 in
set_option maxHeartbeats 4000000 in
theorem w_law25zmemory  {r : (List Region)} (h : law25zmemory = some r) :
  Ctr Try.prog 12 #[] [] []
   (fun rv own shr => ∃ (w1 : Value), rv = w1 ∧ own = [(rowS RegionS w1 r)] ∧ shr = []) := by
 unfold law25zmemory at h
 refine Ctr.mk (args := []) Try.func12 rfl rfl (fun R0 w0 B => ?_)
 refine Tk_seq (Tk_region (Tops_step rfl (OpT_assign rfl rfl rfl rfl) ?_))
 refine Tops_nil (Tk_wkS (fr' := []) (own' := []) (shr' := []) [] [] [] rfl rfl rfl rfl ?_)
 refine Tk_seq (Tk_region (Tops_step rfl (OpT_build (v := .agg #[vU64 (0 : UInt64), vU64 (16384 : UInt64)]) rfl rfl rfl rfl (bldV (by kernel_rfl))) ?_))
 refine Tops_ex rfl (OpT_buildSlice (S := RegionS) (xs := [(Region.mk (0 : UInt64) (16384 : UInt64))]) (css := [[vU64 (0 : UInt64), vU64 (16384 : UInt64)]]) (cs := [vU64 (0 : UInt64), vU64 (16384 : UInt64)]) (e := 75) rfl rfl rfl rfl (bldF slF38 (by decide) (by kernel_rfl)) rfl rfl rfl rfl (rel_plainD (S := RegionS) (xs := [(Region.mk (0 : UInt64) (16384 : UInt64))]) (css := [[vU64 (0 : UInt64), vU64 (16384 : UInt64)]]) rfl rfl)) fun v1 => ?_
 refine Tops_step rfl (OpT_assign rfl rfl rfl rfl) ?_
 refine Tops_nil (Tk_wkS (fr' := [(0, some (v1))]) (own' := [some (rowS RegionS v1 [(Region.mk (0 : UInt64) (16384 : UInt64))])]) (shr' := []) [0] [0] [] rfl rfl rfl rfl ?_)
 obtain rfl := Option.some.inj h
 exact Tk_retV rfl rfl (resA (vs := [v1]) rfl ⟨rfl, trivial⟩) [0] [] rfl rfl rfl ⟨v1, rfl, rfl, rfl⟩

set_option maxRecDepth 100000 in
set_option maxHeartbeats 4000000 in
theorem w_ref_Bytes23 {f : Frame} {vf1 : Value} {r : ((List UInt8) × Int)} (h : ref_Bytes23 f = some r) :
  Ctr Try.prog 14 #[.agg #[vU8 f.Dst.a0, vU8 f.Dst.a1, vU8 f.Dst.a2, vU8 f.Dst.a3, vU8 f.Dst.a4, vU8 f.Dst.a5, vU8 f.Src.a0, vU8 f.Src.a1, vU8 f.Src.a2, vU8 f.Src.a3, vU8 f.Src.a4, vU8 f.Src.a5, vI f.Vlan, vU16 f.Type_, vf1]] [] [Fact.sl u8S vf1 f.Data]
   (fun rv own shr => ∃ (w1 : Value), rv = .tuple #[w1, vI r.2] ∧ own = [(rowS u8S w1 r.1)] ∧ shr = []) := by
 unfold ref_Bytes23 at h
 refine Ctr.mk (args := [.agg #[vU8 f.Dst.a0, vU8 f.Dst.a1, vU8 f.Dst.a2, vU8 f.Dst.a3, vU8 f.Dst.a4, vU8 f.Dst.a5, vU8 f.Src.a0, vU8 f.Src.a1, vU8 f.Src.a2, vU8 f.Src.a3, vU8 f.Src.a4, vU8 f.Src.a5, vI f.Vlan, vU16 f.Type_, vf1]]) Try.func14 rfl rfl (fun R0 w0 B => ?_)
 refine Tk_seq (Tk_region (Tops_ex rfl (OpT_box rfl rfl rfl rfl) fun b1 => ?_))
 refine Tops_step rfl (OpT_assign rfl rfl rfl rfl) ?_
 refine Tops_step rfl (OpT_assign rfl rfl rfl rfl) ?_
 refine Tops_nil (Tk_wkS (fr' := [(1, some (.pointer (some ⟨b1, 0, none⟩)))]) (own' := [some (cellsR b1 26 [vU8 f.Dst.a0, vU8 f.Dst.a1, vU8 f.Dst.a2, vU8 f.Dst.a3, vU8 f.Dst.a4, vU8 f.Dst.a5, vU8 f.Src.a0, vU8 f.Src.a1, vU8 f.Src.a2, vU8 f.Src.a3, vU8 f.Src.a4, vU8 f.Src.a5, vI f.Vlan, vU16 f.Type_, vf1])]) (shr' := [Fact.sl u8S vf1 f.Data]) [1] [0] [0] rfl rfl rfl rfl ?_)
 refine Tk_seq (Tk_region (Tops_step rfl (OpT_loadCA (vs := [vU8 f.Dst.a0, vU8 f.Dst.a1, vU8 f.Dst.a2, vU8 f.Dst.a3, vU8 f.Dst.a4, vU8 f.Dst.a5, vU8 f.Src.a0, vU8 f.Src.a1, vU8 f.Src.a2, vU8 f.Src.a3, vU8 f.Src.a4, vU8 f.Src.a5, vI f.Vlan, vU16 f.Type_, vf1]) rfl rfl rfl rfl tyF26 (i := 0) rfl rfl rfl) ?_))
 obtain ⟨check1, hx1, h⟩ := ob_e h
 refine Tops_exP rfl (OpT_call (w_ref_Check23 hx1) [] [0] rfl rfl rfl rfl rfl callee8 rfl rfl rfl rfl) ?_
 rintro _ ⟨_, _, _, ⟨rfl, rfl, rfl⟩, rfl⟩
 refine Tops_step rfl (OpT_assign rfl rfl rfl rfl) ?_
 refine Tops_nil (Tk_wkS (fr' := [(1, some (.pointer (some ⟨b1, 0, none⟩))), (4, some (vI check1))]) (own' := [some (cellsR b1 26 [vU8 f.Dst.a0, vU8 f.Dst.a1, vU8 f.Dst.a2, vU8 f.Dst.a3, vU8 f.Dst.a4, vU8 f.Dst.a5, vU8 f.Src.a0, vU8 f.Src.a1, vU8 f.Src.a2, vU8 f.Src.a3, vU8 f.Src.a4, vU8 f.Src.a5, vI f.Vlan, vU16 f.Type_, vf1])]) (shr' := [Fact.sl u8S vf1 f.Data]) [1, 4] [0] [0] rfl rfl rfl rfl ?_)
 refine Tk_seq (Tk_seq (Tk_region (Tops_step rfl (OpT_move rfl rfl rfl rfl) ?_)))
 refine Tops_step rfl (OpT_bin rfl rfl rfl rfl rfl (bin_neq_i (a := check1) (b := (0 : Int)))) ?_
 refine Tops_nil (Tk_wkS (fr' := [(1, some (.pointer (some ⟨b1, 0, none⟩))), (4, some (vI check1)), (11, some (vB (check1 != (0 : Int))))]) (own' := [some (cellsR b1 26 [vU8 f.Dst.a0, vU8 f.Dst.a1, vU8 f.Dst.a2, vU8 f.Dst.a3, vU8 f.Dst.a4, vU8 f.Dst.a5, vU8 f.Src.a0, vU8 f.Src.a1, vU8 f.Src.a2, vU8 f.Src.a3, vU8 f.Src.a4, vU8 f.Src.a5, vI f.Vlan, vU16 f.Type_, vf1])]) (shr' := [Fact.sl u8S vf1 f.Data]) [1, 4, 11] [0] [0] rfl rfl rfl rfl ?_)
 rcases Bool.eq_false_or_eq_true (check1 != (0 : Int)) with hg1 | hg1
 ·replace h := br_t hg1 h
  refine Tk_condT (congrArg (fun b => some (Value.bool b)) hg1) ?_
  refine Tk_seq (Tk_region (Tops_step rfl (OpT_move rfl rfl rfl rfl) ?_))
  refine Tops_step rfl (OpT_assign rfl rfl rfl rfl) ?_
  refine Tops_step rfl (OpT_assign rfl rfl rfl rfl) ?_
  refine Tops_nil (Tk_wkS (fr' := [(2, some (.slice none 0 0)), (3, some (vI check1))]) (own' := []) (shr' := []) [2, 3] [] [] rfl rfl rfl rfl ?_)
  refine Tk_nilrow u8S ?_
  obtain rfl := Option.some.inj h
  exact Tk_retV rfl rfl (resA (vs := [.slice none 0 0, vI check1]) rfl ⟨rfl, rfl, trivial⟩) [0] [] rfl rfl rfl ⟨(.slice none 0 0), rfl, rfl, rfl⟩
 ·replace h := br_f hg1 h
  refine Tk_condF (congrArg (fun b => some (Value.bool b)) hg1) ?_
  refine Tk_skip (Tk_seq (Tk_region (Tops_step rfl (OpT_assign rfl rfl rfl rfl) ?_)))
  refine Tops_nil (Tk_wkS (fr' := [(1, some (.pointer (some ⟨b1, 0, none⟩))), (5, some (.slice none 0 0))]) (own' := [some (cellsR b1 26 [vU8 f.Dst.a0, vU8 f.Dst.a1, vU8 f.Dst.a2, vU8 f.Dst.a3, vU8 f.Dst.a4, vU8 f.Dst.a5, vU8 f.Src.a0, vU8 f.Src.a1, vU8 f.Src.a2, vU8 f.Src.a3, vU8 f.Src.a4, vU8 f.Src.a5, vI f.Vlan, vU16 f.Type_, vf1])]) (shr' := [Fact.sl u8S vf1 f.Data]) [1, 5] [0] [0] rfl rfl rfl rfl ?_)
  refine Tk_seq (Tk_seq (Tk_region (Tops_step rfl (OpT_assign rfl rfl rfl rfl) ?_)))
  refine Tops_nil (Tk_block (Tk_nilrow u8S ?_))
  refine Tk_loopS (σ := (A6 UInt8) × (A6 UInt8) × Int × UInt16 × (List UInt8) × (List UInt8) × Int × Value × Value) [1, 5, 6] [0, 1] [0] (fun s => ⟨[(1, some (.pointer (some ⟨b1, 0, none⟩))), (5, some (s.2.2.2.2.2.2.2.2)), (6, some (vI s.2.2.2.2.2.2.1))], [some (cellsR b1 26 [vU8 s.1.a0, vU8 s.1.a1, vU8 s.1.a2, vU8 s.1.a3, vU8 s.1.a4, vU8 s.1.a5, vU8 s.2.1.a0, vU8 s.2.1.a1, vU8 s.2.1.a2, vU8 s.2.1.a3, vU8 s.2.1.a4, vU8 s.2.1.a5, vI s.2.2.1, vU16 s.2.2.2.1, s.2.2.2.2.2.2.2.1]), some (rowS u8S s.2.2.2.2.2.2.2.2 s.2.2.2.2.2.1)], [Fact.sl u8S s.2.2.2.2.2.2.2.1 s.2.2.2.2.1]⟩) (fun nf1 s => ref_Bytes23L1 nf1 s.1 s.2.1 s.2.2.1 s.2.2.2.1 s.2.2.2.2.1 s.2.2.2.2.2.1 s.2.2.2.2.2.2.1 = some r) fuel (f.Dst, f.Src, f.Vlan, f.Type_, f.Data, [], (0 : Int), vf1, (.slice none 0 0)) h rfl rfl rfl rfl rfl (fun s h => by cases h) ?_
  rintro nf1 ⟨Dst1, Src1, Vlan1, Type1, Data1, b2, i1, v1, v2⟩ h
  replace h : ref_Bytes23L1B (ref_Bytes23L1 nf1) Dst1 Src1 Vlan1 Type1 Data1 b2 i1 = some r := h
  unfold ref_Bytes23L1B at h
  refine Tk_seq (Tk_seq (Tk_region (Tops_step rfl (OpT_move rfl rfl rfl rfl) ?_)))
  refine Tops_step rfl (OpT_bin rfl rfl rfl rfl rfl (bin_lss_i (a := i1) (b := (6 : Int)))) ?_
  refine Tops_nil (Tk_wkS (fr' := [(1, some (.pointer (some ⟨b1, 0, none⟩))), (5, some (v2)), (6, some (vI i1)), (14, some (vB (decide (i1 < (6 : Int)))))]) (own' := [some (cellsR b1 26 [vU8 Dst1.a0, vU8 Dst1.a1, vU8 Dst1.a2, vU8 Dst1.a3, vU8 Dst1.a4, vU8 Dst1.a5, vU8 Src1.a0, vU8 Src1.a1, vU8 Src1.a2, vU8 Src1.a3, vU8 Src1.a4, vU8 Src1.a5, vI Vlan1, vU16 Type1, v1]), some (rowS u8S v2 b2)]) (shr' := [Fact.sl u8S v1 Data1]) [1, 5, 6, 14] [0, 1] [0] rfl rfl rfl rfl ?_)
  rcases Bool.eq_false_or_eq_true (decide (i1 < (6 : Int))) with hg2 | hg2
  ·replace h := br_t hg2 h
   refine Tk_condT (congrArg (fun b => some (Value.bool b)) hg2) ?_
   refine Tk_skip (Tk_seq (Tk_block (Tk_region (Tops_step rfl (OpT_move rfl rfl rfl rfl) ?_))))
   refine Tops_step rfl (OpT_move rfl rfl rfl rfl) ?_
   refine Tops_step rfl (OpT_fieldC rfl rfl rfl rfl fldF26x0) ?_
   obtain ⟨hc1, h⟩ := chk_e h
   refine Tops_step rfl (OpT_indexC rfl rfl rfl rfl rfl arrF22 hc1) ?_
   obtain ⟨u1, hx2, h⟩ := ob_e h
   refine Tops_step rfl (OpT_loadX1 vU8 [Dst1.a0, Dst1.a1, Dst1.a2, Dst1.a3, Dst1.a4, Dst1.a5] [] [vU8 Src1.a0, vU8 Src1.a1, vU8 Src1.a2, vU8 Src1.a3, vU8 Src1.a4, vU8 Src1.a5, vI Vlan1, vU16 Type1, v1] rfl rfl rfl rfl tyF5 (i := 0) rfl rfl rfl hx2) ?_
   refine Tops_ex rfl (OpT_buildSlice (S := u8S) (xs := [u1]) (css := [[vU8 u1]]) (cs := [vU8 u1]) (e := 5) rfl rfl rfl rfl (bldF slF24 (by decide) (by kernel_rfl)) rfl rfl rfl rfl (rel_plainD (S := u8S) (xs := [u1]) (css := [[vU8 u1]]) rfl rfl)) fun v3 => ?_
   obtain ⟨hc2, h⟩ := chk_e h
   refine Tops_ex rfl (OpT_appendB (S := u8S) rfl rfl rfl rfl rfl rfl slF24 (i := 1) (j := 2) rfl rfl hc2) fun v4 => ?_
   refine Tops_step rfl (OpT_assign rfl rfl rfl rfl) ?_
   refine Tops_nil (Tk_wkS (fr' := [(1, some (.pointer (some ⟨b1, 0, none⟩))), (5, some (v4)), (6, some (vI i1))]) (own' := [some (cellsR b1 26 [vU8 Dst1.a0, vU8 Dst1.a1, vU8 Dst1.a2, vU8 Dst1.a3, vU8 Dst1.a4, vU8 Dst1.a5, vU8 Src1.a0, vU8 Src1.a1, vU8 Src1.a2, vU8 Src1.a3, vU8 Src1.a4, vU8 Src1.a5, vI Vlan1, vU16 Type1, v1]), some (rowS u8S v4 (b2 ++ [u1]))]) (shr' := [Fact.sl u8S v1 Data1]) [1, 5, 6] [0, 1] [0] rfl rfl rfl rfl ?_)
   refine Tk_blk (Tk_region (Tops_step rfl (OpT_move rfl rfl rfl rfl) ?_))
   refine Tops_step rfl (OpT_bin rfl rfl rfl rfl rfl (bin_add_i (a := i1) (b := (1 : Int)))) ?_
   refine Tops_step rfl (OpT_assign rfl rfl rfl rfl) ?_
   refine Tops_nil (Tk_wkS (fr' := [(1, some (.pointer (some ⟨b1, 0, none⟩))), (5, some (v4)), (6, some (vI (wi (i1 + (1 : Int)))))]) (own' := [some (cellsR b1 26 [vU8 Dst1.a0, vU8 Dst1.a1, vU8 Dst1.a2, vU8 Dst1.a3, vU8 Dst1.a4, vU8 Dst1.a5, vU8 Src1.a0, vU8 Src1.a1, vU8 Src1.a2, vU8 Src1.a3, vU8 Src1.a4, vU8 Src1.a5, vI Vlan1, vU16 Type1, v1]), some (rowS u8S v4 (b2 ++ [u1]))]) (shr' := [Fact.sl u8S v1 Data1]) [1, 5, 6] [0, 1] [0] rfl rfl rfl rfl ?_)
   exact Tk_backS (Dst1, Src1, Vlan1, Type1, Data1, b2 ++ [u1], wi (i1 + (1 : Int)), v1, v4) h [1, 5, 6] [0, 1] [0] rfl rfl rfl rfl rfl
  ·replace h := br_f hg2 h
   refine Tk_condF (congrArg (fun b => some (Value.bool b)) hg2) ?_
   refine Tk_exit _ rfl ?_
   refine Tk_seq (Tk_seq (Tk_region (Tops_step rfl (OpT_assign rfl rfl rfl rfl) ?_)))
   refine Tops_nil (Tk_wkS (fr' := [(1, some (.pointer (some ⟨b1, 0, none⟩))), (5, some (v2)), (7, some (vI (0 : Int)))]) (own' := [some (cellsR b1 26 [vU8 Dst1.a0, vU8 Dst1.a1, vU8 Dst1.a2, vU8 Dst1.a3, vU8 Dst1.a4, vU8 Dst1.a5, vU8 Src1.a0, vU8 Src1.a1, vU8 Src1.a2, vU8 Src1.a3, vU8 Src1.a4, vU8 Src1.a5, vI Vlan1, vU16 Type1, v1]), some (rowS u8S v2 b2)]) (shr' := [Fact.sl u8S v1 Data1]) [1, 5, 7] [0, 1] [0] rfl rfl rfl rfl ?_)
   refine Tk_block (Tk_loopS (σ := (A6 UInt8) × (A6 UInt8) × Int × UInt16 × (List UInt8) × (List UInt8) × Int × Value × Value) [1, 5, 7] [0, 1] [0] (fun s => ⟨[(1, some (.pointer (some ⟨b1, 0, none⟩))), (5, some (s.2.2.2.2.2.2.2.2)), (7, some (vI s.2.2.2.2.2.2.1))], [some (cellsR b1 26 [vU8 s.1.a0, vU8 s.1.a1, vU8 s.1.a2, vU8 s.1.a3, vU8 s.1.a4, vU8 s.1.a5, vU8 s.2.1.a0, vU8 s.2.1.a1, vU8 s.2.1.a2, vU8 s.2.1.a3, vU8 s.2.1.a4, vU8 s.2.1.a5, vI s.2.2.1, vU16 s.2.2.2.1, s.2.2.2.2.2.2.2.1]), some (rowS u8S s.2.2.2.2.2.2.2.2 s.2.2.2.2.2.1)], [Fact.sl u8S s.2.2.2.2.2.2.2.1 s.2.2.2.2.1]⟩) (fun nf2 s => ref_Bytes23L2 nf2 s.1 s.2.1 s.2.2.1 s.2.2.2.1 s.2.2.2.2.1 s.2.2.2.2.2.1 s.2.2.2.2.2.2.1 = some r) fuel (Dst1, Src1, Vlan1, Type1, Data1, b2, (0 : Int), v1, v2) h rfl rfl rfl rfl rfl (fun s h => by cases h) ?_)
   rintro nf2 ⟨Dst2, Src2, Vlan2, Type2, Data2, b3, i2, v5, v6⟩ h
   replace h : ref_Bytes23L2B (ref_Bytes23L2 nf2) Dst2 Src2 Vlan2 Type2 Data2 b3 i2 = some r := h
   unfold ref_Bytes23L2B at h
   refine Tk_seq (Tk_seq (Tk_region (Tops_step rfl (OpT_move rfl rfl rfl rfl) ?_)))
   refine Tops_step rfl (OpT_bin rfl rfl rfl rfl rfl (bin_lss_i (a := i2) (b := (6 : Int)))) ?_
   refine Tops_nil (Tk_wkS (fr' := [(1, some (.pointer (some ⟨b1, 0, none⟩))), (5, some (v6)), (7, some (vI i2)), (25, some (vB (decide (i2 < (6 : Int)))))]) (own' := [some (cellsR b1 26 [vU8 Dst2.a0, vU8 Dst2.a1, vU8 Dst2.a2, vU8 Dst2.a3, vU8 Dst2.a4, vU8 Dst2.a5, vU8 Src2.a0, vU8 Src2.a1, vU8 Src2.a2, vU8 Src2.a3, vU8 Src2.a4, vU8 Src2.a5, vI Vlan2, vU16 Type2, v5]), some (rowS u8S v6 b3)]) (shr' := [Fact.sl u8S v5 Data2]) [1, 5, 7, 25] [0, 1] [0] rfl rfl rfl rfl ?_)
   rcases Bool.eq_false_or_eq_true (decide (i2 < (6 : Int))) with hg3 | hg3
   ·replace h := br_t hg3 h
    refine Tk_condT (congrArg (fun b => some (Value.bool b)) hg3) ?_
    refine Tk_skip (Tk_seq (Tk_block (Tk_region (Tops_step rfl (OpT_move rfl rfl rfl rfl) ?_))))
    refine Tops_step rfl (OpT_move rfl rfl rfl rfl) ?_
    refine Tops_step rfl (OpT_fieldC rfl rfl rfl rfl fldF26x1) ?_
    obtain ⟨hc3, h⟩ := chk_e h
    refine Tops_step rfl (OpT_indexC rfl rfl rfl rfl rfl arrF22 hc3) ?_
    obtain ⟨u2, hx3, h⟩ := ob_e h
    refine Tops_step rfl (OpT_loadX1 vU8 [Src2.a0, Src2.a1, Src2.a2, Src2.a3, Src2.a4, Src2.a5] [vU8 Dst2.a0, vU8 Dst2.a1, vU8 Dst2.a2, vU8 Dst2.a3, vU8 Dst2.a4, vU8 Dst2.a5] [vI Vlan2, vU16 Type2, v5] rfl rfl rfl rfl tyF5 (i := 0) rfl rfl rfl hx3) ?_
    refine Tops_ex rfl (OpT_buildSlice (S := u8S) (xs := [u2]) (css := [[vU8 u2]]) (cs := [vU8 u2]) (e := 5) rfl rfl rfl rfl (bldF slF24 (by decide) (by kernel_rfl)) rfl rfl rfl rfl (rel_plainD (S := u8S) (xs := [u2]) (css := [[vU8 u2]]) rfl rfl)) fun v7 => ?_
    obtain ⟨hc4, h⟩ := chk_e h
    refine Tops_ex rfl (OpT_appendB (S := u8S) rfl rfl rfl rfl rfl rfl slF24 (i := 1) (j := 2) rfl rfl hc4) fun v8 => ?_
    refine Tops_step rfl (OpT_assign rfl rfl rfl rfl) ?_
    refine Tops_nil (Tk_wkS (fr' := [(1, some (.pointer (some ⟨b1, 0, none⟩))), (5, some (v8)), (7, some (vI i2))]) (own' := [some (cellsR b1 26 [vU8 Dst2.a0, vU8 Dst2.a1, vU8 Dst2.a2, vU8 Dst2.a3, vU8 Dst2.a4, vU8 Dst2.a5, vU8 Src2.a0, vU8 Src2.a1, vU8 Src2.a2, vU8 Src2.a3, vU8 Src2.a4, vU8 Src2.a5, vI Vlan2, vU16 Type2, v5]), some (rowS u8S v8 (b3 ++ [u2]))]) (shr' := [Fact.sl u8S v5 Data2]) [1, 5, 7] [0, 1] [0] rfl rfl rfl rfl ?_)
    refine Tk_blk (Tk_region (Tops_step rfl (OpT_move rfl rfl rfl rfl) ?_))
    refine Tops_step rfl (OpT_bin rfl rfl rfl rfl rfl (bin_add_i (a := i2) (b := (1 : Int)))) ?_
    refine Tops_step rfl (OpT_assign rfl rfl rfl rfl) ?_
    refine Tops_nil (Tk_wkS (fr' := [(1, some (.pointer (some ⟨b1, 0, none⟩))), (5, some (v8)), (7, some (vI (wi (i2 + (1 : Int)))))]) (own' := [some (cellsR b1 26 [vU8 Dst2.a0, vU8 Dst2.a1, vU8 Dst2.a2, vU8 Dst2.a3, vU8 Dst2.a4, vU8 Dst2.a5, vU8 Src2.a0, vU8 Src2.a1, vU8 Src2.a2, vU8 Src2.a3, vU8 Src2.a4, vU8 Src2.a5, vI Vlan2, vU16 Type2, v5]), some (rowS u8S v8 (b3 ++ [u2]))]) (shr' := [Fact.sl u8S v5 Data2]) [1, 5, 7] [0, 1] [0] rfl rfl rfl rfl ?_)
    exact Tk_backS (Dst2, Src2, Vlan2, Type2, Data2, b3 ++ [u2], wi (i2 + (1 : Int)), v5, v8) h [1, 5, 7] [0, 1] [0] rfl rfl rfl rfl rfl
   ·replace h := br_f hg3 h
    refine Tk_condF (congrArg (fun b => some (Value.bool b)) hg3) ?_
    refine Tk_exit _ rfl ?_
    refine Tk_seq (Tk_seq (Tk_region (Tops_step rfl (OpT_fieldC rfl rfl rfl rfl fldF26x2) ?_)))
    refine Tops_step rfl (OpT_loadC rfl rfl rfl rfl tyF3 (i := 0) rfl rfl) ?_
    refine Tops_step rfl (OpT_bin rfl rfl rfl rfl rfl (bin_geq_i (a := Vlan2) (b := (0 : Int)))) ?_
    refine Tops_nil (Tk_wkS (fr' := [(1, some (.pointer (some ⟨b1, 0, none⟩))), (5, some (v6)), (37, some (vB (decide (Vlan2 ≥ (0 : Int)))))]) (own' := [some (cellsR b1 26 [vU8 Dst2.a0, vU8 Dst2.a1, vU8 Dst2.a2, vU8 Dst2.a3, vU8 Dst2.a4, vU8 Dst2.a5, vU8 Src2.a0, vU8 Src2.a1, vU8 Src2.a2, vU8 Src2.a3, vU8 Src2.a4, vU8 Src2.a5, vI Vlan2, vU16 Type2, v5]), some (rowS u8S v6 b3)]) (shr' := [Fact.sl u8S v5 Data2]) [1, 5, 37] [0, 1] [0] rfl rfl rfl rfl ?_)
    refine Tk_join (α := (A6 UInt8) × (A6 UInt8) × Int × UInt16 × (List UInt8) × (List UInt8) × Value × Value) (fun s => ⟨[(1, some (.pointer (some ⟨b1, 0, none⟩))), (5, some (s.2.2.2.2.2.2.2))], [some (cellsR b1 26 [vU8 s.1.a0, vU8 s.1.a1, vU8 s.1.a2, vU8 s.1.a3, vU8 s.1.a4, vU8 s.1.a5, vU8 s.2.1.a0, vU8 s.2.1.a1, vU8 s.2.1.a2, vU8 s.2.1.a3, vU8 s.2.1.a4, vU8 s.2.1.a5, vI s.2.2.1, vU16 s.2.2.2.1, s.2.2.2.2.2.2.1]), some (rowS u8S s.2.2.2.2.2.2.2 s.2.2.2.2.2.1)], [Fact.sl u8S s.2.2.2.2.2.2.1 s.2.2.2.2.1]⟩) (fun s => ref_Bytes23J3 s.1 s.2.1 s.2.2.1 s.2.2.2.1 s.2.2.2.2.1 s.2.2.2.2.2.1 = some r) ?_ ?_
    ·rintro ⟨Dst3, Src3, Vlan3, Type3, Data3, b4, v9, v10⟩ h
     replace h : ref_Bytes23J3 Dst3 Src3 Vlan3 Type3 Data3 b4 = some r := h
     unfold ref_Bytes23J3 at h
     refine Tk_seq (Tk_drawT (by kernel_rfl) ?_)
     refine TA_tb [0, 0, 2, 6, 14, 0, 32, 96, 254, 511, 0, 1024, 4095, 8191, 16383] (by kernel_rfl) fun htb => ?_
     obtain ⟨hc5, h⟩ := chk_e h
     refine TA_seg (lo := 0) (hi := 12) htb rfl rfl (by kernel_rfl) (fun c L a w => ∃ (v11 : Value), ∃ (v12 : Value), Sat c ⟨[(1, some (.pointer (some ⟨b1, 0, none⟩))), (5, some (v10)), (48, bif L 0 then some (v10) else none), (49, bif L 1 then some (.pointer (some ⟨b1, 13, none⟩)) else none), (50, bif L 2 then some (vU16 Type3) else none), (51, bif L 3 then some (vU16 (shr16 Type3 ((8 : UInt64).toNat))) else none), (52, bif L 4 then some (vU8 ((shr16 Type3 ((8 : UInt64).toNat)).toUInt8)) else none), (53, bif L 5 then some (.pointer (some ⟨b1, 13, none⟩)) else none), (54, bif L 6 then some (vU16 Type3) else none), (55, bif L 7 then some (vU8 Type3.toUInt8) else none), (56, bif L 8 then some (v11) else none), (57, bif L 9 then some (v12) else none), (58, bif L 10 then some (.pointer (some ⟨b1, 14, none⟩)) else none), (59, bif L 11 then some (v9) else none)], [(some (cellsR b1 26 [vU8 Dst3.a0, vU8 Dst3.a1, vU8 Dst3.a2, vU8 Dst3.a3, vU8 Dst3.a4, vU8 Dst3.a5, vU8 Src3.a0, vU8 Src3.a1, vU8 Src3.a2, vU8 Src3.a3, vU8 Src3.a4, vU8 Src3.a5, vI Vlan3, vU16 Type3, v9]) : Option Res), (bif L 9 then some (rowS u8S v12 (b4 ++ [(shr16 Type3 ((8 : UInt64).toNat)).toUInt8, Type3.toUInt8])) else some (rowS u8S v10 b4) : Option Res), (bif L 8 then some (rowS u8S v11 [(shr16 Type3 ((8 : UInt64).toNat)).toUInt8, Type3.toUInt8]) else none : Option Res)], [Fact.sl u8S v9 Data3]⟩ a w) [([], [9]), ([], [2, 3, 4, 8, 9]), ([1], [3, 4, 8, 9]), ([1, 2], [4, 8, 9]), ([1, 2, 3], [8, 9]), ([], [6, 7, 8, 9]), ([5], [7, 8, 9]), ([5, 6], [8, 9]), ([1, 2, 3, 4, 5, 6, 7], [9]), ([0, 1, 2, 3, 4, 5, 6, 7, 8], []), ([], [11]), ([10], [])] rfl (by kernel_rfl) ?_ (steps_cons ?_ (steps_cons ?_ (steps_cons ?_ (steps_cons ?_ (steps_cons ?_ (steps_cons ?_ (steps_cons ?_ (steps_cons ?_ (steps_cons ?_ (steps_cons ?_ (steps_cons ?_ (steps_cons ?_ (steps_nil))))))))))))) ?_
     ·intro a w hs
      exact ⟨undef, undef, hs.startF [48, 49, 50, 51, 52, 53, 54, 55, 56, 57, 58, 59] [0, 1, 2] [0] rfl rfl rfl rfl⟩
     ·intro L a w hv K Q hK
      obtain ⟨v11, v12, hs⟩ := hv
      refine wpOp_go rfl rfl hs (OpT_move rfl rfl rfl rfl) ?_
      rintro _ rfl a' w' hs'
      exact hK a' w' ⟨v11, v12, hs'.putF (i := 2) rfl [0, 1, 2] [0] rfl rfl rfl rfl⟩
     ·intro L a w hv K Q hK
      obtain ⟨v11, v12, hs⟩ := hv
      refine wpOp_go rfl rfl hs (OpT_fieldC rfl rfl rfl rfl fldF26x3) ?_
      rintro _ rfl a' w' hs'
      exact hK a' w' ⟨v11, v12, hs'.putF (i := 3) rfl [0, 1, 2] [0] rfl rfl rfl rfl⟩
     ·intro L a w hv K Q hK
      obtain ⟨v11, v12, hs⟩ := hv
      refine wpOp_go rfl rfl hs (OpT_loadC rfl rfl rfl rfl tyF23 (i := 0) rfl rfl) ?_
      rintro _ rfl a' w' hs'
      exact hK a' w' ⟨v11, v12, hs'.putF (i := 4) rfl [0, 1, 2] [0] rfl rfl rfl rfl⟩
     ·intro L a w hv K Q hK
      obtain ⟨v11, v12, hs⟩ := hv
      refine wpOp_go rfl rfl hs (OpT_bin rfl rfl rfl rfl rfl (bin_shr_u16_u64 (a := Type3) (n := (8 : UInt64)))) ?_
      rintro _ rfl a' w' hs'
      exact hK a' w' ⟨v11, v12, hs'.putF (i := 5) rfl [0, 1, 2] [0] rfl rfl rfl rfl⟩
     ·intro L a w hv K Q hK
      obtain ⟨v11, v12, hs⟩ := hv
      refine wpOp_go rfl rfl hs (OpT_cnv rfl rfl rfl rfl (cnv_u16_u8 (n := shr16 Type3 ((8 : UInt64).toNat)) Try.underlying23 Try.underlying5)) ?_
      rintro _ rfl a' w' hs'
      exact hK a' w' ⟨v11, v12, hs'.putF (i := 6) rfl [0, 1, 2] [0] rfl rfl rfl rfl⟩
     ·intro L a w hv K Q hK
      obtain ⟨v11, v12, hs⟩ := hv
      refine wpOp_go rfl rfl hs (OpT_fieldC rfl rfl rfl rfl fldF26x3) ?_
      rintro _ rfl a' w' hs'
      exact hK a' w' ⟨v11, v12, hs'.putF (i := 7) rfl [0, 1, 2] [0] rfl rfl rfl rfl⟩
     ·intro L a w hv K Q hK
      obtain ⟨v11, v12, hs⟩ := hv
      refine wpOp_go rfl rfl hs (OpT_loadC rfl rfl rfl rfl tyF23 (i := 0) rfl rfl) ?_
      rintro _ rfl a' w' hs'
      exact hK a' w' ⟨v11, v12, hs'.putF (i := 8) rfl [0, 1, 2] [0] rfl rfl rfl rfl⟩
     ·intro L a w hv K Q hK
      obtain ⟨v11, v12, hs⟩ := hv
      refine wpOp_go rfl rfl hs (OpT_cnv rfl rfl rfl rfl (cnv_u16_u8 (n := Type3) Try.underlying23 Try.underlying5)) ?_
      rintro _ rfl a' w' hs'
      exact hK a' w' ⟨v11, v12, hs'.putF (i := 9) rfl [0, 1, 2] [0] rfl rfl rfl rfl⟩
     ·intro L a w hv K Q hK
      obtain ⟨v11, v12, hs⟩ := hv
      refine wpOp_go rfl rfl hs (OpT_buildSlice (S := u8S) (xs := [(shr16 Type3 ((8 : UInt64).toNat)).toUInt8, Type3.toUInt8]) (css := [[vU8 ((shr16 Type3 ((8 : UInt64).toNat)).toUInt8)], [vU8 Type3.toUInt8]]) (cs := [vU8 ((shr16 Type3 ((8 : UInt64).toNat)).toUInt8), vU8 Type3.toUInt8]) (e := 5) rfl rfl rfl rfl (bldF slF24 (by decide) (by kernel_rfl)) rfl rfl rfl rfl (rel_plainD (S := u8S) (xs := [(shr16 Type3 ((8 : UInt64).toNat)).toUInt8, Type3.toUInt8]) (css := [[vU8 ((shr16 Type3 ((8 : UInt64).toNat)).toUInt8)], [vU8 Type3.toUInt8]]) rfl rfl)) ?_
      rintro _ ⟨v11', rfl⟩ a' w' hs'
      exact hK a' w' ⟨v11', v12, hs'.putF (i := 10) rfl [0, 1, 3] [0] rfl rfl rfl rfl⟩
     ·intro L a w hv K Q hK
      obtain ⟨v11, v12, hs⟩ := hv
      refine wpOp_go rfl rfl hs (OpT_appendB (S := u8S) rfl rfl rfl rfl rfl rfl slF24 (i := 1) (j := 2) rfl rfl hc5) ?_
      rintro _ ⟨v12', rfl⟩ a' w' hs'
      exact hK a' w' ⟨v11, v12', hs'.putF (i := 11) rfl [0, 1, 2] [0] rfl rfl rfl rfl⟩
     ·intro L a w hv K Q hK
      obtain ⟨v11, v12, hs⟩ := hv
      refine wpOp_go rfl rfl hs (OpT_fieldC rfl rfl rfl rfl fldF26x4) ?_
      rintro _ rfl a' w' hs'
      exact hK a' w' ⟨v11, v12, hs'.putF (i := 12) rfl [0, 1, 2] [0] rfl rfl rfl rfl⟩
     ·intro L a w hv K Q hK
      obtain ⟨v11, v12, hs⟩ := hv
      refine wpOp_go rfl rfl hs (OpT_loadC rfl rfl rfl rfl tyF24 (i := 0) rfl rfl) ?_
      rintro _ rfl a' w' hs'
      exact hK a' w' ⟨v11, v12, hs'.putF (i := 13) rfl [0, 1, 2] [0] rfl rfl rfl rfl⟩
     ·intro L a w hL hv
      rw [allTrue hL] at hv
      obtain ⟨v11, v12, hs⟩ := hv
      refine (show TA _ _ _ 12 ⟨[(57, some (v12)), (59, some (v9))], [some (rowS u8S v12 (b4 ++ [(shr16 Type3 ((8 : UInt64).toNat)).toUInt8, Type3.toUInt8]))], [Fact.sl u8S v9 Data3]⟩ from ?_) a w (hs.wkS [57, 59] [1] [0] rfl rfl rfl rfl)
      clear hs hL
      obtain ⟨hc6, h⟩ := chk_e h
      refine TA_ex htb (by kernel_rfl) rfl rfl (OpT_append rfl rfl rfl rfl rfl slF24 (i := 0) (j := 0) rfl rfl hc6) fun v13 => ?_
      refine TA_step htb (by kernel_rfl) rfl rfl (OpT_assign rfl rfl rfl rfl) ?_
      refine TA_step htb (by kernel_rfl) rfl rfl (OpT_assign rfl rfl rfl rfl) ?_
      refine TA_end rfl ?_
      refine Tk_wkS (fr' := [(2, some (v13)), (3, some (vI (0 : Int)))]) (own' := [some (rowS u8S v13 ((b4 ++ [(shr16 Type3 ((8 : UInt64).toNat)).toUInt8, Type3.toUInt8]) ++ Data3))]) (shr' := []) [2, 3] [0] [] rfl rfl rfl rfl ?_
      obtain rfl := Option.some.inj h
      exact Tk_retV rfl rfl (resA (vs := [v13, vI (0 : Int)]) rfl ⟨rfl, rfl, trivial⟩) [0] [] rfl rfl rfl ⟨v13, rfl, rfl, rfl⟩
    ·intro HJ1
     rcases Bool.eq_false_or_eq_true (decide (Vlan2 ≥ (0 : Int))) with hg4 | hg4
     ·replace h := br_t hg4 h
      refine Tk_condT (congrArg (fun b => some (Value.bool b)) hg4) ?_
      refine Tk_region (Tops_step rfl (OpT_move rfl rfl rfl rfl) ?_)
      refine Tops_step rfl (OpT_fieldC rfl rfl rfl rfl fldF26x2) ?_
      refine Tops_step rfl (OpT_loadC rfl rfl rfl rfl tyF3 (i := 0) rfl rfl) ?_
      refine Tops_step rfl (OpT_bin rfl rfl rfl rfl rfl (bin_shr_i_u64 (a := Vlan2) (n := (8 : UInt64)))) ?_
      refine Tops_step rfl (OpT_cnv rfl rfl rfl rfl (cnv_i_u8 (n := shri Vlan2 ((8 : UInt64).toNat)) Try.underlying3 Try.underlying5)) ?_
      refine Tops_step rfl (OpT_fieldC rfl rfl rfl rfl fldF26x2) ?_
      refine Tops_step rfl (OpT_loadC rfl rfl rfl rfl tyF3 (i := 0) rfl rfl) ?_
      refine Tops_step rfl (OpT_cnv rfl rfl rfl rfl (cnv_i_u8 (n := Vlan2) Try.underlying3 Try.underlying5)) ?_
      refine Tops_ex rfl (OpT_buildSlice (S := u8S) (xs := [(129 : UInt8), (0 : UInt8), u8 (shri Vlan2 ((8 : UInt64).toNat)), u8 Vlan2]) (css := [[vU8 (129 : UInt8)], [vU8 (0 : UInt8)], [vU8 (u8 (shri Vlan2 ((8 : UInt64).toNat)))], [vU8 (u8 Vlan2)]]) (cs := [vU8 (129 : UInt8), vU8 (0 : UInt8), vU8 (u8 (shri Vlan2 ((8 : UInt64).toNat))), vU8 (u8 Vlan2)]) (e := 5) rfl rfl rfl rfl (bldF slF24 (by decide) (by kernel_rfl)) rfl rfl rfl rfl (rel_plainD (S := u8S) (xs := [(129 : UInt8), (0 : UInt8), u8 (shri Vlan2 ((8 : UInt64).toNat)), u8 Vlan2]) (css := [[vU8 (129 : UInt8)], [vU8 (0 : UInt8)], [vU8 (u8 (shri Vlan2 ((8 : UInt64).toNat)))], [vU8 (u8 Vlan2)]]) rfl rfl)) fun v14 => ?_
      obtain ⟨hc7, h⟩ := chk_e h
      refine Tops_ex rfl (OpT_appendB (S := u8S) rfl rfl rfl rfl rfl rfl slF24 (i := 1) (j := 2) rfl rfl hc7) fun v15 => ?_
      refine Tops_step rfl (OpT_assign rfl rfl rfl rfl) ?_
      refine Tops_nil (Tk_wkS (fr' := [(1, some (.pointer (some ⟨b1, 0, none⟩))), (5, some (v15))]) (own' := [some (cellsR b1 26 [vU8 Dst2.a0, vU8 Dst2.a1, vU8 Dst2.a2, vU8 Dst2.a3, vU8 Dst2.a4, vU8 Dst2.a5, vU8 Src2.a0, vU8 Src2.a1, vU8 Src2.a2, vU8 Src2.a3, vU8 Src2.a4, vU8 Src2.a5, vI Vlan2, vU16 Type2, v5]), some (rowS u8S v15 (b3 ++ [(129 : UInt8), (0 : UInt8), u8 (shri Vlan2 ((8 : UInt64).toNat)), u8 Vlan2]))]) (shr' := [Fact.sl u8S v5 Data2]) [1, 5] [0, 1] [0] rfl rfl rfl rfl ?_)
      exact Tk_jmpS (HJ1 (Dst2, Src2, Vlan2, Type2, Data2, b3 ++ [(129 : UInt8), (0 : UInt8), u8 (shri Vlan2 ((8 : UInt64).toNat)), u8 Vlan2], v5, v15) h) [1, 5] [0, 1] [0] rfl rfl rfl rfl
     ·replace h := br_f hg4 h
      refine Tk_condF (congrArg (fun b => some (Value.bool b)) hg4) ?_
      refine Tk_skip ?_
      exact Tk_jmpS (HJ1 (Dst2, Src2, Vlan2, Type2, Data2, b3, v5, v6) h) [1, 5] [0, 1] [0] rfl rfl rfl rfl

set_option maxRecDepth 100000 in
set_option maxHeartbeats 4000000 in
theorem w_gmem_Mem_Image {m : gmem_Mem} {b_m : Nat} {vm1 : Value} {vm2 : Value} {vsm1 : List Value} {r : (List UInt8)} (h : gmem_Mem_Image m = some r) :
  Ctr Try.prog 16 #[.pointer (some ⟨b_m, 0, none⟩)] [(cellsR b_m 78 [vm1, vm2]), (rowsX u8S true vm2 vsm1 m.b none)] [Fact.sl RegionS vm1 m.l]
   (fun rv own shr => ∃ (w1 : Value), rv = w1 ∧ own = [(cellsR b_m 78 [vm1, vm2]), (rowsX u8S true vm2 vsm1 m.b none), (rowS u8S w1 r)] ∧ shr = []) := by
 unfold gmem_Mem_Image at h
 refine Ctr.mk (args := [.pointer (some ⟨b_m, 0, none⟩)]) Try.func16 rfl rfl (fun R0 w0 B => ?_)
 refine Tk_seq (Tk_region (Tops_step rfl (OpT_assign rfl rfl rfl rfl) ?_))
 refine Tops_nil (Tk_wkS (fr' := [(0, some (.pointer (some ⟨b_m, 0, none⟩)))]) (own' := [some (cellsR b_m 78 [vm1, vm2]), some (rowsX u8S true vm2 vsm1 m.b none)]) (shr' := [Fact.sl RegionS vm1 m.l]) [0] [0, 1] [0] rfl rfl rfl rfl ?_)
 refine Tk_seq (Tk_seq (Tk_region (Tops_step rfl (OpT_move rfl rfl rfl rfl) ?_)))
 obtain ⟨made1, hx1, h⟩ := ob_e h
 refine Tops_exP rfl (OpT_callP [2, 3] (w_gmem_Mem_made hx1) [0, 1] [0] rfl rfl rfl rfl rfl callee31 rfl rfl rfl rfl rfl) ?_
 rintro _ ⟨_, _, _, ⟨rfl, rfl, rfl⟩, rfl⟩
 refine Tops_step rfl (OpT_not rfl rfl rfl rfl) ?_
 refine Tops_nil (Tk_wkS (fr' := [(0, some (.pointer (some ⟨b_m, 0, none⟩))), (5, some (vB (!made1)))]) (own' := [some (cellsR b_m 78 [vm1, vm2]), some (rowsX u8S true vm2 vsm1 m.b none)]) (shr' := [Fact.sl RegionS vm1 m.l]) [0, 5] [0, 1] [0] rfl rfl rfl rfl ?_)
 refine Tk_condF (congrArg (fun b => some (Value.bool b)) (congrArg (!·) (Option.some.inj (show some true = some made1 from hx1)).symm)) ?_
 refine Tk_skip (Tk_seq (Tk_region (Tops_step rfl (OpT_move rfl rfl rfl rfl) ?_)))
 refine Tops_step rfl (OpT_nilCheckP rfl rfl rfl rfl) ?_
 refine Tops_step rfl (OpT_fieldC rfl rfl rfl rfl fldF78x1) ?_
 refine Tops_step rfl (OpT_loadC rfl rfl rfl rfl tyF76 (i := 0) rfl rfl) ?_
 obtain ⟨concat1, hx2, h⟩ := ob_e h
 refine Tops_exP rfl (OpT_callB [1] [0, 1, 2] (w_slices_Concat_bytebyte hx2) [] rfl rfl rfl rfl rfl callee39 rfl rfl rfl rfl rfl rfl (bor_cons (bor_rows 1 rfl rfl) bor_nil) (by rintro _ _ _ ⟨_, rfl, rfl, rfl⟩; exact ⟨rfl, (ri_cons (ri_row (S := u8S) rfl _ _) ri_nil)⟩)) ?_
 rintro _ ⟨v1, _, _, ⟨_, rfl, rfl, rfl⟩, rfl⟩
 refine Tops_step rfl (OpT_assign rfl rfl rfl rfl) ?_
 refine Tops_nil (Tk_wkS (fr' := [(2, some (v1))]) (own' := [some (cellsR b_m 78 [vm1, vm2]), some (rowsX u8S true vm2 vsm1 m.b none), some (rowS u8S v1 concat1)]) (shr' := [Fact.sl RegionS vm1 m.l]) [2] [0, 1, 2] [0] rfl rfl rfl rfl ?_)
 obtain rfl := Option.some.inj h
 exact Tk_retV rfl rfl (resA (vs := [v1]) rfl ⟨rfl, trivial⟩) [0, 1, 2] [] rfl rfl rfl ⟨v1, rfl, rfl, rfl⟩

end Go.Proofs.Ytdaijemhibbgeaa
