/- The functions do what the plain words say: each is walked once. No statement of the seat is proved here; no condition. -/
import Derived.Test.YtdaijemhibbgeaaWa2
namespace Go.Proofs.Ytdaijemhibbgeaa
attribute [local irreducible] sub
set_option maxRecDepth 100000 in
set_option maxHeartbeats 4000000 in
theorem w_law25zmemory  {r : (List Region)} (h : law25zmemory = some r) :
  Ctr Try.prog 12 #[] [] []
   (fun rv own shr => ∃ (w1 : Value), rv = w1 ∧ own = [(rowS RegionS w1 r)] ∧ shr = []) := by
 unfold law25zmemory at h
 refine Ctr.mk (args := []) Try.func12 rfl rfl (fun R0 w0 B => ?_)
 refine Tk_seq (Tk_region (Tops_step rfl (OpT_assign rfl rfl rfl rfl) ?_))
 refine Tops_nil (Tk_wkS (fr' := []) (own' := []) (shr' := []) [] [] [] rfl rfl rfl rfl ?_)
 refine Tk_seq (Tk_region (Tops_step rfl (OpT_build (v := .agg #[vU64 (0 : UInt64), vU64 (16384 : UInt64)]) rfl rfl rfl rfl (bldV (by kernel_rfl))) ?_))
 refine Tops_ex rfl (OpT_buildSlice (S := RegionS) (xs := [(Region.mk (0 : UInt64) (16384 : UInt64))]) (css := [[vU64 (0 : UInt64), vU64 (16384 : UInt64)]]) (cs := [vU64 (0 : UInt64), vU64 (16384 : UInt64)]) (e := 75) rfl rfl rfl rfl (bldF slF38 (by decide) (by kernel_rfl)) rfl rfl rfl rfl (rel_plainD (S := RegionS) (xs := [(Region.mk (0 : UInt64) (16384 : UInt64))]) (css := [[vU64 (0 : UInt64), vU64 (16384 : UInt64)]]) rfl rfl)) fun v1 => ?_
 refine Tops_step rfl (OpT_assign rfl rfl rfl rfl) ?_
 refine Tops_nil (Tk_wkS (fr' := [(0, some (v1))]) (own' := [some (rowS RegionS v1 [(Region.mk (0 : UInt64) (16384 : UInt64))])]) (shr' := []) [0] [0] [] rfl rfl rfl rfl ?_)
 obtain rfl := Option.some.inj h
 exact Tk_retV rfl rfl (resA (vs := [v1]) rfl ⟨rfl, trivial⟩) [0] [] rfl rfl rfl ⟨v1, rfl, rfl, rfl⟩

set_option maxRecDepth 100000 in
set_option maxHeartbeats 4000000 in
theorem w_ref_Bytes23 {f : Frame} {vf1 : Value} {r : ((List UInt8) × Int)} (h : ref_Bytes23 f = some r) :
  Ctr Try.prog 14 #[.agg #[vU8 f.Dst.a0, vU8 f.Dst.a1, vU8 f.Dst.a2, vU8 f.Dst.a3, vU8 f.Dst.a4, vU8 f.Dst.a5, vU8 f.Src.a0, vU8 f.Src.a1, vU8 f.Src.a2, vU8 f.Src.a3, vU8 f.Src.a4, vU8 f.Src.a5, vI f.Vlan, vU16 f.Type_, vf1]] [] [Fact.sl u8S vf1 f.Data]
   (fun rv own shr => ∃ (w1 : Value), rv = .tuple #[w1, vI r.2] ∧ own = [(rowS u8S w1 r.1)] ∧ shr = []) := by
 unfold ref_Bytes23 at h
 refine Ctr.mk (args := [.agg #[vU8 f.Dst.a0, vU8 f.Dst.a1, vU8 f.Dst.a2, vU8 f.Dst.a3, vU8 f.Dst.a4, vU8 f.Dst.a5, vU8 f.Src.a0, vU8 f.Src.a1, vU8 f.Src.a2, vU8 f.Src.a3, vU8 f.Src.a4, vU8 f.Src.a5, vI f.Vlan, vU16 f.Type_, vf1]]) Try.func14 rfl rfl (fun R0 w0 B => ?_)
 refine Tk_seq (Tk_region (Tops_ex rfl (OpT_box rfl rfl rfl rfl) fun b1 => ?_))
 refine Tops_step rfl (OpT_assign rfl rfl rfl rfl) ?_
 refine Tops_step rfl (OpT_assign rfl rfl rfl rfl) ?_
 refine Tops_nil (Tk_wkS (fr' := [(1, some (.pointer (some ⟨b1, 0, none⟩)))]) (own' := [some (cellsR b1 26 [vU8 f.Dst.a0, vU8 f.Dst.a1, vU8 f.Dst.a2, vU8 f.Dst.a3, vU8 f.Dst.a4, vU8 f.Dst.a5, vU8 f.Src.a0, vU8 f.Src.a1, vU8 f.Src.a2, vU8 f.Src.a3, vU8 f.Src.a4, vU8 f.Src.a5, vI f.Vlan, vU16 f.Type_, vf1])]) (shr' := [Fact.sl u8S vf1 f.Data]) [1] [0] [0] rfl rfl rfl rfl ?_)
 refine Tk_seq (Tk_region (Tops_step rfl (OpT_loadCA (vs := [vU8 f.Dst.a0, vU8 f.Dst.a1, vU8 f.Dst.a2, vU8 f.Dst.a3, vU8 f.Dst.a4, vU8 f.Dst.a5, vU8 f.Src.a0, vU8 f.Src.a1, vU8 f.Src.a2, vU8 f.Src.a3, vU8 f.Src.a4, vU8 f.Src.a5, vI f.Vlan, vU16 f.Type_, vf1]) rfl rfl rfl rfl tyF26 (i := 0) rfl rfl rfl) ?_))
 obtain ⟨check1, hx1, h⟩ := ob_e h
 refine Tops_exP rfl (OpT_call (w_ref_Check23 hx1) [] [0] rfl rfl rfl rfl rfl callee8 rfl rfl rfl rfl) ?_
 rintro _ ⟨_, _, _, ⟨rfl, rfl, rfl⟩, rfl⟩
 refine Tops_step rfl (OpT_assign rfl rfl rfl rfl) ?_
 refine Tops_nil (Tk_wkS (fr' := [(1, some (.pointer (some ⟨b1, 0, none⟩))), (4, some (vI check1))]) (own' := [some (cellsR b1 26 [vU8 f.Dst.a0, vU8 f.Dst.a1, vU8 f.Dst.a2, vU8 f.Dst.a3, vU8 f.Dst.a4, vU8 f.Dst.a5, vU8 f.Src.a0, vU8 f.Src.a1, vU8 f.Src.a2, vU8 f.Src.a3, vU8 f.Src.a4, vU8 f.Src.a5, vI f.Vlan, vU16 f.Type_, vf1])]) (shr' := [Fact.sl u8S vf1 f.Data]) [1, 4] [0] [0] rfl rfl rfl rfl ?_)
 refine Tk_seq (Tk_seq (Tk_region (Tops_step rfl (OpT_move rfl rfl rfl rfl) ?_)))
 refine Tops_step rfl (OpT_bin rfl rfl rfl rfl rfl (bin_neq_i (a := check1) (b := (0 : Int)))) ?_
 refine Tops_nil (Tk_wkS (fr' := [(1, some (.pointer (some ⟨b1, 0, none⟩))), (4, some (vI check1)), (11, some (vB (check1 != (0 : Int))))]) (own' := [some (cellsR b1 26 [vU8 f.Dst.a0, vU8 f.Dst.a1, vU8 f.Dst.a2, vU8 f.Dst.a3, vU8 f.Dst.a4, vU8 f.Dst.a5, vU8 f.Src.a0, vU8 f.Src.a1, vU8 f.Src.a2, vU8 f.Src.a3, vU8 f.Src.a4, vU8 f.Src.a5, vI f.Vlan, vU16 f.Type_, vf1])]) (shr' := [Fact.sl u8S vf1 f.Data]) [1, 4, 11] [0] [0] rfl rfl rfl rfl ?_)
 rcases Bool.eq_false_or_eq_true (check1 != (0 : Int)) with hg1 | hg1
 ·replace h := br_t hg1 h
  refine Tk_condT (congrArg (fun b => some (Value.bool b)) hg1) ?_
  refine Tk_seq (Tk_region (Tops_step rfl (OpT_move rfl rfl rfl rfl) ?_))
  refine Tops_step rfl (OpT_assign rfl rfl rfl rfl) ?_
  refine Tops_step rfl (OpT_assign rfl rfl rfl rfl) ?_
  refine Tops_nil (Tk_wkS (fr' := [(2, some (.slice none 0 0)), (3, some (vI check1))]) (own' := []) (shr' := []) [2, 3] [] [] rfl rfl rfl rfl ?_)
  refine Tk_nilrow u8S ?_
  obtain rfl := Option.some.inj h
  exact Tk_retV rfl rfl (resA (vs := [.slice none 0 0, vI check1]) rfl ⟨rfl, rfl, trivial⟩) [0] [] rfl rfl rfl ⟨(.slice none 0 0), rfl, rfl, rfl⟩
 ·replace h := br_f hg1 h
  refine Tk_condF (congrArg (fun b => some (Value.bool b)) hg1) ?_
  refine Tk_skip (Tk_seq (Tk_region (Tops_step rfl (OpT_assign rfl rfl rfl rfl) ?_)))
  refine Tops_nil (Tk_wkS (fr' := [(1, some (.pointer (some ⟨b1, 0, none⟩))), (5, some (.slice none 0 0))]) (own' := [some (cellsR b1 26 [vU8 f.Dst.a0, vU8 f.Dst.a1, vU8 f.Dst.a2, vU8 f.Dst.a3, vU8 f.Dst.a4, vU8 f.Dst.a5, vU8 f.Src.a0, vU8 f.Src.a1, vU8 f.Src.a2, vU8 f.Src.a3, vU8 f.Src.a4, vU8 f.Src.a5, vI f.Vlan, vU16 f.Type_, vf1])]) (shr' := [Fact.sl u8S vf1 f.Data]) [1, 5] [0] [0] rfl rfl rfl rfl ?_)
  refine Tk_seq (Tk_seq (Tk_region (Tops_step rfl (OpT_assign rfl rfl rfl rfl) ?_)))
  refine Tops_nil (Tk_block (Tk_nilrow u8S ?_))
  refine Tk_loopS (σ := (A6 UInt8) × (A6 UInt8) × Int × UInt16 × (List UInt8) × (List UInt8) × Int × Value × Value) [1, 5, 6] [0, 1] [0] (fun s => ⟨[(1, some (.pointer (some ⟨b1, 0, none⟩))), (5, some (s.2.2.2.2.2.2.2.2)), (6, some (vI s.2.2.2.2.2.2.1))], [some (cellsR b1 26 [vU8 s.1.a0, vU8 s.1.a1, vU8 s.1.a2, vU8 s.1.a3, vU8 s.1.a4, vU8 s.1.a5, vU8 s.2.1.a0, vU8 s.2.1.a1, vU8 s.2.1.a2, vU8 s.2.1.a3, vU8 s.2.1.a4, vU8 s.2.1.a5, vI s.2.2.1, vU16 s.2.2.2.1, s.2.2.2.2.2.2.2.1]), some (rowS u8S s.2.2.2.2.2.2.2.2 s.2.2.2.2.2.1)], [Fact.sl u8S s.2.2.2.2.2.2.2.1 s.2.2.2.2.1]⟩) (fun nf1 s => ref_Bytes23L1 nf1 s.1 s.2.1 s.2.2.1 s.2.2.2.1 s.2.2.2.2.1 s.2.2.2.2.2.1 s.2.2.2.2.2.2.1 = some r) fuel (f.Dst, f.Src, f.Vlan, f.Type_, f.Data, [], (0 : Int), vf1, (.slice none 0 0)) h rfl rfl rfl rfl rfl (fun s h => by cases h) ?_
  rintro nf1 ⟨Dst1, Src1, Vlan1, Type1, Data1, b2, i1, v1, v2⟩ h
  replace h : ref_Bytes23L1B (ref_Bytes23L1 nf1) Dst1 Src1 Vlan1 Type1 Data1 b2 i1 = some r := h
  unfold ref_Bytes23L1B at h
  refine Tk_seq (Tk_seq (Tk_region (Tops_step rfl (OpT_move rfl rfl rfl rfl) ?_)))
  refine Tops_step rfl (OpT_bin rfl rfl rfl rfl rfl (bin_lss_i (a := i1) (b := (6 : Int)))) ?_
  refine Tops_nil (Tk_wkS (fr' := [(1, some (.pointer (some ⟨b1, 0, none⟩))), (5, some (v2)), (6, some (vI i1)), (14, some (vB (decide (i1 < (6 : Int)))))]) (own' := [some (cellsR b1 26 [vU8 Dst1.a0, vU8 Dst1.a1, vU8 Dst1.a2, vU8 Dst1.a3, vU8 Dst1.a4, vU8 Dst1.a5, vU8 Src1.a0, vU8 Src1.a1, vU8 Src1.a2, vU8 Src1.a3, vU8 Src1.a4, vU8 Src1.a5, vI Vlan1, vU16 Type1, v1]), some (rowS u8S v2 b2)]) (shr' := [Fact.sl u8S v1 Data1]) [1, 5, 6, 14] [0, 1] [0] rfl rfl rfl rfl ?_)
  rcases Bool.eq_false_or_eq_true (decide (i1 < (6 : Int))) with hg2 | hg2
  ·replace h := br_t hg2 h
   refine Tk_condT (congrArg (fun b => some (Value.bool b)) hg2) ?_
   refine Tk_skip (Tk_seq (Tk_block (Tk_region (Tops_step rfl (OpT_move rfl rfl rfl rfl) ?_))))
   refine Tops_step rfl (OpT_move rfl rfl rfl rfl) ?_
   refine Tops_step rfl (OpT_fieldC rfl rfl rfl rfl fldF26x0) ?_
   obtain ⟨hc1, h⟩ := chk_e h
   refine Tops_step rfl (OpT_indexC rfl rfl rfl rfl rfl arrF22 hc1) ?_
   obtain ⟨u1, hx2, h⟩ := ob_e h
   refine Tops_step rfl (OpT_loadX1 vU8 [Dst1.a0, Dst1.a1, Dst1.a2, Dst1.a3, Dst1.a4, Dst1.a5] [] [vU8 Src1.a0, vU8 Src1.a1, vU8 Src1.a2, vU8 Src1.a3, vU8 Src1.a4, vU8 Src1.a5, vI Vlan1, vU16 Type1, v1] rfl rfl rfl rfl tyF5 (i := 0) rfl rfl rfl hx2) ?_
   refine Tops_ex rfl (OpT_buildSlice (S := u8S) (xs := [u1]) (css := [[vU8 u1]]) (cs := [vU8 u1]) (e := 5) rfl rfl rfl rfl (bldF slF24 (by decide) (by kernel_rfl)) rfl rfl rfl rfl (rel_plainD (S := u8S) (xs := [u1]) (css := [[vU8 u1]]) rfl rfl)) fun v3 => ?_
   obtain ⟨hc2, h⟩ := chk_e h
   refine Tops_ex rfl (OpT_appendB (S := u8S) rfl rfl rfl rfl rfl rfl slF24 (i := 1) (j := 2) rfl rfl hc2) fun v4 => ?_
   refine Tops_step rfl (OpT_assign rfl rfl rfl rfl) ?_
   refine Tops_nil (Tk_wkS (fr' := [(1, some (.pointer (some ⟨b1, 0, none⟩))), (5, some (v4)), (6, some (vI i1))]) (own' := [some (cellsR b1 26 [vU8 Dst1.a0, vU8 Dst1.a1, vU8 Dst1.a2, vU8 Dst1.a3, vU8 Dst1.a4, vU8 Dst1.a5, vU8 Src1.a0, vU8 Src1.a1, vU8 Src1.a2, vU8 Src1.a3, vU8 Src1.a4, vU8 Src1.a5, vI Vlan1, vU16 Type1, v1]), some (rowS u8S v4 (b2 ++ [u1]))]) (shr' := [Fact.sl u8S v1 Data1]) [1, 5, 6] [0, 1] [0] rfl rfl rfl rfl ?_)
   refine Tk_blk (Tk_region (Tops_step rfl (OpT_move rfl rfl rfl rfl) ?_))
   refine Tops_step rfl (OpT_bin rfl rfl rfl rfl rfl (bin_add_i (a := i1) (b := (1 : Int)))) ?_
   refine Tops_step rfl (OpT_assign rfl rfl rfl rfl) ?_
   refine Tops_nil (Tk_wkS (fr' := [(1, some (.pointer (some ⟨b1, 0, none⟩))), (5, some (v4)), (6, some (vI (wi (i1 + (1 : Int)))))]) (own' := [some (cellsR b1 26 [vU8 Dst1.a0, vU8 Dst1.a1, vU8 Dst1.a2, vU8 Dst1.a3, vU8 Dst1.a4, vU8 Dst1.a5, vU8 Src1.a0, vU8 Src1.a1, vU8 Src1.a2, vU8 Src1.a3, vU8 Src1.a4, vU8 Src1.a5, vI Vlan1, vU16 Type1, v1]), some (rowS u8S v4 (b2 ++ [u1]))]) (shr' := [Fact.sl u8S v1 Data1]) [1, 5, 6] [0, 1] [0] rfl rfl rfl rfl ?_)
   exact Tk_backS (Dst1, Src1, Vlan1, Type1, Data1, b2 ++ [u1], wi (i1 + (1 : Int)), v1, v4) h [1, 5, 6] [0, 1] [0] rfl rfl rfl rfl rfl
  ·replace h := br_f hg2 h
   refine Tk_condF (congrArg (fun b => some (Value.bool b)) hg2) ?_
   refine Tk_exit _ rfl ?_
   refine Tk_seq (Tk_seq (Tk_region (Tops_step rfl (OpT_assign rfl rfl rfl rfl) ?_)))
   refine Tops_nil (Tk_wkS (fr' := [(1, some (.pointer (some ⟨b1, 0, none⟩))), (5, some (v2)), (7, some (vI (0 : Int)))]) (own' := [some (cellsR b1 26 [vU8 Dst1.a0, vU8 Dst1.a1, vU8 Dst1.a2, vU8 Dst1.a3, vU8 Dst1.a4, vU8 Dst1.a5, vU8 Src1.a0, vU8 Src1.a1, vU8 Src1.a2, vU8 Src1.a3, vU8 Src1.a4, vU8 Src1.a5, vI Vlan1, vU16 Type1, v1]), some (rowS u8S v2 b2)]) (shr' := [Fact.sl u8S v1 Data1]) [1, 5, 7] [0, 1] [0] rfl rfl rfl rfl ?_)
   refine Tk_block (Tk_loopS (σ := (A6 UInt8) × (A6 UInt8) × Int × UInt16 × (List UInt8) × (List UInt8) × Int × Value × Value) [1, 5, 7] [0, 1] [0] (fun s => ⟨[(1, some (.pointer (some ⟨b1, 0, none⟩))), (5, some (s.2.2.2.2.2.2.2.2)), (7, some (vI s.2.2.2.2.2.2.1))], [some (cellsR b1 26 [vU8 s.1.a0, vU8 s.1.a1, vU8 s.1.a2, vU8 s.1.a3, vU8 s.1.a4, vU8 s.1.a5, vU8 s.2.1.a0, vU8 s.2.1.a1, vU8 s.2.1.a2, vU8 s.2.1.a3, vU8 s.2.1.a4, vU8 s.2.1.a5, vI s.2.2.1, vU16 s.2.2.2.1, s.2.2.2.2.2.2.2.1]), some (rowS u8S s.2.2.2.2.2.2.2.2 s.2.2.2.2.2.1)], [Fact.sl u8S s.2.2.2.2.2.2.2.1 s.2.2.2.2.1]⟩) (fun nf2 s => ref_Bytes23L2 nf2 s.1 s.2.1 s.2.2.1 s.2.2.2.1 s.2.2.2.2.1 s.2.2.2.2.2.1 s.2.2.2.2.2.2.1 = some r) fuel (Dst1, Src1, Vlan1, Type1, Data1, b2, (0 : Int), v1, v2) h rfl rfl rfl rfl rfl (fun s h => by cases h) ?_)
   rintro nf2 ⟨Dst2, Src2, Vlan2, Type2, Data2, b3, i2, v5, v6⟩ h
   replace h : ref_Bytes23L2B (ref_Bytes23L2 nf2) Dst2 Src2 Vlan2 Type2 Data2 b3 i2 = some r := h
   unfold ref_Bytes23L2B at h
   refine Tk_seq (Tk_seq (Tk_region (Tops_step rfl (OpT_move rfl rfl rfl rfl) ?_)))
   refine Tops_step rfl (OpT_bin rfl rfl rfl rfl rfl (bin_lss_i (a := i2) (b := (6 : Int)))) ?_
   refine Tops_nil (Tk_wkS (fr' := [(1, some (.pointer (some ⟨b1, 0, none⟩))), (5, some (v6)), (7, some (vI i2)), (25, some (vB (decide (i2 < (6 : Int)))))]) (own' := [some (cellsR b1 26 [vU8 Dst2.a0, vU8 Dst2.a1, vU8 Dst2.a2, vU8 Dst2.a3, vU8 Dst2.a4, vU8 Dst2.a5, vU8 Src2.a0, vU8 Src2.a1, vU8 Src2.a2, vU8 Src2.a3, vU8 Src2.a4, vU8 Src2.a5, vI Vlan2, vU16 Type2, v5]), some (rowS u8S v6 b3)]) (shr' := [Fact.sl u8S v5 Data2]) [1, 5, 7, 25] [0, 1] [0] rfl rfl rfl rfl ?_)
   rcases Bool.eq_false_or_eq_true (decide (i2 < (6 : Int))) with hg3 | hg3
   ·replace h := br_t hg3 h
    refine Tk_condT (congrArg (fun b => some (Value.bool b)) hg3) ?_
    refine Tk_skip (Tk_seq (Tk_block (Tk_region (Tops_step rfl (OpT_move rfl rfl rfl rfl) ?_))))
    refine Tops_step rfl (OpT_move rfl rfl rfl rfl) ?_
    refine Tops_step rfl (OpT_fieldC rfl rfl rfl rfl fldF26x1) ?_
    obtain ⟨hc3, h⟩ := chk_e h
    refine Tops_step rfl (OpT_indexC rfl rfl rfl rfl rfl arrF22 hc3) ?_
    obtain ⟨u2, hx3, h⟩ := ob_e h
    refine Tops_step rfl (OpT_loadX1 vU8 [Src2.a0, Src2.a1, Src2.a2, Src2.a3, Src2.a4, Src2.a5] [vU8 Dst2.a0, vU8 Dst2.a1, vU8 Dst2.a2, vU8 Dst2.a3, vU8 Dst2.a4, vU8 Dst2.a5] [vI Vlan2, vU16 Type2, v5] rfl rfl rfl rfl tyF5 (i := 0) rfl rfl rfl hx3) ?_
    refine Tops_ex rfl (OpT_buildSlice (S := u8S) (xs := [u2]) (css := [[vU8 u2]]) (cs := [vU8 u2]) (e := 5) rfl rfl rfl rfl (bldF slF24 (by decide) (by kernel_rfl)) rfl rfl rfl rfl (rel_plainD (S := u8S) (xs := [u2]) (css := [[vU8 u2]]) rfl rfl)) fun v7 => ?_
    obtain ⟨hc4, h⟩ := chk_e h
    refine Tops_ex rfl (OpT_appendB (S := u8S) rfl rfl rfl rfl rfl rfl slF24 (i := 1) (j := 2) rfl rfl hc4) fun v8 => ?_
    refine Tops_step rfl (OpT_assign rfl rfl rfl rfl) ?_
    refine Tops_nil (Tk_wkS (fr' := [(1, some (.pointer (some ⟨b1, 0, none⟩))), (5, some (v8)), (7, some (vI i2))]) (own' := [some (cellsR b1 26 [vU8 Dst2.a0, vU8 Dst2.a1, vU8 Dst2.a2, vU8 Dst2.a3, vU8 Dst2.a4, vU8 Dst2.a5, vU8 Src2.a0, vU8 Src2.a1, vU8 Src2.a2, vU8 Src2.a3, vU8 Src2.a4, vU8 Src2.a5, vI Vlan2, vU16 Type2, v5]), some (rowS u8S v8 (b3 ++ [u2]))]) (shr' := [Fact.sl u8S v5 Data2]) [1, 5, 7] [0, 1] [0] rfl rfl rfl rfl ?_)
    refine Tk_blk (Tk_region (Tops_step rfl (OpT_move rfl rfl rfl rfl) ?_))
    refine Tops_step rfl (OpT_bin rfl rfl rfl rfl rfl (bin_add_i (a := i2) (b := (1 : Int)))) ?_
    refine Tops_step rfl (OpT_assign rfl rfl rfl rfl) ?_
    refine Tops_nil (Tk_wkS (fr' := [(1, some (.pointer (some ⟨b1, 0, none⟩))), (5, some (v8)), (7, some (vI (wi (i2 + (1 : Int)))))]) (own' := [some (cellsR b1 26 [vU8 Dst2.a0, vU8 Dst2.a1, vU8 Dst2.a2, vU8 Dst2.a3, vU8 Dst2.a4, vU8 Dst2.a5, vU8 Src2.a0, vU8 Src2.a1, vU8 Src2.a2, vU8 Src2.a3, vU8 Src2.a4, vU8 Src2.a5, vI Vlan2, vU16 Type2, v5]), some (rowS u8S v8 (b3 ++ [u2]))]) (shr' := [Fact.sl u8S v5 Data2]) [1, 5, 7] [0, 1] [0] rfl rfl rfl rfl ?_)
    exact Tk_backS (Dst2, Src2, Vlan2, Type2, Data2, b3 ++ [u2], wi (i2 + (1 : Int)), v5, v8) h [1, 5, 7] [0, 1] [0] rfl rfl rfl rfl rfl
   ·replace h := br_f hg3 h
    refine Tk_condF (congrArg (fun b => some (Value.bool b)) hg3) ?_
    refine Tk_exit _ rfl ?_
    refine Tk_seq (Tk_seq (Tk_region (Tops_step rfl (OpT_fieldC rfl rfl rfl rfl fldF26x2) ?_)))
    refine Tops_step rfl (OpT_loadC rfl rfl rfl rfl tyF3 (i := 0) rfl rfl) ?_
    refine Tops_step rfl (OpT_bin rfl rfl rfl rfl rfl (bin_geq_i (a := Vlan2) (b := (0 : Int)))) ?_
    refine Tops_nil (Tk_wkS (fr' := [(1, some (.pointer (some ⟨b1, 0, none⟩))), (5, some (v6)), (37, some (vB (decide (Vlan2 ≥ (0 : Int)))))]) (own' := [some (cellsR b1 26 [vU8 Dst2.a0, vU8 Dst2.a1, vU8 Dst2.a2, vU8 Dst2.a3, vU8 Dst2.a4, vU8 Dst2.a5, vU8 Src2.a0, vU8 Src2.a1, vU8 Src2.a2, vU8 Src2.a3, vU8 Src2.a4, vU8 Src2.a5, vI Vlan2, vU16 Type2, v5]), some (rowS u8S v6 b3)]) (shr' := [Fact.sl u8S v5 Data2]) [1, 5, 37] [0, 1] [0] rfl rfl rfl rfl ?_)
    refine Tk_join (α := (A6 UInt8) × (A6 UInt8) × Int × UInt16 × (List UInt8) × (List UInt8) × Value × Value) (fun s => ⟨[(1, some (.pointer (some ⟨b1, 0, none⟩))), (5, some (s.2.2.2.2.2.2.2))], [some (cellsR b1 26 [vU8 s.1.a0, vU8 s.1.a1, vU8 s.1.a2, vU8 s.1.a3, vU8 s.1.a4, vU8 s.1.a5, vU8 s.2.1.a0, vU8 s.2.1.a1, vU8 s.2.1.a2, vU8 s.2.1.a3, vU8 s.2.1.a4, vU8 s.2.1.a5, vI s.2.2.1, vU16 s.2.2.2.1, s.2.2.2.2.2.2.1]), some (rowS u8S s.2.2.2.2.2.2.2 s.2.2.2.2.2.1)], [Fact.sl u8S s.2.2.2.2.2.2.1 s.2.2.2.2.1]⟩) (fun s => ref_Bytes23J3 s.1 s.2.1 s.2.2.1 s.2.2.2.1 s.2.2.2.2.1 s.2.2.2.2.2.1 = some r) ?_ ?_
    ·rintro ⟨Dst3, Src3, Vlan3, Type3, Data3, b4, v9, v10⟩ h
     replace h : ref_Bytes23J3 Dst3 Src3 Vlan3 Type3 Data3 b4 = some r := h
     unfold ref_Bytes23J3 at h
     refine Tk_seq (Tk_drawT (by kernel_rfl) ?_)
     refine TA_tb [0, 0, 2, 6, 14, 0, 32, 96, 254, 511, 0, 1024, 4095, 8191, 16383] (by kernel_rfl) fun htb => ?_
     obtain ⟨hc5, h⟩ := chk_e h
     refine TA_seg (lo := 0) (hi := 12) htb rfl rfl (by kernel_rfl) (fun c L a w => ∃ (v11 : Value), ∃ (v12 : Value), Sat c ⟨[(1, some (.pointer (some ⟨b1, 0, none⟩))), (5, some (v10)), (48, bif L 0 then some (v10) else none), (49, bif L 1 then some (.pointer (some ⟨b1, 13, none⟩)) else none), (50, bif L 2 then some (vU16 Type3) else none), (51, bif L 3 then some (vU16 (shr16 Type3 ((8 : UInt64).toNat))) else none), (52, bif L 4 then some (vU8 ((shr16 Type3 ((8 : UInt64).toNat)).toUInt8)) else none), (53, bif L 5 then some (.pointer (some ⟨b1, 13, none⟩)) else none), (54, bif L 6 then some (vU16 Type3) else none), (55, bif L 7 then some (vU8 Type3.toUInt8) else none), (56, bif L 8 then some (v11) else none), (57, bif L 9 then some (v12) else none), (58, bif L 10 then some (.pointer (some ⟨b1, 14, none⟩)) else none), (59, bif L 11 then some (v9) else none)], [(some (cellsR b1 26 [vU8 Dst3.a0, vU8 Dst3.a1, vU8 Dst3.a2, vU8 Dst3.a3, vU8 Dst3.a4, vU8 Dst3.a5, vU8 Src3.a0, vU8 Src3.a1, vU8 Src3.a2, vU8 Src3.a3, vU8 Src3.a4, vU8 Src3.a5, vI Vlan3, vU16 Type3, v9]) : Option Res), (bif L 9 then some (rowS u8S v12 (b4 ++ [(shr16 Type3 ((8 : UInt64).toNat)).toUInt8, Type3.toUInt8])) else some (rowS u8S v10 b4) : Option Res), (bif L 8 then some (rowS u8S v11 [(shr16 Type3 ((8 : UInt64).toNat)).toUInt8, Type3.toUInt8]) else none : Option Res)], [Fact.sl u8S v9 Data3]⟩ a w) [([], [9]), ([], [2, 3, 4, 8, 9]), ([1], [3, 4, 8, 9]), ([1, 2], [4, 8, 9]), ([1, 2, 3], [8, 9]), ([], [6, 7, 8, 9]), ([5], [7, 8, 9]), ([5, 6], [8, 9]), ([1, 2, 3, 4, 5, 6, 7], [9]), ([0, 1, 2, 3, 4, 5, 6, 7, 8], []), ([], [11]), ([10], [])] rfl (by kernel_rfl) ?_ (steps_cons ?_ (steps_cons ?_ (steps_cons ?_ (steps_cons ?_ (steps_cons ?_ (steps_cons ?_ (steps_cons ?_ (steps_cons ?_ (steps_cons ?_ (steps_cons ?_ (steps_cons ?_ (steps_cons ?_ (steps_nil))))))))))))) ?_
     ·intro a w hs
      exact ⟨undef, undef, hs.startF [48, 49, 50, 51, 52, 53, 54, 55, 56, 57, 58, 59] [0, 1, 2] [0] rfl rfl rfl rfl⟩
     ·intro L a w hv K Q hK
      obtain ⟨v11, v12, hs⟩ := hv
      refine wpOp_go rfl rfl hs (OpT_move rfl rfl rfl rfl) ?_
      rintro _ rfl a' w' hs'
      exact hK a' w' ⟨v11, v12, hs'.putF (i := 2) rfl [0, 1, 2] [0] rfl rfl rfl rfl⟩
     ·intro L a w hv K Q hK
      obtain ⟨v11, v12, hs⟩ := hv
      refine wpOp_go rfl rfl hs (OpT_fieldC rfl rfl rfl rfl fldF26x3) ?_
      rintro _ rfl a' w' hs'
      exact hK a' w' ⟨v11, v12, hs'.putF (i := 3) rfl [0, 1, 2] [0] rfl rfl rfl rfl⟩
     ·intro L a w hv K Q hK
      obtain ⟨v11, v12, hs⟩ := hv
      refine wpOp_go rfl rfl hs (OpT_loadC rfl rfl rfl rfl tyF23 (i := 0) rfl rfl) ?_
      rintro _ rfl a' w' hs'
      exact hK a' w' ⟨v11, v12, hs'.putF (i := 4) rfl [0, 1, 2] [0] rfl rfl rfl rfl⟩
     ·intro L a w hv K Q hK
      obtain ⟨v11, v12, hs⟩ := hv
      refine wpOp_go rfl rfl hs (OpT_bin rfl rfl rfl rfl rfl (bin_shr_u16_u64 (a := Type3) (n := (8 : UInt64)))) ?_
      rintro _ rfl a' w' hs'
      exact hK a' w' ⟨v11, v12, hs'.putF (i := 5) rfl [0, 1, 2] [0] rfl rfl rfl rfl⟩
     ·intro L a w hv K Q hK
      obtain ⟨v11, v12, hs⟩ := hv
      refine wpOp_go rfl rfl hs (OpT_cnv rfl rfl rfl rfl (cnv_u16_u8 (n := shr16 Type3 ((8 : UInt64).toNat)) Try.underlying23 Try.underlying5)) ?_
      rintro _ rfl a' w' hs'
      exact hK a' w' ⟨v11, v12, hs'.putF (i := 6) rfl [0, 1, 2] [0] rfl rfl rfl rfl⟩
     ·intro L a w hv K Q hK
      obtain ⟨v11, v12, hs⟩ := hv
      refine wpOp_go rfl rfl hs (OpT_fieldC rfl rfl rfl rfl fldF26x3) ?_
      rintro _ rfl a' w' hs'
      exact hK a' w' ⟨v11, v12, hs'.putF (i := 7) rfl [0, 1, 2] [0] rfl rfl rfl rfl⟩
     ·intro L a w hv K Q hK
      obtain ⟨v11, v12, hs⟩ := hv
      refine wpOp_go rfl rfl hs (OpT_loadC rfl rfl rfl rfl tyF23 (i := 0) rfl rfl) ?_
      rintro _ rfl a' w' hs'
      exact hK a' w' ⟨v11, v12, hs'.putF (i := 8) rfl [0, 1, 2] [0] rfl rfl rfl rfl⟩
     ·intro L a w hv K Q hK
      obtain ⟨v11, v12, hs⟩ := hv
      refine wpOp_go rfl rfl hs (OpT_cnv rfl rfl rfl rfl (cnv_u16_u8 (n := Type3) Try.underlying23 Try.underlying5)) ?_
      rintro _ rfl a' w' hs'
      exact hK a' w' ⟨v11, v12, hs'.putF (i := 9) rfl [0, 1, 2] [0] rfl rfl rfl rfl⟩
     ·intro L a w hv K Q hK
      obtain ⟨v11, v12, hs⟩ := hv
      refine wpOp_go rfl rfl hs (OpT_buildSlice (S := u8S) (xs := [(shr16 Type3 ((8 : UInt64).toNat)).toUInt8, Type3.toUInt8]) (css := [[vU8 ((shr16 Type3 ((8 : UInt64).toNat)).toUInt8)], [vU8 Type3.toUInt8]]) (cs := [vU8 ((shr16 Type3 ((8 : UInt64).toNat)).toUInt8), vU8 Type3.toUInt8]) (e := 5) rfl rfl rfl rfl (bldF slF24 (by decide) (by kernel_rfl)) rfl rfl rfl rfl (rel_plainD (S := u8S) (xs := [(shr16 Type3 ((8 : UInt64).toNat)).toUInt8, Type3.toUInt8]) (css := [[vU8 ((shr16 Type3 ((8 : UInt64).toNat)).toUInt8)], [vU8 Type3.toUInt8]]) rfl rfl)) ?_
      rintro _ ⟨v11', rfl⟩ a' w' hs'
      exact hK a' w' ⟨v11', v12, hs'.putF (i := 10) rfl [0, 1, 3] [0] rfl rfl rfl rfl⟩
     ·intro L a w hv K Q hK
      obtain ⟨v11, v12, hs⟩ := hv
      refine wpOp_go rfl rfl hs (OpT_appendB (S := u8S) rfl rfl rfl rfl rfl rfl slF24 (i := 1) (j := 2) rfl rfl hc5) ?_
      rintro _ ⟨v12', rfl⟩ a' w' hs'
      exact hK a' w' ⟨v11, v12', hs'.putF (i := 11) rfl [0, 1, 2] [0] rfl rfl rfl rfl⟩
     ·intro L a w hv K Q hK
      obtain ⟨v11, v12, hs⟩ := hv
      refine wpOp_go rfl rfl hs (OpT_fieldC rfl rfl rfl rfl fldF26x4) ?_
      rintro _ rfl a' w' hs'
      exact hK a' w' ⟨v11, v12, hs'.putF (i := 12) rfl [0, 1, 2] [0] rfl rfl rfl rfl⟩
     ·intro L a w hv K Q hK
      obtain ⟨v11, v12, hs⟩ := hv
      refine wpOp_go rfl rfl hs (OpT_loadC rfl rfl rfl rfl tyF24 (i := 0) rfl rfl) ?_
      rintro _ rfl a' w' hs'
      exact hK a' w' ⟨v11, v12, hs'.putF (i := 13) rfl [0, 1, 2] [0] rfl rfl rfl rfl⟩
     ·intro L a w hL hv
      rw [allTrue hL] at hv
      obtain ⟨v11, v12, hs⟩ := hv
      refine (show TA _ _ _ 12 ⟨[(57, some (v12)), (59, some (v9))], [some (rowS u8S v12 (b4 ++ [(shr16 Type3 ((8 : UInt64).toNat)).toUInt8, Type3.toUInt8]))], [Fact.sl u8S v9 Data3]⟩ from ?_) a w (hs.wkS [57, 59] [1] [0] rfl rfl rfl rfl)
      clear hs hL
      obtain ⟨hc6, h⟩ := chk_e h
      refine TA_ex htb (by kernel_rfl) rfl rfl (OpT_append rfl rfl rfl rfl rfl slF24 (i := 0) (j := 0) rfl rfl hc6) fun v13 => ?_
      refine TA_step htb (by kernel_rfl) rfl rfl (OpT_assign rfl rfl rfl rfl) ?_
      refine TA_step htb (by kernel_rfl) rfl rfl (OpT_assign rfl rfl rfl rfl) ?_
      refine TA_end rfl ?_
      refine Tk_wkS (fr' := [(2, some (v13)), (3, some (vI (0 : Int)))]) (own' := [some (rowS u8S v13 ((b4 ++ [(shr16 Type3 ((8 : UInt64).toNat)).toUInt8, Type3.toUInt8]) ++ Data3))]) (shr' := []) [2, 3] [0] [] rfl rfl rfl rfl ?_
      obtain rfl := Option.some.inj h
      exact Tk_retV rfl rfl (resA (vs := [v13, vI (0 : Int)]) rfl ⟨rfl, rfl, trivial⟩) [0] [] rfl rfl rfl ⟨v13, rfl, rfl, rfl⟩
    ·intro HJ1
     rcases Bool.eq_false_or_eq_true (decide (Vlan2 ≥ (0 : Int))) with hg4 | hg4
     ·replace h := br_t hg4 h
      refine Tk_condT (congrArg (fun b => some (Value.bool b)) hg4) ?_
      refine Tk_region (Tops_step rfl (OpT_move rfl rfl rfl rfl) ?_)
      refine Tops_step rfl (OpT_fieldC rfl rfl rfl rfl fldF26x2) ?_
      refine Tops_step rfl (OpT_loadC rfl rfl rfl rfl tyF3 (i := 0) rfl rfl) ?_
      refine Tops_step rfl (OpT_bin rfl rfl rfl rfl rfl (bin_shr_i_u64 (a := Vlan2) (n := (8 : UInt64)))) ?_
      refine Tops_step rfl (OpT_cnv rfl rfl rfl rfl (cnv_i_u8 (n := shri Vlan2 ((8 : UInt64).toNat)) Try.underlying3 Try.underlying5)) ?_
      refine Tops_step rfl (OpT_fieldC rfl rfl rfl rfl fldF26x2) ?_
      refine Tops_step rfl (OpT_loadC rfl rfl rfl rfl tyF3 (i := 0) rfl rfl) ?_
      refine Tops_step rfl (OpT_cnv rfl rfl rfl rfl (cnv_i_u8 (n := Vlan2) Try.underlying3 Try.underlying5)) ?_
      refine Tops_ex rfl (OpT_buildSlice (S := u8S) (xs := [(129 : UInt8), (0 : UInt8), u8 (shri Vlan2 ((8 : UInt64).toNat)), u8 Vlan2]) (css := [[vU8 (129 : UInt8)], [vU8 (0 : UInt8)], [vU8 (u8 (shri Vlan2 ((8 : UInt64).toNat)))], [vU8 (u8 Vlan2)]]) (cs := [vU8 (129 : UInt8), vU8 (0 : UInt8), vU8 (u8 (shri Vlan2 ((8 : UInt64).toNat))), vU8 (u8 Vlan2)]) (e := 5) rfl rfl rfl rfl (bldF slF24 (by decide) (by kernel_rfl)) rfl rfl rfl rfl (rel_plainD (S := u8S) (xs := [(129 : UInt8), (0 : UInt8), u8 (shri Vlan2 ((8 : UInt64).toNat)), u8 Vlan2]) (css := [[vU8 (129 : UInt8)], [vU8 (0 : UInt8)], [vU8 (u8 (shri Vlan2 ((8 : UInt64).toNat)))], [vU8 (u8 Vlan2)]]) rfl rfl)) fun v14 => ?_
      obtain ⟨hc7, h⟩ := chk_e h
      refine Tops_ex rfl (OpT_appendB (S := u8S) rfl rfl rfl rfl rfl rfl slF24 (i := 1) (j := 2) rfl rfl hc7) fun v15 => ?_
      refine Tops_step rfl (OpT_assign rfl rfl rfl rfl) ?_
      refine Tops_nil (Tk_wkS (fr' := [(1, some (.pointer (some ⟨b1, 0, none⟩))), (5, some (v15))]) (own' := [some (cellsR b1 26 [vU8 Dst2.a0, vU8 Dst2.a1, vU8 Dst2.a2, vU8 Dst2.a3, vU8 Dst2.a4, vU8 Dst2.a5, vU8 Src2.a0, vU8 Src2.a1, vU8 Src2.a2, vU8 Src2.a3, vU8 Src2.a4, vU8 Src2.a5, vI Vlan2, vU16 Type2, v5]), some (rowS u8S v15 (b3 ++ [(129 : UInt8), (0 : UInt8), u8 (shri Vlan2 ((8 : UInt64).toNat)), u8 Vlan2]))]) (shr' := [Fact.sl u8S v5 Data2]) [1, 5] [0, 1] [0] rfl rfl rfl rfl ?_)
      exact Tk_jmpS (HJ1 (Dst2, Src2, Vlan2, Type2, Data2, b3 ++ [(129 : UInt8), (0 : UInt8), u8 (shri Vlan2 ((8 : UInt64).toNat)), u8 Vlan2], v5, v15) h) [1, 5] [0, 1] [0] rfl rfl rfl rfl
     ·replace h := br_f hg4 h
      refine Tk_condF (congrArg (fun b => some (Value.bool b)) hg4) ?_
      refine Tk_skip ?_
      exact Tk_jmpS (HJ1 (Dst2, Src2, Vlan2, Type2, Data2, b3, v5, v6) h) [1, 5] [0, 1] [0] rfl rfl rfl rfl

set_option maxRecDepth 100000 in
set_option maxHeartbeats 4000000 in
theorem w_kit_Own {b : List UInt8} {vb1 : Value} {r : (List UInt8)} (h : kit_Own b = some r) :
  Ctr Try.prog 18 #[vb1] [] [Fact.sl u8S vb1 b]
   (fun rv own shr => ∃ (w1 : Value), rv = w1 ∧ own = [(rowS u8S w1 r)] ∧ shr = []) := by
 unfold kit_Own at h
 refine Ctr.mk (args := [vb1]) Try.func18 rfl rfl (fun R0 w0 B => ?_)
 refine Tk_seq (Tk_region (Tops_step rfl (OpT_assign rfl rfl rfl rfl) ?_))
 refine Tops_nil (Tk_wkS (fr' := [(0, some (vb1))]) (own' := []) (shr' := [Fact.sl u8S vb1 b]) [0] [] [0] rfl rfl rfl rfl ?_)
 refine Tk_seq (Tk_region (Tops_ex rfl (OpT_buildSlice (S := u8S) (xs := ([] : List UInt8)) (css := []) (cs := []) (e := 5) rfl rfl rfl rfl (bldF slF24 (by decide) (by kernel_rfl)) rfl rfl rfl rfl (rel_plainD (S := u8S) (xs := ([] : List UInt8)) (css := []) rfl rfl)) fun v1 => ?_))
 refine Tops_step rfl (OpT_move rfl rfl rfl rfl) ?_
 obtain ⟨hc1, h⟩ := chk_e h
 refine Tops_ex rfl (OpT_append rfl rfl rfl rfl rfl slF24 (i := 0) (j := 0) rfl rfl hc1) fun v2 => ?_
 refine Tops_step rfl (OpT_assign rfl rfl rfl rfl) ?_
 refine Tops_nil (Tk_wkS (fr' := [(2, some (v2))]) (own' := [some (rowS u8S v2 b)]) (shr' := []) [2] [0] [] rfl rfl rfl rfl ?_)
 obtain rfl := Option.some.inj h
 exact Tk_retV rfl rfl (resA (vs := [v2]) rfl ⟨rfl, trivial⟩) [0] [] rfl rfl rfl ⟨v2, rfl, rfl, rfl⟩

set_option maxRecDepth 100000 in
set_option maxHeartbeats 4000000 in
theorem w_ref_HdrOf23 {hp0 : Hdr} {r : (List UInt8)} (h : ref_HdrOf23 hp0 = some r) :
  Ctr Try.prog 19 #[.agg #[vU8 hp0.Flags, vU16 hp0.Start, vU16 hp0.Off, vU16 hp0.Buffers]] [] []
   (fun rv own shr => ∃ (w1 : Value), rv = w1 ∧ own = [(rowS u8S w1 r)] ∧ shr = []) := by
 unfold ref_HdrOf23 at h
 refine Ctr.mk (args := [.agg #[vU8 hp0.Flags, vU16 hp0.Start, vU16 hp0.Off, vU16 hp0.Buffers]]) Try.func19 rfl rfl (fun R0 w0 B => ?_)
 refine Tk_seq (Tk_region (Tops_ex rfl (OpT_box rfl rfl rfl rfl) fun b1 => ?_))
 refine Tops_step rfl (OpT_assign rfl rfl rfl rfl) ?_
 refine Tops_nil (Tk_wkS (fr' := [(1, some (.pointer (some ⟨b1, 0, none⟩)))]) (own' := [some (cellsR b1 50 [vU8 hp0.Flags, vU16 hp0.Start, vU16 hp0.Off, vU16 hp0.Buffers])]) (shr' := []) [1] [0] [] rfl rfl rfl rfl ?_)
 refine Tk_seq (Tk_region (Tops_step rfl (OpT_fieldC rfl rfl rfl rfl fldF50x0) ?_))
 refine Tops_step rfl (OpT_loadC rfl rfl rfl rfl tyF5 (i := 0) rfl rfl) ?_
 refine Tops_step rfl (OpT_fieldC rfl rfl rfl rfl fldF50x1) ?_
 refine Tops_step rfl (OpT_loadC rfl rfl rfl rfl tyF23 (i := 0) rfl rfl) ?_
 refine Tops_step rfl (OpT_cnv rfl rfl rfl rfl (cnv_u16_u8 (n := hp0.Start) Try.underlying23 Try.underlying5)) ?_
 refine Tops_step rfl (OpT_fieldC rfl rfl rfl rfl fldF50x1) ?_
 refine Tops_step rfl (OpT_loadC rfl rfl rfl rfl tyF23 (i := 0) rfl rfl) ?_
 refine Tops_step rfl (OpT_bin rfl rfl rfl rfl rfl (bin_shr_u16_u64 (a := hp0.Start) (n := (8 : UInt64)))) ?_
 refine Tops_step rfl (OpT_cnv rfl rfl rfl rfl (cnv_u16_u8 (n := shr16 hp0.Start ((8 : UInt64).toNat)) Try.underlying23 Try.underlying5)) ?_
 refine Tops_step rfl (OpT_fieldC rfl rfl rfl rfl fldF50x2) ?_
 refine Tops_step rfl (OpT_loadC rfl rfl rfl rfl tyF23 (i := 0) rfl rfl) ?_
 refine Tops_step rfl (OpT_cnv rfl rfl rfl rfl (cnv_u16_u8 (n := hp0.Off) Try.underlying23 Try.underlying5)) ?_
 refine Tops_step rfl (OpT_fieldC rfl rfl rfl rfl fldF50x2) ?_
 refine Tops_step rfl (OpT_loadC rfl rfl rfl rfl tyF23 (i := 0) rfl rfl) ?_
 refine Tops_step rfl (OpT_bin rfl rfl rfl rfl rfl (bin_shr_u16_u64 (a := hp0.Off) (n := (8 : UInt64)))) ?_
 refine Tops_step rfl (OpT_cnv rfl rfl rfl rfl (cnv_u16_u8 (n := shr16 hp0.Off ((8 : UInt64).toNat)) Try.underlying23 Try.underlying5)) ?_
 refine Tops_step rfl (OpT_fieldC rfl rfl rfl rfl fldF50x3) ?_
 refine Tops_step rfl (OpT_loadC rfl rfl rfl rfl tyF23 (i := 0) rfl rfl) ?_
 refine Tops_step rfl (OpT_cnv rfl rfl rfl rfl (cnv_u16_u8 (n := hp0.Buffers) Try.underlying23 Try.underlying5)) ?_
 refine Tops_step rfl (OpT_fieldC rfl rfl rfl rfl fldF50x3) ?_
 refine Tops_step rfl (OpT_loadC rfl rfl rfl rfl tyF23 (i := 0) rfl rfl) ?_
 refine Tops_step rfl (OpT_bin rfl rfl rfl rfl rfl (bin_shr_u16_u64 (a := hp0.Buffers) (n := (8 : UInt64)))) ?_
 refine Tops_step rfl (OpT_cnv rfl rfl rfl rfl (cnv_u16_u8 (n := shr16 hp0.Buffers ((8 : UInt64).toNat)) Try.underlying23 Try.underlying5)) ?_
 refine Tops_ex rfl (OpT_buildSlice (S := u8S) (xs := [hp0.Flags, (0 : UInt8), (0 : UInt8), (0 : UInt8), (0 : UInt8), (0 : UInt8), hp0.Start.toUInt8, (shr16 hp0.Start ((8 : UInt64).toNat)).toUInt8, hp0.Off.toUInt8, (shr16 hp0.Off ((8 : UInt64).toNat)).toUInt8, hp0.Buffers.toUInt8, (shr16 hp0.Buffers ((8 : UInt64).toNat)).toUInt8]) (css := [[vU8 hp0.Flags], [vU8 (0 : UInt8)], [vU8 (0 : UInt8)], [vU8 (0 : UInt8)], [vU8 (0 : UInt8)], [vU8 (0 : UInt8)], [vU8 hp0.Start.toUInt8], [vU8 ((shr16 hp0.Start ((8 : UInt64).toNat)).toUInt8)], [vU8 hp0.Off.toUInt8], [vU8 ((shr16 hp0.Off ((8 : UInt64).toNat)).toUInt8)], [vU8 hp0.Buffers.toUInt8], [vU8 ((shr16 hp0.Buffers ((8 : UInt64).toNat)).toUInt8)]]) (cs := [vU8 hp0.Flags, vU8 (0 : UInt8), vU8 (0 : UInt8), vU8 (0 : UInt8), vU8 (0 : UInt8), vU8 (0 : UInt8), vU8 hp0.Start.toUInt8, vU8 ((shr16 hp0.Start ((8 : UInt64).toNat)).toUInt8), vU8 hp0.Off.toUInt8, vU8 ((shr16 hp0.Off ((8 : UInt64).toNat)).toUInt8), vU8 hp0.Buffers.toUInt8, vU8 ((shr16 hp0.Buffers ((8 : UInt64).toNat)).toUInt8)]) (e := 5) rfl rfl rfl rfl (bldF slF24 (by decide) (by kernel_rfl)) rfl rfl rfl rfl (rel_plainD (S := u8S) (xs := [hp0.Flags, (0 : UInt8), (0 : UInt8), (0 : UInt8), (0 : UInt8), (0 : UInt8), hp0.Start.toUInt8, (shr16 hp0.Start ((8 : UInt64).toNat)).toUInt8, hp0.Off.toUInt8, (shr16 hp0.Off ((8 : UInt64).toNat)).toUInt8, hp0.Buffers.toUInt8, (shr16 hp0.Buffers ((8 : UInt64).toNat)).toUInt8]) (css := [[vU8 hp0.Flags], [vU8 (0 : UInt8)], [vU8 (0 : UInt8)], [vU8 (0 : UInt8)], [vU8 (0 : UInt8)], [vU8 (0 : UInt8)], [vU8 hp0.Start.toUInt8], [vU8 ((shr16 hp0.Start ((8 : UInt64).toNat)).toUInt8)], [vU8 hp0.Off.toUInt8], [vU8 ((shr16 hp0.Off ((8 : UInt64).toNat)).toUInt8)], [vU8 hp0.Buffers.toUInt8], [vU8 ((shr16 hp0.Buffers ((8 : UInt64).toNat)).toUInt8)]]) rfl rfl)) fun v1 => ?_
 refine Tops_step rfl (OpT_assign rfl rfl rfl rfl) ?_
 refine Tops_nil (Tk_wkS (fr' := [(2, some (v1))]) (own' := [some (rowS u8S v1 [hp0.Flags, (0 : UInt8), (0 : UInt8), (0 : UInt8), (0 : UInt8), (0 : UInt8), hp0.Start.toUInt8, (shr16 hp0.Start ((8 : UInt64).toNat)).toUInt8, hp0.Off.toUInt8, (shr16 hp0.Off ((8 : UInt64).toNat)).toUInt8, hp0.Buffers.toUInt8, (shr16 hp0.Buffers ((8 : UInt64).toNat)).toUInt8])]) (shr' := []) [2] [1] [] rfl rfl rfl rfl ?_)
 obtain rfl := Option.some.inj h
 exact Tk_retV rfl rfl (resA (vs := [v1]) rfl ⟨rfl, trivial⟩) [0] [] rfl rfl rfl ⟨v1, rfl, rfl, rfl⟩

set_option maxRecDepth 100000 in
set_option maxHeartbeats 4000000 in
theorem w_seg_Gather {m : gmem_Mem} {l : List Seg} {b_m : Nat} {vm1 : Value} {vm2 : Value} {vsm1 : List Value} {vl1 : Value} {r : ((List UInt8) × Int)} (h : seg_Gather m l = some r) :
  Ctr Try.prog 40 #[.pointer (some ⟨b_m, 0, none⟩), vl1] [(cellsR b_m 78 [vm1, vm2]), (rowsX u8S true vm2 vsm1 m.b none)] [Fact.sl RegionS vm1 m.l, Fact.sl SegS vl1 l]
   (fun rv own shr => ∃ (w1 : Value), rv = .tuple #[w1, vI r.2] ∧ own = [(cellsR b_m 78 [vm1, vm2]), (rowsX u8S true vm2 vsm1 m.b none), (rowS u8S w1 r.1)] ∧ shr = []) := by
 unfold seg_Gather at h
 refine Ctr.mk (args := [.pointer (some ⟨b_m, 0, none⟩), vl1]) Try.func40 rfl rfl (fun R0 w0 B => ?_)
 refine Tk_seq (Tk_region (Tops_step rfl (OpT_assign rfl rfl rfl rfl) ?_))
 refine Tops_step rfl (OpT_assign rfl rfl rfl rfl) ?_
 refine Tops_nil (Tk_wkS (fr' := [(0, some (.pointer (some ⟨b_m, 0, none⟩))), (1, some (vl1))]) (own' := [some (cellsR b_m 78 [vm1, vm2]), some (rowsX u8S true vm2 vsm1 m.b none)]) (shr' := [Fact.sl RegionS vm1 m.l, Fact.sl SegS vl1 l]) [0, 1] [0, 1] [0, 1] rfl rfl rfl rfl ?_)
 refine Tk_seq (Tk_seq (Tk_region (Tops_step rfl (OpT_move rfl rfl rfl rfl) ?_)))
 refine Tops_step rfl (OpT_move rfl rfl rfl rfl) ?_
 obtain ⟨in1, hx1, h⟩ := ob_e h
 refine Tops_exP rfl (OpT_callP [2, 3] (w_seg_In hx1) [0, 1] [0, 1] rfl rfl rfl rfl rfl callee34 rfl rfl rfl rfl rfl) ?_
 rintro _ ⟨_, _, _, ⟨rfl, rfl, rfl⟩, rfl⟩
 refine Tops_step rfl (OpT_assign rfl rfl rfl rfl) ?_
 refine Tops_nil (Tk_wkS (fr' := [(0, some (.pointer (some ⟨b_m, 0, none⟩))), (1, some (vl1)), (6, some (vI in1))]) (own' := [some (cellsR b_m 78 [vm1, vm2]), some (rowsX u8S true vm2 vsm1 m.b none)]) (shr' := [Fact.sl RegionS vm1 m.l, Fact.sl SegS vl1 l]) [0, 1, 6] [0, 1] [0, 1] rfl rfl rfl rfl ?_)
 refine Tk_seq (Tk_region (Tops_step rfl (OpT_move rfl rfl rfl rfl) ?_))
 refine Tops_step rfl (OpT_bin rfl rfl rfl rfl rfl (bin_neq_i (a := in1) (b := (0 : Int)))) ?_
 refine Tops_nil (Tk_wkS (fr' := [(0, some (.pointer (some ⟨b_m, 0, none⟩))), (1, some (vl1)), (6, some (vI in1)), (16, some (vB (in1 != (0 : Int))))]) (own' := [some (cellsR b_m 78 [vm1, vm2]), some (rowsX u8S true vm2 vsm1 m.b none)]) (shr' := [Fact.sl RegionS vm1 m.l, Fact.sl SegS vl1 l]) [0, 1, 6, 16] [0, 1] [0, 1] rfl rfl rfl rfl ?_)
 rcases Bool.eq_false_or_eq_true (in1 != (0 : Int)) with hg1 | hg1
 ·replace h := br_t hg1 h
  refine Tk_condT (congrArg (fun b => some (Value.bool b)) hg1) ?_
  refine Tk_seq (Tk_region (Tops_step rfl (OpT_move rfl rfl rfl rfl) ?_))
  refine Tops_step rfl (OpT_assign rfl rfl rfl rfl) ?_
  refine Tops_step rfl (OpT_assign rfl rfl rfl rfl) ?_
  refine Tops_nil (Tk_wkS (fr' := [(4, some (.slice none 0 0)), (5, some (vI in1))]) (own' := [some (cellsR b_m 78 [vm1, vm2]), some (rowsX u8S true vm2 vsm1 m.b none)]) (shr' := [Fact.sl RegionS vm1 m.l]) [4, 5] [0, 1] [0] rfl rfl rfl rfl ?_)
  refine Tk_nilrow u8S ?_
  obtain rfl := Option.some.inj h
  exact Tk_retV rfl rfl (resA (vs := [.slice none 0 0, vI in1]) rfl ⟨rfl, rfl, trivial⟩) [0, 1, 2] [] rfl rfl rfl ⟨(.slice none 0 0), rfl, rfl, rfl⟩
 ·replace h := br_f hg1 h
  refine Tk_condF (congrArg (fun b => some (Value.bool b)) hg1) ?_
  refine Tk_skip (Tk_seq (Tk_region (Tops_step rfl (OpT_assign rfl rfl rfl rfl) ?_)))
  refine Tops_nil (Tk_wkS (fr' := [(0, some (.pointer (some ⟨b_m, 0, none⟩))), (1, some (vl1)), (7, some (.slice none 0 0))]) (own' := [some (cellsR b_m 78 [vm1, vm2]), some (rowsX u8S true vm2 vsm1 m.b none)]) (shr' := [Fact.sl RegionS vm1 m.l, Fact.sl SegS vl1 l]) [0, 1, 7] [0, 1] [0, 1] rfl rfl rfl rfl ?_)
  refine Tk_seq (Tk_seq (Tk_region (Tops_step rfl (OpT_move rfl rfl rfl rfl) ?_)))
  obtain ⟨part1, hx2, h⟩ := ob_e h
  refine Tops_exP rfl (OpT_call (w_seg_Part hx2) [] [1] rfl rfl rfl rfl rfl callee51 rfl rfl rfl rfl) ?_
  rintro _ ⟨v1, _, _, ⟨_, rfl, rfl, rfl⟩, rfl⟩
  refine Tops_step rfl (OpT_lenO rfl rfl rfl rfl Try.underlying58 (i := 2) rfl) ?_
  refine Tops_step rfl (OpT_move rfl rfl rfl rfl) ?_
  refine Tops_nil (Tk_wkS (fr' := [(0, some (.pointer (some ⟨b_m, 0, none⟩))), (7, some (.slice none 0 0)), (19, some (v1)), (20, some (vI (len part1))), (21, some (vI (0 : Int)))]) (own' := [some (cellsR b_m 78 [vm1, vm2]), some (rowsX u8S true vm2 vsm1 m.b none), some (rowS SegS v1 part1)]) (shr' := [Fact.sl RegionS vm1 m.l]) [0, 7, 19, 20, 21] [0, 1, 2] [0] rfl rfl rfl rfl ?_)
  refine Tk_block (Tk_nilrow (Shape.slice u8S) ?_)
  refine Tk_loopS (σ := (List (List UInt8)) × (List Seg) × Int × Value × Value) [0, 7, 19, 20, 21] [0, 1, 3, 2] [0] (fun s => ⟨[(0, some (.pointer (some ⟨b_m, 0, none⟩))), (7, some (s.2.2.2.1)), (19, some (s.2.2.2.2)), (20, some (vI (len part1))), (21, some (vI s.2.2.1))], [some (cellsR b_m 78 [vm1, vm2]), some (rowsX u8S true vm2 vsm1 m.b none), some (rowS (Shape.slice u8S) s.2.2.2.1 s.1), some (rowS SegS s.2.2.2.2 s.2.1)], [Fact.sl RegionS vm1 m.l]⟩) (fun nf1 s => seg_GatherL1 m part1 nf1 s.1 s.2.1 s.2.2.1 = some r) fuel ([], part1, (0 : Int), (.slice none 0 0), v1) h rfl rfl rfl rfl rfl (fun s h => by cases h) ?_
  rintro nf1 ⟨parts1, l1, x1, v2, v3⟩ h
  replace h : seg_GatherL1B m part1 (seg_GatherL1 m part1 nf1) parts1 l1 x1 = some r := h
  unfold seg_GatherL1B at h
  refine Tk_seq (Tk_region (Tops_step rfl (OpT_bin rfl rfl rfl rfl rfl (bin_lss_i (a := x1) (b := len part1))) ?_))
  refine Tops_nil (Tk_seq ?_)
  rcases Bool.eq_false_or_eq_true (decide (x1 < (len part1))) with hg2 | hg2
  ·replace h := br_t hg2 h
   refine Tk_condT (congrArg (fun b => some (Value.bool b)) hg2) ?_
   refine Tk_skip (Tk_seq (Tk_block (Tk_seq (Tk_region ?_))))
   obtain ⟨s1, hx3, h⟩ := ob_e h
   refine Tops_step rfl (OpT_idxO rfl rfl rfl rfl rfl slF58 (i := 3) rfl hx3) ?_
   refine Tops_step rfl (OpT_loadOA (S := SegS) (vs := [vU64 s1.At, vU32 s1.Len, vB s1.Write]) rfl rfl rfl rfl rfl tyF57 (i := 3) rfl hx3 rfl) ?_
   refine Tops_ex rfl (OpT_alloc rfl rfl rfl tyZ57) fun b1 => ?_
   refine Tops_step rfl (OpT_storeC (cs' := [vU64 s1.At, vU32 s1.Len, vB s1.Write]) rfl rfl rfl rfl tyF57 (i := 4) rfl rfl rfl (one_of rfl) rfl) ?_
   refine Tops_nil (Tk_wkS (fr' := [(0, some (.pointer (some ⟨b_m, 0, none⟩))), (7, some (v2)), (19, some (v3)), (20, some (vI (len part1))), (21, some (vI x1)), (9, some (.pointer (some ⟨b1, 0, none⟩)))]) (own' := [some (cellsR b_m 78 [vm1, vm2]), some (rowsX u8S true vm2 vsm1 m.b none), some (rowS (Shape.slice u8S) v2 parts1), some (rowS SegS v3 l1), some (cellsR b1 57 [vU64 s1.At, vU32 s1.Len, vB s1.Write])]) (shr' := [Fact.sl RegionS vm1 m.l]) [0, 7, 19, 20, 21, 9] [0, 1, 2, 3, 4] [0] rfl rfl rfl rfl ?_)
   refine Tk_seq (Tk_region (Tops_step rfl (OpT_move rfl rfl rfl rfl) ?_))
   refine Tops_step rfl (OpT_fieldC rfl rfl rfl rfl fldF57x0) ?_
   refine Tops_step rfl (OpT_loadC rfl rfl rfl rfl tyF28 (i := 4) rfl rfl) ?_
   refine Tops_step rfl (OpT_fieldC rfl rfl rfl rfl fldF57x1) ?_
   refine Tops_step rfl (OpT_loadC rfl rfl rfl rfl tyF48 (i := 4) rfl rfl) ?_
   refine Tops_step rfl (OpT_cnv rfl rfl rfl rfl (cnv_u32_i (n := s1.Len) Try.underlying48 Try.underlying3)) ?_
   obtain ⟨read1, hx4, h⟩ := ob_e h
   refine Tops_exP rfl (OpT_callP [5, 6, 2, 3, 4, 7] (w_gmem_Mem_Read hx4) [0, 1] [0] rfl rfl rfl rfl rfl callee26 rfl rfl rfl rfl rfl) ?_
   rintro _ ⟨_, _, _, ⟨v4, rfl, rfl, rfl⟩, rfl⟩
   refine Tops_step rfl (OpT_move rfl rfl rfl rfl) ?_
   refine Tops_step rfl (OpT_extract rfl rfl rfl rfl rfl) ?_
   refine Tops_step rfl (OpT_extract rfl rfl rfl rfl rfl) ?_
   refine Tops_step rfl (OpT_assign rfl rfl rfl rfl) ?_
   refine Tops_step rfl (OpT_assign rfl rfl rfl rfl) ?_
   refine Tops_nil (Tk_wkS (fr' := [(0, some (.pointer (some ⟨b_m, 0, none⟩))), (7, some (v2)), (19, some (v3)), (20, some (vI (len part1))), (21, some (vI x1)), (10, some (v4)), (11, some (vI read1.2))]) (own' := [some (cellsR b_m 78 [vm1, vm2]), some (rowsX u8S true vm2 vsm1 m.b none), some (rowS (Shape.slice u8S) v2 parts1), some (rowS SegS v3 l1), some (rowS u8S v4 read1.1)]) (shr' := [Fact.sl RegionS vm1 m.l]) [0, 7, 19, 20, 21, 10, 11] [0, 1, 2, 3, 5] [0] rfl rfl rfl rfl ?_)
   refine Tk_seq (Tk_seq (Tk_region (Tops_step rfl (OpT_move rfl rfl rfl rfl) ?_)))
   refine Tops_step rfl (OpT_bin rfl rfl rfl rfl rfl (bin_neq_i (a := read1.2) (b := (0 : Int)))) ?_
   refine Tops_nil (Tk_wkS (fr' := [(0, some (.pointer (some ⟨b_m, 0, none⟩))), (7, some (v2)), (19, some (v3)), (20, some (vI (len part1))), (21, some (vI x1)), (10, some (v4)), (11, some (vI read1.2)), (36, some (vB (read1.2 != (0 : Int))))]) (own' := [some (cellsR b_m 78 [vm1, vm2]), some (rowsX u8S true vm2 vsm1 m.b none), some (rowS (Shape.slice u8S) v2 parts1), some (rowS SegS v3 l1), some (rowS u8S v4 read1.1)]) (shr' := [Fact.sl RegionS vm1 m.l]) [0, 7, 19, 20, 21, 10, 11, 36] [0, 1, 2, 3, 4] [0] rfl rfl rfl rfl ?_)
   rcases Bool.eq_false_or_eq_true (read1.2 != (0 : Int)) with hg3 | hg3
   ·replace h := br_t hg3 h
    refine Tk_condT (congrArg (fun b => some (Value.bool b)) hg3) ?_
    refine Tk_seq (Tk_region (Tops_step rfl (OpT_move rfl rfl rfl rfl) ?_))
    refine Tops_step rfl (OpT_assign rfl rfl rfl rfl) ?_
    refine Tops_step rfl (OpT_assign rfl rfl rfl rfl) ?_
    refine Tops_nil (Tk_wkS (fr' := [(4, some (.slice none 0 0)), (5, some (vI read1.2))]) (own' := [some (cellsR b_m 78 [vm1, vm2]), some (rowsX u8S true vm2 vsm1 m.b none)]) (shr' := [Fact.sl RegionS vm1 m.l]) [4, 5] [0, 1] [0] rfl rfl rfl rfl ?_)
    refine Tk_nilrow u8S ?_
    obtain rfl := Option.some.inj h
    exact Tk_retV rfl rfl (resA (vs := [.slice none 0 0, vI read1.2]) rfl ⟨rfl, rfl, trivial⟩) [0, 1, 2] [] rfl rfl rfl ⟨(.slice none 0 0), rfl, rfl, rfl⟩
   ·replace h := br_f hg3 h
    refine Tk_condF (congrArg (fun b => some (Value.bool b)) hg3) ?_
    refine Tk_skip (Tk_region (Tops_step rfl (OpT_move rfl rfl rfl rfl) ?_))
    refine Tops_step rfl (OpT_move rfl rfl rfl rfl) ?_
    refine Tops_retire (i := 4) rfl ?_
    refine Tops_ex rfl (OpT_buildSl (Shape.slice u8S) (vs := [v4]) (xs := [read1.1]) rfl rfl rfl rfl rfl slF76 (isl_cons (is_sl (i := 1) rfl) isl_nil) rfl rfl rfl (rel_cons (rel_sl (i := 1) rfl) (rel_nil rfl))) fun v5 => ?_
    refine Tops_retire (i := 5) rfl ?_
    obtain ⟨hc1, h⟩ := chk_e h
    refine Tops_ex rfl (OpT_append rfl rfl rfl rfl rfl slF76 (i := 2) (j := 2) rfl rfl hc1) fun v6 => ?_
    refine Tops_step rfl (OpT_assign rfl rfl rfl rfl) ?_
    refine Tops_nil (Tk_wkS (fr' := [(0, some (.pointer (some ⟨b_m, 0, none⟩))), (7, some (v6)), (19, some (v3)), (20, some (vI (len part1))), (21, some (vI x1))]) (own' := [some (cellsR b_m 78 [vm1, vm2]), some (rowsX u8S true vm2 vsm1 m.b none), some (rowS (Shape.slice u8S) v6 (parts1 ++ [read1.1])), some (rowS SegS v3 l1)]) (shr' := [Fact.sl RegionS vm1 m.l]) [0, 7, 19, 20, 21] [0, 1, 2, 3] [0] rfl rfl rfl rfl ?_)
    refine Tk_blk (Tk_region (Tops_step rfl (OpT_bin rfl rfl rfl rfl rfl (bin_add_i (a := x1) (b := (1 : Int)))) ?_))
    refine Tops_step rfl (OpT_move rfl rfl rfl rfl) ?_
    refine Tops_nil (Tk_wkS (fr' := [(0, some (.pointer (some ⟨b_m, 0, none⟩))), (7, some (v6)), (19, some (v3)), (20, some (vI (len part1))), (21, some (vI (wi (x1 + (1 : Int)))))]) (own' := [some (cellsR b_m 78 [vm1, vm2]), some (rowsX u8S true vm2 vsm1 m.b none), some (rowS (Shape.slice u8S) v6 (parts1 ++ [read1.1])), some (rowS SegS v3 l1)]) (shr' := [Fact.sl RegionS vm1 m.l]) [0, 7, 19, 20, 21] [0, 1, 2, 3] [0] rfl rfl rfl rfl ?_)
    exact Tk_backS (parts1 ++ [read1.1], l1, wi (x1 + (1 : Int)), v6, v3) h [0, 7, 19, 20, 21] [0, 1, 2, 3] [0] rfl rfl rfl rfl rfl
  ·replace h := br_f hg2 h
   refine Tk_condF (congrArg (fun b => some (Value.bool b)) hg2) ?_
   refine Tk_exit _ rfl ?_
   refine Tk_seq (Tk_region (Tops_step rfl (OpT_move rfl rfl rfl rfl) ?_))
   obtain ⟨concat1, hx5, h⟩ := ob_e h
   refine Tops_exP rfl (OpT_callB [2] [0, 1, 2, 3, 4] (w_slices_Concat_bytebyte hx5) [] rfl rfl rfl rfl rfl callee39 rfl rfl rfl rfl rfl rfl (bor_cons (bor_row 2 rfl rfl) bor_nil) (by rintro _ _ _ ⟨_, rfl, rfl, rfl⟩; exact ⟨rfl, (ri_cons (ri_row (S := u8S) rfl _ _) ri_nil)⟩)) ?_
   rintro _ ⟨v7, _, _, ⟨_, rfl, rfl, rfl⟩, rfl⟩
   refine Tops_step rfl (OpT_assign rfl rfl rfl rfl) ?_
   refine Tops_step rfl (OpT_assign rfl rfl rfl rfl) ?_
   refine Tops_nil (Tk_wkS (fr' := [(4, some (v7)), (5, some (vI (0 : Int)))]) (own' := [some (cellsR b_m 78 [vm1, vm2]), some (rowsX u8S true vm2 vsm1 m.b none), some (rowS u8S v7 concat1)]) (shr' := [Fact.sl RegionS vm1 m.l]) [4, 5] [0, 1, 4] [0] rfl rfl rfl rfl ?_)
   obtain rfl := Option.some.inj h
   exact Tk_retV rfl rfl (resA (vs := [v7, vI (0 : Int)]) rfl ⟨rfl, rfl, trivial⟩) [0, 1, 2] [] rfl rfl rfl ⟨v7, rfl, rfl, rfl⟩

set_option maxRecDepth 100000 in
set_option maxHeartbeats 4000000 in
theorem w_frame_ReadHdr_1 {ip0 : Int} {arg1 : List UInt8} {b_arg1 : Nat} {varg11 : Value} {r : UInt16} (h : frame_ReadHdr_1 ip0 arg1 = some r) :
  Ctr Try.prog 54 #[vI ip0, .pointer (some ⟨b_arg1, 0, none⟩)] [(cellsR b_arg1 24 [varg11])] [Fact.sl u8S varg11 arg1]
   (fun rv own shr => rv = vU16 r ∧ own = [(cellsR b_arg1 24 [varg11])] ∧ shr = []) := by
 unfold frame_ReadHdr_1 at h
 refine Ctr.mk (args := [vI ip0, .pointer (some ⟨b_arg1, 0, none⟩)]) Try.func54 rfl rfl (fun R0 w0 B => ?_)
 refine Tk_seq (Tk_region (Tops_step rfl (OpT_assign rfl rfl rfl rfl) ?_))
 refine Tops_nil (Tk_wkS (fr' := [(0, some (vI ip0)), (1, some (.pointer (some ⟨b_arg1, 0, none⟩)))]) (own' := [some (cellsR b_arg1 24 [varg11])]) (shr' := [Fact.sl u8S varg11 arg1]) [0, 1] [0] [0] rfl rfl rfl rfl ?_)
 refine Tk_seq (Tk_drawT (by kernel_rfl) ?_)
 refine TA_tb [0, 0, 3, 7, 15, 0, 0, 64, 224, 480, 992, 2016, 4095, 8191] (by kernel_rfl) fun htb => ?_
 obtain ⟨y1, hx1, h⟩ := ob_e h
 obtain ⟨y2, hx2, h⟩ := ob_e h
 refine TA_seg (lo := 0) (hi := 12) htb rfl rfl (by kernel_rfl) (fun c L a w => ∃ (p1 : Value), ∃ (p2 : Value), Sat c ⟨[(0, some (vI ip0)), (1, some (.pointer (some ⟨b_arg1, 0, none⟩))), (4, bif L 0 then some (varg11) else none), (5, bif L 1 then some (vI ip0) else none), (6, bif L 2 then some (p1) else none), (7, bif L 3 then some (vU8 y1) else none), (8, bif L 4 then some (vU16 y1.toUInt16) else none), (9, bif L 5 then some (varg11) else none), (10, bif L 6 then some (vI ip0) else none), (11, bif L 7 then some (vI (wi (ip0 + (1 : Int)))) else none), (12, bif L 8 then some (p2) else none), (13, bif L 9 then some (vU8 y2) else none), (14, bif L 10 then some (vU16 y2.toUInt16) else none), (15, bif L 11 then some (vU16 (shl16 y2.toUInt16 ((8 : UInt64).toNat))) else none)], [(some (cellsR b_arg1 24 [varg11]) : Option Res)], [Fact.sl u8S varg11 arg1, (bif L 2 then Fact.pt u8S p1 y1 else Fact.tt), (bif L 8 then Fact.pt u8S p2 y2 else Fact.tt)]⟩ a w) [([], [2, 3, 4]), ([], [2, 3, 4]), ([0, 1], [3, 4]), ([0, 1, 2], [4]), ([0, 1, 2, 3], []), ([], [8, 9, 10, 11]), ([], [7, 8, 9, 10, 11]), ([6], [8, 9, 10, 11]), ([5, 6, 7], [9, 10, 11]), ([5, 6, 7, 8], [10, 11]), ([5, 6, 7, 8, 9], [11]), ([5, 6, 7, 8, 9, 10], [])] rfl (by kernel_rfl) ?_ (steps_cons ?_ (steps_cons ?_ (steps_cons ?_ (steps_cons ?_ (steps_cons ?_ (steps_cons ?_ (steps_cons ?_ (steps_cons ?_ (steps_cons ?_ (steps_cons ?_ (steps_cons ?_ (steps_cons ?_ (steps_nil))))))))))))) ?_
 ·intro a w hs
  exact ⟨undef, undef, hs.startF [4, 5, 6, 7, 8, 9, 10, 11, 12, 13, 14, 15] [0] [0, 1, 2] rfl rfl rfl rfl⟩
 ·intro L a w hv K Q hK
  obtain ⟨p1, p2, hs⟩ := hv
  refine wpOp_go rfl rfl hs (OpT_loadC rfl rfl rfl rfl tyF24 (i := 0) rfl rfl) ?_
  rintro _ rfl a' w' hs'
  exact hK a' w' ⟨p1, p2, hs'.putF (i := 2) rfl [0] [0, 1, 2] rfl rfl rfl rfl⟩
 ·intro L a w hv K Q hK
  obtain ⟨p1, p2, hs⟩ := hv
  refine wpOp_go rfl rfl hs (OpT_move rfl rfl rfl rfl) ?_
  rintro _ rfl a' w' hs'
  exact hK a' w' ⟨p1, p2, hs'.putF (i := 3) rfl [0] [0, 1, 2] rfl rfl rfl rfl⟩
 ·intro L a w hv K Q hK
  obtain ⟨p1, p2, hs⟩ := hv
  refine wpOp_go rfl rfl hs (OpT_idxS rfl rfl rfl rfl rfl slF24 (i := 0) rfl hx1) ?_
  rintro _ ⟨p1', rfl⟩ a' w' hs'
  exact hK a' w' ⟨p1', p2, hs'.putF (i := 4) rfl [0] [0, 3, 2] rfl rfl rfl rfl⟩
 ·intro L a w hv K Q hK
  obtain ⟨p1, p2, hs⟩ := hv
  refine wpOp_go rfl rfl hs (OpT_loadP rfl rfl rfl rfl tyF5 (i := 1) rfl rfl) ?_
  rintro _ rfl a' w' hs'
  exact hK a' w' ⟨p1, p2, hs'.putF (i := 5) rfl [0] [0, 1, 2] rfl rfl rfl rfl⟩
 ·intro L a w hv K Q hK
  obtain ⟨p1, p2, hs⟩ := hv
  refine wpOp_go rfl rfl hs (OpT_cnv rfl rfl rfl rfl (cnv_u8_u16 (n := y1) Try.underlying5 Try.underlying23)) ?_
  rintro _ rfl a' w' hs'
  exact hK a' w' ⟨p1, p2, hs'.putF (i := 6) rfl [0] [0, 1, 2] rfl rfl rfl rfl⟩
 ·intro L a w hv K Q hK
  obtain ⟨p1, p2, hs⟩ := hv
  refine wpOp_go rfl rfl hs (OpT_loadC rfl rfl rfl rfl tyF24 (i := 0) rfl rfl) ?_
  rintro _ rfl a' w' hs'
  exact hK a' w' ⟨p1, p2, hs'.putF (i := 7) rfl [0] [0, 1, 2] rfl rfl rfl rfl⟩
 ·intro L a w hv K Q hK
  obtain ⟨p1, p2, hs⟩ := hv
  refine wpOp_go rfl rfl hs (OpT_move rfl rfl rfl rfl) ?_
  rintro _ rfl a' w' hs'
  exact hK a' w' ⟨p1, p2, hs'.putF (i := 8) rfl [0] [0, 1, 2] rfl rfl rfl rfl⟩
 ·intro L a w hv K Q hK
  obtain ⟨p1, p2, hs⟩ := hv
  refine wpOp_go rfl rfl hs (OpT_bin rfl rfl rfl rfl rfl (bin_add_i (a := ip0) (b := (1 : Int)))) ?_
  rintro _ rfl a' w' hs'
  exact hK a' w' ⟨p1, p2, hs'.putF (i := 9) rfl [0] [0, 1, 2] rfl rfl rfl rfl⟩
 ·intro L a w hv K Q hK
  obtain ⟨p1, p2, hs⟩ := hv
  refine wpOp_go rfl rfl hs (OpT_idxS rfl rfl rfl rfl rfl slF24 (i := 0) rfl hx2) ?_
  rintro _ ⟨p2', rfl⟩ a' w' hs'
  exact hK a' w' ⟨p1, p2', hs'.putF (i := 10) rfl [0] [0, 1, 3] rfl rfl rfl rfl⟩
 ·intro L a w hv K Q hK
  obtain ⟨p1, p2, hs⟩ := hv
  refine wpOp_go rfl rfl hs (OpT_loadP rfl rfl rfl rfl tyF5 (i := 2) rfl rfl) ?_
  rintro _ rfl a' w' hs'
  exact hK a' w' ⟨p1, p2, hs'.putF (i := 11) rfl [0] [0, 1, 2] rfl rfl rfl rfl⟩
 ·intro L a w hv K Q hK
  obtain ⟨p1, p2, hs⟩ := hv
  refine wpOp_go rfl rfl hs (OpT_cnv rfl rfl rfl rfl (cnv_u8_u16 (n := y2) Try.underlying5 Try.underlying23)) ?_
  rintro _ rfl a' w' hs'
  exact hK a' w' ⟨p1, p2, hs'.putF (i := 12) rfl [0] [0, 1, 2] rfl rfl rfl rfl⟩
 ·intro L a w hv K Q hK
  obtain ⟨p1, p2, hs⟩ := hv
  refine wpOp_go rfl rfl hs (OpT_bin rfl rfl rfl rfl rfl (bin_shl_u16_u64 (a := y2.toUInt16) (n := (8 : UInt64)))) ?_
  rintro _ rfl a' w' hs'
  exact hK a' w' ⟨p1, p2, hs'.putF (i := 13) rfl [0] [0, 1, 2] rfl rfl rfl rfl⟩
 ·intro L a w hL hv
  rw [allTrue hL] at hv
  obtain ⟨p1, p2, hs⟩ := hv
  refine (show TA _ _ _ 12 ⟨[(8, some (vU16 y1.toUInt16)), (15, some (vU16 (shl16 y2.toUInt16 ((8 : UInt64).toNat))))], [some (cellsR b_arg1 24 [varg11])], [Fact.sl u8S varg11 arg1]⟩ from ?_) a w (hs.wkS [8, 15] [0] [0] rfl rfl rfl rfl)
  clear hs hL
  refine TA_step htb (by kernel_rfl) rfl rfl (OpT_bin rfl rfl rfl rfl rfl (bin_or_u16 (a := y1.toUInt16) (b := shl16 y2.toUInt16 ((8 : UInt64).toNat)))) ?_
  refine TA_step htb (by kernel_rfl) rfl rfl (OpT_assign rfl rfl rfl rfl) ?_
  refine TA_end rfl ?_
  refine Tk_wkS (fr' := [(3, some (vU16 (y1.toUInt16 ||| (shl16 y2.toUInt16 ((8 : UInt64).toNat)))))]) (own' := [some (cellsR b_arg1 24 [varg11])]) (shr' := [Fact.sl u8S varg11 arg1]) [3] [0] [0] rfl rfl rfl rfl ?_
  obtain rfl := Option.some.inj h
  exact Tk_retV rfl rfl (resA (vs := [vU16 (y1.toUInt16 ||| (shl16 y2.toUInt16 ((8 : UInt64).toNat)))]) rfl ⟨rfl, trivial⟩) [0] [] rfl rfl rfl ⟨rfl, rfl, rfl⟩

set_option maxRecDepth 100000 in
set_option maxHeartbeats 4000000 in
theorem w_frame_ReadHdr {b : List UInt8} {vb1 : Value} {r : (Hdr × Int)} (h : frame_ReadHdr b = some r) :
  Ctr Try.prog 41 #[vb1] [] [Fact.sl u8S vb1 b]
   (fun rv own shr => rv = .tuple #[.agg #[vU8 r.1.Flags, vU16 r.1.Start, vU16 r.1.Off, vU16 r.1.Buffers], vI r.2] ∧ own = [] ∧ shr = []) := by
 unfold frame_ReadHdr at h
 refine Ctr.mk (args := [vb1]) Try.func41 rfl rfl (fun R0 w0 B => ?_)
 refine Tk_seq (Tk_region (Tops_ex rfl (OpT_box1 rfl rfl rfl rfl (is_sl (i := 0) rfl)) fun b1 => ?_))
 refine Tops_ex rfl (OpT_alloc rfl rfl rfl tyZ50) fun b2 => ?_
 refine Tops_step rfl (OpT_assign rfl rfl rfl rfl) ?_
 refine Tops_nil (Tk_wkS (fr' := [(1, some (.pointer (some ⟨b1, 0, none⟩))), (2, some (.pointer (some ⟨b2, 0, none⟩)))]) (own' := [some (cellsR b1 24 [vb1]), some (cellsR b2 50 [vU8 (0 : UInt8), vU16 (0 : UInt16), vU16 (0 : UInt16), vU16 (0 : UInt16)])]) (shr' := [Fact.sl u8S vb1 b]) [1, 2] [0, 1] [0] rfl rfl rfl rfl ?_)
 refine Tk_seq (Tk_seq (Tk_region (Tops_step rfl (OpT_loadC rfl rfl rfl rfl tyF24 (i := 0) rfl rfl) ?_)))
 refine Tops_step rfl (OpT_lenS rfl rfl rfl rfl Try.underlying24 (i := 0) rfl) ?_
 refine Tops_step rfl (OpT_bin rfl rfl rfl rfl rfl (bin_lss_i (a := len b) (b := (12 : Int)))) ?_
 refine Tops_nil (Tk_wkS (fr' := [(1, some (.pointer (some ⟨b1, 0, none⟩))), (2, some (.pointer (some ⟨b2, 0, none⟩))), (7, some (vB (decide ((len b) < (12 : Int)))))]) (own' := [some (cellsR b1 24 [vb1]), some (cellsR b2 50 [vU8 (0 : UInt8), vU16 (0 : UInt16), vU16 (0 : UInt16), vU16 (0 : UInt16)])]) (shr' := [Fact.sl u8S vb1 b]) [1, 2, 7] [0, 1] [0] rfl rfl rfl rfl ?_)
 rcases Bool.eq_false_or_eq_true (decide ((len b) < (12 : Int))) with hg1 | hg1
 ·replace h := br_t hg1 h
  refine Tk_condT (congrArg (fun b => some (Value.bool b)) hg1) ?_
  refine Tk_seq (Tk_region (Tops_step rfl (OpT_build (v := .agg #[vU8 (0 : UInt8), vU16 (0 : UInt16), vU16 (0 : UInt16), vU16 (0 : UInt16)]) rfl rfl rfl rfl (bldV (by kernel_rfl))) ?_))
  refine Tops_step rfl (OpT_storeC (cs' := [vU8 (0 : UInt8), vU16 (0 : UInt16), vU16 (0 : UInt16), vU16 (0 : UInt16)]) rfl rfl rfl rfl tyF50 (i := 1) rfl rfl rfl (one_of rfl) rfl) ?_
  refine Tops_step rfl (OpT_assign rfl rfl rfl rfl) ?_
  refine Tops_nil (Tk_wkS (fr' := [(2, some (.pointer (some ⟨b2, 0, none⟩))), (3, some (vI (4 : Int)))]) (own' := [some (cellsR b2 50 [vU8 (0 : UInt8), vU16 (0 : UInt16), vU16 (0 : UInt16), vU16 (0 : UInt16)])]) (shr' := []) [2, 3] [1] [] rfl rfl rfl rfl ?_)
  obtain rfl := Option.some.inj h
  exact Tk_retV rfl rfl (resA (vs := [.agg #[vU8 (0 : UInt8), vU16 (0 : UInt16), vU16 (0 : UInt16), vU16 (0 : UInt16)], vI (4 : Int)]) rfl ⟨⟨_, 0, _, _, _, rfl, rfl, .inl ⟨tyF50, rfl, rfl⟩⟩, rfl, trivial⟩) [] [] rfl rfl rfl ⟨rfl, rfl, rfl⟩
 ·replace h := br_f hg1 h
  refine Tk_condF (congrArg (fun b => some (Value.bool b)) hg1) ?_
  refine Tk_skip (Tk_seq (Tk_region (Tops_step rfl (OpT_makeFunc (vs := [.pointer (some ⟨b1, 0, none⟩)]) rfl rfl rfl rfl) ?_)))
  refine Tops_step rfl (OpT_assign rfl rfl rfl rfl) ?_
  refine Tops_nil (Tk_wkS (fr' := [(1, some (.pointer (some ⟨b1, 0, none⟩))), (2, some (.pointer (some ⟨b2, 0, none⟩))), (4, some (.func (.func 54) #[] #[.pointer (some ⟨b1, 0, none⟩)]))]) (own' := [some (cellsR b1 24 [vb1]), some (cellsR b2 50 [vU8 (0 : UInt8), vU16 (0 : UInt16), vU16 (0 : UInt16), vU16 (0 : UInt16)])]) (shr' := [Fact.sl u8S vb1 b]) [1, 2, 4] [0, 1] [0] rfl rfl rfl rfl ?_)
  refine Tk_seq (Tk_drawT (by kernel_rfl) ?_)
  refine TA_tb [0, 1, 3, 0, 8, 0, 56, 0, 248, 511, 1023, 2047] (by kernel_rfl) fun htb => ?_
  obtain ⟨y1, hx1, h⟩ := ob_e h
  obtain ⟨readhd1, hx2, h⟩ := ob_e h
  obtain ⟨readhd2, hx3, h⟩ := ob_e h
  obtain ⟨readhd3, hx4, h⟩ := ob_e h
  refine TA_seg (lo := 0) (hi := 9) htb rfl rfl (by kernel_rfl) (fun c L a w => ∃ (p1 : Value), Sat c ⟨[(1, some (.pointer (some ⟨b1, 0, none⟩))), (2, some (.pointer (some ⟨b2, 0, none⟩))), (4, some (.func (.func 54) #[] #[.pointer (some ⟨b1, 0, none⟩)])), (10, bif L 0 then some (vb1) else none), (11, bif L 1 then some (p1) else none), (12, bif L 2 then some (vU8 y1) else none), (13, bif L 3 then some (.func (.func 54) #[] #[.pointer (some ⟨b1, 0, none⟩)]) else none), (14, bif L 4 then some (vU16 readhd1) else none), (15, bif L 5 then some (.func (.func 54) #[] #[.pointer (some ⟨b1, 0, none⟩)]) else none), (16, bif L 6 then some (vU16 readhd2) else none), (17, bif L 7 then some (.func (.func 54) #[] #[.pointer (some ⟨b1, 0, none⟩)]) else none), (18, bif L 8 then some (vU16 readhd3) else none)], [(some (cellsR b1 24 [vb1]) : Option Res), (some (cellsR b2 50 [vU8 (0 : UInt8), vU16 (0 : UInt16), vU16 (0 : UInt16), vU16 (0 : UInt16)]) : Option Res)], [Fact.sl u8S vb1 b, (bif L 1 then Fact.pt u8S p1 y1 else Fact.tt)]⟩ a w) [([], [1, 2]), ([0], [2]), ([0, 1], []), ([], [4, 6, 8]), ([3], [6, 8]), ([], [6, 8]), ([3, 4, 5], [8]), ([], [8]), ([3, 4, 5, 6, 7], [])] rfl (by kernel_rfl) ?_ (steps_cons ?_ (steps_cons ?_ (steps_cons ?_ (steps_cons ?_ (steps_cons ?_ (steps_cons ?_ (steps_cons ?_ (steps_cons ?_ (steps_cons ?_ (steps_nil)))))))))) ?_
  ·intro a w hs
   exact ⟨undef, hs.startF [10, 11, 12, 13, 14, 15, 16, 17, 18] [0, 1] [0, 1] rfl rfl rfl rfl⟩
  ·intro L a w hv K Q hK
   obtain ⟨p1, hs⟩ := hv
   refine wpOp_go rfl rfl hs (OpT_loadC rfl rfl rfl rfl tyF24 (i := 0) rfl rfl) ?_
   rintro _ rfl a' w' hs'
   exact hK a' w' ⟨p1, hs'.putF (i := 3) rfl [0, 1] [0, 1] rfl rfl rfl rfl⟩
  ·intro L a w hv K Q hK
   obtain ⟨p1, hs⟩ := hv
   refine wpOp_go rfl rfl hs (OpT_idxS rfl rfl rfl rfl rfl slF24 (i := 0) rfl hx1) ?_
   rintro _ ⟨p1', rfl⟩ a' w' hs'
   exact hK a' w' ⟨p1', hs'.putF (i := 4) rfl [0, 1] [0, 2] rfl rfl rfl rfl⟩
  ·intro L a w hv K Q hK
   obtain ⟨p1, hs⟩ := hv
   refine wpOp_go rfl rfl hs (OpT_loadP rfl rfl rfl rfl tyF5 (i := 1) rfl rfl) ?_
   rintro _ rfl a' w' hs'
   exact hK a' w' ⟨p1, hs'.putF (i := 5) rfl [0, 1] [0, 1] rfl rfl rfl rfl⟩
  ·intro L a w hv K Q hK
   obtain ⟨p1, hs⟩ := hv
   refine wpOp_go rfl rfl hs (OpT_move rfl rfl rfl rfl) ?_
   rintro _ rfl a' w' hs'
   exact hK a' w' ⟨p1, hs'.putF (i := 6) rfl [0, 1] [0, 1] rfl rfl rfl rfl⟩
  ·intro L a w hv K Q hK
   obtain ⟨p1, hs⟩ := hv
   refine wpOp_go rfl rfl hs (OpT_callP [2, 1] (w_frame_ReadHdr_1 hx2) [0] [0] rfl rfl rfl rfl rfl callee54 rfl rfl rfl rfl rfl) ?_
   rintro _ ⟨_, _, _, ⟨rfl, rfl, rfl⟩, rfl⟩ a' w' hs'
   exact hK a' w' ⟨p1, hs'.putF (i := 7) rfl [0, 1] [0, 1] rfl rfl rfl rfl⟩
  ·intro L a w hv K Q hK
   obtain ⟨p1, hs⟩ := hv
   refine wpOp_go rfl rfl hs (OpT_move rfl rfl rfl rfl) ?_
   rintro _ rfl a' w' hs'
   exact hK a' w' ⟨p1, hs'.putF (i := 8) rfl [0, 1] [0, 1] rfl rfl rfl rfl⟩
  ·intro L a w hv K Q hK
   obtain ⟨p1, hs⟩ := hv
   refine wpOp_go rfl rfl hs (OpT_callP [2, 1] (w_frame_ReadHdr_1 hx3) [0] [0] rfl rfl rfl rfl rfl callee54 rfl rfl rfl rfl rfl) ?_
   rintro _ ⟨_, _, _, ⟨rfl, rfl, rfl⟩, rfl⟩ a' w' hs'
   exact hK a' w' ⟨p1, hs'.putF (i := 9) rfl [0, 1] [0, 1] rfl rfl rfl rfl⟩
  ·intro L a w hv K Q hK
   obtain ⟨p1, hs⟩ := hv
   refine wpOp_go rfl rfl hs (OpT_move rfl rfl rfl rfl) ?_
   rintro _ rfl a' w' hs'
   exact hK a' w' ⟨p1, hs'.putF (i := 10) rfl [0, 1] [0, 1] rfl rfl rfl rfl⟩
  ·intro L a w hv K Q hK
   obtain ⟨p1, hs⟩ := hv
   refine wpOp_go rfl rfl hs (OpT_callP [2, 1] (w_frame_ReadHdr_1 hx4) [0] [0] rfl rfl rfl rfl rfl callee54 rfl rfl rfl rfl rfl) ?_
   rintro _ ⟨_, _, _, ⟨rfl, rfl, rfl⟩, rfl⟩ a' w' hs'
   exact hK a' w' ⟨p1, hs'.putF (i := 11) rfl [0, 1] [0, 1] rfl rfl rfl rfl⟩
  ·intro L a w hL hv
   rw [allTrue hL] at hv
   obtain ⟨p1, hs⟩ := hv
   refine (show TA _ _ _ 9 ⟨[(2, some (.pointer (some ⟨b2, 0, none⟩))), (12, some (vU8 y1)), (14, some (vU16 readhd1)), (16, some (vU16 readhd2)), (18, some (vU16 readhd3))], [some (cellsR b2 50 [vU8 (0 : UInt8), vU16 (0 : UInt16), vU16 (0 : UInt16), vU16 (0 : UInt16)])], []⟩ from ?_) a w (hs.wkS [2, 12, 14, 16, 18] [1] [] rfl rfl rfl rfl)
   clear hs hL
   refine TA_step htb (by kernel_rfl) rfl rfl (OpT_build (v := .agg #[vU8 y1, vU16 readhd1, vU16 readhd2, vU16 readhd3]) rfl rfl rfl rfl (bldV (by kernel_rfl))) ?_
   refine TA_step htb (by kernel_rfl) rfl rfl (OpT_storeC (cs' := [vU8 y1, vU16 readhd1, vU16 readhd2, vU16 readhd3]) rfl rfl rfl rfl tyF50 (i := 0) rfl rfl rfl (one_of rfl) rfl) ?_
   refine TA_step htb (by kernel_rfl) rfl rfl (OpT_assign rfl rfl rfl rfl) ?_
   refine TA_end rfl ?_
   refine Tk_wkS (fr' := [(2, some (.pointer (some ⟨b2, 0, none⟩))), (3, some (vI (0 : Int)))]) (own' := [some (cellsR b2 50 [vU8 y1, vU16 readhd1, vU16 readhd2, vU16 readhd3])]) (shr' := []) [2, 3] [0] [] rfl rfl rfl rfl ?_
   obtain rfl := Option.some.inj h
   exact Tk_retV rfl rfl (resA (vs := [.agg #[vU8 y1, vU16 readhd1, vU16 readhd2, vU16 readhd3], vI (0 : Int)]) rfl ⟨⟨_, 0, _, _, _, rfl, rfl, .inl ⟨tyF50, rfl, rfl⟩⟩, rfl, trivial⟩) [] [] rfl rfl rfl ⟨rfl, rfl, rfl⟩

set_option maxRecDepth 100000 in
set_option maxHeartbeats 4000000 in
theorem w_frame_word {b : List UInt8} {vb1 : Value} {r : UInt16} (h : frame_word b = some r) :
  Ctr Try.prog 56 #[vb1] [] [Fact.sl u8S vb1 b]
   (fun rv own shr => rv = vU16 r ∧ own = [] ∧ shr = []) := by
 unfold frame_word at h
 refine Ctr.mk (args := [vb1]) Try.func56 rfl rfl (fun R0 w0 B => ?_)
 refine Tk_seq (Tk_region (Tops_step rfl (OpT_assign rfl rfl rfl rfl) ?_))
 refine Tops_nil (Tk_wkS (fr' := [(0, some (vb1))]) (own' := []) (shr' := [Fact.sl u8S vb1 b]) [0] [] [0] rfl rfl rfl rfl ?_)
 refine Tk_seq (Tk_drawT (by kernel_rfl) ?_)
 refine TA_tb [0, 1, 3, 7, 15, 0, 32, 96, 224, 511, 1023] (by kernel_rfl) fun htb => ?_
 obtain ⟨y1, hx1, h⟩ := ob_e h
 obtain ⟨y2, hx2, h⟩ := ob_e h
 refine TA_seg (lo := 0) (hi := 9) htb rfl rfl (by kernel_rfl) (fun c L a w => ∃ (p1 : Value), ∃ (p2 : Value), Sat c ⟨[(0, some (vb1)), (3, bif L 0 then some (vb1) else none), (4, bif L 1 then some (p1) else none), (5, bif L 2 then some (vU8 y1) else none), (6, bif L 3 then some (vU16 y1.toUInt16) else none), (7, bif L 4 then some (vU16 (shl16 y1.toUInt16 ((8 : UInt64).toNat))) else none), (8, bif L 5 then some (vb1) else none), (9, bif L 6 then some (p2) else none), (10, bif L 7 then some (vU8 y2) else none), (11, bif L 8 then some (vU16 y2.toUInt16) else none)], [], [Fact.sl u8S vb1 b, (bif L 1 then Fact.pt u8S p1 y1 else Fact.tt), (bif L 6 then Fact.pt u8S p2 y2 else Fact.tt)]⟩ a w) [([], [1, 2, 3, 4]), ([0], [2, 3, 4]), ([0, 1], [3, 4]), ([0, 1, 2], [4]), ([0, 1, 2, 3], []), ([], [6, 7, 8]), ([5], [7, 8]), ([5, 6], [8]), ([5, 6, 7], [])] rfl (by kernel_rfl) ?_ (steps_cons ?_ (steps_cons ?_ (steps_cons ?_ (steps_cons ?_ (steps_cons ?_ (steps_cons ?_ (steps_cons ?_ (steps_cons ?_ (steps_cons ?_ (steps_nil)))))))))) ?_
 ·intro a w hs
  exact ⟨undef, undef, hs.startF [3, 4, 5, 6, 7, 8, 9, 10, 11] [] [0, 1, 2] rfl rfl rfl rfl⟩
 ·intro L a w hv K Q hK
  obtain ⟨p1, p2, hs⟩ := hv
  refine wpOp_go rfl rfl hs (OpT_move rfl rfl rfl rfl) ?_
  rintro _ rfl a' w' hs'
  exact hK a' w' ⟨p1, p2, hs'.putF (i := 1) rfl [] [0, 1, 2] rfl rfl rfl rfl⟩
 ·intro L a w hv K Q hK
  obtain ⟨p1, p2, hs⟩ := hv
  refine wpOp_go rfl rfl hs (OpT_idxS rfl rfl rfl rfl rfl slF24 (i := 0) rfl hx1) ?_
  rintro _ ⟨p1', rfl⟩ a' w' hs'
  exact hK a' w' ⟨p1', p2, hs'.putF (i := 2) rfl [] [0, 3, 2] rfl rfl rfl rfl⟩
 ·intro L a w hv K Q hK
  obtain ⟨p1, p2, hs⟩ := hv
  refine wpOp_go rfl rfl hs (OpT_loadP rfl rfl rfl rfl tyF5 (i := 1) rfl rfl) ?_
  rintro _ rfl a' w' hs'
  exact hK a' w' ⟨p1, p2, hs'.putF (i := 3) rfl [] [0, 1, 2] rfl rfl rfl rfl⟩
 ·intro L a w hv K Q hK
  obtain ⟨p1, p2, hs⟩ := hv
  refine wpOp_go rfl rfl hs (OpT_cnv rfl rfl rfl rfl (cnv_u8_u16 (n := y1) Try.underlying5 Try.underlying23)) ?_
  rintro _ rfl a' w' hs'
  exact hK a' w' ⟨p1, p2, hs'.putF (i := 4) rfl [] [0, 1, 2] rfl rfl rfl rfl⟩
 ·intro L a w hv K Q hK
  obtain ⟨p1, p2, hs⟩ := hv
  refine wpOp_go rfl rfl hs (OpT_bin rfl rfl rfl rfl rfl (bin_shl_u16_u64 (a := y1.toUInt16) (n := (8 : UInt64)))) ?_
  rintro _ rfl a' w' hs'
  exact hK a' w' ⟨p1, p2, hs'.putF (i := 5) rfl [] [0, 1, 2] rfl rfl rfl rfl⟩
 ·intro L a w hv K Q hK
  obtain ⟨p1, p2, hs⟩ := hv
  refine wpOp_go rfl rfl hs (OpT_move rfl rfl rfl rfl) ?_
  rintro _ rfl a' w' hs'
  exact hK a' w' ⟨p1, p2, hs'.putF (i := 6) rfl [] [0, 1, 2] rfl rfl rfl rfl⟩
 ·intro L a w hv K Q hK
  obtain ⟨p1, p2, hs⟩ := hv
  refine wpOp_go rfl rfl hs (OpT_idxS rfl rfl rfl rfl rfl slF24 (i := 0) rfl hx2) ?_
  rintro _ ⟨p2', rfl⟩ a' w' hs'
  exact hK a' w' ⟨p1, p2', hs'.putF (i := 7) rfl [] [0, 1, 3] rfl rfl rfl rfl⟩
 ·intro L a w hv K Q hK
  obtain ⟨p1, p2, hs⟩ := hv
  refine wpOp_go rfl rfl hs (OpT_loadP rfl rfl rfl rfl tyF5 (i := 2) rfl rfl) ?_
  rintro _ rfl a' w' hs'
  exact hK a' w' ⟨p1, p2, hs'.putF (i := 8) rfl [] [0, 1, 2] rfl rfl rfl rfl⟩
 ·intro L a w hv K Q hK
  obtain ⟨p1, p2, hs⟩ := hv
  refine wpOp_go rfl rfl hs (OpT_cnv rfl rfl rfl rfl (cnv_u8_u16 (n := y2) Try.underlying5 Try.underlying23)) ?_
  rintro _ rfl a' w' hs'
  exact hK a' w' ⟨p1, p2, hs'.putF (i := 9) rfl [] [0, 1, 2] rfl rfl rfl rfl⟩
 ·intro L a w hL hv
  rw [allTrue hL] at hv
  obtain ⟨p1, p2, hs⟩ := hv
  refine (show TA _ _ _ 9 ⟨[(7, some (vU16 (shl16 y1.toUInt16 ((8 : UInt64).toNat)))), (11, some (vU16 y2.toUInt16))], [], []⟩ from ?_) a w (hs.wkS [7, 11] [] [] rfl rfl rfl rfl)
  clear hs hL
  refine TA_step htb (by kernel_rfl) rfl rfl (OpT_bin rfl rfl rfl rfl rfl (bin_or_u16 (a := shl16 y1.toUInt16 ((8 : UInt64).toNat)) (b := y2.toUInt16))) ?_
  refine TA_step htb (by kernel_rfl) rfl rfl (OpT_assign rfl rfl rfl rfl) ?_
  refine TA_end rfl ?_
  refine Tk_wkS (fr' := [(2, some (vU16 ((shl16 y1.toUInt16 ((8 : UInt64).toNat)) ||| y2.toUInt16)))]) (own' := []) (shr' := []) [2] [] [] rfl rfl rfl rfl ?_
  obtain rfl := Option.some.inj h
  exact Tk_retV rfl rfl (resA (vs := [vU16 ((shl16 y1.toUInt16 ((8 : UInt64).toNat)) ||| y2.toUInt16)]) rfl ⟨rfl, trivial⟩) [] [] rfl rfl rfl ⟨rfl, rfl, rfl⟩

set_option maxRecDepth 100000 in
set_option maxHeartbeats 4000000 in
theorem w_frame_Sum {b : List UInt8} {vb1 : Value} {r : UInt16} (h : frame_Sum b = some r) :
  Ctr Try.prog 55 #[vb1] [] [Fact.sl u8S vb1 b]
   (fun rv own shr => rv = vU16 r ∧ own = [] ∧ shr = []) := by
 unfold frame_Sum at h
 refine Ctr.mk (args := [vb1]) Try.func55 rfl rfl (fun R0 w0 B => ?_)
 refine Tk_seq (Tk_region (Tops_step rfl (OpT_assign rfl rfl rfl rfl) ?_))
 refine Tops_nil (Tk_wkS (fr' := [(0, some (vb1))]) (own' := []) (shr' := [Fact.sl u8S vb1 b]) [0] [] [0] rfl rfl rfl rfl ?_)
 refine Tk_seq (Tk_region (Tops_step rfl (OpT_assign rfl rfl rfl rfl) ?_))
 refine Tops_nil (Tk_seq (Tk_block (Tk_loopS (σ := (List UInt8) × UInt64 × Value) [0, 3] [] [0] (fun s => ⟨[(0, some (s.2.2)), (3, some (vU64 s.2.1))], [], [Fact.sl u8S s.2.2 s.1]⟩) (fun nf1 s => frame_SumL1 nf1 s.1 s.2.1 = some r) fuel (b, (0 : UInt64), vb1) h rfl rfl rfl rfl rfl (fun s h => by cases h) ?_)))
 rintro nf1 ⟨b1, s1, v1⟩ h
 replace h : frame_SumL1B (frame_SumL1 nf1) b1 s1 = some r := h
 unfold frame_SumL1B at h
 refine Tk_seq (Tk_seq (Tk_region (Tops_step rfl (OpT_move rfl rfl rfl rfl) ?_)))
 refine Tops_step rfl (OpT_lenS rfl rfl rfl rfl Try.underlying24 (i := 0) rfl) ?_
 refine Tops_step rfl (OpT_bin rfl rfl rfl rfl rfl (bin_gtr_i (a := len b1) (b := (1 : Int)))) ?_
 refine Tops_nil (Tk_wkS (fr' := [(0, some (v1)), (3, some (vU64 s1)), (6, some (vB (decide ((len b1) > (1 : Int)))))]) (own' := []) (shr' := [Fact.sl u8S v1 b1]) [0, 3, 6] [] [0] rfl rfl rfl rfl ?_)
 rcases Bool.eq_false_or_eq_true (decide ((len b1) > (1 : Int))) with hg1 | hg1
 ·replace h := br_t hg1 h
  refine Tk_condT (congrArg (fun b => some (Value.bool b)) hg1) ?_
  refine Tk_skip (Tk_seq (Tk_block (Tk_region (Tops_step rfl (OpT_move rfl rfl rfl rfl) ?_))))
  refine Tops_step rfl (OpT_move rfl rfl rfl rfl) ?_
  obtain ⟨word1, hx1, h⟩ := ob_e h
  refine Tops_exP rfl (OpT_call (w_frame_word hx1) [] [0] rfl rfl rfl rfl rfl callee56 rfl rfl rfl rfl) ?_
  rintro _ ⟨_, _, _, ⟨rfl, rfl, rfl⟩, rfl⟩
  refine Tops_step rfl (OpT_cnv rfl rfl rfl rfl (cnv_u16_u64 (n := word1) Try.underlying23 Try.underlying28)) ?_
  refine Tops_step rfl (OpT_bin rfl rfl rfl rfl rfl (bin_add_u64 (a := s1) (b := word1.toUInt64))) ?_
  refine Tops_step rfl (OpT_assign rfl rfl rfl rfl) ?_
  refine Tops_nil (Tk_wkS (fr' := [(0, some (v1)), (3, some (vU64 (s1 + word1.toUInt64)))]) (own' := []) (shr' := [Fact.sl u8S v1 b1]) [0, 3] [] [0] rfl rfl rfl rfl ?_)
  refine Tk_blk (Tk_region (Tops_step rfl (OpT_move rfl rfl rfl rfl) ?_))
  obtain ⟨hc1, h⟩ := chk_e h
  refine Tops_ex rfl (OpT_sliceL (l := (2 : Int)) rfl rfl rfl rfl rfl slF24 (i := 0) rfl hc1) fun v2 => ?_
  refine Tops_step rfl (OpT_assign rfl rfl rfl rfl) ?_
  refine Tops_nil (Tk_wkS (fr' := [(0, some (v2)), (3, some (vU64 (s1 + word1.toUInt64)))]) (own' := []) (shr' := [Fact.sl u8S v2 (sub b1 (2 : Int) (len b1))]) [0, 3] [] [1] rfl rfl rfl rfl ?_)
  exact Tk_backS (sub b1 (2 : Int) (len b1), s1 + word1.toUInt64, v2) h [0, 3] [] [0] rfl rfl rfl rfl rfl
 ·replace h := br_f hg1 h
  refine Tk_condF (congrArg (fun b => some (Value.bool b)) hg1) ?_
  refine Tk_exit _ rfl ?_
  refine Tk_seq (Tk_seq (Tk_region (Tops_step rfl (OpT_move rfl rfl rfl rfl) ?_)))
  refine Tops_step rfl (OpT_lenS rfl rfl rfl rfl Try.underlying24 (i := 0) rfl) ?_
  refine Tops_step rfl (OpT_bin rfl rfl rfl rfl rfl (bin_eql_i (a := len b1) (b := (1 : Int)))) ?_
  refine Tops_nil (Tk_wkS (fr' := [(0, some (v1)), (3, some (vU64 s1)), (16, some (vB ((len b1) == (1 : Int))))]) (own' := []) (shr' := [Fact.sl u8S v1 b1]) [0, 3, 16] [] [0] rfl rfl rfl rfl ?_)
  refine Tk_join (α := UInt64) (fun s => ⟨[(3, some (vU64 s))], [], []⟩) (fun s => frame_SumJ2 s = some r) ?_ ?_
  ·rintro s2 h
   replace h : frame_SumJ2 s2 = some r := h
   unfold frame_SumJ2 at h
   refine Tk_seq (Tk_block (Tk_loopS (σ := UInt64) [3] [] [] (fun s => ⟨[(3, some (vU64 s))], [], []⟩) (fun nf3 s => frame_SumL3 nf3 s = some r) fuel s2 h rfl rfl rfl rfl rfl (fun s h => by cases h) ?_))
   rintro nf3 s3 h
   replace h : frame_SumL3B (frame_SumL3 nf3) s3 = some r := h
   unfold frame_SumL3B at h
   refine Tk_seq (Tk_seq (Tk_region (Tops_step rfl (OpT_move rfl rfl rfl rfl) ?_)))
   refine Tops_step rfl (OpT_bin rfl rfl rfl rfl rfl (bin_shr_u64_u64 (a := s3) (n := (16 : UInt64)))) ?_
   refine Tops_step rfl (OpT_bin rfl rfl rfl rfl rfl (bin_neq_u64 (a := shr64 s3 ((16 : UInt64).toNat)) (b := (0 : UInt64)))) ?_
   refine Tops_nil (Tk_wkS (fr' := [(3, some (vU64 s3)), (26, some (vB ((shr64 s3 ((16 : UInt64).toNat)) != (0 : UInt64))))]) (own' := []) (shr' := []) [3, 26] [] [] rfl rfl rfl rfl ?_)
   rcases Bool.eq_false_or_eq_true ((shr64 s3 ((16 : UInt64).toNat)) != (0 : UInt64)) with hg2 | hg2
   ·replace h := br_t hg2 h
    refine Tk_condT (congrArg (fun b => some (Value.bool b)) hg2) ?_
    refine Tk_skip (Tk_block (Tk_region (Tops_step rfl (OpT_move rfl rfl rfl rfl) ?_)))
    refine Tops_step rfl (OpT_bin rfl rfl rfl rfl rfl (bin_shr_u64_u64 (a := s3) (n := (16 : UInt64)))) ?_
    refine Tops_step rfl (OpT_move rfl rfl rfl rfl) ?_
    refine Tops_step rfl (OpT_bin rfl rfl rfl rfl rfl (bin_and_u64 (a := s3) (b := (65535 : UInt64)))) ?_
    refine Tops_step rfl (OpT_bin rfl rfl rfl rfl rfl (bin_add_u64 (a := shr64 s3 ((16 : UInt64).toNat)) (b := s3 &&& (65535 : UInt64)))) ?_
    refine Tops_step rfl (OpT_assign rfl rfl rfl rfl) ?_
    refine Tops_nil (Tk_wkS (fr' := [(3, some (vU64 ((shr64 s3 ((16 : UInt64).toNat)) + (s3 &&& (65535 : UInt64)))))]) (own' := []) (shr' := []) [3] [] [] rfl rfl rfl rfl ?_)
    refine Tk_blk ?_
    exact Tk_backS ((shr64 s3 ((16 : UInt64).toNat)) + (s3 &&& (65535 : UInt64))) h [3] [] [] rfl rfl rfl rfl rfl
   ·replace h := br_f hg2 h
    refine Tk_condF (congrArg (fun b => some (Value.bool b)) hg2) ?_
    refine Tk_exit _ rfl ?_
    refine Tk_seq (Tk_region (Tops_step rfl (OpT_move rfl rfl rfl rfl) ?_))
    refine Tops_step rfl (OpT_cnv rfl rfl rfl rfl (cnv_u64_u16 (n := s3) Try.underlying28 Try.underlying23)) ?_
    refine Tops_step rfl (OpT_xor_u16 (z := s3.toUInt16) rfl rfl rfl rfl) ?_
    refine Tops_step rfl (OpT_assign rfl rfl rfl rfl) ?_
    refine Tops_nil (Tk_wkS (fr' := [(2, some (vU16 (~~~s3.toUInt16)))]) (own' := []) (shr' := []) [2] [] [] rfl rfl rfl rfl ?_)
    obtain rfl := Option.some.inj h
    exact Tk_retV rfl rfl (resA (vs := [vU16 (~~~s3.toUInt16)]) rfl ⟨rfl, trivial⟩) [] [] rfl rfl rfl ⟨rfl, rfl, rfl⟩
  ·intro HJ1
   rcases Bool.eq_false_or_eq_true ((len b1) == (1 : Int)) with hg3 | hg3
   ·replace h := br_t hg3 h
    refine Tk_condT (congrArg (fun b => some (Value.bool b)) hg3) ?_
    refine Tk_region (Tops_step rfl (OpT_move rfl rfl rfl rfl) ?_)
    refine Tops_step rfl (OpT_move rfl rfl rfl rfl) ?_
    obtain ⟨y1, hx2, h⟩ := ob_e h
    refine Tops_ex rfl (OpT_idxS rfl rfl rfl rfl rfl slF24 (i := 0) rfl hx2) fun p1 => ?_
    refine Tops_step rfl (OpT_loadP rfl rfl rfl rfl tyF5 (i := 1) rfl rfl) ?_
    refine Tops_step rfl (OpT_cnv rfl rfl rfl rfl (cnv_u8_u64 (n := y1) Try.underlying5 Try.underlying28)) ?_
    refine Tops_step rfl (OpT_bin rfl rfl rfl rfl rfl (bin_shl_u64_u64 (a := y1.toUInt64) (n := (8 : UInt64)))) ?_
    refine Tops_step rfl (OpT_bin rfl rfl rfl rfl rfl (bin_add_u64 (a := s1) (b := shl64 y1.toUInt64 ((8 : UInt64).toNat)))) ?_
    refine Tops_step rfl (OpT_assign rfl rfl rfl rfl) ?_
    refine Tops_nil (Tk_wkS (fr' := [(3, some (vU64 (s1 + (shl64 y1.toUInt64 ((8 : UInt64).toNat)))))]) (own' := []) (shr' := []) [3] [] [] rfl rfl rfl rfl ?_)
    exact Tk_jmpS (HJ1 (s1 + (shl64 y1.toUInt64 ((8 : UInt64).toNat))) h) [3] [] [] rfl rfl rfl rfl
   ·replace h := br_f hg3 h
    refine Tk_condF (congrArg (fun b => some (Value.bool b)) hg3) ?_
    refine Tk_skip ?_
    exact Tk_jmpS (HJ1 s1 h) [3] [] [] rfl rfl rfl rfl

set_option maxRecDepth 100000 in
set_option maxHeartbeats 4000000 in
theorem w_frame_Fill {b : List UInt8} {hp1 : Hdr} {vb1 : Value} {r : ((List UInt8) × Int)} (h : frame_Fill b hp1 = some r) :
  Ctr Try.prog 42 #[vb1, .agg #[vU8 hp1.Flags, vU16 hp1.Start, vU16 hp1.Off, vU16 hp1.Buffers]] [] [Fact.sl u8S vb1 b]
   (fun rv own shr => ∃ (w1 : Value), rv = .tuple #[w1, vI r.2] ∧ own = [(rowS u8S w1 r.1)] ∧ shr = []) := by
 unfold frame_Fill at h
 refine Ctr.mk (args := [vb1, .agg #[vU8 hp1.Flags, vU16 hp1.Start, vU16 hp1.Off, vU16 hp1.Buffers]]) Try.func42 rfl rfl (fun R0 w0 B => ?_)
 refine Tk_seq (Tk_region (Tops_ex rfl (OpT_box rfl rfl rfl rfl) fun b1 => ?_))
 refine Tops_step rfl (OpT_assign rfl rfl rfl rfl) ?_
 refine Tops_step rfl (OpT_assign rfl rfl rfl rfl) ?_
 refine Tops_nil (Tk_wkS (fr' := [(0, some (vb1)), (3, some (.pointer (some ⟨b1, 0, none⟩)))]) (own' := [some (cellsR b1 50 [vU8 hp1.Flags, vU16 hp1.Start, vU16 hp1.Off, vU16 hp1.Buffers])]) (shr' := [Fact.sl u8S vb1 b]) [0, 3] [0] [0] rfl rfl rfl rfl ?_)
 refine Tk_seq (Tk_seq (Tk_region (Tops_step rfl (OpT_fieldC rfl rfl rfl rfl fldF50x0) ?_)))
 refine Tops_step rfl (OpT_loadC rfl rfl rfl rfl tyF5 (i := 0) rfl rfl) ?_
 refine Tops_step rfl (OpT_bin rfl rfl rfl rfl rfl (bin_and_u8 (a := hp1.Flags) (b := (1 : UInt8)))) ?_
 refine Tops_step rfl (OpT_bin rfl rfl rfl rfl rfl (bin_eql_u8 (a := hp1.Flags &&& (1 : UInt8)) (b := (0 : UInt8)))) ?_
 refine Tops_nil (Tk_wkS (fr' := [(0, some (vb1)), (3, some (.pointer (some ⟨b1, 0, none⟩))), (13, some (vB ((hp1.Flags &&& (1 : UInt8)) == (0 : UInt8))))]) (own' := [some (cellsR b1 50 [vU8 hp1.Flags, vU16 hp1.Start, vU16 hp1.Off, vU16 hp1.Buffers])]) (shr' := [Fact.sl u8S vb1 b]) [0, 3, 13] [0] [0] rfl rfl rfl rfl ?_)
 rcases Bool.eq_false_or_eq_true ((hp1.Flags &&& (1 : UInt8)) == (0 : UInt8)) with hg1 | hg1
 ·replace h := br_t hg1 h
  refine Tk_condT (congrArg (fun b => some (Value.bool b)) hg1) ?_
  refine Tk_seq (Tk_region (Tops_step rfl (OpT_move rfl rfl rfl rfl) ?_))
  obtain ⟨cloneb1, hx1, h⟩ := ob_e h
  refine Tops_exP rfl (OpT_call (w_slices_Clone_bytebyte hx1) [] [0] rfl rfl rfl rfl rfl callee44 rfl rfl rfl rfl) ?_
  rintro _ ⟨v1, _, _, ⟨_, rfl, rfl, rfl⟩, rfl⟩
  refine Tops_step rfl (OpT_assign rfl rfl rfl rfl) ?_
  refine Tops_step rfl (OpT_assign rfl rfl rfl rfl) ?_
  refine Tops_nil (Tk_wkS (fr' := [(4, some (v1)), (5, some (vI (0 : Int)))]) (own' := [some (rowS u8S v1 cloneb1)]) (shr' := []) [4, 5] [1] [] rfl rfl rfl rfl ?_)
  obtain rfl := Option.some.inj h
  exact Tk_retV rfl rfl (resA (vs := [v1, vI (0 : Int)]) rfl ⟨rfl, rfl, trivial⟩) [0] [] rfl rfl rfl ⟨v1, rfl, rfl, rfl⟩
 ·replace h := br_f hg1 h
  refine Tk_condF (congrArg (fun b => some (Value.bool b)) hg1) ?_
  refine Tk_skip (Tk_seq (Tk_region (Tops_step rfl (OpT_fieldC rfl rfl rfl rfl fldF50x1) ?_)))
  refine Tops_step rfl (OpT_loadC rfl rfl rfl rfl tyF23 (i := 0) rfl rfl) ?_
  refine Tops_step rfl (OpT_cnv rfl rfl rfl rfl (cnv_u16_i (n := hp1.Start) Try.underlying23 Try.underlying3)) ?_
  refine Tops_step rfl (OpT_assign rfl rfl rfl rfl) ?_
  refine Tops_nil (Tk_wkS (fr' := [(0, some (vb1)), (3, some (.pointer (some ⟨b1, 0, none⟩))), (6, some (vI (i16 hp1.Start)))]) (own' := [some (cellsR b1 50 [vU8 hp1.Flags, vU16 hp1.Start, vU16 hp1.Off, vU16 hp1.Buffers])]) (shr' := [Fact.sl u8S vb1 b]) [0, 3, 6] [0] [0] rfl rfl rfl rfl ?_)
  refine Tk_seq (Tk_region (Tops_step rfl (OpT_move rfl rfl rfl rfl) ?_))
  refine Tops_step rfl (OpT_fieldC rfl rfl rfl rfl fldF50x2) ?_
  refine Tops_step rfl (OpT_loadC rfl rfl rfl rfl tyF23 (i := 0) rfl rfl) ?_
  refine Tops_step rfl (OpT_cnv rfl rfl rfl rfl (cnv_u16_i (n := hp1.Off) Try.underlying23 Try.underlying3)) ?_
  refine Tops_step rfl (OpT_bin rfl rfl rfl rfl rfl (bin_add_i (a := i16 hp1.Start) (b := i16 hp1.Off))) ?_
  refine Tops_step rfl (OpT_assign rfl rfl rfl rfl) ?_
  refine Tops_nil (Tk_wkS (fr' := [(0, some (vb1)), (6, some (vI (i16 hp1.Start))), (7, some (vI (wi ((i16 hp1.Start) + (i16 hp1.Off)))))]) (own' := []) (shr' := [Fact.sl u8S vb1 b]) [0, 6, 7] [] [0] rfl rfl rfl rfl ?_)
  refine Tk_seq (Tk_seq (Tk_region (Tops_step rfl (OpT_move rfl rfl rfl rfl) ?_)))
  refine Tops_step rfl (OpT_move rfl rfl rfl rfl) ?_
  refine Tops_step rfl (OpT_lenS rfl rfl rfl rfl Try.underlying24 (i := 0) rfl) ?_
  refine Tops_step rfl (OpT_bin rfl rfl rfl rfl rfl (bin_gtr_i (a := i16 hp1.Start) (b := len b))) ?_
  refine Tops_step rfl (OpT_move rfl rfl rfl rfl) ?_
  rcases Bool.eq_false_or_eq_true (decide ((i16 hp1.Start) > (len b))) with hg2 | hg2
  ·replace h := br_t hg2 h
   refine Tops_no rfl rfl (congrArg (fun b => some (Value.bool b)) hg2) rfl rfl ?_
   refine Tops_no rfl rfl (congrArg (fun b => some (Value.bool b)) hg2) rfl rfl ?_
   refine Tops_no rfl rfl (congrArg (fun b => some (Value.bool b)) hg2) rfl rfl ?_
   refine Tops_no rfl rfl (congrArg (fun b => some (Value.bool b)) hg2) rfl rfl ?_
   refine Tops_no rfl rfl (congrArg (fun b => some (Value.bool b)) hg2) rfl rfl ?_
   refine Tops_step rfl (OpT_pickT rfl rfl rfl (congrArg (fun b => some (Value.bool b)) hg2) rfl) ?_
   refine Tops_nil (Tk_wkS (fr' := [(0, some (vb1)), (6, some (vI (i16 hp1.Start))), (7, some (vI (wi ((i16 hp1.Start) + (i16 hp1.Off))))), (34, some (vB true))]) (own' := []) (shr' := [Fact.sl u8S vb1 b]) [0, 6, 7, 34] [] [0] rfl rfl rfl rfl ?_)
   refine Tk_condT rfl ?_
   refine Tk_seq (Tk_region (Tops_step rfl (OpT_assign rfl rfl rfl rfl) ?_))
   refine Tops_step rfl (OpT_assign rfl rfl rfl rfl) ?_
   refine Tops_nil (Tk_wkS (fr' := [(4, some (.slice none 0 0)), (5, some (vI (4 : Int)))]) (own' := []) (shr' := []) [4, 5] [] [] rfl rfl rfl rfl ?_)
   refine Tk_nilrow u8S ?_
   obtain rfl := Option.some.inj h
   exact Tk_retV rfl rfl (resA (vs := [.slice none 0 0, vI (4 : Int)]) rfl ⟨rfl, rfl, trivial⟩) [0] [] rfl rfl rfl ⟨(.slice none 0 0), rfl, rfl, rfl⟩
  ·replace h := br_f hg2 h
   refine Tops_yes rfl rfl (congrArg (fun b => some (Value.bool b)) hg2) (OpT_move rfl rfl rfl rfl) ?_
   rintro _ rfl
   refine Tops_yes rfl rfl (congrArg (fun b => some (Value.bool b)) hg2) (OpT_bin rfl rfl rfl rfl rfl (bin_add_i (a := wi ((i16 hp1.Start) + (i16 hp1.Off))) (b := (2 : Int)))) ?_
   rintro _ rfl
   refine Tops_yes rfl rfl (congrArg (fun b => some (Value.bool b)) hg2) (OpT_move rfl rfl rfl rfl) ?_
   rintro _ rfl
   refine Tops_yes rfl rfl (congrArg (fun b => some (Value.bool b)) hg2) (OpT_lenS rfl rfl rfl rfl Try.underlying24 (i := 0) rfl) ?_
   rintro _ rfl
   refine Tops_yes rfl rfl (congrArg (fun b => some (Value.bool b)) hg2) (OpT_bin rfl rfl rfl rfl rfl (bin_gtr_i (a := wi ((wi ((i16 hp1.Start) + (i16 hp1.Off))) + (2 : Int))) (b := len b))) ?_
   rintro _ rfl
   refine Tops_step rfl (OpT_pickF rfl rfl rfl (congrArg (fun b => some (Value.bool b)) hg2) rfl) ?_
   refine Tops_nil (Tk_wkS (fr' := [(0, some (vb1)), (6, some (vI (i16 hp1.Start))), (7, some (vI (wi ((i16 hp1.Start) + (i16 hp1.Off))))), (34, some (vB (decide ((wi ((wi ((i16 hp1.Start) + (i16 hp1.Off))) + (2 : Int))) > (len b)))))]) (own' := []) (shr' := [Fact.sl u8S vb1 b]) [0, 6, 7, 34] [] [0] rfl rfl rfl rfl ?_)
   rcases Bool.eq_false_or_eq_true (decide ((wi ((wi ((i16 hp1.Start) + (i16 hp1.Off))) + (2 : Int))) > (len b))) with hg3 | hg3
   ·replace h := br_t hg3 h
    refine Tk_condT (congrArg (fun b => some (Value.bool b)) hg3) ?_
    refine Tk_seq (Tk_region (Tops_step rfl (OpT_assign rfl rfl rfl rfl) ?_))
    refine Tops_step rfl (OpT_assign rfl rfl rfl rfl) ?_
    refine Tops_nil (Tk_wkS (fr' := [(4, some (.slice none 0 0)), (5, some (vI (4 : Int)))]) (own' := []) (shr' := []) [4, 5] [] [] rfl rfl rfl rfl ?_)
    refine Tk_nilrow u8S ?_
    obtain rfl := Option.some.inj h
    exact Tk_retV rfl rfl (resA (vs := [.slice none 0 0, vI (4 : Int)]) rfl ⟨rfl, rfl, trivial⟩) [0] [] rfl rfl rfl ⟨(.slice none 0 0), rfl, rfl, rfl⟩
   ·replace h := br_f hg3 h
    refine Tk_condF (congrArg (fun b => some (Value.bool b)) hg3) ?_
    refine Tk_skip (Tk_seq (Tk_region (Tops_step rfl (OpT_move rfl rfl rfl rfl) ?_)))
    obtain ⟨cloneb2, hx2, h⟩ := ob_e h
    refine Tops_exP rfl (OpT_call (w_slices_Clone_bytebyte hx2) [] [0] rfl rfl rfl rfl rfl callee44 rfl rfl rfl rfl) ?_
    rintro _ ⟨v2, _, _, ⟨_, rfl, rfl, rfl⟩, rfl⟩
    refine Tops_step rfl (OpT_assign rfl rfl rfl rfl) ?_
    refine Tops_nil (Tk_wkS (fr' := [(6, some (vI (i16 hp1.Start))), (7, some (vI (wi ((i16 hp1.Start) + (i16 hp1.Off))))), (8, some (v2))]) (own' := [some (rowS u8S v2 cloneb2)]) (shr' := []) [6, 7, 8] [0] [] rfl rfl rfl rfl ?_)
    refine Tk_seq (Tk_region (Tops_step rfl (OpT_move rfl rfl rfl rfl) ?_))
    refine Tops_step rfl (OpT_move rfl rfl rfl rfl) ?_
    obtain ⟨hc1, h⟩ := chk_e h
    refine Tops_step rfl (OpT_subL (S := u8S) (l := i16 hp1.Start) rfl rfl rfl rfl rfl slF24 (i := 0) rfl hc1) ?_
    obtain ⟨sum1, hx3, h⟩ := ob_e h
    refine Tops_exP rfl (OpT_callB [0] [0] (w_frame_Sum hx3) [] rfl rfl rfl rfl rfl callee55 rfl rfl rfl rfl rfl rfl (bor_cons (bor_sub (S := u8S) (l := (i16 hp1.Start)) (m := (len cloneb2)) 0 rfl rfl hc1) bor_nil) (by rintro _ _ _ ⟨rfl, rfl, rfl⟩; exact ⟨rfl, ri_nil⟩)) ?_
    rintro _ ⟨_, _, _, ⟨rfl, rfl, rfl⟩, rfl⟩
    refine Tops_step rfl (OpT_assign rfl rfl rfl rfl) ?_
    refine Tops_nil (Tk_wkS (fr' := [(7, some (vI (wi ((i16 hp1.Start) + (i16 hp1.Off))))), (8, some (v2)), (9, some (vU16 sum1))]) (own' := [some (rowS u8S v2 cloneb2)]) (shr' := []) [7, 8, 9] [0] [] rfl rfl rfl rfl ?_)
    refine Tk_seq (Tk_region (Tops_step rfl (OpT_move rfl rfl rfl rfl) ?_))
    refine Tops_step rfl (OpT_move rfl rfl rfl rfl) ?_
    refine Tops_step rfl (OpT_move rfl rfl rfl rfl) ?_
    refine Tops_step rfl (OpT_move rfl rfl rfl rfl) ?_
    refine Tops_step rfl (OpT_bin rfl rfl rfl rfl rfl (bin_add_i (a := wi ((i16 hp1.Start) + (i16 hp1.Off))) (b := (1 : Int)))) ?_
    refine Tops_step rfl (OpT_move rfl rfl rfl rfl) ?_
    refine Tops_step rfl (OpT_bin rfl rfl rfl rfl rfl (bin_shr_u16_u64 (a := sum1) (n := (8 : UInt64)))) ?_
    refine Tops_step rfl (OpT_cnv rfl rfl rfl rfl (cnv_u16_u8 (n := shr16 sum1 ((8 : UInt64).toNat)) Try.underlying23 Try.underlying5)) ?_
    refine Tops_step rfl (OpT_move rfl rfl rfl rfl) ?_
    refine Tops_step rfl (OpT_cnv rfl rfl rfl rfl (cnv_u16_u8 (n := sum1) Try.underlying23 Try.underlying5)) ?_
    obtain ⟨y1, hx4, h⟩ := ob_e h
    refine Tops_step rfl (OpT_idxO rfl rfl rfl rfl rfl slF24 (i := 0) rfl hx4) ?_
    refine Tops_step rfl (OpT_storeO (S := u8S) (u := (shr16 sum1 ((8 : UInt64).toNat)).toUInt8) rfl rfl rfl rfl rfl tyF5 (i := 0) rfl hx4 rfl) ?_
    obtain ⟨y2, hx5, h⟩ := ob_e h
    refine Tops_step rfl (OpT_idxO rfl rfl rfl rfl rfl slF24 (i := 0) rfl hx5) ?_
    refine Tops_step rfl (OpT_storeO (S := u8S) (u := sum1.toUInt8) rfl rfl rfl rfl rfl tyF5 (i := 0) rfl hx5 rfl) ?_
    refine Tops_nil (Tk_wkS (fr' := [(8, some (v2))]) (own' := [some (rowS u8S v2 ((cloneb2.set (wi ((i16 hp1.Start) + (i16 hp1.Off))).toNat ((shr16 sum1 ((8 : UInt64).toNat)).toUInt8)).set (wi ((wi ((i16 hp1.Start) + (i16 hp1.Off))) + (1 : Int))).toNat sum1.toUInt8))]) (shr' := []) [8] [0] [] rfl rfl rfl rfl ?_)
    refine Tk_seq (Tk_region (Tops_step rfl (OpT_move rfl rfl rfl rfl) ?_))
    refine Tops_step rfl (OpT_assign rfl rfl rfl rfl) ?_
    refine Tops_step rfl (OpT_assign rfl rfl rfl rfl) ?_
    refine Tops_nil (Tk_wkS (fr' := [(4, some (v2)), (5, some (vI (0 : Int)))]) (own' := [some (rowS u8S v2 ((cloneb2.set (wi ((i16 hp1.Start) + (i16 hp1.Off))).toNat ((shr16 sum1 ((8 : UInt64).toNat)).toUInt8)).set (wi ((wi ((i16 hp1.Start) + (i16 hp1.Off))) + (1 : Int))).toNat sum1.toUInt8))]) (shr' := []) [4, 5] [0] [] rfl rfl rfl rfl ?_)
    obtain rfl := Option.some.inj h
    exact Tk_retV rfl rfl (resA (vs := [v2, vI (0 : Int)]) rfl ⟨rfl, rfl, trivial⟩) [0] [] rfl rfl rfl ⟨v2, rfl, rfl, rfl⟩

set_option maxRecDepth 100000 in
set_option maxHeartbeats 4000000 in
theorem w_frame_Read {b : List UInt8} {vb1 : Value} {r : (Frame × Int)} (h : frame_Read b = some r) :
  Ctr Try.prog 43 #[vb1] [] [Fact.sl u8S vb1 b]
   (fun rv own shr => ∃ (w1 : Value), rv = .tuple #[.agg #[vU8 r.1.Dst.a0, vU8 r.1.Dst.a1, vU8 r.1.Dst.a2, vU8 r.1.Dst.a3, vU8 r.1.Dst.a4, vU8 r.1.Dst.a5, vU8 r.1.Src.a0, vU8 r.1.Src.a1, vU8 r.1.Src.a2, vU8 r.1.Src.a3, vU8 r.1.Src.a4, vU8 r.1.Src.a5, vI r.1.Vlan, vU16 r.1.Type_, w1], vI r.2] ∧ own = [(rowS u8S w1 r.1.Data)] ∧ shr = []) := by
 unfold frame_Read at h
 refine Ctr.mk (args := [vb1]) Try.func43 rfl rfl (fun R0 w0 B => ?_)
 refine Tk_seq (Tk_region (Tops_ex rfl (OpT_alloc rfl rfl rfl tyZ26) fun b1 => ?_))
 refine Tops_step rfl (OpT_assign rfl rfl rfl rfl) ?_
 refine Tops_nil (Tk_wkS (fr' := [(0, some (vb1)), (2, some (.pointer (some ⟨b1, 0, none⟩)))]) (own' := [some (cellsR b1 26 [vU8 (0 : UInt8), vU8 (0 : UInt8), vU8 (0 : UInt8), vU8 (0 : UInt8), vU8 (0 : UInt8), vU8 (0 : UInt8), vU8 (0 : UInt8), vU8 (0 : UInt8), vU8 (0 : UInt8), vU8 (0 : UInt8), vU8 (0 : UInt8), vU8 (0 : UInt8), vI (0 : Int), vU16 (0 : UInt16), .slice none 0 0])]) (shr' := [Fact.sl u8S vb1 b]) [0, 2] [0] [0] rfl rfl rfl rfl ?_)
 refine Tk_seq (Tk_seq (Tk_region (Tops_step rfl (OpT_move rfl rfl rfl rfl) ?_)))
 refine Tops_step rfl (OpT_lenS rfl rfl rfl rfl Try.underlying24 (i := 0) rfl) ?_
 refine Tops_step rfl (OpT_bin rfl rfl rfl rfl rfl (bin_lss_i (a := len b) (b := (14 : Int)))) ?_
 refine Tops_nil (Tk_wkS (fr' := [(0, some (vb1)), (2, some (.pointer (some ⟨b1, 0, none⟩))), (8, some (vB (decide ((len b) < (14 : Int)))))]) (own' := [some (cellsR b1 26 [vU8 (0 : UInt8), vU8 (0 : UInt8), vU8 (0 : UInt8), vU8 (0 : UInt8), vU8 (0 : UInt8), vU8 (0 : UInt8), vU8 (0 : UInt8), vU8 (0 : UInt8), vU8 (0 : UInt8), vU8 (0 : UInt8), vU8 (0 : UInt8), vU8 (0 : UInt8), vI (0 : Int), vU16 (0 : UInt16), .slice none 0 0])]) (shr' := [Fact.sl u8S vb1 b]) [0, 2, 8] [0] [0] rfl rfl rfl rfl ?_)
 rcases Bool.eq_false_or_eq_true (decide ((len b) < (14 : Int))) with hg1 | hg1
 ·replace h := br_t hg1 h
  refine Tk_condT (congrArg (fun b => some (Value.bool b)) hg1) ?_
  refine Tk_seq (Tk_region (Tops_step rfl (OpT_build (v := .agg #[vU8 (0 : UInt8), vU8 (0 : UInt8), vU8 (0 : UInt8), vU8 (0 : UInt8), vU8 (0 : UInt8), vU8 (0 : UInt8), vU8 (0 : UInt8), vU8 (0 : UInt8), vU8 (0 : UInt8), vU8 (0 : UInt8), vU8 (0 : UInt8), vU8 (0 : UInt8), vI (0 : Int), vU16 (0 : UInt16), .slice none 0 0]) rfl rfl rfl rfl (bldV (by kernel_rfl))) ?_))
  refine Tops_step rfl (OpT_storeC (cs' := [vU8 (0 : UInt8), vU8 (0 : UInt8), vU8 (0 : UInt8), vU8 (0 : UInt8), vU8 (0 : UInt8), vU8 (0 : UInt8), vU8 (0 : UInt8), vU8 (0 : UInt8), vU8 (0 : UInt8), vU8 (0 : UInt8), vU8 (0 : UInt8), vU8 (0 : UInt8), vI (0 : Int), vU16 (0 : UInt16), .slice none 0 0]) rfl rfl rfl rfl tyF26 (i := 0) rfl rfl rfl (one_of rfl) rfl) ?_
  refine Tops_step rfl (OpT_assign rfl rfl rfl rfl) ?_
  refine Tops_nil (Tk_wkS (fr' := [(2, some (.pointer (some ⟨b1, 0, none⟩))), (3, some (vI (4 : Int)))]) (own' := [some (cellsR b1 26 [vU8 (0 : UInt8), vU8 (0 : UInt8), vU8 (0 : UInt8), vU8 (0 : UInt8), vU8 (0 : UInt8), vU8 (0 : UInt8), vU8 (0 : UInt8), vU8 (0 : UInt8), vU8 (0 : UInt8), vU8 (0 : UInt8), vU8 (0 : UInt8), vU8 (0 : UInt8), vI (0 : Int), vU16 (0 : UInt16), .slice none 0 0])]) (shr' := []) [2, 3] [0] [] rfl rfl rfl rfl ?_)
  refine Tk_nilrow u8S ?_
  obtain rfl := Option.some.inj h
  exact Tk_retV rfl rfl (resA (vs := [.agg #[vU8 (0 : UInt8), vU8 (0 : UInt8), vU8 (0 : UInt8), vU8 (0 : UInt8), vU8 (0 : UInt8), vU8 (0 : UInt8), vU8 (0 : UInt8), vU8 (0 : UInt8), vU8 (0 : UInt8), vU8 (0 : UInt8), vU8 (0 : UInt8), vU8 (0 : UInt8), vI (0 : Int), vU16 (0 : UInt16), .slice none 0 0], vI (4 : Int)]) rfl ⟨⟨_, 0, _, _, _, rfl, rfl, .inl ⟨tyF26, rfl, rfl⟩⟩, rfl, trivial⟩) [1] [] rfl rfl rfl ⟨(.slice none 0 0), rfl, rfl, rfl⟩
 ·replace h := br_f hg1 h
  refine Tk_condF (congrArg (fun b => some (Value.bool b)) hg1) ?_
  refine Tk_skip (Tk_seq (Tk_drawT (by kernel_rfl) ?_))
  refine TA_tb [0, 1, 3, 7, 0, 16, 48, 112, 255, 0, 1023] (by kernel_rfl) fun htb => ?_
  refine TA_wkS (fr' := [(0, some (vb1)), (2, some (.pointer (some ⟨b1, 0, none⟩)))]) (own' := [some (cellsR b1 26 [vU8 (0 : UInt8), vU8 (0 : UInt8), vU8 (0 : UInt8), vU8 (0 : UInt8), vU8 (0 : UInt8), vU8 (0 : UInt8), vU8 (0 : UInt8), vU8 (0 : UInt8), vU8 (0 : UInt8), vU8 (0 : UInt8), vU8 (0 : UInt8), vU8 (0 : UInt8), vI (0 : Int), vU16 (0 : UInt16), .slice none 0 0])]) (shr' := [Fact.sl u8S vb1 b]) [0, 2] [0] [0] rfl rfl rfl rfl ?_
  obtain ⟨hc1, h⟩ := chk_e h
  obtain ⟨hc2, h⟩ := chk_e h
  obtain ⟨a1, ha1, h⟩ := ob_e h
  obtain ⟨hc3, h⟩ := chk_e h
  obtain ⟨hc4, h⟩ := chk_e h
  obtain ⟨a2, ha2, h⟩ := ob_e h
  refine TA_seg (lo := 0) (hi := 10) htb rfl rfl (by kernel_rfl) (fun c L a w => ∃ (v1 : Value), ∃ (p1 : Value), ∃ (v2 : Value), ∃ (p2 : Value), ∃ (b2 : Nat), Sat c ⟨[(0, some (vb1)), (2, some (.pointer (some ⟨b1, 0, none⟩))), (10, bif L 0 then some (vb1) else none), (11, bif L 1 then some (v1) else none), (12, bif L 2 then some (p1) else none), (13, bif L 3 then some (.agg #[vU8 a1.a0, vU8 a1.a1, vU8 a1.a2, vU8 a1.a3, vU8 a1.a4, vU8 a1.a5]) else none), (14, bif L 4 then some (vb1) else none), (15, bif L 5 then some (v2) else none), (16, bif L 6 then some (p2) else none), (17, bif L 7 then some (.agg #[vU8 a2.a0, vU8 a2.a1, vU8 a2.a2, vU8 a2.a3, vU8 a2.a4, vU8 a2.a5]) else none), (18, bif L 8 then some (.agg #[vU8 a1.a0, vU8 a1.a1, vU8 a1.a2, vU8 a1.a3, vU8 a1.a4, vU8 a1.a5, vU8 a2.a0, vU8 a2.a1, vU8 a2.a2, vU8 a2.a3, vU8 a2.a4, vU8 a2.a5, vI ((-1) : Int), vU16 (0 : UInt16), .slice none 0 0]) else none), (4, bif L 9 then some (.pointer (some ⟨b2, 0, none⟩)) else none)], [(some (cellsR b1 26 [vU8 (0 : UInt8), vU8 (0 : UInt8), vU8 (0 : UInt8), vU8 (0 : UInt8), vU8 (0 : UInt8), vU8 (0 : UInt8), vU8 (0 : UInt8), vU8 (0 : UInt8), vU8 (0 : UInt8), vU8 (0 : UInt8), vU8 (0 : UInt8), vU8 (0 : UInt8), vI (0 : Int), vU16 (0 : UInt16), .slice none 0 0]) : Option Res), (bif L 9 then some (cellsR b2 26 [vU8 (0 : UInt8), vU8 (0 : UInt8), vU8 (0 : UInt8), vU8 (0 : UInt8), vU8 (0 : UInt8), vU8 (0 : UInt8), vU8 (0 : UInt8), vU8 (0 : UInt8), vU8 (0 : UInt8), vU8 (0 : UInt8), vU8 (0 : UInt8), vU8 (0 : UInt8), vI (0 : Int), vU16 (0 : UInt16), .slice none 0 0]) else none : Option Res)], [Fact.sl u8S vb1 b, (bif L 1 then Fact.sl u8S v1 (sub b (0 : Int) (6 : Int)) else Fact.tt), (bif L 2 then Fact.arr u8S p1 6 ((sub b (0 : Int) (6 : Int)).take 6) else Fact.tt), (bif L 5 then Fact.sl u8S v2 (sub b (6 : Int) (12 : Int)) else Fact.tt), (bif L 6 then Fact.arr u8S p2 6 ((sub b (6 : Int) (12 : Int)).take 6) else Fact.tt)]⟩ a w) [([], [1, 2, 3, 8]), ([0], [2, 3, 8]), ([0, 1], [3, 8]), ([0, 1, 2], [8]), ([], [5, 6, 7, 8]), ([4], [6, 7, 8]), ([4, 5], [7, 8]), ([4, 5, 6], [8]), ([0, 1, 2, 3, 4, 5, 6, 7], []), ([], [])] rfl (by kernel_rfl) ?_ (steps_cons ?_ (steps_cons ?_ (steps_cons ?_ (steps_cons ?_ (steps_cons ?_ (steps_cons ?_ (steps_cons ?_ (steps_cons ?_ (steps_cons ?_ (steps_cons ?_ (steps_nil))))))))))) ?_
  ·intro a w hs
   exact ⟨undef, undef, undef, undef, 0, hs.startF [10, 11, 12, 13, 14, 15, 16, 17, 18, 4] [0, 1] [0, 1, 2, 3, 4] rfl rfl rfl rfl⟩
  ·intro L a w hv K Q hK
   obtain ⟨v1, p1, v2, p2, b2, hs⟩ := hv
   refine wpOp_go rfl rfl hs (OpT_move rfl rfl rfl rfl) ?_
   rintro _ rfl a' w' hs'
   exact hK a' w' ⟨v1, p1, v2, p2, b2, hs'.putF (i := 2) rfl [0, 1] [0, 1, 2, 3, 4] rfl rfl rfl rfl⟩
  ·intro L a w hv K Q hK
   obtain ⟨v1, p1, v2, p2, b2, hs⟩ := hv
   refine wpOp_go rfl rfl hs (OpT_sliceH (m := (6 : Int)) rfl rfl rfl rfl rfl slF24 (i := 0) rfl hc1) ?_
   rintro _ ⟨v1', rfl⟩ a' w' hs'
   exact hK a' w' ⟨v1', p1, v2, p2, b2, hs'.putF (i := 3) rfl [0, 1] [0, 5, 2, 3, 4] rfl rfl rfl rfl⟩
  ·intro L a w hv K Q hK
   obtain ⟨v1, p1, v2, p2, b2, hs⟩ := hv
   refine wpOp_go rfl rfl hs (OpT_toArr rfl rfl rfl rfl arrF22 (i := 1) rfl hc2 rfl) ?_
   rintro _ ⟨p1', rfl⟩ a' w' hs'
   exact hK a' w' ⟨v1, p1', v2, p2, b2, hs'.putF (i := 4) rfl [0, 1] [0, 1, 5, 3, 4] rfl rfl rfl rfl⟩
  ·intro L a w hv K Q hK
   obtain ⟨v1, p1, v2, p2, b2, hs⟩ := hv
   refine wpOp_go rfl rfl hs (OpT_loadArrE u8S rfl (f := vU8) (fun _ => rfl) rfl rfl rfl rfl tyF22 (i := 2) rfl rfl (A6.ofL_eq ha1) rfl) ?_
   rintro _ rfl a' w' hs'
   exact hK a' w' ⟨v1, p1, v2, p2, b2, hs'.putF (i := 5) rfl [0, 1] [0, 1, 2, 3, 4] rfl rfl rfl rfl⟩
  ·intro L a w hv K Q hK
   obtain ⟨v1, p1, v2, p2, b2, hs⟩ := hv
   refine wpOp_go rfl rfl hs (OpT_move rfl rfl rfl rfl) ?_
   rintro _ rfl a' w' hs'
   exact hK a' w' ⟨v1, p1, v2, p2, b2, hs'.putF (i := 6) rfl [0, 1] [0, 1, 2, 3, 4] rfl rfl rfl rfl⟩
  ·intro L a w hv K Q hK
   obtain ⟨v1, p1, v2, p2, b2, hs⟩ := hv
   refine wpOp_go rfl rfl hs (OpT_sliceLH (l := (6 : Int)) (m := (12 : Int)) rfl rfl rfl rfl rfl rfl slF24 (i := 0) rfl hc3) ?_
   rintro _ ⟨v2', rfl⟩ a' w' hs'
   exact hK a' w' ⟨v1, p1, v2', p2, b2, hs'.putF (i := 7) rfl [0, 1] [0, 1, 2, 5, 4] rfl rfl rfl rfl⟩
  ·intro L a w hv K Q hK
   obtain ⟨v1, p1, v2, p2, b2, hs⟩ := hv
   refine wpOp_go rfl rfl hs (OpT_toArr rfl rfl rfl rfl arrF22 (i := 3) rfl hc4 rfl) ?_
   rintro _ ⟨p2', rfl⟩ a' w' hs'
   exact hK a' w' ⟨v1, p1, v2, p2', b2, hs'.putF (i := 8) rfl [0, 1] [0, 1, 2, 3, 5] rfl rfl rfl rfl⟩
  ·intro L a w hv K Q hK
   obtain ⟨v1, p1, v2, p2, b2, hs⟩ := hv
   refine wpOp_go rfl rfl hs (OpT_loadArrE u8S rfl (f := vU8) (fun _ => rfl) rfl rfl rfl rfl tyF22 (i := 4) rfl rfl (A6.ofL_eq ha2) rfl) ?_
   rintro _ rfl a' w' hs'
   exact hK a' w' ⟨v1, p1, v2, p2, b2, hs'.putF (i := 9) rfl [0, 1] [0, 1, 2, 3, 4] rfl rfl rfl rfl⟩
  ·intro L a w hv K Q hK
   obtain ⟨v1, p1, v2, p2, b2, hs⟩ := hv
   refine wpOp_go rfl rfl hs (OpT_build (v := .agg #[vU8 a1.a0, vU8 a1.a1, vU8 a1.a2, vU8 a1.a3, vU8 a1.a4, vU8 a1.a5, vU8 a2.a0, vU8 a2.a1, vU8 a2.a2, vU8 a2.a3, vU8 a2.a4, vU8 a2.a5, vI ((-1) : Int), vU16 (0 : UInt16), .slice none 0 0]) rfl rfl rfl rfl (bldV (by kernel_rfl))) ?_
   rintro _ rfl a' w' hs'
   exact hK a' w' ⟨v1, p1, v2, p2, b2, hs'.putF (i := 10) rfl [0, 1] [0, 1, 2, 3, 4] rfl rfl rfl rfl⟩
  ·intro L a w hv K Q hK
   obtain ⟨v1, p1, v2, p2, b2, hs⟩ := hv
   refine wpOp_go rfl rfl hs (OpT_alloc rfl rfl rfl tyZ26) ?_
   rintro _ ⟨b2', rfl⟩ a' w' hs'
   exact hK a' w' ⟨v1, p1, v2, p2, b2', hs'.putF (i := 11) rfl [0, 2] [0, 1, 2, 3, 4] rfl rfl rfl rfl⟩
  ·intro L a w hL hv
   rw [allTrue hL] at hv
   obtain ⟨v1, p1, v2, p2, b2, hs⟩ := hv
   refine (show TA _ _ _ 10 ⟨[(0, some (vb1)), (2, some (.pointer (some ⟨b1, 0, none⟩))), (18, some (.agg #[vU8 a1.a0, vU8 a1.a1, vU8 a1.a2, vU8 a1.a3, vU8 a1.a4, vU8 a1.a5, vU8 a2.a0, vU8 a2.a1, vU8 a2.a2, vU8 a2.a3, vU8 a2.a4, vU8 a2.a5, vI ((-1) : Int), vU16 (0 : UInt16), .slice none 0 0])), (4, some (.pointer (some ⟨b2, 0, none⟩)))], [some (cellsR b1 26 [vU8 (0 : UInt8), vU8 (0 : UInt8), vU8 (0 : UInt8), vU8 (0 : UInt8), vU8 (0 : UInt8), vU8 (0 : UInt8), vU8 (0 : UInt8), vU8 (0 : UInt8), vU8 (0 : UInt8), vU8 (0 : UInt8), vU8 (0 : UInt8), vU8 (0 : UInt8), vI (0 : Int), vU16 (0 : UInt16), .slice none 0 0]), some (cellsR b2 26 [vU8 (0 : UInt8), vU8 (0 : UInt8), vU8 (0 : UInt8), vU8 (0 : UInt8), vU8 (0 : UInt8), vU8 (0 : UInt8), vU8 (0 : UInt8), vU8 (0 : UInt8), vU8 (0 : UInt8), vU8 (0 : UInt8), vU8 (0 : UInt8), vU8 (0 : UInt8), vI (0 : Int), vU16 (0 : UInt16), .slice none 0 0])], [Fact.sl u8S vb1 b]⟩ from ?_) a w (hs.wkS [0, 2, 18, 4] [0, 1] [0] rfl rfl rfl rfl)
   clear hs hL
   refine TA_step htb (by kernel_rfl) rfl rfl (OpT_storeC (cs' := [vU8 a1.a0, vU8 a1.a1, vU8 a1.a2, vU8 a1.a3, vU8 a1.a4, vU8 a1.a5, vU8 a2.a0, vU8 a2.a1, vU8 a2.a2, vU8 a2.a3, vU8 a2.a4, vU8 a2.a5, vI ((-1) : Int), vU16 (0 : UInt16), .slice none 0 0]) rfl rfl rfl rfl tyF26 (i := 1) rfl rfl rfl (one_of rfl) rfl) ?_
   refine TA_end rfl ?_
   refine Tk_wkS (fr' := [(0, some (vb1)), (2, some (.pointer (some ⟨b1, 0, none⟩))), (4, some (.pointer (some ⟨b2, 0, none⟩)))]) (own' := [some (cellsR b1 26 [vU8 (0 : UInt8), vU8 (0 : UInt8), vU8 (0 : UInt8), vU8 (0 : UInt8), vU8 (0 : UInt8), vU8 (0 : UInt8), vU8 (0 : UInt8), vU8 (0 : UInt8), vU8 (0 : UInt8), vU8 (0 : UInt8), vU8 (0 : UInt8), vU8 (0 : UInt8), vI (0 : Int), vU16 (0 : UInt16), .slice none 0 0]), some (cellsR b2 26 [vU8 a1.a0, vU8 a1.a1, vU8 a1.a2, vU8 a1.a3, vU8 a1.a4, vU8 a1.a5, vU8 a2.a0, vU8 a2.a1, vU8 a2.a2, vU8 a2.a3, vU8 a2.a4, vU8 a2.a5, vI ((-1) : Int), vU16 (0 : UInt16), .slice none 0 0])]) (shr' := [Fact.sl u8S vb1 b]) [0, 2, 4] [0, 1] [0] rfl rfl rfl rfl ?_
   refine Tk_seq (Tk_region (Tops_step rfl (OpT_move rfl rfl rfl rfl) ?_))
   obtain ⟨hc5, h⟩ := chk_e h
   refine Tops_ex rfl (OpT_sliceL (l := (12 : Int)) rfl rfl rfl rfl rfl slF24 (i := 0) rfl hc5) fun v3 => ?_
   refine Tops_step rfl (OpT_assign rfl rfl rfl rfl) ?_
   refine Tops_nil (Tk_wkS (fr' := [(2, some (.pointer (some ⟨b1, 0, none⟩))), (4, some (.pointer (some ⟨b2, 0, none⟩))), (5, some (v3))]) (own' := [some (cellsR b1 26 [vU8 (0 : UInt8), vU8 (0 : UInt8), vU8 (0 : UInt8), vU8 (0 : UInt8), vU8 (0 : UInt8), vU8 (0 : UInt8), vU8 (0 : UInt8), vU8 (0 : UInt8), vU8 (0 : UInt8), vU8 (0 : UInt8), vU8 (0 : UInt8), vU8 (0 : UInt8), vI (0 : Int), vU16 (0 : UInt16), .slice none 0 0]), some (cellsR b2 26 [vU8 a1.a0, vU8 a1.a1, vU8 a1.a2, vU8 a1.a3, vU8 a1.a4, vU8 a1.a5, vU8 a2.a0, vU8 a2.a1, vU8 a2.a2, vU8 a2.a3, vU8 a2.a4, vU8 a2.a5, vI ((-1) : Int), vU16 (0 : UInt16), .slice none 0 0])]) (shr' := [Fact.sl u8S v3 (sub b (12 : Int) (len b))]) [2, 4, 5] [0, 1] [1] rfl rfl rfl rfl ?_)
   refine Tk_seq (Tk_seq (Tk_region (Tops_step rfl (OpT_move rfl rfl rfl rfl) ?_)))
   obtain ⟨word1, hx1, h⟩ := ob_e h
   refine Tops_exP rfl (OpT_call (w_frame_word hx1) [] [0] rfl rfl rfl rfl rfl callee56 rfl rfl rfl rfl) ?_
   rintro _ ⟨_, _, _, ⟨rfl, rfl, rfl⟩, rfl⟩
   refine Tops_step rfl (OpT_bin rfl rfl rfl rfl rfl (bin_eql_u16 (a := word1) (b := (33024 : UInt16)))) ?_
   refine Tops_nil (Tk_wkS (fr' := [(2, some (.pointer (some ⟨b1, 0, none⟩))), (4, some (.pointer (some ⟨b2, 0, none⟩))), (5, some (v3)), (23, some (vB (word1 == (33024 : UInt16))))]) (own' := [some (cellsR b1 26 [vU8 (0 : UInt8), vU8 (0 : UInt8), vU8 (0 : UInt8), vU8 (0 : UInt8), vU8 (0 : UInt8), vU8 (0 : UInt8), vU8 (0 : UInt8), vU8 (0 : UInt8), vU8 (0 : UInt8), vU8 (0 : UInt8), vU8 (0 : UInt8), vU8 (0 : UInt8), vI (0 : Int), vU16 (0 : UInt16), .slice none 0 0]), some (cellsR b2 26 [vU8 a1.a0, vU8 a1.a1, vU8 a1.a2, vU8 a1.a3, vU8 a1.a4, vU8 a1.a5, vU8 a2.a0, vU8 a2.a1, vU8 a2.a2, vU8 a2.a3, vU8 a2.a4, vU8 a2.a5, vI ((-1) : Int), vU16 (0 : UInt16), .slice none 0 0])]) (shr' := [Fact.sl u8S v3 (sub b (12 : Int) (len b))]) [2, 4, 5, 23] [0, 1] [0] rfl rfl rfl rfl ?_)
   refine Tk_join (α := (A6 UInt8) × (A6 UInt8) × Int × UInt16 × (List UInt8) × (A6 UInt8) × (A6 UInt8) × Int × UInt16 × (List UInt8) × (List UInt8) × Value × Value × Value) (fun s => ⟨[(2, some (.pointer (some ⟨b1, 0, none⟩))), (4, some (.pointer (some ⟨b2, 0, none⟩))), (5, some (s.2.2.2.2.2.2.2.2.2.2.2.2.2))], [some (cellsR b1 26 [vU8 s.1.a0, vU8 s.1.a1, vU8 s.1.a2, vU8 s.1.a3, vU8 s.1.a4, vU8 s.1.a5, vU8 s.2.1.a0, vU8 s.2.1.a1, vU8 s.2.1.a2, vU8 s.2.1.a3, vU8 s.2.1.a4, vU8 s.2.1.a5, vI s.2.2.1, vU16 s.2.2.2.1, s.2.2.2.2.2.2.2.2.2.2.2.1]), some (cellsR b2 26 [vU8 s.2.2.2.2.2.1.a0, vU8 s.2.2.2.2.2.1.a1, vU8 s.2.2.2.2.2.1.a2, vU8 s.2.2.2.2.2.1.a3, vU8 s.2.2.2.2.2.1.a4, vU8 s.2.2.2.2.2.1.a5, vU8 s.2.2.2.2.2.2.1.a0, vU8 s.2.2.2.2.2.2.1.a1, vU8 s.2.2.2.2.2.2.1.a2, vU8 s.2.2.2.2.2.2.1.a3, vU8 s.2.2.2.2.2.2.1.a4, vU8 s.2.2.2.2.2.2.1.a5, vI s.2.2.2.2.2.2.2.1, vU16 s.2.2.2.2.2.2.2.2.1, s.2.2.2.2.2.2.2.2.2.2.2.2.1])], [Fact.sl u8S s.2.2.2.2.2.2.2.2.2.2.2.1 s.2.2.2.2.1, Fact.sl u8S s.2.2.2.2.2.2.2.2.2.2.2.2.1 s.2.2.2.2.2.2.2.2.2.1, Fact.sl u8S s.2.2.2.2.2.2.2.2.2.2.2.2.2 s.2.2.2.2.2.2.2.2.2.2.1]⟩) (fun s => frame_ReadJ1 s.1 s.2.1 s.2.2.1 s.2.2.2.1 s.2.2.2.2.1 s.2.2.2.2.2.1 s.2.2.2.2.2.2.1 s.2.2.2.2.2.2.2.1 s.2.2.2.2.2.2.2.2.1 s.2.2.2.2.2.2.2.2.2.1 s.2.2.2.2.2.2.2.2.2.2.1 = some r) ?_ ?_
   ·rintro ⟨Dst1, Src1, Vlan1, Type1, Data1, Dst2, Src2, Vlan2, Type2, Data2, rest1, v4, v5, v6⟩ h
    replace h : frame_ReadJ1 Dst1 Src1 Vlan1 Type1 Data1 Dst2 Src2 Vlan2 Type2 Data2 rest1 = some r := h
    unfold frame_ReadJ1 at h
    refine Tk_seq (Tk_drawT (by kernel_rfl) ?_)
    refine TA_tb [0, 1, 0, 4, 15, 3, 63, 127, 255] (by kernel_rfl) fun htb => ?_
    obtain ⟨word2, hx2, h⟩ := ob_e h
    obtain ⟨hc6, h⟩ := chk_e h
    obtain ⟨cloneb1, hx3, h⟩ := ob_e h
    refine TA_seg (lo := 0) (hi := 6) htb rfl rfl (by kernel_rfl) (fun c L a w => ∃ (v7 : Value), ∃ (v8 : Value), Sat c ⟨[(2, some (.pointer (some ⟨b1, 0, none⟩))), (4, some (.pointer (some ⟨b2, 0, none⟩))), (5, some (v6)), (35, bif L 0 then some (v6) else none), (36, bif L 1 then some (vU16 word2) else none), (37, bif L 2 then some (v6) else none), (38, bif L 3 then some (v7) else none), (39, bif L 4 then some (v8) else none), (40, bif L 5 then some (.pointer (some ⟨b2, 13, none⟩)) else none)], [(some (cellsR b1 26 [vU8 Dst1.a0, vU8 Dst1.a1, vU8 Dst1.a2, vU8 Dst1.a3, vU8 Dst1.a4, vU8 Dst1.a5, vU8 Src1.a0, vU8 Src1.a1, vU8 Src1.a2, vU8 Src1.a3, vU8 Src1.a4, vU8 Src1.a5, vI Vlan1, vU16 Type1, v4]) : Option Res), (some (cellsR b2 26 [vU8 Dst2.a0, vU8 Dst2.a1, vU8 Dst2.a2, vU8 Dst2.a3, vU8 Dst2.a4, vU8 Dst2.a5, vU8 Src2.a0, vU8 Src2.a1, vU8 Src2.a2, vU8 Src2.a3, vU8 Src2.a4, vU8 Src2.a5, vI Vlan2, vU16 Type2, v5]) : Option Res), (bif L 4 then some (rowS u8S v8 cloneb1) else none : Option Res)], [Fact.sl u8S v4 Data1, Fact.sl u8S v5 Data2, Fact.sl u8S v6 rest1, (bif L 3 then Fact.sl u8S v7 (sub rest1 (2 : Int) (len rest1)) else Fact.tt)]⟩ a w) [([], [1, 4, 5]), ([0], [4, 5]), ([], [3, 4]), ([2], [4]), ([0, 1, 2, 3], []), ([0, 1], [])] rfl (by kernel_rfl) ?_ (steps_cons ?_ (steps_cons ?_ (steps_cons ?_ (steps_cons ?_ (steps_cons ?_ (steps_cons ?_ (steps_nil))))))) ?_
    ·intro a w hs
     exact ⟨undef, undef, hs.startF [35, 36, 37, 38, 39, 40] [0, 1, 2] [0, 1, 2, 3] rfl rfl rfl rfl⟩
    ·intro L a w hv K Q hK
     obtain ⟨v7, v8, hs⟩ := hv
     refine wpOp_go rfl rfl hs (OpT_move rfl rfl rfl rfl) ?_
     rintro _ rfl a' w' hs'
     exact hK a' w' ⟨v7, v8, hs'.putF (i := 3) rfl [0, 1, 2] [0, 1, 2, 3] rfl rfl rfl rfl⟩
    ·intro L a w hv K Q hK
     obtain ⟨v7, v8, hs⟩ := hv
     refine wpOp_go rfl rfl hs (OpT_call (w_frame_word hx2) [] [2] rfl rfl rfl rfl rfl callee56 rfl rfl rfl rfl) ?_
     rintro _ ⟨_, _, _, ⟨rfl, rfl, rfl⟩, rfl⟩ a' w' hs'
     exact hK a' w' ⟨v7, v8, hs'.putF (i := 4) rfl [0, 1, 2] [0, 1, 2, 3] rfl rfl rfl rfl⟩
    ·intro L a w hv K Q hK
     obtain ⟨v7, v8, hs⟩ := hv
     refine wpOp_go rfl rfl hs (OpT_move rfl rfl rfl rfl) ?_
     rintro _ rfl a' w' hs'
     exact hK a' w' ⟨v7, v8, hs'.putF (i := 5) rfl [0, 1, 2] [0, 1, 2, 3] rfl rfl rfl rfl⟩
    ·intro L a w hv K Q hK
     obtain ⟨v7, v8, hs⟩ := hv
     refine wpOp_go rfl rfl hs (OpT_sliceL (l := (2 : Int)) rfl rfl rfl rfl rfl slF24 (i := 2) rfl hc6) ?_
     rintro _ ⟨v7', rfl⟩ a' w' hs'
     exact hK a' w' ⟨v7', v8, hs'.putF (i := 6) rfl [0, 1, 2] [0, 1, 2, 4] rfl rfl rfl rfl⟩
    ·intro L a w hv K Q hK
     obtain ⟨v7, v8, hs⟩ := hv
     refine wpOp_go rfl rfl hs (OpT_call (w_slices_Clone_bytebyte hx3) [] [3] rfl rfl rfl rfl rfl callee44 rfl rfl rfl rfl) ?_
     rintro _ ⟨v8', _, _, ⟨_, rfl, rfl, rfl⟩, rfl⟩ a' w' hs'
     exact hK a' w' ⟨v7, v8', hs'.putF (i := 7) rfl [0, 1, 3] [0, 1, 2, 3] rfl rfl rfl rfl⟩
    ·intro L a w hv K Q hK
     obtain ⟨v7, v8, hs⟩ := hv
     refine wpOp_go rfl rfl hs (OpT_fieldC rfl rfl rfl rfl fldF26x3) ?_
     rintro _ rfl a' w' hs'
     exact hK a' w' ⟨v7, v8, hs'.putF (i := 8) rfl [0, 1, 2] [0, 1, 2, 3] rfl rfl rfl rfl⟩
    ·intro L a w hL hv
     rw [allTrue hL] at hv
     obtain ⟨v7, v8, hs⟩ := hv
     refine (show TA _ _ _ 6 ⟨[(2, some (.pointer (some ⟨b1, 0, none⟩))), (4, some (.pointer (some ⟨b2, 0, none⟩))), (36, some (vU16 word2)), (39, some (v8)), (40, some (.pointer (some ⟨b2, 13, none⟩)))], [some (cellsR b1 26 [vU8 Dst1.a0, vU8 Dst1.a1, vU8 Dst1.a2, vU8 Dst1.a3, vU8 Dst1.a4, vU8 Dst1.a5, vU8 Src1.a0, vU8 Src1.a1, vU8 Src1.a2, vU8 Src1.a3, vU8 Src1.a4, vU8 Src1.a5, vI Vlan1, vU16 Type1, v4]), some (cellsR b2 26 [vU8 Dst2.a0, vU8 Dst2.a1, vU8 Dst2.a2, vU8 Dst2.a3, vU8 Dst2.a4, vU8 Dst2.a5, vU8 Src2.a0, vU8 Src2.a1, vU8 Src2.a2, vU8 Src2.a3, vU8 Src2.a4, vU8 Src2.a5, vI Vlan2, vU16 Type2, v5]), some (rowS u8S v8 cloneb1)], [Fact.sl u8S v4 Data1, Fact.sl u8S v5 Data2]⟩ from ?_) a w (hs.wkS [2, 4, 36, 39, 40] [0, 1, 2] [0, 1] rfl rfl rfl rfl)
     clear hs hL
     refine TA_step htb (by kernel_rfl) rfl rfl (OpT_storeC (cs' := [vU8 Dst2.a0, vU8 Dst2.a1, vU8 Dst2.a2, vU8 Dst2.a3, vU8 Dst2.a4, vU8 Dst2.a5, vU8 Src2.a0, vU8 Src2.a1, vU8 Src2.a2, vU8 Src2.a3, vU8 Src2.a4, vU8 Src2.a5, vI Vlan2, vU16 word2, v5]) rfl rfl rfl rfl tyF23 (i := 1) rfl rfl rfl (one_of rfl) rfl) ?_
     refine TA_step htb (by kernel_rfl) rfl rfl (OpT_fieldC rfl rfl rfl rfl fldF26x4) ?_
     refine TA_step htb (by kernel_rfl) rfl rfl (OpT_storeV (cs' := [vU8 Dst2.a0, vU8 Dst2.a1, vU8 Dst2.a2, vU8 Dst2.a3, vU8 Dst2.a4, vU8 Dst2.a5, vU8 Src2.a0, vU8 Src2.a1, vU8 Src2.a2, vU8 Src2.a3, vU8 Src2.a4, vU8 Src2.a5, vI Vlan2, vU16 word2, v8]) rfl rfl rfl rfl tyF24 (i := 1) rfl (is_row (i := 2) rfl) rfl rfl) ?_
     refine TA_end rfl ?_
     refine Tk_wkS (fr' := [(2, some (.pointer (some ⟨b1, 0, none⟩))), (4, some (.pointer (some ⟨b2, 0, none⟩)))]) (own' := [some (cellsR b1 26 [vU8 Dst1.a0, vU8 Dst1.a1, vU8 Dst1.a2, vU8 Dst1.a3, vU8 Dst1.a4, vU8 Dst1.a5, vU8 Src1.a0, vU8 Src1.a1, vU8 Src1.a2, vU8 Src1.a3, vU8 Src1.a4, vU8 Src1.a5, vI Vlan1, vU16 Type1, v4]), some (cellsR b2 26 [vU8 Dst2.a0, vU8 Dst2.a1, vU8 Dst2.a2, vU8 Dst2.a3, vU8 Dst2.a4, vU8 Dst2.a5, vU8 Src2.a0, vU8 Src2.a1, vU8 Src2.a2, vU8 Src2.a3, vU8 Src2.a4, vU8 Src2.a5, vI Vlan2, vU16 word2, v8]), some (rowS u8S v8 cloneb1)]) (shr' := [Fact.sl u8S v4 Data1]) [2, 4] [0, 1, 2] [0] rfl rfl rfl rfl ?_
     refine Tk_seq (Tk_seq (Tk_region (Tops_step rfl (OpT_loadCA (vs := [vU8 Dst2.a0, vU8 Dst2.a1, vU8 Dst2.a2, vU8 Dst2.a3, vU8 Dst2.a4, vU8 Dst2.a5, vU8 Src2.a0, vU8 Src2.a1, vU8 Src2.a2, vU8 Src2.a3, vU8 Src2.a4, vU8 Src2.a5, vI Vlan2, vU16 word2, v8]) rfl rfl rfl rfl tyF26 (i := 1) rfl rfl rfl) ?_)))
     obtain ⟨check1, hx4, h⟩ := ob_e h
     refine Tops_exP rfl (OpT_callB [2] [0, 1, 2] (w_frame_Check hx4) [] rfl rfl rfl rfl rfl callee47 rfl rfl rfl rfl rfl rfl (bor_cons (bor_row 2 rfl rfl) bor_nil) (by rintro _ _ _ ⟨rfl, rfl, rfl⟩; exact ⟨rfl, ri_nil⟩)) ?_
     rintro _ ⟨_, _, _, ⟨rfl, rfl, rfl⟩, rfl⟩
     refine Tops_step rfl (OpT_bin rfl rfl rfl rfl rfl (bin_neq_i (a := check1) (b := (0 : Int)))) ?_
     refine Tops_nil (Tk_wkS (fr' := [(2, some (.pointer (some ⟨b1, 0, none⟩))), (4, some (.pointer (some ⟨b2, 0, none⟩))), (44, some (vB (check1 != (0 : Int))))]) (own' := [some (cellsR b1 26 [vU8 Dst1.a0, vU8 Dst1.a1, vU8 Dst1.a2, vU8 Dst1.a3, vU8 Dst1.a4, vU8 Dst1.a5, vU8 Src1.a0, vU8 Src1.a1, vU8 Src1.a2, vU8 Src1.a3, vU8 Src1.a4, vU8 Src1.a5, vI Vlan1, vU16 Type1, v4]), some (cellsR b2 26 [vU8 Dst2.a0, vU8 Dst2.a1, vU8 Dst2.a2, vU8 Dst2.a3, vU8 Dst2.a4, vU8 Dst2.a5, vU8 Src2.a0, vU8 Src2.a1, vU8 Src2.a2, vU8 Src2.a3, vU8 Src2.a4, vU8 Src2.a5, vI Vlan2, vU16 word2, v8]), some (rowS u8S v8 cloneb1)]) (shr' := [Fact.sl u8S v4 Data1]) [2, 4, 44] [0, 1, 2] [0] rfl rfl rfl rfl ?_)
     rcases Bool.eq_false_or_eq_true (check1 != (0 : Int)) with hg2 | hg2
     ·replace h := br_t hg2 h
      refine Tk_condT (congrArg (fun b => some (Value.bool b)) hg2) ?_
      refine Tk_seq (Tk_region (Tops_step rfl (OpT_build (v := .agg #[vU8 (0 : UInt8), vU8 (0 : UInt8), vU8 (0 : UInt8), vU8 (0 : UInt8), vU8 (0 : UInt8), vU8 (0 : UInt8), vU8 (0 : UInt8), vU8 (0 : UInt8), vU8 (0 : UInt8), vU8 (0 : UInt8), vU8 (0 : UInt8), vU8 (0 : UInt8), vI (0 : Int), vU16 (0 : UInt16), .slice none 0 0]) rfl rfl rfl rfl (bldV (by kernel_rfl))) ?_))
      refine Tops_step rfl (OpT_storeC (cs' := [vU8 (0 : UInt8), vU8 (0 : UInt8), vU8 (0 : UInt8), vU8 (0 : UInt8), vU8 (0 : UInt8), vU8 (0 : UInt8), vU8 (0 : UInt8), vU8 (0 : UInt8), vU8 (0 : UInt8), vU8 (0 : UInt8), vU8 (0 : UInt8), vU8 (0 : UInt8), vI (0 : Int), vU16 (0 : UInt16), .slice none 0 0]) rfl rfl rfl rfl tyF26 (i := 0) rfl rfl rfl (one_of rfl) rfl) ?_
      refine Tops_step rfl (OpT_assign rfl rfl rfl rfl) ?_
      refine Tops_nil (Tk_wkS (fr' := [(2, some (.pointer (some ⟨b1, 0, none⟩))), (3, some (vI (4 : Int)))]) (own' := [some (cellsR b1 26 [vU8 (0 : UInt8), vU8 (0 : UInt8), vU8 (0 : UInt8), vU8 (0 : UInt8), vU8 (0 : UInt8), vU8 (0 : UInt8), vU8 (0 : UInt8), vU8 (0 : UInt8), vU8 (0 : UInt8), vU8 (0 : UInt8), vU8 (0 : UInt8), vU8 (0 : UInt8), vI (0 : Int), vU16 (0 : UInt16), .slice none 0 0])]) (shr' := []) [2, 3] [0] [] rfl rfl rfl rfl ?_)
      refine Tk_nilrow u8S ?_
      obtain rfl := Option.some.inj h
      exact Tk_retV rfl rfl (resA (vs := [.agg #[vU8 (0 : UInt8), vU8 (0 : UInt8), vU8 (0 : UInt8), vU8 (0 : UInt8), vU8 (0 : UInt8), vU8 (0 : UInt8), vU8 (0 : UInt8), vU8 (0 : UInt8), vU8 (0 : UInt8), vU8 (0 : UInt8), vU8 (0 : UInt8), vU8 (0 : UInt8), vI (0 : Int), vU16 (0 : UInt16), .slice none 0 0], vI (4 : Int)]) rfl ⟨⟨_, 0, _, _, _, rfl, rfl, .inl ⟨tyF26, rfl, rfl⟩⟩, rfl, trivial⟩) [1] [] rfl rfl rfl ⟨(.slice none 0 0), rfl, rfl, rfl⟩
     ·replace h := br_f hg2 h
      refine Tk_condF (congrArg (fun b => some (Value.bool b)) hg2) ?_
      refine Tk_skip (Tk_seq (Tk_region (Tops_step rfl (OpT_loadCA (vs := [vU8 Dst2.a0, vU8 Dst2.a1, vU8 Dst2.a2, vU8 Dst2.a3, vU8 Dst2.a4, vU8 Dst2.a5, vU8 Src2.a0, vU8 Src2.a1, vU8 Src2.a2, vU8 Src2.a3, vU8 Src2.a4, vU8 Src2.a5, vI Vlan2, vU16 word2, v8]) rfl rfl rfl rfl tyF26 (i := 1) rfl rfl rfl) ?_)))
      refine Tops_step rfl (OpT_storeA1 (fun z0 => [vU8 Dst2.a0, vU8 Dst2.a1, vU8 Dst2.a2, vU8 Dst2.a3, vU8 Dst2.a4, vU8 Dst2.a5, vU8 Src2.a0, vU8 Src2.a1, vU8 Src2.a2, vU8 Src2.a3, vU8 Src2.a4, vU8 Src2.a5, vI Vlan2, vU16 word2, z0]) (cs' := [vU8 Dst2.a0, vU8 Dst2.a1, vU8 Dst2.a2, vU8 Dst2.a3, vU8 Dst2.a4, vU8 Dst2.a5, vU8 Src2.a0, vU8 Src2.a1, vU8 Src2.a2, vU8 Src2.a3, vU8 Src2.a4, vU8 Src2.a5, vI Vlan2, vU16 word2, v8]) rfl rfl rfl rfl tyF26 (i := 0) rfl (is_row (i := 2) rfl) (fun _ _ _ => rfl) rfl rfl rfl) ?_
      refine Tops_step rfl (OpT_assign rfl rfl rfl rfl) ?_
      refine Tops_nil (Tk_wkS (fr' := [(2, some (.pointer (some ⟨b1, 0, none⟩))), (3, some (vI (0 : Int)))]) (own' := [some (cellsR b1 26 [vU8 Dst2.a0, vU8 Dst2.a1, vU8 Dst2.a2, vU8 Dst2.a3, vU8 Dst2.a4, vU8 Dst2.a5, vU8 Src2.a0, vU8 Src2.a1, vU8 Src2.a2, vU8 Src2.a3, vU8 Src2.a4, vU8 Src2.a5, vI Vlan2, vU16 word2, v8]), some (rowS u8S v8 cloneb1)]) (shr' := []) [2, 3] [0, 2] [] rfl rfl rfl rfl ?_)
      obtain rfl := Option.some.inj h
      exact Tk_retV rfl rfl (resA (vs := [.agg #[vU8 Dst2.a0, vU8 Dst2.a1, vU8 Dst2.a2, vU8 Dst2.a3, vU8 Dst2.a4, vU8 Dst2.a5, vU8 Src2.a0, vU8 Src2.a1, vU8 Src2.a2, vU8 Src2.a3, vU8 Src2.a4, vU8 Src2.a5, vI Vlan2, vU16 word2, v8], vI (0 : Int)]) rfl ⟨⟨_, 0, _, _, _, rfl, rfl, .inl ⟨tyF26, rfl, rfl⟩⟩, rfl, trivial⟩) [1] [] rfl rfl rfl ⟨v8, rfl, rfl, rfl⟩
   ·intro HJ1
    rcases Bool.eq_false_or_eq_true (word1 == (33024 : UInt16)) with hg3 | hg3
    ·replace h := br_t hg3 h
     refine Tk_condT (congrArg (fun b => some (Value.bool b)) hg3) ?_
     refine Tk_seq (Tk_seq (Tk_region (Tops_step rfl (OpT_move rfl rfl rfl rfl) ?_)))
     refine Tops_step rfl (OpT_lenS rfl rfl rfl rfl Try.underlying24 (i := 0) rfl) ?_
     refine Tops_step rfl (OpT_bin rfl rfl rfl rfl rfl (bin_lss_i (a := len (sub b (12 : Int) (len b))) (b := (6 : Int)))) ?_
     refine Tops_nil (Tk_wkS (fr' := [(2, some (.pointer (some ⟨b1, 0, none⟩))), (4, some (.pointer (some ⟨b2, 0, none⟩))), (5, some (v3)), (26, some (vB (decide ((len (sub b (12 : Int) (len b))) < (6 : Int)))))]) (own' := [some (cellsR b1 26 [vU8 (0 : UInt8), vU8 (0 : UInt8), vU8 (0 : UInt8), vU8 (0 : UInt8), vU8 (0 : UInt8), vU8 (0 : UInt8), vU8 (0 : UInt8), vU8 (0 : UInt8), vU8 (0 : UInt8), vU8 (0 : UInt8), vU8 (0 : UInt8), vU8 (0 : UInt8), vI (0 : Int), vU16 (0 : UInt16), .slice none 0 0]), some (cellsR b2 26 [vU8 a1.a0, vU8 a1.a1, vU8 a1.a2, vU8 a1.a3, vU8 a1.a4, vU8 a1.a5, vU8 a2.a0, vU8 a2.a1, vU8 a2.a2, vU8 a2.a3, vU8 a2.a4, vU8 a2.a5, vI ((-1) : Int), vU16 (0 : UInt16), .slice none 0 0])]) (shr' := [Fact.sl u8S v3 (sub b (12 : Int) (len b))]) [2, 4, 5, 26] [0, 1] [0] rfl rfl rfl rfl ?_)
     rcases Bool.eq_false_or_eq_true (decide ((len (sub b (12 : Int) (len b))) < (6 : Int))) with hg4 | hg4
     ·replace h := br_t hg4 h
      refine Tk_condT (congrArg (fun b => some (Value.bool b)) hg4) ?_
      refine Tk_seq (Tk_region (Tops_step rfl (OpT_build (v := .agg #[vU8 (0 : UInt8), vU8 (0 : UInt8), vU8 (0 : UInt8), vU8 (0 : UInt8), vU8 (0 : UInt8), vU8 (0 : UInt8), vU8 (0 : UInt8), vU8 (0 : UInt8), vU8 (0 : UInt8), vU8 (0 : UInt8), vU8 (0 : UInt8), vU8 (0 : UInt8), vI (0 : Int), vU16 (0 : UInt16), .slice none 0 0]) rfl rfl rfl rfl (bldV (by kernel_rfl))) ?_))
      refine Tops_step rfl (OpT_storeC (cs' := [vU8 (0 : UInt8), vU8 (0 : UInt8), vU8 (0 : UInt8), vU8 (0 : UInt8), vU8 (0 : UInt8), vU8 (0 : UInt8), vU8 (0 : UInt8), vU8 (0 : UInt8), vU8 (0 : UInt8), vU8 (0 : UInt8), vU8 (0 : UInt8), vU8 (0 : UInt8), vI (0 : Int), vU16 (0 : UInt16), .slice none 0 0]) rfl rfl rfl rfl tyF26 (i := 0) rfl rfl rfl (one_of rfl) rfl) ?_
      refine Tops_step rfl (OpT_assign rfl rfl rfl rfl) ?_
      refine Tops_nil (Tk_wkS (fr' := [(2, some (.pointer (some ⟨b1, 0, none⟩))), (3, some (vI (4 : Int)))]) (own' := [some (cellsR b1 26 [vU8 (0 : UInt8), vU8 (0 : UInt8), vU8 (0 : UInt8), vU8 (0 : UInt8), vU8 (0 : UInt8), vU8 (0 : UInt8), vU8 (0 : UInt8), vU8 (0 : UInt8), vU8 (0 : UInt8), vU8 (0 : UInt8), vU8 (0 : UInt8), vU8 (0 : UInt8), vI (0 : Int), vU16 (0 : UInt16), .slice none 0 0])]) (shr' := []) [2, 3] [0] [] rfl rfl rfl rfl ?_)
      refine Tk_nilrow u8S ?_
      obtain rfl := Option.some.inj h
      exact Tk_retV rfl rfl (resA (vs := [.agg #[vU8 (0 : UInt8), vU8 (0 : UInt8), vU8 (0 : UInt8), vU8 (0 : UInt8), vU8 (0 : UInt8), vU8 (0 : UInt8), vU8 (0 : UInt8), vU8 (0 : UInt8), vU8 (0 : UInt8), vU8 (0 : UInt8), vU8 (0 : UInt8), vU8 (0 : UInt8), vI (0 : Int), vU16 (0 : UInt16), .slice none 0 0], vI (4 : Int)]) rfl ⟨⟨_, 0, _, _, _, rfl, rfl, .inl ⟨tyF26, rfl, rfl⟩⟩, rfl, trivial⟩) [1] [] rfl rfl rfl ⟨(.slice none 0 0), rfl, rfl, rfl⟩
     ·replace h := br_f hg4 h
      refine Tk_condF (congrArg (fun b => some (Value.bool b)) hg4) ?_
      refine Tk_skip (Tk_drawT (by kernel_rfl) ?_)
      refine TA_tb [0, 1, 3, 7, 0, 16, 15, 79, 255] (by kernel_rfl) fun htb => ?_
      refine TA_wkS (fr' := [(2, some (.pointer (some ⟨b1, 0, none⟩))), (4, some (.pointer (some ⟨b2, 0, none⟩))), (5, some (v3))]) (own' := [some (cellsR b1 26 [vU8 (0 : UInt8), vU8 (0 : UInt8), vU8 (0 : UInt8), vU8 (0 : UInt8), vU8 (0 : UInt8), vU8 (0 : UInt8), vU8 (0 : UInt8), vU8 (0 : UInt8), vU8 (0 : UInt8), vU8 (0 : UInt8), vU8 (0 : UInt8), vU8 (0 : UInt8), vI (0 : Int), vU16 (0 : UInt16), .slice none 0 0]), some (cellsR b2 26 [vU8 a1.a0, vU8 a1.a1, vU8 a1.a2, vU8 a1.a3, vU8 a1.a4, vU8 a1.a5, vU8 a2.a0, vU8 a2.a1, vU8 a2.a2, vU8 a2.a3, vU8 a2.a4, vU8 a2.a5, vI ((-1) : Int), vU16 (0 : UInt16), .slice none 0 0])]) (shr' := [Fact.sl u8S v3 (sub b (12 : Int) (len b))]) [2, 4, 5] [0, 1] [0] rfl rfl rfl rfl ?_
      obtain ⟨hc7, h⟩ := chk_e h
      obtain ⟨word3, hx5, h⟩ := ob_e h
      obtain ⟨hc8, h⟩ := chk_e h
      refine TA_seg (lo := 0) (hi := 8) htb rfl rfl (by kernel_rfl) (fun c L a w => ∃ (v9 : Value), ∃ (v10 : Value), Sat c ⟨[(2, some (.pointer (some ⟨b1, 0, none⟩))), (4, some (.pointer (some ⟨b2, 0, none⟩))), (5, some (v3)), (28, bif L 0 then some (v3) else none), (29, bif L 1 then some (v9) else none), (30, bif L 2 then some (vU16 word3) else none), (31, bif L 3 then some (vI (i16 word3)) else none), (32, bif L 4 then some (v3) else none), (33, bif L 5 then some (v10) else none), (34, bif L 6 then some (.pointer (some ⟨b2, 12, none⟩)) else none)], [(some (cellsR b1 26 [vU8 (0 : UInt8), vU8 (0 : UInt8), vU8 (0 : UInt8), vU8 (0 : UInt8), vU8 (0 : UInt8), vU8 (0 : UInt8), vU8 (0 : UInt8), vU8 (0 : UInt8), vU8 (0 : UInt8), vU8 (0 : UInt8), vU8 (0 : UInt8), vU8 (0 : UInt8), vI (0 : Int), vU16 (0 : UInt16), .slice none 0 0]) : Option Res), (bif L 7 then some (cellsR b2 26 [vU8 a1.a0, vU8 a1.a1, vU8 a1.a2, vU8 a1.a3, vU8 a1.a4, vU8 a1.a5, vU8 a2.a0, vU8 a2.a1, vU8 a2.a2, vU8 a2.a3, vU8 a2.a4, vU8 a2.a5, vI (i16 word3), vU16 (0 : UInt16), .slice none 0 0]) else some (cellsR b2 26 [vU8 a1.a0, vU8 a1.a1, vU8 a1.a2, vU8 a1.a3, vU8 a1.a4, vU8 a1.a5, vU8 a2.a0, vU8 a2.a1, vU8 a2.a2, vU8 a2.a3, vU8 a2.a4, vU8 a2.a5, vI ((-1) : Int), vU16 (0 : UInt16), .slice none 0 0]) : Option Res)], [Fact.sl u8S v3 (sub b (12 : Int) (len b)), (bif L 1 then Fact.sl u8S v9 (sub (sub b (12 : Int) (len b)) (2 : Int) (len (sub b (12 : Int) (len b)))) else Fact.tt), (bif L 5 then Fact.sl u8S v10 (sub (sub b (12 : Int) (len b)) (4 : Int) (len (sub b (12 : Int) (len b)))) else Fact.tt)]⟩ a w) [([], [1, 2, 3, 6, 7]), ([0], [2, 3, 6, 7]), ([0, 1], [3, 6, 7]), ([0, 1, 2], [6, 7]), ([], [5]), ([4], []), ([0, 1, 2, 3], [7]), ([0, 1, 2, 3, 6], [])] rfl (by kernel_rfl) ?_ (steps_cons ?_ (steps_cons ?_ (steps_cons ?_ (steps_cons ?_ (steps_cons ?_ (steps_cons ?_ (steps_cons ?_ (steps_cons ?_ (steps_nil))))))))) ?_
      ·intro a w hs
       exact ⟨undef, undef, hs.startF [28, 29, 30, 31, 32, 33, 34] [0, 1] [0, 1, 2] rfl rfl rfl rfl⟩
      ·intro L a w hv K Q hK
       obtain ⟨v9, v10, hs⟩ := hv
       refine wpOp_go rfl rfl hs (OpT_move rfl rfl rfl rfl) ?_
       rintro _ rfl a' w' hs'
       exact hK a' w' ⟨v9, v10, hs'.putF (i := 3) rfl [0, 1] [0, 1, 2] rfl rfl rfl rfl⟩
      ·intro L a w hv K Q hK
       obtain ⟨v9, v10, hs⟩ := hv
       refine wpOp_go rfl rfl hs (OpT_sliceL (l := (2 : Int)) rfl rfl rfl rfl rfl slF24 (i := 0) rfl hc7) ?_
       rintro _ ⟨v9', rfl⟩ a' w' hs'
       exact hK a' w' ⟨v9', v10, hs'.putF (i := 4) rfl [0, 1] [0, 3, 2] rfl rfl rfl rfl⟩
      ·intro L a w hv K Q hK
       obtain ⟨v9, v10, hs⟩ := hv
       refine wpOp_go rfl rfl hs (OpT_call (w_frame_word hx5) [] [1] rfl rfl rfl rfl rfl callee56 rfl rfl rfl rfl) ?_
       rintro _ ⟨_, _, _, ⟨rfl, rfl, rfl⟩, rfl⟩ a' w' hs'
       exact hK a' w' ⟨v9, v10, hs'.putF (i := 5) rfl [0, 1] [0, 1, 2] rfl rfl rfl rfl⟩
      ·intro L a w hv K Q hK
       obtain ⟨v9, v10, hs⟩ := hv
       refine wpOp_go rfl rfl hs (OpT_cnv rfl rfl rfl rfl (cnv_u16_i (n := word3) Try.underlying23 Try.underlying3)) ?_
       rintro _ rfl a' w' hs'
       exact hK a' w' ⟨v9, v10, hs'.putF (i := 6) rfl [0, 1] [0, 1, 2] rfl rfl rfl rfl⟩
      ·intro L a w hv K Q hK
       obtain ⟨v9, v10, hs⟩ := hv
       refine wpOp_go rfl rfl hs (OpT_move rfl rfl rfl rfl) ?_
       rintro _ rfl a' w' hs'
       exact hK a' w' ⟨v9, v10, hs'.putF (i := 7) rfl [0, 1] [0, 1, 2] rfl rfl rfl rfl⟩
      ·intro L a w hv K Q hK
       obtain ⟨v9, v10, hs⟩ := hv
       refine wpOp_go rfl rfl hs (OpT_sliceL (l := (4 : Int)) rfl rfl rfl rfl rfl slF24 (i := 0) rfl hc8) ?_
       rintro _ ⟨v10', rfl⟩ a' w' hs'
       exact hK a' w' ⟨v9, v10', hs'.putF (i := 8) rfl [0, 1] [0, 1, 3] rfl rfl rfl rfl⟩
      ·intro L a w hv K Q hK
       obtain ⟨v9, v10, hs⟩ := hv
       refine wpOp_go rfl rfl hs (OpT_fieldC rfl rfl rfl rfl fldF26x2) ?_
       rintro _ rfl a' w' hs'
       exact hK a' w' ⟨v9, v10, hs'.putF (i := 9) rfl [0, 1] [0, 1, 2] rfl rfl rfl rfl⟩
      ·intro L a w hv K Q hK
       obtain ⟨v9, v10, hs⟩ := hv
       refine wpOp_go rfl rfl hs (OpT_storeC (cs' := [vU8 a1.a0, vU8 a1.a1, vU8 a1.a2, vU8 a1.a3, vU8 a1.a4, vU8 a1.a5, vU8 a2.a0, vU8 a2.a1, vU8 a2.a2, vU8 a2.a3, vU8 a2.a4, vU8 a2.a5, vI (i16 word3), vU16 (0 : UInt16), .slice none 0 0]) rfl rfl rfl rfl tyF3 (i := 1) rfl rfl rfl (one_of rfl) rfl) ?_
       rintro _ rfl a' w' hs'
       exact hK a' w' ⟨v9, v10, hs'.sameF [0, 1] [0, 1, 2] rfl rfl rfl rfl⟩
      ·intro L a w hL hv
       rw [allTrue hL] at hv
       obtain ⟨v9, v10, hs⟩ := hv
       refine (show TA _ _ _ 8 ⟨[(2, some (.pointer (some ⟨b1, 0, none⟩))), (4, some (.pointer (some ⟨b2, 0, none⟩))), (33, some (v10))], [some (cellsR b1 26 [vU8 (0 : UInt8), vU8 (0 : UInt8), vU8 (0 : UInt8), vU8 (0 : UInt8), vU8 (0 : UInt8), vU8 (0 : UInt8), vU8 (0 : UInt8), vU8 (0 : UInt8), vU8 (0 : UInt8), vU8 (0 : UInt8), vU8 (0 : UInt8), vU8 (0 : UInt8), vI (0 : Int), vU16 (0 : UInt16), .slice none 0 0]), some (cellsR b2 26 [vU8 a1.a0, vU8 a1.a1, vU8 a1.a2, vU8 a1.a3, vU8 a1.a4, vU8 a1.a5, vU8 a2.a0, vU8 a2.a1, vU8 a2.a2, vU8 a2.a3, vU8 a2.a4, vU8 a2.a5, vI (i16 word3), vU16 (0 : UInt16), .slice none 0 0])], [Fact.sl u8S v10 (sub (sub b (12 : Int) (len b)) (4 : Int) (len (sub b (12 : Int) (len b))))]⟩ from ?_) a w (hs.wkS [2, 4, 33] [0, 1] [2] rfl rfl rfl rfl)
       clear hs hL
       refine TA_step htb (by kernel_rfl) rfl rfl (OpT_assign rfl rfl rfl rfl) ?_
       refine TA_end rfl ?_
       refine Tk_wkS (fr' := [(2, some (.pointer (some ⟨b1, 0, none⟩))), (4, some (.pointer (some ⟨b2, 0, none⟩))), (5, some (v10))]) (own' := [some (cellsR b1 26 [vU8 (0 : UInt8), vU8 (0 : UInt8), vU8 (0 : UInt8), vU8 (0 : UInt8), vU8 (0 : UInt8), vU8 (0 : UInt8), vU8 (0 : UInt8), vU8 (0 : UInt8), vU8 (0 : UInt8), vU8 (0 : UInt8), vU8 (0 : UInt8), vU8 (0 : UInt8), vI (0 : Int), vU16 (0 : UInt16), .slice none 0 0]), some (cellsR b2 26 [vU8 a1.a0, vU8 a1.a1, vU8 a1.a2, vU8 a1.a3, vU8 a1.a4, vU8 a1.a5, vU8 a2.a0, vU8 a2.a1, vU8 a2.a2, vU8 a2.a3, vU8 a2.a4, vU8 a2.a5, vI (i16 word3), vU16 (0 : UInt16), .slice none 0 0])]) (shr' := [Fact.sl u8S v10 (sub (sub b (12 : Int) (len b)) (4 : Int) (len (sub b (12 : Int) (len b))))]) [2, 4, 5] [0, 1] [0] rfl rfl rfl rfl ?_
       refine Tk_nilfact u8S ?_
       refine Tk_nilfact u8S ?_
       exact Tk_jmpS (HJ1 ((A6.mk (0 : UInt8) (0 : UInt8) (0 : UInt8) (0 : UInt8) (0 : UInt8) (0 : UInt8)), (A6.mk (0 : UInt8) (0 : UInt8) (0 : UInt8) (0 : UInt8) (0 : UInt8) (0 : UInt8)), (0 : Int), (0 : UInt16), ([] : List UInt8), a1, a2, i16 word3, (0 : UInt16), ([] : List UInt8), sub (sub b (12 : Int) (len b)) (4 : Int) (len (sub b (12 : Int) (len b))), .slice none 0 0, .slice none 0 0, v10) h) [2, 4, 5] [0, 1] [1, 2, 0] rfl rfl rfl rfl
    ·replace h := br_f hg3 h
     refine Tk_condF (congrArg (fun b => some (Value.bool b)) hg3) ?_
     refine Tk_skip (Tk_nilfact u8S ?_)
     refine Tk_nilfact u8S ?_
     exact Tk_jmpS (HJ1 ((A6.mk (0 : UInt8) (0 : UInt8) (0 : UInt8) (0 : UInt8) (0 : UInt8) (0 : UInt8)), (A6.mk (0 : UInt8) (0 : UInt8) (0 : UInt8) (0 : UInt8) (0 : UInt8) (0 : UInt8)), (0 : Int), (0 : UInt16), ([] : List UInt8), a1, a2, ((-1) : Int), (0 : UInt16), ([] : List UInt8), sub b (12 : Int) (len b), .slice none 0 0, .slice none 0 0, v3) h) [2, 4, 5] [0, 1] [1, 2, 0] rfl rfl rfl rfl

set_option maxRecDepth 100000 in
set_option maxHeartbeats 4000000 in
theorem w_net_Sent {m : gmem_Mem} {feats : UInt64} {l : List Seg} {b_m : Nat} {vm1 : Value} {vm2 : Value} {vsm1 : List Value} {vl1 : Value} {r : (Frame × Int)} (h : net_Sent m feats l = some r) :
  Ctr Try.prog 20 #[.pointer (some ⟨b_m, 0, none⟩), vU64 feats, vl1] [(cellsR b_m 78 [vm1, vm2]), (rowsX u8S true vm2 vsm1 m.b none)] [Fact.sl RegionS vm1 m.l, Fact.sl SegS vl1 l]
   (fun rv own shr => ∃ (w1 : Value), rv = .tuple #[.agg #[vU8 r.1.Dst.a0, vU8 r.1.Dst.a1, vU8 r.1.Dst.a2, vU8 r.1.Dst.a3, vU8 r.1.Dst.a4, vU8 r.1.Dst.a5, vU8 r.1.Src.a0, vU8 r.1.Src.a1, vU8 r.1.Src.a2, vU8 r.1.Src.a3, vU8 r.1.Src.a4, vU8 r.1.Src.a5, vI r.1.Vlan, vU16 r.1.Type_, w1], vI r.2] ∧ own = [(cellsR b_m 78 [vm1, vm2]), (rowsX u8S true vm2 vsm1 m.b none), (rowS u8S w1 r.1.Data)] ∧ shr = []) := by
 unfold net_Sent at h
 refine Ctr.mk (args := [.pointer (some ⟨b_m, 0, none⟩), vU64 feats, vl1]) Try.func20 rfl rfl (fun R0 w0 B => ?_)
 refine Tk_seq (Tk_region (Tops_ex rfl (OpT_alloc rfl rfl rfl tyZ26) fun b1 => ?_))
 refine Tops_step rfl (OpT_assign rfl rfl rfl rfl) ?_
 refine Tops_nil (Tk_wkS (fr' := [(0, some (.pointer (some ⟨b_m, 0, none⟩))), (1, some (vU64 feats)), (2, some (vl1)), (6, some (.pointer (some ⟨b1, 0, none⟩)))]) (own' := [some (cellsR b_m 78 [vm1, vm2]), some (rowsX u8S true vm2 vsm1 m.b none), some (cellsR b1 26 [vU8 (0 : UInt8), vU8 (0 : UInt8), vU8 (0 : UInt8), vU8 (0 : UInt8), vU8 (0 : UInt8), vU8 (0 : UInt8), vU8 (0 : UInt8), vU8 (0 : UInt8), vU8 (0 : UInt8), vU8 (0 : UInt8), vU8 (0 : UInt8), vU8 (0 : UInt8), vI (0 : Int), vU16 (0 : UInt16), .slice none 0 0])]) (shr' := [Fact.sl RegionS vm1 m.l, Fact.sl SegS vl1 l]) [0, 1, 2, 6] [0, 1, 2] [0, 1] rfl rfl rfl rfl ?_)
 refine Tk_seq (Tk_seq (Tk_region (Tops_step rfl (OpT_move rfl rfl rfl rfl) ?_)))
 refine Tops_step rfl (OpT_ptrNil rfl rfl rfl (.inl rfl) rfl rfl ptrF35) ?_
 refine Tops_nil (Tk_wkS (fr' := [(0, some (.pointer (some ⟨b_m, 0, none⟩))), (1, some (vU64 feats)), (2, some (vl1)), (6, some (.pointer (some ⟨b1, 0, none⟩))), (12, some (vB false))]) (own' := [some (cellsR b_m 78 [vm1, vm2]), some (rowsX u8S true vm2 vsm1 m.b none), some (cellsR b1 26 [vU8 (0 : UInt8), vU8 (0 : UInt8), vU8 (0 : UInt8), vU8 (0 : UInt8), vU8 (0 : UInt8), vU8 (0 : UInt8), vU8 (0 : UInt8), vU8 (0 : UInt8), vU8 (0 : UInt8), vU8 (0 : UInt8), vU8 (0 : UInt8), vU8 (0 : UInt8), vI (0 : Int), vU16 (0 : UInt16), .slice none 0 0])]) (shr' := [Fact.sl RegionS vm1 m.l, Fact.sl SegS vl1 l]) [0, 1, 2, 6, 12] [0, 1, 2] [0, 1] rfl rfl rfl rfl ?_)
 refine Tk_condF rfl ?_
 refine Tk_skip (Tk_seq (Tk_region (Tops_step rfl (OpT_move rfl rfl rfl rfl) ?_)))
 refine Tops_step rfl (OpT_move rfl rfl rfl rfl) ?_
 obtain ⟨gather1, hx1, h⟩ := ob_e h
 refine Tops_exP rfl (OpT_callP [3, 4, 2, 5] (w_seg_Gather hx1) [0, 1] [0, 1] rfl rfl rfl rfl rfl callee40 rfl rfl rfl rfl rfl) ?_
 rintro _ ⟨_, _, _, ⟨v1, rfl, rfl, rfl⟩, rfl⟩
 refine Tops_step rfl (OpT_move rfl rfl rfl rfl) ?_
 refine Tops_step rfl (OpT_extract rfl rfl rfl rfl rfl) ?_
 refine Tops_step rfl (OpT_extract rfl rfl rfl rfl rfl) ?_
 refine Tops_step rfl (OpT_assign rfl rfl rfl rfl) ?_
 refine Tops_step rfl (OpT_assign rfl rfl rfl rfl) ?_
 refine Tops_nil (Tk_wkS (fr' := [(1, some (vU64 feats)), (6, some (.pointer (some ⟨b1, 0, none⟩))), (8, some (v1)), (9, some (vI gather1.2))]) (own' := [some (cellsR b_m 78 [vm1, vm2]), some (rowsX u8S true vm2 vsm1 m.b none), some (cellsR b1 26 [vU8 (0 : UInt8), vU8 (0 : UInt8), vU8 (0 : UInt8), vU8 (0 : UInt8), vU8 (0 : UInt8), vU8 (0 : UInt8), vU8 (0 : UInt8), vU8 (0 : UInt8), vU8 (0 : UInt8), vU8 (0 : UInt8), vU8 (0 : UInt8), vU8 (0 : UInt8), vI (0 : Int), vU16 (0 : UInt16), .slice none 0 0]), some (rowS u8S v1 gather1.1)]) (shr' := [Fact.sl RegionS vm1 m.l]) [1, 6, 8, 9] [0, 1, 2, 3] [0] rfl rfl rfl rfl ?_)
 refine Tk_seq (Tk_seq (Tk_region (Tops_step rfl (OpT_move rfl rfl rfl rfl) ?_)))
 refine Tops_step rfl (OpT_bin rfl rfl rfl rfl rfl (bin_neq_i (a := gather1.2) (b := (0 : Int)))) ?_
 refine Tops_nil (Tk_wkS (fr' := [(1, some (vU64 feats)), (6, some (.pointer (some ⟨b1, 0, none⟩))), (8, some (v1)), (9, some (vI gather1.2)), (21, some (vB (gather1.2 != (0 : Int))))]) (own' := [some (cellsR b_m 78 [vm1, vm2]), some (rowsX u8S true vm2 vsm1 m.b none), some (cellsR b1 26 [vU8 (0 : UInt8), vU8 (0 : UInt8), vU8 (0 : UInt8), vU8 (0 : UInt8), vU8 (0 : UInt8), vU8 (0 : UInt8), vU8 (0 : UInt8), vU8 (0 : UInt8), vU8 (0 : UInt8), vU8 (0 : UInt8), vU8 (0 : UInt8), vU8 (0 : UInt8), vI (0 : Int), vU16 (0 : UInt16), .slice none 0 0]), some (rowS u8S v1 gather1.1)]) (shr' := [Fact.sl RegionS vm1 m.l]) [1, 6, 8, 9, 21] [0, 1, 2, 3] [0] rfl rfl rfl rfl ?_)
 rcases Bool.eq_false_or_eq_true (gather1.2 != (0 : Int)) with hg1 | hg1
 ·replace h := br_t hg1 h
  refine Tk_condT (congrArg (fun b => some (Value.bool b)) hg1) ?_
  refine Tk_seq (Tk_region (Tops_step rfl (OpT_build (v := .agg #[vU8 (0 : UInt8), vU8 (0 : UInt8), vU8 (0 : UInt8), vU8 (0 : UInt8), vU8 (0 : UInt8), vU8 (0 : UInt8), vU8 (0 : UInt8), vU8 (0 : UInt8), vU8 (0 : UInt8), vU8 (0 : UInt8), vU8 (0 : UInt8), vU8 (0 : UInt8), vI (0 : Int), vU16 (0 : UInt16), .slice none 0 0]) rfl rfl rfl rfl (bldV (by kernel_rfl))) ?_))
  refine Tops_step rfl (OpT_move rfl rfl rfl rfl) ?_
  refine Tops_step rfl (OpT_storeC (cs' := [vU8 (0 : UInt8), vU8 (0 : UInt8), vU8 (0 : UInt8), vU8 (0 : UInt8), vU8 (0 : UInt8), vU8 (0 : UInt8), vU8 (0 : UInt8), vU8 (0 : UInt8), vU8 (0 : UInt8), vU8 (0 : UInt8), vU8 (0 : UInt8), vU8 (0 : UInt8), vI (0 : Int), vU16 (0 : UInt16), .slice none 0 0]) rfl rfl rfl rfl tyF26 (i := 2) rfl rfl rfl (one_of rfl) rfl) ?_
  refine Tops_step rfl (OpT_assign rfl rfl rfl rfl) ?_
  refine Tops_nil (Tk_wkS (fr' := [(6, some (.pointer (some ⟨b1, 0, none⟩))), (7, some (vI gather1.2))]) (own' := [some (cellsR b_m 78 [vm1, vm2]), some (rowsX u8S true vm2 vsm1 m.b none), some (cellsR b1 26 [vU8 (0 : UInt8), vU8 (0 : UInt8), vU8 (0 : UInt8), vU8 (0 : UInt8), vU8 (0 : UInt8), vU8 (0 : UInt8), vU8 (0 : UInt8), vU8 (0 : UInt8), vU8 (0 : UInt8), vU8 (0 : UInt8), vU8 (0 : UInt8), vU8 (0 : UInt8), vI (0 : Int), vU16 (0 : UInt16), .slice none 0 0])]) (shr' := [Fact.sl RegionS vm1 m.l]) [6, 7] [0, 1, 2] [0] rfl rfl rfl rfl ?_)
  refine Tk_nilrow u8S ?_
  obtain rfl := Option.some.inj h
  exact Tk_retV rfl rfl (resA (vs := [.agg #[vU8 (0 : UInt8), vU8 (0 : UInt8), vU8 (0 : UInt8), vU8 (0 : UInt8), vU8 (0 : UInt8), vU8 (0 : UInt8), vU8 (0 : UInt8), vU8 (0 : UInt8), vU8 (0 : UInt8), vU8 (0 : UInt8), vU8 (0 : UInt8), vU8 (0 : UInt8), vI (0 : Int), vU16 (0 : UInt16), .slice none 0 0], vI gather1.2]) rfl ⟨⟨_, 2, _, _, _, rfl, rfl, .inl ⟨tyF26, rfl, rfl⟩⟩, rfl, trivial⟩) [0, 1, 3] [] rfl rfl rfl ⟨(.slice none 0 0), rfl, rfl, rfl⟩
 ·replace h := br_f hg1 h
  refine Tk_condF (congrArg (fun b => some (Value.bool b)) hg1) ?_
  refine Tk_skip (Tk_seq (Tk_region (Tops_step rfl (OpT_move rfl rfl rfl rfl) ?_)))
  obtain ⟨readhd1, hx2, h⟩ := ob_e h
  refine Tops_exP rfl (OpT_callB [3] [0, 1, 2, 3] (w_frame_ReadHdr hx2) [] rfl rfl rfl rfl rfl callee41 rfl rfl rfl rfl rfl rfl (bor_cons (bor_row 3 rfl rfl) bor_nil) (by rintro _ _ _ ⟨rfl, rfl, rfl⟩; exact ⟨rfl, ri_nil⟩)) ?_
  rintro _ ⟨_, _, _, ⟨rfl, rfl, rfl⟩, rfl⟩
  refine Tops_step rfl (OpT_move rfl rfl rfl rfl) ?_
  refine Tops_step rfl (OpT_extract rfl rfl rfl rfl rfl) ?_
  refine Tops_step rfl (OpT_extract rfl rfl rfl rfl rfl) ?_
  refine Tops_ex rfl (OpT_alloc rfl rfl rfl tyZ50) fun b2 => ?_
  refine Tops_step rfl (OpT_storeC (cs' := [vU8 readhd1.1.Flags, vU16 readhd1.1.Start, vU16 readhd1.1.Off, vU16 readhd1.1.Buffers]) rfl rfl rfl rfl tyF50 (i := 4) rfl rfl rfl (one_of rfl) rfl) ?_
  refine Tops_step rfl (OpT_assign rfl rfl rfl rfl) ?_
  refine Tops_nil (Tk_wkS (fr' := [(1, some (vU64 feats)), (6, some (.pointer (some ⟨b1, 0, none⟩))), (8, some (v1)), (9, some (vI readhd1.2)), (10, some (.pointer (some ⟨b2, 0, none⟩)))]) (own' := [some (cellsR b_m 78 [vm1, vm2]), some (rowsX u8S true vm2 vsm1 m.b none), some (cellsR b1 26 [vU8 (0 : UInt8), vU8 (0 : UInt8), vU8 (0 : UInt8), vU8 (0 : UInt8), vU8 (0 : UInt8), vU8 (0 : UInt8), vU8 (0 : UInt8), vU8 (0 : UInt8), vU8 (0 : UInt8), vU8 (0 : UInt8), vU8 (0 : UInt8), vU8 (0 : UInt8), vI (0 : Int), vU16 (0 : UInt16), .slice none 0 0]), some (rowS u8S v1 gather1.1), some (cellsR b2 50 [vU8 readhd1.1.Flags, vU16 readhd1.1.Start, vU16 readhd1.1.Off, vU16 readhd1.1.Buffers])]) (shr' := [Fact.sl RegionS vm1 m.l]) [1, 6, 8, 9, 10] [0, 1, 2, 3, 4] [0] rfl rfl rfl rfl ?_)
  refine Tk_seq (Tk_seq (Tk_region (Tops_step rfl (OpT_move rfl rfl rfl rfl) ?_)))
  refine Tops_step rfl (OpT_bin rfl rfl rfl rfl rfl (bin_neq_i (a := readhd1.2) (b := (0 : Int)))) ?_
  refine Tops_nil (Tk_wkS (fr' := [(1, some (vU64 feats)), (6, some (.pointer (some ⟨b1, 0, none⟩))), (8, some (v1)), (10, some (.pointer (some ⟨b2, 0, none⟩))), (30, some (vB (readhd1.2 != (0 : Int))))]) (own' := [some (cellsR b_m 78 [vm1, vm2]), some (rowsX u8S true vm2 vsm1 m.b none), some (cellsR b1 26 [vU8 (0 : UInt8), vU8 (0 : UInt8), vU8 (0 : UInt8), vU8 (0 : UInt8), vU8 (0 : UInt8), vU8 (0 : UInt8), vU8 (0 : UInt8), vU8 (0 : UInt8), vU8 (0 : UInt8), vU8 (0 : UInt8), vU8 (0 : UInt8), vU8 (0 : UInt8), vI (0 : Int), vU16 (0 : UInt16), .slice none 0 0]), some (rowS u8S v1 gather1.1), some (cellsR b2 50 [vU8 readhd1.1.Flags, vU16 readhd1.1.Start, vU16 readhd1.1.Off, vU16 readhd1.1.Buffers])]) (shr' := [Fact.sl RegionS vm1 m.l]) [1, 6, 8, 10, 30] [0, 1, 2, 3, 4] [0] rfl rfl rfl rfl ?_)
  rcases Bool.eq_false_or_eq_true (readhd1.2 != (0 : Int)) with hg2 | hg2
  ·replace h := br_t hg2 h
   refine Tk_condT (congrArg (fun b => some (Value.bool b)) hg2) ?_
   refine Tk_seq (Tk_region (Tops_step rfl (OpT_build (v := .agg #[vU8 (0 : UInt8), vU8 (0 : UInt8), vU8 (0 : UInt8), vU8 (0 : UInt8), vU8 (0 : UInt8), vU8 (0 : UInt8), vU8 (0 : UInt8), vU8 (0 : UInt8), vU8 (0 : UInt8), vU8 (0 : UInt8), vU8 (0 : UInt8), vU8 (0 : UInt8), vI (0 : Int), vU16 (0 : UInt16), .slice none 0 0]) rfl rfl rfl rfl (bldV (by kernel_rfl))) ?_))
   refine Tops_step rfl (OpT_storeC (cs' := [vU8 (0 : UInt8), vU8 (0 : UInt8), vU8 (0 : UInt8), vU8 (0 : UInt8), vU8 (0 : UInt8), vU8 (0 : UInt8), vU8 (0 : UInt8), vU8 (0 : UInt8), vU8 (0 : UInt8), vU8 (0 : UInt8), vU8 (0 : UInt8), vU8 (0 : UInt8), vI (0 : Int), vU16 (0 : UInt16), .slice none 0 0]) rfl rfl rfl rfl tyF26 (i := 2) rfl rfl rfl (one_of rfl) rfl) ?_
   refine Tops_step rfl (OpT_assign rfl rfl rfl rfl) ?_
   refine Tops_nil (Tk_wkS (fr' := [(6, some (.pointer (some ⟨b1, 0, none⟩))), (7, some (vI (4 : Int)))]) (own' := [some (cellsR b_m 78 [vm1, vm2]), some (rowsX u8S true vm2 vsm1 m.b none), some (cellsR b1 26 [vU8 (0 : UInt8), vU8 (0 : UInt8), vU8 (0 : UInt8), vU8 (0 : UInt8), vU8 (0 : UInt8), vU8 (0 : UInt8), vU8 (0 : UInt8), vU8 (0 : UInt8), vU8 (0 : UInt8), vU8 (0 : UInt8), vU8 (0 : UInt8), vU8 (0 : UInt8), vI (0 : Int), vU16 (0 : UInt16), .slice none 0 0])]) (shr' := [Fact.sl RegionS vm1 m.l]) [6, 7] [0, 1, 2] [0] rfl rfl rfl rfl ?_)
   refine Tk_nilrow u8S ?_
   obtain rfl := Option.some.inj h
   exact Tk_retV rfl rfl (resA (vs := [.agg #[vU8 (0 : UInt8), vU8 (0 : UInt8), vU8 (0 : UInt8), vU8 (0 : UInt8), vU8 (0 : UInt8), vU8 (0 : UInt8), vU8 (0 : UInt8), vU8 (0 : UInt8), vU8 (0 : UInt8), vU8 (0 : UInt8), vU8 (0 : UInt8), vU8 (0 : UInt8), vI (0 : Int), vU16 (0 : UInt16), .slice none 0 0], vI (4 : Int)]) rfl ⟨⟨_, 2, _, _, _, rfl, rfl, .inl ⟨tyF26, rfl, rfl⟩⟩, rfl, trivial⟩) [0, 1, 3] [] rfl rfl rfl ⟨(.slice none 0 0), rfl, rfl, rfl⟩
  ·replace h := br_f hg2 h
   refine Tk_condF (congrArg (fun b => some (Value.bool b)) hg2) ?_
   refine Tk_skip (Tk_seq (Tk_region (Tops_step rfl (OpT_move rfl rfl rfl rfl) ?_)))
   obtain ⟨hc1, h⟩ := chk_e h
   refine Tops_step rfl (OpT_subL (S := u8S) (l := (12 : Int)) rfl rfl rfl rfl rfl slF24 (i := 3) rfl hc1) ?_
   refine Tops_step rfl (OpT_assign rfl rfl rfl rfl) ?_
   refine Tops_nil (Tk_wkS (fr' := [(1, some (vU64 feats)), (6, some (.pointer (some ⟨b1, 0, none⟩))), (8, some (subV v1 1 (Int.toNat (12 : Int)) (Int.toNat (len gather1.1)))), (10, some (.pointer (some ⟨b2, 0, none⟩)))]) (own' := [some (cellsR b_m 78 [vm1, vm2]), some (rowsX u8S true vm2 vsm1 m.b none), some (cellsR b1 26 [vU8 (0 : UInt8), vU8 (0 : UInt8), vU8 (0 : UInt8), vU8 (0 : UInt8), vU8 (0 : UInt8), vU8 (0 : UInt8), vU8 (0 : UInt8), vU8 (0 : UInt8), vU8 (0 : UInt8), vU8 (0 : UInt8), vU8 (0 : UInt8), vU8 (0 : UInt8), vI (0 : Int), vU16 (0 : UInt16), .slice none 0 0]), some (rowS u8S v1 gather1.1), some (cellsR b2 50 [vU8 readhd1.1.Flags, vU16 readhd1.1.Start, vU16 readhd1.1.Off, vU16 readhd1.1.Buffers])]) (shr' := [Fact.sl RegionS vm1 m.l]) [1, 6, 8, 10] [0, 1, 2, 3, 4] [0] rfl rfl rfl rfl ?_)
   refine Tk_seq (Tk_seq (Tk_region (Tops_step rfl (OpT_move rfl rfl rfl rfl) ?_)))
   obtain ⟨has1, hx3, h⟩ := ob_e h
   refine Tops_exP rfl (OpT_call (w_feat_Has hx3) [] [] rfl rfl rfl rfl rfl callee35 rfl rfl rfl rfl) ?_
   rintro _ ⟨_, _, _, ⟨rfl, rfl, rfl⟩, rfl⟩
   refine Tops_nil (Tk_wkS (fr' := [(6, some (.pointer (some ⟨b1, 0, none⟩))), (8, some (subV v1 1 (Int.toNat (12 : Int)) (Int.toNat (len gather1.1)))), (10, some (.pointer (some ⟨b2, 0, none⟩))), (35, some (vB has1))]) (own' := [some (cellsR b_m 78 [vm1, vm2]), some (rowsX u8S true vm2 vsm1 m.b none), some (cellsR b1 26 [vU8 (0 : UInt8), vU8 (0 : UInt8), vU8 (0 : UInt8), vU8 (0 : UInt8), vU8 (0 : UInt8), vU8 (0 : UInt8), vU8 (0 : UInt8), vU8 (0 : UInt8), vU8 (0 : UInt8), vU8 (0 : UInt8), vU8 (0 : UInt8), vU8 (0 : UInt8), vI (0 : Int), vU16 (0 : UInt16), .slice none 0 0]), some (rowS u8S v1 gather1.1), some (cellsR b2 50 [vU8 readhd1.1.Flags, vU16 readhd1.1.Start, vU16 readhd1.1.Off, vU16 readhd1.1.Buffers])]) (shr' := [Fact.sl RegionS vm1 m.l]) [6, 8, 10, 35] [0, 1, 2, 3, 4] [0] rfl rfl rfl rfl ?_)
   rcases Bool.eq_false_or_eq_true (has1) with hg3 | hg3
   ·replace h := br_t hg3 h
    refine Tk_condT (congrArg (fun b => some (Value.bool b)) hg3) ?_
    refine Tk_seq (Tk_region (Tops_step rfl (OpT_move rfl rfl rfl rfl) ?_))
    refine Tops_step rfl (OpT_loadCA (vs := [vU8 readhd1.1.Flags, vU16 readhd1.1.Start, vU16 readhd1.1.Off, vU16 readhd1.1.Buffers]) rfl rfl rfl rfl tyF50 (i := 4) rfl rfl rfl) ?_
    obtain ⟨fill1, hx4, h⟩ := ob_e h
    refine Tops_exP rfl (OpT_callB [3] [0, 1, 2, 3, 4, 5] (w_frame_Fill hx4) [] rfl rfl rfl rfl rfl callee42 rfl rfl rfl rfl rfl rfl (bor_cons (bor_sub (S := u8S) (l := (12 : Int)) (m := (len gather1.1)) 3 rfl rfl hc1) bor_nil) (by rintro _ _ _ ⟨_, rfl, rfl, rfl⟩; exact ⟨rfl, (ri_cons (ri_row (S := u8S) rfl _ _) ri_nil)⟩)) ?_
    rintro _ ⟨_, _, _, ⟨v2, rfl, rfl, rfl⟩, rfl⟩
    refine Tops_step rfl (OpT_move rfl rfl rfl rfl) ?_
    refine Tops_step rfl (OpT_extract rfl rfl rfl rfl rfl) ?_
    refine Tops_step rfl (OpT_extract rfl rfl rfl rfl rfl) ?_
    refine Tops_step rfl (OpT_assign rfl rfl rfl rfl) ?_
    refine Tops_step rfl (OpT_assign rfl rfl rfl rfl) ?_
    refine Tops_nil (Tk_wkS (fr' := [(6, some (.pointer (some ⟨b1, 0, none⟩))), (8, some (v2)), (9, some (vI fill1.2))]) (own' := [some (cellsR b_m 78 [vm1, vm2]), some (rowsX u8S true vm2 vsm1 m.b none), some (cellsR b1 26 [vU8 (0 : UInt8), vU8 (0 : UInt8), vU8 (0 : UInt8), vU8 (0 : UInt8), vU8 (0 : UInt8), vU8 (0 : UInt8), vU8 (0 : UInt8), vU8 (0 : UInt8), vU8 (0 : UInt8), vU8 (0 : UInt8), vU8 (0 : UInt8), vU8 (0 : UInt8), vI (0 : Int), vU16 (0 : UInt16), .slice none 0 0]), some (rowS u8S v2 fill1.1)]) (shr' := [Fact.sl RegionS vm1 m.l]) [6, 8, 9] [0, 1, 2, 5] [0] rfl rfl rfl rfl ?_)
    refine Tk_seq (Tk_region (Tops_step rfl (OpT_move rfl rfl rfl rfl) ?_))
    refine Tops_step rfl (OpT_bin rfl rfl rfl rfl rfl (bin_neq_i (a := fill1.2) (b := (0 : Int)))) ?_
    refine Tops_nil (Tk_wkS (fr' := [(6, some (.pointer (some ⟨b1, 0, none⟩))), (8, some (v2)), (43, some (vB (fill1.2 != (0 : Int))))]) (own' := [some (cellsR b_m 78 [vm1, vm2]), some (rowsX u8S true vm2 vsm1 m.b none), some (cellsR b1 26 [vU8 (0 : UInt8), vU8 (0 : UInt8), vU8 (0 : UInt8), vU8 (0 : UInt8), vU8 (0 : UInt8), vU8 (0 : UInt8), vU8 (0 : UInt8), vU8 (0 : UInt8), vU8 (0 : UInt8), vU8 (0 : UInt8), vU8 (0 : UInt8), vU8 (0 : UInt8), vI (0 : Int), vU16 (0 : UInt16), .slice none 0 0]), some (rowS u8S v2 fill1.1)]) (shr' := [Fact.sl RegionS vm1 m.l]) [6, 8, 43] [0, 1, 2, 3] [0] rfl rfl rfl rfl ?_)
    rcases Bool.eq_false_or_eq_true (fill1.2 != (0 : Int)) with hg4 | hg4
    ·replace h := br_t hg4 h
     refine Tk_condT (congrArg (fun b => some (Value.bool b)) hg4) ?_
     refine Tk_seq (Tk_region (Tops_step rfl (OpT_build (v := .agg #[vU8 (0 : UInt8), vU8 (0 : UInt8), vU8 (0 : UInt8), vU8 (0 : UInt8), vU8 (0 : UInt8), vU8 (0 : UInt8), vU8 (0 : UInt8), vU8 (0 : UInt8), vU8 (0 : UInt8), vU8 (0 : UInt8), vU8 (0 : UInt8), vU8 (0 : UInt8), vI (0 : Int), vU16 (0 : UInt16), .slice none 0 0]) rfl rfl rfl rfl (bldV (by kernel_rfl))) ?_))
     refine Tops_step rfl (OpT_storeC (cs' := [vU8 (0 : UInt8), vU8 (0 : UInt8), vU8 (0 : UInt8), vU8 (0 : UInt8), vU8 (0 : UInt8), vU8 (0 : UInt8), vU8 (0 : UInt8), vU8 (0 : UInt8), vU8 (0 : UInt8), vU8 (0 : UInt8), vU8 (0 : UInt8), vU8 (0 : UInt8), vI (0 : Int), vU16 (0 : UInt16), .slice none 0 0]) rfl rfl rfl rfl tyF26 (i := 2) rfl rfl rfl (one_of rfl) rfl) ?_
     refine Tops_step rfl (OpT_assign rfl rfl rfl rfl) ?_
     refine Tops_nil (Tk_wkS (fr' := [(6, some (.pointer (some ⟨b1, 0, none⟩))), (7, some (vI (4 : Int)))]) (own' := [some (cellsR b_m 78 [vm1, vm2]), some (rowsX u8S true vm2 vsm1 m.b none), some (cellsR b1 26 [vU8 (0 : UInt8), vU8 (0 : UInt8), vU8 (0 : UInt8), vU8 (0 : UInt8), vU8 (0 : UInt8), vU8 (0 : UInt8), vU8 (0 : UInt8), vU8 (0 : UInt8), vU8 (0 : UInt8), vU8 (0 : UInt8), vU8 (0 : UInt8), vU8 (0 : UInt8), vI (0 : Int), vU16 (0 : UInt16), .slice none 0 0])]) (shr' := [Fact.sl RegionS vm1 m.l]) [6, 7] [0, 1, 2] [0] rfl rfl rfl rfl ?_)
     refine Tk_nilrow u8S ?_
     obtain rfl := Option.some.inj h
     exact Tk_retV rfl rfl (resA (vs := [.agg #[vU8 (0 : UInt8), vU8 (0 : UInt8), vU8 (0 : UInt8), vU8 (0 : UInt8), vU8 (0 : UInt8), vU8 (0 : UInt8), vU8 (0 : UInt8), vU8 (0 : UInt8), vU8 (0 : UInt8), vU8 (0 : UInt8), vU8 (0 : UInt8), vU8 (0 : UInt8), vI (0 : Int), vU16 (0 : UInt16), .slice none 0 0], vI (4 : Int)]) rfl ⟨⟨_, 2, _, _, _, rfl, rfl, .inl ⟨tyF26, rfl, rfl⟩⟩, rfl, trivial⟩) [0, 1, 3] [] rfl rfl rfl ⟨(.slice none 0 0), rfl, rfl, rfl⟩
    ·replace h := br_f hg4 h
     refine Tk_condF (congrArg (fun b => some (Value.bool b)) hg4) ?_
     refine Tk_skip (Tk_seq (Tk_region (Tops_step rfl (OpT_move rfl rfl rfl rfl) ?_)))
     obtain ⟨read1, hx5, h⟩ := ob_e h
     refine Tops_exP rfl (OpT_callB [3] [0, 1, 2, 3, 4] (w_frame_Read hx5) [] rfl rfl rfl rfl rfl callee43 rfl rfl rfl rfl rfl rfl (bor_cons (bor_row 3 rfl rfl) bor_nil) (by rintro _ _ _ ⟨_, rfl, rfl, rfl⟩; exact ⟨rfl, (ri_cons (ri_row (S := u8S) rfl _ _) ri_nil)⟩)) ?_
     rintro _ ⟨_, _, _, ⟨v3, rfl, rfl, rfl⟩, rfl⟩
     refine Tops_step rfl (OpT_extract rfl rfl rfl rfl rfl) ?_
     refine Tops_step rfl (OpT_extract rfl rfl rfl rfl rfl) ?_
     refine Tops_step rfl (OpT_storeA1 (fun z0 => [vU8 read1.1.Dst.a0, vU8 read1.1.Dst.a1, vU8 read1.1.Dst.a2, vU8 read1.1.Dst.a3, vU8 read1.1.Dst.a4, vU8 read1.1.Dst.a5, vU8 read1.1.Src.a0, vU8 read1.1.Src.a1, vU8 read1.1.Src.a2, vU8 read1.1.Src.a3, vU8 read1.1.Src.a4, vU8 read1.1.Src.a5, vI read1.1.Vlan, vU16 read1.1.Type_, z0]) (cs' := [vU8 read1.1.Dst.a0, vU8 read1.1.Dst.a1, vU8 read1.1.Dst.a2, vU8 read1.1.Dst.a3, vU8 read1.1.Dst.a4, vU8 read1.1.Dst.a5, vU8 read1.1.Src.a0, vU8 read1.1.Src.a1, vU8 read1.1.Src.a2, vU8 read1.1.Src.a3, vU8 read1.1.Src.a4, vU8 read1.1.Src.a5, vI read1.1.Vlan, vU16 read1.1.Type_, v3]) rfl rfl rfl rfl tyF26 (i := 2) rfl (is_row (i := 4) rfl) (fun _ _ _ => rfl) rfl rfl rfl) ?_
     refine Tops_step rfl (OpT_assign rfl rfl rfl rfl) ?_
     refine Tops_nil (Tk_wkS (fr' := [(6, some (.pointer (some ⟨b1, 0, none⟩))), (7, some (vI read1.2))]) (own' := [some (cellsR b_m 78 [vm1, vm2]), some (rowsX u8S true vm2 vsm1 m.b none), some (cellsR b1 26 [vU8 read1.1.Dst.a0, vU8 read1.1.Dst.a1, vU8 read1.1.Dst.a2, vU8 read1.1.Dst.a3, vU8 read1.1.Dst.a4, vU8 read1.1.Dst.a5, vU8 read1.1.Src.a0, vU8 read1.1.Src.a1, vU8 read1.1.Src.a2, vU8 read1.1.Src.a3, vU8 read1.1.Src.a4, vU8 read1.1.Src.a5, vI read1.1.Vlan, vU16 read1.1.Type_, v3]), some (rowS u8S v3 read1.1.Data)]) (shr' := [Fact.sl RegionS vm1 m.l]) [6, 7] [0, 1, 2, 4] [0] rfl rfl rfl rfl ?_)
     obtain rfl := Option.some.inj h
     exact Tk_retV rfl rfl (resA (vs := [.agg #[vU8 read1.1.Dst.a0, vU8 read1.1.Dst.a1, vU8 read1.1.Dst.a2, vU8 read1.1.Dst.a3, vU8 read1.1.Dst.a4, vU8 read1.1.Dst.a5, vU8 read1.1.Src.a0, vU8 read1.1.Src.a1, vU8 read1.1.Src.a2, vU8 read1.1.Src.a3, vU8 read1.1.Src.a4, vU8 read1.1.Src.a5, vI read1.1.Vlan, vU16 read1.1.Type_, v3], vI read1.2]) rfl ⟨⟨_, 2, _, _, _, rfl, rfl, .inl ⟨tyF26, rfl, rfl⟩⟩, rfl, trivial⟩) [0, 1, 3] [] rfl rfl rfl ⟨v3, rfl, rfl, rfl⟩
   ·replace h := br_f hg3 h
    refine Tk_condF (congrArg (fun b => some (Value.bool b)) hg3) ?_
    refine Tk_skip (Tk_seq (Tk_region (Tops_step rfl (OpT_move rfl rfl rfl rfl) ?_)))
    obtain ⟨read2, hx6, h⟩ := ob_e h
    refine Tops_exP rfl (OpT_callB [3] [0, 1, 2, 3, 4, 5] (w_frame_Read hx6) [] rfl rfl rfl rfl rfl callee43 rfl rfl rfl rfl rfl rfl (bor_cons (bor_sub (S := u8S) (l := (12 : Int)) (m := (len gather1.1)) 3 rfl rfl hc1) bor_nil) (by rintro _ _ _ ⟨_, rfl, rfl, rfl⟩; exact ⟨rfl, (ri_cons (ri_row (S := u8S) rfl _ _) ri_nil)⟩)) ?_
    rintro _ ⟨_, _, _, ⟨v4, rfl, rfl, rfl⟩, rfl⟩
    refine Tops_step rfl (OpT_extract rfl rfl rfl rfl rfl) ?_
    refine Tops_step rfl (OpT_extract rfl rfl rfl rfl rfl) ?_
    refine Tops_step rfl (OpT_storeA1 (fun z0 => [vU8 read2.1.Dst.a0, vU8 read2.1.Dst.a1, vU8 read2.1.Dst.a2, vU8 read2.1.Dst.a3, vU8 read2.1.Dst.a4, vU8 read2.1.Dst.a5, vU8 read2.1.Src.a0, vU8 read2.1.Src.a1, vU8 read2.1.Src.a2, vU8 read2.1.Src.a3, vU8 read2.1.Src.a4, vU8 read2.1.Src.a5, vI read2.1.Vlan, vU16 read2.1.Type_, z0]) (cs' := [vU8 read2.1.Dst.a0, vU8 read2.1.Dst.a1, vU8 read2.1.Dst.a2, vU8 read2.1.Dst.a3, vU8 read2.1.Dst.a4, vU8 read2.1.Dst.a5, vU8 read2.1.Src.a0, vU8 read2.1.Src.a1, vU8 read2.1.Src.a2, vU8 read2.1.Src.a3, vU8 read2.1.Src.a4, vU8 read2.1.Src.a5, vI read2.1.Vlan, vU16 read2.1.Type_, v4]) rfl rfl rfl rfl tyF26 (i := 2) rfl (is_row (i := 5) rfl) (fun _ _ _ => rfl) rfl rfl rfl) ?_
    refine Tops_step rfl (OpT_assign rfl rfl rfl rfl) ?_
    refine Tops_nil (Tk_wkS (fr' := [(6, some (.pointer (some ⟨b1, 0, none⟩))), (7, some (vI read2.2))]) (own' := [some (cellsR b_m 78 [vm1, vm2]), some (rowsX u8S true vm2 vsm1 m.b none), some (cellsR b1 26 [vU8 read2.1.Dst.a0, vU8 read2.1.Dst.a1, vU8 read2.1.Dst.a2, vU8 read2.1.Dst.a3, vU8 read2.1.Dst.a4, vU8 read2.1.Dst.a5, vU8 read2.1.Src.a0, vU8 read2.1.Src.a1, vU8 read2.1.Src.a2, vU8 read2.1.Src.a3, vU8 read2.1.Src.a4, vU8 read2.1.Src.a5, vI read2.1.Vlan, vU16 read2.1.Type_, v4]), some (rowS u8S v4 read2.1.Data)]) (shr' := [Fact.sl RegionS vm1 m.l]) [6, 7] [0, 1, 2, 5] [0] rfl rfl rfl rfl ?_)
    obtain rfl := Option.some.inj h
    exact Tk_retV rfl rfl (resA (vs := [.agg #[vU8 read2.1.Dst.a0, vU8 read2.1.Dst.a1, vU8 read2.1.Dst.a2, vU8 read2.1.Dst.a3, vU8 read2.1.Dst.a4, vU8 read2.1.Dst.a5, vU8 read2.1.Src.a0, vU8 read2.1.Src.a1, vU8 read2.1.Src.a2, vU8 read2.1.Src.a3, vU8 read2.1.Src.a4, vU8 read2.1.Src.a5, vI read2.1.Vlan, vU16 read2.1.Type_, v4], vI read2.2]) rfl ⟨⟨_, 2, _, _, _, rfl, rfl, .inl ⟨tyF26, rfl, rfl⟩⟩, rfl, trivial⟩) [0, 1, 3] [] rfl rfl rfl ⟨v4, rfl, rfl, rfl⟩

set_option maxRecDepth 100000 in
set_option maxHeartbeats 4000000 in
theorem w_kit_Frame {ap0 : Frame} {b : Frame} {vap01 : Value} {vb1 : Value} {r : Bool} (h : kit_Frame ap0 b = some r) :
  Ctr Try.prog 21 #[.agg #[vU8 ap0.Dst.a0, vU8 ap0.Dst.a1, vU8 ap0.Dst.a2, vU8 ap0.Dst.a3, vU8 ap0.Dst.a4, vU8 ap0.Dst.a5, vU8 ap0.Src.a0, vU8 ap0.Src.a1, vU8 ap0.Src.a2, vU8 ap0.Src.a3, vU8 ap0.Src.a4, vU8 ap0.Src.a5, vI ap0.Vlan, vU16 ap0.Type_, vap01], .agg #[vU8 b.Dst.a0, vU8 b.Dst.a1, vU8 b.Dst.a2, vU8 b.Dst.a3, vU8 b.Dst.a4, vU8 b.Dst.a5, vU8 b.Src.a0, vU8 b.Src.a1, vU8 b.Src.a2, vU8 b.Src.a3, vU8 b.Src.a4, vU8 b.Src.a5, vI b.Vlan, vU16 b.Type_, vb1]] [] [Fact.sl u8S vap01 ap0.Data, Fact.sl u8S vb1 b.Data]
   (fun rv own shr => rv = vB r ∧ own = [] ∧ shr = []) := by
 unfold kit_Frame at h
 refine Ctr.mk (args := [.agg #[vU8 ap0.Dst.a0, vU8 ap0.Dst.a1, vU8 ap0.Dst.a2, vU8 ap0.Dst.a3, vU8 ap0.Dst.a4, vU8 ap0.Dst.a5, vU8 ap0.Src.a0, vU8 ap0.Src.a1, vU8 ap0.Src.a2, vU8 ap0.Src.a3, vU8 ap0.Src.a4, vU8 ap0.Src.a5, vI ap0.Vlan, vU16 ap0.Type_, vap01], .agg #[vU8 b.Dst.a0, vU8 b.Dst.a1, vU8 b.Dst.a2, vU8 b.Dst.a3, vU8 b.Dst.a4, vU8 b.Dst.a5, vU8 b.Src.a0, vU8 b.Src.a1, vU8 b.Src.a2, vU8 b.Src.a3, vU8 b.Src.a4, vU8 b.Src.a5, vI b.Vlan, vU16 b.Type_, vb1]]) Try.func21 rfl rfl (fun R0 w0 B => ?_)
 refine Tk_seq (Tk_region (Tops_ex rfl (OpT_box rfl rfl rfl rfl) fun b1 => ?_))
 refine Tops_ex rfl (OpT_box rfl rfl rfl rfl) fun b2 => ?_
 refine Tops_step rfl (OpT_assign rfl rfl rfl rfl) ?_
 refine Tops_nil (Tk_wkS (fr' := [(2, some (.pointer (some ⟨b1, 0, none⟩))), (3, some (.pointer (some ⟨b2, 0, none⟩)))]) (own' := [some (cellsR b1 26 [vU8 ap0.Dst.a0, vU8 ap0.Dst.a1, vU8 ap0.Dst.a2, vU8 ap0.Dst.a3, vU8 ap0.Dst.a4, vU8 ap0.Dst.a5, vU8 ap0.Src.a0, vU8 ap0.Src.a1, vU8 ap0.Src.a2, vU8 ap0.Src.a3, vU8 ap0.Src.a4, vU8 ap0.Src.a5, vI ap0.Vlan, vU16 ap0.Type_, vap01]), some (cellsR b2 26 [vU8 b.Dst.a0, vU8 b.Dst.a1, vU8 b.Dst.a2, vU8 b.Dst.a3, vU8 b.Dst.a4, vU8 b.Dst.a5, vU8 b.Src.a0, vU8 b.Src.a1, vU8 b.Src.a2, vU8 b.Src.a3, vU8 b.Src.a4, vU8 b.Src.a5, vI b.Vlan, vU16 b.Type_, vb1])]) (shr' := [Fact.sl u8S vap01 ap0.Data, Fact.sl u8S vb1 b.Data]) [2, 3] [0, 1] [0, 1] rfl rfl rfl rfl ?_)
 refine Tk_seq (Tk_region (Tops_step rfl (OpT_fieldC rfl rfl rfl rfl fldF26x0) ?_))
 refine Tops_step rfl (OpT_loadCA (vs := [vU8 ap0.Dst.a0, vU8 ap0.Dst.a1, vU8 ap0.Dst.a2, vU8 ap0.Dst.a3, vU8 ap0.Dst.a4, vU8 ap0.Dst.a5]) rfl rfl rfl rfl tyF22 (i := 0) rfl rfl rfl) ?_
 refine Tops_step rfl (OpT_fieldC rfl rfl rfl rfl fldF26x0) ?_
 refine Tops_step rfl (OpT_loadCA (vs := [vU8 b.Dst.a0, vU8 b.Dst.a1, vU8 b.Dst.a2, vU8 b.Dst.a3, vU8 b.Dst.a4, vU8 b.Dst.a5]) rfl rfl rfl rfl tyF22 (i := 1) rfl rfl rfl) ?_
 refine Tops_step rfl (OpT_bin rfl rfl rfl rfl rfl (eqT22_eql ap0.Dst b.Dst)) ?_
 refine Tops_step rfl (OpT_move rfl rfl rfl rfl) ?_
 rcases Bool.eq_false_or_eq_true (ap0.Dst == b.Dst) with hg1 | hg1
 ·replace h := br_t hg1 h
  refine Tops_yes rfl rfl (congrArg (fun b => some (Value.bool b)) hg1) (OpT_fieldC rfl rfl rfl rfl fldF26x1) ?_
  rintro _ rfl
  refine Tops_yes rfl rfl (congrArg (fun b => some (Value.bool b)) hg1) (OpT_loadCA (vs := [vU8 ap0.Src.a0, vU8 ap0.Src.a1, vU8 ap0.Src.a2, vU8 ap0.Src.a3, vU8 ap0.Src.a4, vU8 ap0.Src.a5]) rfl rfl rfl rfl tyF22 (i := 0) rfl rfl rfl) ?_
  rintro _ rfl
  refine Tops_yes rfl rfl (congrArg (fun b => some (Value.bool b)) hg1) (OpT_fieldC rfl rfl rfl rfl fldF26x1) ?_
  rintro _ rfl
  refine Tops_yes rfl rfl (congrArg (fun b => some (Value.bool b)) hg1) (OpT_loadCA (vs := [vU8 b.Src.a0, vU8 b.Src.a1, vU8 b.Src.a2, vU8 b.Src.a3, vU8 b.Src.a4, vU8 b.Src.a5]) rfl rfl rfl rfl tyF22 (i := 1) rfl rfl rfl) ?_
  rintro _ rfl
  refine Tops_yes rfl rfl (congrArg (fun b => some (Value.bool b)) hg1) (OpT_bin rfl rfl rfl rfl rfl (eqT22_eql ap0.Src b.Src)) ?_
  rintro _ rfl
  refine Tops_step rfl (OpT_pickT rfl rfl rfl (congrArg (fun b => some (Value.bool b)) hg1) rfl) ?_
  refine Tops_step rfl (OpT_move rfl rfl rfl rfl) ?_
  rcases Bool.eq_false_or_eq_true (ap0.Src == b.Src) with hg2 | hg2
  ·replace h := br_t hg2 h
   refine Tops_yes rfl rfl (congrArg (fun b => some (Value.bool b)) hg2) (OpT_fieldC rfl rfl rfl rfl fldF26x2) ?_
   rintro _ rfl
   refine Tops_yes rfl rfl (congrArg (fun b => some (Value.bool b)) hg2) (OpT_loadC rfl rfl rfl rfl tyF3 (i := 0) rfl rfl) ?_
   rintro _ rfl
   refine Tops_yes rfl rfl (congrArg (fun b => some (Value.bool b)) hg2) (OpT_fieldC rfl rfl rfl rfl fldF26x2) ?_
   rintro _ rfl
   refine Tops_yes rfl rfl (congrArg (fun b => some (Value.bool b)) hg2) (OpT_loadC rfl rfl rfl rfl tyF3 (i := 1) rfl rfl) ?_
   rintro _ rfl
   refine Tops_yes rfl rfl (congrArg (fun b => some (Value.bool b)) hg2) (OpT_bin rfl rfl rfl rfl rfl (bin_eql_i (a := ap0.Vlan) (b := b.Vlan))) ?_
   rintro _ rfl
   refine Tops_step rfl (OpT_pickT rfl rfl rfl (congrArg (fun b => some (Value.bool b)) hg2) rfl) ?_
   refine Tops_step rfl (OpT_move rfl rfl rfl rfl) ?_
   rcases Bool.eq_false_or_eq_true (ap0.Vlan == b.Vlan) with hg3 | hg3
   ·replace h := br_t hg3 h
    refine Tops_yes rfl rfl (congrArg (fun b => some (Value.bool b)) hg3) (OpT_fieldC rfl rfl rfl rfl fldF26x3) ?_
    rintro _ rfl
    refine Tops_yes rfl rfl (congrArg (fun b => some (Value.bool b)) hg3) (OpT_loadC rfl rfl rfl rfl tyF23 (i := 0) rfl rfl) ?_
    rintro _ rfl
    refine Tops_yes rfl rfl (congrArg (fun b => some (Value.bool b)) hg3) (OpT_fieldC rfl rfl rfl rfl fldF26x3) ?_
    rintro _ rfl
    refine Tops_yes rfl rfl (congrArg (fun b => some (Value.bool b)) hg3) (OpT_loadC rfl rfl rfl rfl tyF23 (i := 1) rfl rfl) ?_
    rintro _ rfl
    refine Tops_yes rfl rfl (congrArg (fun b => some (Value.bool b)) hg3) (OpT_bin rfl rfl rfl rfl rfl (bin_eql_u16 (a := ap0.Type_) (b := b.Type_))) ?_
    rintro _ rfl
    refine Tops_step rfl (OpT_pickT rfl rfl rfl (congrArg (fun b => some (Value.bool b)) hg3) rfl) ?_
    refine Tops_step rfl (OpT_move rfl rfl rfl rfl) ?_
    rcases Bool.eq_false_or_eq_true (ap0.Type_ == b.Type_) with hg4 | hg4
    ·replace h := br_t hg4 h
     refine Tops_yes rfl rfl (congrArg (fun b => some (Value.bool b)) hg4) (OpT_fieldC rfl rfl rfl rfl fldF26x4) ?_
     rintro _ rfl
     refine Tops_yes rfl rfl (congrArg (fun b => some (Value.bool b)) hg4) (OpT_loadC rfl rfl rfl rfl tyF24 (i := 0) rfl rfl) ?_
     rintro _ rfl
     refine Tops_yes rfl rfl (congrArg (fun b => some (Value.bool b)) hg4) (OpT_strS rfl rfl rfl rfl Try.underlying24 Try.underlying5 Try.underlying9 (i := 0) rfl) ?_
     rintro _ rfl
     refine Tops_yes rfl rfl (congrArg (fun b => some (Value.bool b)) hg4) (OpT_fieldC rfl rfl rfl rfl fldF26x4) ?_
     rintro _ rfl
     refine Tops_yes rfl rfl (congrArg (fun b => some (Value.bool b)) hg4) (OpT_loadC rfl rfl rfl rfl tyF24 (i := 1) rfl rfl) ?_
     rintro _ rfl
     refine Tops_yes rfl rfl (congrArg (fun b => some (Value.bool b)) hg4) (OpT_strS rfl rfl rfl rfl Try.underlying24 Try.underlying5 Try.underlying9 (i := 1) rfl) ?_
     rintro _ rfl
     refine Tops_yes rfl rfl (congrArg (fun b => some (Value.bool b)) hg4) (OpT_bin rfl rfl rfl rfl rfl (bin_eql_s (a := ap0.Data) (b := b.Data))) ?_
     rintro _ rfl
     refine Tops_step rfl (OpT_pickT rfl rfl rfl (congrArg (fun b => some (Value.bool b)) hg4) rfl) ?_
     refine Tops_step rfl (OpT_assign rfl rfl rfl rfl) ?_
     refine Tops_nil (Tk_wkS (fr' := [(4, some (vB (ap0.Data == b.Data)))]) (own' := []) (shr' := []) [4] [] [] rfl rfl rfl rfl ?_)
     obtain rfl := Option.some.inj h
     exact Tk_retV rfl rfl (resA (vs := [vB (ap0.Data == b.Data)]) rfl ⟨rfl, trivial⟩) [] [] rfl rfl rfl ⟨rfl, rfl, rfl⟩
    ·replace h := br_f hg4 h
     refine Tops_no rfl rfl (congrArg (fun b => some (Value.bool b)) hg4) rfl rfl ?_
     refine Tops_no rfl rfl (congrArg (fun b => some (Value.bool b)) hg4) rfl rfl ?_
     refine Tops_no rfl rfl (congrArg (fun b => some (Value.bool b)) hg4) rfl rfl ?_
     refine Tops_no rfl rfl (congrArg (fun b => some (Value.bool b)) hg4) rfl rfl ?_
     refine Tops_no rfl rfl (congrArg (fun b => some (Value.bool b)) hg4) rfl rfl ?_
     refine Tops_no rfl rfl (congrArg (fun b => some (Value.bool b)) hg4) rfl rfl ?_
     refine Tops_no rfl rfl (congrArg (fun b => some (Value.bool b)) hg4) rfl rfl ?_
     refine Tops_step rfl (OpT_pickF rfl rfl rfl (congrArg (fun b => some (Value.bool b)) hg4) rfl) ?_
     refine Tops_step rfl (OpT_assign rfl rfl rfl rfl) ?_
     refine Tops_nil (Tk_wkS (fr' := [(4, some (vB false))]) (own' := []) (shr' := []) [4] [] [] rfl rfl rfl rfl ?_)
     obtain rfl := Option.some.inj h
     exact Tk_retV rfl rfl (resA (vs := [vB false]) rfl ⟨rfl, trivial⟩) [] [] rfl rfl rfl ⟨rfl, rfl, rfl⟩
   ·replace h := br_f hg3 h
    refine Tops_no rfl rfl (congrArg (fun b => some (Value.bool b)) hg3) rfl rfl ?_
    refine Tops_no rfl rfl (congrArg (fun b => some (Value.bool b)) hg3) rfl rfl ?_
    refine Tops_no rfl rfl (congrArg (fun b => some (Value.bool b)) hg3) rfl rfl ?_
    refine Tops_no rfl rfl (congrArg (fun b => some (Value.bool b)) hg3) rfl rfl ?_
    refine Tops_no rfl rfl (congrArg (fun b => some (Value.bool b)) hg3) rfl rfl ?_
    refine Tops_step rfl (OpT_pickF rfl rfl rfl (congrArg (fun b => some (Value.bool b)) hg3) rfl) ?_
    refine Tops_step rfl (OpT_move rfl rfl rfl rfl) ?_
    refine Tops_no rfl rfl rfl rfl rfl ?_
    refine Tops_no rfl rfl rfl rfl rfl ?_
    refine Tops_no rfl rfl rfl rfl rfl ?_
    refine Tops_no rfl rfl rfl rfl rfl ?_
    refine Tops_no rfl rfl rfl rfl rfl ?_
    refine Tops_no rfl rfl rfl rfl rfl ?_
    refine Tops_no rfl rfl rfl rfl rfl ?_
    refine Tops_step rfl (OpT_pickF rfl rfl rfl rfl rfl) ?_
    refine Tops_step rfl (OpT_assign rfl rfl rfl rfl) ?_
    refine Tops_nil (Tk_wkS (fr' := [(4, some (vB false))]) (own' := []) (shr' := []) [4] [] [] rfl rfl rfl rfl ?_)
    obtain rfl := Option.some.inj h
    exact Tk_retV rfl rfl (resA (vs := [vB false]) rfl ⟨rfl, trivial⟩) [] [] rfl rfl rfl ⟨rfl, rfl, rfl⟩
  ·replace h := br_f hg2 h
   refine Tops_no rfl rfl (congrArg (fun b => some (Value.bool b)) hg2) rfl rfl ?_
   refine Tops_no rfl rfl (congrArg (fun b => some (Value.bool b)) hg2) rfl rfl ?_
   refine Tops_no rfl rfl (congrArg (fun b => some (Value.bool b)) hg2) rfl rfl ?_
   refine Tops_no rfl rfl (congrArg (fun b => some (Value.bool b)) hg2) rfl rfl ?_
   refine Tops_no rfl rfl (congrArg (fun b => some (Value.bool b)) hg2) rfl rfl ?_
   refine Tops_step rfl (OpT_pickF rfl rfl rfl (congrArg (fun b => some (Value.bool b)) hg2) rfl) ?_
   refine Tops_step rfl (OpT_move rfl rfl rfl rfl) ?_
   refine Tops_no rfl rfl rfl rfl rfl ?_
   refine Tops_no rfl rfl rfl rfl rfl ?_
   refine Tops_no rfl rfl rfl rfl rfl ?_
   refine Tops_no rfl rfl rfl rfl rfl ?_
   refine Tops_no rfl rfl rfl rfl rfl ?_
   refine Tops_step rfl (OpT_pickF rfl rfl rfl rfl rfl) ?_
   refine Tops_step rfl (OpT_move rfl rfl rfl rfl) ?_
   refine Tops_no rfl rfl rfl rfl rfl ?_
   refine Tops_no rfl rfl rfl rfl rfl ?_
   refine Tops_no rfl rfl rfl rfl rfl ?_
   refine Tops_no rfl rfl rfl rfl rfl ?_
   refine Tops_no rfl rfl rfl rfl rfl ?_
   refine Tops_no rfl rfl rfl rfl rfl ?_
   refine Tops_no rfl rfl rfl rfl rfl ?_
   refine Tops_step rfl (OpT_pickF rfl rfl rfl rfl rfl) ?_
   refine Tops_step rfl (OpT_assign rfl rfl rfl rfl) ?_
   refine Tops_nil (Tk_wkS (fr' := [(4, some (vB false))]) (own' := []) (shr' := []) [4] [] [] rfl rfl rfl rfl ?_)
   obtain rfl := Option.some.inj h
   exact Tk_retV rfl rfl (resA (vs := [vB false]) rfl ⟨rfl, trivial⟩) [] [] rfl rfl rfl ⟨rfl, rfl, rfl⟩
 ·replace h := br_f hg1 h
  refine Tops_no rfl rfl (congrArg (fun b => some (Value.bool b)) hg1) rfl rfl ?_
  refine Tops_no rfl rfl (congrArg (fun b => some (Value.bool b)) hg1) rfl rfl ?_
  refine Tops_no rfl rfl (congrArg (fun b => some (Value.bool b)) hg1) rfl rfl ?_
  refine Tops_no rfl rfl (congrArg (fun b => some (Value.bool b)) hg1) rfl rfl ?_
  refine Tops_no rfl rfl (congrArg (fun b => some (Value.bool b)) hg1) rfl rfl ?_
  refine Tops_step rfl (OpT_pickF rfl rfl rfl (congrArg (fun b => some (Value.bool b)) hg1) rfl) ?_
  refine Tops_step rfl (OpT_move rfl rfl rfl rfl) ?_
  refine Tops_no rfl rfl rfl rfl rfl ?_
  refine Tops_no rfl rfl rfl rfl rfl ?_
  refine Tops_no rfl rfl rfl rfl rfl ?_
  refine Tops_no rfl rfl rfl rfl rfl ?_
  refine Tops_no rfl rfl rfl rfl rfl ?_
  refine Tops_step rfl (OpT_pickF rfl rfl rfl rfl rfl) ?_
  refine Tops_step rfl (OpT_move rfl rfl rfl rfl) ?_
  refine Tops_no rfl rfl rfl rfl rfl ?_
  refine Tops_no rfl rfl rfl rfl rfl ?_
  refine Tops_no rfl rfl rfl rfl rfl ?_
  refine Tops_no rfl rfl rfl rfl rfl ?_
  refine Tops_no rfl rfl rfl rfl rfl ?_
  refine Tops_step rfl (OpT_pickF rfl rfl rfl rfl rfl) ?_
  refine Tops_step rfl (OpT_move rfl rfl rfl rfl) ?_
  refine Tops_no rfl rfl rfl rfl rfl ?_
  refine Tops_no rfl rfl rfl rfl rfl ?_
  refine Tops_no rfl rfl rfl rfl rfl ?_
  refine Tops_no rfl rfl rfl rfl rfl ?_
  refine Tops_no rfl rfl rfl rfl rfl ?_
  refine Tops_no rfl rfl rfl rfl rfl ?_
  refine Tops_no rfl rfl rfl rfl rfl ?_
  refine Tops_step rfl (OpT_pickF rfl rfl rfl rfl rfl) ?_
  refine Tops_step rfl (OpT_assign rfl rfl rfl rfl) ?_
  refine Tops_nil (Tk_wkS (fr' := [(4, some (vB false))]) (own' := []) (shr' := []) [4] [] [] rfl rfl rfl rfl ?_)
  obtain rfl := Option.some.inj h
  exact Tk_retV rfl rfl (resA (vs := [vB false]) rfl ⟨rfl, trivial⟩) [] [] rfl rfl rfl ⟨rfl, rfl, rfl⟩

set_option maxRecDepth 100000 in
set_option maxHeartbeats 4000000 in
theorem w_ref_Sum23 {b : List UInt8} {vb1 : Value} {r : UInt16} (h : ref_Sum23 b = some r) :
  Ctr Try.prog 22 #[vb1] [] [Fact.sl u8S vb1 b]
   (fun rv own shr => rv = vU16 r ∧ own = [] ∧ shr = []) := by
 unfold ref_Sum23 at h
 refine Ctr.mk (args := [vb1]) Try.func22 rfl rfl (fun R0 w0 B => ?_)
 refine Tk_seq (Tk_region (Tops_step rfl (OpT_assign rfl rfl rfl rfl) ?_))
 refine Tops_nil (Tk_wkS (fr' := [(0, some (vb1))]) (own' := []) (shr' := [Fact.sl u8S vb1 b]) [0] [] [0] rfl rfl rfl rfl ?_)
 refine Tk_seq (Tk_region (Tops_step rfl (OpT_assign rfl rfl rfl rfl) ?_))
 refine Tops_nil (Tk_seq (Tk_seq (Tk_region (Tops_step rfl (OpT_assign rfl rfl rfl rfl) ?_))))
 refine Tops_nil (Tk_block (Tk_loopS (σ := UInt64 × Int) [0, 3, 4] [] [0] (fun s => ⟨[(0, some (vb1)), (3, some (vU64 s.1)), (4, some (vI s.2))], [], [Fact.sl u8S vb1 b]⟩) (fun nf1 s => ref_Sum23L1 b nf1 s.1 s.2 = some r) fuel ((0 : UInt64), (0 : Int)) h rfl rfl rfl rfl rfl (fun s h => by cases h) ?_))
 rintro nf1 ⟨n1, i1⟩ h
 replace h : ref_Sum23L1B b (ref_Sum23L1 b nf1) n1 i1 = some r := h
 unfold ref_Sum23L1B at h
 refine Tk_seq (Tk_seq (Tk_region (Tops_step rfl (OpT_move rfl rfl rfl rfl) ?_)))
 refine Tops_step rfl (OpT_move rfl rfl rfl rfl) ?_
 refine Tops_step rfl (OpT_lenS rfl rfl rfl rfl Try.underlying24 (i := 0) rfl) ?_
 refine Tops_step rfl (OpT_bin rfl rfl rfl rfl rfl (bin_lss_i (a := i1) (b := len b))) ?_
 refine Tops_nil (Tk_wkS (fr' := [(0, some (vb1)), (3, some (vU64 n1)), (4, some (vI i1)), (8, some (vB (decide (i1 < (len b)))))]) (own' := []) (shr' := [Fact.sl u8S vb1 b]) [0, 3, 4, 8] [] [0] rfl rfl rfl rfl ?_)
 rcases Bool.eq_false_or_eq_true (decide (i1 < (len b))) with hg1 | hg1
 ·replace h := br_t hg1 h
  refine Tk_condT (congrArg (fun b => some (Value.bool b)) hg1) ?_
  refine Tk_skip (Tk_seq (Tk_join (α := UInt64) (fun s => ⟨[(0, some (vb1)), (3, some (vU64 s)), (4, some (vI i1))], [], [Fact.sl u8S vb1 b]⟩) (fun s => ref_Sum23J2 i1 (ref_Sum23L1 b nf1) s = some r) ?_ ?_))
  ·rintro n2 h
   replace h : ref_Sum23J2 i1 (ref_Sum23L1 b nf1) n2 = some r := h
   unfold ref_Sum23J2 at h
   refine Tk_region (Tops_step rfl (OpT_move rfl rfl rfl rfl) ?_)
   refine Tops_step rfl (OpT_bin rfl rfl rfl rfl rfl (bin_add_i (a := i1) (b := (2 : Int)))) ?_
   refine Tops_step rfl (OpT_assign rfl rfl rfl rfl) ?_
   refine Tops_nil (Tk_wkS (fr' := [(0, some (vb1)), (3, some (vU64 n2)), (4, some (vI (wi (i1 + (2 : Int)))))]) (own' := []) (shr' := [Fact.sl u8S vb1 b]) [0, 3, 4] [] [0] rfl rfl rfl rfl ?_)
   exact Tk_backS (n2, wi (i1 + (2 : Int))) h [0, 3, 4] [] [0] rfl rfl rfl rfl rfl
  ·intro HJ1
   refine Tk_block (Tk_seq (Tk_region (Tops_step rfl (OpT_move rfl rfl rfl rfl) ?_)))
   refine Tops_step rfl (OpT_move rfl rfl rfl rfl) ?_
   refine Tops_step rfl (OpT_move rfl rfl rfl rfl) ?_
   obtain ⟨y1, hx1, h⟩ := ob_e h
   refine Tops_ex rfl (OpT_idxS rfl rfl rfl rfl rfl slF24 (i := 0) rfl hx1) fun p1 => ?_
   refine Tops_step rfl (OpT_loadP rfl rfl rfl rfl tyF5 (i := 1) rfl rfl) ?_
   refine Tops_step rfl (OpT_cnv rfl rfl rfl rfl (cnv_u8_u64 (n := y1) Try.underlying5 Try.underlying28)) ?_
   refine Tops_step rfl (OpT_bin rfl rfl rfl rfl rfl (bin_shl_u64_u64 (a := y1.toUInt64) (n := (8 : UInt64)))) ?_
   refine Tops_step rfl (OpT_bin rfl rfl rfl rfl rfl (bin_add_u64 (a := n1) (b := shl64 y1.toUInt64 ((8 : UInt64).toNat)))) ?_
   refine Tops_step rfl (OpT_assign rfl rfl rfl rfl) ?_
   refine Tops_nil (Tk_wkS (fr' := [(0, some (vb1)), (3, some (vU64 (n1 + (shl64 y1.toUInt64 ((8 : UInt64).toNat))))), (4, some (vI i1))]) (own' := []) (shr' := [Fact.sl u8S vb1 b]) [0, 3, 4] [] [0] rfl rfl rfl rfl ?_)
   refine Tk_seq (Tk_region (Tops_step rfl (OpT_move rfl rfl rfl rfl) ?_))
   refine Tops_step rfl (OpT_bin rfl rfl rfl rfl rfl (bin_add_i (a := i1) (b := (1 : Int)))) ?_
   refine Tops_step rfl (OpT_move rfl rfl rfl rfl) ?_
   refine Tops_step rfl (OpT_lenS rfl rfl rfl rfl Try.underlying24 (i := 0) rfl) ?_
   refine Tops_step rfl (OpT_bin rfl rfl rfl rfl rfl (bin_lss_i (a := wi (i1 + (1 : Int))) (b := len b))) ?_
   refine Tops_nil (Tk_wkS (fr' := [(0, some (vb1)), (3, some (vU64 (n1 + (shl64 y1.toUInt64 ((8 : UInt64).toNat))))), (4, some (vI i1)), (23, some (vB (decide ((wi (i1 + (1 : Int))) < (len b)))))]) (own' := []) (shr' := [Fact.sl u8S vb1 b]) [0, 3, 4, 23] [] [0] rfl rfl rfl rfl ?_)
   refine Tk_join (α := UInt64) (fun s => ⟨[(0, some (vb1)), (3, some (vU64 s)), (4, some (vI i1))], [], [Fact.sl u8S vb1 b]⟩) (fun s => ref_Sum23J3 i1 (ref_Sum23L1 b nf1) s = some r) ?_ ?_
   ·rintro n3 h
    replace h : ref_Sum23J3 i1 (ref_Sum23L1 b nf1) n3 = some r := h
    unfold ref_Sum23J3 at h
    refine Tk_blk ?_
    exact Tk_jmpS (HJ1 n3 h) [0, 3, 4] [] [0] rfl rfl rfl rfl
   ·intro HJ2
    rcases Bool.eq_false_or_eq_true (decide ((wi (i1 + (1 : Int))) < (len b))) with hg2 | hg2
    ·replace h := br_t hg2 h
     refine Tk_condT (congrArg (fun b => some (Value.bool b)) hg2) ?_
     refine Tk_region (Tops_step rfl (OpT_move rfl rfl rfl rfl) ?_)
     refine Tops_step rfl (OpT_move rfl rfl rfl rfl) ?_
     refine Tops_step rfl (OpT_move rfl rfl rfl rfl) ?_
     refine Tops_step rfl (OpT_bin rfl rfl rfl rfl rfl (bin_add_i (a := i1) (b := (1 : Int)))) ?_
     obtain ⟨y2, hx2, h⟩ := ob_e h
     refine Tops_ex rfl (OpT_idxS rfl rfl rfl rfl rfl slF24 (i := 0) rfl hx2) fun p2 => ?_
     refine Tops_step rfl (OpT_loadP rfl rfl rfl rfl tyF5 (i := 1) rfl rfl) ?_
     refine Tops_step rfl (OpT_cnv rfl rfl rfl rfl (cnv_u8_u64 (n := y2) Try.underlying5 Try.underlying28)) ?_
     refine Tops_step rfl (OpT_bin rfl rfl rfl rfl rfl (bin_add_u64 (a := n1 + (shl64 y1.toUInt64 ((8 : UInt64).toNat))) (b := y2.toUInt64))) ?_
     refine Tops_step rfl (OpT_assign rfl rfl rfl rfl) ?_
     refine Tops_nil (Tk_wkS (fr' := [(0, some (vb1)), (3, some (vU64 ((n1 + (shl64 y1.toUInt64 ((8 : UInt64).toNat))) + y2.toUInt64))), (4, some (vI i1))]) (own' := []) (shr' := [Fact.sl u8S vb1 b]) [0, 3, 4] [] [0] rfl rfl rfl rfl ?_)
     exact Tk_jmpS (HJ2 ((n1 + (shl64 y1.toUInt64 ((8 : UInt64).toNat))) + y2.toUInt64) h) [0, 3, 4] [] [0] rfl rfl rfl rfl
    ·replace h := br_f hg2 h
     refine Tk_condF (congrArg (fun b => some (Value.bool b)) hg2) ?_
     refine Tk_skip ?_
     exact Tk_jmpS (HJ2 (n1 + (shl64 y1.toUInt64 ((8 : UInt64).toNat))) h) [0, 3, 4] [] [0] rfl rfl rfl rfl
 ·replace h := br_f hg1 h
  refine Tk_condF (congrArg (fun b => some (Value.bool b)) hg1) ?_
  refine Tk_exit _ rfl ?_
  refine Tk_seq (Tk_block (Tk_loopS (σ := UInt64) [3] [] [] (fun s => ⟨[(3, some (vU64 s))], [], []⟩) (fun nf4 s => ref_Sum23L4 nf4 s = some r) fuel n1 h rfl rfl rfl rfl rfl (fun s h => by cases h) ?_))
  rintro nf4 n4 h
  replace h : ref_Sum23L4B (ref_Sum23L4 nf4) n4 = some r := h
  unfold ref_Sum23L4B at h
  refine Tk_seq (Tk_seq (Tk_region (Tops_step rfl (OpT_move rfl rfl rfl rfl) ?_)))
  refine Tops_step rfl (OpT_bin rfl rfl rfl rfl rfl (bin_gtr_u64 (a := n4) (b := (65535 : UInt64)))) ?_
  refine Tops_nil (Tk_wkS (fr' := [(3, some (vU64 n4)), (33, some (vB (decide (n4 > (65535 : UInt64)))))]) (own' := []) (shr' := []) [3, 33] [] [] rfl rfl rfl rfl ?_)
  rcases Bool.eq_false_or_eq_true (decide (n4 > (65535 : UInt64))) with hg3 | hg3
  ·replace h := br_t hg3 h
   refine Tk_condT (congrArg (fun b => some (Value.bool b)) hg3) ?_
   refine Tk_skip (Tk_block (Tk_region (Tops_step rfl (OpT_move rfl rfl rfl rfl) ?_)))
   refine Tops_step rfl (OpT_bin rfl rfl rfl rfl rfl (bin_rem_u64 (a := n4) (b := (65536 : UInt64)) rfl)) ?_
   refine Tops_step rfl (OpT_move rfl rfl rfl rfl) ?_
   refine Tops_step rfl (OpT_bin rfl rfl rfl rfl rfl (bin_quo_u64 (a := n4) (b := (65536 : UInt64)) rfl)) ?_
   refine Tops_step rfl (OpT_bin rfl rfl rfl rfl rfl (bin_add_u64 (a := n4 % (65536 : UInt64)) (b := n4 / (65536 : UInt64)))) ?_
   refine Tops_step rfl (OpT_assign rfl rfl rfl rfl) ?_
   refine Tops_nil (Tk_wkS (fr' := [(3, some (vU64 ((n4 % (65536 : UInt64)) + (n4 / (65536 : UInt64)))))]) (own' := []) (shr' := []) [3] [] [] rfl rfl rfl rfl ?_)
   refine Tk_blk ?_
   exact Tk_backS ((n4 % (65536 : UInt64)) + (n4 / (65536 : UInt64))) h [3] [] [] rfl rfl rfl rfl rfl
  ·replace h := br_f hg3 h
   refine Tk_condF (congrArg (fun b => some (Value.bool b)) hg3) ?_
   refine Tk_exit _ rfl ?_
   refine Tk_seq (Tk_region (Tops_step rfl (OpT_move rfl rfl rfl rfl) ?_))
   refine Tops_step rfl (OpT_cnv rfl rfl rfl rfl (cnv_u64_u16 (n := n4) Try.underlying28 Try.underlying23)) ?_
   refine Tops_step rfl (OpT_xor_u16 (z := n4.toUInt16) rfl rfl rfl rfl) ?_
   refine Tops_step rfl (OpT_assign rfl rfl rfl rfl) ?_
   refine Tops_nil (Tk_wkS (fr' := [(2, some (vU16 (~~~n4.toUInt16)))]) (own' := []) (shr' := []) [2] [] [] rfl rfl rfl rfl ?_)
   obtain rfl := Option.some.inj h
   exact Tk_retV rfl rfl (resA (vs := [vU16 (~~~n4.toUInt16)]) rfl ⟨rfl, trivial⟩) [] [] rfl rfl rfl ⟨rfl, rfl, rfl⟩

end Go.Proofs.Ytdaijemhibbgeaa
