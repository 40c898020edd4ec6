/- The functions do what the plain words say: each is walked once. No statement of the seat is proved here; no condition. -/
import Derived.Test.YtgcbcnpbnonnjaaWa5
namespace Go.Proofs.Ytgcbcnpbnonnjaa
attribute [local irreducible] sub
set_option maxRecDepth 100000 in
set_option maxHeartbeats 4000000 in
theorem w_law26zmemory  {r : (List Region)} (h : law26zmemory = some r) :
  Ctr Try.prog 12 #[] [] []
   (fun rv own shr => ∃ (w1 : Value), rv = w1 ∧ own = [(rowS RegionS w1 r)] ∧ shr = []) := by
 unfold law26zmemory at h
 refine Ctr.mk (args := []) Try.func12 rfl rfl (fun R0 w0 B => ?_)
 refine Tk_seq (Tk_region (Tops_step rfl (OpT_assign rfl rfl rfl rfl) ?_))
 refine Tops_nil (Tk_wkS (fr' := []) (own' := []) (shr' := []) [] [] [] rfl rfl rfl rfl ?_)
 refine Tk_seq (Tk_region (Tops_step rfl (OpT_build (v := .agg #[vU64 (0 : UInt64), vU64 (32768 : UInt64)]) rfl rfl rfl rfl (bldV (by kernel_rfl))) ?_))
 refine Tops_ex rfl (OpT_buildSlice (S := RegionS) (xs := [(Region.mk (0 : UInt64) (32768 : UInt64))]) (css := [[vU64 (0 : UInt64), vU64 (32768 : UInt64)]]) (cs := [vU64 (0 : UInt64), vU64 (32768 : UInt64)]) (e := 75) rfl rfl rfl rfl (bldF slF42 (by decide) (by kernel_rfl)) rfl rfl rfl rfl (rel_plainD (S := RegionS) (xs := [(Region.mk (0 : UInt64) (32768 : UInt64))]) (css := [[vU64 (0 : UInt64), vU64 (32768 : UInt64)]]) rfl rfl)) fun v1 => ?_
 refine Tops_step rfl (OpT_assign rfl rfl rfl rfl) ?_
 refine Tops_nil (Tk_wkS (fr' := [(0, some (v1))]) (own' := [some (rowS RegionS v1 [(Region.mk (0 : UInt64) (32768 : UInt64))])]) (shr' := []) [0] [0] [] rfl rfl rfl rfl ?_)
 obtain rfl := Option.some.inj h
 exact Tk_retV rfl rfl (resA (vs := [v1]) rfl ⟨rfl, trivial⟩) [0] [] rfl rfl rfl ⟨v1, rfl, rfl, rfl⟩

set_option maxRecDepth 100000 in
set_option maxHeartbeats 4000000 in
theorem w_kit_Segs {l : List Seg} {vl1 : Value} {r : (List Seg)} (h : kit_Segs l = some r) :
  Ctr Try.prog 52 #[vl1] [] [Fact.sl SegS vl1 l]
   (fun rv own shr => ∃ (w1 : Value), rv = w1 ∧ own = [(rowS SegS w1 r)] ∧ shr = []) := by
 unfold kit_Segs at h
 refine Ctr.mk (args := [vl1]) Try.func52 rfl rfl (fun R0 w0 B => ?_)
 refine Tk_seq (Tk_region (Tops_step rfl (OpT_assign rfl rfl rfl rfl) ?_))
 refine Tops_nil (Tk_wkS (fr' := [(0, some (vl1))]) (own' := []) (shr' := [Fact.sl SegS vl1 l]) [0] [] [0] rfl rfl rfl rfl ?_)
 refine Tk_seq (Tk_region (Tops_ex rfl (OpT_buildSlice (S := SegS) (xs := ([] : List Seg)) (css := []) (cs := []) (e := 29) rfl rfl rfl rfl (bldF slF25 (by decide) (by kernel_rfl)) rfl rfl rfl rfl (rel_plainD (S := SegS) (xs := ([] : List Seg)) (css := []) rfl rfl)) fun v1 => ?_))
 refine Tops_step rfl (OpT_move rfl rfl rfl rfl) ?_
 obtain ⟨hc1, h⟩ := chk_e h
 refine Tops_ex rfl (OpT_append rfl rfl rfl rfl rfl slF25 (i := 0) (j := 0) rfl rfl hc1) fun v2 => ?_
 refine Tops_step rfl (OpT_assign rfl rfl rfl rfl) ?_
 refine Tops_nil (Tk_wkS (fr' := [(2, some (v2))]) (own' := [some (rowS SegS v2 l)]) (shr' := []) [2] [0] [] rfl rfl rfl rfl ?_)
 obtain rfl := Option.some.inj h
 exact Tk_retV rfl rfl (resA (vs := [v2]) rfl ⟨rfl, trivial⟩) [0] [] rfl rfl rfl ⟨v2, rfl, rfl, rfl⟩

set_option maxRecDepth 100000 in
set_option maxHeartbeats 4000000 in
theorem w_kit_Bufs {l : List (List Seg)} {vl1 : Value} {r : (List (List Seg))} (h : kit_Bufs l = some r) :
  Ctr Try.prog 27 #[vl1] [] [Fact.sl (Shape.slice SegS) vl1 l]
   (fun rv own shr => ∃ (w1 : Value), rv = w1 ∧ own = [(rowS (Shape.slice SegS) w1 r)] ∧ shr = []) := by
 unfold kit_Bufs at h
 refine Ctr.mk (args := [vl1]) Try.func27 rfl rfl (fun R0 w0 B => ?_)
 refine Tk_seq (Tk_region (Tops_step rfl (OpT_assign rfl rfl rfl rfl) ?_))
 refine Tops_nil (Tk_wkS (fr' := [(0, some (vl1))]) (own' := []) (shr' := [Fact.sl (Shape.slice SegS) vl1 l]) [0] [] [0] rfl rfl rfl rfl ?_)
 refine Tk_seq (Tk_region (Tops_step rfl (OpT_assign rfl rfl rfl rfl) ?_))
 refine Tops_nil (Tk_seq (Tk_seq (Tk_region (Tops_step rfl (OpT_assign rfl rfl rfl rfl) ?_))))
 refine Tops_nil (Tk_block (Tk_nilrow (Shape.slice SegS) ?_))
 refine Tk_loopS (σ := (List (List Seg)) × Int × Value) [0, 3, 4] [0] [0] (fun s => ⟨[(0, some (vl1)), (3, some (s.2.2)), (4, some (vI s.2.1))], [some (rowS (Shape.slice SegS) s.2.2 s.1)], [Fact.sl (Shape.slice SegS) vl1 l]⟩) (fun nf1 s => kit_BufsL1 l nf1 s.1 s.2.1 = some r) fuel ([], (0 : Int), (.slice none 0 0)) h rfl rfl rfl rfl rfl (fun s h => by cases h) ?_
 rintro nf1 ⟨out1, i1, v1⟩ h
 replace h : kit_BufsL1B l (kit_BufsL1 l nf1) out1 i1 = some r := h
 unfold kit_BufsL1B at h
 refine Tk_seq (Tk_seq (Tk_region (Tops_step rfl (OpT_move rfl rfl rfl rfl) ?_)))
 refine Tops_step rfl (OpT_move rfl rfl rfl rfl) ?_
 refine Tops_step rfl (OpT_lenS rfl rfl rfl rfl Try.underlying59 (i := 0) rfl) ?_
 refine Tops_step rfl (OpT_bin rfl rfl rfl rfl rfl (bin_lss_i (a := i1) (b := len l))) ?_
 refine Tops_nil (Tk_wkS (fr' := [(0, some (vl1)), (3, some (v1)), (4, some (vI i1)), (8, some (vB (decide (i1 < (len l)))))]) (own' := [some (rowS (Shape.slice SegS) v1 out1)]) (shr' := [Fact.sl (Shape.slice SegS) vl1 l]) [0, 3, 4, 8] [0] [0] rfl rfl rfl rfl ?_)
 rcases Bool.eq_false_or_eq_true (decide (i1 < (len l))) with hg1 | hg1
 ·replace h := br_t hg1 h
  refine Tk_condT (congrArg (fun b => some (Value.bool b)) hg1) ?_
  refine Tk_skip (Tk_seq (Tk_block (Tk_region (Tops_step rfl (OpT_move rfl rfl rfl rfl) ?_))))
  refine Tops_step rfl (OpT_move rfl rfl rfl rfl) ?_
  refine Tops_step rfl (OpT_move rfl rfl rfl rfl) ?_
  obtain ⟨y1, hx1, h⟩ := ob_e h
  refine Tops_ex rfl (OpT_idxS rfl rfl rfl rfl rfl slF59 (i := 0) rfl hx1) fun p1 => ?_
  refine Tops_ex rfl (OpT_loadPS rfl rfl rfl rfl tyF25 (i := 1) rfl) fun v2 => ?_
  obtain ⟨segs1, hx2, h⟩ := ob_e h
  refine Tops_exP rfl (OpT_call (w_kit_Segs hx2) [] [2] rfl rfl rfl rfl rfl callee52 rfl rfl rfl rfl) ?_
  rintro _ ⟨v3, _, _, ⟨_, rfl, rfl, rfl⟩, rfl⟩
  refine Tops_retire (i := 1) rfl ?_
  refine Tops_ex rfl (OpT_buildSl (Shape.slice SegS) (vs := [v3]) (xs := [segs1]) rfl rfl rfl rfl rfl slF59 (isl_cons (is_sl (i := 3) rfl) isl_nil) rfl rfl rfl (rel_cons (rel_sl (i := 3) rfl) (rel_nil rfl))) fun v4 => ?_
  refine Tops_retire (i := 2) rfl ?_
  obtain ⟨hc1, h⟩ := chk_e h
  refine Tops_ex rfl (OpT_append rfl rfl rfl rfl rfl slF59 (i := 0) (j := 4) rfl rfl hc1) fun v5 => ?_
  refine Tops_step rfl (OpT_assign rfl rfl rfl rfl) ?_
  refine Tops_nil (Tk_wkS (fr' := [(0, some (vl1)), (3, some (v5)), (4, some (vI i1))]) (own' := [some (rowS (Shape.slice SegS) v5 (out1 ++ [segs1]))]) (shr' := [Fact.sl (Shape.slice SegS) vl1 l]) [0, 3, 4] [0] [0] rfl rfl rfl rfl ?_)
  refine Tk_blk (Tk_region (Tops_step rfl (OpT_move rfl rfl rfl rfl) ?_))
  refine Tops_step rfl (OpT_bin rfl rfl rfl rfl rfl (bin_add_i (a := i1) (b := (1 : Int)))) ?_
  refine Tops_step rfl (OpT_assign rfl rfl rfl rfl) ?_
  refine Tops_nil (Tk_wkS (fr' := [(0, some (vl1)), (3, some (v5)), (4, some (vI (wi (i1 + (1 : Int)))))]) (own' := [some (rowS (Shape.slice SegS) v5 (out1 ++ [segs1]))]) (shr' := [Fact.sl (Shape.slice SegS) vl1 l]) [0, 3, 4] [0] [0] rfl rfl rfl rfl ?_)
  exact Tk_backS (out1 ++ [segs1], wi (i1 + (1 : Int)), v5) h [0, 3, 4] [0] [0] rfl rfl rfl rfl rfl
 ·replace h := br_f hg1 h
  refine Tk_condF (congrArg (fun b => some (Value.bool b)) hg1) ?_
  refine Tk_exit _ rfl ?_
  refine Tk_seq (Tk_region (Tops_step rfl (OpT_move rfl rfl rfl rfl) ?_))
  refine Tops_step rfl (OpT_assign rfl rfl rfl rfl) ?_
  refine Tops_nil (Tk_wkS (fr' := [(2, some (v1))]) (own' := [some (rowS (Shape.slice SegS) v1 out1)]) (shr' := []) [2] [0] [] rfl rfl rfl rfl ?_)
  obtain rfl := Option.some.inj h
  exact Tk_retV rfl rfl (resA (vs := [v1]) rfl ⟨rfl, trivial⟩) [0] [] rfl rfl rfl ⟨v1, rfl, rfl, rfl⟩

set_option maxRecDepth 100000 in
set_option maxHeartbeats 4000000 in
theorem w_netdrv_Collect {m : gmem_Mem} {feats : UInt64} {bufs : List (List Seg)} {written : List UInt32} {b_m : Nat} {vm1 : Value} {vm2 : Value} {vsm1 : List Value} {vbufs1 : Value} {vwritten1 : Value} {r : ((List Frame) × Int × Int)} (h : netdrv_Collect m feats bufs written = some r) :
  Ctr Try.prog 26 #[.pointer (some ⟨b_m, 0, none⟩), vU64 feats, vbufs1, vwritten1] [(cellsR b_m 82 [vm1, vm2]), (rowsX u8S true vm2 vsm1 m.b none)] [Fact.sl RegionS vm1 m.l, Fact.sl (Shape.slice SegS) vbufs1 bufs, Fact.sl u32S vwritten1 written]
   (fun rv own shr => ∃ (w1 : Value), rv = .tuple #[w1, vI r.2.1, vI r.2.2] ∧ own = [(cellsR b_m 82 [vm1, vm2]), (rowsX u8S true vm2 vsm1 m.b none), (rowS FrameS w1 r.1)] ∧ shr = []) := by
 unfold netdrv_Collect at h
 refine Ctr.mk (args := [.pointer (some ⟨b_m, 0, none⟩), vU64 feats, vbufs1, vwritten1]) Try.func26 rfl rfl (fun R0 w0 B => ?_)
 refine Tk_seq (Tk_region (Tops_step rfl (OpT_assign rfl rfl rfl rfl) ?_))
 refine Tops_step rfl (OpT_assign rfl rfl rfl rfl) ?_
 refine Tops_step rfl (OpT_assign rfl rfl rfl rfl) ?_
 refine Tops_nil (Tk_wkS (fr' := [(0, some (.pointer (some ⟨b_m, 0, none⟩))), (1, some (vU64 feats)), (2, some (vbufs1)), (3, some (vwritten1))]) (own' := [some (cellsR b_m 82 [vm1, vm2]), some (rowsX u8S true vm2 vsm1 m.b none)]) (shr' := [Fact.sl RegionS vm1 m.l, Fact.sl (Shape.slice SegS) vbufs1 bufs, Fact.sl u32S vwritten1 written]) [0, 1, 2, 3] [0, 1] [0, 1, 2] rfl rfl rfl rfl ?_)
 refine Tk_seq (Tk_block (Tk_seq (Tk_region (Tops_step rfl (OpT_move rfl rfl rfl rfl) ?_))))
 refine Tops_step rfl (OpT_ptrNil rfl rfl rfl (.inl rfl) rfl rfl ptrF39) ?_
 refine Tops_step rfl (OpT_assign rfl rfl rfl rfl) ?_
 refine Tops_nil (Tk_wkS (fr' := [(0, some (.pointer (some ⟨b_m, 0, none⟩))), (1, some (vU64 feats)), (2, some (vbufs1)), (3, some (vwritten1)), (16, some (vB false))]) (own' := [some (cellsR b_m 82 [vm1, vm2]), some (rowsX u8S true vm2 vsm1 m.b none)]) (shr' := [Fact.sl RegionS vm1 m.l, Fact.sl (Shape.slice SegS) vbufs1 bufs, Fact.sl u32S vwritten1 written]) [0, 1, 2, 3, 16] [0, 1] [0, 1, 2] rfl rfl rfl rfl ?_)
 refine Tk_condF rfl ?_
 refine Tk_seq (Tk_region (Tops_step rfl (OpT_move rfl rfl rfl rfl) ?_))
 refine Tops_step rfl (OpT_lenS rfl rfl rfl rfl Try.underlying59 (i := 1) rfl) ?_
 refine Tops_step rfl (OpT_move rfl rfl rfl rfl) ?_
 refine Tops_step rfl (OpT_lenS rfl rfl rfl rfl Try.underlying62 (i := 2) rfl) ?_
 refine Tops_step rfl (OpT_bin rfl rfl rfl rfl rfl (bin_neq_i (a := len bufs) (b := len written))) ?_
 refine Tops_step rfl (OpT_assign rfl rfl rfl rfl) ?_
 refine Tops_nil (Tk_wkS (fr' := [(0, some (.pointer (some ⟨b_m, 0, none⟩))), (1, some (vU64 feats)), (2, some (vbufs1)), (3, some (vwritten1)), (19, some (vB ((len bufs) != (len written))))]) (own' := [some (cellsR b_m 82 [vm1, vm2]), some (rowsX u8S true vm2 vsm1 m.b none)]) (shr' := [Fact.sl RegionS vm1 m.l, Fact.sl (Shape.slice SegS) vbufs1 bufs, Fact.sl u32S vwritten1 written]) [0, 1, 2, 3, 19] [0, 1] [0, 1, 2] rfl rfl rfl rfl ?_)
 rcases Bool.eq_false_or_eq_true ((len bufs) != (len written)) with hg1 | hg1
 ·replace h := br_t hg1 h
  refine Tk_condT (congrArg (fun b => some (Value.bool b)) hg1) ?_
  refine Tk_seq (Tk_region (Tops_step rfl (OpT_assign rfl rfl rfl rfl) ?_))
  refine Tops_step rfl (OpT_assign rfl rfl rfl rfl) ?_
  refine Tops_step rfl (OpT_assign rfl rfl rfl rfl) ?_
  refine Tops_nil (Tk_wkS (fr' := [(8, some (.slice none 0 0)), (9, some (vI (0 : Int))), (10, some (vI (2 : Int)))]) (own' := [some (cellsR b_m 82 [vm1, vm2]), some (rowsX u8S true vm2 vsm1 m.b none)]) (shr' := [Fact.sl RegionS vm1 m.l]) [8, 9, 10] [0, 1] [0] rfl rfl rfl rfl ?_)
  refine Tk_nilrow FrameS ?_
  obtain rfl := Option.some.inj h
  exact Tk_retV rfl rfl (resA (vs := [.slice none 0 0, vI (0 : Int), vI (2 : Int)]) rfl ⟨rfl, rfl, rfl, trivial⟩) [0, 1, 2] [] rfl rfl rfl ⟨(.slice none 0 0), rfl, rfl, rfl⟩
 ·replace h := br_f hg1 h
  refine Tk_condF (congrArg (fun b => some (Value.bool b)) hg1) ?_
  refine Tk_skip (Tk_blk (Tk_seq (Tk_region (Tops_step rfl (OpT_assign rfl rfl rfl rfl) ?_))))
  refine Tops_nil (Tk_wkS (fr' := [(0, some (.pointer (some ⟨b_m, 0, none⟩))), (1, some (vU64 feats)), (2, some (vbufs1)), (3, some (vwritten1)), (11, some (.slice none 0 0))]) (own' := [some (cellsR b_m 82 [vm1, vm2]), some (rowsX u8S true vm2 vsm1 m.b none)]) (shr' := [Fact.sl RegionS vm1 m.l, Fact.sl (Shape.slice SegS) vbufs1 bufs, Fact.sl u32S vwritten1 written]) [0, 1, 2, 3, 11] [0, 1] [0, 1, 2] rfl rfl rfl rfl ?_)
  refine Tk_seq (Tk_region (Tops_step rfl (OpT_assign rfl rfl rfl rfl) ?_))
  refine Tops_nil (Tk_seq (Tk_block (Tk_nilrow FrameS ?_)))
  refine Tk_loopS (σ := (List (List Seg)) × (List UInt32) × (List Frame) × Int × Value × Value × Value) [0, 1, 2, 3, 11, 12] [0, 1, 2] [0, 1, 2] (fun s => ⟨[(0, some (.pointer (some ⟨b_m, 0, none⟩))), (1, some (vU64 feats)), (2, some (s.2.2.2.2.1)), (3, some (s.2.2.2.2.2.1)), (11, some (s.2.2.2.2.2.2)), (12, some (vI s.2.2.2.1))], [some (cellsR b_m 82 [vm1, vm2]), some (rowsX u8S true vm2 vsm1 m.b none), some (rowS FrameS s.2.2.2.2.2.2 s.2.2.1)], [Fact.sl RegionS vm1 m.l, Fact.sl (Shape.slice SegS) s.2.2.2.2.1 s.1, Fact.sl u32S s.2.2.2.2.2.1 s.2.1]⟩) (fun nf1 s => netdrv_CollectL1 m feats nf1 s.1 s.2.1 s.2.2.1 s.2.2.2.1 = some r) fuel (bufs, written, [], (0 : Int), vbufs1, vwritten1, (.slice none 0 0)) h rfl rfl rfl rfl rfl (fun s h => by cases h) ?_
  rintro nf1 ⟨bufs1, written1, out1, n1, v1, v2, v3⟩ h
  replace h : netdrv_CollectL1B m feats (netdrv_CollectL1 m feats nf1) bufs1 written1 out1 n1 = some r := h
  unfold netdrv_CollectL1B at h
  refine Tk_seq (Tk_seq (Tk_region (Tops_step rfl (OpT_move rfl rfl rfl rfl) ?_)))
  refine Tops_step rfl (OpT_lenS rfl rfl rfl rfl Try.underlying59 (i := 1) rfl) ?_
  refine Tops_step rfl (OpT_bin rfl rfl rfl rfl rfl (bin_gtr_i (a := len bufs1) (b := (0 : Int)))) ?_
  refine Tops_nil (Tk_wkS (fr' := [(0, some (.pointer (some ⟨b_m, 0, none⟩))), (1, some (vU64 feats)), (2, some (v1)), (3, some (v2)), (11, some (v3)), (12, some (vI n1)), (27, some (vB (decide ((len bufs1) > (0 : Int)))))]) (own' := [some (cellsR b_m 82 [vm1, vm2]), some (rowsX u8S true vm2 vsm1 m.b none), some (rowS FrameS v3 out1)]) (shr' := [Fact.sl RegionS vm1 m.l, Fact.sl (Shape.slice SegS) v1 bufs1, Fact.sl u32S v2 written1]) [0, 1, 2, 3, 11, 12, 27] [0, 1, 2] [0, 1, 2] rfl rfl rfl rfl ?_)
  rcases Bool.eq_false_or_eq_true (decide ((len bufs1) > (0 : Int))) with hg2 | hg2
  ·replace h := br_t hg2 h
   refine Tk_condT (congrArg (fun b => some (Value.bool b)) hg2) ?_
   refine Tk_skip (Tk_block (Tk_seq (Tk_region (Tops_step rfl (OpT_move rfl rfl rfl rfl) ?_))))
   refine Tops_step rfl (OpT_move rfl rfl rfl rfl) ?_
   refine Tops_step rfl (OpT_move rfl rfl rfl rfl) ?_
   refine Tops_step rfl (OpT_move rfl rfl rfl rfl) ?_
   obtain ⟨one1, hx1, h⟩ := ob_e h
   refine Tops_exP rfl (OpT_callP [3, 4, 2, 5] (w_netdrv_One hx1) [0, 1] [0, 1, 2] rfl rfl rfl rfl rfl callee30 rfl rfl rfl rfl rfl) ?_
   rintro _ ⟨_, _, _, ⟨v4, rfl, rfl, rfl⟩, rfl⟩
   refine Tops_step rfl (OpT_move rfl rfl rfl rfl) ?_
   refine Tops_step rfl (OpT_extract rfl rfl rfl rfl rfl) ?_
   refine Tops_step rfl (OpT_extract rfl rfl rfl rfl rfl) ?_
   refine Tops_step rfl (OpT_extract rfl rfl rfl rfl rfl) ?_
   refine Tops_ex rfl (OpT_alloc rfl rfl rfl tyZ37) fun b1 => ?_
   refine Tops_step rfl (OpT_storeA1 (fun z0 => [vU8 one1.1.Dst.a0, vU8 one1.1.Dst.a1, vU8 one1.1.Dst.a2, vU8 one1.1.Dst.a3, vU8 one1.1.Dst.a4, vU8 one1.1.Dst.a5, vU8 one1.1.Src.a0, vU8 one1.1.Src.a1, vU8 one1.1.Src.a2, vU8 one1.1.Src.a3, vU8 one1.1.Src.a4, vU8 one1.1.Src.a5, vI one1.1.Vlan, vU16 one1.1.Type_, z0]) (cs' := [vU8 one1.1.Dst.a0, vU8 one1.1.Dst.a1, vU8 one1.1.Dst.a2, vU8 one1.1.Dst.a3, vU8 one1.1.Dst.a4, vU8 one1.1.Dst.a5, vU8 one1.1.Src.a0, vU8 one1.1.Src.a1, vU8 one1.1.Src.a2, vU8 one1.1.Src.a3, vU8 one1.1.Src.a4, vU8 one1.1.Src.a5, vI one1.1.Vlan, vU16 one1.1.Type_, v4]) rfl rfl rfl rfl tyF37 (i := 4) rfl (is_row (i := 3) rfl) (fun _ _ _ => rfl) rfl rfl rfl) ?_
   refine Tops_step rfl (OpT_assign rfl rfl rfl rfl) ?_
   refine Tops_step rfl (OpT_assign rfl rfl rfl rfl) ?_
   refine Tops_nil (Tk_wkS (fr' := [(0, some (.pointer (some ⟨b_m, 0, none⟩))), (1, some (vU64 feats)), (2, some (v1)), (3, some (v2)), (11, some (v3)), (12, some (vI n1)), (13, some (.pointer (some ⟨b1, 0, none⟩))), (14, some (vI one1.2.1)), (15, some (vI one1.2.2))]) (own' := [some (cellsR b_m 82 [vm1, vm2]), some (rowsX u8S true vm2 vsm1 m.b none), some (rowS FrameS v3 out1), some (rowS u8S v4 one1.1.Data), some (cellsR b1 37 [vU8 one1.1.Dst.a0, vU8 one1.1.Dst.a1, vU8 one1.1.Dst.a2, vU8 one1.1.Dst.a3, vU8 one1.1.Dst.a4, vU8 one1.1.Dst.a5, vU8 one1.1.Src.a0, vU8 one1.1.Src.a1, vU8 one1.1.Src.a2, vU8 one1.1.Src.a3, vU8 one1.1.Src.a4, vU8 one1.1.Src.a5, vI one1.1.Vlan, vU16 one1.1.Type_, v4])]) (shr' := [Fact.sl RegionS vm1 m.l, Fact.sl (Shape.slice SegS) v1 bufs1, Fact.sl u32S v2 written1]) [0, 1, 2, 3, 11, 12, 13, 14, 15] [0, 1, 2, 3, 4] [0, 1, 2] rfl rfl rfl rfl ?_)
   refine Tk_seq (Tk_seq (Tk_region (Tops_step rfl (OpT_move rfl rfl rfl rfl) ?_)))
   refine Tops_step rfl (OpT_bin rfl rfl rfl rfl rfl (bin_neq_i (a := one1.2.2) (b := (0 : Int)))) ?_
   refine Tops_nil (Tk_wkS (fr' := [(0, some (.pointer (some ⟨b_m, 0, none⟩))), (1, some (vU64 feats)), (2, some (v1)), (3, some (v2)), (11, some (v3)), (12, some (vI n1)), (13, some (.pointer (some ⟨b1, 0, none⟩))), (14, some (vI one1.2.1)), (15, some (vI one1.2.2)), (38, some (vB (one1.2.2 != (0 : Int))))]) (own' := [some (cellsR b_m 82 [vm1, vm2]), some (rowsX u8S true vm2 vsm1 m.b none), some (rowS FrameS v3 out1), some (rowS u8S v4 one1.1.Data), some (cellsR b1 37 [vU8 one1.1.Dst.a0, vU8 one1.1.Dst.a1, vU8 one1.1.Dst.a2, vU8 one1.1.Dst.a3, vU8 one1.1.Dst.a4, vU8 one1.1.Dst.a5, vU8 one1.1.Src.a0, vU8 one1.1.Src.a1, vU8 one1.1.Src.a2, vU8 one1.1.Src.a3, vU8 one1.1.Src.a4, vU8 one1.1.Src.a5, vI one1.1.Vlan, vU16 one1.1.Type_, v4])]) (shr' := [Fact.sl RegionS vm1 m.l, Fact.sl (Shape.slice SegS) v1 bufs1, Fact.sl u32S v2 written1]) [0, 1, 2, 3, 11, 12, 13, 14, 15, 38] [0, 1, 2, 3, 4] [0, 1, 2] rfl rfl rfl rfl ?_)
   rcases Bool.eq_false_or_eq_true (one1.2.2 != (0 : Int)) with hg3 | hg3
   ·replace h := br_t hg3 h
    refine Tk_condT (congrArg (fun b => some (Value.bool b)) hg3) ?_
    refine Tk_seq (Tk_region (Tops_step rfl (OpT_move rfl rfl rfl rfl) ?_))
    refine Tops_step rfl (OpT_move rfl rfl rfl rfl) ?_
    refine Tops_step rfl (OpT_move rfl rfl rfl rfl) ?_
    refine Tops_step rfl (OpT_assign rfl rfl rfl rfl) ?_
    refine Tops_step rfl (OpT_assign rfl rfl rfl rfl) ?_
    refine Tops_step rfl (OpT_assign rfl rfl rfl rfl) ?_
    refine Tops_nil (Tk_wkS (fr' := [(8, some (v3)), (9, some (vI n1)), (10, some (vI one1.2.2))]) (own' := [some (cellsR b_m 82 [vm1, vm2]), some (rowsX u8S true vm2 vsm1 m.b none), some (rowS FrameS v3 out1)]) (shr' := [Fact.sl RegionS vm1 m.l]) [8, 9, 10] [0, 1, 2] [0] rfl rfl rfl rfl ?_)
    obtain rfl := Option.some.inj h
    exact Tk_retV rfl rfl (resA (vs := [v3, vI n1, vI one1.2.2]) rfl ⟨rfl, rfl, rfl, trivial⟩) [0, 1, 2] [] rfl rfl rfl ⟨v3, rfl, rfl, rfl⟩
   ·replace h := br_f hg3 h
    refine Tk_condF (congrArg (fun b => some (Value.bool b)) hg3) ?_
    refine Tk_skip (Tk_seq (Tk_region (Tops_step rfl (OpT_move rfl rfl rfl rfl) ?_)))
    refine Tops_step rfl (OpT_loadCA (vs := [vU8 one1.1.Dst.a0, vU8 one1.1.Dst.a1, vU8 one1.1.Dst.a2, vU8 one1.1.Dst.a3, vU8 one1.1.Dst.a4, vU8 one1.1.Dst.a5, vU8 one1.1.Src.a0, vU8 one1.1.Src.a1, vU8 one1.1.Src.a2, vU8 one1.1.Src.a3, vU8 one1.1.Src.a4, vU8 one1.1.Src.a5, vI one1.1.Vlan, vU16 one1.1.Type_, v4]) rfl rfl rfl rfl tyF37 (i := 4) rfl rfl rfl) ?_
    refine Tops_retire (i := 3) rfl ?_
    refine Tops_ex rfl (OpT_buildSlice (S := FrameS) (xs := [one1.1]) (css := [[vU8 one1.1.Dst.a0, vU8 one1.1.Dst.a1, vU8 one1.1.Dst.a2, vU8 one1.1.Dst.a3, vU8 one1.1.Dst.a4, vU8 one1.1.Dst.a5, vU8 one1.1.Src.a0, vU8 one1.1.Src.a1, vU8 one1.1.Src.a2, vU8 one1.1.Src.a3, vU8 one1.1.Src.a4, vU8 one1.1.Src.a5, vI one1.1.Vlan, vU16 one1.1.Type_, v4]]) (cs := [vU8 one1.1.Dst.a0, vU8 one1.1.Dst.a1, vU8 one1.1.Dst.a2, vU8 one1.1.Dst.a3, vU8 one1.1.Dst.a4, vU8 one1.1.Dst.a5, vU8 one1.1.Src.a0, vU8 one1.1.Src.a1, vU8 one1.1.Src.a2, vU8 one1.1.Src.a3, vU8 one1.1.Src.a4, vU8 one1.1.Src.a5, vI one1.1.Vlan, vU16 one1.1.Type_, v4]) (e := 37) rfl rfl rfl rfl (bldF slF58 (by decide) (by kernel_rfl)) rfl rfl rfl rfl (rel_cons (rel_s1 (i := 3) rfl rfl rfl) (rel_nil rfl))) fun v5 => ?_
    refine Tops_retire (i := 5) rfl ?_
    obtain ⟨hc1, h⟩ := chk_e h
    refine Tops_ex rfl (OpT_append rfl rfl rfl rfl rfl slF58 (i := 2) (j := 4) rfl rfl hc1) fun v6 => ?_
    refine Tops_step rfl (OpT_move rfl rfl rfl rfl) ?_
    refine Tops_step rfl (OpT_move rfl rfl rfl rfl) ?_
    refine Tops_step rfl (OpT_bin rfl rfl rfl rfl rfl (bin_add_i (a := n1) (b := one1.2.1))) ?_
    refine Tops_step rfl (OpT_assign rfl rfl rfl rfl) ?_
    refine Tops_step rfl (OpT_assign rfl rfl rfl rfl) ?_
    refine Tops_nil (Tk_wkS (fr' := [(0, some (.pointer (some ⟨b_m, 0, none⟩))), (1, some (vU64 feats)), (2, some (v1)), (3, some (v2)), (11, some (v6)), (12, some (vI (wi (n1 + one1.2.1)))), (14, some (vI one1.2.1))]) (own' := [some (cellsR b_m 82 [vm1, vm2]), some (rowsX u8S true vm2 vsm1 m.b none), some (rowS FrameS v6 (out1 ++ [one1.1]))]) (shr' := [Fact.sl RegionS vm1 m.l, Fact.sl (Shape.slice SegS) v1 bufs1, Fact.sl u32S v2 written1]) [0, 1, 2, 3, 11, 12, 14] [0, 1, 2] [0, 1, 2] rfl rfl rfl rfl ?_)
    refine Tk_drawT (by kernel_rfl) ?_
    refine TA_tb [0, 0, 3, 0, 0, 24, 7, 127] (by kernel_rfl) fun htb => ?_
    obtain ⟨hc2, h⟩ := chk_e h
    obtain ⟨hc3, h⟩ := chk_e h
    refine TA_seg (lo := 0) (hi := 7) htb rfl rfl (by kernel_rfl) (fun c L a w => ∃ (v7 : Value), ∃ (v8 : Value), Sat c ⟨[(0, some (.pointer (some ⟨b_m, 0, none⟩))), (1, some (vU64 feats)), (2, bif L 6 then some (v7) else some (v1)), (3, some (v2)), (11, some (v6)), (12, some (vI (wi (n1 + one1.2.1)))), (14, some (vI one1.2.1)), (49, bif L 0 then some (v1) else none), (50, bif L 1 then some (vI one1.2.1) else none), (51, bif L 2 then some (v7) else none), (52, bif L 3 then some (v2) else none), (53, bif L 4 then some (vI one1.2.1) else none), (54, bif L 5 then some (v8) else none)], [(some (cellsR b_m 82 [vm1, vm2]) : Option Res), (some (rowsX u8S true vm2 vsm1 m.b none) : Option Res), (some (rowS FrameS v6 (out1 ++ [one1.1])) : Option Res)], [Fact.sl RegionS vm1 m.l, Fact.sl (Shape.slice SegS) v1 bufs1, Fact.sl u32S v2 written1, (bif L 2 then Fact.sl (Shape.slice SegS) v7 (sub bufs1 one1.2.1 (len bufs1)) else Fact.tt), (bif L 5 then Fact.sl u32S v8 (sub written1 one1.2.1 (len written1)) else Fact.tt)]⟩ a w) [([], [2, 6]), ([], [2, 6]), ([0, 1], [6]), ([], [5]), ([], [5]), ([3, 4], []), ([0, 1, 2], [])] rfl (by kernel_rfl) ?_ (steps_cons ?_ (steps_cons ?_ (steps_cons ?_ (steps_cons ?_ (steps_cons ?_ (steps_cons ?_ (steps_cons ?_ (steps_nil)))))))) ?_
    ·intro a w hs
     exact ⟨undef, undef, hs.startF [49, 50, 51, 52, 53, 54] [0, 1, 2] [0, 1, 2, 3, 4] rfl rfl rfl rfl⟩
    ·intro L a w hv K Q hK
     obtain ⟨v7, v8, hs⟩ := hv
     refine wpOp_go rfl rfl hs (OpT_move rfl rfl rfl rfl) ?_
     rintro _ rfl a' w' hs'
     exact hK a' w' ⟨v7, v8, hs'.putF (i := 7) rfl [0, 1, 2] [0, 1, 2, 3, 4] rfl rfl rfl rfl⟩
    ·intro L a w hv K Q hK
     obtain ⟨v7, v8, hs⟩ := hv
     refine wpOp_go rfl rfl hs (OpT_move rfl rfl rfl rfl) ?_
     rintro _ rfl a' w' hs'
     exact hK a' w' ⟨v7, v8, hs'.putF (i := 8) rfl [0, 1, 2] [0, 1, 2, 3, 4] rfl rfl rfl rfl⟩
    ·intro L a w hv K Q hK
     obtain ⟨v7, v8, hs⟩ := hv
     refine wpOp_go rfl rfl hs (OpT_sliceL (l := one1.2.1) rfl rfl rfl rfl rfl slF59 (i := 1) rfl hc2) ?_
     rintro _ ⟨v7', rfl⟩ a' w' hs'
     exact hK a' w' ⟨v7', v8, hs'.putF (i := 9) rfl [0, 1, 2] [0, 1, 2, 5, 4] rfl rfl rfl rfl⟩
    ·intro L a w hv K Q hK
     obtain ⟨v7, v8, hs⟩ := hv
     refine wpOp_go rfl rfl hs (OpT_move rfl rfl rfl rfl) ?_
     rintro _ rfl a' w' hs'
     exact hK a' w' ⟨v7, v8, hs'.putF (i := 10) rfl [0, 1, 2] [0, 1, 2, 3, 4] rfl rfl rfl rfl⟩
    ·intro L a w hv K Q hK
     obtain ⟨v7, v8, hs⟩ := hv
     refine wpOp_go rfl rfl hs (OpT_move rfl rfl rfl rfl) ?_
     rintro _ rfl a' w' hs'
     exact hK a' w' ⟨v7, v8, hs'.putF (i := 11) rfl [0, 1, 2] [0, 1, 2, 3, 4] rfl rfl rfl rfl⟩
    ·intro L a w hv K Q hK
     obtain ⟨v7, v8, hs⟩ := hv
     refine wpOp_go rfl rfl hs (OpT_sliceL (l := one1.2.1) rfl rfl rfl rfl rfl slF62 (i := 2) rfl hc3) ?_
     rintro _ ⟨v8', rfl⟩ a' w' hs'
     exact hK a' w' ⟨v7, v8', hs'.putF (i := 12) rfl [0, 1, 2] [0, 1, 2, 3, 5] rfl rfl rfl rfl⟩
    ·intro L a w hv K Q hK
     obtain ⟨v7, v8, hs⟩ := hv
     refine wpOp_go rfl rfl hs (OpT_assign rfl rfl rfl rfl) ?_
     rintro _ rfl a' w' hs'
     exact hK a' w' ⟨v7, v8, hs'.putF (i := 2) rfl [0, 1, 2] [0, 1, 2, 3, 4] rfl rfl rfl rfl⟩
    ·intro L a w hL hv
     rw [allTrue hL] at hv
     obtain ⟨v7, v8, hs⟩ := hv
     refine (show TA _ _ _ 7 ⟨[(0, some (.pointer (some ⟨b_m, 0, none⟩))), (1, some (vU64 feats)), (2, some (v7)), (11, some (v6)), (12, some (vI (wi (n1 + one1.2.1)))), (54, some (v8))], [some (cellsR b_m 82 [vm1, vm2]), some (rowsX u8S true vm2 vsm1 m.b none), some (rowS FrameS v6 (out1 ++ [one1.1]))], [Fact.sl RegionS vm1 m.l, Fact.sl (Shape.slice SegS) v7 (sub bufs1 one1.2.1 (len bufs1)), Fact.sl u32S v8 (sub written1 one1.2.1 (len written1))]⟩ from ?_) a w (hs.wkS [0, 1, 2, 11, 12, 54] [0, 1, 2] [0, 3, 4] rfl rfl rfl rfl)
     clear hs hL
     refine TA_step htb (by kernel_rfl) rfl rfl (OpT_assign rfl rfl rfl rfl) ?_
     refine TA_end rfl ?_
     refine Tk_wkS (fr' := [(0, some (.pointer (some ⟨b_m, 0, none⟩))), (1, some (vU64 feats)), (2, some (v7)), (11, some (v6)), (12, some (vI (wi (n1 + one1.2.1)))), (3, some (v8))]) (own' := [some (cellsR b_m 82 [vm1, vm2]), some (rowsX u8S true vm2 vsm1 m.b none), some (rowS FrameS v6 (out1 ++ [one1.1]))]) (shr' := [Fact.sl RegionS vm1 m.l, Fact.sl (Shape.slice SegS) v7 (sub bufs1 one1.2.1 (len bufs1)), Fact.sl u32S v8 (sub written1 one1.2.1 (len written1))]) [0, 1, 2, 11, 12, 3] [0, 1, 2] [0, 1, 2] rfl rfl rfl rfl ?_
     refine Tk_blk ?_
     exact Tk_backS (sub bufs1 one1.2.1 (len bufs1), sub written1 one1.2.1 (len written1), out1 ++ [one1.1], wi (n1 + one1.2.1), v7, v8, v6) h [0, 1, 2, 3, 11, 12] [0, 1, 2] [0, 1, 2] rfl rfl rfl rfl rfl
  ·replace h := br_f hg2 h
   refine Tk_condF (congrArg (fun b => some (Value.bool b)) hg2) ?_
   refine Tk_exit _ rfl ?_
   refine Tk_seq (Tk_region (Tops_step rfl (OpT_move rfl rfl rfl rfl) ?_))
   refine Tops_step rfl (OpT_move rfl rfl rfl rfl) ?_
   refine Tops_step rfl (OpT_assign rfl rfl rfl rfl) ?_
   refine Tops_step rfl (OpT_assign rfl rfl rfl rfl) ?_
   refine Tops_step rfl (OpT_assign rfl rfl rfl rfl) ?_
   refine Tops_nil (Tk_wkS (fr' := [(8, some (v3)), (9, some (vI n1)), (10, some (vI (0 : Int)))]) (own' := [some (cellsR b_m 82 [vm1, vm2]), some (rowsX u8S true vm2 vsm1 m.b none), some (rowS FrameS v3 out1)]) (shr' := [Fact.sl RegionS vm1 m.l]) [8, 9, 10] [0, 1, 2] [0] rfl rfl rfl rfl ?_)
   obtain rfl := Option.some.inj h
   exact Tk_retV rfl rfl (resA (vs := [v3, vI n1, vI (0 : Int)]) rfl ⟨rfl, rfl, rfl, trivial⟩) [0, 1, 2] [] rfl rfl rfl ⟨v3, rfl, rfl, rfl⟩

set_option maxRecDepth 100000 in
set_option maxHeartbeats 4000000 in
theorem w_kit_LightBufs {l : List (List Seg)} {most : Int} {segs : Int} {vl1 : Value} {r : Bool} (h : kit_LightBufs l most segs = some r) :
  Ctr Try.prog 29 #[vl1, vI most, vI segs] [] [Fact.sl (Shape.slice SegS) vl1 l]
   (fun rv own shr => rv = vB r ∧ own = [] ∧ shr = []) := by
 unfold kit_LightBufs at h
 refine Ctr.mk (args := [vl1, vI most, vI segs]) Try.func29 rfl rfl (fun R0 w0 B => ?_)
 refine Tk_seq (Tk_region (Tops_step rfl (OpT_assign rfl rfl rfl rfl) ?_))
 refine Tops_nil (Tk_wkS (fr' := [(0, some (vl1)), (1, some (vI most)), (2, some (vI segs))]) (own' := []) (shr' := [Fact.sl (Shape.slice SegS) vl1 l]) [0, 1, 2] [] [0] rfl rfl rfl rfl ?_)
 refine Tk_seq (Tk_seq (Tk_region (Tops_step rfl (OpT_move rfl rfl rfl rfl) ?_)))
 refine Tops_step rfl (OpT_lenS rfl rfl rfl rfl Try.underlying59 (i := 0) rfl) ?_
 refine Tops_step rfl (OpT_move rfl rfl rfl rfl) ?_
 refine Tops_step rfl (OpT_bin rfl rfl rfl rfl rfl (bin_gtr_i (a := len l) (b := most))) ?_
 refine Tops_nil (Tk_wkS (fr' := [(0, some (vl1)), (2, some (vI segs)), (11, some (vB (decide ((len l) > most))))]) (own' := []) (shr' := [Fact.sl (Shape.slice SegS) vl1 l]) [0, 2, 11] [] [0] rfl rfl rfl rfl ?_)
 rcases Bool.eq_false_or_eq_true (decide ((len l) > most)) with hg1 | hg1
 ·replace h := br_t hg1 h
  refine Tk_condT (congrArg (fun b => some (Value.bool b)) hg1) ?_
  refine Tk_seq (Tk_region (Tops_step rfl (OpT_assign rfl rfl rfl rfl) ?_))
  refine Tops_nil (Tk_wkS (fr' := [(6, some (vB false))]) (own' := []) (shr' := []) [6] [] [] rfl rfl rfl rfl ?_)
  obtain rfl := Option.some.inj h
  exact Tk_retV rfl rfl (resA (vs := [vB false]) rfl ⟨rfl, trivial⟩) [] [] rfl rfl rfl ⟨rfl, rfl, rfl⟩
 ·replace h := br_f hg1 h
  refine Tk_condF (congrArg (fun b => some (Value.bool b)) hg1) ?_
  refine Tk_skip (Tk_seq (Tk_seq (Tk_region (Tops_step rfl (OpT_assign rfl rfl rfl rfl) ?_))))
  refine Tops_nil (Tk_wkS (fr' := [(0, some (vl1)), (2, some (vI segs)), (7, some (vI (0 : Int)))]) (own' := []) (shr' := [Fact.sl (Shape.slice SegS) vl1 l]) [0, 2, 7] [] [0] rfl rfl rfl rfl ?_)
  refine Tk_block (Tk_loopS (σ := Int) [0, 2, 7] [] [0] (fun s => ⟨[(0, some (vl1)), (2, some (vI segs)), (7, some (vI s))], [], [Fact.sl (Shape.slice SegS) vl1 l]⟩) (fun nf1 s => kit_LightBufsL1 l segs nf1 s = some r) fuel (0 : Int) h rfl rfl rfl rfl rfl (fun s h => by cases h) ?_)
  rintro nf1 i1 h
  replace h : kit_LightBufsL1B l segs (kit_LightBufsL1 l segs nf1) i1 = some r := h
  unfold kit_LightBufsL1B at h
  refine Tk_seq (Tk_seq (Tk_region (Tops_step rfl (OpT_move rfl rfl rfl rfl) ?_)))
  refine Tops_step rfl (OpT_move rfl rfl rfl rfl) ?_
  refine Tops_step rfl (OpT_lenS rfl rfl rfl rfl Try.underlying59 (i := 0) rfl) ?_
  refine Tops_step rfl (OpT_bin rfl rfl rfl rfl rfl (bin_lss_i (a := i1) (b := len l))) ?_
  refine Tops_nil (Tk_wkS (fr' := [(0, some (vl1)), (2, some (vI segs)), (7, some (vI i1)), (15, some (vB (decide (i1 < (len l)))))]) (own' := []) (shr' := [Fact.sl (Shape.slice SegS) vl1 l]) [0, 2, 7, 15] [] [0] rfl rfl rfl rfl ?_)
  rcases Bool.eq_false_or_eq_true (decide (i1 < (len l))) with hg2 | hg2
  ·replace h := br_t hg2 h
   refine Tk_condT (congrArg (fun b => some (Value.bool b)) hg2) ?_
   refine Tk_skip (Tk_seq (Tk_block (Tk_seq (Tk_region (Tops_step rfl (OpT_move rfl rfl rfl rfl) ?_)))))
   refine Tops_step rfl (OpT_move rfl rfl rfl rfl) ?_
   obtain ⟨y1, hx1, h⟩ := ob_e h
   refine Tops_ex rfl (OpT_idxS rfl rfl rfl rfl rfl slF59 (i := 0) rfl hx1) fun p1 => ?_
   refine Tops_ex rfl (OpT_loadPS rfl rfl rfl rfl tyF25 (i := 1) rfl) fun v1 => ?_
   refine Tops_step rfl (OpT_lenS rfl rfl rfl rfl Try.underlying25 (i := 2) rfl) ?_
   refine Tops_step rfl (OpT_move rfl rfl rfl rfl) ?_
   refine Tops_step rfl (OpT_bin rfl rfl rfl rfl rfl (bin_gtr_i (a := len y1) (b := segs))) ?_
   refine Tops_nil (Tk_wkS (fr' := [(0, some (vl1)), (2, some (vI segs)), (7, some (vI i1)), (24, some (vB (decide ((len y1) > segs))))]) (own' := []) (shr' := [Fact.sl (Shape.slice SegS) vl1 l]) [0, 2, 7, 24] [] [0] rfl rfl rfl rfl ?_)
   rcases Bool.eq_false_or_eq_true (decide ((len y1) > segs)) with hg3 | hg3
   ·replace h := br_t hg3 h
    refine Tk_condT (congrArg (fun b => some (Value.bool b)) hg3) ?_
    refine Tk_seq (Tk_region (Tops_step rfl (OpT_assign rfl rfl rfl rfl) ?_))
    refine Tops_nil (Tk_wkS (fr' := [(6, some (vB false))]) (own' := []) (shr' := []) [6] [] [] rfl rfl rfl rfl ?_)
    obtain rfl := Option.some.inj h
    exact Tk_retV rfl rfl (resA (vs := [vB false]) rfl ⟨rfl, trivial⟩) [] [] rfl rfl rfl ⟨rfl, rfl, rfl⟩
   ·replace h := br_f hg3 h
    refine Tk_condF (congrArg (fun b => some (Value.bool b)) hg3) ?_
    refine Tk_skip (Tk_blk (Tk_region (Tops_step rfl (OpT_move rfl rfl rfl rfl) ?_)))
    refine Tops_step rfl (OpT_bin rfl rfl rfl rfl rfl (bin_add_i (a := i1) (b := (1 : Int)))) ?_
    refine Tops_step rfl (OpT_assign rfl rfl rfl rfl) ?_
    refine Tops_nil (Tk_wkS (fr' := [(0, some (vl1)), (2, some (vI segs)), (7, some (vI (wi (i1 + (1 : Int)))))]) (own' := []) (shr' := [Fact.sl (Shape.slice SegS) vl1 l]) [0, 2, 7] [] [0] rfl rfl rfl rfl ?_)
    exact Tk_backS (wi (i1 + (1 : Int))) h [0, 2, 7] [] [0] rfl rfl rfl rfl rfl
  ·replace h := br_f hg2 h
   refine Tk_condF (congrArg (fun b => some (Value.bool b)) hg2) ?_
   refine Tk_exit _ rfl ?_
   refine Tk_seq (Tk_region (Tops_step rfl (OpT_assign rfl rfl rfl rfl) ?_))
   refine Tops_nil (Tk_wkS (fr' := [(6, some (vB true))]) (own' := []) (shr' := []) [6] [] [] rfl rfl rfl rfl ?_)
   obtain rfl := Option.some.inj h
   exact Tk_retV rfl rfl (resA (vs := [vB true]) rfl ⟨rfl, trivial⟩) [] [] rfl rfl rfl ⟨rfl, rfl, rfl⟩

theorem ws_kit_Bufs {l : List (List Seg)} {vl1 : Value} {r : (List (List Seg))} (h : kit_Bufs l = some r) :
  Ctr Try.prog 27 #[vl1] [] [Fact.sl (Shape.slice SegS) vl1 l]
   (fun rv own shr => ∃ (w1 : Value), rv = w1 ∧ own = [] ∧ shr = [Fact.sl (Shape.slice SegS) w1 r]) :=
 Ctr.sh (w_kit_Bufs h) (by rintro w1 _ _ ⟨_, rfl, rfl, rfl⟩; exact ⟨[], _, _, _, _, rfl, w1, rfl, rfl, rfl⟩)
end Go.Proofs.Ytgcbcnpbnonnjaa
