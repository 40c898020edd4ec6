/- The functions do what the plain words say: each is walked once. No statement of the seat is proved here; no condition. -/
import Derived.Test.YtdaijemhibbgeaaWa1
namespace Go.Proofs.Ytdaijemhibbgeaa
attribute [local irreducible] sub
set_option maxRecDepth 100000 in
set_option maxHeartbeats 4000000 in
theorem w_seg_Part {l : List Seg} {write : Bool} {vl1 : Value} {r : (List Seg)} (h : seg_Part l write = some r) :
  Ctr Try.prog 51 #[vl1, vB write] [] [Fact.sl SegS vl1 l]
   (fun rv own shr => ∃ (w1 : Value), rv = w1 ∧ own = [(rowS SegS w1 r)] ∧ shr = []) := by
 unfold seg_Part at h
 refine Ctr.mk (args := [vl1, vB write]) Try.func51 rfl rfl (fun R0 w0 B => ?_)
 refine Tk_seq (Tk_region (Tops_step rfl (OpT_assign rfl rfl rfl rfl) ?_))
 refine Tops_nil (Tk_seq (Tk_seq (Tk_region (Tops_step rfl (OpT_move rfl rfl rfl rfl) ?_))))
 obtain ⟨check1, hx1, h⟩ := ob_e h
 refine Tops_exP rfl (OpT_call (w_seg_Check hx1) [] [0] rfl rfl rfl rfl rfl callee48 rfl rfl rfl rfl) ?_
 rintro _ ⟨_, _, _, ⟨rfl, rfl, rfl⟩, rfl⟩
 refine Tops_step rfl (OpT_bin rfl rfl rfl rfl rfl (bin_neq_i (a := check1) (b := (0 : Int)))) ?_
 refine Tops_nil (Tk_wkS (fr' := [(0, some (vl1)), (1, some (vB write)), (4, some (.slice none 0 0)), (9, some (vB (check1 != (0 : Int))))]) (own' := []) (shr' := [Fact.sl SegS vl1 l]) [0, 1, 4, 9] [] [0] rfl rfl rfl rfl ?_)
 rcases Bool.eq_false_or_eq_true (check1 != (0 : Int)) with hg1 | hg1
 ·replace h := br_t hg1 h
  refine Tk_condT (congrArg (fun b => some (Value.bool b)) hg1) ?_
  refine Tk_seq (Tk_region (Tops_step rfl (OpT_assign rfl rfl rfl rfl) ?_))
  refine Tops_nil (Tk_wkS (fr' := [(4, some (.slice none 0 0))]) (own' := []) (shr' := []) [4] [] [] rfl rfl rfl rfl ?_)
  refine Tk_nilrow SegS ?_
  obtain rfl := Option.some.inj h
  exact Tk_retV rfl rfl (resA (vs := [.slice none 0 0]) rfl ⟨rfl, trivial⟩) [0] [] rfl rfl rfl ⟨(.slice none 0 0), rfl, rfl, rfl⟩
 ·replace h := br_f hg1 h
  refine Tk_condF (congrArg (fun b => some (Value.bool b)) hg1) ?_
  refine Tk_skip (Tk_seq (Tk_seq (Tk_region (Tops_step rfl (OpT_move rfl rfl rfl rfl) ?_))))
  refine Tops_step rfl (OpT_lenS rfl rfl rfl rfl Try.underlying58 (i := 0) rfl) ?_
  refine Tops_step rfl (OpT_move rfl rfl rfl rfl) ?_
  refine Tops_nil (Tk_wkS (fr' := [(1, some (vB write)), (4, some (.slice none 0 0)), (10, some (vl1)), (11, some (vI (len l))), (12, some (vI (0 : Int)))]) (own' := []) (shr' := [Fact.sl SegS vl1 l]) [1, 4, 10, 11, 12] [] [0] rfl rfl rfl rfl ?_)
  refine Tk_block (Tk_nilrow SegS ?_)
  refine Tk_loopS (σ := (List Seg) × Int × Value) [1, 4, 10, 11, 12] [0] [0] (fun s => ⟨[(1, some (vB write)), (4, some (s.2.2)), (10, some (vl1)), (11, some (vI (len l))), (12, some (vI s.2.1))], [some (rowS SegS s.2.2 s.1)], [Fact.sl SegS vl1 l]⟩) (fun nf1 s => seg_PartL1 l write nf1 s.1 s.2.1 = some r) fuel ([], (0 : Int), (.slice none 0 0)) h rfl rfl rfl rfl rfl (fun s h => by cases h) ?_
  rintro nf1 ⟨out1, x1, v1⟩ h
  replace h : seg_PartL1B l write (seg_PartL1 l write nf1) out1 x1 = some r := h
  unfold seg_PartL1B at h
  refine Tk_seq (Tk_region (Tops_step rfl (OpT_bin rfl rfl rfl rfl rfl (bin_lss_i (a := x1) (b := len l))) ?_))
  refine Tops_nil (Tk_seq ?_)
  rcases Bool.eq_false_or_eq_true (decide (x1 < (len l))) with hg2 | hg2
  ·replace h := br_t hg2 h
   refine Tk_condT (congrArg (fun b => some (Value.bool b)) hg2) ?_
   refine Tk_skip (Tk_seq (Tk_block (Tk_seq (Tk_region ?_))))
   obtain ⟨s1, hx2, h⟩ := ob_e h
   refine Tops_ex rfl (OpT_idxS rfl rfl rfl rfl rfl slF58 (i := 0) rfl hx2) fun p1 => ?_
   refine Tops_step rfl (OpT_loadPA (vs := [vU64 s1.At, vU32 s1.Len, vB s1.Write]) rfl rfl rfl rfl tyF57 (i := 1) rfl rfl) ?_
   refine Tops_ex rfl (OpT_alloc rfl rfl rfl tyZ57) fun b1 => ?_
   refine Tops_step rfl (OpT_storeC (cs' := [vU64 s1.At, vU32 s1.Len, vB s1.Write]) rfl rfl rfl rfl tyF57 (i := 1) rfl rfl rfl (one_of rfl) rfl) ?_
   refine Tops_nil (Tk_wkS (fr' := [(1, some (vB write)), (4, some (v1)), (10, some (vl1)), (11, some (vI (len l))), (12, some (vI x1)), (6, some (.pointer (some ⟨b1, 0, none⟩)))]) (own' := [some (rowS SegS v1 out1), some (cellsR b1 57 [vU64 s1.At, vU32 s1.Len, vB s1.Write])]) (shr' := [Fact.sl SegS vl1 l]) [1, 4, 10, 11, 12, 6] [0, 1] [0] rfl rfl rfl rfl ?_)
   refine Tk_seq (Tk_region (Tops_step rfl (OpT_fieldC rfl rfl rfl rfl fldF57x2) ?_))
   refine Tops_step rfl (OpT_loadC rfl rfl rfl rfl tyF4 (i := 1) rfl rfl) ?_
   refine Tops_step rfl (OpT_move rfl rfl rfl rfl) ?_
   refine Tops_step rfl (OpT_bin rfl rfl rfl rfl rfl (bin_eql_b (a := s1.Write) (b := write) Try.underlying4)) ?_
   refine Tops_nil (Tk_wkS (fr' := [(1, some (vB write)), (4, some (v1)), (10, some (vl1)), (11, some (vI (len l))), (12, some (vI x1)), (6, some (.pointer (some ⟨b1, 0, none⟩))), (19, some (vB (s1.Write == write)))]) (own' := [some (rowS SegS v1 out1), some (cellsR b1 57 [vU64 s1.At, vU32 s1.Len, vB s1.Write])]) (shr' := [Fact.sl SegS vl1 l]) [1, 4, 10, 11, 12, 6, 19] [0, 1] [0] rfl rfl rfl rfl ?_)
   rcases Bool.eq_false_or_eq_true (s1.Write == write) with hg3 | hg3
   ·replace h := br_t hg3 h
    refine Tk_condT (congrArg (fun b => some (Value.bool b)) hg3) ?_
    refine Tk_region (Tops_step rfl (OpT_move rfl rfl rfl rfl) ?_)
    refine Tops_step rfl (OpT_loadCA (vs := [vU64 s1.At, vU32 s1.Len, vB s1.Write]) rfl rfl rfl rfl tyF57 (i := 1) rfl rfl rfl) ?_
    refine Tops_ex rfl (OpT_buildSlice (S := SegS) (xs := [s1]) (css := [[vU64 s1.At, vU32 s1.Len, vB s1.Write]]) (cs := [vU64 s1.At, vU32 s1.Len, vB s1.Write]) (e := 57) rfl rfl rfl rfl (bldF slF58 (by decide) (by kernel_rfl)) rfl rfl rfl rfl (rel_plainD (S := SegS) (xs := [s1]) (css := [[vU64 s1.At, vU32 s1.Len, vB s1.Write]]) rfl rfl)) fun v2 => ?_
    obtain ⟨hc1, h⟩ := chk_e h
    refine Tops_ex rfl (OpT_appendB (S := SegS) rfl rfl rfl rfl rfl rfl slF58 (i := 0) (j := 2) rfl rfl hc1) fun v3 => ?_
    refine Tops_step rfl (OpT_assign rfl rfl rfl rfl) ?_
    refine Tops_nil (Tk_wkS (fr' := [(1, some (vB write)), (4, some (v3)), (10, some (vl1)), (11, some (vI (len l))), (12, some (vI x1))]) (own' := [some (rowS SegS v3 (out1 ++ [s1]))]) (shr' := [Fact.sl SegS vl1 l]) [1, 4, 10, 11, 12] [0] [0] rfl rfl rfl rfl ?_)
    refine Tk_blk (Tk_region (Tops_step rfl (OpT_bin rfl rfl rfl rfl rfl (bin_add_i (a := x1) (b := (1 : Int)))) ?_))
    refine Tops_step rfl (OpT_move rfl rfl rfl rfl) ?_
    refine Tops_nil (Tk_wkS (fr' := [(1, some (vB write)), (4, some (v3)), (10, some (vl1)), (11, some (vI (len l))), (12, some (vI (wi (x1 + (1 : Int)))))]) (own' := [some (rowS SegS v3 (out1 ++ [s1]))]) (shr' := [Fact.sl SegS vl1 l]) [1, 4, 10, 11, 12] [0] [0] rfl rfl rfl rfl ?_)
    exact Tk_backS (out1 ++ [s1], wi (x1 + (1 : Int)), v3) h [1, 4, 10, 11, 12] [0] [0] rfl rfl rfl rfl rfl
   ·replace h := br_f hg3 h
    refine Tk_condF (congrArg (fun b => some (Value.bool b)) hg3) ?_
    refine Tk_skip (Tk_blk (Tk_region (Tops_step rfl (OpT_bin rfl rfl rfl rfl rfl (bin_add_i (a := x1) (b := (1 : Int)))) ?_)))
    refine Tops_step rfl (OpT_move rfl rfl rfl rfl) ?_
    refine Tops_nil (Tk_wkS (fr' := [(1, some (vB write)), (4, some (v1)), (10, some (vl1)), (11, some (vI (len l))), (12, some (vI (wi (x1 + (1 : Int)))))]) (own' := [some (rowS SegS v1 out1)]) (shr' := [Fact.sl SegS vl1 l]) [1, 4, 10, 11, 12] [0] [0] rfl rfl rfl rfl ?_)
    exact Tk_backS (out1, wi (x1 + (1 : Int)), v1) h [1, 4, 10, 11, 12] [0] [0] rfl rfl rfl rfl rfl
  ·replace h := br_f hg2 h
   refine Tk_condF (congrArg (fun b => some (Value.bool b)) hg2) ?_
   refine Tk_exit _ rfl ?_
   refine Tk_seq (Tk_region (Tops_step rfl (OpT_move rfl rfl rfl rfl) ?_))
   refine Tops_step rfl (OpT_assign rfl rfl rfl rfl) ?_
   refine Tops_nil (Tk_wkS (fr' := [(4, some (v1))]) (own' := [some (rowS SegS v1 out1)]) (shr' := []) [4] [0] [] rfl rfl rfl rfl ?_)
   obtain rfl := Option.some.inj h
   exact Tk_retV rfl rfl (resA (vs := [v1]) rfl ⟨rfl, trivial⟩) [0] [] rfl rfl rfl ⟨v1, rfl, rfl, rfl⟩

set_option maxRecDepth 100000 in
set_option maxHeartbeats 4000000 in
theorem w_seg_row_eat {rp0 : List Seg} {np1 : UInt64} {b_rp0 : Nat} {vrp01 : Value} {r : ((List Seg) × (List Seg))} (h : seg_row_eat rp0 np1 = some r) :
  Ctr Try.prog 52 #[.pointer (some ⟨b_rp0, 0, none⟩), vU64 np1] [(cellsR b_rp0 96 [vrp01])] [Fact.sl SegS vrp01 rp0]
   (fun rv own shr => ∃ (w1 : Value), ∃ (w2 : Value), rv = w1 ∧ own = [(cellsR b_rp0 96 [w2]), (rowS SegS w1 r.1)] ∧ shr = [Fact.sl SegS w2 r.2]) := by
 unfold seg_row_eat at h
 refine Ctr.mk (args := [.pointer (some ⟨b_rp0, 0, none⟩), vU64 np1]) Try.func52 rfl rfl (fun R0 w0 B => ?_)
 refine Tk_seq (Tk_region (Tops_step rfl (OpT_assign rfl rfl rfl rfl) ?_))
 refine Tops_nil (Tk_seq (Tk_block (Tk_nilrow SegS ?_)))
 refine Tk_loopS (σ := (List Seg) × UInt64 × (List Seg) × Value × Value) [0, 1, 4] [0, 1] [0] (fun s => ⟨[(0, some (.pointer (some ⟨b_rp0, 0, none⟩))), (1, some (vU64 s.2.1)), (4, some (s.2.2.2.2))], [some (cellsR b_rp0 96 [s.2.2.2.1]), some (rowS SegS s.2.2.2.2 s.2.2.1)], [Fact.sl SegS s.2.2.2.1 s.1]⟩) (fun nf1 s => seg_row_eatL1 nf1 s.1 s.2.1 s.2.2.1 = some r) fuel (rp0, np1, [], vrp01, (.slice none 0 0)) h rfl rfl rfl rfl rfl (fun s h => by cases h) ?_
 rintro nf1 ⟨m1, n1, out1, v1, v2⟩ h
 replace h : seg_row_eatL1B (seg_row_eatL1 nf1) m1 n1 out1 = some r := h
 unfold seg_row_eatL1B at h
 refine Tk_seq (Tk_seq (Tk_region (Tops_step rfl (OpT_move rfl rfl rfl rfl) ?_)))
 refine Tops_step rfl (OpT_bin rfl rfl rfl rfl rfl (bin_gtr_u64 (a := n1) (b := (0 : UInt64)))) ?_
 refine Tops_step rfl (OpT_move rfl rfl rfl rfl) ?_
 rcases Bool.eq_false_or_eq_true (decide (n1 > (0 : UInt64))) with hg1 | hg1
 ·replace h := br_t hg1 h
  refine Tops_yes rfl rfl (congrArg (fun b => some (Value.bool b)) hg1) (OpT_move rfl rfl rfl rfl) ?_
  rintro _ rfl
  refine Tops_yes rfl rfl (congrArg (fun b => some (Value.bool b)) hg1) (OpT_nilCheckP rfl rfl rfl rfl) ?_
  rintro _ rfl
  refine Tops_yes rfl rfl (congrArg (fun b => some (Value.bool b)) hg1) (OpT_loadC rfl rfl rfl rfl tyF96 (i := 0) rfl rfl) ?_
  rintro _ rfl
  refine Tops_yes rfl rfl (congrArg (fun b => some (Value.bool b)) hg1) (OpT_lenS rfl rfl rfl rfl Try.underlying96 (i := 0) rfl) ?_
  rintro _ rfl
  refine Tops_yes rfl rfl (congrArg (fun b => some (Value.bool b)) hg1) (OpT_bin rfl rfl rfl rfl rfl (bin_gtr_i (a := len m1) (b := (0 : Int)))) ?_
  rintro _ rfl
  refine Tops_step rfl (OpT_pickT rfl rfl rfl (congrArg (fun b => some (Value.bool b)) hg1) rfl) ?_
  refine Tops_nil (Tk_wkS (fr' := [(0, some (.pointer (some ⟨b_rp0, 0, none⟩))), (1, some (vU64 n1)), (4, some (v2)), (15, some (vB (decide ((len m1) > (0 : Int)))))]) (own' := [some (cellsR b_rp0 96 [v1]), some (rowS SegS v2 out1)]) (shr' := [Fact.sl SegS v1 m1]) [0, 1, 4, 15] [0, 1] [0] rfl rfl rfl rfl ?_)
  rcases Bool.eq_false_or_eq_true (decide ((len m1) > (0 : Int))) with hg2 | hg2
  ·replace h := br_t hg2 h
   refine Tk_condT (congrArg (fun b => some (Value.bool b)) hg2) ?_
   refine Tk_skip (Tk_block (Tk_seq (Tk_region (Tops_step rfl (OpT_move rfl rfl rfl rfl) ?_))))
   refine Tops_step rfl (OpT_nilCheckP rfl rfl rfl rfl) ?_
   refine Tops_step rfl (OpT_loadC rfl rfl rfl rfl tyF96 (i := 0) rfl rfl) ?_
   obtain ⟨s1, hx1, h⟩ := ob_e h
   refine Tops_ex rfl (OpT_idxS rfl rfl rfl rfl rfl slF96 (i := 0) rfl hx1) fun p1 => ?_
   refine Tops_step rfl (OpT_loadPA (vs := [vU64 s1.At, vU32 s1.Len, vB s1.Write]) rfl rfl rfl rfl tyF57 (i := 1) rfl rfl) ?_
   refine Tops_ex rfl (OpT_alloc rfl rfl rfl tyZ57) fun b1 => ?_
   refine Tops_step rfl (OpT_storeC (cs' := [vU64 s1.At, vU32 s1.Len, vB s1.Write]) rfl rfl rfl rfl tyF57 (i := 2) rfl rfl rfl (one_of rfl) rfl) ?_
   refine Tops_nil (Tk_wkS (fr' := [(0, some (.pointer (some ⟨b_rp0, 0, none⟩))), (1, some (vU64 n1)), (4, some (v2)), (5, some (.pointer (some ⟨b1, 0, none⟩)))]) (own' := [some (cellsR b_rp0 96 [v1]), some (rowS SegS v2 out1), some (cellsR b1 57 [vU64 s1.At, vU32 s1.Len, vB s1.Write])]) (shr' := [Fact.sl SegS v1 m1]) [0, 1, 4, 5] [0, 1, 2] [0] rfl rfl rfl rfl ?_)
   refine Tk_seq (Tk_region (Tops_step rfl (OpT_move rfl rfl rfl rfl) ?_))
   refine Tops_step rfl (OpT_fieldC rfl rfl rfl rfl fldF57x1) ?_
   refine Tops_step rfl (OpT_loadC rfl rfl rfl rfl tyF48 (i := 2) rfl rfl) ?_
   refine Tops_step rfl (OpT_cnv rfl rfl rfl rfl (cnv_u32_u64 (n := s1.Len) Try.underlying48 Try.underlying28)) ?_
   refine Tops_step rfl (OpT_min_u64 (u := n1) (v := s1.Len.toUInt64) rfl rfl rfl rfl rfl) ?_
   refine Tops_step rfl (OpT_assign rfl rfl rfl rfl) ?_
   refine Tops_nil (Tk_wkS (fr' := [(0, some (.pointer (some ⟨b_rp0, 0, none⟩))), (1, some (vU64 n1)), (4, some (v2)), (5, some (.pointer (some ⟨b1, 0, none⟩))), (6, some (vU64 (minu64 n1 s1.Len.toUInt64)))]) (own' := [some (cellsR b_rp0 96 [v1]), some (rowS SegS v2 out1), some (cellsR b1 57 [vU64 s1.At, vU32 s1.Len, vB s1.Write])]) (shr' := [Fact.sl SegS v1 m1]) [0, 1, 4, 5, 6] [0, 1, 2] [0] rfl rfl rfl rfl ?_)
   refine Tk_seq (Tk_region (Tops_step rfl (OpT_move rfl rfl rfl rfl) ?_))
   refine Tops_step rfl (OpT_fieldC rfl rfl rfl rfl fldF57x0) ?_
   refine Tops_step rfl (OpT_loadC rfl rfl rfl rfl tyF28 (i := 2) rfl rfl) ?_
   refine Tops_step rfl (OpT_move rfl rfl rfl rfl) ?_
   refine Tops_step rfl (OpT_cnv rfl rfl rfl rfl (cnv_u64_u32 (n := minu64 n1 s1.Len.toUInt64) Try.underlying28 Try.underlying48)) ?_
   refine Tops_step rfl (OpT_fieldC rfl rfl rfl rfl fldF57x2) ?_
   refine Tops_step rfl (OpT_loadC rfl rfl rfl rfl tyF4 (i := 2) rfl rfl) ?_
   refine Tops_step rfl (OpT_build (v := .agg #[vU64 s1.At, vU32 ((minu64 n1 s1.Len.toUInt64).toUInt32), vB s1.Write]) rfl rfl rfl rfl (bldV (by kernel_rfl))) ?_
   refine Tops_ex rfl (OpT_buildSlice (S := SegS) (xs := [(Seg.mk s1.At ((minu64 n1 s1.Len.toUInt64).toUInt32) s1.Write)]) (css := [[vU64 s1.At, vU32 ((minu64 n1 s1.Len.toUInt64).toUInt32), vB s1.Write]]) (cs := [vU64 s1.At, vU32 ((minu64 n1 s1.Len.toUInt64).toUInt32), vB s1.Write]) (e := 57) rfl rfl rfl rfl (bldF slF58 (by decide) (by kernel_rfl)) rfl rfl rfl rfl (rel_plainD (S := SegS) (xs := [(Seg.mk s1.At ((minu64 n1 s1.Len.toUInt64).toUInt32) s1.Write)]) (css := [[vU64 s1.At, vU32 ((minu64 n1 s1.Len.toUInt64).toUInt32), vB s1.Write]]) rfl rfl)) fun v3 => ?_
   obtain ⟨hc1, h⟩ := chk_e h
   refine Tops_ex rfl (OpT_appendB (S := SegS) rfl rfl rfl rfl rfl rfl slF58 (i := 1) (j := 3) rfl rfl hc1) fun v4 => ?_
   refine Tops_step rfl (OpT_assign rfl rfl rfl rfl) ?_
   refine Tops_nil (Tk_wkS (fr' := [(0, some (.pointer (some ⟨b_rp0, 0, none⟩))), (1, some (vU64 n1)), (4, some (v4)), (5, some (.pointer (some ⟨b1, 0, none⟩))), (6, some (vU64 (minu64 n1 s1.Len.toUInt64)))]) (own' := [some (cellsR b_rp0 96 [v1]), some (rowS SegS v4 (out1 ++ [(Seg.mk s1.At ((minu64 n1 s1.Len.toUInt64).toUInt32) s1.Write)])), some (cellsR b1 57 [vU64 s1.At, vU32 s1.Len, vB s1.Write])]) (shr' := [Fact.sl SegS v1 m1]) [0, 1, 4, 5, 6] [0, 1, 2] [0] rfl rfl rfl rfl ?_)
   refine Tk_seq (Tk_region (Tops_step rfl (OpT_move rfl rfl rfl rfl) ?_))
   refine Tops_step rfl (OpT_move rfl rfl rfl rfl) ?_
   refine Tops_step rfl (OpT_bin rfl rfl rfl rfl rfl (bin_sub_u64 (a := n1) (b := minu64 n1 s1.Len.toUInt64))) ?_
   refine Tops_step rfl (OpT_assign rfl rfl rfl rfl) ?_
   refine Tops_nil (Tk_wkS (fr' := [(0, some (.pointer (some ⟨b_rp0, 0, none⟩))), (1, some (vU64 (n1 - (minu64 n1 s1.Len.toUInt64)))), (4, some (v4)), (5, some (.pointer (some ⟨b1, 0, none⟩))), (6, some (vU64 (minu64 n1 s1.Len.toUInt64)))]) (own' := [some (cellsR b_rp0 96 [v1]), some (rowS SegS v4 (out1 ++ [(Seg.mk s1.At ((minu64 n1 s1.Len.toUInt64).toUInt32) s1.Write)])), some (cellsR b1 57 [vU64 s1.At, vU32 s1.Len, vB s1.Write])]) (shr' := [Fact.sl SegS v1 m1]) [0, 1, 4, 5, 6] [0, 1, 2] [0] rfl rfl rfl rfl ?_)
   refine Tk_seq (Tk_seq (Tk_region (Tops_step rfl (OpT_move rfl rfl rfl rfl) ?_)))
   refine Tops_step rfl (OpT_fieldC rfl rfl rfl rfl fldF57x1) ?_
   refine Tops_step rfl (OpT_loadC rfl rfl rfl rfl tyF48 (i := 2) rfl rfl) ?_
   refine Tops_step rfl (OpT_cnv rfl rfl rfl rfl (cnv_u32_u64 (n := s1.Len) Try.underlying48 Try.underlying28)) ?_
   refine Tops_step rfl (OpT_bin rfl rfl rfl rfl rfl (bin_lss_u64 (a := minu64 n1 s1.Len.toUInt64) (b := s1.Len.toUInt64))) ?_
   refine Tops_nil (Tk_wkS (fr' := [(0, some (.pointer (some ⟨b_rp0, 0, none⟩))), (1, some (vU64 (n1 - (minu64 n1 s1.Len.toUInt64)))), (4, some (v4)), (5, some (.pointer (some ⟨b1, 0, none⟩))), (6, some (vU64 (minu64 n1 s1.Len.toUInt64))), (43, some (vB (decide ((minu64 n1 s1.Len.toUInt64) < s1.Len.toUInt64))))]) (own' := [some (cellsR b_rp0 96 [v1]), some (rowS SegS v4 (out1 ++ [(Seg.mk s1.At ((minu64 n1 s1.Len.toUInt64).toUInt32) s1.Write)])), some (cellsR b1 57 [vU64 s1.At, vU32 s1.Len, vB s1.Write])]) (shr' := [Fact.sl SegS v1 m1]) [0, 1, 4, 5, 6, 43] [0, 1, 2] [0] rfl rfl rfl rfl ?_)
   rcases Bool.eq_false_or_eq_true (decide ((minu64 n1 s1.Len.toUInt64) < s1.Len.toUInt64)) with hg3 | hg3
   ·replace h := br_t hg3 h
    refine Tk_condT (congrArg (fun b => some (Value.bool b)) hg3) ?_
    refine Tk_seq (Tk_drawT (by kernel_rfl) ?_)
    refine TA_tb [0, 0, 2, 0, 14, 0, 32, 0, 128, 480, 0, 1024, 4094, 8190, 0, 16384, 49152, 114688, 262142, 524287, 1048575] (by kernel_rfl) fun htb => ?_
    refine TA_wkS (fr' := [(0, some (.pointer (some ⟨b_rp0, 0, none⟩))), (4, some (v4)), (5, some (.pointer (some ⟨b1, 0, none⟩))), (6, some (vU64 (minu64 n1 s1.Len.toUInt64)))]) (own' := [some (cellsR b_rp0 96 [v1]), some (rowS SegS v4 (out1 ++ [(Seg.mk s1.At ((minu64 n1 s1.Len.toUInt64).toUInt32) s1.Write)])), some (cellsR b1 57 [vU64 s1.At, vU32 s1.Len, vB s1.Write])]) (shr' := [Fact.sl SegS v1 m1]) [0, 4, 5, 6] [0, 1, 2] [0] rfl rfl rfl rfl ?_
    obtain ⟨hc2, h⟩ := chk_e h
    obtain ⟨hc3, h⟩ := chk_e h
    refine TA_seg (lo := 0) (hi := 19) htb rfl rfl (by kernel_rfl) (fun c L a w => ∃ (v5 : Value), ∃ (v6 : Value), ∃ (v7 : Value), Sat c ⟨[(0, some (.pointer (some ⟨b_rp0, 0, none⟩))), (4, some (v4)), (5, some (.pointer (some ⟨b1, 0, none⟩))), (6, some (vU64 (minu64 n1 s1.Len.toUInt64))), (44, bif L 0 then some (.pointer (some ⟨b_rp0, 0, none⟩)) else none), (45, bif L 1 then some (.pointer (some ⟨b1, 0, none⟩)) else none), (46, bif L 2 then some (vU64 s1.At) else none), (47, bif L 3 then some (vU64 (minu64 n1 s1.Len.toUInt64)) else none), (48, bif L 4 then some (vU64 (s1.At + (minu64 n1 s1.Len.toUInt64))) else none), (49, bif L 5 then some (.pointer (some ⟨b1, 1, none⟩)) else none), (50, bif L 6 then some (vU32 s1.Len) else none), (51, bif L 7 then some (vU64 (minu64 n1 s1.Len.toUInt64)) else none), (52, bif L 8 then some (vU32 ((minu64 n1 s1.Len.toUInt64).toUInt32)) else none), (53, bif L 9 then some (vU32 (s1.Len - ((minu64 n1 s1.Len.toUInt64).toUInt32))) else none), (54, bif L 10 then some (.pointer (some ⟨b1, 2, none⟩)) else none), (55, bif L 11 then some (vB s1.Write) else none), (56, bif L 12 then some (.agg #[vU64 (s1.At + (minu64 n1 s1.Len.toUInt64)), vU32 (s1.Len - ((minu64 n1 s1.Len.toUInt64).toUInt32)), vB s1.Write]) else none), (57, bif L 13 then some (v5) else none), (58, bif L 14 then some (.pointer (some ⟨b_rp0, 0, none⟩)) else none), (59, bif L 15 then some (.pointer (some ⟨b_rp0, 0, none⟩)) else none), (60, bif L 16 then some (v1) else none), (61, bif L 17 then some (v6) else none), (62, bif L 18 then some (v7) else none)], [(some (cellsR b_rp0 96 [v1]) : Option Res), (some (rowS SegS v4 (out1 ++ [(Seg.mk s1.At ((minu64 n1 s1.Len.toUInt64).toUInt32) s1.Write)])) : Option Res), (some (cellsR b1 57 [vU64 s1.At, vU32 s1.Len, vB s1.Write]) : Option Res), (bif L 18 then some (rowS SegS v7 ([(Seg.mk (s1.At + (minu64 n1 s1.Len.toUInt64)) (s1.Len - ((minu64 n1 s1.Len.toUInt64).toUInt32)) s1.Write)] ++ (sub m1 (1 : Int) (len m1)))) else bif L 13 then some (rowS SegS v5 [(Seg.mk (s1.At + (minu64 n1 s1.Len.toUInt64)) (s1.Len - ((minu64 n1 s1.Len.toUInt64).toUInt32)) s1.Write)]) else none : Option Res)], [Fact.sl SegS v1 m1, (bif L 17 then Fact.sl SegS v6 (sub m1 (1 : Int) (len m1)) else Fact.tt)]⟩ a w) [([], []), ([], [2, 4, 12, 13, 18]), ([1], [4, 12, 13, 18]), ([], [4, 12, 13, 18]), ([1, 2, 3], [12, 13, 18]), ([], [6, 9, 12, 13, 18]), ([5], [9, 12, 13, 18]), ([], [8, 9, 12, 13, 18]), ([7], [9, 12, 13, 18]), ([5, 6, 7, 8], [12, 13, 18]), ([], [11, 12, 13, 18]), ([10], [12, 13, 18]), ([1, 2, 3, 4, 5, 6, 7, 8, 9, 10, 11], [13, 18]), ([1, 2, 3, 4, 5, 6, 7, 8, 9, 10, 11, 12], [18]), ([], [15, 16, 17, 18]), ([14], [16, 17, 18]), ([14, 15], [17, 18]), ([14, 15, 16], [18]), ([1, 2, 3, 4, 5, 6, 7, 8, 9, 10, 11, 12, 13, 14, 15, 16, 17], [])] rfl (by kernel_rfl) ?_ (steps_cons ?_ (steps_cons ?_ (steps_cons ?_ (steps_cons ?_ (steps_cons ?_ (steps_cons ?_ (steps_cons ?_ (steps_cons ?_ (steps_cons ?_ (steps_cons ?_ (steps_cons ?_ (steps_cons ?_ (steps_cons ?_ (steps_cons ?_ (steps_cons ?_ (steps_cons ?_ (steps_cons ?_ (steps_cons ?_ (steps_cons ?_ (steps_nil)))))))))))))))))))) ?_
    ·intro a w hs
     exact ⟨undef, undef, undef, hs.startF [44, 45, 46, 47, 48, 49, 50, 51, 52, 53, 54, 55, 56, 57, 58, 59, 60, 61, 62] [0, 1, 2, 3] [0, 1] rfl rfl rfl rfl⟩
    ·intro L a w hv K Q hK
     obtain ⟨v5, v6, v7, hs⟩ := hv
     refine wpOp_go rfl rfl hs (OpT_move rfl rfl rfl rfl) ?_
     rintro _ rfl a' w' hs'
     exact hK a' w' ⟨v5, v6, v7, hs'.putF (i := 4) rfl [0, 1, 2, 3] [0, 1] rfl rfl rfl rfl⟩
    ·intro L a w hv K Q hK
     obtain ⟨v5, v6, v7, hs⟩ := hv
     refine wpOp_go rfl rfl hs (OpT_fieldC rfl rfl rfl rfl fldF57x0) ?_
     rintro _ rfl a' w' hs'
     exact hK a' w' ⟨v5, v6, v7, hs'.putF (i := 5) rfl [0, 1, 2, 3] [0, 1] rfl rfl rfl rfl⟩
    ·intro L a w hv K Q hK
     obtain ⟨v5, v6, v7, hs⟩ := hv
     refine wpOp_go rfl rfl hs (OpT_loadC rfl rfl rfl rfl tyF28 (i := 2) rfl rfl) ?_
     rintro _ rfl a' w' hs'
     exact hK a' w' ⟨v5, v6, v7, hs'.putF (i := 6) rfl [0, 1, 2, 3] [0, 1] rfl rfl rfl rfl⟩
    ·intro L a w hv K Q hK
     obtain ⟨v5, v6, v7, hs⟩ := hv
     refine wpOp_go rfl rfl hs (OpT_move rfl rfl rfl rfl) ?_
     rintro _ rfl a' w' hs'
     exact hK a' w' ⟨v5, v6, v7, hs'.putF (i := 7) rfl [0, 1, 2, 3] [0, 1] rfl rfl rfl rfl⟩
    ·intro L a w hv K Q hK
     obtain ⟨v5, v6, v7, hs⟩ := hv
     refine wpOp_go rfl rfl hs (OpT_bin rfl rfl rfl rfl rfl (bin_add_u64 (a := s1.At) (b := minu64 n1 s1.Len.toUInt64))) ?_
     rintro _ rfl a' w' hs'
     exact hK a' w' ⟨v5, v6, v7, hs'.putF (i := 8) rfl [0, 1, 2, 3] [0, 1] rfl rfl rfl rfl⟩
    ·intro L a w hv K Q hK
     obtain ⟨v5, v6, v7, hs⟩ := hv
     refine wpOp_go rfl rfl hs (OpT_fieldC rfl rfl rfl rfl fldF57x1) ?_
     rintro _ rfl a' w' hs'
     exact hK a' w' ⟨v5, v6, v7, hs'.putF (i := 9) rfl [0, 1, 2, 3] [0, 1] rfl rfl rfl rfl⟩
    ·intro L a w hv K Q hK
     obtain ⟨v5, v6, v7, hs⟩ := hv
     refine wpOp_go rfl rfl hs (OpT_loadC rfl rfl rfl rfl tyF48 (i := 2) rfl rfl) ?_
     rintro _ rfl a' w' hs'
     exact hK a' w' ⟨v5, v6, v7, hs'.putF (i := 10) rfl [0, 1, 2, 3] [0, 1] rfl rfl rfl rfl⟩
    ·intro L a w hv K Q hK
     obtain ⟨v5, v6, v7, hs⟩ := hv
     refine wpOp_go rfl rfl hs (OpT_move rfl rfl rfl rfl) ?_
     rintro _ rfl a' w' hs'
     exact hK a' w' ⟨v5, v6, v7, hs'.putF (i := 11) rfl [0, 1, 2, 3] [0, 1] rfl rfl rfl rfl⟩
    ·intro L a w hv K Q hK
     obtain ⟨v5, v6, v7, hs⟩ := hv
     refine wpOp_go rfl rfl hs (OpT_cnv rfl rfl rfl rfl (cnv_u64_u32 (n := minu64 n1 s1.Len.toUInt64) Try.underlying28 Try.underlying48)) ?_
     rintro _ rfl a' w' hs'
     exact hK a' w' ⟨v5, v6, v7, hs'.putF (i := 12) rfl [0, 1, 2, 3] [0, 1] rfl rfl rfl rfl⟩
    ·intro L a w hv K Q hK
     obtain ⟨v5, v6, v7, hs⟩ := hv
     refine wpOp_go rfl rfl hs (OpT_bin rfl rfl rfl rfl rfl (bin_sub_u32 (a := s1.Len) (b := (minu64 n1 s1.Len.toUInt64).toUInt32))) ?_
     rintro _ rfl a' w' hs'
     exact hK a' w' ⟨v5, v6, v7, hs'.putF (i := 13) rfl [0, 1, 2, 3] [0, 1] rfl rfl rfl rfl⟩
    ·intro L a w hv K Q hK
     obtain ⟨v5, v6, v7, hs⟩ := hv
     refine wpOp_go rfl rfl hs (OpT_fieldC rfl rfl rfl rfl fldF57x2) ?_
     rintro _ rfl a' w' hs'
     exact hK a' w' ⟨v5, v6, v7, hs'.putF (i := 14) rfl [0, 1, 2, 3] [0, 1] rfl rfl rfl rfl⟩
    ·intro L a w hv K Q hK
     obtain ⟨v5, v6, v7, hs⟩ := hv
     refine wpOp_go rfl rfl hs (OpT_loadC rfl rfl rfl rfl tyF4 (i := 2) rfl rfl) ?_
     rintro _ rfl a' w' hs'
     exact hK a' w' ⟨v5, v6, v7, hs'.putF (i := 15) rfl [0, 1, 2, 3] [0, 1] rfl rfl rfl rfl⟩
    ·intro L a w hv K Q hK
     obtain ⟨v5, v6, v7, hs⟩ := hv
     refine wpOp_go rfl rfl hs (OpT_build (v := .agg #[vU64 (s1.At + (minu64 n1 s1.Len.toUInt64)), vU32 (s1.Len - ((minu64 n1 s1.Len.toUInt64).toUInt32)), vB s1.Write]) rfl rfl rfl rfl (bldV (by kernel_rfl))) ?_
     rintro _ rfl a' w' hs'
     exact hK a' w' ⟨v5, v6, v7, hs'.putF (i := 16) rfl [0, 1, 2, 3] [0, 1] rfl rfl rfl rfl⟩
    ·intro L a w hv K Q hK
     obtain ⟨v5, v6, v7, hs⟩ := hv
     refine wpOp_go rfl rfl hs (OpT_buildSlice (S := SegS) (xs := [(Seg.mk (s1.At + (minu64 n1 s1.Len.toUInt64)) (s1.Len - ((minu64 n1 s1.Len.toUInt64).toUInt32)) s1.Write)]) (css := [[vU64 (s1.At + (minu64 n1 s1.Len.toUInt64)), vU32 (s1.Len - ((minu64 n1 s1.Len.toUInt64).toUInt32)), vB s1.Write]]) (cs := [vU64 (s1.At + (minu64 n1 s1.Len.toUInt64)), vU32 (s1.Len - ((minu64 n1 s1.Len.toUInt64).toUInt32)), vB s1.Write]) (e := 57) rfl rfl rfl rfl (bldF slF96 (by decide) (by kernel_rfl)) rfl rfl rfl rfl (rel_plainD (S := SegS) (xs := [(Seg.mk (s1.At + (minu64 n1 s1.Len.toUInt64)) (s1.Len - ((minu64 n1 s1.Len.toUInt64).toUInt32)) s1.Write)]) (css := [[vU64 (s1.At + (minu64 n1 s1.Len.toUInt64)), vU32 (s1.Len - ((minu64 n1 s1.Len.toUInt64).toUInt32)), vB s1.Write]]) rfl rfl)) ?_
     rintro _ ⟨v5', rfl⟩ a' w' hs'
     exact hK a' w' ⟨v5', v6, v7, hs'.putF (i := 17) rfl [0, 1, 2, 4] [0, 1] rfl rfl rfl rfl⟩
    ·intro L a w hv K Q hK
     obtain ⟨v5, v6, v7, hs⟩ := hv
     refine wpOp_go rfl rfl hs (OpT_move rfl rfl rfl rfl) ?_
     rintro _ rfl a' w' hs'
     exact hK a' w' ⟨v5, v6, v7, hs'.putF (i := 18) rfl [0, 1, 2, 3] [0, 1] rfl rfl rfl rfl⟩
    ·intro L a w hv K Q hK
     obtain ⟨v5, v6, v7, hs⟩ := hv
     refine wpOp_go rfl rfl hs (OpT_nilCheckP rfl rfl rfl rfl) ?_
     rintro _ rfl a' w' hs'
     exact hK a' w' ⟨v5, v6, v7, hs'.putF (i := 19) rfl [0, 1, 2, 3] [0, 1] rfl rfl rfl rfl⟩
    ·intro L a w hv K Q hK
     obtain ⟨v5, v6, v7, hs⟩ := hv
     refine wpOp_go rfl rfl hs (OpT_loadC rfl rfl rfl rfl tyF96 (i := 0) rfl rfl) ?_
     rintro _ rfl a' w' hs'
     exact hK a' w' ⟨v5, v6, v7, hs'.putF (i := 20) rfl [0, 1, 2, 3] [0, 1] rfl rfl rfl rfl⟩
    ·intro L a w hv K Q hK
     obtain ⟨v5, v6, v7, hs⟩ := hv
     refine wpOp_go rfl rfl hs (OpT_sliceL (l := (1 : Int)) rfl rfl rfl rfl rfl slF96 (i := 0) rfl hc2) ?_
     rintro _ ⟨v6', rfl⟩ a' w' hs'
     exact hK a' w' ⟨v5, v6', v7, hs'.putF (i := 21) rfl [0, 1, 2, 3] [0, 2] rfl rfl rfl rfl⟩
    ·intro L a w hv K Q hK
     obtain ⟨v5, v6, v7, hs⟩ := hv
     refine wpOp_go rfl rfl hs (OpT_append rfl rfl rfl rfl rfl slF96 (i := 3) (j := 1) rfl rfl hc3) ?_
     rintro _ ⟨v7', rfl⟩ a' w' hs'
     exact hK a' w' ⟨v5, v6, v7', hs'.putF (i := 22) rfl [0, 1, 2, 3] [0, 1] rfl rfl rfl rfl⟩
    ·intro L a w hL hv
     rw [allTrue hL] at hv
     obtain ⟨v5, v6, v7, hs⟩ := hv
     refine (show TA _ _ _ 19 ⟨[(4, some (v4)), (44, some (.pointer (some ⟨b_rp0, 0, none⟩))), (62, some (v7))], [some (cellsR b_rp0 96 [v1]), some (rowS SegS v4 (out1 ++ [(Seg.mk s1.At ((minu64 n1 s1.Len.toUInt64).toUInt32) s1.Write)])), some (rowS SegS v7 ([(Seg.mk (s1.At + (minu64 n1 s1.Len.toUInt64)) (s1.Len - ((minu64 n1 s1.Len.toUInt64).toUInt32)) s1.Write)] ++ (sub m1 (1 : Int) (len m1))))], [Fact.sl SegS v1 m1]⟩ from ?_) a w (hs.wkS [4, 44, 62] [0, 1, 3] [0] rfl rfl rfl rfl)
     clear hs hL
     refine TA_step htb (by kernel_rfl) rfl rfl (OpT_nilCheckP rfl rfl rfl rfl) ?_
     refine TA_step htb (by kernel_rfl) rfl rfl (OpT_storeV (cs' := [v7]) rfl rfl rfl rfl tyF96 (i := 0) rfl (is_row (i := 2) rfl) rfl rfl) ?_
     refine TA_end rfl ?_
     refine Tk_wkS (fr' := [(4, some (v4))]) (own' := [some (cellsR b_rp0 96 [v7]), some (rowS SegS v4 (out1 ++ [(Seg.mk s1.At ((minu64 n1 s1.Len.toUInt64).toUInt32) s1.Write)])), some (rowS SegS v7 ([(Seg.mk (s1.At + (minu64 n1 s1.Len.toUInt64)) (s1.Len - ((minu64 n1 s1.Len.toUInt64).toUInt32)) s1.Write)] ++ (sub m1 (1 : Int) (len m1))))]) (shr' := []) [4] [0, 1, 2] [] rfl rfl rfl rfl ?_
     refine Tk_seq (Tk_region (Tops_step rfl (OpT_move rfl rfl rfl rfl) ?_))
     refine Tops_step rfl (OpT_assign rfl rfl rfl rfl) ?_
     refine Tops_nil (Tk_wkS (fr' := [(4, some (v4))]) (own' := [some (cellsR b_rp0 96 [v7]), some (rowS SegS v4 (out1 ++ [(Seg.mk s1.At ((minu64 n1 s1.Len.toUInt64).toUInt32) s1.Write)])), some (rowS SegS v7 ([(Seg.mk (s1.At + (minu64 n1 s1.Len.toUInt64)) (s1.Len - ((minu64 n1 s1.Len.toUInt64).toUInt32)) s1.Write)] ++ (sub m1 (1 : Int) (len m1))))]) (shr' := []) [4] [0, 1, 2] [] rfl rfl rfl rfl ?_)
     refine Tk_retire (i := 2) rfl ?_
     obtain rfl := Option.some.inj h
     exact Tk_retV rfl rfl (resA (vs := [v4]) rfl ⟨rfl, trivial⟩) [0, 1] [0] rfl rfl rfl ⟨v4, v7, rfl, rfl, rfl⟩
   ·replace h := br_f hg3 h
    refine Tk_condF (congrArg (fun b => some (Value.bool b)) hg3) ?_
    refine Tk_skip (Tk_region (Tops_step rfl (OpT_move rfl rfl rfl rfl) ?_))
    refine Tops_step rfl (OpT_move rfl rfl rfl rfl) ?_
    refine Tops_step rfl (OpT_nilCheckP rfl rfl rfl rfl) ?_
    refine Tops_step rfl (OpT_loadC rfl rfl rfl rfl tyF96 (i := 0) rfl rfl) ?_
    obtain ⟨hc4, h⟩ := chk_e h
    refine Tops_ex rfl (OpT_sliceL (l := (1 : Int)) rfl rfl rfl rfl rfl slF96 (i := 0) rfl hc4) fun v8 => ?_
    refine Tops_step rfl (OpT_nilCheckP rfl rfl rfl rfl) ?_
    refine Tops_step rfl (OpT_storeV (cs' := [v8]) rfl rfl rfl rfl tyF96 (i := 0) rfl (is_sl (i := 1) rfl) rfl rfl) ?_
    refine Tops_nil (Tk_wkS (fr' := [(0, some (.pointer (some ⟨b_rp0, 0, none⟩))), (1, some (vU64 (n1 - (minu64 n1 s1.Len.toUInt64)))), (4, some (v4))]) (own' := [some (cellsR b_rp0 96 [v8]), some (rowS SegS v4 (out1 ++ [(Seg.mk s1.At ((minu64 n1 s1.Len.toUInt64).toUInt32) s1.Write)]))]) (shr' := [Fact.sl SegS v8 (sub m1 (1 : Int) (len m1))]) [0, 1, 4] [0, 1] [1] rfl rfl rfl rfl ?_)
    refine Tk_blk ?_
    exact Tk_backS (sub m1 (1 : Int) (len m1), n1 - (minu64 n1 s1.Len.toUInt64), out1 ++ [(Seg.mk s1.At ((minu64 n1 s1.Len.toUInt64).toUInt32) s1.Write)], v8, v4) h [0, 1, 4] [0, 1] [0] rfl rfl rfl rfl rfl
  ·replace h := br_f hg2 h
   refine Tk_condF (congrArg (fun b => some (Value.bool b)) hg2) ?_
   refine Tk_exit _ rfl ?_
   refine Tk_seq (Tk_region (Tops_step rfl (OpT_move rfl rfl rfl rfl) ?_))
   refine Tops_step rfl (OpT_assign rfl rfl rfl rfl) ?_
   refine Tops_nil (Tk_wkS (fr' := [(4, some (v2))]) (own' := [some (cellsR b_rp0 96 [v1]), some (rowS SegS v2 out1)]) (shr' := [Fact.sl SegS v1 m1]) [4] [0, 1] [0] rfl rfl rfl rfl ?_)
   obtain rfl := Option.some.inj h
   exact Tk_retV rfl rfl (resA (vs := [v2]) rfl ⟨rfl, trivial⟩) [0, 1] [0] rfl rfl rfl ⟨v2, v1, rfl, rfl, rfl⟩
 ·replace h := br_f hg1 h
  refine Tops_no rfl rfl (congrArg (fun b => some (Value.bool b)) hg1) rfl rfl ?_
  refine Tops_no rfl rfl (congrArg (fun b => some (Value.bool b)) hg1) rfl rfl ?_
  refine Tops_no rfl rfl (congrArg (fun b => some (Value.bool b)) hg1) rfl rfl ?_
  refine Tops_no rfl rfl (congrArg (fun b => some (Value.bool b)) hg1) rfl rfl ?_
  refine Tops_no rfl rfl (congrArg (fun b => some (Value.bool b)) hg1) rfl rfl ?_
  refine Tops_step rfl (OpT_pickF rfl rfl rfl (congrArg (fun b => some (Value.bool b)) hg1) rfl) ?_
  refine Tops_nil (Tk_wkS (fr' := [(0, some (.pointer (some ⟨b_rp0, 0, none⟩))), (1, some (vU64 n1)), (4, some (v2)), (15, some (vB false))]) (own' := [some (cellsR b_rp0 96 [v1]), some (rowS SegS v2 out1)]) (shr' := [Fact.sl SegS v1 m1]) [0, 1, 4, 15] [0, 1] [0] rfl rfl rfl rfl ?_)
  refine Tk_condF rfl ?_
  refine Tk_exit _ rfl ?_
  refine Tk_seq (Tk_region (Tops_step rfl (OpT_move rfl rfl rfl rfl) ?_))
  refine Tops_step rfl (OpT_assign rfl rfl rfl rfl) ?_
  refine Tops_nil (Tk_wkS (fr' := [(4, some (v2))]) (own' := [some (cellsR b_rp0 96 [v1]), some (rowS SegS v2 out1)]) (shr' := [Fact.sl SegS v1 m1]) [4] [0, 1] [0] rfl rfl rfl rfl ?_)
  obtain rfl := Option.some.inj h
  exact Tk_retV rfl rfl (resA (vs := [v2]) rfl ⟨rfl, trivial⟩) [0, 1] [0] rfl rfl rfl ⟨v2, v1, rfl, rfl, rfl⟩

set_option maxRecDepth 100000 in
set_option maxHeartbeats 4000000 in
theorem w_seg_Scatter {m : gmem_Mem} {l : List Seg} {b : List UInt8} {b_m : Nat} {vm1 : Value} {vm2 : Value} {vsm1 : List Value} {vl1 : Value} {vb1 : Value} {r : (Int × Int × (List (List UInt8)))} (h : seg_Scatter m l b = some r) :
  Ctr Try.prog 38 #[.pointer (some ⟨b_m, 0, none⟩), vl1, vb1] [(cellsR b_m 78 [vm1, vm2]), (rowsX u8S true vm2 vsm1 m.b none)] [Fact.sl RegionS vm1 m.l, Fact.sl SegS vl1 l, Fact.sl u8S vb1 b]
   (fun rv own shr => rv = .tuple #[vI r.1, vI r.2.1] ∧ own = [(cellsR b_m 78 [vm1, vm2]), (rowsX u8S true vm2 vsm1 r.2.2 none)] ∧ shr = []) := by
 unfold seg_Scatter at h
 refine Ctr.mk (args := [.pointer (some ⟨b_m, 0, none⟩), vl1, vb1]) Try.func38 rfl rfl (fun R0 w0 B => ?_)
 refine Tk_seq (Tk_region (Tops_step rfl (OpT_assign rfl rfl rfl rfl) ?_))
 refine Tops_step rfl (OpT_assign rfl rfl rfl rfl) ?_
 refine Tops_nil (Tk_wkS (fr' := [(0, some (.pointer (some ⟨b_m, 0, none⟩))), (1, some (vl1)), (2, some (vb1))]) (own' := [some (cellsR b_m 78 [vm1, vm2]), some (rowsX u8S true vm2 vsm1 m.b none)]) (shr' := [Fact.sl RegionS vm1 m.l, Fact.sl SegS vl1 l, Fact.sl u8S vb1 b]) [0, 1, 2] [0, 1] [0, 1, 2] rfl rfl rfl rfl ?_)
 refine Tk_seq (Tk_seq (Tk_region (Tops_step rfl (OpT_move rfl rfl rfl rfl) ?_)))
 refine Tops_step rfl (OpT_move rfl rfl rfl rfl) ?_
 obtain ⟨in1, hx1, h⟩ := ob_e h
 refine Tops_exP rfl (OpT_callP [2, 3] (w_seg_In hx1) [0, 1] [0, 1] rfl rfl rfl rfl rfl callee34 rfl rfl rfl rfl rfl) ?_
 rintro _ ⟨_, _, _, ⟨rfl, rfl, rfl⟩, rfl⟩
 refine Tops_step rfl (OpT_assign rfl rfl rfl rfl) ?_
 refine Tops_nil (Tk_wkS (fr' := [(0, some (.pointer (some ⟨b_m, 0, none⟩))), (1, some (vl1)), (2, some (vb1)), (8, some (vI in1))]) (own' := [some (cellsR b_m 78 [vm1, vm2]), some (rowsX u8S true vm2 vsm1 m.b none)]) (shr' := [Fact.sl RegionS vm1 m.l, Fact.sl SegS vl1 l, Fact.sl u8S vb1 b]) [0, 1, 2, 8] [0, 1] [0, 1, 2] rfl rfl rfl rfl ?_)
 refine Tk_seq (Tk_region (Tops_step rfl (OpT_move rfl rfl rfl rfl) ?_))
 refine Tops_step rfl (OpT_bin rfl rfl rfl rfl rfl (bin_neq_i (a := in1) (b := (0 : Int)))) ?_
 refine Tops_nil (Tk_wkS (fr' := [(0, some (.pointer (some ⟨b_m, 0, none⟩))), (1, some (vl1)), (2, some (vb1)), (8, some (vI in1)), (18, some (vB (in1 != (0 : Int))))]) (own' := [some (cellsR b_m 78 [vm1, vm2]), some (rowsX u8S true vm2 vsm1 m.b none)]) (shr' := [Fact.sl RegionS vm1 m.l, Fact.sl SegS vl1 l, Fact.sl u8S vb1 b]) [0, 1, 2, 8, 18] [0, 1] [0, 1, 2] rfl rfl rfl rfl ?_)
 rcases Bool.eq_false_or_eq_true (in1 != (0 : Int)) with hg1 | hg1
 ·replace h := br_t hg1 h
  refine Tk_condT (congrArg (fun b => some (Value.bool b)) hg1) ?_
  refine Tk_seq (Tk_region (Tops_step rfl (OpT_move rfl rfl rfl rfl) ?_))
  refine Tops_step rfl (OpT_assign rfl rfl rfl rfl) ?_
  refine Tops_step rfl (OpT_assign rfl rfl rfl rfl) ?_
  refine Tops_nil (Tk_wkS (fr' := [(6, some (vI (0 : Int))), (7, some (vI in1))]) (own' := [some (cellsR b_m 78 [vm1, vm2]), some (rowsX u8S true vm2 vsm1 m.b none)]) (shr' := [Fact.sl RegionS vm1 m.l]) [6, 7] [0, 1] [0] rfl rfl rfl rfl ?_)
  obtain rfl := Option.some.inj h
  exact Tk_retV rfl rfl (resA (vs := [vI (0 : Int), vI in1]) rfl ⟨rfl, rfl, trivial⟩) [0, 1] [] rfl rfl rfl ⟨rfl, rfl, rfl⟩
 ·replace h := br_f hg1 h
  refine Tk_condF (congrArg (fun b => some (Value.bool b)) hg1) ?_
  refine Tk_skip (Tk_seq (Tk_region (Tops_step rfl (OpT_move rfl rfl rfl rfl) ?_)))
  obtain ⟨part1, hx2, h⟩ := ob_e h
  refine Tops_exP rfl (OpT_call (w_seg_Part hx2) [] [1] rfl rfl rfl rfl rfl callee51 rfl rfl rfl rfl) ?_
  rintro _ ⟨v1, _, _, ⟨_, rfl, rfl, rfl⟩, rfl⟩
  refine Tops_ex rfl (OpT_alloc rfl rfl rfl tyZ96) fun b1 => ?_
  refine Tops_step rfl (OpT_storeV (cs' := [v1]) rfl rfl rfl rfl tyF96 (i := 3) rfl (is_row (i := 2) rfl) rfl rfl) ?_
  refine Tops_nil (Tk_wkS (fr' := [(0, some (.pointer (some ⟨b_m, 0, none⟩))), (2, some (vb1)), (9, some (.pointer (some ⟨b1, 0, none⟩)))]) (own' := [some (cellsR b_m 78 [vm1, vm2]), some (rowsX u8S true vm2 vsm1 m.b none), some (rowS SegS v1 part1), some (cellsR b1 96 [v1])]) (shr' := [Fact.sl RegionS vm1 m.l, Fact.sl u8S vb1 b]) [0, 2, 9] [0, 1, 2, 3] [0, 2] rfl rfl rfl rfl ?_)
  refine Tk_seq (Tk_region (Tops_step rfl (OpT_assign rfl rfl rfl rfl) ?_))
  refine Tops_nil (Tk_seq (Tk_seq (Tk_region (Tops_step rfl (OpT_move rfl rfl rfl rfl) ?_))))
  refine Tops_step rfl (OpT_lenS rfl rfl rfl rfl Try.underlying24 (i := 1) rfl) ?_
  refine Tops_step rfl (OpT_cnv rfl rfl rfl rfl (cnv_i_u64 (n := len b) Try.underlying3 Try.underlying28)) ?_
  refine Tops_retire (i := 2) rfl ?_
  obtain ⟨eat1, hx3, h⟩ := ob_e h
  refine Tops_exP rfl (OpT_callP [0, 1, 2, 4, 5] (w_seg_row_eat hx3) [3] [2] rfl rfl rfl rfl rfl callee52 rfl rfl rfl rfl rfl) ?_
  rintro _ ⟨v2, _, _, ⟨_, v3, rfl, rfl, rfl⟩, rfl⟩
  refine Tops_step rfl (OpT_lenO rfl rfl rfl rfl Try.underlying58 (i := 4) rfl) ?_
  refine Tops_step rfl (OpT_move rfl rfl rfl rfl) ?_
  refine Tops_nil (Tk_wkS (fr' := [(0, some (.pointer (some ⟨b_m, 0, none⟩))), (2, some (vb1)), (10, some (vI (0 : Int))), (25, some (v2)), (26, some (vI (len eat1.1))), (27, some (vI (0 : Int)))]) (own' := [some (cellsR b_m 78 [vm1, vm2]), some (rowsX u8S true vm2 vsm1 m.b none), some (rowS SegS v2 eat1.1)]) (shr' := [Fact.sl RegionS vm1 m.l, Fact.sl u8S vb1 b]) [0, 2, 10, 25, 26, 27] [0, 1, 4] [0, 1] rfl rfl rfl rfl ?_)
  refine Tk_block (Tk_loopS (σ := (List (List UInt8)) × Int × (List Seg) × Int × Value) [0, 2, 10, 25, 26, 27] [0, 1, 2] [0, 1] (fun s => ⟨[(0, some (.pointer (some ⟨b_m, 0, none⟩))), (2, some (vb1)), (10, some (vI s.2.1)), (25, some (s.2.2.2.2)), (26, some (vI (len eat1.1))), (27, some (vI s.2.2.2.1))], [some (cellsR b_m 78 [vm1, vm2]), some (rowsX u8S true vm2 vsm1 s.1 none), some (rowS SegS s.2.2.2.2 s.2.2.1)], [Fact.sl RegionS vm1 m.l, Fact.sl u8S vb1 b]⟩) (fun nf1 s => seg_ScatterL1 m b eat1 nf1 s.1 s.2.1 s.2.2.1 s.2.2.2.1 = some r) fuel (m.b, (0 : Int), eat1.1, (0 : Int), v2) h rfl rfl rfl rfl rfl (fun s h => by cases h) ?_)
  rintro nf1 ⟨rows1, n1, l1, x1, v4⟩ h
  replace h : seg_ScatterL1B m b eat1 (seg_ScatterL1 m b eat1 nf1) rows1 n1 l1 x1 = some r := h
  unfold seg_ScatterL1B at h
  refine Tk_seq (Tk_region (Tops_step rfl (OpT_bin rfl rfl rfl rfl rfl (bin_lss_i (a := x1) (b := len eat1.1))) ?_))
  refine Tops_nil (Tk_seq ?_)
  rcases Bool.eq_false_or_eq_true (decide (x1 < (len eat1.1))) with hg2 | hg2
  ·replace h := br_t hg2 h
   refine Tk_condT (congrArg (fun b => some (Value.bool b)) hg2) ?_
   refine Tk_skip (Tk_seq (Tk_block (Tk_seq (Tk_region ?_))))
   obtain ⟨s1, hx4, h⟩ := ob_e h
   refine Tops_step rfl (OpT_idxO rfl rfl rfl rfl rfl slF58 (i := 2) rfl hx4) ?_
   refine Tops_step rfl (OpT_loadOA (S := SegS) (vs := [vU64 s1.At, vU32 s1.Len, vB s1.Write]) rfl rfl rfl rfl rfl tyF57 (i := 2) rfl hx4 rfl) ?_
   refine Tops_ex rfl (OpT_alloc rfl rfl rfl tyZ57) fun b2 => ?_
   refine Tops_step rfl (OpT_storeC (cs' := [vU64 s1.At, vU32 s1.Len, vB s1.Write]) rfl rfl rfl rfl tyF57 (i := 3) rfl rfl rfl (one_of rfl) rfl) ?_
   refine Tops_nil (Tk_wkS (fr' := [(0, some (.pointer (some ⟨b_m, 0, none⟩))), (2, some (vb1)), (10, some (vI n1)), (25, some (v4)), (26, some (vI (len eat1.1))), (27, some (vI x1)), (12, some (.pointer (some ⟨b2, 0, none⟩)))]) (own' := [some (cellsR b_m 78 [vm1, vm2]), some (rowsX u8S true vm2 vsm1 rows1 none), some (rowS SegS v4 l1), some (cellsR b2 57 [vU64 s1.At, vU32 s1.Len, vB s1.Write])]) (shr' := [Fact.sl RegionS vm1 m.l, Fact.sl u8S vb1 b]) [0, 2, 10, 25, 26, 27, 12] [0, 1, 2, 3] [0, 1] rfl rfl rfl rfl ?_)
   refine Tk_seq (Tk_region (Tops_step rfl (OpT_fieldC rfl rfl rfl rfl fldF57x1) ?_))
   refine Tops_step rfl (OpT_loadC rfl rfl rfl rfl tyF48 (i := 3) rfl rfl) ?_
   refine Tops_step rfl (OpT_cnv rfl rfl rfl rfl (cnv_u32_i (n := s1.Len) Try.underlying48 Try.underlying3)) ?_
   refine Tops_step rfl (OpT_assign rfl rfl rfl rfl) ?_
   refine Tops_nil (Tk_wkS (fr' := [(0, some (.pointer (some ⟨b_m, 0, none⟩))), (2, some (vb1)), (10, some (vI n1)), (25, some (v4)), (26, some (vI (len eat1.1))), (27, some (vI x1)), (12, some (.pointer (some ⟨b2, 0, none⟩))), (13, some (vI (i32 s1.Len)))]) (own' := [some (cellsR b_m 78 [vm1, vm2]), some (rowsX u8S true vm2 vsm1 rows1 none), some (rowS SegS v4 l1), some (cellsR b2 57 [vU64 s1.At, vU32 s1.Len, vB s1.Write])]) (shr' := [Fact.sl RegionS vm1 m.l, Fact.sl u8S vb1 b]) [0, 2, 10, 25, 26, 27, 12, 13] [0, 1, 2, 3] [0, 1] rfl rfl rfl rfl ?_)
   refine Tk_seq (Tk_drawT (by kernel_rfl) ?_)
   refine TA_tb [0, 0, 2, 0, 0, 0, 0, 96, 248, 511] (by kernel_rfl) fun htb => ?_
   obtain ⟨hc1, h⟩ := chk_e h
   refine TA_seg (lo := 0) (hi := 9) htb rfl rfl (by kernel_rfl) (fun c L a w => ∃ (v5 : Value), Sat c ⟨[(0, some (.pointer (some ⟨b_m, 0, none⟩))), (2, some (vb1)), (10, some (vI n1)), (25, some (v4)), (26, some (vI (len eat1.1))), (27, some (vI x1)), (12, some (.pointer (some ⟨b2, 0, none⟩))), (13, some (vI (i32 s1.Len))), (34, bif L 0 then some (.pointer (some ⟨b_m, 0, none⟩)) else none), (35, bif L 1 then some (.pointer (some ⟨b2, 0, none⟩)) else none), (36, bif L 2 then some (vU64 s1.At) else none), (37, bif L 3 then some (vb1) else none), (38, bif L 4 then some (vI n1) else none), (39, bif L 5 then some (vI n1) else none), (40, bif L 6 then some (vI (i32 s1.Len)) else none), (41, bif L 7 then some (vI (wi (n1 + (i32 s1.Len)))) else none), (42, bif L 8 then some (v5) else none)], [(some (cellsR b_m 78 [vm1, vm2]) : Option Res), (some (rowsX u8S true vm2 vsm1 rows1 none) : Option Res), (some (rowS SegS v4 l1) : Option Res), (some (cellsR b2 57 [vU64 s1.At, vU32 s1.Len, vB s1.Write]) : Option Res)], [Fact.sl RegionS vm1 m.l, Fact.sl u8S vb1 b, (bif L 8 then Fact.sl u8S v5 (sub b n1 (wi (n1 + (i32 s1.Len)))) else Fact.tt)]⟩ a w) [([], []), ([], [2]), ([1], []), ([], [8]), ([], [8]), ([], [7, 8]), ([], [7, 8]), ([5, 6], [8]), ([3, 4, 5, 6, 7], [])] rfl (by kernel_rfl) ?_ (steps_cons ?_ (steps_cons ?_ (steps_cons ?_ (steps_cons ?_ (steps_cons ?_ (steps_cons ?_ (steps_cons ?_ (steps_cons ?_ (steps_cons ?_ (steps_nil)))))))))) ?_
   ·intro a w hs
    exact ⟨undef, hs.startF [34, 35, 36, 37, 38, 39, 40, 41, 42] [0, 1, 2, 3] [0, 1, 2] rfl rfl rfl rfl⟩
   ·intro L a w hv K Q hK
    obtain ⟨v5, hs⟩ := hv
    refine wpOp_go rfl rfl hs (OpT_move rfl rfl rfl rfl) ?_
    rintro _ rfl a' w' hs'
    exact hK a' w' ⟨v5, hs'.putF (i := 8) rfl [0, 1, 2, 3] [0, 1, 2] rfl rfl rfl rfl⟩
   ·intro L a w hv K Q hK
    obtain ⟨v5, hs⟩ := hv
    refine wpOp_go rfl rfl hs (OpT_fieldC rfl rfl rfl rfl fldF57x0) ?_
    rintro _ rfl a' w' hs'
    exact hK a' w' ⟨v5, hs'.putF (i := 9) rfl [0, 1, 2, 3] [0, 1, 2] rfl rfl rfl rfl⟩
   ·intro L a w hv K Q hK
    obtain ⟨v5, hs⟩ := hv
    refine wpOp_go rfl rfl hs (OpT_loadC rfl rfl rfl rfl tyF28 (i := 3) rfl rfl) ?_
    rintro _ rfl a' w' hs'
    exact hK a' w' ⟨v5, hs'.putF (i := 10) rfl [0, 1, 2, 3] [0, 1, 2] rfl rfl rfl rfl⟩
   ·intro L a w hv K Q hK
    obtain ⟨v5, hs⟩ := hv
    refine wpOp_go rfl rfl hs (OpT_move rfl rfl rfl rfl) ?_
    rintro _ rfl a' w' hs'
    exact hK a' w' ⟨v5, hs'.putF (i := 11) rfl [0, 1, 2, 3] [0, 1, 2] rfl rfl rfl rfl⟩
   ·intro L a w hv K Q hK
    obtain ⟨v5, hs⟩ := hv
    refine wpOp_go rfl rfl hs (OpT_move rfl rfl rfl rfl) ?_
    rintro _ rfl a' w' hs'
    exact hK a' w' ⟨v5, hs'.putF (i := 12) rfl [0, 1, 2, 3] [0, 1, 2] rfl rfl rfl rfl⟩
   ·intro L a w hv K Q hK
    obtain ⟨v5, hs⟩ := hv
    refine wpOp_go rfl rfl hs (OpT_move rfl rfl rfl rfl) ?_
    rintro _ rfl a' w' hs'
    exact hK a' w' ⟨v5, hs'.putF (i := 13) rfl [0, 1, 2, 3] [0, 1, 2] rfl rfl rfl rfl⟩
   ·intro L a w hv K Q hK
    obtain ⟨v5, hs⟩ := hv
    refine wpOp_go rfl rfl hs (OpT_move rfl rfl rfl rfl) ?_
    rintro _ rfl a' w' hs'
    exact hK a' w' ⟨v5, hs'.putF (i := 14) rfl [0, 1, 2, 3] [0, 1, 2] rfl rfl rfl rfl⟩
   ·intro L a w hv K Q hK
    obtain ⟨v5, hs⟩ := hv
    refine wpOp_go rfl rfl hs (OpT_bin rfl rfl rfl rfl rfl (bin_add_i (a := n1) (b := i32 s1.Len))) ?_
    rintro _ rfl a' w' hs'
    exact hK a' w' ⟨v5, hs'.putF (i := 15) rfl [0, 1, 2, 3] [0, 1, 2] rfl rfl rfl rfl⟩
   ·intro L a w hv K Q hK
    obtain ⟨v5, hs⟩ := hv
    refine wpOp_go rfl rfl hs (OpT_sliceLH (l := n1) (m := wi (n1 + (i32 s1.Len))) rfl rfl rfl rfl rfl rfl slF24 (i := 1) rfl hc1) ?_
    rintro _ ⟨v5', rfl⟩ a' w' hs'
    exact hK a' w' ⟨v5', hs'.putF (i := 16) rfl [0, 1, 2, 3] [0, 1, 3] rfl rfl rfl rfl⟩
   ·intro L a w hL hv
    rw [allTrue hL] at hv
    obtain ⟨v5, hs⟩ := hv
    refine (show TA _ _ _ 9 ⟨[(0, some (.pointer (some ⟨b_m, 0, none⟩))), (2, some (vb1)), (10, some (vI n1)), (25, some (v4)), (26, some (vI (len eat1.1))), (27, some (vI x1)), (13, some (vI (i32 s1.Len))), (34, some (.pointer (some ⟨b_m, 0, none⟩))), (36, some (vU64 s1.At)), (42, some (v5))], [some (cellsR b_m 78 [vm1, vm2]), some (rowsX u8S true vm2 vsm1 rows1 none), some (rowS SegS v4 l1)], [Fact.sl RegionS vm1 m.l, Fact.sl u8S vb1 b, Fact.sl u8S v5 (sub b n1 (wi (n1 + (i32 s1.Len))))]⟩ from ?_) a w (hs.wkS [0, 2, 10, 25, 26, 27, 13, 34, 36, 42] [0, 1, 2] [0, 1, 2] rfl rfl rfl rfl)
    clear hs hL
    obtain ⟨write1, hx5, h⟩ := ob_e h
    refine TA_exP htb (by kernel_rfl) rfl rfl (OpT_callP [3, 4, 2] (w_gmem_Mem_Write hx5) [0, 1] [0, 2] rfl rfl rfl rfl rfl callee13 rfl rfl rfl rfl rfl) ?_
    rintro _ ⟨_, _, _, ⟨rfl, rfl, rfl⟩, rfl⟩
    refine TA_end rfl ?_
    refine Tk_wkS (fr' := [(0, some (.pointer (some ⟨b_m, 0, none⟩))), (2, some (vb1)), (10, some (vI n1)), (25, some (v4)), (26, some (vI (len eat1.1))), (27, some (vI x1)), (13, some (vI (i32 s1.Len)))]) (own' := [some (cellsR b_m 78 [vm1, vm2]), some (rowsX u8S true vm2 vsm1 write1.2 none), some (rowS SegS v4 l1)]) (shr' := [Fact.sl RegionS vm1 m.l, Fact.sl u8S vb1 b]) [0, 2, 10, 25, 26, 27, 13] [0, 1, 2] [0, 1] rfl rfl rfl rfl ?_
    refine Tk_region (Tops_step rfl (OpT_move rfl rfl rfl rfl) ?_)
    refine Tops_step rfl (OpT_move rfl rfl rfl rfl) ?_
    refine Tops_step rfl (OpT_bin rfl rfl rfl rfl rfl (bin_add_i (a := n1) (b := i32 s1.Len))) ?_
    refine Tops_step rfl (OpT_assign rfl rfl rfl rfl) ?_
    refine Tops_nil (Tk_wkS (fr' := [(0, some (.pointer (some ⟨b_m, 0, none⟩))), (2, some (vb1)), (10, some (vI (wi (n1 + (i32 s1.Len))))), (25, some (v4)), (26, some (vI (len eat1.1))), (27, some (vI x1))]) (own' := [some (cellsR b_m 78 [vm1, vm2]), some (rowsX u8S true vm2 vsm1 write1.2 none), some (rowS SegS v4 l1)]) (shr' := [Fact.sl RegionS vm1 m.l, Fact.sl u8S vb1 b]) [0, 2, 10, 25, 26, 27] [0, 1, 2] [0, 1] rfl rfl rfl rfl ?_)
    refine Tk_blk (Tk_region (Tops_step rfl (OpT_bin rfl rfl rfl rfl rfl (bin_add_i (a := x1) (b := (1 : Int)))) ?_))
    refine Tops_step rfl (OpT_move rfl rfl rfl rfl) ?_
    refine Tops_nil (Tk_wkS (fr' := [(0, some (.pointer (some ⟨b_m, 0, none⟩))), (2, some (vb1)), (10, some (vI (wi (n1 + (i32 s1.Len))))), (25, some (v4)), (26, some (vI (len eat1.1))), (27, some (vI (wi (x1 + (1 : Int)))))]) (own' := [some (cellsR b_m 78 [vm1, vm2]), some (rowsX u8S true vm2 vsm1 write1.2 none), some (rowS SegS v4 l1)]) (shr' := [Fact.sl RegionS vm1 m.l, Fact.sl u8S vb1 b]) [0, 2, 10, 25, 26, 27] [0, 1, 2] [0, 1] rfl rfl rfl rfl ?_)
    exact Tk_backS (write1.2, wi (n1 + (i32 s1.Len)), l1, wi (x1 + (1 : Int)), v4) h [0, 2, 10, 25, 26, 27] [0, 1, 2] [0, 1] rfl rfl rfl rfl rfl
  ·replace h := br_f hg2 h
   refine Tk_condF (congrArg (fun b => some (Value.bool b)) hg2) ?_
   refine Tk_exit _ rfl ?_
   refine Tk_seq (Tk_region (Tops_step rfl (OpT_move rfl rfl rfl rfl) ?_))
   refine Tops_step rfl (OpT_assign rfl rfl rfl rfl) ?_
   refine Tops_step rfl (OpT_assign rfl rfl rfl rfl) ?_
   refine Tops_nil (Tk_wkS (fr' := [(6, some (vI n1)), (7, some (vI (0 : Int)))]) (own' := [some (cellsR b_m 78 [vm1, vm2]), some (rowsX u8S true vm2 vsm1 rows1 none)]) (shr' := [Fact.sl RegionS vm1 m.l]) [6, 7] [0, 1] [0] rfl rfl rfl rfl ?_)
   obtain rfl := Option.some.inj h
   exact Tk_retV rfl rfl (resA (vs := [vI n1, vI (0 : Int)]) rfl ⟨rfl, rfl, trivial⟩) [0, 1] [] rfl rfl rfl ⟨rfl, rfl, rfl⟩

set_option maxRecDepth 100000 in
set_option maxHeartbeats 4000000 in
theorem w_frame_Check {f : Frame} {vf1 : Value} {r : Int} (h : frame_Check f = some r) :
  Ctr Try.prog 47 #[.agg #[vU8 f.Dst.a0, vU8 f.Dst.a1, vU8 f.Dst.a2, vU8 f.Dst.a3, vU8 f.Dst.a4, vU8 f.Dst.a5, vU8 f.Src.a0, vU8 f.Src.a1, vU8 f.Src.a2, vU8 f.Src.a3, vU8 f.Src.a4, vU8 f.Src.a5, vI f.Vlan, vU16 f.Type_, vf1]] [] [Fact.sl u8S vf1 f.Data]
   (fun rv own shr => rv = vI r ∧ own = [] ∧ shr = []) := by
 unfold frame_Check at h
 refine Ctr.mk (args := [.agg #[vU8 f.Dst.a0, vU8 f.Dst.a1, vU8 f.Dst.a2, vU8 f.Dst.a3, vU8 f.Dst.a4, vU8 f.Dst.a5, vU8 f.Src.a0, vU8 f.Src.a1, vU8 f.Src.a2, vU8 f.Src.a3, vU8 f.Src.a4, vU8 f.Src.a5, vI f.Vlan, vU16 f.Type_, vf1]]) Try.func47 rfl rfl (fun R0 w0 B => ?_)
 refine Tk_seq (Tk_region (Tops_ex rfl (OpT_box rfl rfl rfl rfl) fun b1 => ?_))
 refine Tops_step rfl (OpT_assign rfl rfl rfl rfl) ?_
 refine Tops_nil (Tk_wkS (fr' := [(1, some (.pointer (some ⟨b1, 0, none⟩)))]) (own' := [some (cellsR b1 26 [vU8 f.Dst.a0, vU8 f.Dst.a1, vU8 f.Dst.a2, vU8 f.Dst.a3, vU8 f.Dst.a4, vU8 f.Dst.a5, vU8 f.Src.a0, vU8 f.Src.a1, vU8 f.Src.a2, vU8 f.Src.a3, vU8 f.Src.a4, vU8 f.Src.a5, vI f.Vlan, vU16 f.Type_, vf1])]) (shr' := [Fact.sl u8S vf1 f.Data]) [1] [0] [0] rfl rfl rfl rfl ?_)
 refine Tk_seq (Tk_seq (Tk_region (Tops_step rfl (OpT_fieldC rfl rfl rfl rfl fldF26x2) ?_)))
 refine Tops_step rfl (OpT_loadC rfl rfl rfl rfl tyF3 (i := 0) rfl rfl) ?_
 refine Tops_step rfl (OpT_bin rfl rfl rfl rfl rfl (bin_lss_i (a := f.Vlan) (b := ((-1) : Int)))) ?_
 refine Tops_step rfl (OpT_move rfl rfl rfl rfl) ?_
 rcases Bool.eq_false_or_eq_true (decide (f.Vlan < ((-1) : Int))) with hg1 | hg1
 ·replace h := br_t hg1 h
  refine Tops_no rfl rfl (congrArg (fun b => some (Value.bool b)) hg1) rfl rfl ?_
  refine Tops_no rfl rfl (congrArg (fun b => some (Value.bool b)) hg1) rfl rfl ?_
  refine Tops_no rfl rfl (congrArg (fun b => some (Value.bool b)) hg1) rfl rfl ?_
  refine Tops_step rfl (OpT_pickT rfl rfl rfl (congrArg (fun b => some (Value.bool b)) hg1) rfl) ?_
  refine Tops_step rfl (OpT_move rfl rfl rfl rfl) ?_
  refine Tops_no rfl rfl rfl rfl rfl ?_
  refine Tops_no rfl rfl rfl rfl rfl ?_
  refine Tops_no rfl rfl rfl rfl rfl ?_
  refine Tops_step rfl (OpT_pickT rfl rfl rfl rfl rfl) ?_
  refine Tops_step rfl (OpT_move rfl rfl rfl rfl) ?_
  refine Tops_no rfl rfl rfl rfl rfl ?_
  refine Tops_no rfl rfl rfl rfl rfl ?_
  refine Tops_no rfl rfl rfl rfl rfl ?_
  refine Tops_no rfl rfl rfl rfl rfl ?_
  refine Tops_step rfl (OpT_pickT rfl rfl rfl rfl rfl) ?_
  refine Tops_nil (Tk_wkS (fr' := [(21, some (vB true))]) (own' := []) (shr' := []) [21] [] [] rfl rfl rfl rfl ?_)
  refine Tk_condT rfl ?_
  refine Tk_seq (Tk_region (Tops_step rfl (OpT_assign rfl rfl rfl rfl) ?_))
  refine Tops_nil (Tk_wkS (fr' := [(2, some (vI (2 : Int)))]) (own' := []) (shr' := []) [2] [] [] rfl rfl rfl rfl ?_)
  obtain rfl := Option.some.inj h
  exact Tk_retV rfl rfl (resA (vs := [vI (2 : Int)]) rfl ⟨rfl, trivial⟩) [] [] rfl rfl rfl ⟨rfl, rfl, rfl⟩
 ·replace h := br_f hg1 h
  refine Tops_yes rfl rfl (congrArg (fun b => some (Value.bool b)) hg1) (OpT_fieldC rfl rfl rfl rfl fldF26x2) ?_
  rintro _ rfl
  refine Tops_yes rfl rfl (congrArg (fun b => some (Value.bool b)) hg1) (OpT_loadC rfl rfl rfl rfl tyF3 (i := 0) rfl rfl) ?_
  rintro _ rfl
  refine Tops_yes rfl rfl (congrArg (fun b => some (Value.bool b)) hg1) (OpT_bin rfl rfl rfl rfl rfl (bin_gtr_i (a := f.Vlan) (b := (4095 : Int)))) ?_
  rintro _ rfl
  refine Tops_step rfl (OpT_pickF rfl rfl rfl (congrArg (fun b => some (Value.bool b)) hg1) rfl) ?_
  refine Tops_step rfl (OpT_move rfl rfl rfl rfl) ?_
  rcases Bool.eq_false_or_eq_true (decide (f.Vlan > (4095 : Int))) with hg2 | hg2
  ·replace h := br_t hg2 h
   refine Tops_no rfl rfl (congrArg (fun b => some (Value.bool b)) hg2) rfl rfl ?_
   refine Tops_no rfl rfl (congrArg (fun b => some (Value.bool b)) hg2) rfl rfl ?_
   refine Tops_no rfl rfl (congrArg (fun b => some (Value.bool b)) hg2) rfl rfl ?_
   refine Tops_step rfl (OpT_pickT rfl rfl rfl (congrArg (fun b => some (Value.bool b)) hg2) rfl) ?_
   refine Tops_step rfl (OpT_move rfl rfl rfl rfl) ?_
   refine Tops_no rfl rfl rfl rfl rfl ?_
   refine Tops_no rfl rfl rfl rfl rfl ?_
   refine Tops_no rfl rfl rfl rfl rfl ?_
   refine Tops_no rfl rfl rfl rfl rfl ?_
   refine Tops_step rfl (OpT_pickT rfl rfl rfl rfl rfl) ?_
   refine Tops_nil (Tk_wkS (fr' := [(21, some (vB true))]) (own' := []) (shr' := []) [21] [] [] rfl rfl rfl rfl ?_)
   refine Tk_condT rfl ?_
   refine Tk_seq (Tk_region (Tops_step rfl (OpT_assign rfl rfl rfl rfl) ?_))
   refine Tops_nil (Tk_wkS (fr' := [(2, some (vI (2 : Int)))]) (own' := []) (shr' := []) [2] [] [] rfl rfl rfl rfl ?_)
   obtain rfl := Option.some.inj h
   exact Tk_retV rfl rfl (resA (vs := [vI (2 : Int)]) rfl ⟨rfl, trivial⟩) [] [] rfl rfl rfl ⟨rfl, rfl, rfl⟩
  ·replace h := br_f hg2 h
   refine Tops_yes rfl rfl (congrArg (fun b => some (Value.bool b)) hg2) (OpT_fieldC rfl rfl rfl rfl fldF26x3) ?_
   rintro _ rfl
   refine Tops_yes rfl rfl (congrArg (fun b => some (Value.bool b)) hg2) (OpT_loadC rfl rfl rfl rfl tyF23 (i := 0) rfl rfl) ?_
   rintro _ rfl
   refine Tops_yes rfl rfl (congrArg (fun b => some (Value.bool b)) hg2) (OpT_bin rfl rfl rfl rfl rfl (bin_eql_u16 (a := f.Type_) (b := (33024 : UInt16)))) ?_
   rintro _ rfl
   refine Tops_step rfl (OpT_pickF rfl rfl rfl (congrArg (fun b => some (Value.bool b)) hg2) rfl) ?_
   refine Tops_step rfl (OpT_move rfl rfl rfl rfl) ?_
   rcases Bool.eq_false_or_eq_true (f.Type_ == (33024 : UInt16)) with hg3 | hg3
   ·replace h := br_t hg3 h
    refine Tops_no rfl rfl (congrArg (fun b => some (Value.bool b)) hg3) rfl rfl ?_
    refine Tops_no rfl rfl (congrArg (fun b => some (Value.bool b)) hg3) rfl rfl ?_
    refine Tops_no rfl rfl (congrArg (fun b => some (Value.bool b)) hg3) rfl rfl ?_
    refine Tops_no rfl rfl (congrArg (fun b => some (Value.bool b)) hg3) rfl rfl ?_
    refine Tops_step rfl (OpT_pickT rfl rfl rfl (congrArg (fun b => some (Value.bool b)) hg3) rfl) ?_
    refine Tops_nil (Tk_wkS (fr' := [(21, some (vB true))]) (own' := []) (shr' := []) [21] [] [] rfl rfl rfl rfl ?_)
    refine Tk_condT rfl ?_
    refine Tk_seq (Tk_region (Tops_step rfl (OpT_assign rfl rfl rfl rfl) ?_))
    refine Tops_nil (Tk_wkS (fr' := [(2, some (vI (2 : Int)))]) (own' := []) (shr' := []) [2] [] [] rfl rfl rfl rfl ?_)
    obtain rfl := Option.some.inj h
    exact Tk_retV rfl rfl (resA (vs := [vI (2 : Int)]) rfl ⟨rfl, trivial⟩) [] [] rfl rfl rfl ⟨rfl, rfl, rfl⟩
   ·replace h := br_f hg3 h
    refine Tops_yes rfl rfl (congrArg (fun b => some (Value.bool b)) hg3) (OpT_fieldC rfl rfl rfl rfl fldF26x4) ?_
    rintro _ rfl
    refine Tops_yes rfl rfl (congrArg (fun b => some (Value.bool b)) hg3) (OpT_loadC rfl rfl rfl rfl tyF24 (i := 0) rfl rfl) ?_
    rintro _ rfl
    refine Tops_yes rfl rfl (congrArg (fun b => some (Value.bool b)) hg3) (OpT_lenS rfl rfl rfl rfl Try.underlying24 (i := 0) rfl) ?_
    rintro _ rfl
    refine Tops_yes rfl rfl (congrArg (fun b => some (Value.bool b)) hg3) (OpT_bin rfl rfl rfl rfl rfl (bin_gtr_i (a := len f.Data) (b := (1500 : Int)))) ?_
    rintro _ rfl
    refine Tops_step rfl (OpT_pickF rfl rfl rfl (congrArg (fun b => some (Value.bool b)) hg3) rfl) ?_
    refine Tops_nil (Tk_wkS (fr' := [(21, some (vB (decide ((len f.Data) > (1500 : Int)))))]) (own' := []) (shr' := []) [21] [] [] rfl rfl rfl rfl ?_)
    rcases Bool.eq_false_or_eq_true (decide ((len f.Data) > (1500 : Int))) with hg4 | hg4
    ·replace h := br_t hg4 h
     refine Tk_condT (congrArg (fun b => some (Value.bool b)) hg4) ?_
     refine Tk_seq (Tk_region (Tops_step rfl (OpT_assign rfl rfl rfl rfl) ?_))
     refine Tops_nil (Tk_wkS (fr' := [(2, some (vI (2 : Int)))]) (own' := []) (shr' := []) [2] [] [] rfl rfl rfl rfl ?_)
     obtain rfl := Option.some.inj h
     exact Tk_retV rfl rfl (resA (vs := [vI (2 : Int)]) rfl ⟨rfl, trivial⟩) [] [] rfl rfl rfl ⟨rfl, rfl, rfl⟩
    ·replace h := br_f hg4 h
     refine Tk_condF (congrArg (fun b => some (Value.bool b)) hg4) ?_
     refine Tk_skip (Tk_seq (Tk_region (Tops_step rfl (OpT_assign rfl rfl rfl rfl) ?_)))
     refine Tops_nil (Tk_wkS (fr' := [(2, some (vI (0 : Int)))]) (own' := []) (shr' := []) [2] [] [] rfl rfl rfl rfl ?_)
     obtain rfl := Option.some.inj h
     exact Tk_retV rfl rfl (resA (vs := [vI (0 : Int)]) rfl ⟨rfl, trivial⟩) [] [] rfl rfl rfl ⟨rfl, rfl, rfl⟩

set_option maxRecDepth 100000 in
set_option maxHeartbeats 4000000 in
theorem w_slices_Grow_bytebyten0 {np1 : Int} {r : (List UInt8)} (h : slices_Grow_bytebyten0 np1 = some r) :
  Ctr Try.prog 53 #[.slice none 0 0, vI np1] [] []
   (fun rv own shr => ∃ (w1 : Value), rv = w1 ∧ own = [(rowS u8S w1 r)] ∧ shr = []) := by
 unfold slices_Grow_bytebyten0 at h
 refine Ctr.mk (args := [.slice none 0 0, vI np1]) Try.func53 rfl rfl (fun R0 w0 B => ?_)
 refine Tk_seq (Tk_region (Tops_step rfl (OpT_assign rfl rfl rfl rfl) ?_))
 refine Tops_nil (Tk_wkS (fr' := [(0, some (.slice none 0 0)), (1, some (vI np1))]) (own' := []) (shr' := []) [0, 1] [] [] rfl rfl rfl rfl ?_)
 refine Tk_seq (Tk_seq (Tk_region (Tops_step rfl (OpT_move rfl rfl rfl rfl) ?_)))
 refine Tops_step rfl (OpT_bin rfl rfl rfl rfl rfl (bin_lss_i (a := np1) (b := (0 : Int)))) ?_
 refine Tops_nil (Tk_wkS (fr' := [(0, some (.slice none 0 0)), (1, some (vI np1)), (6, some (vB (decide (np1 < (0 : Int)))))]) (own' := []) (shr' := []) [0, 1, 6] [] [] rfl rfl rfl rfl ?_)
 refine Tk_join (α := Unit) (fun s => ⟨[(0, some (.slice none 0 0)), (1, some (vI np1))], [], []⟩) (fun s => slices_Grow_bytebyten0J1 np1 = some r) ?_ ?_
 ·rintro _ h
  replace h : slices_Grow_bytebyten0J1 np1 = some r := h
  unfold slices_Grow_bytebyten0J1 at h
  refine Tk_seq (Tk_seq (Tk_region (Tops_step rfl (OpT_move rfl rfl rfl rfl) ?_)))
  refine Tops_step rfl (OpT_move rfl rfl rfl rfl) ?_
  refine Tops_step rfl (OpT_capN rfl rfl rfl rfl Try.underlying24) ?_
  refine Tops_step rfl (OpT_move rfl rfl rfl rfl) ?_
  refine Tops_step rfl (OpT_lenE rfl rfl rfl rfl Try.underlying24) ?_
  refine Tops_step rfl (OpT_bin rfl rfl rfl rfl rfl (bin_sub_i (a := (0 : Int)) (b := (0 : Int)))) ?_
  refine Tops_step rfl (OpT_bin rfl rfl rfl rfl rfl (bin_sub_i (a := np1) (b := wi ((0 : Int) - (0 : Int))))) ?_
  refine Tops_step rfl (OpT_assign rfl rfl rfl rfl) ?_
  refine Tops_nil (Tk_wkS (fr' := [(0, some (.slice none 0 0)), (1, some (vI (wi (np1 - (wi ((0 : Int) - (0 : Int)))))))]) (own' := []) (shr' := []) [0, 1] [] [] rfl rfl rfl rfl ?_)
  refine Tk_seq (Tk_region (Tops_step rfl (OpT_move rfl rfl rfl rfl) ?_))
  refine Tops_step rfl (OpT_bin rfl rfl rfl rfl rfl (bin_gtr_i (a := wi (np1 - (wi ((0 : Int) - (0 : Int))))) (b := (0 : Int)))) ?_
  refine Tops_nil (Tk_wkS (fr' := [(0, some (.slice none 0 0)), (1, some (vI (wi (np1 - (wi ((0 : Int) - (0 : Int))))))), (16, some (vB (decide ((wi (np1 - (wi ((0 : Int) - (0 : Int))))) > (0 : Int)))))]) (own' := []) (shr' := []) [0, 1, 16] [] [] rfl rfl rfl rfl ?_)
  rcases Bool.eq_false_or_eq_true (decide ((wi (np1 - (wi ((0 : Int) - (0 : Int))))) > (0 : Int))) with hg1 | hg1
  ·replace h := br_t hg1 h
   refine Tk_condT (congrArg (fun b => some (Value.bool b)) hg1) ?_
   refine Tk_region (Tops_step rfl (OpT_move rfl rfl rfl rfl) ?_)
   refine Tops_step rfl (OpT_move rfl rfl rfl rfl) ?_
   refine Tops_step rfl (OpT_capN rfl rfl rfl rfl Try.underlying24) ?_
   refine Tops_step rfl (OpT_sliceN rfl rfl rfl rfl rfl Try.underlying24 ⟨_, (slF24).sz⟩) ?_
   refine Tops_step rfl (OpT_move rfl rfl rfl rfl) ?_
   obtain ⟨hc1, h⟩ := chk_e h
   refine Tops_ex rfl (OpT_appendZ u8S rfl (l := wi (np1 - (wi ((0 : Int) - (0 : Int))))) (u := (0 : UInt8)) rfl rfl rfl rfl rfl slF24 Try.underlying3 rfl hc1) fun v1 => ?_
   refine Tops_step rfl (OpT_move rfl rfl rfl rfl) ?_
   refine Tops_step rfl (OpT_lenE rfl rfl rfl rfl Try.underlying24) ?_
   obtain ⟨hc2, h⟩ := chk_e h
   refine Tops_ex rfl (OpT_sliceO (m := (0 : Int)) rfl rfl rfl rfl rfl slF24 (i := 0) rfl hc2) fun v2 => ?_
   refine Tops_step rfl (OpT_assign rfl rfl rfl rfl) ?_
   refine Tops_nil (Tk_wkS (fr' := [(0, some (v2))]) (own' := [some (rowS u8S v2 ((List.replicate (wi (np1 - (wi ((0 : Int) - (0 : Int))))).toNat (0 : UInt8)).take (0 : Int).toNat))]) (shr' := []) [0] [0] [] rfl rfl rfl rfl ?_)
   refine Tk_seq (Tk_region (Tops_step rfl (OpT_move rfl rfl rfl rfl) ?_))
   refine Tops_step rfl (OpT_assign rfl rfl rfl rfl) ?_
   refine Tops_nil (Tk_wkS (fr' := [(4, some (v2))]) (own' := [some (rowS u8S v2 ((List.replicate (wi (np1 - (wi ((0 : Int) - (0 : Int))))).toNat (0 : UInt8)).take (0 : Int).toNat))]) (shr' := []) [4] [0] [] rfl rfl rfl rfl ?_)
   obtain rfl := Option.some.inj h
   exact Tk_retV rfl rfl (resA (vs := [v2]) rfl ⟨rfl, trivial⟩) [0] [] rfl rfl rfl ⟨v2, rfl, rfl, rfl⟩
  ·replace h := br_f hg1 h
   refine Tk_condF (congrArg (fun b => some (Value.bool b)) hg1) ?_
   refine Tk_skip (Tk_seq (Tk_region (Tops_step rfl (OpT_move rfl rfl rfl rfl) ?_)))
   refine Tops_step rfl (OpT_assign rfl rfl rfl rfl) ?_
   refine Tops_nil (Tk_wkS (fr' := [(4, some (.slice none 0 0))]) (own' := []) (shr' := []) [4] [] [] rfl rfl rfl rfl ?_)
   refine Tk_nilrow u8S ?_
   obtain rfl := Option.some.inj h
   exact Tk_retV rfl rfl (resA (vs := [.slice none 0 0]) rfl ⟨rfl, trivial⟩) [0] [] rfl rfl rfl ⟨(.slice none 0 0), rfl, rfl, rfl⟩
 ·intro HJ1
  obtain ⟨hg2, h⟩ := chk_e h
  replace hg2 := not_t hg2
  refine Tk_condF (congrArg (fun b => some (Value.bool b)) hg2) ?_
  refine Tk_skip ?_
  exact Tk_jmpS (HJ1 () h) [0, 1] [] [] rfl rfl rfl rfl

set_option maxRecDepth 100000 in
set_option maxHeartbeats 4000000 in
theorem w_slices_Concat_bytebyte {slices : List (List UInt8)} {vslices1 : Value} {r : (List UInt8)} (h : slices_Concat_bytebyte slices = some r) :
  Ctr Try.prog 39 #[vslices1] [] [Fact.sl (Shape.slice u8S) vslices1 slices]
   (fun rv own shr => ∃ (w1 : Value), rv = w1 ∧ own = [(rowS u8S w1 r)] ∧ shr = []) := by
 unfold slices_Concat_bytebyte at h
 refine Ctr.mk (args := [vslices1]) Try.func39 rfl rfl (fun R0 w0 B => ?_)
 refine Tk_seq (Tk_region (Tops_step rfl (OpT_assign rfl rfl rfl rfl) ?_))
 refine Tops_nil (Tk_wkS (fr' := [(0, some (vslices1))]) (own' := []) (shr' := [Fact.sl (Shape.slice u8S) vslices1 slices]) [0] [] [0] rfl rfl rfl rfl ?_)
 refine Tk_seq (Tk_region (Tops_step rfl (OpT_assign rfl rfl rfl rfl) ?_))
 refine Tops_nil (Tk_seq (Tk_seq (Tk_region (Tops_step rfl (OpT_move rfl rfl rfl rfl) ?_))))
 refine Tops_step rfl (OpT_lenS rfl rfl rfl rfl Try.underlying76 (i := 0) rfl) ?_
 refine Tops_step rfl (OpT_move rfl rfl rfl rfl) ?_
 refine Tops_nil (Tk_block (Tk_loopS (σ := Int × Int) [0, 3, 9, 10, 11] [] [0] (fun s => ⟨[(0, some (vslices1)), (3, some (vI s.1)), (9, some (vslices1)), (10, some (vI (len slices))), (11, some (vI s.2))], [], [Fact.sl (Shape.slice u8S) vslices1 slices]⟩) (fun nf1 s => slices_Concat_bytebyteL1 slices nf1 s.1 s.2 = some r) fuel ((0 : Int), (0 : Int)) h rfl rfl rfl rfl rfl (fun s h => by cases h) ?_))
 rintro nf1 ⟨size1, x1⟩ h
 replace h : slices_Concat_bytebyteL1B slices (slices_Concat_bytebyteL1 slices nf1) size1 x1 = some r := h
 unfold slices_Concat_bytebyteL1B at h
 refine Tk_seq (Tk_region (Tops_step rfl (OpT_bin rfl rfl rfl rfl rfl (bin_lss_i (a := x1) (b := len slices))) ?_))
 refine Tops_nil (Tk_seq ?_)
 rcases Bool.eq_false_or_eq_true (decide (x1 < (len slices))) with hg1 | hg1
 ·replace h := br_t hg1 h
  refine Tk_condT (congrArg (fun b => some (Value.bool b)) hg1) ?_
  refine Tk_skip (Tk_seq (Tk_join (α := Int) (fun s => ⟨[(0, some (vslices1)), (3, some (vI s)), (9, some (vslices1)), (10, some (vI (len slices))), (11, some (vI x1))], [], [Fact.sl (Shape.slice u8S) vslices1 slices]⟩) (fun s => slices_Concat_bytebyteJ2 x1 (slices_Concat_bytebyteL1 slices nf1) s = some r) ?_ ?_))
  ·rintro size2 h
   replace h : slices_Concat_bytebyteJ2 x1 (slices_Concat_bytebyteL1 slices nf1) size2 = some r := h
   unfold slices_Concat_bytebyteJ2 at h
   refine Tk_region (Tops_step rfl (OpT_bin rfl rfl rfl rfl rfl (bin_add_i (a := x1) (b := (1 : Int)))) ?_)
   refine Tops_step rfl (OpT_move rfl rfl rfl rfl) ?_
   refine Tops_nil (Tk_wkS (fr' := [(0, some (vslices1)), (3, some (vI size2)), (9, some (vslices1)), (10, some (vI (len slices))), (11, some (vI (wi (x1 + (1 : Int)))))]) (own' := []) (shr' := [Fact.sl (Shape.slice u8S) vslices1 slices]) [0, 3, 9, 10, 11] [] [0] rfl rfl rfl rfl ?_)
   exact Tk_backS (size2, wi (x1 + (1 : Int))) h [0, 3, 9, 10, 11] [] [0] rfl rfl rfl rfl rfl
  ·intro HJ1
   refine Tk_block (Tk_seq (Tk_region ?_))
   obtain ⟨y1, hx1, h⟩ := ob_e h
   refine Tops_ex rfl (OpT_idxS rfl rfl rfl rfl rfl slF76 (i := 0) rfl hx1) fun p1 => ?_
   refine Tops_ex rfl (OpT_loadPS rfl rfl rfl rfl tyF24 (i := 1) rfl) fun v1 => ?_
   refine Tops_step rfl (OpT_assign rfl rfl rfl rfl) ?_
   refine Tops_nil (Tk_wkS (fr' := [(0, some (vslices1)), (3, some (vI size1)), (9, some (vslices1)), (10, some (vI (len slices))), (11, some (vI x1)), (5, some (v1))]) (own' := []) (shr' := [Fact.sl (Shape.slice u8S) vslices1 slices, Fact.sl u8S v1 y1]) [0, 3, 9, 10, 11, 5] [] [0, 2] rfl rfl rfl rfl ?_)
   refine Tk_seq (Tk_region (Tops_step rfl (OpT_move rfl rfl rfl rfl) ?_))
   refine Tops_step rfl (OpT_move rfl rfl rfl rfl) ?_
   refine Tops_step rfl (OpT_lenS rfl rfl rfl rfl Try.underlying24 (i := 1) rfl) ?_
   refine Tops_step rfl (OpT_bin rfl rfl rfl rfl rfl (bin_add_i (a := size1) (b := len y1))) ?_
   refine Tops_step rfl (OpT_assign rfl rfl rfl rfl) ?_
   refine Tops_nil (Tk_wkS (fr' := [(0, some (vslices1)), (3, some (vI (wi (size1 + (len y1))))), (9, some (vslices1)), (10, some (vI (len slices))), (11, some (vI x1))]) (own' := []) (shr' := [Fact.sl (Shape.slice u8S) vslices1 slices]) [0, 3, 9, 10, 11] [] [0] rfl rfl rfl rfl ?_)
   refine Tk_seq (Tk_region (Tops_step rfl (OpT_move rfl rfl rfl rfl) ?_))
   refine Tops_step rfl (OpT_bin rfl rfl rfl rfl rfl (bin_lss_i (a := wi (size1 + (len y1))) (b := (0 : Int)))) ?_
   refine Tops_nil (Tk_wkS (fr' := [(0, some (vslices1)), (3, some (vI (wi (size1 + (len y1))))), (9, some (vslices1)), (10, some (vI (len slices))), (11, some (vI x1)), (20, some (vB (decide ((wi (size1 + (len y1))) < (0 : Int)))))]) (own' := []) (shr' := [Fact.sl (Shape.slice u8S) vslices1 slices]) [0, 3, 9, 10, 11, 20] [] [0] rfl rfl rfl rfl ?_)
   refine Tk_join (α := Unit) (fun s => ⟨[(0, some (vslices1)), (3, some (vI (wi (size1 + (len y1))))), (9, some (vslices1)), (10, some (vI (len slices))), (11, some (vI x1))], [], [Fact.sl (Shape.slice u8S) vslices1 slices]⟩) (fun s => slices_Concat_bytebyteJ3 size1 x1 (slices_Concat_bytebyteL1 slices nf1) y1 = some r) ?_ ?_
   ·rintro _ h
    replace h : slices_Concat_bytebyteJ3 size1 x1 (slices_Concat_bytebyteL1 slices nf1) y1 = some r := h
    unfold slices_Concat_bytebyteJ3 at h
    refine Tk_blk ?_
    exact Tk_jmpS (HJ1 (wi (size1 + (len y1))) h) [0, 3, 9, 10, 11] [] [0] rfl rfl rfl rfl
   ·intro HJ2
    obtain ⟨hg2, h⟩ := chk_e h
    replace hg2 := not_t hg2
    refine Tk_condF (congrArg (fun b => some (Value.bool b)) hg2) ?_
    refine Tk_skip ?_
    exact Tk_jmpS (HJ2 () h) [0, 3, 9, 10, 11] [] [0] rfl rfl rfl rfl
 ·replace h := br_f hg1 h
  refine Tk_condF (congrArg (fun b => some (Value.bool b)) hg1) ?_
  refine Tk_exit _ rfl ?_
  refine Tk_seq (Tk_region (Tops_step rfl (OpT_move rfl rfl rfl rfl) ?_))
  obtain ⟨growby1, hx2, h⟩ := ob_e h
  refine Tops_exP rfl (OpT_call (w_slices_Grow_bytebyten0 hx2) [] [] rfl rfl rfl rfl rfl callee53 rfl rfl rfl rfl) ?_
  rintro _ ⟨v2, _, _, ⟨_, rfl, rfl, rfl⟩, rfl⟩
  refine Tops_step rfl (OpT_assign rfl rfl rfl rfl) ?_
  refine Tops_nil (Tk_wkS (fr' := [(0, some (vslices1)), (6, some (v2))]) (own' := [some (rowS u8S v2 growby1)]) (shr' := [Fact.sl (Shape.slice u8S) vslices1 slices]) [0, 6] [0] [0] rfl rfl rfl rfl ?_)
  refine Tk_seq (Tk_seq (Tk_region (Tops_step rfl (OpT_move rfl rfl rfl rfl) ?_)))
  refine Tops_step rfl (OpT_lenS rfl rfl rfl rfl Try.underlying76 (i := 0) rfl) ?_
  refine Tops_step rfl (OpT_move rfl rfl rfl rfl) ?_
  refine Tops_nil (Tk_wkS (fr' := [(6, some (v2)), (25, some (vslices1)), (26, some (vI (len slices))), (27, some (vI (0 : Int)))]) (own' := [some (rowS u8S v2 growby1)]) (shr' := [Fact.sl (Shape.slice u8S) vslices1 slices]) [6, 25, 26, 27] [0] [0] rfl rfl rfl rfl ?_)
  refine Tk_block (Tk_loopS (σ := (List UInt8) × Int × Value) [6, 25, 26, 27] [0] [0] (fun s => ⟨[(6, some (s.2.2)), (25, some (vslices1)), (26, some (vI (len slices))), (27, some (vI s.2.1))], [some (rowS u8S s.2.2 s.1)], [Fact.sl (Shape.slice u8S) vslices1 slices]⟩) (fun nf4 s => slices_Concat_bytebyteL4 slices nf4 s.1 s.2.1 = some r) fuel (growby1, (0 : Int), v2) h rfl rfl rfl rfl rfl (fun s h => by cases h) ?_)
  rintro nf4 ⟨newslice1, x2, v3⟩ h
  replace h : slices_Concat_bytebyteL4B slices (slices_Concat_bytebyteL4 slices nf4) newslice1 x2 = some r := h
  unfold slices_Concat_bytebyteL4B at h
  refine Tk_seq (Tk_region (Tops_step rfl (OpT_bin rfl rfl rfl rfl rfl (bin_lss_i (a := x2) (b := len slices))) ?_))
  refine Tops_nil (Tk_seq ?_)
  rcases Bool.eq_false_or_eq_true (decide (x2 < (len slices))) with hg3 | hg3
  ·replace h := br_t hg3 h
   refine Tk_condT (congrArg (fun b => some (Value.bool b)) hg3) ?_
   refine Tk_skip (Tk_seq (Tk_block (Tk_seq (Tk_region ?_))))
   obtain ⟨y2, hx3, h⟩ := ob_e h
   refine Tops_ex rfl (OpT_idxS rfl rfl rfl rfl rfl slF76 (i := 0) rfl hx3) fun p2 => ?_
   refine Tops_ex rfl (OpT_loadPS rfl rfl rfl rfl tyF24 (i := 1) rfl) fun v4 => ?_
   refine Tops_step rfl (OpT_assign rfl rfl rfl rfl) ?_
   refine Tops_nil (Tk_wkS (fr' := [(6, some (v3)), (25, some (vslices1)), (26, some (vI (len slices))), (27, some (vI x2)), (8, some (v4))]) (own' := [some (rowS u8S v3 newslice1)]) (shr' := [Fact.sl (Shape.slice u8S) vslices1 slices, Fact.sl u8S v4 y2]) [6, 25, 26, 27, 8] [0] [0, 2] rfl rfl rfl rfl ?_)
   refine Tk_region (Tops_step rfl (OpT_move rfl rfl rfl rfl) ?_)
   refine Tops_step rfl (OpT_move rfl rfl rfl rfl) ?_
   obtain ⟨hc1, h⟩ := chk_e h
   refine Tops_ex rfl (OpT_append rfl rfl rfl rfl rfl slF24 (i := 0) (j := 1) rfl rfl hc1) fun v5 => ?_
   refine Tops_step rfl (OpT_assign rfl rfl rfl rfl) ?_
   refine Tops_nil (Tk_wkS (fr' := [(6, some (v5)), (25, some (vslices1)), (26, some (vI (len slices))), (27, some (vI x2))]) (own' := [some (rowS u8S v5 (newslice1 ++ y2))]) (shr' := [Fact.sl (Shape.slice u8S) vslices1 slices]) [6, 25, 26, 27] [0] [0] rfl rfl rfl rfl ?_)
   refine Tk_blk (Tk_region (Tops_step rfl (OpT_bin rfl rfl rfl rfl rfl (bin_add_i (a := x2) (b := (1 : Int)))) ?_))
   refine Tops_step rfl (OpT_move rfl rfl rfl rfl) ?_
   refine Tops_nil (Tk_wkS (fr' := [(6, some (v5)), (25, some (vslices1)), (26, some (vI (len slices))), (27, some (vI (wi (x2 + (1 : Int)))))]) (own' := [some (rowS u8S v5 (newslice1 ++ y2))]) (shr' := [Fact.sl (Shape.slice u8S) vslices1 slices]) [6, 25, 26, 27] [0] [0] rfl rfl rfl rfl ?_)
   exact Tk_backS (newslice1 ++ y2, wi (x2 + (1 : Int)), v5) h [6, 25, 26, 27] [0] [0] rfl rfl rfl rfl rfl
  ·replace h := br_f hg3 h
   refine Tk_condF (congrArg (fun b => some (Value.bool b)) hg3) ?_
   refine Tk_exit _ rfl ?_
   refine Tk_seq (Tk_region (Tops_step rfl (OpT_move rfl rfl rfl rfl) ?_))
   refine Tops_step rfl (OpT_assign rfl rfl rfl rfl) ?_
   refine Tops_nil (Tk_wkS (fr' := [(2, some (v3))]) (own' := [some (rowS u8S v3 newslice1)]) (shr' := []) [2] [0] [] rfl rfl rfl rfl ?_)
   obtain rfl := Option.some.inj h
   exact Tk_retV rfl rfl (resA (vs := [v3]) rfl ⟨rfl, trivial⟩) [0] [] rfl rfl rfl ⟨v3, rfl, rfl, rfl⟩

set_option maxRecDepth 100000 in
set_option maxHeartbeats 4000000 in
theorem w_frame_Bytes {f : Frame} {vf1 : Value} {r : ((List UInt8) × Int)} (h : frame_Bytes f = some r) :
  Ctr Try.prog 33 #[.agg #[vU8 f.Dst.a0, vU8 f.Dst.a1, vU8 f.Dst.a2, vU8 f.Dst.a3, vU8 f.Dst.a4, vU8 f.Dst.a5, vU8 f.Src.a0, vU8 f.Src.a1, vU8 f.Src.a2, vU8 f.Src.a3, vU8 f.Src.a4, vU8 f.Src.a5, vI f.Vlan, vU16 f.Type_, vf1]] [] [Fact.sl u8S vf1 f.Data]
   (fun rv own shr => ∃ (w1 : Value), rv = .tuple #[w1, vI r.2] ∧ own = [(rowS u8S w1 r.1)] ∧ shr = []) := by
 unfold frame_Bytes at h
 refine Ctr.mk (args := [.agg #[vU8 f.Dst.a0, vU8 f.Dst.a1, vU8 f.Dst.a2, vU8 f.Dst.a3, vU8 f.Dst.a4, vU8 f.Dst.a5, vU8 f.Src.a0, vU8 f.Src.a1, vU8 f.Src.a2, vU8 f.Src.a3, vU8 f.Src.a4, vU8 f.Src.a5, vI f.Vlan, vU16 f.Type_, vf1]]) Try.func33 rfl rfl (fun R0 w0 B => ?_)
 refine Tk_seq (Tk_region (Tops_ex rfl (OpT_box rfl rfl rfl rfl) fun b1 => ?_))
 refine Tops_step rfl (OpT_assign rfl rfl rfl rfl) ?_
 refine Tops_step rfl (OpT_assign rfl rfl rfl rfl) ?_
 refine Tops_nil (Tk_wkS (fr' := [(1, some (.pointer (some ⟨b1, 0, none⟩)))]) (own' := [some (cellsR b1 26 [vU8 f.Dst.a0, vU8 f.Dst.a1, vU8 f.Dst.a2, vU8 f.Dst.a3, vU8 f.Dst.a4, vU8 f.Dst.a5, vU8 f.Src.a0, vU8 f.Src.a1, vU8 f.Src.a2, vU8 f.Src.a3, vU8 f.Src.a4, vU8 f.Src.a5, vI f.Vlan, vU16 f.Type_, vf1])]) (shr' := [Fact.sl u8S vf1 f.Data]) [1] [0] [0] rfl rfl rfl rfl ?_)
 refine Tk_seq (Tk_seq (Tk_region (Tops_step rfl (OpT_loadCA (vs := [vU8 f.Dst.a0, vU8 f.Dst.a1, vU8 f.Dst.a2, vU8 f.Dst.a3, vU8 f.Dst.a4, vU8 f.Dst.a5, vU8 f.Src.a0, vU8 f.Src.a1, vU8 f.Src.a2, vU8 f.Src.a3, vU8 f.Src.a4, vU8 f.Src.a5, vI f.Vlan, vU16 f.Type_, vf1]) rfl rfl rfl rfl tyF26 (i := 0) rfl rfl rfl) ?_)))
 obtain ⟨check1, hx1, h⟩ := ob_e h
 refine Tops_exP rfl (OpT_call (w_frame_Check hx1) [] [0] rfl rfl rfl rfl rfl callee47 rfl rfl rfl rfl) ?_
 rintro _ ⟨_, _, _, ⟨rfl, rfl, rfl⟩, rfl⟩
 refine Tops_step rfl (OpT_assign rfl rfl rfl rfl) ?_
 refine Tops_nil (Tk_wkS (fr' := [(1, some (.pointer (some ⟨b1, 0, none⟩))), (4, some (vI check1))]) (own' := [some (cellsR b1 26 [vU8 f.Dst.a0, vU8 f.Dst.a1, vU8 f.Dst.a2, vU8 f.Dst.a3, vU8 f.Dst.a4, vU8 f.Dst.a5, vU8 f.Src.a0, vU8 f.Src.a1, vU8 f.Src.a2, vU8 f.Src.a3, vU8 f.Src.a4, vU8 f.Src.a5, vI f.Vlan, vU16 f.Type_, vf1])]) (shr' := [Fact.sl u8S vf1 f.Data]) [1, 4] [0] [0] rfl rfl rfl rfl ?_)
 refine Tk_seq (Tk_region (Tops_step rfl (OpT_move rfl rfl rfl rfl) ?_))
 refine Tops_step rfl (OpT_bin rfl rfl rfl rfl rfl (bin_neq_i (a := check1) (b := (0 : Int)))) ?_
 refine Tops_nil (Tk_wkS (fr' := [(1, some (.pointer (some ⟨b1, 0, none⟩))), (4, some (vI check1)), (9, some (vB (check1 != (0 : Int))))]) (own' := [some (cellsR b1 26 [vU8 f.Dst.a0, vU8 f.Dst.a1, vU8 f.Dst.a2, vU8 f.Dst.a3, vU8 f.Dst.a4, vU8 f.Dst.a5, vU8 f.Src.a0, vU8 f.Src.a1, vU8 f.Src.a2, vU8 f.Src.a3, vU8 f.Src.a4, vU8 f.Src.a5, vI f.Vlan, vU16 f.Type_, vf1])]) (shr' := [Fact.sl u8S vf1 f.Data]) [1, 4, 9] [0] [0] rfl rfl rfl rfl ?_)
 rcases Bool.eq_false_or_eq_true (check1 != (0 : Int)) with hg1 | hg1
 ·replace h := br_t hg1 h
  refine Tk_condT (congrArg (fun b => some (Value.bool b)) hg1) ?_
  refine Tk_seq (Tk_region (Tops_step rfl (OpT_move rfl rfl rfl rfl) ?_))
  refine Tops_step rfl (OpT_assign rfl rfl rfl rfl) ?_
  refine Tops_step rfl (OpT_assign rfl rfl rfl rfl) ?_
  refine Tops_nil (Tk_wkS (fr' := [(2, some (.slice none 0 0)), (3, some (vI check1))]) (own' := []) (shr' := []) [2, 3] [] [] rfl rfl rfl rfl ?_)
  refine Tk_nilrow u8S ?_
  obtain rfl := Option.some.inj h
  exact Tk_retV rfl rfl (resA (vs := [.slice none 0 0, vI check1]) rfl ⟨rfl, rfl, trivial⟩) [0] [] rfl rfl rfl ⟨(.slice none 0 0), rfl, rfl, rfl⟩
 ·replace h := br_f hg1 h
  refine Tk_condF (congrArg (fun b => some (Value.bool b)) hg1) ?_
  refine Tk_skip (Tk_seq (Tk_drawT (by kernel_rfl) ?_))
  refine TA_tb [0, 1, 0, 4, 15, 31, 63] (by kernel_rfl) fun htb => ?_
  refine TA_wkS (fr' := [(1, some (.pointer (some ⟨b1, 0, none⟩)))]) (own' := [some (cellsR b1 26 [vU8 f.Dst.a0, vU8 f.Dst.a1, vU8 f.Dst.a2, vU8 f.Dst.a3, vU8 f.Dst.a4, vU8 f.Dst.a5, vU8 f.Src.a0, vU8 f.Src.a1, vU8 f.Src.a2, vU8 f.Src.a3, vU8 f.Src.a4, vU8 f.Src.a5, vI f.Vlan, vU16 f.Type_, vf1])]) (shr' := [Fact.sl u8S vf1 f.Data]) [1] [0] [0] rfl rfl rfl rfl ?_
  refine TA_vs (vs_retireP FrameS (x := f) (i := 0) rfl (rel_s1 (i := 0) rfl rfl rfl)) ?_
  refine TA_seg (lo := 0) (hi := 4) htb rfl rfl (by kernel_rfl) (fun c L a w => ∃ (p1 : Value), ∃ (v1 : Value), ∃ (p2 : Value), ∃ (v2 : Value), Sat c ⟨[(1, some (.pointer (some ⟨b1, 0, none⟩))), (11, bif L 0 then some (p1) else none), (12, bif L 1 then some (v1) else none), (13, bif L 2 then some (p2) else none), (14, bif L 3 then some (v2) else none)], [(none : Option Res)], [Fact.sl u8S vf1 f.Data, Fact.pt FrameS (.pointer (some ⟨b1, 0, none⟩)) f, (bif L 0 then Fact.pt a6UInt8S p1 f.Dst else Fact.tt), (bif L 1 then Fact.sl u8S v1 [f.Dst.a0, f.Dst.a1, f.Dst.a2, f.Dst.a3, f.Dst.a4, f.Dst.a5] else Fact.tt), (bif L 2 then Fact.pt a6UInt8S p2 f.Src else Fact.tt), (bif L 3 then Fact.sl u8S v2 [f.Src.a0, f.Src.a1, f.Src.a2, f.Src.a3, f.Src.a4, f.Src.a5] else Fact.tt)]⟩ a w) [([], [1]), ([0], []), ([], [3]), ([2], [])] rfl (by kernel_rfl) ?_ (steps_cons ?_ (steps_cons ?_ (steps_cons ?_ (steps_cons ?_ (steps_nil))))) ?_
  ·intro a w hs
   exact ⟨undef, undef, undef, undef, hs.startF [11, 12, 13, 14] [0] [0, 1, 2, 3, 4, 5] rfl rfl rfl rfl⟩
  ·intro L a w hv K Q hK
   obtain ⟨p1, v1, p2, v2, hs⟩ := hv
   refine wpOp_go rfl rfl hs (OpT_fieldP (S' := a6UInt8S) (y := f.Dst) rfl rfl rfl rfl fldF26x0 (i := 1) rfl (by intro h cs hr; obtain ⟨v, rfl, _⟩ := hr; rfl)) ?_
   rintro _ ⟨p1', rfl⟩ a' w' hs'
   exact hK a' w' ⟨p1', v1, p2, v2, hs'.putF (i := 1) rfl [0] [0, 1, 6, 3, 4, 5] rfl rfl rfl rfl⟩
  ·intro L a w hv K Q hK
   obtain ⟨p1, v1, p2, v2, hs⟩ := hv
   refine wpOp_go rfl rfl hs (OpT_sliceArrP u8S rfl (xs := [f.Dst.a0, f.Dst.a1, f.Dst.a2, f.Dst.a3, f.Dst.a4, f.Dst.a5]) rfl rfl rfl rfl arrF22 (i := 2) rfl (fun _ _ h => h) rfl rfl) ?_
   rintro _ ⟨v1', rfl⟩ a' w' hs'
   exact hK a' w' ⟨p1, v1', p2, v2, hs'.putF (i := 2) rfl [0] [0, 1, 2, 6, 4, 5] rfl rfl rfl rfl⟩
  ·intro L a w hv K Q hK
   obtain ⟨p1, v1, p2, v2, hs⟩ := hv
   refine wpOp_go rfl rfl hs (OpT_fieldP (S' := a6UInt8S) (y := f.Src) rfl rfl rfl rfl fldF26x1 (i := 1) rfl (by intro h cs hr; obtain ⟨v, rfl, _⟩ := hr; rfl)) ?_
   rintro _ ⟨p2', rfl⟩ a' w' hs'
   exact hK a' w' ⟨p1, v1, p2', v2, hs'.putF (i := 3) rfl [0] [0, 1, 2, 3, 6, 5] rfl rfl rfl rfl⟩
  ·intro L a w hv K Q hK
   obtain ⟨p1, v1, p2, v2, hs⟩ := hv
   refine wpOp_go rfl rfl hs (OpT_sliceArrP u8S rfl (xs := [f.Src.a0, f.Src.a1, f.Src.a2, f.Src.a3, f.Src.a4, f.Src.a5]) rfl rfl rfl rfl arrF22 (i := 4) rfl (fun _ _ h => h) rfl rfl) ?_
   rintro _ ⟨v2', rfl⟩ a' w' hs'
   exact hK a' w' ⟨p1, v1, p2, v2', hs'.putF (i := 4) rfl [0] [0, 1, 2, 3, 4, 6] rfl rfl rfl rfl⟩
  ·intro L a w hL hv
   rw [allTrue hL] at hv
   obtain ⟨p1, v1, p2, v2, hs⟩ := hv
   refine (show TA _ _ _ 4 ⟨[(1, some (.pointer (some ⟨b1, 0, none⟩))), (12, some (v1)), (14, some (v2))], [], [Fact.pt FrameS (.pointer (some ⟨b1, 0, none⟩)) f, Fact.sl u8S v1 [f.Dst.a0, f.Dst.a1, f.Dst.a2, f.Dst.a3, f.Dst.a4, f.Dst.a5], Fact.sl u8S v2 [f.Src.a0, f.Src.a1, f.Src.a2, f.Src.a3, f.Src.a4, f.Src.a5]]⟩ from ?_) a w (hs.wkS [1, 12, 14] [] [1, 3, 5] rfl rfl rfl rfl)
   clear hs hL
   refine TA_ex htb (by kernel_rfl) rfl rfl (OpT_buildSl (Shape.slice u8S) (vs := [v1, v2]) (xs := [[f.Dst.a0, f.Dst.a1, f.Dst.a2, f.Dst.a3, f.Dst.a4, f.Dst.a5], [f.Src.a0, f.Src.a1, f.Src.a2, f.Src.a3, f.Src.a4, f.Src.a5]]) rfl rfl rfl rfl rfl slF76 (isl_cons (is_sl (i := 1) rfl) (isl_cons (is_sl (i := 2) rfl) isl_nil)) rfl rfl rfl (rel_cons (rel_sl (i := 1) rfl) (rel_cons (rel_sl (i := 2) rfl) (rel_nil rfl)))) fun v3 => ?_
   obtain ⟨concat1, hx2, h⟩ := ob_e h
   refine TA_exP htb (by kernel_rfl) rfl rfl (OpT_callB [0] [0, 1] (w_slices_Concat_bytebyte hx2) [] rfl rfl rfl rfl rfl callee39 rfl rfl rfl rfl rfl rfl (bor_cons (bor_row 0 rfl rfl) bor_nil) (by rintro _ _ _ ⟨_, rfl, rfl, rfl⟩; exact ⟨rfl, (ri_cons (ri_row (S := u8S) rfl _ _) ri_nil)⟩)) ?_
   rintro _ ⟨v4, _, _, ⟨_, rfl, rfl, rfl⟩, rfl⟩
   refine TA_step htb (by kernel_rfl) rfl rfl (OpT_assign rfl rfl rfl rfl) ?_
   refine TA_end rfl ?_
   refine Tk_wkS (fr' := [(1, some (.pointer (some ⟨b1, 0, none⟩))), (5, some (v4))]) (own' := [some (rowS u8S v4 concat1)]) (shr' := [Fact.pt FrameS (.pointer (some ⟨b1, 0, none⟩)) f]) [1, 5] [1] [0] rfl rfl rfl rfl ?_
   refine Tk_seq (Tk_seq (Tk_region (Tops_ex rfl (OpT_fieldP (S' := iS) (y := f.Vlan) rfl rfl rfl rfl fldF26x2 (i := 0) rfl (by intro h cs hr; obtain ⟨v, rfl, _⟩ := hr; rfl)) fun p3 => ?_)))
   refine Tops_step rfl (OpT_loadP rfl rfl rfl rfl tyF3 (i := 1) rfl rfl) ?_
   refine Tops_step rfl (OpT_bin rfl rfl rfl rfl rfl (bin_geq_i (a := f.Vlan) (b := (0 : Int)))) ?_
   refine Tops_nil (Tk_wkS (fr' := [(1, some (.pointer (some ⟨b1, 0, none⟩))), (5, some (v4)), (19, some (vB (decide (f.Vlan ≥ (0 : Int)))))]) (own' := [some (rowS u8S v4 concat1)]) (shr' := [Fact.pt FrameS (.pointer (some ⟨b1, 0, none⟩)) f]) [1, 5, 19] [0] [0] rfl rfl rfl rfl ?_)
   refine Tk_join (α := (List UInt8) × Value) (fun s => ⟨[(1, some (.pointer (some ⟨b1, 0, none⟩))), (5, some (s.2))], [some (rowS u8S s.2 s.1)], [Fact.pt FrameS (.pointer (some ⟨b1, 0, none⟩)) f]⟩) (fun s => frame_BytesJ1 f s.1 = some r) ?_ ?_
   ·rintro ⟨b2, v5⟩ h
    replace h : frame_BytesJ1 f b2 = some r := h
    unfold frame_BytesJ1 at h
    refine Tk_seq (Tk_region (Tops_step rfl (OpT_move rfl rfl rfl rfl) ?_))
    refine Tops_ex rfl (OpT_fieldP (S' := u16S) (y := f.Type_) rfl rfl rfl rfl fldF26x3 (i := 0) rfl (by intro h cs hr; obtain ⟨v, rfl, _⟩ := hr; rfl)) fun p4 => ?_
    refine Tops_step rfl (OpT_loadP rfl rfl rfl rfl tyF23 (i := 1) rfl rfl) ?_
    refine Tops_step rfl (OpT_bin rfl rfl rfl rfl rfl (bin_shr_u16_u64 (a := f.Type_) (n := (8 : UInt64)))) ?_
    refine Tops_step rfl (OpT_cnv rfl rfl rfl rfl (cnv_u16_u8 (n := shr16 f.Type_ ((8 : UInt64).toNat)) Try.underlying23 Try.underlying5)) ?_
    refine Tops_ex rfl (OpT_fieldP (S' := u16S) (y := f.Type_) rfl rfl rfl rfl fldF26x3 (i := 0) rfl (by intro h cs hr; obtain ⟨v, rfl, _⟩ := hr; rfl)) fun p5 => ?_
    refine Tops_step rfl (OpT_loadP rfl rfl rfl rfl tyF23 (i := 2) rfl rfl) ?_
    refine Tops_step rfl (OpT_cnv rfl rfl rfl rfl (cnv_u16_u8 (n := f.Type_) Try.underlying23 Try.underlying5)) ?_
    refine Tops_ex rfl (OpT_buildSlice (S := u8S) (xs := [(shr16 f.Type_ ((8 : UInt64).toNat)).toUInt8, f.Type_.toUInt8]) (css := [[vU8 ((shr16 f.Type_ ((8 : UInt64).toNat)).toUInt8)], [vU8 f.Type_.toUInt8]]) (cs := [vU8 ((shr16 f.Type_ ((8 : UInt64).toNat)).toUInt8), vU8 f.Type_.toUInt8]) (e := 5) rfl rfl rfl rfl (bldF slF24 (by decide) (by kernel_rfl)) rfl rfl rfl rfl (rel_plainD (S := u8S) (xs := [(shr16 f.Type_ ((8 : UInt64).toNat)).toUInt8, f.Type_.toUInt8]) (css := [[vU8 ((shr16 f.Type_ ((8 : UInt64).toNat)).toUInt8)], [vU8 f.Type_.toUInt8]]) rfl rfl)) fun v6 => ?_
    obtain ⟨hc1, h⟩ := chk_e h
    refine Tops_ex rfl (OpT_appendB (S := u8S) rfl rfl rfl rfl rfl rfl slF24 (i := 0) (j := 1) rfl rfl hc1) fun v7 => ?_
    refine Tops_step rfl (OpT_assign rfl rfl rfl rfl) ?_
    refine Tops_nil (Tk_wkS (fr' := [(1, some (.pointer (some ⟨b1, 0, none⟩))), (5, some (v7))]) (own' := [some (rowS u8S v7 (b2 ++ [(shr16 f.Type_ ((8 : UInt64).toNat)).toUInt8, f.Type_.toUInt8]))]) (shr' := [Fact.pt FrameS (.pointer (some ⟨b1, 0, none⟩)) f]) [1, 5] [0] [0] rfl rfl rfl rfl ?_)
    refine Tk_seq (Tk_region (Tops_step rfl (OpT_move rfl rfl rfl rfl) ?_))
    refine Tops_ex rfl (OpT_fieldP (S' := (Shape.slice u8S)) (y := f.Data) rfl rfl rfl rfl fldF26x4 (i := 0) rfl (by intro h cs hr; obtain ⟨v, rfl, hv⟩ := hr; exact ⟨v, rfl, hv⟩)) fun p6 => ?_
    refine Tops_ex rfl (OpT_loadPS rfl rfl rfl rfl tyF24 (i := 1) rfl) fun v8 => ?_
    obtain ⟨hc2, h⟩ := chk_e h
    refine Tops_ex rfl (OpT_append rfl rfl rfl rfl rfl slF24 (i := 0) (j := 2) rfl rfl hc2) fun v9 => ?_
    refine Tops_step rfl (OpT_assign rfl rfl rfl rfl) ?_
    refine Tops_step rfl (OpT_assign rfl rfl rfl rfl) ?_
    refine Tops_nil (Tk_wkS (fr' := [(2, some (v9)), (3, some (vI (0 : Int)))]) (own' := [some (rowS u8S v9 ((b2 ++ [(shr16 f.Type_ ((8 : UInt64).toNat)).toUInt8, f.Type_.toUInt8]) ++ f.Data))]) (shr' := []) [2, 3] [0] [] rfl rfl rfl rfl ?_)
    obtain rfl := Option.some.inj h
    exact Tk_retV rfl rfl (resA (vs := [v9, vI (0 : Int)]) rfl ⟨rfl, rfl, trivial⟩) [0] [] rfl rfl rfl ⟨v9, rfl, rfl, rfl⟩
   ·intro HJ1
    rcases Bool.eq_false_or_eq_true (decide (f.Vlan ≥ (0 : Int))) with hg2 | hg2
    ·replace h := br_t hg2 h
     refine Tk_condT (congrArg (fun b => some (Value.bool b)) hg2) ?_
     refine Tk_region (Tops_step rfl (OpT_move rfl rfl rfl rfl) ?_)
     refine Tops_ex rfl (OpT_fieldP (S' := iS) (y := f.Vlan) rfl rfl rfl rfl fldF26x2 (i := 0) rfl (by intro h cs hr; obtain ⟨v, rfl, _⟩ := hr; rfl)) fun p7 => ?_
     refine Tops_step rfl (OpT_loadP rfl rfl rfl rfl tyF3 (i := 1) rfl rfl) ?_
     refine Tops_step rfl (OpT_bin rfl rfl rfl rfl rfl (bin_shr_i_u64 (a := f.Vlan) (n := (8 : UInt64)))) ?_
     refine Tops_step rfl (OpT_cnv rfl rfl rfl rfl (cnv_i_u8 (n := shri f.Vlan ((8 : UInt64).toNat)) Try.underlying3 Try.underlying5)) ?_
     refine Tops_ex rfl (OpT_fieldP (S' := iS) (y := f.Vlan) rfl rfl rfl rfl fldF26x2 (i := 0) rfl (by intro h cs hr; obtain ⟨v, rfl, _⟩ := hr; rfl)) fun p8 => ?_
     refine Tops_step rfl (OpT_loadP rfl rfl rfl rfl tyF3 (i := 2) rfl rfl) ?_
     refine Tops_step rfl (OpT_cnv rfl rfl rfl rfl (cnv_i_u8 (n := f.Vlan) Try.underlying3 Try.underlying5)) ?_
     refine Tops_ex rfl (OpT_buildSlice (S := u8S) (xs := [(129 : UInt8), (0 : UInt8), u8 (shri f.Vlan ((8 : UInt64).toNat)), u8 f.Vlan]) (css := [[vU8 (129 : UInt8)], [vU8 (0 : UInt8)], [vU8 (u8 (shri f.Vlan ((8 : UInt64).toNat)))], [vU8 (u8 f.Vlan)]]) (cs := [vU8 (129 : UInt8), vU8 (0 : UInt8), vU8 (u8 (shri f.Vlan ((8 : UInt64).toNat))), vU8 (u8 f.Vlan)]) (e := 5) rfl rfl rfl rfl (bldF slF24 (by decide) (by kernel_rfl)) rfl rfl rfl rfl (rel_plainD (S := u8S) (xs := [(129 : UInt8), (0 : UInt8), u8 (shri f.Vlan ((8 : UInt64).toNat)), u8 f.Vlan]) (css := [[vU8 (129 : UInt8)], [vU8 (0 : UInt8)], [vU8 (u8 (shri f.Vlan ((8 : UInt64).toNat)))], [vU8 (u8 f.Vlan)]]) rfl rfl)) fun v10 => ?_
     obtain ⟨hc3, h⟩ := chk_e h
     refine Tops_ex rfl (OpT_appendB (S := u8S) rfl rfl rfl rfl rfl rfl slF24 (i := 0) (j := 1) rfl rfl hc3) fun v11 => ?_
     refine Tops_step rfl (OpT_assign rfl rfl rfl rfl) ?_
     refine Tops_nil (Tk_wkS (fr' := [(1, some (.pointer (some ⟨b1, 0, none⟩))), (5, some (v11))]) (own' := [some (rowS u8S v11 (concat1 ++ [(129 : UInt8), (0 : UInt8), u8 (shri f.Vlan ((8 : UInt64).toNat)), u8 f.Vlan]))]) (shr' := [Fact.pt FrameS (.pointer (some ⟨b1, 0, none⟩)) f]) [1, 5] [0] [0] rfl rfl rfl rfl ?_)
     exact Tk_jmpS (HJ1 (concat1 ++ [(129 : UInt8), (0 : UInt8), u8 (shri f.Vlan ((8 : UInt64).toNat)), u8 f.Vlan], v11) h) [1, 5] [0] [0] rfl rfl rfl rfl
    ·replace h := br_f hg2 h
     refine Tk_condF (congrArg (fun b => some (Value.bool b)) hg2) ?_
     refine Tk_skip ?_
     exact Tk_jmpS (HJ1 (concat1, v4) h) [1, 5] [0] [0] rfl rfl rfl rfl

set_option maxRecDepth 100000 in
set_option maxHeartbeats 4000000 in
theorem w_frame_HdrOf {hp0 : Hdr} {r : (List UInt8)} (h : frame_HdrOf hp0 = some r) :
  Ctr Try.prog 36 #[.agg #[vU8 hp0.Flags, vU16 hp0.Start, vU16 hp0.Off, vU16 hp0.Buffers]] [] []
   (fun rv own shr => ∃ (w1 : Value), rv = w1 ∧ own = [(rowS u8S w1 r)] ∧ shr = []) := by
 unfold frame_HdrOf at h
 refine Ctr.mk (args := [.agg #[vU8 hp0.Flags, vU16 hp0.Start, vU16 hp0.Off, vU16 hp0.Buffers]]) Try.func36 rfl rfl (fun R0 w0 B => ?_)
 refine Tk_seq (Tk_region (Tops_ex rfl (OpT_box rfl rfl rfl rfl) fun b1 => ?_))
 refine Tops_step rfl (OpT_assign rfl rfl rfl rfl) ?_
 refine Tops_nil (Tk_wkS (fr' := [(1, some (.pointer (some ⟨b1, 0, none⟩)))]) (own' := [some (cellsR b1 50 [vU8 hp0.Flags, vU16 hp0.Start, vU16 hp0.Off, vU16 hp0.Buffers])]) (shr' := []) [1] [0] [] rfl rfl rfl rfl ?_)
 refine Tk_seq (Tk_region ?_)
 obtain ⟨hc1, h⟩ := chk_e h
 refine Tops_ex rfl (OpT_makeD u8S rfl (u := (0 : UInt8)) rfl rfl rfl rfl rfl slF24 rfl hc1) fun v1 => ?_
 refine Tops_step rfl (OpT_assign rfl rfl rfl rfl) ?_
 refine Tops_nil (Tk_wkS (fr' := [(1, some (.pointer (some ⟨b1, 0, none⟩))), (3, some (v1))]) (own' := [some (cellsR b1 50 [vU8 hp0.Flags, vU16 hp0.Start, vU16 hp0.Off, vU16 hp0.Buffers]), some (rowS u8S v1 (List.replicate (12 : Int).toNat (0 : UInt8)))]) (shr' := []) [1, 3] [0, 1] [] rfl rfl rfl rfl ?_)
 refine Tk_seq (Tk_region (Tops_step rfl (OpT_move rfl rfl rfl rfl) ?_))
 refine Tops_step rfl (OpT_fieldC rfl rfl rfl rfl fldF50x0) ?_
 refine Tops_step rfl (OpT_loadC rfl rfl rfl rfl tyF5 (i := 0) rfl rfl) ?_
 obtain ⟨y1, hx1, h⟩ := ob_e h
 refine Tops_step rfl (OpT_idxO rfl rfl rfl rfl rfl slF24 (i := 1) rfl hx1) ?_
 refine Tops_step rfl (OpT_storeO (S := u8S) (u := hp0.Flags) rfl rfl rfl rfl rfl tyF5 (i := 1) rfl hx1 rfl) ?_
 refine Tops_nil (Tk_wkS (fr' := [(1, some (.pointer (some ⟨b1, 0, none⟩))), (3, some (v1))]) (own' := [some (cellsR b1 50 [vU8 hp0.Flags, vU16 hp0.Start, vU16 hp0.Off, vU16 hp0.Buffers]), some (rowS u8S v1 ((List.replicate (12 : Int).toNat (0 : UInt8)).set (0 : Int).toNat hp0.Flags))]) (shr' := []) [1, 3] [0, 1] [] rfl rfl rfl rfl ?_)
 refine Tk_seq (Tk_seq (Tk_region (Tops_step rfl (OpT_fieldC rfl rfl rfl rfl fldF50x1) ?_)))
 refine Tops_step rfl (OpT_loadC rfl rfl rfl rfl tyF23 (i := 0) rfl rfl) ?_
 refine Tops_step rfl (OpT_fieldC rfl rfl rfl rfl fldF50x2) ?_
 refine Tops_step rfl (OpT_loadC rfl rfl rfl rfl tyF23 (i := 0) rfl rfl) ?_
 refine Tops_step rfl (OpT_fieldC rfl rfl rfl rfl fldF50x3) ?_
 refine Tops_step rfl (OpT_loadC rfl rfl rfl rfl tyF23 (i := 0) rfl rfl) ?_
 refine Tops_step rfl (OpT_build (v := .agg #[vU16 hp0.Start, vU16 hp0.Off, vU16 hp0.Buffers]) rfl rfl rfl rfl (bldV (by kernel_rfl))) ?_
 refine Tops_step rfl (OpT_move rfl rfl rfl rfl) ?_
 refine Tops_nil (Tk_wkS (fr' := [(3, some (v1)), (17, some (.agg #[vU16 hp0.Start, vU16 hp0.Off, vU16 hp0.Buffers])), (18, some (vI (0 : Int)))]) (own' := [some (rowS u8S v1 ((List.replicate (12 : Int).toNat (0 : UInt8)).set (0 : Int).toNat hp0.Flags))]) (shr' := []) [3, 17, 18] [1] [] rfl rfl rfl rfl ?_)
 refine Tk_block (Tk_loopS (σ := (List UInt8) × Int × Value) [3, 17, 18] [0] [] (fun s => ⟨[(3, some (s.2.2)), (17, some (.agg #[vU16 hp0.Start, vU16 hp0.Off, vU16 hp0.Buffers])), (18, some (vI s.2.1))], [some (rowS u8S s.2.2 s.1)], []⟩) (fun nf1 s => frame_HdrOfL1 hp0 nf1 s.1 s.2.1 = some r) fuel ((List.replicate (12 : Int).toNat (0 : UInt8)).set (0 : Int).toNat hp0.Flags, (0 : Int), v1) h rfl rfl rfl rfl rfl (fun s h => by cases h) ?_)
 rintro nf1 ⟨l1, x1, v2⟩ h
 replace h : frame_HdrOfL1B hp0 (frame_HdrOfL1 hp0 nf1) l1 x1 = some r := h
 unfold frame_HdrOfL1B at h
 refine Tk_seq (Tk_region (Tops_step rfl (OpT_bin rfl rfl rfl rfl rfl (bin_lss_i (a := x1) (b := (3 : Int)))) ?_))
 refine Tops_nil (Tk_seq ?_)
 rcases Bool.eq_false_or_eq_true (decide (x1 < (3 : Int))) with hg1 | hg1
 ·replace h := br_t hg1 h
  refine Tk_condT (congrArg (fun b => some (Value.bool b)) hg1) ?_
  refine Tk_skip (Tk_seq (Tk_block (Tk_seq (Tk_region (Tops_step rfl (OpT_move rfl rfl rfl rfl) ?_)))))
  obtain ⟨u1, hx2, h⟩ := ob_e h
  refine Tops_step rfl (OpT_idxV vU16 [hp0.Start, hp0.Off, hp0.Buffers] rfl rfl rfl rfl rfl arrF93 tyF23 rfl rfl hx2) ?_
  refine Tops_step rfl (OpT_assign rfl rfl rfl rfl) ?_
  refine Tops_step rfl (OpT_assign rfl rfl rfl rfl) ?_
  refine Tops_nil (Tk_wkS (fr' := [(3, some (v2)), (17, some (.agg #[vU16 hp0.Start, vU16 hp0.Off, vU16 hp0.Buffers])), (18, some (vI x1)), (4, some (vI x1)), (5, some (vU16 u1))]) (own' := [some (rowS u8S v2 l1)]) (shr' := []) [3, 17, 18, 4, 5] [0] [] rfl rfl rfl rfl ?_)
  refine Tk_region (Tops_step rfl (OpT_move rfl rfl rfl rfl) ?_)
  refine Tops_step rfl (OpT_move rfl rfl rfl rfl) ?_
  refine Tops_step rfl (OpT_bin rfl rfl rfl rfl rfl (bin_mul_i (a := (2 : Int)) (b := x1))) ?_
  refine Tops_step rfl (OpT_bin rfl rfl rfl rfl rfl (bin_add_i (a := (6 : Int)) (b := wi ((2 : Int) * x1)))) ?_
  refine Tops_step rfl (OpT_move rfl rfl rfl rfl) ?_
  refine Tops_step rfl (OpT_move rfl rfl rfl rfl) ?_
  refine Tops_step rfl (OpT_bin rfl rfl rfl rfl rfl (bin_mul_i (a := (2 : Int)) (b := x1))) ?_
  refine Tops_step rfl (OpT_bin rfl rfl rfl rfl rfl (bin_add_i (a := (7 : Int)) (b := wi ((2 : Int) * x1)))) ?_
  refine Tops_step rfl (OpT_move rfl rfl rfl rfl) ?_
  refine Tops_step rfl (OpT_cnv rfl rfl rfl rfl (cnv_u16_u8 (n := u1) Try.underlying23 Try.underlying5)) ?_
  refine Tops_step rfl (OpT_move rfl rfl rfl rfl) ?_
  refine Tops_step rfl (OpT_bin rfl rfl rfl rfl rfl (bin_shr_u16_u64 (a := u1) (n := (8 : UInt64)))) ?_
  refine Tops_step rfl (OpT_cnv rfl rfl rfl rfl (cnv_u16_u8 (n := shr16 u1 ((8 : UInt64).toNat)) Try.underlying23 Try.underlying5)) ?_
  obtain ⟨y2, hx3, h⟩ := ob_e h
  refine Tops_step rfl (OpT_idxO rfl rfl rfl rfl rfl slF24 (i := 0) rfl hx3) ?_
  refine Tops_step rfl (OpT_storeO (S := u8S) (u := u1.toUInt8) rfl rfl rfl rfl rfl tyF5 (i := 0) rfl hx3 rfl) ?_
  obtain ⟨y3, hx4, h⟩ := ob_e h
  refine Tops_step rfl (OpT_idxO rfl rfl rfl rfl rfl slF24 (i := 0) rfl hx4) ?_
  refine Tops_step rfl (OpT_storeO (S := u8S) (u := (shr16 u1 ((8 : UInt64).toNat)).toUInt8) rfl rfl rfl rfl rfl tyF5 (i := 0) rfl hx4 rfl) ?_
  refine Tops_nil (Tk_wkS (fr' := [(3, some (v2)), (17, some (.agg #[vU16 hp0.Start, vU16 hp0.Off, vU16 hp0.Buffers])), (18, some (vI x1))]) (own' := [some (rowS u8S v2 ((l1.set (wi ((6 : Int) + (wi ((2 : Int) * x1)))).toNat u1.toUInt8).set (wi ((7 : Int) + (wi ((2 : Int) * x1)))).toNat ((shr16 u1 ((8 : UInt64).toNat)).toUInt8)))]) (shr' := []) [3, 17, 18] [0] [] rfl rfl rfl rfl ?_)
  refine Tk_blk (Tk_region (Tops_step rfl (OpT_bin rfl rfl rfl rfl rfl (bin_add_i (a := x1) (b := (1 : Int)))) ?_))
  refine Tops_step rfl (OpT_move rfl rfl rfl rfl) ?_
  refine Tops_nil (Tk_wkS (fr' := [(3, some (v2)), (17, some (.agg #[vU16 hp0.Start, vU16 hp0.Off, vU16 hp0.Buffers])), (18, some (vI (wi (x1 + (1 : Int)))))]) (own' := [some (rowS u8S v2 ((l1.set (wi ((6 : Int) + (wi ((2 : Int) * x1)))).toNat u1.toUInt8).set (wi ((7 : Int) + (wi ((2 : Int) * x1)))).toNat ((shr16 u1 ((8 : UInt64).toNat)).toUInt8)))]) (shr' := []) [3, 17, 18] [0] [] rfl rfl rfl rfl ?_)
  exact Tk_backS ((l1.set (wi ((6 : Int) + (wi ((2 : Int) * x1)))).toNat u1.toUInt8).set (wi ((7 : Int) + (wi ((2 : Int) * x1)))).toNat ((shr16 u1 ((8 : UInt64).toNat)).toUInt8), wi (x1 + (1 : Int)), v2) h [3, 17, 18] [0] [] rfl rfl rfl rfl rfl
 ·replace h := br_f hg1 h
  refine Tk_condF (congrArg (fun b => some (Value.bool b)) hg1) ?_
  refine Tk_exit _ rfl ?_
  refine Tk_seq (Tk_region (Tops_step rfl (OpT_move rfl rfl rfl rfl) ?_))
  refine Tops_step rfl (OpT_assign rfl rfl rfl rfl) ?_
  refine Tops_nil (Tk_wkS (fr' := [(2, some (v2))]) (own' := [some (rowS u8S v2 l1)]) (shr' := []) [2] [0] [] rfl rfl rfl rfl ?_)
  obtain rfl := Option.some.inj h
  exact Tk_retV rfl rfl (resA (vs := [v2]) rfl ⟨rfl, trivial⟩) [0] [] rfl rfl rfl ⟨v2, rfl, rfl, rfl⟩

set_option maxRecDepth 100000 in
set_option maxHeartbeats 4000000 in
theorem w_net_Deliver {m : gmem_Mem} {feats : UInt64} {bufs : List (List Seg)} {f : Frame} {b_m : Nat} {vm1 : Value} {vm2 : Value} {vsm1 : List Value} {vbufs1 : Value} {vf1 : Value} {r : ((List UInt32) × Int × (List (List UInt8)))} (h : net_Deliver m feats bufs f = some r) :
  Ctr Try.prog 15 #[.pointer (some ⟨b_m, 0, none⟩), vU64 feats, vbufs1, .agg #[vU8 f.Dst.a0, vU8 f.Dst.a1, vU8 f.Dst.a2, vU8 f.Dst.a3, vU8 f.Dst.a4, vU8 f.Dst.a5, vU8 f.Src.a0, vU8 f.Src.a1, vU8 f.Src.a2, vU8 f.Src.a3, vU8 f.Src.a4, vU8 f.Src.a5, vI f.Vlan, vU16 f.Type_, vf1]] [(cellsR b_m 78 [vm1, vm2]), (rowsX u8S true vm2 vsm1 m.b none)] [Fact.sl RegionS vm1 m.l, Fact.sl (Shape.slice SegS) vbufs1 bufs, Fact.sl u8S vf1 f.Data]
   (fun rv own shr => ∃ (w1 : Value), rv = .tuple #[w1, vI r.2.1] ∧ own = [(cellsR b_m 78 [vm1, vm2]), (rowsX u8S true vm2 vsm1 r.2.2 none), (rowS u32S w1 r.1)] ∧ shr = []) := by
 unfold net_Deliver at h
 refine Ctr.mk (args := [.pointer (some ⟨b_m, 0, none⟩), vU64 feats, vbufs1, .agg #[vU8 f.Dst.a0, vU8 f.Dst.a1, vU8 f.Dst.a2, vU8 f.Dst.a3, vU8 f.Dst.a4, vU8 f.Dst.a5, vU8 f.Src.a0, vU8 f.Src.a1, vU8 f.Src.a2, vU8 f.Src.a3, vU8 f.Src.a4, vU8 f.Src.a5, vI f.Vlan, vU16 f.Type_, vf1]]) Try.func15 rfl rfl (fun R0 w0 B => ?_)
 refine Tk_seq (Tk_region (Tops_ex rfl (OpT_box rfl rfl rfl rfl) fun b1 => ?_))
 refine Tops_step rfl (OpT_assign rfl rfl rfl rfl) ?_
 refine Tops_step rfl (OpT_assign rfl rfl rfl rfl) ?_
 refine Tops_nil (Tk_wkS (fr' := [(0, some (.pointer (some ⟨b_m, 0, none⟩))), (1, some (vU64 feats)), (2, some (vbufs1)), (7, some (.pointer (some ⟨b1, 0, none⟩)))]) (own' := [some (cellsR b_m 78 [vm1, vm2]), some (rowsX u8S true vm2 vsm1 m.b none), some (cellsR b1 26 [vU8 f.Dst.a0, vU8 f.Dst.a1, vU8 f.Dst.a2, vU8 f.Dst.a3, vU8 f.Dst.a4, vU8 f.Dst.a5, vU8 f.Src.a0, vU8 f.Src.a1, vU8 f.Src.a2, vU8 f.Src.a3, vU8 f.Src.a4, vU8 f.Src.a5, vI f.Vlan, vU16 f.Type_, vf1])]) (shr' := [Fact.sl RegionS vm1 m.l, Fact.sl (Shape.slice SegS) vbufs1 bufs, Fact.sl u8S vf1 f.Data]) [0, 1, 2, 7] [0, 1, 2] [0, 1, 2] rfl rfl rfl rfl ?_)
 refine Tk_seq (Tk_seq (Tk_region (Tops_step rfl (OpT_move rfl rfl rfl rfl) ?_)))
 refine Tops_step rfl (OpT_ptrNil rfl rfl rfl (.inl rfl) rfl rfl ptrF35) ?_
 refine Tops_nil (Tk_wkS (fr' := [(0, some (.pointer (some ⟨b_m, 0, none⟩))), (1, some (vU64 feats)), (2, some (vbufs1)), (7, some (.pointer (some ⟨b1, 0, none⟩))), (24, some (vB false))]) (own' := [some (cellsR b_m 78 [vm1, vm2]), some (rowsX u8S true vm2 vsm1 m.b none), some (cellsR b1 26 [vU8 f.Dst.a0, vU8 f.Dst.a1, vU8 f.Dst.a2, vU8 f.Dst.a3, vU8 f.Dst.a4, vU8 f.Dst.a5, vU8 f.Src.a0, vU8 f.Src.a1, vU8 f.Src.a2, vU8 f.Src.a3, vU8 f.Src.a4, vU8 f.Src.a5, vI f.Vlan, vU16 f.Type_, vf1])]) (shr' := [Fact.sl RegionS vm1 m.l, Fact.sl (Shape.slice SegS) vbufs1 bufs, Fact.sl u8S vf1 f.Data]) [0, 1, 2, 7, 24] [0, 1, 2] [0, 1, 2] rfl rfl rfl rfl ?_)
 refine Tk_condF rfl ?_
 refine Tk_skip (Tk_seq (Tk_region (Tops_step rfl (OpT_loadCA (vs := [vU8 f.Dst.a0, vU8 f.Dst.a1, vU8 f.Dst.a2, vU8 f.Dst.a3, vU8 f.Dst.a4, vU8 f.Dst.a5, vU8 f.Src.a0, vU8 f.Src.a1, vU8 f.Src.a2, vU8 f.Src.a3, vU8 f.Src.a4, vU8 f.Src.a5, vI f.Vlan, vU16 f.Type_, vf1]) rfl rfl rfl rfl tyF26 (i := 2) rfl rfl rfl) ?_)))
 obtain ⟨bytes1, hx1, h⟩ := ob_e h
 refine Tops_exP rfl (OpT_call (w_frame_Bytes hx1) [] [2] rfl rfl rfl rfl rfl callee33 rfl rfl rfl rfl) ?_
 rintro _ ⟨_, _, _, ⟨v1, rfl, rfl, rfl⟩, rfl⟩
 refine Tops_step rfl (OpT_move rfl rfl rfl rfl) ?_
 refine Tops_step rfl (OpT_extract rfl rfl rfl rfl rfl) ?_
 refine Tops_step rfl (OpT_extract rfl rfl rfl rfl rfl) ?_
 refine Tops_step rfl (OpT_assign rfl rfl rfl rfl) ?_
 refine Tops_step rfl (OpT_assign rfl rfl rfl rfl) ?_
 refine Tops_nil (Tk_wkS (fr' := [(0, some (.pointer (some ⟨b_m, 0, none⟩))), (1, some (vU64 feats)), (2, some (vbufs1)), (10, some (v1)), (11, some (vI bytes1.2))]) (own' := [some (cellsR b_m 78 [vm1, vm2]), some (rowsX u8S true vm2 vsm1 m.b none), some (rowS u8S v1 bytes1.1)]) (shr' := [Fact.sl RegionS vm1 m.l, Fact.sl (Shape.slice SegS) vbufs1 bufs]) [0, 1, 2, 10, 11] [0, 1, 3] [0, 1] rfl rfl rfl rfl ?_)
 refine Tk_seq (Tk_seq (Tk_region (Tops_step rfl (OpT_move rfl rfl rfl rfl) ?_)))
 refine Tops_step rfl (OpT_bin rfl rfl rfl rfl rfl (bin_neq_i (a := bytes1.2) (b := (0 : Int)))) ?_
 refine Tops_nil (Tk_wkS (fr' := [(0, some (.pointer (some ⟨b_m, 0, none⟩))), (1, some (vU64 feats)), (2, some (vbufs1)), (10, some (v1)), (11, some (vI bytes1.2)), (31, some (vB (bytes1.2 != (0 : Int))))]) (own' := [some (cellsR b_m 78 [vm1, vm2]), some (rowsX u8S true vm2 vsm1 m.b none), some (rowS u8S v1 bytes1.1)]) (shr' := [Fact.sl RegionS vm1 m.l, Fact.sl (Shape.slice SegS) vbufs1 bufs]) [0, 1, 2, 10, 11, 31] [0, 1, 2] [0, 1] rfl rfl rfl rfl ?_)
 rcases Bool.eq_false_or_eq_true (bytes1.2 != (0 : Int)) with hg1 | hg1
 ·replace h := br_t hg1 h
  refine Tk_condT (congrArg (fun b => some (Value.bool b)) hg1) ?_
  refine Tk_seq (Tk_region (Tops_step rfl (OpT_move rfl rfl rfl rfl) ?_))
  refine Tops_step rfl (OpT_assign rfl rfl rfl rfl) ?_
  refine Tops_step rfl (OpT_assign rfl rfl rfl rfl) ?_
  refine Tops_nil (Tk_wkS (fr' := [(8, some (.slice none 0 0)), (9, some (vI bytes1.2))]) (own' := [some (cellsR b_m 78 [vm1, vm2]), some (rowsX u8S true vm2 vsm1 m.b none)]) (shr' := [Fact.sl RegionS vm1 m.l]) [8, 9] [0, 1] [0] rfl rfl rfl rfl ?_)
  refine Tk_nilrow u32S ?_
  obtain rfl := Option.some.inj h
  exact Tk_retV rfl rfl (resA (vs := [.slice none 0 0, vI bytes1.2]) rfl ⟨rfl, rfl, trivial⟩) [0, 1, 2] [] rfl rfl rfl ⟨(.slice none 0 0), rfl, rfl, rfl⟩
 ·replace h := br_f hg1 h
  refine Tk_condF (congrArg (fun b => some (Value.bool b)) hg1) ?_
  refine Tk_skip (Tk_seq (Tk_region (Tops_step rfl (OpT_move rfl rfl rfl rfl) ?_)))
  refine Tops_step rfl (OpT_move rfl rfl rfl rfl) ?_
  refine Tops_step rfl (OpT_move rfl rfl rfl rfl) ?_
  refine Tops_step rfl (OpT_lenO rfl rfl rfl rfl Try.underlying24 (i := 2) rfl) ?_
  refine Tops_step rfl (OpT_bin rfl rfl rfl rfl rfl (bin_add_i (a := (12 : Int)) (b := len bytes1.1))) ?_
  obtain ⟨needs1, hx2, h⟩ := ob_e h
  refine Tops_exP rfl (OpT_call (w_net_Needs hx2) [] [1] rfl rfl rfl rfl rfl callee28 rfl rfl rfl rfl) ?_
  rintro _ ⟨_, _, _, ⟨rfl, rfl, rfl⟩, rfl⟩
  refine Tops_step rfl (OpT_move rfl rfl rfl rfl) ?_
  refine Tops_step rfl (OpT_extract rfl rfl rfl rfl rfl) ?_
  refine Tops_step rfl (OpT_extract rfl rfl rfl rfl rfl) ?_
  refine Tops_step rfl (OpT_assign rfl rfl rfl rfl) ?_
  refine Tops_step rfl (OpT_assign rfl rfl rfl rfl) ?_
  refine Tops_nil (Tk_wkS (fr' := [(0, some (.pointer (some ⟨b_m, 0, none⟩))), (1, some (vU64 feats)), (2, some (vbufs1)), (10, some (v1)), (12, some (vI needs1.1)), (13, some (vB needs1.2))]) (own' := [some (cellsR b_m 78 [vm1, vm2]), some (rowsX u8S true vm2 vsm1 m.b none), some (rowS u8S v1 bytes1.1)]) (shr' := [Fact.sl RegionS vm1 m.l, Fact.sl (Shape.slice SegS) vbufs1 bufs]) [0, 1, 2, 10, 12, 13] [0, 1, 2] [0, 1] rfl rfl rfl rfl ?_)
  refine Tk_seq (Tk_seq (Tk_region (Tops_step rfl (OpT_move rfl rfl rfl rfl) ?_)))
  refine Tops_step rfl (OpT_not rfl rfl rfl rfl) ?_
  refine Tops_nil (Tk_wkS (fr' := [(0, some (.pointer (some ⟨b_m, 0, none⟩))), (1, some (vU64 feats)), (2, some (vbufs1)), (10, some (v1)), (12, some (vI needs1.1)), (43, some (vB (!needs1.2)))]) (own' := [some (cellsR b_m 78 [vm1, vm2]), some (rowsX u8S true vm2 vsm1 m.b none), some (rowS u8S v1 bytes1.1)]) (shr' := [Fact.sl RegionS vm1 m.l, Fact.sl (Shape.slice SegS) vbufs1 bufs]) [0, 1, 2, 10, 12, 43] [0, 1, 2] [0, 1] rfl rfl rfl rfl ?_)
  rcases Bool.eq_false_or_eq_true ((!needs1.2)) with hg2 | hg2
  ·replace h := br_t hg2 h
   refine Tk_condT (congrArg (fun b => some (Value.bool b)) hg2) ?_
   refine Tk_seq (Tk_region (Tops_step rfl (OpT_assign rfl rfl rfl rfl) ?_))
   refine Tops_step rfl (OpT_assign rfl rfl rfl rfl) ?_
   refine Tops_nil (Tk_wkS (fr' := [(8, some (.slice none 0 0)), (9, some (vI (7 : Int)))]) (own' := [some (cellsR b_m 78 [vm1, vm2]), some (rowsX u8S true vm2 vsm1 m.b none)]) (shr' := [Fact.sl RegionS vm1 m.l]) [8, 9] [0, 1] [0] rfl rfl rfl rfl ?_)
   refine Tk_nilrow u32S ?_
   obtain rfl := Option.some.inj h
   exact Tk_retV rfl rfl (resA (vs := [.slice none 0 0, vI (7 : Int)]) rfl ⟨rfl, rfl, trivial⟩) [0, 1, 2] [] rfl rfl rfl ⟨(.slice none 0 0), rfl, rfl, rfl⟩
  ·replace h := br_f hg2 h
   refine Tk_condF (congrArg (fun b => some (Value.bool b)) hg2) ?_
   refine Tk_skip (Tk_seq (Tk_seq (Tk_region (Tops_step rfl (OpT_move rfl rfl rfl rfl) ?_))))
   refine Tops_step rfl (OpT_move rfl rfl rfl rfl) ?_
   obtain ⟨hc1, h⟩ := chk_e h
   refine Tops_ex rfl (OpT_sliceH (m := needs1.1) rfl rfl rfl rfl rfl slF33 (i := 1) rfl hc1) fun v2 => ?_
   refine Tops_step rfl (OpT_lenS rfl rfl rfl rfl Try.underlying33 (i := 2) rfl) ?_
   refine Tops_step rfl (OpT_move rfl rfl rfl rfl) ?_
   refine Tops_nil (Tk_wkS (fr' := [(0, some (.pointer (some ⟨b_m, 0, none⟩))), (1, some (vU64 feats)), (2, some (vbufs1)), (10, some (v1)), (12, some (vI needs1.1)), (46, some (v2)), (47, some (vI (len (sub bufs (0 : Int) needs1.1)))), (48, some (vI (0 : Int)))]) (own' := [some (cellsR b_m 78 [vm1, vm2]), some (rowsX u8S true vm2 vsm1 m.b none), some (rowS u8S v1 bytes1.1)]) (shr' := [Fact.sl RegionS vm1 m.l, Fact.sl (Shape.slice SegS) vbufs1 bufs, Fact.sl (Shape.slice SegS) v2 (sub bufs (0 : Int) needs1.1)]) [0, 1, 2, 10, 12, 46, 47, 48] [0, 1, 2] [0, 1, 2] rfl rfl rfl rfl ?_)
   refine Tk_block (Tk_loopS (σ := Int) [0, 1, 2, 10, 12, 46, 47, 48] [0, 1, 2] [0, 1, 2] (fun s => ⟨[(0, some (.pointer (some ⟨b_m, 0, none⟩))), (1, some (vU64 feats)), (2, some (vbufs1)), (10, some (v1)), (12, some (vI needs1.1)), (46, some (v2)), (47, some (vI (len (sub bufs (0 : Int) needs1.1)))), (48, some (vI s))], [some (cellsR b_m 78 [vm1, vm2]), some (rowsX u8S true vm2 vsm1 m.b none), some (rowS u8S v1 bytes1.1)], [Fact.sl RegionS vm1 m.l, Fact.sl (Shape.slice SegS) vbufs1 bufs, Fact.sl (Shape.slice SegS) v2 (sub bufs (0 : Int) needs1.1)]⟩) (fun nf1 s => net_DeliverL1 m feats bufs bytes1 needs1 nf1 s = some r) fuel (0 : Int) h rfl rfl rfl rfl rfl (fun s h => by cases h) ?_)
   rintro nf1 x1 h
   replace h : net_DeliverL1B m feats bufs bytes1 needs1 (net_DeliverL1 m feats bufs bytes1 needs1 nf1) x1 = some r := h
   unfold net_DeliverL1B at h
   refine Tk_seq (Tk_region (Tops_step rfl (OpT_bin rfl rfl rfl rfl rfl (bin_lss_i (a := x1) (b := len (sub bufs (0 : Int) needs1.1)))) ?_))
   refine Tops_nil (Tk_seq ?_)
   rcases Bool.eq_false_or_eq_true (decide (x1 < (len (sub bufs (0 : Int) needs1.1)))) with hg3 | hg3
   ·replace h := br_t hg3 h
    refine Tk_condT (congrArg (fun b => some (Value.bool b)) hg3) ?_
    refine Tk_skip (Tk_seq (Tk_block (Tk_seq (Tk_region ?_))))
    obtain ⟨y1, hx3, h⟩ := ob_e h
    refine Tops_ex rfl (OpT_idxS rfl rfl rfl rfl rfl slF33 (i := 2) rfl hx3) fun p1 => ?_
    refine Tops_ex rfl (OpT_loadPS rfl rfl rfl rfl tyF58 (i := 3) rfl) fun v3 => ?_
    refine Tops_step rfl (OpT_assign rfl rfl rfl rfl) ?_
    refine Tops_nil (Tk_wkS (fr' := [(0, some (.pointer (some ⟨b_m, 0, none⟩))), (1, some (vU64 feats)), (2, some (vbufs1)), (10, some (v1)), (12, some (vI needs1.1)), (46, some (v2)), (47, some (vI (len (sub bufs (0 : Int) needs1.1)))), (48, some (vI x1)), (15, some (v3))]) (own' := [some (cellsR b_m 78 [vm1, vm2]), some (rowsX u8S true vm2 vsm1 m.b none), some (rowS u8S v1 bytes1.1)]) (shr' := [Fact.sl RegionS vm1 m.l, Fact.sl (Shape.slice SegS) vbufs1 bufs, Fact.sl (Shape.slice SegS) v2 (sub bufs (0 : Int) needs1.1), Fact.sl SegS v3 y1]) [0, 1, 2, 10, 12, 46, 47, 48, 15] [0, 1, 2] [0, 1, 2, 4] rfl rfl rfl rfl ?_)
    refine Tk_seq (Tk_region (Tops_step rfl (OpT_move rfl rfl rfl rfl) ?_))
    refine Tops_step rfl (OpT_move rfl rfl rfl rfl) ?_
    obtain ⟨in1, hx4, h⟩ := ob_e h
    refine Tops_exP rfl (OpT_callP [3, 4, 2] (w_seg_In hx4) [0, 1] [0, 3] rfl rfl rfl rfl rfl callee34 rfl rfl rfl rfl rfl) ?_
    rintro _ ⟨_, _, _, ⟨rfl, rfl, rfl⟩, rfl⟩
    refine Tops_step rfl (OpT_assign rfl rfl rfl rfl) ?_
    refine Tops_nil (Tk_wkS (fr' := [(0, some (.pointer (some ⟨b_m, 0, none⟩))), (1, some (vU64 feats)), (2, some (vbufs1)), (10, some (v1)), (12, some (vI needs1.1)), (46, some (v2)), (47, some (vI (len (sub bufs (0 : Int) needs1.1)))), (48, some (vI x1)), (16, some (vI in1))]) (own' := [some (cellsR b_m 78 [vm1, vm2]), some (rowsX u8S true vm2 vsm1 m.b none), some (rowS u8S v1 bytes1.1)]) (shr' := [Fact.sl RegionS vm1 m.l, Fact.sl (Shape.slice SegS) vbufs1 bufs, Fact.sl (Shape.slice SegS) v2 (sub bufs (0 : Int) needs1.1)]) [0, 1, 2, 10, 12, 46, 47, 48, 16] [0, 1, 2] [0, 1, 2] rfl rfl rfl rfl ?_)
    refine Tk_seq (Tk_region (Tops_step rfl (OpT_move rfl rfl rfl rfl) ?_))
    refine Tops_step rfl (OpT_bin rfl rfl rfl rfl rfl (bin_neq_i (a := in1) (b := (0 : Int)))) ?_
    refine Tops_nil (Tk_wkS (fr' := [(0, some (.pointer (some ⟨b_m, 0, none⟩))), (1, some (vU64 feats)), (2, some (vbufs1)), (10, some (v1)), (12, some (vI needs1.1)), (46, some (v2)), (47, some (vI (len (sub bufs (0 : Int) needs1.1)))), (48, some (vI x1)), (16, some (vI in1)), (56, some (vB (in1 != (0 : Int))))]) (own' := [some (cellsR b_m 78 [vm1, vm2]), some (rowsX u8S true vm2 vsm1 m.b none), some (rowS u8S v1 bytes1.1)]) (shr' := [Fact.sl RegionS vm1 m.l, Fact.sl (Shape.slice SegS) vbufs1 bufs, Fact.sl (Shape.slice SegS) v2 (sub bufs (0 : Int) needs1.1)]) [0, 1, 2, 10, 12, 46, 47, 48, 16, 56] [0, 1, 2] [0, 1, 2] rfl rfl rfl rfl ?_)
    rcases Bool.eq_false_or_eq_true (in1 != (0 : Int)) with hg4 | hg4
    ·replace h := br_t hg4 h
     refine Tk_condT (congrArg (fun b => some (Value.bool b)) hg4) ?_
     refine Tk_seq (Tk_region (Tops_step rfl (OpT_move rfl rfl rfl rfl) ?_))
     refine Tops_step rfl (OpT_assign rfl rfl rfl rfl) ?_
     refine Tops_step rfl (OpT_assign rfl rfl rfl rfl) ?_
     refine Tops_nil (Tk_wkS (fr' := [(8, some (.slice none 0 0)), (9, some (vI in1))]) (own' := [some (cellsR b_m 78 [vm1, vm2]), some (rowsX u8S true vm2 vsm1 m.b none)]) (shr' := [Fact.sl RegionS vm1 m.l]) [8, 9] [0, 1] [0] rfl rfl rfl rfl ?_)
     refine Tk_nilrow u32S ?_
     obtain rfl := Option.some.inj h
     exact Tk_retV rfl rfl (resA (vs := [.slice none 0 0, vI in1]) rfl ⟨rfl, rfl, trivial⟩) [0, 1, 2] [] rfl rfl rfl ⟨(.slice none 0 0), rfl, rfl, rfl⟩
    ·replace h := br_f hg4 h
     refine Tk_condF (congrArg (fun b => some (Value.bool b)) hg4) ?_
     refine Tk_skip (Tk_blk (Tk_region (Tops_step rfl (OpT_bin rfl rfl rfl rfl rfl (bin_add_i (a := x1) (b := (1 : Int)))) ?_)))
     refine Tops_step rfl (OpT_move rfl rfl rfl rfl) ?_
     refine Tops_nil (Tk_wkS (fr' := [(0, some (.pointer (some ⟨b_m, 0, none⟩))), (1, some (vU64 feats)), (2, some (vbufs1)), (10, some (v1)), (12, some (vI needs1.1)), (46, some (v2)), (47, some (vI (len (sub bufs (0 : Int) needs1.1)))), (48, some (vI (wi (x1 + (1 : Int)))))]) (own' := [some (cellsR b_m 78 [vm1, vm2]), some (rowsX u8S true vm2 vsm1 m.b none), some (rowS u8S v1 bytes1.1)]) (shr' := [Fact.sl RegionS vm1 m.l, Fact.sl (Shape.slice SegS) vbufs1 bufs, Fact.sl (Shape.slice SegS) v2 (sub bufs (0 : Int) needs1.1)]) [0, 1, 2, 10, 12, 46, 47, 48] [0, 1, 2] [0, 1, 2] rfl rfl rfl rfl ?_)
     exact Tk_backS (wi (x1 + (1 : Int))) h [0, 1, 2, 10, 12, 46, 47, 48] [0, 1, 2] [0, 1, 2] rfl rfl rfl rfl rfl
   ·replace h := br_f hg3 h
    refine Tk_condF (congrArg (fun b => some (Value.bool b)) hg3) ?_
    refine Tk_exit _ rfl ?_
    refine Tk_seq (Tk_region (Tops_step rfl (OpT_move rfl rfl rfl rfl) ?_))
    refine Tops_step rfl (OpT_cnv rfl rfl rfl rfl (cnv_i_u16 (n := needs1.1) Try.underlying3 Try.underlying23)) ?_
    refine Tops_step rfl (OpT_build (v := .agg #[vU8 (0 : UInt8), vU16 (0 : UInt16), vU16 (0 : UInt16), vU16 (u16 needs1.1)]) rfl rfl rfl rfl (bldV (by kernel_rfl))) ?_
    refine Tops_ex rfl (OpT_alloc rfl rfl rfl tyZ50) fun b2 => ?_
    refine Tops_step rfl (OpT_storeC (cs' := [vU8 (0 : UInt8), vU16 (0 : UInt16), vU16 (0 : UInt16), vU16 (u16 needs1.1)]) rfl rfl rfl rfl tyF50 (i := 3) rfl rfl rfl (one_of rfl) rfl) ?_
    refine Tops_nil (Tk_wkS (fr' := [(0, some (.pointer (some ⟨b_m, 0, none⟩))), (1, some (vU64 feats)), (2, some (vbufs1)), (10, some (v1)), (12, some (vI needs1.1)), (17, some (.pointer (some ⟨b2, 0, none⟩)))]) (own' := [some (cellsR b_m 78 [vm1, vm2]), some (rowsX u8S true vm2 vsm1 m.b none), some (rowS u8S v1 bytes1.1), some (cellsR b2 50 [vU8 (0 : UInt8), vU16 (0 : UInt16), vU16 (0 : UInt16), vU16 (u16 needs1.1)])]) (shr' := [Fact.sl RegionS vm1 m.l, Fact.sl (Shape.slice SegS) vbufs1 bufs]) [0, 1, 2, 10, 12, 17] [0, 1, 2, 3] [0, 1] rfl rfl rfl rfl ?_)
    refine Tk_seq (Tk_seq (Tk_region (Tops_step rfl (OpT_move rfl rfl rfl rfl) ?_)))
    obtain ⟨has1, hx5, h⟩ := ob_e h
    refine Tops_exP rfl (OpT_call (w_feat_Has hx5) [] [] rfl rfl rfl rfl rfl callee35 rfl rfl rfl rfl) ?_
    rintro _ ⟨_, _, _, ⟨rfl, rfl, rfl⟩, rfl⟩
    refine Tops_nil (Tk_wkS (fr' := [(0, some (.pointer (some ⟨b_m, 0, none⟩))), (2, some (vbufs1)), (10, some (v1)), (12, some (vI needs1.1)), (17, some (.pointer (some ⟨b2, 0, none⟩))), (63, some (vB has1))]) (own' := [some (cellsR b_m 78 [vm1, vm2]), some (rowsX u8S true vm2 vsm1 m.b none), some (rowS u8S v1 bytes1.1), some (cellsR b2 50 [vU8 (0 : UInt8), vU16 (0 : UInt16), vU16 (0 : UInt16), vU16 (u16 needs1.1)])]) (shr' := [Fact.sl RegionS vm1 m.l, Fact.sl (Shape.slice SegS) vbufs1 bufs]) [0, 2, 10, 12, 17, 63] [0, 1, 2, 3] [0, 1] rfl rfl rfl rfl ?_)
    refine Tk_join (α := (List UInt8) × Hdr × Value) (fun s => ⟨[(0, some (.pointer (some ⟨b_m, 0, none⟩))), (2, some (vbufs1)), (10, some (s.2.2)), (12, some (vI needs1.1)), (17, some (.pointer (some ⟨b2, 0, none⟩)))], [some (cellsR b_m 78 [vm1, vm2]), some (rowsX u8S true vm2 vsm1 m.b none), some (rowS u8S s.2.2 s.1), some (cellsR b2 50 [vU8 s.2.1.Flags, vU16 s.2.1.Start, vU16 s.2.1.Off, vU16 s.2.1.Buffers])], [Fact.sl RegionS vm1 m.l, Fact.sl (Shape.slice SegS) vbufs1 bufs]⟩) (fun s => net_DeliverJ2 m bufs needs1 s.1 s.2.1 = some r) ?_ ?_
    ·rintro ⟨l1, m1, v4⟩ h
     replace h : net_DeliverJ2 m bufs needs1 l1 m1 = some r := h
     unfold net_DeliverJ2 at h
     refine Tk_seq (Tk_region (Tops_step rfl (OpT_loadCA (vs := [vU8 m1.Flags, vU16 m1.Start, vU16 m1.Off, vU16 m1.Buffers]) rfl rfl rfl rfl tyF50 (i := 3) rfl rfl rfl) ?_))
     obtain ⟨hdrof1, hx6, h⟩ := ob_e h
     refine Tops_exP rfl (OpT_call (w_frame_HdrOf hx6) [] [] rfl rfl rfl rfl rfl callee36 rfl rfl rfl rfl) ?_
     rintro _ ⟨v5, _, _, ⟨_, rfl, rfl, rfl⟩, rfl⟩
     refine Tops_step rfl (OpT_move rfl rfl rfl rfl) ?_
     obtain ⟨hc2, h⟩ := chk_e h
     refine Tops_ex rfl (OpT_appendB (S := u8S) rfl rfl rfl rfl rfl rfl slF24 (i := 4) (j := 2) rfl rfl hc2) fun v6 => ?_
     refine Tops_step rfl (OpT_assign rfl rfl rfl rfl) ?_
     refine Tops_nil (Tk_wkS (fr' := [(0, some (.pointer (some ⟨b_m, 0, none⟩))), (2, some (vbufs1)), (12, some (vI needs1.1)), (18, some (v6))]) (own' := [some (cellsR b_m 78 [vm1, vm2]), some (rowsX u8S true vm2 vsm1 m.b none), some (rowS u8S v6 (hdrof1 ++ l1))]) (shr' := [Fact.sl RegionS vm1 m.l, Fact.sl (Shape.slice SegS) vbufs1 bufs]) [0, 2, 12, 18] [0, 1, 4] [0, 1] rfl rfl rfl rfl ?_)
     refine Tk_seq (Tk_region (Tops_step rfl (OpT_assign rfl rfl rfl rfl) ?_))
     refine Tops_nil (Tk_seq (Tk_seq (Tk_region (Tops_step rfl (OpT_move rfl rfl rfl rfl) ?_))))
     refine Tops_step rfl (OpT_move rfl rfl rfl rfl) ?_
     obtain ⟨hc3, h⟩ := chk_e h
     refine Tops_ex rfl (OpT_sliceH (m := needs1.1) rfl rfl rfl rfl rfl slF33 (i := 1) rfl hc3) fun v7 => ?_
     refine Tops_step rfl (OpT_lenS rfl rfl rfl rfl Try.underlying33 (i := 2) rfl) ?_
     refine Tops_step rfl (OpT_move rfl rfl rfl rfl) ?_
     refine Tops_nil (Tk_wkS (fr' := [(0, some (.pointer (some ⟨b_m, 0, none⟩))), (18, some (v6)), (19, some (.slice none 0 0)), (71, some (v7)), (72, some (vI (len (sub bufs (0 : Int) needs1.1)))), (73, some (vI (0 : Int)))]) (own' := [some (cellsR b_m 78 [vm1, vm2]), some (rowsX u8S true vm2 vsm1 m.b none), some (rowS u8S v6 (hdrof1 ++ l1))]) (shr' := [Fact.sl RegionS vm1 m.l, Fact.sl (Shape.slice SegS) v7 (sub bufs (0 : Int) needs1.1)]) [0, 18, 19, 71, 72, 73] [0, 1, 2] [0, 2] rfl rfl rfl rfl ?_)
     refine Tk_block (Tk_retire (i := 2) rfl ?_)
     refine Tk_nilrow u32S ?_
     refine Tk_loopS (σ := (List (List UInt8)) × (List UInt8) × (List UInt32) × Int × Value × Value) [0, 18, 19, 71, 72, 73] [0, 1, 3] [0, 2, 1] (fun s => ⟨[(0, some (.pointer (some ⟨b_m, 0, none⟩))), (18, some (s.2.2.2.2.1)), (19, some (s.2.2.2.2.2)), (71, some (v7)), (72, some (vI (len (sub bufs (0 : Int) needs1.1)))), (73, some (vI s.2.2.2.1))], [some (cellsR b_m 78 [vm1, vm2]), some (rowsX u8S true vm2 vsm1 s.1 none), some (rowS u32S s.2.2.2.2.2 s.2.2.1)], [Fact.sl RegionS vm1 m.l, Fact.sl u8S s.2.2.2.2.1 s.2.1, Fact.sl (Shape.slice SegS) v7 (sub bufs (0 : Int) needs1.1)]⟩) (fun nf3 s => net_DeliverL3 m bufs needs1 nf3 s.1 s.2.1 s.2.2.1 s.2.2.2.1 = some r) fuel (m.b, hdrof1 ++ l1, [], (0 : Int), v6, (.slice none 0 0)) h rfl rfl rfl rfl rfl (fun s h => by cases h) ?_
     rintro nf3 ⟨rows1, rest1, out1, x2, v8, v9⟩ h
     replace h : net_DeliverL3B m bufs needs1 (net_DeliverL3 m bufs needs1 nf3) rows1 rest1 out1 x2 = some r := h
     unfold net_DeliverL3B at h
     refine Tk_seq (Tk_region (Tops_step rfl (OpT_bin rfl rfl rfl rfl rfl (bin_lss_i (a := x2) (b := len (sub bufs (0 : Int) needs1.1)))) ?_))
     refine Tops_nil (Tk_seq ?_)
     rcases Bool.eq_false_or_eq_true (decide (x2 < (len (sub bufs (0 : Int) needs1.1)))) with hg5 | hg5
     ·replace h := br_t hg5 h
      refine Tk_condT (congrArg (fun b => some (Value.bool b)) hg5) ?_
      refine Tk_skip (Tk_seq (Tk_block (Tk_seq (Tk_region ?_))))
      obtain ⟨y2, hx7, h⟩ := ob_e h
      refine Tops_ex rfl (OpT_idxS rfl rfl rfl rfl rfl slF33 (i := 2) rfl hx7) fun p2 => ?_
      refine Tops_ex rfl (OpT_loadPS rfl rfl rfl rfl tyF58 (i := 3) rfl) fun v10 => ?_
      refine Tops_step rfl (OpT_assign rfl rfl rfl rfl) ?_
      refine Tops_nil (Tk_wkS (fr' := [(0, some (.pointer (some ⟨b_m, 0, none⟩))), (18, some (v8)), (19, some (v9)), (71, some (v7)), (72, some (vI (len (sub bufs (0 : Int) needs1.1)))), (73, some (vI x2)), (21, some (v10))]) (own' := [some (cellsR b_m 78 [vm1, vm2]), some (rowsX u8S true vm2 vsm1 rows1 none), some (rowS u32S v9 out1)]) (shr' := [Fact.sl RegionS vm1 m.l, Fact.sl u8S v8 rest1, Fact.sl (Shape.slice SegS) v7 (sub bufs (0 : Int) needs1.1), Fact.sl SegS v10 y2]) [0, 18, 19, 71, 72, 73, 21] [0, 1, 2] [0, 1, 2, 4] rfl rfl rfl rfl ?_)
      refine Tk_seq (Tk_region (Tops_step rfl (OpT_move rfl rfl rfl rfl) ?_))
      refine Tops_step rfl (OpT_lenS rfl rfl rfl rfl Try.underlying24 (i := 1) rfl) ?_
      refine Tops_step rfl (OpT_cnv rfl rfl rfl rfl (cnv_i_u64 (n := len rest1) Try.underlying3 Try.underlying28)) ?_
      refine Tops_step rfl (OpT_move rfl rfl rfl rfl) ?_
      obtain ⟨room1, hx8, h⟩ := ob_e h
      refine Tops_exP rfl (OpT_call (w_net_room hx8) [] [3] rfl rfl rfl rfl rfl callee37 rfl rfl rfl rfl) ?_
      rintro _ ⟨_, _, _, ⟨rfl, rfl, rfl⟩, rfl⟩
      refine Tops_step rfl (OpT_min_u64 (u := u64 (len rest1)) (v := room1) rfl rfl rfl rfl rfl) ?_
      refine Tops_step rfl (OpT_cnv rfl rfl rfl rfl (cnv_u64_i (n := minu64 (u64 (len rest1)) room1) Try.underlying28 Try.underlying3)) ?_
      refine Tops_step rfl (OpT_assign rfl rfl rfl rfl) ?_
      refine Tops_nil (Tk_wkS (fr' := [(0, some (.pointer (some ⟨b_m, 0, none⟩))), (18, some (v8)), (19, some (v9)), (71, some (v7)), (72, some (vI (len (sub bufs (0 : Int) needs1.1)))), (73, some (vI x2)), (21, some (v10)), (22, some (vI (i64 (minu64 (u64 (len rest1)) room1))))]) (own' := [some (cellsR b_m 78 [vm1, vm2]), some (rowsX u8S true vm2 vsm1 rows1 none), some (rowS u32S v9 out1)]) (shr' := [Fact.sl RegionS vm1 m.l, Fact.sl u8S v8 rest1, Fact.sl (Shape.slice SegS) v7 (sub bufs (0 : Int) needs1.1), Fact.sl SegS v10 y2]) [0, 18, 19, 71, 72, 73, 21, 22] [0, 1, 2] [0, 1, 2, 3] rfl rfl rfl rfl ?_)
      refine Tk_seq (Tk_region (Tops_step rfl (OpT_move rfl rfl rfl rfl) ?_))
      refine Tops_step rfl (OpT_move rfl rfl rfl rfl) ?_
      refine Tops_step rfl (OpT_move rfl rfl rfl rfl) ?_
      refine Tops_step rfl (OpT_move rfl rfl rfl rfl) ?_
      obtain ⟨hc4, h⟩ := chk_e h
      refine Tops_ex rfl (OpT_sliceH (m := i64 (minu64 (u64 (len rest1)) room1)) rfl rfl rfl rfl rfl slF24 (i := 1) rfl hc4) fun v11 => ?_
      obtain ⟨scatte1, hx9, h⟩ := ob_e h
      refine Tops_exP rfl (OpT_callP [3, 4, 2] (w_seg_Scatter hx9) [0, 1] [0, 3, 4] rfl rfl rfl rfl rfl callee38 rfl rfl rfl rfl rfl) ?_
      rintro _ ⟨_, _, _, ⟨rfl, rfl, rfl⟩, rfl⟩
      refine Tops_nil (Tk_wkS (fr' := [(0, some (.pointer (some ⟨b_m, 0, none⟩))), (18, some (v8)), (19, some (v9)), (71, some (v7)), (72, some (vI (len (sub bufs (0 : Int) needs1.1)))), (73, some (vI x2)), (22, some (vI (i64 (minu64 (u64 (len rest1)) room1))))]) (own' := [some (cellsR b_m 78 [vm1, vm2]), some (rowsX u8S true vm2 vsm1 scatte1.2.2 none), some (rowS u32S v9 out1)]) (shr' := [Fact.sl RegionS vm1 m.l, Fact.sl u8S v8 rest1, Fact.sl (Shape.slice SegS) v7 (sub bufs (0 : Int) needs1.1)]) [0, 18, 19, 71, 72, 73, 22] [0, 1, 2] [0, 1, 2] rfl rfl rfl rfl ?_)
      refine Tk_drawT (by kernel_rfl) ?_
      refine TA_tb [0, 0, 2, 6, 15, 0, 0, 96, 31, 511] (by kernel_rfl) fun htb => ?_
      obtain ⟨hc5, h⟩ := chk_e h
      obtain ⟨hc6, h⟩ := chk_e h
      refine TA_seg (lo := 0) (hi := 9) htb rfl rfl (by kernel_rfl) (fun c L a w => ∃ (v12 : Value), ∃ (v13 : Value), ∃ (v14 : Value), Sat c ⟨[(0, some (.pointer (some ⟨b_m, 0, none⟩))), (18, some (v8)), (19, bif L 8 then some (v13) else some (v9)), (71, some (v7)), (72, some (vI (len (sub bufs (0 : Int) needs1.1)))), (73, some (vI x2)), (22, some (vI (i64 (minu64 (u64 (len rest1)) room1)))), (90, bif L 0 then some (v9) else none), (91, bif L 1 then some (vI (i64 (minu64 (u64 (len rest1)) room1))) else none), (92, bif L 2 then some (vU32 (u32 (i64 (minu64 (u64 (len rest1)) room1)))) else none), (93, bif L 3 then some (v12) else none), (94, bif L 4 then some (v13) else none), (95, bif L 5 then some (v8) else none), (96, bif L 6 then some (vI (i64 (minu64 (u64 (len rest1)) room1))) else none), (97, bif L 7 then some (v14) else none)], [(some (cellsR b_m 78 [vm1, vm2]) : Option Res), (some (rowsX u8S true vm2 vsm1 scatte1.2.2 none) : Option Res), (bif L 4 then some (rowS u32S v13 (out1 ++ [u32 (i64 (minu64 (u64 (len rest1)) room1))])) else some (rowS u32S v9 out1) : Option Res), (bif L 3 then some (rowS u32S v12 [u32 (i64 (minu64 (u64 (len rest1)) room1))]) else none : Option Res)], [Fact.sl RegionS vm1 m.l, Fact.sl u8S v8 rest1, Fact.sl (Shape.slice SegS) v7 (sub bufs (0 : Int) needs1.1), (bif L 7 then Fact.sl u8S v14 (sub rest1 (i64 (minu64 (u64 (len rest1)) room1)) (len rest1)) else Fact.tt)]⟩ a w) [([], [4, 8]), ([], [2, 3, 4, 8]), ([1], [3, 4, 8]), ([1, 2], [4, 8]), ([0, 1, 2, 3], [8]), ([], [7]), ([], [7]), ([5, 6], []), ([0, 1, 2, 3, 4], [])] rfl (by kernel_rfl) ?_ (steps_cons ?_ (steps_cons ?_ (steps_cons ?_ (steps_cons ?_ (steps_cons ?_ (steps_cons ?_ (steps_cons ?_ (steps_cons ?_ (steps_cons ?_ (steps_nil)))))))))) ?_
      ·intro a w hs
       exact ⟨undef, undef, undef, hs.startF [90, 91, 92, 93, 94, 95, 96, 97] [0, 1, 2, 3] [0, 1, 2, 3] rfl rfl rfl rfl⟩
      ·intro L a w hv K Q hK
       obtain ⟨v12, v13, v14, hs⟩ := hv
       refine wpOp_go rfl rfl hs (OpT_move rfl rfl rfl rfl) ?_
       rintro _ rfl a' w' hs'
       exact hK a' w' ⟨v12, v13, v14, hs'.putF (i := 7) rfl [0, 1, 2, 3] [0, 1, 2, 3] rfl rfl rfl rfl⟩
      ·intro L a w hv K Q hK
       obtain ⟨v12, v13, v14, hs⟩ := hv
       refine wpOp_go rfl rfl hs (OpT_move rfl rfl rfl rfl) ?_
       rintro _ rfl a' w' hs'
       exact hK a' w' ⟨v12, v13, v14, hs'.putF (i := 8) rfl [0, 1, 2, 3] [0, 1, 2, 3] rfl rfl rfl rfl⟩
      ·intro L a w hv K Q hK
       obtain ⟨v12, v13, v14, hs⟩ := hv
       refine wpOp_go rfl rfl hs (OpT_cnv rfl rfl rfl rfl (cnv_i_u32 (n := i64 (minu64 (u64 (len rest1)) room1)) Try.underlying3 Try.underlying48)) ?_
       rintro _ rfl a' w' hs'
       exact hK a' w' ⟨v12, v13, v14, hs'.putF (i := 9) rfl [0, 1, 2, 3] [0, 1, 2, 3] rfl rfl rfl rfl⟩
      ·intro L a w hv K Q hK
       obtain ⟨v12, v13, v14, hs⟩ := hv
       refine wpOp_go rfl rfl hs (OpT_buildSlice (S := u32S) (xs := [u32 (i64 (minu64 (u64 (len rest1)) room1))]) (css := [[vU32 (u32 (i64 (minu64 (u64 (len rest1)) room1)))]]) (cs := [vU32 (u32 (i64 (minu64 (u64 (len rest1)) room1)))]) (e := 48) rfl rfl rfl rfl (bldF slF43 (by decide) (by kernel_rfl)) rfl rfl rfl rfl (rel_plainD (S := u32S) (xs := [u32 (i64 (minu64 (u64 (len rest1)) room1))]) (css := [[vU32 (u32 (i64 (minu64 (u64 (len rest1)) room1)))]]) rfl rfl)) ?_
       rintro _ ⟨v12', rfl⟩ a' w' hs'
       exact hK a' w' ⟨v12', v13, v14, hs'.putF (i := 10) rfl [0, 1, 2, 4] [0, 1, 2, 3] rfl rfl rfl rfl⟩
      ·intro L a w hv K Q hK
       obtain ⟨v12, v13, v14, hs⟩ := hv
       refine wpOp_go rfl rfl hs (OpT_appendB (S := u32S) rfl rfl rfl rfl rfl rfl slF43 (i := 2) (j := 3) rfl rfl hc5) ?_
       rintro _ ⟨v13', rfl⟩ a' w' hs'
       exact hK a' w' ⟨v12, v13', v14, hs'.putF (i := 11) rfl [0, 1, 2, 3] [0, 1, 2, 3] rfl rfl rfl rfl⟩
      ·intro L a w hv K Q hK
       obtain ⟨v12, v13, v14, hs⟩ := hv
       refine wpOp_go rfl rfl hs (OpT_move rfl rfl rfl rfl) ?_
       rintro _ rfl a' w' hs'
       exact hK a' w' ⟨v12, v13, v14, hs'.putF (i := 12) rfl [0, 1, 2, 3] [0, 1, 2, 3] rfl rfl rfl rfl⟩
      ·intro L a w hv K Q hK
       obtain ⟨v12, v13, v14, hs⟩ := hv
       refine wpOp_go rfl rfl hs (OpT_move rfl rfl rfl rfl) ?_
       rintro _ rfl a' w' hs'
       exact hK a' w' ⟨v12, v13, v14, hs'.putF (i := 13) rfl [0, 1, 2, 3] [0, 1, 2, 3] rfl rfl rfl rfl⟩
      ·intro L a w hv K Q hK
       obtain ⟨v12, v13, v14, hs⟩ := hv
       refine wpOp_go rfl rfl hs (OpT_sliceL (l := i64 (minu64 (u64 (len rest1)) room1)) rfl rfl rfl rfl rfl slF24 (i := 1) rfl hc6) ?_
       rintro _ ⟨v14', rfl⟩ a' w' hs'
       exact hK a' w' ⟨v12, v13, v14', hs'.putF (i := 14) rfl [0, 1, 2, 3] [0, 1, 2, 4] rfl rfl rfl rfl⟩
      ·intro L a w hv K Q hK
       obtain ⟨v12, v13, v14, hs⟩ := hv
       refine wpOp_go rfl rfl hs (OpT_assign rfl rfl rfl rfl) ?_
       rintro _ rfl a' w' hs'
       exact hK a' w' ⟨v12, v13, v14, hs'.putF (i := 2) rfl [0, 1, 2, 3] [0, 1, 2, 3] rfl rfl rfl rfl⟩
      ·intro L a w hL hv
       rw [allTrue hL] at hv
       obtain ⟨v12, v13, v14, hs⟩ := hv
       refine (show TA _ _ _ 9 ⟨[(0, some (.pointer (some ⟨b_m, 0, none⟩))), (19, some (v13)), (71, some (v7)), (72, some (vI (len (sub bufs (0 : Int) needs1.1)))), (73, some (vI x2)), (97, some (v14))], [some (cellsR b_m 78 [vm1, vm2]), some (rowsX u8S true vm2 vsm1 scatte1.2.2 none), some (rowS u32S v13 (out1 ++ [u32 (i64 (minu64 (u64 (len rest1)) room1))]))], [Fact.sl RegionS vm1 m.l, Fact.sl (Shape.slice SegS) v7 (sub bufs (0 : Int) needs1.1), Fact.sl u8S v14 (sub rest1 (i64 (minu64 (u64 (len rest1)) room1)) (len rest1))]⟩ from ?_) a w (hs.wkS [0, 19, 71, 72, 73, 97] [0, 1, 2] [0, 2, 3] rfl rfl rfl rfl)
       clear hs hL
       refine TA_step htb (by kernel_rfl) rfl rfl (OpT_assign rfl rfl rfl rfl) ?_
       refine TA_end rfl ?_
       refine Tk_wkS (fr' := [(0, some (.pointer (some ⟨b_m, 0, none⟩))), (19, some (v13)), (71, some (v7)), (72, some (vI (len (sub bufs (0 : Int) needs1.1)))), (73, some (vI x2)), (18, some (v14))]) (own' := [some (cellsR b_m 78 [vm1, vm2]), some (rowsX u8S true vm2 vsm1 scatte1.2.2 none), some (rowS u32S v13 (out1 ++ [u32 (i64 (minu64 (u64 (len rest1)) room1))]))]) (shr' := [Fact.sl RegionS vm1 m.l, Fact.sl (Shape.slice SegS) v7 (sub bufs (0 : Int) needs1.1), Fact.sl u8S v14 (sub rest1 (i64 (minu64 (u64 (len rest1)) room1)) (len rest1))]) [0, 19, 71, 72, 73, 18] [0, 1, 2] [0, 1, 2] rfl rfl rfl rfl ?_
       refine Tk_blk (Tk_region (Tops_step rfl (OpT_bin rfl rfl rfl rfl rfl (bin_add_i (a := x2) (b := (1 : Int)))) ?_))
       refine Tops_step rfl (OpT_move rfl rfl rfl rfl) ?_
       refine Tops_nil (Tk_wkS (fr' := [(0, some (.pointer (some ⟨b_m, 0, none⟩))), (19, some (v13)), (71, some (v7)), (72, some (vI (len (sub bufs (0 : Int) needs1.1)))), (73, some (vI (wi (x2 + (1 : Int))))), (18, some (v14))]) (own' := [some (cellsR b_m 78 [vm1, vm2]), some (rowsX u8S true vm2 vsm1 scatte1.2.2 none), some (rowS u32S v13 (out1 ++ [u32 (i64 (minu64 (u64 (len rest1)) room1))]))]) (shr' := [Fact.sl RegionS vm1 m.l, Fact.sl (Shape.slice SegS) v7 (sub bufs (0 : Int) needs1.1), Fact.sl u8S v14 (sub rest1 (i64 (minu64 (u64 (len rest1)) room1)) (len rest1))]) [0, 19, 71, 72, 73, 18] [0, 1, 2] [0, 1, 2] rfl rfl rfl rfl ?_)
       exact Tk_backS (scatte1.2.2, sub rest1 (i64 (minu64 (u64 (len rest1)) room1)) (len rest1), out1 ++ [u32 (i64 (minu64 (u64 (len rest1)) room1))], wi (x2 + (1 : Int)), v14, v13) h [0, 18, 19, 71, 72, 73] [0, 1, 2] [0, 2, 1] rfl rfl rfl rfl rfl
     ·replace h := br_f hg5 h
      refine Tk_condF (congrArg (fun b => some (Value.bool b)) hg5) ?_
      refine Tk_exit _ rfl ?_
      refine Tk_seq (Tk_region (Tops_step rfl (OpT_move rfl rfl rfl rfl) ?_))
      refine Tops_step rfl (OpT_assign rfl rfl rfl rfl) ?_
      refine Tops_step rfl (OpT_assign rfl rfl rfl rfl) ?_
      refine Tops_nil (Tk_wkS (fr' := [(8, some (v9)), (9, some (vI (0 : Int)))]) (own' := [some (cellsR b_m 78 [vm1, vm2]), some (rowsX u8S true vm2 vsm1 rows1 none), some (rowS u32S v9 out1)]) (shr' := [Fact.sl RegionS vm1 m.l]) [8, 9] [0, 1, 2] [0] rfl rfl rfl rfl ?_)
      obtain rfl := Option.some.inj h
      exact Tk_retV rfl rfl (resA (vs := [v9, vI (0 : Int)]) rfl ⟨rfl, rfl, trivial⟩) [0, 1, 2] [] rfl rfl rfl ⟨v9, rfl, rfl, rfl⟩
    ·intro HJ1
     rcases Bool.eq_false_or_eq_true (has1) with hg6 | hg6
     ·replace h := br_t hg6 h
      refine Tk_condT (congrArg (fun b => some (Value.bool b)) hg6) ?_
      refine Tk_region (Tops_step rfl (OpT_fieldC rfl rfl rfl rfl fldF50x0) ?_)
      refine Tops_step rfl (OpT_storeC (cs' := [vU8 (2 : UInt8), vU16 (0 : UInt16), vU16 (0 : UInt16), vU16 (u16 needs1.1)]) rfl rfl rfl rfl tyF5 (i := 3) rfl rfl rfl (one_of rfl) rfl) ?_
      refine Tops_nil (Tk_wkS (fr' := [(0, some (.pointer (some ⟨b_m, 0, none⟩))), (2, some (vbufs1)), (10, some (v1)), (12, some (vI needs1.1)), (17, some (.pointer (some ⟨b2, 0, none⟩)))]) (own' := [some (cellsR b_m 78 [vm1, vm2]), some (rowsX u8S true vm2 vsm1 m.b none), some (rowS u8S v1 bytes1.1), some (cellsR b2 50 [vU8 (2 : UInt8), vU16 (0 : UInt16), vU16 (0 : UInt16), vU16 (u16 needs1.1)])]) (shr' := [Fact.sl RegionS vm1 m.l, Fact.sl (Shape.slice SegS) vbufs1 bufs]) [0, 2, 10, 12, 17] [0, 1, 2, 3] [0, 1] rfl rfl rfl rfl ?_)
      exact Tk_jmpS (HJ1 (bytes1.1, (Hdr.mk (2 : UInt8) (0 : UInt16) (0 : UInt16) (u16 needs1.1)), v1) h) [0, 2, 10, 12, 17] [0, 1, 2, 3] [0, 1] rfl rfl rfl rfl
     ·replace h := br_f hg6 h
      refine Tk_condF (congrArg (fun b => some (Value.bool b)) hg6) ?_
      refine Tk_skip ?_
      exact Tk_jmpS (HJ1 (bytes1.1, (Hdr.mk (0 : UInt8) (0 : UInt16) (0 : UInt16) (u16 needs1.1)), v1) h) [0, 2, 10, 12, 17] [0, 1, 2, 3] [0, 1] rfl rfl rfl rfl

set_option maxRecDepth 100000 in
set_option maxHeartbeats 4000000 in
theorem w_ref_ReadHdr23 {b : List UInt8} {vb1 : Value} {r : (Hdr × Int)} (h : ref_ReadHdr23 b = some r) :
  Ctr Try.prog 17 #[vb1] [] [Fact.sl u8S vb1 b]
   (fun rv own shr => rv = .tuple #[.agg #[vU8 r.1.Flags, vU16 r.1.Start, vU16 r.1.Off, vU16 r.1.Buffers], vI r.2] ∧ own = [] ∧ shr = []) := by
 unfold ref_ReadHdr23 at h
 refine Ctr.mk (args := [vb1]) Try.func17 rfl rfl (fun R0 w0 B => ?_)
 refine Tk_seq (Tk_region (Tops_ex rfl (OpT_alloc rfl rfl rfl tyZ50) fun b1 => ?_))
 refine Tops_step rfl (OpT_assign rfl rfl rfl rfl) ?_
 refine Tops_nil (Tk_wkS (fr' := [(0, some (vb1)), (2, some (.pointer (some ⟨b1, 0, none⟩)))]) (own' := [some (cellsR b1 50 [vU8 (0 : UInt8), vU16 (0 : UInt16), vU16 (0 : UInt16), vU16 (0 : UInt16)])]) (shr' := [Fact.sl u8S vb1 b]) [0, 2] [0] [0] rfl rfl rfl rfl ?_)
 refine Tk_seq (Tk_seq (Tk_region (Tops_step rfl (OpT_move rfl rfl rfl rfl) ?_)))
 refine Tops_step rfl (OpT_lenS rfl rfl rfl rfl Try.underlying24 (i := 0) rfl) ?_
 refine Tops_step rfl (OpT_bin rfl rfl rfl rfl rfl (bin_lss_i (a := len b) (b := (12 : Int)))) ?_
 refine Tops_nil (Tk_wkS (fr' := [(0, some (vb1)), (2, some (.pointer (some ⟨b1, 0, none⟩))), (6, some (vB (decide ((len b) < (12 : Int)))))]) (own' := [some (cellsR b1 50 [vU8 (0 : UInt8), vU16 (0 : UInt16), vU16 (0 : UInt16), vU16 (0 : UInt16)])]) (shr' := [Fact.sl u8S vb1 b]) [0, 2, 6] [0] [0] rfl rfl rfl rfl ?_)
 rcases Bool.eq_false_or_eq_true (decide ((len b) < (12 : Int))) with hg1 | hg1
 ·replace h := br_t hg1 h
  refine Tk_condT (congrArg (fun b => some (Value.bool b)) hg1) ?_
  refine Tk_seq (Tk_region (Tops_step rfl (OpT_build (v := .agg #[vU8 (0 : UInt8), vU16 (0 : UInt16), vU16 (0 : UInt16), vU16 (0 : UInt16)]) rfl rfl rfl rfl (bldV (by kernel_rfl))) ?_))
  refine Tops_step rfl (OpT_storeC (cs' := [vU8 (0 : UInt8), vU16 (0 : UInt16), vU16 (0 : UInt16), vU16 (0 : UInt16)]) rfl rfl rfl rfl tyF50 (i := 0) rfl rfl rfl (one_of rfl) rfl) ?_
  refine Tops_step rfl (OpT_assign rfl rfl rfl rfl) ?_
  refine Tops_nil (Tk_wkS (fr' := [(2, some (.pointer (some ⟨b1, 0, none⟩))), (3, some (vI (4 : Int)))]) (own' := [some (cellsR b1 50 [vU8 (0 : UInt8), vU16 (0 : UInt16), vU16 (0 : UInt16), vU16 (0 : UInt16)])]) (shr' := []) [2, 3] [0] [] rfl rfl rfl rfl ?_)
  obtain rfl := Option.some.inj h
  exact Tk_retV rfl rfl (resA (vs := [.agg #[vU8 (0 : UInt8), vU16 (0 : UInt16), vU16 (0 : UInt16), vU16 (0 : UInt16)], vI (4 : Int)]) rfl ⟨⟨_, 0, _, _, _, rfl, rfl, .inl ⟨tyF50, rfl, rfl⟩⟩, rfl, trivial⟩) [] [] rfl rfl rfl ⟨rfl, rfl, rfl⟩
 ·replace h := br_f hg1 h
  refine Tk_condF (congrArg (fun b => some (Value.bool b)) hg1) ?_
  refine Tk_skip (Tk_seq (Tk_drawT (by kernel_rfl) ?_))
  refine TA_tb [0, 1, 3, 0, 8, 24, 56, 0, 128, 384, 896, 1920, 4088, 0, 8192, 24576, 57344, 0, 131072, 393216, 917504, 1966080, 4186112, 0, 8388608, 25165824, 58720256, 0, 134217728, 402653184, 939524096, 2013265920, 4286578688, 8589934591, 17179869183, 34359738367] (by kernel_rfl) fun htb => ?_
  refine TA_wkS (fr' := [(0, some (vb1)), (2, some (.pointer (some ⟨b1, 0, none⟩)))]) (own' := [some (cellsR b1 50 [vU8 (0 : UInt8), vU16 (0 : UInt16), vU16 (0 : UInt16), vU16 (0 : UInt16)])]) (shr' := [Fact.sl u8S vb1 b]) [0, 2] [0] [0] rfl rfl rfl rfl ?_
  obtain ⟨y1, hx1, h⟩ := ob_e h
  obtain ⟨y2, hx2, h⟩ := ob_e h
  obtain ⟨y3, hx3, h⟩ := ob_e h
  obtain ⟨y4, hx4, h⟩ := ob_e h
  obtain ⟨y5, hx5, h⟩ := ob_e h
  obtain ⟨y6, hx6, h⟩ := ob_e h
  obtain ⟨y7, hx7, h⟩ := ob_e h
  refine TA_seg (lo := 0) (hi := 33) htb rfl rfl (by kernel_rfl) (fun c L a w => ∃ (p1 : Value), ∃ (p2 : Value), ∃ (p3 : Value), ∃ (p4 : Value), ∃ (p5 : Value), ∃ (p6 : Value), ∃ (p7 : Value), Sat c ⟨[(0, some (vb1)), (2, some (.pointer (some ⟨b1, 0, none⟩))), (8, bif L 0 then some (vb1) else none), (9, bif L 1 then some (p1) else none), (10, bif L 2 then some (vU8 y1) else none), (11, bif L 3 then some (vb1) else none), (12, bif L 4 then some (p2) else none), (13, bif L 5 then some (vU8 y2) else none), (14, bif L 6 then some (vU16 y2.toUInt16) else none), (15, bif L 7 then some (vb1) else none), (16, bif L 8 then some (p3) else none), (17, bif L 9 then some (vU8 y3) else none), (18, bif L 10 then some (vU16 y3.toUInt16) else none), (19, bif L 11 then some (vU16 (shl16 y3.toUInt16 ((8 : UInt64).toNat))) else none), (20, bif L 12 then some (vU16 (y2.toUInt16 ||| (shl16 y3.toUInt16 ((8 : UInt64).toNat)))) else none), (21, bif L 13 then some (vb1) else none), (22, bif L 14 then some (p4) else none), (23, bif L 15 then some (vU8 y4) else none), (24, bif L 16 then some (vU16 y4.toUInt16) else none), (25, bif L 17 then some (vb1) else none), (26, bif L 18 then some (p5) else none), (27, bif L 19 then some (vU8 y5) else none), (28, bif L 20 then some (vU16 y5.toUInt16) else none), (29, bif L 21 then some (vU16 (shl16 y5.toUInt16 ((8 : UInt64).toNat))) else none), (30, bif L 22 then some (vU16 (y4.toUInt16 ||| (shl16 y5.toUInt16 ((8 : UInt64).toNat)))) else none), (31, bif L 23 then some (vb1) else none), (32, bif L 24 then some (p6) else none), (33, bif L 25 then some (vU8 y6) else none), (34, bif L 26 then some (vU16 y6.toUInt16) else none), (35, bif L 27 then some (vb1) else none), (36, bif L 28 then some (p7) else none), (37, bif L 29 then some (vU8 y7) else none), (38, bif L 30 then some (vU16 y7.toUInt16) else none), (39, bif L 31 then some (vU16 (shl16 y7.toUInt16 ((8 : UInt64).toNat))) else none), (40, bif L 32 then some (vU16 (y6.toUInt16 ||| (shl16 y7.toUInt16 ((8 : UInt64).toNat)))) else none)], [(some (cellsR b1 50 [vU8 (0 : UInt8), vU16 (0 : UInt16), vU16 (0 : UInt16), vU16 (0 : UInt16)]) : Option Res)], [Fact.sl u8S vb1 b, (bif L 1 then Fact.pt u8S p1 y1 else Fact.tt), (bif L 4 then Fact.pt u8S p2 y2 else Fact.tt), (bif L 8 then Fact.pt u8S p3 y3 else Fact.tt), (bif L 14 then Fact.pt u8S p4 y4 else Fact.tt), (bif L 18 then Fact.pt u8S p5 y5 else Fact.tt), (bif L 24 then Fact.pt u8S p6 y6 else Fact.tt), (bif L 28 then Fact.pt u8S p7 y7 else Fact.tt)]⟩ a w) [([], [1, 2]), ([0], [2]), ([0, 1], []), ([], [4, 5, 6, 12]), ([3], [5, 6, 12]), ([3, 4], [6, 12]), ([3, 4, 5], [12]), ([], [8, 9, 10, 11, 12]), ([7], [9, 10, 11, 12]), ([7, 8], [10, 11, 12]), ([7, 8, 9], [11, 12]), ([7, 8, 9, 10], [12]), ([3, 4, 5, 6, 7, 8, 9, 10, 11], []), ([], [14, 15, 16, 22]), ([13], [15, 16, 22]), ([13, 14], [16, 22]), ([13, 14, 15], [22]), ([], [18, 19, 20, 21, 22]), ([17], [19, 20, 21, 22]), ([17, 18], [20, 21, 22]), ([17, 18, 19], [21, 22]), ([17, 18, 19, 20], [22]), ([13, 14, 15, 16, 17, 18, 19, 20, 21], []), ([], [24, 25, 26, 32]), ([23], [25, 26, 32]), ([23, 24], [26, 32]), ([23, 24, 25], [32]), ([], [28, 29, 30, 31, 32]), ([27], [29, 30, 31, 32]), ([27, 28], [30, 31, 32]), ([27, 28, 29], [31, 32]), ([27, 28, 29, 30], [32]), ([23, 24, 25, 26, 27, 28, 29, 30, 31], [])] rfl (by kernel_rfl) ?_ (steps_cons ?_ (steps_cons ?_ (steps_cons ?_ (steps_cons ?_ (steps_cons ?_ (steps_cons ?_ (steps_cons ?_ (steps_cons ?_ (steps_cons ?_ (steps_cons ?_ (steps_cons ?_ (steps_cons ?_ (steps_cons ?_ (steps_cons ?_ (steps_cons ?_ (steps_cons ?_ (steps_cons ?_ (steps_cons ?_ (steps_cons ?_ (steps_cons ?_ (steps_cons ?_ (steps_cons ?_ (steps_cons ?_ (steps_cons ?_ (steps_cons ?_ (steps_cons ?_ (steps_cons ?_ (steps_cons ?_ (steps_cons ?_ (steps_cons ?_ (steps_cons ?_ (steps_cons ?_ (steps_cons ?_ (steps_nil)))))))))))))))))))))))))))))))))) ?_
  ·intro a w hs
   exact ⟨undef, undef, undef, undef, undef, undef, undef, hs.startF [8, 9, 10, 11, 12, 13, 14, 15, 16, 17, 18, 19, 20, 21, 22, 23, 24, 25, 26, 27, 28, 29, 30, 31, 32, 33, 34, 35, 36, 37, 38, 39, 40] [0] [0, 1, 2, 3, 4, 5, 6, 7] rfl rfl rfl rfl⟩
  ·intro L a w hv K Q hK
   obtain ⟨p1, p2, p3, p4, p5, p6, p7, hs⟩ := hv
   refine wpOp_go rfl rfl hs (OpT_move rfl rfl rfl rfl) ?_
   rintro _ rfl a' w' hs'
   exact hK a' w' ⟨p1, p2, p3, p4, p5, p6, p7, hs'.putF (i := 2) rfl [0] [0, 1, 2, 3, 4, 5, 6, 7] rfl rfl rfl rfl⟩
  ·intro L a w hv K Q hK
   obtain ⟨p1, p2, p3, p4, p5, p6, p7, hs⟩ := hv
   refine wpOp_go rfl rfl hs (OpT_idxS rfl rfl rfl rfl rfl slF24 (i := 0) rfl hx1) ?_
   rintro _ ⟨p1', rfl⟩ a' w' hs'
   exact hK a' w' ⟨p1', p2, p3, p4, p5, p6, p7, hs'.putF (i := 3) rfl [0] [0, 8, 2, 3, 4, 5, 6, 7] rfl rfl rfl rfl⟩
  ·intro L a w hv K Q hK
   obtain ⟨p1, p2, p3, p4, p5, p6, p7, hs⟩ := hv
   refine wpOp_go rfl rfl hs (OpT_loadP rfl rfl rfl rfl tyF5 (i := 1) rfl rfl) ?_
   rintro _ rfl a' w' hs'
   exact hK a' w' ⟨p1, p2, p3, p4, p5, p6, p7, hs'.putF (i := 4) rfl [0] [0, 1, 2, 3, 4, 5, 6, 7] rfl rfl rfl rfl⟩
  ·intro L a w hv K Q hK
   obtain ⟨p1, p2, p3, p4, p5, p6, p7, hs⟩ := hv
   refine wpOp_go rfl rfl hs (OpT_move rfl rfl rfl rfl) ?_
   rintro _ rfl a' w' hs'
   exact hK a' w' ⟨p1, p2, p3, p4, p5, p6, p7, hs'.putF (i := 5) rfl [0] [0, 1, 2, 3, 4, 5, 6, 7] rfl rfl rfl rfl⟩
  ·intro L a w hv K Q hK
   obtain ⟨p1, p2, p3, p4, p5, p6, p7, hs⟩ := hv
   refine wpOp_go rfl rfl hs (OpT_idxS rfl rfl rfl rfl rfl slF24 (i := 0) rfl hx2) ?_
   rintro _ ⟨p2', rfl⟩ a' w' hs'
   exact hK a' w' ⟨p1, p2', p3, p4, p5, p6, p7, hs'.putF (i := 6) rfl [0] [0, 1, 8, 3, 4, 5, 6, 7] rfl rfl rfl rfl⟩
  ·intro L a w hv K Q hK
   obtain ⟨p1, p2, p3, p4, p5, p6, p7, hs⟩ := hv
   refine wpOp_go rfl rfl hs (OpT_loadP rfl rfl rfl rfl tyF5 (i := 2) rfl rfl) ?_
   rintro _ rfl a' w' hs'
   exact hK a' w' ⟨p1, p2, p3, p4, p5, p6, p7, hs'.putF (i := 7) rfl [0] [0, 1, 2, 3, 4, 5, 6, 7] rfl rfl rfl rfl⟩
  ·intro L a w hv K Q hK
   obtain ⟨p1, p2, p3, p4, p5, p6, p7, hs⟩ := hv
   refine wpOp_go rfl rfl hs (OpT_cnv rfl rfl rfl rfl (cnv_u8_u16 (n := y2) Try.underlying5 Try.underlying23)) ?_
   rintro _ rfl a' w' hs'
   exact hK a' w' ⟨p1, p2, p3, p4, p5, p6, p7, hs'.putF (i := 8) rfl [0] [0, 1, 2, 3, 4, 5, 6, 7] rfl rfl rfl rfl⟩
  ·intro L a w hv K Q hK
   obtain ⟨p1, p2, p3, p4, p5, p6, p7, hs⟩ := hv
   refine wpOp_go rfl rfl hs (OpT_move rfl rfl rfl rfl) ?_
   rintro _ rfl a' w' hs'
   exact hK a' w' ⟨p1, p2, p3, p4, p5, p6, p7, hs'.putF (i := 9) rfl [0] [0, 1, 2, 3, 4, 5, 6, 7] rfl rfl rfl rfl⟩
  ·intro L a w hv K Q hK
   obtain ⟨p1, p2, p3, p4, p5, p6, p7, hs⟩ := hv
   refine wpOp_go rfl rfl hs (OpT_idxS rfl rfl rfl rfl rfl slF24 (i := 0) rfl hx3) ?_
   rintro _ ⟨p3', rfl⟩ a' w' hs'
   exact hK a' w' ⟨p1, p2, p3', p4, p5, p6, p7, hs'.putF (i := 10) rfl [0] [0, 1, 2, 8, 4, 5, 6, 7] rfl rfl rfl rfl⟩
  ·intro L a w hv K Q hK
   obtain ⟨p1, p2, p3, p4, p5, p6, p7, hs⟩ := hv
   refine wpOp_go rfl rfl hs (OpT_loadP rfl rfl rfl rfl tyF5 (i := 3) rfl rfl) ?_
   rintro _ rfl a' w' hs'
   exact hK a' w' ⟨p1, p2, p3, p4, p5, p6, p7, hs'.putF (i := 11) rfl [0] [0, 1, 2, 3, 4, 5, 6, 7] rfl rfl rfl rfl⟩
  ·intro L a w hv K Q hK
   obtain ⟨p1, p2, p3, p4, p5, p6, p7, hs⟩ := hv
   refine wpOp_go rfl rfl hs (OpT_cnv rfl rfl rfl rfl (cnv_u8_u16 (n := y3) Try.underlying5 Try.underlying23)) ?_
   rintro _ rfl a' w' hs'
   exact hK a' w' ⟨p1, p2, p3, p4, p5, p6, p7, hs'.putF (i := 12) rfl [0] [0, 1, 2, 3, 4, 5, 6, 7] rfl rfl rfl rfl⟩
  ·intro L a w hv K Q hK
   obtain ⟨p1, p2, p3, p4, p5, p6, p7, hs⟩ := hv
   refine wpOp_go rfl rfl hs (OpT_bin rfl rfl rfl rfl rfl (bin_shl_u16_u64 (a := y3.toUInt16) (n := (8 : UInt64)))) ?_
   rintro _ rfl a' w' hs'
   exact hK a' w' ⟨p1, p2, p3, p4, p5, p6, p7, hs'.putF (i := 13) rfl [0] [0, 1, 2, 3, 4, 5, 6, 7] rfl rfl rfl rfl⟩
  ·intro L a w hv K Q hK
   obtain ⟨p1, p2, p3, p4, p5, p6, p7, hs⟩ := hv
   refine wpOp_go rfl rfl hs (OpT_bin rfl rfl rfl rfl rfl (bin_or_u16 (a := y2.toUInt16) (b := shl16 y3.toUInt16 ((8 : UInt64).toNat)))) ?_
   rintro _ rfl a' w' hs'
   exact hK a' w' ⟨p1, p2, p3, p4, p5, p6, p7, hs'.putF (i := 14) rfl [0] [0, 1, 2, 3, 4, 5, 6, 7] rfl rfl rfl rfl⟩
  ·intro L a w hv K Q hK
   obtain ⟨p1, p2, p3, p4, p5, p6, p7, hs⟩ := hv
   refine wpOp_go rfl rfl hs (OpT_move rfl rfl rfl rfl) ?_
   rintro _ rfl a' w' hs'
   exact hK a' w' ⟨p1, p2, p3, p4, p5, p6, p7, hs'.putF (i := 15) rfl [0] [0, 1, 2, 3, 4, 5, 6, 7] rfl rfl rfl rfl⟩
  ·intro L a w hv K Q hK
   obtain ⟨p1, p2, p3, p4, p5, p6, p7, hs⟩ := hv
   refine wpOp_go rfl rfl hs (OpT_idxS rfl rfl rfl rfl rfl slF24 (i := 0) rfl hx4) ?_
   rintro _ ⟨p4', rfl⟩ a' w' hs'
   exact hK a' w' ⟨p1, p2, p3, p4', p5, p6, p7, hs'.putF (i := 16) rfl [0] [0, 1, 2, 3, 8, 5, 6, 7] rfl rfl rfl rfl⟩
  ·intro L a w hv K Q hK
   obtain ⟨p1, p2, p3, p4, p5, p6, p7, hs⟩ := hv
   refine wpOp_go rfl rfl hs (OpT_loadP rfl rfl rfl rfl tyF5 (i := 4) rfl rfl) ?_
   rintro _ rfl a' w' hs'
   exact hK a' w' ⟨p1, p2, p3, p4, p5, p6, p7, hs'.putF (i := 17) rfl [0] [0, 1, 2, 3, 4, 5, 6, 7] rfl rfl rfl rfl⟩
  ·intro L a w hv K Q hK
   obtain ⟨p1, p2, p3, p4, p5, p6, p7, hs⟩ := hv
   refine wpOp_go rfl rfl hs (OpT_cnv rfl rfl rfl rfl (cnv_u8_u16 (n := y4) Try.underlying5 Try.underlying23)) ?_
   rintro _ rfl a' w' hs'
   exact hK a' w' ⟨p1, p2, p3, p4, p5, p6, p7, hs'.putF (i := 18) rfl [0] [0, 1, 2, 3, 4, 5, 6, 7] rfl rfl rfl rfl⟩
  ·intro L a w hv K Q hK
   obtain ⟨p1, p2, p3, p4, p5, p6, p7, hs⟩ := hv
   refine wpOp_go rfl rfl hs (OpT_move rfl rfl rfl rfl) ?_
   rintro _ rfl a' w' hs'
   exact hK a' w' ⟨p1, p2, p3, p4, p5, p6, p7, hs'.putF (i := 19) rfl [0] [0, 1, 2, 3, 4, 5, 6, 7] rfl rfl rfl rfl⟩
  ·intro L a w hv K Q hK
   obtain ⟨p1, p2, p3, p4, p5, p6, p7, hs⟩ := hv
   refine wpOp_go rfl rfl hs (OpT_idxS rfl rfl rfl rfl rfl slF24 (i := 0) rfl hx5) ?_
   rintro _ ⟨p5', rfl⟩ a' w' hs'
   exact hK a' w' ⟨p1, p2, p3, p4, p5', p6, p7, hs'.putF (i := 20) rfl [0] [0, 1, 2, 3, 4, 8, 6, 7] rfl rfl rfl rfl⟩
  ·intro L a w hv K Q hK
   obtain ⟨p1, p2, p3, p4, p5, p6, p7, hs⟩ := hv
   refine wpOp_go rfl rfl hs (OpT_loadP rfl rfl rfl rfl tyF5 (i := 5) rfl rfl) ?_
   rintro _ rfl a' w' hs'
   exact hK a' w' ⟨p1, p2, p3, p4, p5, p6, p7, hs'.putF (i := 21) rfl [0] [0, 1, 2, 3, 4, 5, 6, 7] rfl rfl rfl rfl⟩
  ·intro L a w hv K Q hK
   obtain ⟨p1, p2, p3, p4, p5, p6, p7, hs⟩ := hv
   refine wpOp_go rfl rfl hs (OpT_cnv rfl rfl rfl rfl (cnv_u8_u16 (n := y5) Try.underlying5 Try.underlying23)) ?_
   rintro _ rfl a' w' hs'
   exact hK a' w' ⟨p1, p2, p3, p4, p5, p6, p7, hs'.putF (i := 22) rfl [0] [0, 1, 2, 3, 4, 5, 6, 7] rfl rfl rfl rfl⟩
  ·intro L a w hv K Q hK
   obtain ⟨p1, p2, p3, p4, p5, p6, p7, hs⟩ := hv
   refine wpOp_go rfl rfl hs (OpT_bin rfl rfl rfl rfl rfl (bin_shl_u16_u64 (a := y5.toUInt16) (n := (8 : UInt64)))) ?_
   rintro _ rfl a' w' hs'
   exact hK a' w' ⟨p1, p2, p3, p4, p5, p6, p7, hs'.putF (i := 23) rfl [0] [0, 1, 2, 3, 4, 5, 6, 7] rfl rfl rfl rfl⟩
  ·intro L a w hv K Q hK
   obtain ⟨p1, p2, p3, p4, p5, p6, p7, hs⟩ := hv
   refine wpOp_go rfl rfl hs (OpT_bin rfl rfl rfl rfl rfl (bin_or_u16 (a := y4.toUInt16) (b := shl16 y5.toUInt16 ((8 : UInt64).toNat)))) ?_
   rintro _ rfl a' w' hs'
   exact hK a' w' ⟨p1, p2, p3, p4, p5, p6, p7, hs'.putF (i := 24) rfl [0] [0, 1, 2, 3, 4, 5, 6, 7] rfl rfl rfl rfl⟩
  ·intro L a w hv K Q hK
   obtain ⟨p1, p2, p3, p4, p5, p6, p7, hs⟩ := hv
   refine wpOp_go rfl rfl hs (OpT_move rfl rfl rfl rfl) ?_
   rintro _ rfl a' w' hs'
   exact hK a' w' ⟨p1, p2, p3, p4, p5, p6, p7, hs'.putF (i := 25) rfl [0] [0, 1, 2, 3, 4, 5, 6, 7] rfl rfl rfl rfl⟩
  ·intro L a w hv K Q hK
   obtain ⟨p1, p2, p3, p4, p5, p6, p7, hs⟩ := hv
   refine wpOp_go rfl rfl hs (OpT_idxS rfl rfl rfl rfl rfl slF24 (i := 0) rfl hx6) ?_
   rintro _ ⟨p6', rfl⟩ a' w' hs'
   exact hK a' w' ⟨p1, p2, p3, p4, p5, p6', p7, hs'.putF (i := 26) rfl [0] [0, 1, 2, 3, 4, 5, 8, 7] rfl rfl rfl rfl⟩
  ·intro L a w hv K Q hK
   obtain ⟨p1, p2, p3, p4, p5, p6, p7, hs⟩ := hv
   refine wpOp_go rfl rfl hs (OpT_loadP rfl rfl rfl rfl tyF5 (i := 6) rfl rfl) ?_
   rintro _ rfl a' w' hs'
   exact hK a' w' ⟨p1, p2, p3, p4, p5, p6, p7, hs'.putF (i := 27) rfl [0] [0, 1, 2, 3, 4, 5, 6, 7] rfl rfl rfl rfl⟩
  ·intro L a w hv K Q hK
   obtain ⟨p1, p2, p3, p4, p5, p6, p7, hs⟩ := hv
   refine wpOp_go rfl rfl hs (OpT_cnv rfl rfl rfl rfl (cnv_u8_u16 (n := y6) Try.underlying5 Try.underlying23)) ?_
   rintro _ rfl a' w' hs'
   exact hK a' w' ⟨p1, p2, p3, p4, p5, p6, p7, hs'.putF (i := 28) rfl [0] [0, 1, 2, 3, 4, 5, 6, 7] rfl rfl rfl rfl⟩
  ·intro L a w hv K Q hK
   obtain ⟨p1, p2, p3, p4, p5, p6, p7, hs⟩ := hv
   refine wpOp_go rfl rfl hs (OpT_move rfl rfl rfl rfl) ?_
   rintro _ rfl a' w' hs'
   exact hK a' w' ⟨p1, p2, p3, p4, p5, p6, p7, hs'.putF (i := 29) rfl [0] [0, 1, 2, 3, 4, 5, 6, 7] rfl rfl rfl rfl⟩
  ·intro L a w hv K Q hK
   obtain ⟨p1, p2, p3, p4, p5, p6, p7, hs⟩ := hv
   refine wpOp_go rfl rfl hs (OpT_idxS rfl rfl rfl rfl rfl slF24 (i := 0) rfl hx7) ?_
   rintro _ ⟨p7', rfl⟩ a' w' hs'
   exact hK a' w' ⟨p1, p2, p3, p4, p5, p6, p7', hs'.putF (i := 30) rfl [0] [0, 1, 2, 3, 4, 5, 6, 8] rfl rfl rfl rfl⟩
  ·intro L a w hv K Q hK
   obtain ⟨p1, p2, p3, p4, p5, p6, p7, hs⟩ := hv
   refine wpOp_go rfl rfl hs (OpT_loadP rfl rfl rfl rfl tyF5 (i := 7) rfl rfl) ?_
   rintro _ rfl a' w' hs'
   exact hK a' w' ⟨p1, p2, p3, p4, p5, p6, p7, hs'.putF (i := 31) rfl [0] [0, 1, 2, 3, 4, 5, 6, 7] rfl rfl rfl rfl⟩
  ·intro L a w hv K Q hK
   obtain ⟨p1, p2, p3, p4, p5, p6, p7, hs⟩ := hv
   refine wpOp_go rfl rfl hs (OpT_cnv rfl rfl rfl rfl (cnv_u8_u16 (n := y7) Try.underlying5 Try.underlying23)) ?_
   rintro _ rfl a' w' hs'
   exact hK a' w' ⟨p1, p2, p3, p4, p5, p6, p7, hs'.putF (i := 32) rfl [0] [0, 1, 2, 3, 4, 5, 6, 7] rfl rfl rfl rfl⟩
  ·intro L a w hv K Q hK
   obtain ⟨p1, p2, p3, p4, p5, p6, p7, hs⟩ := hv
   refine wpOp_go rfl rfl hs (OpT_bin rfl rfl rfl rfl rfl (bin_shl_u16_u64 (a := y7.toUInt16) (n := (8 : UInt64)))) ?_
   rintro _ rfl a' w' hs'
   exact hK a' w' ⟨p1, p2, p3, p4, p5, p6, p7, hs'.putF (i := 33) rfl [0] [0, 1, 2, 3, 4, 5, 6, 7] rfl rfl rfl rfl⟩
  ·intro L a w hv K Q hK
   obtain ⟨p1, p2, p3, p4, p5, p6, p7, hs⟩ := hv
   refine wpOp_go rfl rfl hs (OpT_bin rfl rfl rfl rfl rfl (bin_or_u16 (a := y6.toUInt16) (b := shl16 y7.toUInt16 ((8 : UInt64).toNat)))) ?_
   rintro _ rfl a' w' hs'
   exact hK a' w' ⟨p1, p2, p3, p4, p5, p6, p7, hs'.putF (i := 34) rfl [0] [0, 1, 2, 3, 4, 5, 6, 7] rfl rfl rfl rfl⟩
  ·intro L a w hL hv
   rw [allTrue hL] at hv
   obtain ⟨p1, p2, p3, p4, p5, p6, p7, hs⟩ := hv
   refine (show TA _ _ _ 33 ⟨[(2, some (.pointer (some ⟨b1, 0, none⟩))), (10, some (vU8 y1)), (20, some (vU16 (y2.toUInt16 ||| (shl16 y3.toUInt16 ((8 : UInt64).toNat))))), (30, some (vU16 (y4.toUInt16 ||| (shl16 y5.toUInt16 ((8 : UInt64).toNat))))), (40, some (vU16 (y6.toUInt16 ||| (shl16 y7.toUInt16 ((8 : UInt64).toNat)))))], [some (cellsR b1 50 [vU8 (0 : UInt8), vU16 (0 : UInt16), vU16 (0 : UInt16), vU16 (0 : UInt16)])], []⟩ from ?_) a w (hs.wkS [2, 10, 20, 30, 40] [0] [] rfl rfl rfl rfl)
   clear hs hL
   refine TA_step htb (by kernel_rfl) rfl rfl (OpT_build (v := .agg #[vU8 y1, vU16 (y2.toUInt16 ||| (shl16 y3.toUInt16 ((8 : UInt64).toNat))), vU16 (y4.toUInt16 ||| (shl16 y5.toUInt16 ((8 : UInt64).toNat))), vU16 (y6.toUInt16 ||| (shl16 y7.toUInt16 ((8 : UInt64).toNat)))]) rfl rfl rfl rfl (bldV (by kernel_rfl))) ?_
   refine TA_step htb (by kernel_rfl) rfl rfl (OpT_storeC (cs' := [vU8 y1, vU16 (y2.toUInt16 ||| (shl16 y3.toUInt16 ((8 : UInt64).toNat))), vU16 (y4.toUInt16 ||| (shl16 y5.toUInt16 ((8 : UInt64).toNat))), vU16 (y6.toUInt16 ||| (shl16 y7.toUInt16 ((8 : UInt64).toNat)))]) rfl rfl rfl rfl tyF50 (i := 0) rfl rfl rfl (one_of rfl) rfl) ?_
   refine TA_step htb (by kernel_rfl) rfl rfl (OpT_assign rfl rfl rfl rfl) ?_
   refine TA_end rfl ?_
   refine Tk_wkS (fr' := [(2, some (.pointer (some ⟨b1, 0, none⟩))), (3, some (vI (0 : Int)))]) (own' := [some (cellsR b1 50 [vU8 y1, vU16 (y2.toUInt16 ||| (shl16 y3.toUInt16 ((8 : UInt64).toNat))), vU16 (y4.toUInt16 ||| (shl16 y5.toUInt16 ((8 : UInt64).toNat))), vU16 (y6.toUInt16 ||| (shl16 y7.toUInt16 ((8 : UInt64).toNat)))])]) (shr' := []) [2, 3] [0] [] rfl rfl rfl rfl ?_
   obtain rfl := Option.some.inj h
   exact Tk_retV rfl rfl (resA (vs := [.agg #[vU8 y1, vU16 (y2.toUInt16 ||| (shl16 y3.toUInt16 ((8 : UInt64).toNat))), vU16 (y4.toUInt16 ||| (shl16 y5.toUInt16 ((8 : UInt64).toNat))), vU16 (y6.toUInt16 ||| (shl16 y7.toUInt16 ((8 : UInt64).toNat)))], vI (0 : Int)]) rfl ⟨⟨_, 0, _, _, _, rfl, rfl, .inl ⟨tyF50, rfl, rfl⟩⟩, rfl, trivial⟩) [] [] rfl rfl rfl ⟨rfl, rfl, rfl⟩

set_option maxRecDepth 100000 in
set_option maxHeartbeats 4000000 in
theorem w_law25zlives  {r : Bool} (h : law25zlives = some r) :
  Ctr Try.prog 7 #[] [] []
   (fun rv own shr => rv = vB r ∧ own = [] ∧ shr = []) := by
 unfold law25zlives at h
 refine Ctr.mk (args := []) Try.func7 rfl rfl (fun R0 w0 B => ?_)
 refine Tk_seq (Tk_region (Tops_step rfl (OpT_assign rfl rfl rfl rfl) ?_))
 refine Tops_nil (Tk_wkS (fr' := []) (own' := []) (shr' := []) [] [] [] rfl rfl rfl rfl ?_)
 refine Tk_seq (Tk_region (Tops_ex rfl (OpT_buildSlice (S := iS) (xs := [(20 : Int), (20 : Int), (20 : Int)]) (css := [[vI (20 : Int)], [vI (20 : Int)], [vI (20 : Int)]]) (cs := [vI (20 : Int), vI (20 : Int), vI (20 : Int)]) (e := 3) rfl rfl rfl rfl (bldF slF27 (by decide) (by kernel_rfl)) rfl rfl rfl rfl (rel_plainD (S := iS) (xs := [(20 : Int), (20 : Int), (20 : Int)]) (css := [[vI (20 : Int)], [vI (20 : Int)], [vI (20 : Int)]]) rfl rfl)) fun v1 => ?_))
 refine Tops_retire (i := 0) rfl ?_
 obtain ⟨rooms1, hx1, h⟩ := ob_e h
 refine Tops_exP rfl (OpT_call (w_law25zrooms hx1) [] [0] rfl rfl rfl rfl rfl callee10 rfl rfl rfl rfl) ?_
 rintro _ ⟨v2, _, _, ⟨_, rfl, rfl, rfl⟩, rfl⟩
 refine Tops_step rfl (OpT_assign rfl rfl rfl rfl) ?_
 refine Tops_nil (Tk_wkS (fr' := [(1, some (v2))]) (own' := [some (rowS (Shape.slice SegS) v2 rooms1)]) (shr' := []) [1] [1] [] rfl rfl rfl rfl ?_)
 refine Tk_seq (Tk_region (Tops_step rfl (OpT_move rfl rfl rfl rfl) ?_))
 obtain ⟨needs1, hx2, h⟩ := ob_e h
 refine Tops_exP rfl (OpT_callB [0] [0] (w_net_Needs hx2) [] rfl rfl rfl rfl rfl callee28 rfl rfl rfl rfl rfl rfl (bor_cons (bor_row 0 rfl rfl) bor_nil) (by rintro _ _ _ ⟨rfl, rfl, rfl⟩; exact ⟨rfl, ri_nil⟩)) ?_
 rintro _ ⟨_, _, _, ⟨rfl, rfl, rfl⟩, rfl⟩
 refine Tops_step rfl (OpT_move rfl rfl rfl rfl) ?_
 refine Tops_step rfl (OpT_extract rfl rfl rfl rfl rfl) ?_
 refine Tops_step rfl (OpT_extract rfl rfl rfl rfl rfl) ?_
 refine Tops_step rfl (OpT_assign rfl rfl rfl rfl) ?_
 refine Tops_step rfl (OpT_assign rfl rfl rfl rfl) ?_
 refine Tops_nil (Tk_wkS (fr' := [(1, some (v2)), (2, some (vI needs1.1)), (3, some (vB needs1.2))]) (own' := [some (rowS (Shape.slice SegS) v2 rooms1)]) (shr' := []) [1, 2, 3] [0] [] rfl rfl rfl rfl ?_)
 refine Tk_seq (Tk_region (Tops_step rfl (OpT_move rfl rfl rfl rfl) ?_))
 obtain ⟨needs2, hx3, h⟩ := ob_e h
 refine Tops_exP rfl (OpT_callB [0] [0] (w_net_Needs hx3) [] rfl rfl rfl rfl rfl callee28 rfl rfl rfl rfl rfl rfl (bor_cons (bor_row 0 rfl rfl) bor_nil) (by rintro _ _ _ ⟨rfl, rfl, rfl⟩; exact ⟨rfl, ri_nil⟩)) ?_
 rintro _ ⟨_, _, _, ⟨rfl, rfl, rfl⟩, rfl⟩
 refine Tops_step rfl (OpT_move rfl rfl rfl rfl) ?_
 refine Tops_step rfl (OpT_extract rfl rfl rfl rfl rfl) ?_
 refine Tops_step rfl (OpT_extract rfl rfl rfl rfl rfl) ?_
 refine Tops_step rfl (OpT_assign rfl rfl rfl rfl) ?_
 refine Tops_step rfl (OpT_assign rfl rfl rfl rfl) ?_
 refine Tops_nil (Tk_wkS (fr' := [(1, some (v2)), (2, some (vI needs1.1)), (3, some (vB needs1.2)), (4, some (vI needs2.1)), (5, some (vB needs2.2))]) (own' := [some (rowS (Shape.slice SegS) v2 rooms1)]) (shr' := []) [1, 2, 3, 4, 5] [0] [] rfl rfl rfl rfl ?_)
 refine Tk_seq (Tk_region (Tops_step rfl (OpT_move rfl rfl rfl rfl) ?_))
 obtain ⟨needs3, hx4, h⟩ := ob_e h
 refine Tops_exP rfl (OpT_callB [0] [0] (w_net_Needs hx4) [] rfl rfl rfl rfl rfl callee28 rfl rfl rfl rfl rfl rfl (bor_cons (bor_row 0 rfl rfl) bor_nil) (by rintro _ _ _ ⟨rfl, rfl, rfl⟩; exact ⟨rfl, ri_nil⟩)) ?_
 rintro _ ⟨_, _, _, ⟨rfl, rfl, rfl⟩, rfl⟩
 refine Tops_step rfl (OpT_move rfl rfl rfl rfl) ?_
 refine Tops_step rfl (OpT_extract rfl rfl rfl rfl rfl) ?_
 refine Tops_step rfl (OpT_extract rfl rfl rfl rfl rfl) ?_
 refine Tops_step rfl (OpT_assign rfl rfl rfl rfl) ?_
 refine Tops_step rfl (OpT_assign rfl rfl rfl rfl) ?_
 refine Tops_nil (Tk_wkS (fr' := [(1, some (v2)), (2, some (vI needs1.1)), (3, some (vB needs1.2)), (4, some (vI needs2.1)), (5, some (vB needs2.2)), (6, some (vI needs3.1)), (7, some (vB needs3.2))]) (own' := [some (rowS (Shape.slice SegS) v2 rooms1)]) (shr' := []) [1, 2, 3, 4, 5, 6, 7] [0] [] rfl rfl rfl rfl ?_)
 refine Tk_seq (Tk_region (Tops_step rfl (OpT_move rfl rfl rfl rfl) ?_))
 obtain ⟨needs4, hx5, h⟩ := ob_e h
 refine Tops_exP rfl (OpT_callB [0] [0] (w_net_Needs hx5) [] rfl rfl rfl rfl rfl callee28 rfl rfl rfl rfl rfl rfl (bor_cons (bor_row 0 rfl rfl) bor_nil) (by rintro _ _ _ ⟨rfl, rfl, rfl⟩; exact ⟨rfl, ri_nil⟩)) ?_
 rintro _ ⟨_, _, _, ⟨rfl, rfl, rfl⟩, rfl⟩
 refine Tops_step rfl (OpT_move rfl rfl rfl rfl) ?_
 refine Tops_step rfl (OpT_extract rfl rfl rfl rfl rfl) ?_
 refine Tops_step rfl (OpT_extract rfl rfl rfl rfl rfl) ?_
 refine Tops_step rfl (OpT_assign rfl rfl rfl rfl) ?_
 refine Tops_step rfl (OpT_assign rfl rfl rfl rfl) ?_
 refine Tops_nil (Tk_wkS (fr' := [(1, some (v2)), (2, some (vI needs1.1)), (3, some (vB needs1.2)), (4, some (vI needs2.1)), (5, some (vB needs2.2)), (6, some (vI needs3.1)), (7, some (vB needs3.2)), (8, some (vI needs4.1)), (9, some (vB needs4.2))]) (own' := [some (rowS (Shape.slice SegS) v2 rooms1)]) (shr' := []) [1, 2, 3, 4, 5, 6, 7, 8, 9] [0] [] rfl rfl rfl rfl ?_)
 refine Tk_seq (Tk_region (Tops_step rfl (OpT_move rfl rfl rfl rfl) ?_))
 obtain ⟨needs5, hx6, h⟩ := ob_e h
 refine Tops_exP rfl (OpT_callB [0] [0] (w_net_Needs hx6) [] rfl rfl rfl rfl rfl callee28 rfl rfl rfl rfl rfl rfl (bor_cons (bor_row 0 rfl rfl) bor_nil) (by rintro _ _ _ ⟨rfl, rfl, rfl⟩; exact ⟨rfl, ri_nil⟩)) ?_
 rintro _ ⟨_, _, _, ⟨rfl, rfl, rfl⟩, rfl⟩
 refine Tops_step rfl (OpT_move rfl rfl rfl rfl) ?_
 refine Tops_step rfl (OpT_extract rfl rfl rfl rfl rfl) ?_
 refine Tops_step rfl (OpT_extract rfl rfl rfl rfl rfl) ?_
 refine Tops_step rfl (OpT_assign rfl rfl rfl rfl) ?_
 refine Tops_step rfl (OpT_assign rfl rfl rfl rfl) ?_
 refine Tops_nil (Tk_wkS (fr' := [(2, some (vI needs1.1)), (3, some (vB needs1.2)), (4, some (vI needs2.1)), (5, some (vB needs2.2)), (6, some (vI needs3.1)), (7, some (vB needs3.2)), (8, some (vI needs4.1)), (9, some (vB needs4.2)), (10, some (vI needs5.1)), (11, some (vB needs5.2))]) (own' := []) (shr' := []) [2, 3, 4, 5, 6, 7, 8, 9, 10, 11] [] [] rfl rfl rfl rfl ?_)
 refine Tk_seq (Tk_region (Tops_step rfl (OpT_move rfl rfl rfl rfl) ?_))
 refine Tops_step rfl (OpT_bin rfl rfl rfl rfl rfl (bin_eql_i (a := needs1.1) (b := (2 : Int)))) ?_
 refine Tops_step rfl (OpT_move rfl rfl rfl rfl) ?_
 rcases Bool.eq_false_or_eq_true (needs1.1 == (2 : Int)) with hg1 | hg1
 ·replace h := br_t hg1 h
  refine Tops_yes rfl rfl (congrArg (fun b => some (Value.bool b)) hg1) (OpT_move rfl rfl rfl rfl) ?_
  rintro _ rfl
  refine Tops_step rfl (OpT_pickT rfl rfl rfl (congrArg (fun b => some (Value.bool b)) hg1) rfl) ?_
  refine Tops_step rfl (OpT_move rfl rfl rfl rfl) ?_
  rcases Bool.eq_false_or_eq_true (needs1.2) with hg2 | hg2
  ·replace h := br_t hg2 h
   refine Tops_yes rfl rfl (congrArg (fun b => some (Value.bool b)) hg2) (OpT_move rfl rfl rfl rfl) ?_
   rintro _ rfl
   refine Tops_yes rfl rfl (congrArg (fun b => some (Value.bool b)) hg2) (OpT_bin rfl rfl rfl rfl rfl (bin_eql_i (a := needs2.1) (b := (3 : Int)))) ?_
   rintro _ rfl
   refine Tops_step rfl (OpT_pickT rfl rfl rfl (congrArg (fun b => some (Value.bool b)) hg2) rfl) ?_
   refine Tops_step rfl (OpT_move rfl rfl rfl rfl) ?_
   rcases Bool.eq_false_or_eq_true (needs2.1 == (3 : Int)) with hg3 | hg3
   ·replace h := br_t hg3 h
    refine Tops_yes rfl rfl (congrArg (fun b => some (Value.bool b)) hg3) (OpT_move rfl rfl rfl rfl) ?_
    rintro _ rfl
    refine Tops_step rfl (OpT_pickT rfl rfl rfl (congrArg (fun b => some (Value.bool b)) hg3) rfl) ?_
    refine Tops_step rfl (OpT_move rfl rfl rfl rfl) ?_
    rcases Bool.eq_false_or_eq_true (needs2.2) with hg4 | hg4
    ·replace h := br_t hg4 h
     refine Tops_yes rfl rfl (congrArg (fun b => some (Value.bool b)) hg4) (OpT_move rfl rfl rfl rfl) ?_
     rintro _ rfl
     refine Tops_yes rfl rfl (congrArg (fun b => some (Value.bool b)) hg4) (OpT_bin rfl rfl rfl rfl rfl (bin_eql_i (a := needs3.1) (b := (0 : Int)))) ?_
     rintro _ rfl
     refine Tops_step rfl (OpT_pickT rfl rfl rfl (congrArg (fun b => some (Value.bool b)) hg4) rfl) ?_
     refine Tops_step rfl (OpT_move rfl rfl rfl rfl) ?_
     rcases Bool.eq_false_or_eq_true (needs3.1 == (0 : Int)) with hg5 | hg5
     ·replace h := br_t hg5 h
      refine Tops_yes rfl rfl (congrArg (fun b => some (Value.bool b)) hg5) (OpT_move rfl rfl rfl rfl) ?_
      rintro _ rfl
      refine Tops_yes rfl rfl (congrArg (fun b => some (Value.bool b)) hg5) (OpT_not rfl rfl rfl rfl) ?_
      rintro _ rfl
      refine Tops_step rfl (OpT_pickT rfl rfl rfl (congrArg (fun b => some (Value.bool b)) hg5) rfl) ?_
      refine Tops_step rfl (OpT_move rfl rfl rfl rfl) ?_
      rcases Bool.eq_false_or_eq_true ((!needs3.2)) with hg6 | hg6
      ·replace h := br_t hg6 h
       refine Tops_yes rfl rfl (congrArg (fun b => some (Value.bool b)) hg6) (OpT_move rfl rfl rfl rfl) ?_
       rintro _ rfl
       refine Tops_yes rfl rfl (congrArg (fun b => some (Value.bool b)) hg6) (OpT_bin rfl rfl rfl rfl rfl (bin_eql_i (a := needs4.1) (b := (1 : Int)))) ?_
       rintro _ rfl
       refine Tops_step rfl (OpT_pickT rfl rfl rfl (congrArg (fun b => some (Value.bool b)) hg6) rfl) ?_
       refine Tops_step rfl (OpT_move rfl rfl rfl rfl) ?_
       rcases Bool.eq_false_or_eq_true (needs4.1 == (1 : Int)) with hg7 | hg7
       ·replace h := br_t hg7 h
        refine Tops_yes rfl rfl (congrArg (fun b => some (Value.bool b)) hg7) (OpT_move rfl rfl rfl rfl) ?_
        rintro _ rfl
        refine Tops_step rfl (OpT_pickT rfl rfl rfl (congrArg (fun b => some (Value.bool b)) hg7) rfl) ?_
        refine Tops_step rfl (OpT_move rfl rfl rfl rfl) ?_
        rcases Bool.eq_false_or_eq_true (needs4.2) with hg8 | hg8
        ·replace h := br_t hg8 h
         refine Tops_yes rfl rfl (congrArg (fun b => some (Value.bool b)) hg8) (OpT_move rfl rfl rfl rfl) ?_
         rintro _ rfl
         refine Tops_yes rfl rfl (congrArg (fun b => some (Value.bool b)) hg8) (OpT_bin rfl rfl rfl rfl rfl (bin_eql_i (a := needs5.1) (b := (0 : Int)))) ?_
         rintro _ rfl
         refine Tops_step rfl (OpT_pickT rfl rfl rfl (congrArg (fun b => some (Value.bool b)) hg8) rfl) ?_
         refine Tops_step rfl (OpT_move rfl rfl rfl rfl) ?_
         rcases Bool.eq_false_or_eq_true (needs5.1 == (0 : Int)) with hg9 | hg9
         ·replace h := br_t hg9 h
          refine Tops_yes rfl rfl (congrArg (fun b => some (Value.bool b)) hg9) (OpT_move rfl rfl rfl rfl) ?_
          rintro _ rfl
          refine Tops_yes rfl rfl (congrArg (fun b => some (Value.bool b)) hg9) (OpT_not rfl rfl rfl rfl) ?_
          rintro _ rfl
          refine Tops_step rfl (OpT_pickT rfl rfl rfl (congrArg (fun b => some (Value.bool b)) hg9) rfl) ?_
          refine Tops_step rfl (OpT_assign rfl rfl rfl rfl) ?_
          refine Tops_nil (Tk_wkS (fr' := [(0, some (vB (!needs5.2)))]) (own' := []) (shr' := []) [0] [] [] rfl rfl rfl rfl ?_)
          obtain rfl := Option.some.inj h
          exact Tk_retV rfl rfl (resA (vs := [vB (!needs5.2)]) rfl ⟨rfl, trivial⟩) [] [] rfl rfl rfl ⟨rfl, rfl, rfl⟩
         ·replace h := br_f hg9 h
          refine Tops_no rfl rfl (congrArg (fun b => some (Value.bool b)) hg9) rfl rfl ?_
          refine Tops_no rfl rfl (congrArg (fun b => some (Value.bool b)) hg9) rfl rfl ?_
          refine Tops_step rfl (OpT_pickF rfl rfl rfl (congrArg (fun b => some (Value.bool b)) hg9) rfl) ?_
          refine Tops_step rfl (OpT_assign rfl rfl rfl rfl) ?_
          refine Tops_nil (Tk_wkS (fr' := [(0, some (vB false))]) (own' := []) (shr' := []) [0] [] [] rfl rfl rfl rfl ?_)
          obtain rfl := Option.some.inj h
          exact Tk_retV rfl rfl (resA (vs := [vB false]) rfl ⟨rfl, trivial⟩) [] [] rfl rfl rfl ⟨rfl, rfl, rfl⟩
        ·replace h := br_f hg8 h
         refine Tops_no rfl rfl (congrArg (fun b => some (Value.bool b)) hg8) rfl rfl ?_
         refine Tops_no rfl rfl (congrArg (fun b => some (Value.bool b)) hg8) rfl rfl ?_
         refine Tops_step rfl (OpT_pickF rfl rfl rfl (congrArg (fun b => some (Value.bool b)) hg8) rfl) ?_
         refine Tops_step rfl (OpT_move rfl rfl rfl rfl) ?_
         refine Tops_no rfl rfl rfl rfl rfl ?_
         refine Tops_no rfl rfl rfl rfl rfl ?_
         refine Tops_step rfl (OpT_pickF rfl rfl rfl rfl rfl) ?_
         refine Tops_step rfl (OpT_assign rfl rfl rfl rfl) ?_
         refine Tops_nil (Tk_wkS (fr' := [(0, some (vB false))]) (own' := []) (shr' := []) [0] [] [] rfl rfl rfl rfl ?_)
         obtain rfl := Option.some.inj h
         exact Tk_retV rfl rfl (resA (vs := [vB false]) rfl ⟨rfl, trivial⟩) [] [] rfl rfl rfl ⟨rfl, rfl, rfl⟩
       ·replace h := br_f hg7 h
        refine Tops_no rfl rfl (congrArg (fun b => some (Value.bool b)) hg7) rfl rfl ?_
        refine Tops_step rfl (OpT_pickF rfl rfl rfl (congrArg (fun b => some (Value.bool b)) hg7) rfl) ?_
        refine Tops_step rfl (OpT_move rfl rfl rfl rfl) ?_
        refine Tops_no rfl rfl rfl rfl rfl ?_
        refine Tops_no rfl rfl rfl rfl rfl ?_
        refine Tops_step rfl (OpT_pickF rfl rfl rfl rfl rfl) ?_
        refine Tops_step rfl (OpT_move rfl rfl rfl rfl) ?_
        refine Tops_no rfl rfl rfl rfl rfl ?_
        refine Tops_no rfl rfl rfl rfl rfl ?_
        refine Tops_step rfl (OpT_pickF rfl rfl rfl rfl rfl) ?_
        refine Tops_step rfl (OpT_assign rfl rfl rfl rfl) ?_
        refine Tops_nil (Tk_wkS (fr' := [(0, some (vB false))]) (own' := []) (shr' := []) [0] [] [] rfl rfl rfl rfl ?_)
        obtain rfl := Option.some.inj h
        exact Tk_retV rfl rfl (resA (vs := [vB false]) rfl ⟨rfl, trivial⟩) [] [] rfl rfl rfl ⟨rfl, rfl, rfl⟩
      ·replace h := br_f hg6 h
       refine Tops_no rfl rfl (congrArg (fun b => some (Value.bool b)) hg6) rfl rfl ?_
       refine Tops_no rfl rfl (congrArg (fun b => some (Value.bool b)) hg6) rfl rfl ?_
       refine Tops_step rfl (OpT_pickF rfl rfl rfl (congrArg (fun b => some (Value.bool b)) hg6) rfl) ?_
       refine Tops_step rfl (OpT_move rfl rfl rfl rfl) ?_
       refine Tops_no rfl rfl rfl rfl rfl ?_
       refine Tops_step rfl (OpT_pickF rfl rfl rfl rfl rfl) ?_
       refine Tops_step rfl (OpT_move rfl rfl rfl rfl) ?_
       refine Tops_no rfl rfl rfl rfl rfl ?_
       refine Tops_no rfl rfl rfl rfl rfl ?_
       refine Tops_step rfl (OpT_pickF rfl rfl rfl rfl rfl) ?_
       refine Tops_step rfl (OpT_move rfl rfl rfl rfl) ?_
       refine Tops_no rfl rfl rfl rfl rfl ?_
       refine Tops_no rfl rfl rfl rfl rfl ?_
       refine Tops_step rfl (OpT_pickF rfl rfl rfl rfl rfl) ?_
       refine Tops_step rfl (OpT_assign rfl rfl rfl rfl) ?_
       refine Tops_nil (Tk_wkS (fr' := [(0, some (vB false))]) (own' := []) (shr' := []) [0] [] [] rfl rfl rfl rfl ?_)
       obtain rfl := Option.some.inj h
       exact Tk_retV rfl rfl (resA (vs := [vB false]) rfl ⟨rfl, trivial⟩) [] [] rfl rfl rfl ⟨rfl, rfl, rfl⟩
     ·replace h := br_f hg5 h
      refine Tops_no rfl rfl (congrArg (fun b => some (Value.bool b)) hg5) rfl rfl ?_
      refine Tops_no rfl rfl (congrArg (fun b => some (Value.bool b)) hg5) rfl rfl ?_
      refine Tops_step rfl (OpT_pickF rfl rfl rfl (congrArg (fun b => some (Value.bool b)) hg5) rfl) ?_
      refine Tops_step rfl (OpT_move rfl rfl rfl rfl) ?_
      refine Tops_no rfl rfl rfl rfl rfl ?_
      refine Tops_no rfl rfl rfl rfl rfl ?_
      refine Tops_step rfl (OpT_pickF rfl rfl rfl rfl rfl) ?_
      refine Tops_step rfl (OpT_move rfl rfl rfl rfl) ?_
      refine Tops_no rfl rfl rfl rfl rfl ?_
      refine Tops_step rfl (OpT_pickF rfl rfl rfl rfl rfl) ?_
      refine Tops_step rfl (OpT_move rfl rfl rfl rfl) ?_
      refine Tops_no rfl rfl rfl rfl rfl ?_
      refine Tops_no rfl rfl rfl rfl rfl ?_
      refine Tops_step rfl (OpT_pickF rfl rfl rfl rfl rfl) ?_
      refine Tops_step rfl (OpT_move rfl rfl rfl rfl) ?_
      refine Tops_no rfl rfl rfl rfl rfl ?_
      refine Tops_no rfl rfl rfl rfl rfl ?_
      refine Tops_step rfl (OpT_pickF rfl rfl rfl rfl rfl) ?_
      refine Tops_step rfl (OpT_assign rfl rfl rfl rfl) ?_
      refine Tops_nil (Tk_wkS (fr' := [(0, some (vB false))]) (own' := []) (shr' := []) [0] [] [] rfl rfl rfl rfl ?_)
      obtain rfl := Option.some.inj h
      exact Tk_retV rfl rfl (resA (vs := [vB false]) rfl ⟨rfl, trivial⟩) [] [] rfl rfl rfl ⟨rfl, rfl, rfl⟩
    ·replace h := br_f hg4 h
     refine Tops_no rfl rfl (congrArg (fun b => some (Value.bool b)) hg4) rfl rfl ?_
     refine Tops_no rfl rfl (congrArg (fun b => some (Value.bool b)) hg4) rfl rfl ?_
     refine Tops_step rfl (OpT_pickF rfl rfl rfl (congrArg (fun b => some (Value.bool b)) hg4) rfl) ?_
     refine Tops_step rfl (OpT_move rfl rfl rfl rfl) ?_
     refine Tops_no rfl rfl rfl rfl rfl ?_
     refine Tops_no rfl rfl rfl rfl rfl ?_
     refine Tops_step rfl (OpT_pickF rfl rfl rfl rfl rfl) ?_
     refine Tops_step rfl (OpT_move rfl rfl rfl rfl) ?_
     refine Tops_no rfl rfl rfl rfl rfl ?_
     refine Tops_no rfl rfl rfl rfl rfl ?_
     refine Tops_step rfl (OpT_pickF rfl rfl rfl rfl rfl) ?_
     refine Tops_step rfl (OpT_move rfl rfl rfl rfl) ?_
     refine Tops_no rfl rfl rfl rfl rfl ?_
     refine Tops_step rfl (OpT_pickF rfl rfl rfl rfl rfl) ?_
     refine Tops_step rfl (OpT_move rfl rfl rfl rfl) ?_
     refine Tops_no rfl rfl rfl rfl rfl ?_
     refine Tops_no rfl rfl rfl rfl rfl ?_
     refine Tops_step rfl (OpT_pickF rfl rfl rfl rfl rfl) ?_
     refine Tops_step rfl (OpT_move rfl rfl rfl rfl) ?_
     refine Tops_no rfl rfl rfl rfl rfl ?_
     refine Tops_no rfl rfl rfl rfl rfl ?_
     refine Tops_step rfl (OpT_pickF rfl rfl rfl rfl rfl) ?_
     refine Tops_step rfl (OpT_assign rfl rfl rfl rfl) ?_
     refine Tops_nil (Tk_wkS (fr' := [(0, some (vB false))]) (own' := []) (shr' := []) [0] [] [] rfl rfl rfl rfl ?_)
     obtain rfl := Option.some.inj h
     exact Tk_retV rfl rfl (resA (vs := [vB false]) rfl ⟨rfl, trivial⟩) [] [] rfl rfl rfl ⟨rfl, rfl, rfl⟩
   ·replace h := br_f hg3 h
    refine Tops_no rfl rfl (congrArg (fun b => some (Value.bool b)) hg3) rfl rfl ?_
    refine Tops_step rfl (OpT_pickF rfl rfl rfl (congrArg (fun b => some (Value.bool b)) hg3) rfl) ?_
    refine Tops_step rfl (OpT_move rfl rfl rfl rfl) ?_
    refine Tops_no rfl rfl rfl rfl rfl ?_
    refine Tops_no rfl rfl rfl rfl rfl ?_
    refine Tops_step rfl (OpT_pickF rfl rfl rfl rfl rfl) ?_
    refine Tops_step rfl (OpT_move rfl rfl rfl rfl) ?_
    refine Tops_no rfl rfl rfl rfl rfl ?_
    refine Tops_no rfl rfl rfl rfl rfl ?_
    refine Tops_step rfl (OpT_pickF rfl rfl rfl rfl rfl) ?_
    refine Tops_step rfl (OpT_move rfl rfl rfl rfl) ?_
    refine Tops_no rfl rfl rfl rfl rfl ?_
    refine Tops_no rfl rfl rfl rfl rfl ?_
    refine Tops_step rfl (OpT_pickF rfl rfl rfl rfl rfl) ?_
    refine Tops_step rfl (OpT_move rfl rfl rfl rfl) ?_
    refine Tops_no rfl rfl rfl rfl rfl ?_
    refine Tops_step rfl (OpT_pickF rfl rfl rfl rfl rfl) ?_
    refine Tops_step rfl (OpT_move rfl rfl rfl rfl) ?_
    refine Tops_no rfl rfl rfl rfl rfl ?_
    refine Tops_no rfl rfl rfl rfl rfl ?_
    refine Tops_step rfl (OpT_pickF rfl rfl rfl rfl rfl) ?_
    refine Tops_step rfl (OpT_move rfl rfl rfl rfl) ?_
    refine Tops_no rfl rfl rfl rfl rfl ?_
    refine Tops_no rfl rfl rfl rfl rfl ?_
    refine Tops_step rfl (OpT_pickF rfl rfl rfl rfl rfl) ?_
    refine Tops_step rfl (OpT_assign rfl rfl rfl rfl) ?_
    refine Tops_nil (Tk_wkS (fr' := [(0, some (vB false))]) (own' := []) (shr' := []) [0] [] [] rfl rfl rfl rfl ?_)
    obtain rfl := Option.some.inj h
    exact Tk_retV rfl rfl (resA (vs := [vB false]) rfl ⟨rfl, trivial⟩) [] [] rfl rfl rfl ⟨rfl, rfl, rfl⟩
  ·replace h := br_f hg2 h
   refine Tops_no rfl rfl (congrArg (fun b => some (Value.bool b)) hg2) rfl rfl ?_
   refine Tops_no rfl rfl (congrArg (fun b => some (Value.bool b)) hg2) rfl rfl ?_
   refine Tops_step rfl (OpT_pickF rfl rfl rfl (congrArg (fun b => some (Value.bool b)) hg2) rfl) ?_
   refine Tops_step rfl (OpT_move rfl rfl rfl rfl) ?_
   refine Tops_no rfl rfl rfl rfl rfl ?_
   refine Tops_step rfl (OpT_pickF rfl rfl rfl rfl rfl) ?_
   refine Tops_step rfl (OpT_move rfl rfl rfl rfl) ?_
   refine Tops_no rfl rfl rfl rfl rfl ?_
   refine Tops_no rfl rfl rfl rfl rfl ?_
   refine Tops_step rfl (OpT_pickF rfl rfl rfl rfl rfl) ?_
   refine Tops_step rfl (OpT_move rfl rfl rfl rfl) ?_
   refine Tops_no rfl rfl rfl rfl rfl ?_
   refine Tops_no rfl rfl rfl rfl rfl ?_
   refine Tops_step rfl (OpT_pickF rfl rfl rfl rfl rfl) ?_
   refine Tops_step rfl (OpT_move rfl rfl rfl rfl) ?_
   refine Tops_no rfl rfl rfl rfl rfl ?_
   refine Tops_no rfl rfl rfl rfl rfl ?_
   refine Tops_step rfl (OpT_pickF rfl rfl rfl rfl rfl) ?_
   refine Tops_step rfl (OpT_move rfl rfl rfl rfl) ?_
   refine Tops_no rfl rfl rfl rfl rfl ?_
   refine Tops_step rfl (OpT_pickF rfl rfl rfl rfl rfl) ?_
   refine Tops_step rfl (OpT_move rfl rfl rfl rfl) ?_
   refine Tops_no rfl rfl rfl rfl rfl ?_
   refine Tops_no rfl rfl rfl rfl rfl ?_
   refine Tops_step rfl (OpT_pickF rfl rfl rfl rfl rfl) ?_
   refine Tops_step rfl (OpT_move rfl rfl rfl rfl) ?_
   refine Tops_no rfl rfl rfl rfl rfl ?_
   refine Tops_no rfl rfl rfl rfl rfl ?_
   refine Tops_step rfl (OpT_pickF rfl rfl rfl rfl rfl) ?_
   refine Tops_step rfl (OpT_assign rfl rfl rfl rfl) ?_
   refine Tops_nil (Tk_wkS (fr' := [(0, some (vB false))]) (own' := []) (shr' := []) [0] [] [] rfl rfl rfl rfl ?_)
   obtain rfl := Option.some.inj h
   exact Tk_retV rfl rfl (resA (vs := [vB false]) rfl ⟨rfl, trivial⟩) [] [] rfl rfl rfl ⟨rfl, rfl, rfl⟩
 ·replace h := br_f hg1 h
  refine Tops_no rfl rfl (congrArg (fun b => some (Value.bool b)) hg1) rfl rfl ?_
  refine Tops_step rfl (OpT_pickF rfl rfl rfl (congrArg (fun b => some (Value.bool b)) hg1) rfl) ?_
  refine Tops_step rfl (OpT_move rfl rfl rfl rfl) ?_
  refine Tops_no rfl rfl rfl rfl rfl ?_
  refine Tops_no rfl rfl rfl rfl rfl ?_
  refine Tops_step rfl (OpT_pickF rfl rfl rfl rfl rfl) ?_
  refine Tops_step rfl (OpT_move rfl rfl rfl rfl) ?_
  refine Tops_no rfl rfl rfl rfl rfl ?_
  refine Tops_step rfl (OpT_pickF rfl rfl rfl rfl rfl) ?_
  refine Tops_step rfl (OpT_move rfl rfl rfl rfl) ?_
  refine Tops_no rfl rfl rfl rfl rfl ?_
  refine Tops_no rfl rfl rfl rfl rfl ?_
  refine Tops_step rfl (OpT_pickF rfl rfl rfl rfl rfl) ?_
  refine Tops_step rfl (OpT_move rfl rfl rfl rfl) ?_
  refine Tops_no rfl rfl rfl rfl rfl ?_
  refine Tops_no rfl rfl rfl rfl rfl ?_
  refine Tops_step rfl (OpT_pickF rfl rfl rfl rfl rfl) ?_
  refine Tops_step rfl (OpT_move rfl rfl rfl rfl) ?_
  refine Tops_no rfl rfl rfl rfl rfl ?_
  refine Tops_no rfl rfl rfl rfl rfl ?_
  refine Tops_step rfl (OpT_pickF rfl rfl rfl rfl rfl) ?_
  refine Tops_step rfl (OpT_move rfl rfl rfl rfl) ?_
  refine Tops_no rfl rfl rfl rfl rfl ?_
  refine Tops_step rfl (OpT_pickF rfl rfl rfl rfl rfl) ?_
  refine Tops_step rfl (OpT_move rfl rfl rfl rfl) ?_
  refine Tops_no rfl rfl rfl rfl rfl ?_
  refine Tops_no rfl rfl rfl rfl rfl ?_
  refine Tops_step rfl (OpT_pickF rfl rfl rfl rfl rfl) ?_
  refine Tops_step rfl (OpT_move rfl rfl rfl rfl) ?_
  refine Tops_no rfl rfl rfl rfl rfl ?_
  refine Tops_no rfl rfl rfl rfl rfl ?_
  refine Tops_step rfl (OpT_pickF rfl rfl rfl rfl rfl) ?_
  refine Tops_step rfl (OpT_assign rfl rfl rfl rfl) ?_
  refine Tops_nil (Tk_wkS (fr' := [(0, some (vB false))]) (own' := []) (shr' := []) [0] [] [] rfl rfl rfl rfl ?_)
  obtain rfl := Option.some.inj h
  exact Tk_retV rfl rfl (resA (vs := [vB false]) rfl ⟨rfl, trivial⟩) [] [] rfl rfl rfl ⟨rfl, rfl, rfl⟩

set_option maxRecDepth 100000 in
set_option maxHeartbeats 4000000 in
theorem w_ref_Check23 {f : Frame} {vf1 : Value} {r : Int} (h : ref_Check23 f = some r) :
  Ctr Try.prog 8 #[.agg #[vU8 f.Dst.a0, vU8 f.Dst.a1, vU8 f.Dst.a2, vU8 f.Dst.a3, vU8 f.Dst.a4, vU8 f.Dst.a5, vU8 f.Src.a0, vU8 f.Src.a1, vU8 f.Src.a2, vU8 f.Src.a3, vU8 f.Src.a4, vU8 f.Src.a5, vI f.Vlan, vU16 f.Type_, vf1]] [] [Fact.sl u8S vf1 f.Data]
   (fun rv own shr => rv = vI r ∧ own = [] ∧ shr = []) := by
 unfold ref_Check23 at h
 refine Ctr.mk (args := [.agg #[vU8 f.Dst.a0, vU8 f.Dst.a1, vU8 f.Dst.a2, vU8 f.Dst.a3, vU8 f.Dst.a4, vU8 f.Dst.a5, vU8 f.Src.a0, vU8 f.Src.a1, vU8 f.Src.a2, vU8 f.Src.a3, vU8 f.Src.a4, vU8 f.Src.a5, vI f.Vlan, vU16 f.Type_, vf1]]) Try.func8 rfl rfl (fun R0 w0 B => ?_)
 refine Tk_seq (Tk_region (Tops_ex rfl (OpT_box rfl rfl rfl rfl) fun b1 => ?_))
 refine Tops_step rfl (OpT_assign rfl rfl rfl rfl) ?_
 refine Tops_nil (Tk_wkS (fr' := [(1, some (.pointer (some ⟨b1, 0, none⟩)))]) (own' := [some (cellsR b1 26 [vU8 f.Dst.a0, vU8 f.Dst.a1, vU8 f.Dst.a2, vU8 f.Dst.a3, vU8 f.Dst.a4, vU8 f.Dst.a5, vU8 f.Src.a0, vU8 f.Src.a1, vU8 f.Src.a2, vU8 f.Src.a3, vU8 f.Src.a4, vU8 f.Src.a5, vI f.Vlan, vU16 f.Type_, vf1])]) (shr' := [Fact.sl u8S vf1 f.Data]) [1] [0] [0] rfl rfl rfl rfl ?_)
 refine Tk_seq (Tk_seq (Tk_region (Tops_step rfl (OpT_fieldC rfl rfl rfl rfl fldF26x2) ?_)))
 refine Tops_step rfl (OpT_loadC rfl rfl rfl rfl tyF3 (i := 0) rfl rfl) ?_
 refine Tops_step rfl (OpT_bin rfl rfl rfl rfl rfl (bin_lss_i (a := f.Vlan) (b := ((-1) : Int)))) ?_
 refine Tops_step rfl (OpT_move rfl rfl rfl rfl) ?_
 rcases Bool.eq_false_or_eq_true (decide (f.Vlan < ((-1) : Int))) with hg1 | hg1
 ·replace h := br_t hg1 h
  refine Tops_no rfl rfl (congrArg (fun b => some (Value.bool b)) hg1) rfl rfl ?_
  refine Tops_no rfl rfl (congrArg (fun b => some (Value.bool b)) hg1) rfl rfl ?_
  refine Tops_no rfl rfl (congrArg (fun b => some (Value.bool b)) hg1) rfl rfl ?_
  refine Tops_step rfl (OpT_pickT rfl rfl rfl (congrArg (fun b => some (Value.bool b)) hg1) rfl) ?_
  refine Tops_step rfl (OpT_move rfl rfl rfl rfl) ?_
  refine Tops_no rfl rfl rfl rfl rfl ?_
  refine Tops_no rfl rfl rfl rfl rfl ?_
  refine Tops_no rfl rfl rfl rfl rfl ?_
  refine Tops_step rfl (OpT_pickT rfl rfl rfl rfl rfl) ?_
  refine Tops_step rfl (OpT_move rfl rfl rfl rfl) ?_
  refine Tops_no rfl rfl rfl rfl rfl ?_
  refine Tops_no rfl rfl rfl rfl rfl ?_
  refine Tops_no rfl rfl rfl rfl rfl ?_
  refine Tops_no rfl rfl rfl rfl rfl ?_
  refine Tops_step rfl (OpT_pickT rfl rfl rfl rfl rfl) ?_
  refine Tops_nil (Tk_wkS (fr' := [(21, some (vB true))]) (own' := []) (shr' := []) [21] [] [] rfl rfl rfl rfl ?_)
  refine Tk_condT rfl ?_
  refine Tk_seq (Tk_region (Tops_step rfl (OpT_assign rfl rfl rfl rfl) ?_))
  refine Tops_nil (Tk_wkS (fr' := [(2, some (vI (2 : Int)))]) (own' := []) (shr' := []) [2] [] [] rfl rfl rfl rfl ?_)
  obtain rfl := Option.some.inj h
  exact Tk_retV rfl rfl (resA (vs := [vI (2 : Int)]) rfl ⟨rfl, trivial⟩) [] [] rfl rfl rfl ⟨rfl, rfl, rfl⟩
 ·replace h := br_f hg1 h
  refine Tops_yes rfl rfl (congrArg (fun b => some (Value.bool b)) hg1) (OpT_fieldC rfl rfl rfl rfl fldF26x2) ?_
  rintro _ rfl
  refine Tops_yes rfl rfl (congrArg (fun b => some (Value.bool b)) hg1) (OpT_loadC rfl rfl rfl rfl tyF3 (i := 0) rfl rfl) ?_
  rintro _ rfl
  refine Tops_yes rfl rfl (congrArg (fun b => some (Value.bool b)) hg1) (OpT_bin rfl rfl rfl rfl rfl (bin_gtr_i (a := f.Vlan) (b := (4095 : Int)))) ?_
  rintro _ rfl
  refine Tops_step rfl (OpT_pickF rfl rfl rfl (congrArg (fun b => some (Value.bool b)) hg1) rfl) ?_
  refine Tops_step rfl (OpT_move rfl rfl rfl rfl) ?_
  rcases Bool.eq_false_or_eq_true (decide (f.Vlan > (4095 : Int))) with hg2 | hg2
  ·replace h := br_t hg2 h
   refine Tops_no rfl rfl (congrArg (fun b => some (Value.bool b)) hg2) rfl rfl ?_
   refine Tops_no rfl rfl (congrArg (fun b => some (Value.bool b)) hg2) rfl rfl ?_
   refine Tops_no rfl rfl (congrArg (fun b => some (Value.bool b)) hg2) rfl rfl ?_
   refine Tops_step rfl (OpT_pickT rfl rfl rfl (congrArg (fun b => some (Value.bool b)) hg2) rfl) ?_
   refine Tops_step rfl (OpT_move rfl rfl rfl rfl) ?_
   refine Tops_no rfl rfl rfl rfl rfl ?_
   refine Tops_no rfl rfl rfl rfl rfl ?_
   refine Tops_no rfl rfl rfl rfl rfl ?_
   refine Tops_no rfl rfl rfl rfl rfl ?_
   refine Tops_step rfl (OpT_pickT rfl rfl rfl rfl rfl) ?_
   refine Tops_nil (Tk_wkS (fr' := [(21, some (vB true))]) (own' := []) (shr' := []) [21] [] [] rfl rfl rfl rfl ?_)
   refine Tk_condT rfl ?_
   refine Tk_seq (Tk_region (Tops_step rfl (OpT_assign rfl rfl rfl rfl) ?_))
   refine Tops_nil (Tk_wkS (fr' := [(2, some (vI (2 : Int)))]) (own' := []) (shr' := []) [2] [] [] rfl rfl rfl rfl ?_)
   obtain rfl := Option.some.inj h
   exact Tk_retV rfl rfl (resA (vs := [vI (2 : Int)]) rfl ⟨rfl, trivial⟩) [] [] rfl rfl rfl ⟨rfl, rfl, rfl⟩
  ·replace h := br_f hg2 h
   refine Tops_yes rfl rfl (congrArg (fun b => some (Value.bool b)) hg2) (OpT_fieldC rfl rfl rfl rfl fldF26x3) ?_
   rintro _ rfl
   refine Tops_yes rfl rfl (congrArg (fun b => some (Value.bool b)) hg2) (OpT_loadC rfl rfl rfl rfl tyF23 (i := 0) rfl rfl) ?_
   rintro _ rfl
   refine Tops_yes rfl rfl (congrArg (fun b => some (Value.bool b)) hg2) (OpT_bin rfl rfl rfl rfl rfl (bin_eql_u16 (a := f.Type_) (b := (33024 : UInt16)))) ?_
   rintro _ rfl
   refine Tops_step rfl (OpT_pickF rfl rfl rfl (congrArg (fun b => some (Value.bool b)) hg2) rfl) ?_
   refine Tops_step rfl (OpT_move rfl rfl rfl rfl) ?_
   rcases Bool.eq_false_or_eq_true (f.Type_ == (33024 : UInt16)) with hg3 | hg3
   ·replace h := br_t hg3 h
    refine Tops_no rfl rfl (congrArg (fun b => some (Value.bool b)) hg3) rfl rfl ?_
    refine Tops_no rfl rfl (congrArg (fun b => some (Value.bool b)) hg3) rfl rfl ?_
    refine Tops_no rfl rfl (congrArg (fun b => some (Value.bool b)) hg3) rfl rfl ?_
    refine Tops_no rfl rfl (congrArg (fun b => some (Value.bool b)) hg3) rfl rfl ?_
    refine Tops_step rfl (OpT_pickT rfl rfl rfl (congrArg (fun b => some (Value.bool b)) hg3) rfl) ?_
    refine Tops_nil (Tk_wkS (fr' := [(21, some (vB true))]) (own' := []) (shr' := []) [21] [] [] rfl rfl rfl rfl ?_)
    refine Tk_condT rfl ?_
    refine Tk_seq (Tk_region (Tops_step rfl (OpT_assign rfl rfl rfl rfl) ?_))
    refine Tops_nil (Tk_wkS (fr' := [(2, some (vI (2 : Int)))]) (own' := []) (shr' := []) [2] [] [] rfl rfl rfl rfl ?_)
    obtain rfl := Option.some.inj h
    exact Tk_retV rfl rfl (resA (vs := [vI (2 : Int)]) rfl ⟨rfl, trivial⟩) [] [] rfl rfl rfl ⟨rfl, rfl, rfl⟩
   ·replace h := br_f hg3 h
    refine Tops_yes rfl rfl (congrArg (fun b => some (Value.bool b)) hg3) (OpT_fieldC rfl rfl rfl rfl fldF26x4) ?_
    rintro _ rfl
    refine Tops_yes rfl rfl (congrArg (fun b => some (Value.bool b)) hg3) (OpT_loadC rfl rfl rfl rfl tyF24 (i := 0) rfl rfl) ?_
    rintro _ rfl
    refine Tops_yes rfl rfl (congrArg (fun b => some (Value.bool b)) hg3) (OpT_lenS rfl rfl rfl rfl Try.underlying24 (i := 0) rfl) ?_
    rintro _ rfl
    refine Tops_yes rfl rfl (congrArg (fun b => some (Value.bool b)) hg3) (OpT_bin rfl rfl rfl rfl rfl (bin_gtr_i (a := len f.Data) (b := (1500 : Int)))) ?_
    rintro _ rfl
    refine Tops_step rfl (OpT_pickF rfl rfl rfl (congrArg (fun b => some (Value.bool b)) hg3) rfl) ?_
    refine Tops_nil (Tk_wkS (fr' := [(21, some (vB (decide ((len f.Data) > (1500 : Int)))))]) (own' := []) (shr' := []) [21] [] [] rfl rfl rfl rfl ?_)
    rcases Bool.eq_false_or_eq_true (decide ((len f.Data) > (1500 : Int))) with hg4 | hg4
    ·replace h := br_t hg4 h
     refine Tk_condT (congrArg (fun b => some (Value.bool b)) hg4) ?_
     refine Tk_seq (Tk_region (Tops_step rfl (OpT_assign rfl rfl rfl rfl) ?_))
     refine Tops_nil (Tk_wkS (fr' := [(2, some (vI (2 : Int)))]) (own' := []) (shr' := []) [2] [] [] rfl rfl rfl rfl ?_)
     obtain rfl := Option.some.inj h
     exact Tk_retV rfl rfl (resA (vs := [vI (2 : Int)]) rfl ⟨rfl, trivial⟩) [] [] rfl rfl rfl ⟨rfl, rfl, rfl⟩
    ·replace h := br_f hg4 h
     refine Tk_condF (congrArg (fun b => some (Value.bool b)) hg4) ?_
     refine Tk_skip (Tk_seq (Tk_region (Tops_step rfl (OpT_assign rfl rfl rfl rfl) ?_)))
     refine Tops_nil (Tk_wkS (fr' := [(2, some (vI (0 : Int)))]) (own' := []) (shr' := []) [2] [] [] rfl rfl rfl rfl ?_)
     obtain rfl := Option.some.inj h
     exact Tk_retV rfl rfl (resA (vs := [vI (0 : Int)]) rfl ⟨rfl, trivial⟩) [] [] rfl rfl rfl ⟨rfl, rfl, rfl⟩

set_option maxRecDepth 100000 in
set_option maxHeartbeats 4000000 in
theorem w_kit_Pick {np0 : Int} {m : Int} {r : Int} (h : kit_Pick np0 m = some r) :
  Ctr Try.prog 9 #[vI np0, vI m] [] []
   (fun rv own shr => rv = vI r ∧ own = [] ∧ shr = []) := by
 unfold kit_Pick at h
 refine Ctr.mk (args := [vI np0, vI m]) Try.func9 rfl rfl (fun R0 w0 B => ?_)
 refine Tk_seq (Tk_region (Tops_step rfl (OpT_assign rfl rfl rfl rfl) ?_))
 refine Tops_nil (Tk_wkS (fr' := [(0, some (vI np0)), (1, some (vI m))]) (own' := []) (shr' := []) [0, 1] [] [] rfl rfl rfl rfl ?_)
 refine Tk_seq (Tk_seq (Tk_region (Tops_step rfl (OpT_move rfl rfl rfl rfl) ?_)))
 refine Tops_step rfl (OpT_bin rfl rfl rfl rfl rfl (bin_lss_i (a := m) (b := (1 : Int)))) ?_
 refine Tops_nil (Tk_wkS (fr' := [(0, some (vI np0)), (1, some (vI m)), (6, some (vB (decide (m < (1 : Int)))))]) (own' := []) (shr' := []) [0, 1, 6] [] [] rfl rfl rfl rfl ?_)
 rcases Bool.eq_false_or_eq_true (decide (m < (1 : Int))) with hg1 | hg1
 ·replace h := br_t hg1 h
  refine Tk_condT (congrArg (fun b => some (Value.bool b)) hg1) ?_
  refine Tk_seq (Tk_region (Tops_step rfl (OpT_assign rfl rfl rfl rfl) ?_))
  refine Tops_nil (Tk_wkS (fr' := [(4, some (vI (0 : Int)))]) (own' := []) (shr' := []) [4] [] [] rfl rfl rfl rfl ?_)
  obtain rfl := Option.some.inj h
  exact Tk_retV rfl rfl (resA (vs := [vI (0 : Int)]) rfl ⟨rfl, trivial⟩) [] [] rfl rfl rfl ⟨rfl, rfl, rfl⟩
 ·replace h := br_f hg1 h
  refine Tk_condF (congrArg (fun b => some (Value.bool b)) hg1) ?_
  refine Tk_skip (Tk_seq (Tk_region (Tops_step rfl (OpT_move rfl rfl rfl rfl) ?_)))
  refine Tops_step rfl (OpT_move rfl rfl rfl rfl) ?_
  obtain ⟨hc1, h⟩ := chk_e h
  refine Tops_step rfl (OpT_bin rfl rfl rfl rfl rfl (bin_rem_i (a := np0) (b := m) (not_t hc1))) ?_
  refine Tops_step rfl (OpT_assign rfl rfl rfl rfl) ?_
  refine Tops_nil (Tk_wkS (fr' := [(0, some (vI (remi np0 m))), (1, some (vI m))]) (own' := []) (shr' := []) [0, 1] [] [] rfl rfl rfl rfl ?_)
  refine Tk_seq (Tk_seq (Tk_region (Tops_step rfl (OpT_move rfl rfl rfl rfl) ?_)))
  refine Tops_step rfl (OpT_bin rfl rfl rfl rfl rfl (bin_lss_i (a := remi np0 m) (b := (0 : Int)))) ?_
  refine Tops_nil (Tk_wkS (fr' := [(0, some (vI (remi np0 m))), (1, some (vI m)), (11, some (vB (decide ((remi np0 m) < (0 : Int)))))]) (own' := []) (shr' := []) [0, 1, 11] [] [] rfl rfl rfl rfl ?_)
  rcases Bool.eq_false_or_eq_true (decide ((remi np0 m) < (0 : Int))) with hg2 | hg2
  ·replace h := br_t hg2 h
   refine Tk_condT (congrArg (fun b => some (Value.bool b)) hg2) ?_
   refine Tk_region (Tops_step rfl (OpT_move rfl rfl rfl rfl) ?_)
   refine Tops_step rfl (OpT_move rfl rfl rfl rfl) ?_
   refine Tops_step rfl (OpT_bin rfl rfl rfl rfl rfl (bin_add_i (a := remi np0 m) (b := m))) ?_
   refine Tops_step rfl (OpT_assign rfl rfl rfl rfl) ?_
   refine Tops_nil (Tk_wkS (fr' := [(0, some (vI (wi ((remi np0 m) + m))))]) (own' := []) (shr' := []) [0] [] [] rfl rfl rfl rfl ?_)
   refine Tk_seq (Tk_region (Tops_step rfl (OpT_move rfl rfl rfl rfl) ?_))
   refine Tops_step rfl (OpT_assign rfl rfl rfl rfl) ?_
   refine Tops_nil (Tk_wkS (fr' := [(4, some (vI (wi ((remi np0 m) + m))))]) (own' := []) (shr' := []) [4] [] [] rfl rfl rfl rfl ?_)
   obtain rfl := Option.some.inj h
   exact Tk_retV rfl rfl (resA (vs := [vI (wi ((remi np0 m) + m))]) rfl ⟨rfl, trivial⟩) [] [] rfl rfl rfl ⟨rfl, rfl, rfl⟩
  ·replace h := br_f hg2 h
   refine Tk_condF (congrArg (fun b => some (Value.bool b)) hg2) ?_
   refine Tk_skip (Tk_seq (Tk_region (Tops_step rfl (OpT_move rfl rfl rfl rfl) ?_)))
   refine Tops_step rfl (OpT_assign rfl rfl rfl rfl) ?_
   refine Tops_nil (Tk_wkS (fr' := [(4, some (vI (remi np0 m)))]) (own' := []) (shr' := []) [4] [] [] rfl rfl rfl rfl ?_)
   obtain rfl := Option.some.inj h
   exact Tk_retV rfl rfl (resA (vs := [vI (remi np0 m)]) rfl ⟨rfl, trivial⟩) [] [] rfl rfl rfl ⟨rfl, rfl, rfl⟩
end Go.Proofs.Ytdaijemhibbgeaa
