/- The functions do what the plain words say: each is walked once. No statement of the seat is proved here; no condition. -/
import Derived.Test.YtihcimjfabdafaaMo1
import Derived.Test.YtihcimjfabdafaaFc
namespace Go.Proofs.Ytihcimjfabdafaa
attribute [local irreducible] sub
set_option maxRecDepth 100000 in
set_option maxHeartbeats 4000000 in
theorem w_law09ztwo  {r : (List Seg)} (h : law09ztwo = some r) :
  Ctr Try.prog 8 #[] [] []
   (fun rv own shr => ∃ (w1 : Value), rv = w1 ∧ own = [(rowS SegS w1 r)] ∧ shr = []) := by
 unfold law09ztwo at h
 refine Ctr.mk (args := []) Try.func8 rfl rfl (fun R0 w0 B => ?_)
 refine Tk_seq (Tk_region (Tops_step rfl (OpT_assign rfl rfl rfl rfl) ?_))
 refine Tops_nil (Tk_wkS (fr' := []) (own' := []) (shr' := []) [] [] [] rfl rfl rfl rfl ?_)
 refine Tk_seq (Tk_region (Tops_step rfl (OpT_build (v := .agg #[vU64 (100 : UInt64), vU32 (8 : UInt32), vB false]) rfl rfl rfl rfl (bldV (by kernel_rfl))) ?_))
 refine Tops_step rfl (OpT_build (v := .agg #[vU64 (200 : UInt64), vU32 (4 : UInt32), vB true]) rfl rfl rfl rfl (bldV (by kernel_rfl))) ?_
 refine Tops_ex rfl (OpT_buildSlice (S := SegS) (xs := [(Seg.mk (100 : UInt64) (8 : UInt32) false), (Seg.mk (200 : UInt64) (4 : UInt32) true)]) (css := [[vU64 (100 : UInt64), vU32 (8 : UInt32), vB false], [vU64 (200 : UInt64), vU32 (4 : UInt32), vB true]]) (cs := [vU64 (100 : UInt64), vU32 (8 : UInt32), vB false, vU64 (200 : UInt64), vU32 (4 : UInt32), vB true]) (e := 59) rfl rfl rfl rfl (bldF slF27 (by decide) (by kernel_rfl)) rfl rfl rfl rfl (rel_plainD (S := SegS) (xs := [(Seg.mk (100 : UInt64) (8 : UInt32) false), (Seg.mk (200 : UInt64) (4 : UInt32) true)]) (css := [[vU64 (100 : UInt64), vU32 (8 : UInt32), vB false], [vU64 (200 : UInt64), vU32 (4 : UInt32), vB true]]) rfl rfl)) fun v1 => ?_
 refine Tops_step rfl (OpT_assign rfl rfl rfl rfl) ?_
 refine Tops_nil (Tk_wkS (fr' := [(0, some (v1))]) (own' := [some (rowS SegS v1 [(Seg.mk (100 : UInt64) (8 : UInt32) false), (Seg.mk (200 : UInt64) (4 : UInt32) true)])]) (shr' := []) [0] [0] [] rfl rfl rfl rfl ?_)
 obtain rfl := Option.some.inj h
 exact Tk_retV rfl rfl (resA (vs := [v1]) rfl ⟨rfl, trivial⟩) [0] [] rfl rfl rfl ⟨v1, rfl, rfl, rfl⟩

set_option maxRecDepth 100000 in
set_option maxHeartbeats 4000000 in
theorem wb_seg_Check_1 {arg0 : Int} {arg1 : UInt64} {b_arg0 : Nat} {b_arg1 : Nat} {r : Int} (h : seg_Check_1 arg0 arg1 = some r) :
  BodyOk Try.prog 60 [.pointer (some ⟨b_arg0, 0, none⟩), .pointer (some ⟨b_arg1, 0, none⟩)] [(cellsR b_arg0 23 [vI arg0]), (cellsR b_arg1 34 [vU64 arg1])] []
   (fun rv own shr => rv = .tuple #[] ∧ own = [(cellsR b_arg0 23 [vI r]), (cellsR b_arg1 34 [vU64 arg1])] ∧ shr = []) := by
 unfold seg_Check_1 at h
 refine BodyOk.mk Try.func60 rfl rfl (fun R0 w0 B => ?_)
 refine Tk_seq (Tk_region (Tops_step rfl (OpT_loadC rfl rfl rfl rfl tyF23 (i := 0) rfl rfl) ?_))
 refine Tops_step rfl (OpT_bin rfl rfl rfl rfl rfl (bin_eql_i (a := arg0) (b := (0 : Int)))) ?_
 refine Tops_step rfl (OpT_move rfl rfl rfl rfl) ?_
 rcases Bool.eq_false_or_eq_true (arg0 == (0 : Int)) with hg1 | hg1
 ·replace h := br_t hg1 h
  refine Tops_yes rfl rfl (congrArg (fun b => some (Value.bool b)) hg1) (OpT_loadC rfl rfl rfl rfl tyF34 (i := 1) rfl rfl) ?_
  rintro _ rfl
  refine Tops_yes rfl rfl (congrArg (fun b => some (Value.bool b)) hg1) (OpT_bin rfl rfl rfl rfl rfl (bin_geq_u64 (a := arg1) (b := (4294967296 : UInt64)))) ?_
  rintro _ rfl
  refine Tops_step rfl (OpT_pickT rfl rfl rfl (congrArg (fun b => some (Value.bool b)) hg1) rfl) ?_
  refine Tops_nil (Tk_wkS (fr' := [(0, some (.pointer (some ⟨b_arg0, 0, none⟩))), (7, some (vB (decide (arg1 ≥ (4294967296 : UInt64)))))]) (own' := [some (cellsR b_arg0 23 [vI arg0]), some (cellsR b_arg1 34 [vU64 arg1])]) (shr' := []) [0, 7] [0, 1] [] rfl rfl rfl rfl ?_)
  rcases Bool.eq_false_or_eq_true (decide (arg1 ≥ (4294967296 : UInt64))) with hg2 | hg2
  ·replace h := br_t hg2 h
   refine Tk_condT (congrArg (fun b => some (Value.bool b)) hg2) ?_
   refine Tk_region (Tops_step rfl (OpT_storeC (cs' := [vI (2 : Int)]) rfl rfl rfl rfl tyF23 (i := 0) rfl rfl rfl (one_of rfl) rfl) ?_)
   refine Tops_nil ?_
   obtain rfl := Option.some.inj h
   exact Tk_endV rfl rfl (resA (vs := []) rfl trivial) [0, 1] [] rfl rfl rfl ⟨rfl, rfl, rfl⟩
  ·replace h := br_f hg2 h
   refine Tk_condF (congrArg (fun b => some (Value.bool b)) hg2) ?_
   refine Tk_skip ?_
   obtain rfl := Option.some.inj h
   exact Tk_endV rfl rfl (resA (vs := []) rfl trivial) [0, 1] [] rfl rfl rfl ⟨rfl, rfl, rfl⟩
 ·replace h := br_f hg1 h
  refine Tops_no rfl rfl (congrArg (fun b => some (Value.bool b)) hg1) rfl rfl ?_
  refine Tops_no rfl rfl (congrArg (fun b => some (Value.bool b)) hg1) rfl rfl ?_
  refine Tops_step rfl (OpT_pickF rfl rfl rfl (congrArg (fun b => some (Value.bool b)) hg1) rfl) ?_
  refine Tops_nil (Tk_wkS (fr' := [(0, some (.pointer (some ⟨b_arg0, 0, none⟩))), (7, some (vB false))]) (own' := [some (cellsR b_arg0 23 [vI arg0]), some (cellsR b_arg1 34 [vU64 arg1])]) (shr' := []) [0, 7] [0, 1] [] rfl rfl rfl rfl ?_)
  refine Tk_condF rfl ?_
  refine Tk_skip ?_
  obtain rfl := Option.some.inj h
  exact Tk_endV rfl rfl (resA (vs := []) rfl trivial) [0, 1] [] rfl rfl rfl ⟨rfl, rfl, rfl⟩

set_option maxRecDepth 100000 in
set_option maxHeartbeats 4000000 in
theorem w_seg_Check {l : List Seg} {vl1 : Value} {r : Int} (h : seg_Check l = some r) :
  Ctr Try.prog 46 #[vl1] [] [Fact.sl SegS vl1 l]
   (fun rv own shr => rv = vI r ∧ own = [] ∧ shr = []) := by
 unfold seg_Check at h
 refine Ctr.mkD (args := [vl1]) Try.func46 rfl rfl (fun R0 w0 B => ?_)
 refine Tk_seq (Tk_region (Tops_ex rfl (OpT_alloc rfl rfl rfl tyZ23) fun b1 => ?_))
 refine Tops_nil (Tk_seq (Tk_seq (Tk_region (Tops_step rfl (OpT_move rfl rfl rfl rfl) ?_))))
 refine Tops_step rfl (OpT_lenS rfl rfl rfl rfl Try.underlying27 (i := 0) rfl) ?_
 refine Tops_step rfl (OpT_bin rfl rfl rfl rfl rfl (bin_gtr_i (a := len l) (b := (64 : Int)))) ?_
 refine Tops_nil (Tk_wkS (fr' := [(0, some (vl1)), (2, some (.pointer (some ⟨b1, 0, none⟩))), (8, some (vB (decide ((len l) > (64 : Int)))))]) (own' := [some (cellsR b1 23 [vI (0 : Int)])]) (shr' := [Fact.sl SegS vl1 l]) [0, 2, 8] [0] [0] rfl rfl rfl rfl ?_)
 rcases Bool.eq_false_or_eq_true (decide ((len l) > (64 : Int))) with hg1 | hg1
 ·replace h := br_t hg1 h
  refine Tk_condT (congrArg (fun b => some (Value.bool b)) hg1) ?_
  refine Tk_seq (Tk_region (Tops_step rfl (OpT_storeC (cs' := [vI (3 : Int)]) rfl rfl rfl rfl tyF23 (i := 0) rfl rfl rfl (one_of rfl) rfl) ?_))
  refine Tops_nil (Tk_wkS (fr' := [(2, some (.pointer (some ⟨b1, 0, none⟩)))]) (own' := [some (cellsR b1 23 [vI (3 : Int)])]) (shr' := []) [2] [0] [] rfl rfl rfl rfl ?_)
  obtain rfl := Option.some.inj h
  refine Tk_retE rfl rfl ?_
  exact Tleave_mk (resA (vs := [vI (3 : Int)]) rfl ⟨⟨_, 0, _, _, _, rfl, rfl, .inr ⟨tyF23, rfl⟩⟩, trivial⟩) [] [] rfl rfl rfl ⟨rfl, rfl, rfl⟩
 ·replace h := br_f hg1 h
  refine Tk_condF (congrArg (fun b => some (Value.bool b)) hg1) ?_
  refine Tk_skip (Tk_seq (Tk_region (Tops_ex rfl (OpT_alloc rfl rfl rfl tyZ34) fun b2 => ?_)))
  refine Tops_step rfl (OpT_storeC (cs' := [vU64 (0 : UInt64)]) rfl rfl rfl rfl tyF34 (i := 1) rfl rfl rfl (one_of rfl) rfl) ?_
  refine Tops_nil (Tk_wkS (fr' := [(0, some (vl1)), (2, some (.pointer (some ⟨b1, 0, none⟩))), (3, some (.pointer (some ⟨b2, 0, none⟩)))]) (own' := [some (cellsR b1 23 [vI (0 : Int)]), some (cellsR b2 34 [vU64 (0 : UInt64)])]) (shr' := [Fact.sl SegS vl1 l]) [0, 2, 3] [0, 1] [0] rfl rfl rfl rfl ?_)
  refine Tk_seq (Tk_region (Tops_step rfl (OpT_makeFunc (vs := [.pointer (some ⟨b1, 0, none⟩), .pointer (some ⟨b2, 0, none⟩)]) rfl rfl rfl rfl) ?_))
  refine Tops_defer (f := 60) (cp := [.pointer (some ⟨b1, 0, none⟩), .pointer (some ⟨b2, 0, none⟩)]) rfl rfl rfl rfl ?_
  refine Tops_nil (Tk_wkS (fr' := [(0, some (vl1)), (2, some (.pointer (some ⟨b1, 0, none⟩))), (3, some (.pointer (some ⟨b2, 0, none⟩)))]) (own' := [some (cellsR b1 23 [vI (0 : Int)]), some (cellsR b2 34 [vU64 (0 : UInt64)])]) (shr' := [Fact.sl SegS vl1 l]) [0, 2, 3] [0, 1] [0] rfl rfl rfl rfl ?_)
  refine Tk_seq (Tk_seq (Tk_region (Tops_step rfl (OpT_move rfl rfl rfl rfl) ?_)))
  refine Tops_step rfl (OpT_lenS rfl rfl rfl rfl Try.underlying27 (i := 0) rfl) ?_
  refine Tops_step rfl (OpT_move rfl rfl rfl rfl) ?_
  refine Tops_nil (Tk_block (Tk_loopS (σ := Int × UInt64 × Int) [0, 2, 3, 10, 11, 12] [0, 1] [0] (fun s => ⟨[(0, some (vl1)), (2, some (.pointer (some ⟨b1, 0, none⟩))), (3, some (.pointer (some ⟨b2, 0, none⟩))), (10, some (vl1)), (11, some (vI (len l))), (12, some (vI s.2.2))], [some (cellsR b1 23 [vI s.1]), some (cellsR b2 34 [vU64 s.2.1])], [Fact.sl SegS vl1 l]⟩) (fun nf1 s => seg_CheckL1 l nf1 s.1 s.2.1 s.2.2 = some r) fuel ((0 : Int), (0 : UInt64), (0 : Int)) h rfl rfl rfl rfl rfl (fun s h => by cases h) ?_))
  rintro nf1 ⟨m1, m2, x1⟩ h
  replace h : seg_CheckL1B l (seg_CheckL1 l nf1) m1 m2 x1 = some r := h
  unfold seg_CheckL1B at h
  refine Tk_seq (Tk_region (Tops_step rfl (OpT_bin rfl rfl rfl rfl rfl (bin_lss_i (a := x1) (b := len l))) ?_))
  refine Tops_nil (Tk_seq ?_)
  rcases Bool.eq_false_or_eq_true (decide (x1 < (len l))) with hg2 | hg2
  ·replace h := br_t hg2 h
   refine Tk_condT (congrArg (fun b => some (Value.bool b)) hg2) ?_
   refine Tk_skip (Tk_seq (Tk_block (Tk_seq (Tk_region (Tops_step rfl (OpT_move rfl rfl rfl rfl) ?_)))))
   obtain ⟨s1, hx1, h⟩ := ob_e h
   refine Tops_ex rfl (OpT_idxS rfl rfl rfl rfl rfl slF27 (i := 0) rfl hx1) fun p1 => ?_
   refine Tops_step rfl (OpT_loadPA (vs := [vU64 s1.At, vU32 s1.Len, vB s1.Write]) rfl rfl rfl rfl tyF59 (i := 1) rfl rfl) ?_
   refine Tops_ex rfl (OpT_alloc rfl rfl rfl tyZ59) fun b3 => ?_
   refine Tops_step rfl (OpT_assign rfl rfl rfl rfl) ?_
   refine Tops_step rfl (OpT_storeC (cs' := [vU64 s1.At, vU32 s1.Len, vB s1.Write]) rfl rfl rfl rfl tyF59 (i := 2) rfl rfl rfl (one_of rfl) rfl) ?_
   refine Tops_nil (Tk_wkS (fr' := [(0, some (vl1)), (2, some (.pointer (some ⟨b1, 0, none⟩))), (3, some (.pointer (some ⟨b2, 0, none⟩))), (10, some (vl1)), (11, some (vI (len l))), (12, some (vI x1)), (5, some (.pointer (some ⟨b3, 0, none⟩))), (4, some (vI x1))]) (own' := [some (cellsR b1 23 [vI m1]), some (cellsR b2 34 [vU64 m2]), some (cellsR b3 59 [vU64 s1.At, vU32 s1.Len, vB s1.Write])]) (shr' := [Fact.sl SegS vl1 l]) [0, 2, 3, 10, 11, 12, 5, 4] [0, 1, 2] [0] rfl rfl rfl rfl ?_)
   refine Tk_seq (Tk_seq (Tk_region (Tops_step rfl (OpT_fieldC rfl rfl rfl rfl fldF59x1) ?_)))
   refine Tops_step rfl (OpT_loadC rfl rfl rfl rfl tyF35 (i := 2) rfl rfl) ?_
   refine Tops_step rfl (OpT_bin rfl rfl rfl rfl rfl (bin_lss_u32 (a := s1.Len) (b := (1 : UInt32)))) ?_
   refine Tops_step rfl (OpT_move rfl rfl rfl rfl) ?_
   rcases Bool.eq_false_or_eq_true (decide (s1.Len < (1 : UInt32))) with hg3 | hg3
   ·replace h := br_t hg3 h
    refine Tops_no rfl rfl (congrArg (fun b => some (Value.bool b)) hg3) rfl rfl ?_
    refine Tops_no rfl rfl (congrArg (fun b => some (Value.bool b)) hg3) rfl rfl ?_
    refine Tops_no rfl rfl (congrArg (fun b => some (Value.bool b)) hg3) rfl rfl ?_
    refine Tops_no rfl rfl (congrArg (fun b => some (Value.bool b)) hg3) rfl rfl ?_
    refine Tops_no rfl rfl (congrArg (fun b => some (Value.bool b)) hg3) rfl rfl ?_
    refine Tops_no rfl rfl (congrArg (fun b => some (Value.bool b)) hg3) rfl rfl ?_
    refine Tops_no rfl rfl (congrArg (fun b => some (Value.bool b)) hg3) rfl rfl ?_
    refine Tops_no rfl rfl (congrArg (fun b => some (Value.bool b)) hg3) rfl rfl ?_
    refine Tops_step rfl (OpT_pickT rfl rfl rfl (congrArg (fun b => some (Value.bool b)) hg3) rfl) ?_
    refine Tops_step rfl (OpT_move rfl rfl rfl rfl) ?_
    refine Tops_no rfl rfl rfl rfl rfl ?_
    refine Tops_no rfl rfl rfl rfl rfl ?_
    refine Tops_no rfl rfl rfl rfl rfl ?_
    refine Tops_noU rfl rfl rfl rfl rfl ?_
    refine Tops_noU rfl rfl rfl rfl rfl ?_
    refine Tops_noU rfl rfl rfl rfl rfl ?_
    refine Tops_noU rfl rfl rfl rfl rfl ?_
    refine Tops_noU rfl rfl rfl rfl rfl ?_
    refine Tops_noU rfl rfl rfl rfl rfl ?_
    refine Tops_no rfl rfl rfl rfl rfl ?_
    refine Tops_no rfl rfl rfl rfl rfl ?_
    refine Tops_noU rfl rfl rfl rfl rfl ?_
    refine Tops_noU rfl rfl rfl rfl rfl ?_
    refine Tops_noU rfl rfl rfl rfl rfl ?_
    refine Tops_no rfl rfl rfl rfl rfl ?_
    refine Tops_step rfl (OpT_pickT rfl rfl rfl rfl rfl) ?_
    refine Tops_nil (Tk_wkS (fr' := [(0, some (vl1)), (2, some (.pointer (some ⟨b1, 0, none⟩))), (3, some (.pointer (some ⟨b2, 0, none⟩))), (10, some (vl1)), (11, some (vI (len l))), (12, some (vI x1)), (5, some (.pointer (some ⟨b3, 0, none⟩))), (46, some (vB true))]) (own' := [some (cellsR b1 23 [vI m1]), some (cellsR b2 34 [vU64 m2]), some (cellsR b3 59 [vU64 s1.At, vU32 s1.Len, vB s1.Write])]) (shr' := [Fact.sl SegS vl1 l]) [0, 2, 3, 10, 11, 12, 5, 46] [0, 1, 2] [0] rfl rfl rfl rfl ?_)
    refine Tk_condT rfl ?_
    refine Tk_seq (Tk_region (Tops_step rfl (OpT_storeC (cs' := [vI (2 : Int)]) rfl rfl rfl rfl tyF23 (i := 0) rfl rfl rfl (one_of rfl) rfl) ?_))
    refine Tops_nil (Tk_wkS (fr' := [(2, some (.pointer (some ⟨b1, 0, none⟩)))]) (own' := [some (cellsR b1 23 [vI (2 : Int)]), some (cellsR b2 34 [vU64 m2])]) (shr' := []) [2] [0, 1] [] rfl rfl rfl rfl ?_)
    obtain ⟨check1, hx2, h⟩ := ob_e h
    obtain rfl := Option.some.inj h
    refine Tk_retD rfl (f := 60) (cp := [.pointer (some ⟨b1, 0, none⟩), .pointer (some ⟨b2, 0, none⟩)]) rfl callee60 (wb_seg_Check_1 hx2).ctrD [0, 1] [] rfl rfl rfl ?_
    rintro _ _ _ ⟨rfl, rfl, rfl⟩
    exact Tleave_mk (resA (vs := [vI check1]) rfl ⟨⟨_, 2, _, _, _, rfl, rfl, .inr ⟨tyF23, rfl⟩⟩, trivial⟩) [] [] rfl rfl rfl ⟨rfl, rfl, rfl⟩
   ·replace h := br_f hg3 h
    refine Tops_yes rfl rfl (congrArg (fun b => some (Value.bool b)) hg3) (OpT_fieldC rfl rfl rfl rfl fldF59x1) ?_
    rintro _ rfl
    refine Tops_yes rfl rfl (congrArg (fun b => some (Value.bool b)) hg3) (OpT_loadC rfl rfl rfl rfl tyF35 (i := 2) rfl rfl) ?_
    rintro _ rfl
    refine Tops_yes rfl rfl (congrArg (fun b => some (Value.bool b)) hg3) (OpT_cnv rfl rfl rfl rfl (cnv_u32_u64 (n := s1.Len) Try.underlying35 Try.underlying34)) ?_
    rintro _ rfl
    refine Tops_yes rfl rfl (congrArg (fun b => some (Value.bool b)) hg3) (OpT_bin rfl rfl rfl rfl rfl (bin_sub_u64 (a := s1.Len.toUInt64) (b := (1 : UInt64)))) ?_
    rintro _ rfl
    refine Tops_yes rfl rfl (congrArg (fun b => some (Value.bool b)) hg3) (OpT_fieldC rfl rfl rfl rfl fldF59x0) ?_
    rintro _ rfl
    refine Tops_yes rfl rfl (congrArg (fun b => some (Value.bool b)) hg3) (OpT_loadC rfl rfl rfl rfl tyF34 (i := 2) rfl rfl) ?_
    rintro _ rfl
    refine Tops_yes rfl rfl (congrArg (fun b => some (Value.bool b)) hg3) (OpT_bin rfl rfl rfl rfl rfl (bin_sub_u64 (a := (18446744073709551615 : UInt64)) (b := s1.At))) ?_
    rintro _ rfl
    refine Tops_yes rfl rfl (congrArg (fun b => some (Value.bool b)) hg3) (OpT_bin rfl rfl rfl rfl rfl (bin_gtr_u64 (a := s1.Len.toUInt64 - (1 : UInt64)) (b := (18446744073709551615 : UInt64) - s1.At))) ?_
    rintro _ rfl
    refine Tops_step rfl (OpT_pickF rfl rfl rfl (congrArg (fun b => some (Value.bool b)) hg3) rfl) ?_
    refine Tops_step rfl (OpT_move rfl rfl rfl rfl) ?_
    rcases Bool.eq_false_or_eq_true (decide ((s1.Len.toUInt64 - (1 : UInt64)) > ((18446744073709551615 : UInt64) - s1.At))) with hg4 | hg4
    ·replace h := br_t hg4 h
     refine Tops_no rfl rfl (congrArg (fun b => some (Value.bool b)) hg4) rfl rfl ?_
     refine Tops_no rfl rfl (congrArg (fun b => some (Value.bool b)) hg4) rfl rfl ?_
     refine Tops_no rfl rfl (congrArg (fun b => some (Value.bool b)) hg4) rfl rfl ?_
     refine Tops_noU rfl rfl rfl rfl rfl ?_
     refine Tops_noU rfl rfl rfl rfl rfl ?_
     refine Tops_noU rfl rfl rfl rfl rfl ?_
     refine Tops_noU rfl rfl rfl rfl rfl ?_
     refine Tops_noU rfl rfl rfl rfl rfl ?_
     refine Tops_noU rfl rfl rfl rfl rfl ?_
     refine Tops_no rfl rfl (congrArg (fun b => some (Value.bool b)) hg4) rfl rfl ?_
     refine Tops_no rfl rfl (congrArg (fun b => some (Value.bool b)) hg4) rfl rfl ?_
     refine Tops_noU rfl rfl rfl rfl rfl ?_
     refine Tops_noU rfl rfl rfl rfl rfl ?_
     refine Tops_noU rfl rfl rfl rfl rfl ?_
     refine Tops_no rfl rfl (congrArg (fun b => some (Value.bool b)) hg4) rfl rfl ?_
     refine Tops_step rfl (OpT_pickT rfl rfl rfl (congrArg (fun b => some (Value.bool b)) hg4) rfl) ?_
     refine Tops_nil (Tk_wkS (fr' := [(0, some (vl1)), (2, some (.pointer (some ⟨b1, 0, none⟩))), (3, some (.pointer (some ⟨b2, 0, none⟩))), (10, some (vl1)), (11, some (vI (len l))), (12, some (vI x1)), (5, some (.pointer (some ⟨b3, 0, none⟩))), (46, some (vB true))]) (own' := [some (cellsR b1 23 [vI m1]), some (cellsR b2 34 [vU64 m2]), some (cellsR b3 59 [vU64 s1.At, vU32 s1.Len, vB s1.Write])]) (shr' := [Fact.sl SegS vl1 l]) [0, 2, 3, 10, 11, 12, 5, 46] [0, 1, 2] [0] rfl rfl rfl rfl ?_)
     refine Tk_condT rfl ?_
     refine Tk_seq (Tk_region (Tops_step rfl (OpT_storeC (cs' := [vI (2 : Int)]) rfl rfl rfl rfl tyF23 (i := 0) rfl rfl rfl (one_of rfl) rfl) ?_))
     refine Tops_nil (Tk_wkS (fr' := [(2, some (.pointer (some ⟨b1, 0, none⟩)))]) (own' := [some (cellsR b1 23 [vI (2 : Int)]), some (cellsR b2 34 [vU64 m2])]) (shr' := []) [2] [0, 1] [] rfl rfl rfl rfl ?_)
     obtain ⟨check2, hx3, h⟩ := ob_e h
     obtain rfl := Option.some.inj h
     refine Tk_retD rfl (f := 60) (cp := [.pointer (some ⟨b1, 0, none⟩), .pointer (some ⟨b2, 0, none⟩)]) rfl callee60 (wb_seg_Check_1 hx3).ctrD [0, 1] [] rfl rfl rfl ?_
     rintro _ _ _ ⟨rfl, rfl, rfl⟩
     exact Tleave_mk (resA (vs := [vI check2]) rfl ⟨⟨_, 2, _, _, _, rfl, rfl, .inr ⟨tyF23, rfl⟩⟩, trivial⟩) [] [] rfl rfl rfl ⟨rfl, rfl, rfl⟩
    ·replace h := br_f hg4 h
     refine Tops_yes rfl rfl (congrArg (fun b => some (Value.bool b)) hg4) (OpT_move rfl rfl rfl rfl) ?_
     rintro _ rfl
     refine Tops_yes rfl rfl (congrArg (fun b => some (Value.bool b)) hg4) (OpT_bin rfl rfl rfl rfl rfl (bin_gtr_i (a := x1) (b := (0 : Int)))) ?_
     rintro _ rfl
     refine Tops_yes rfl rfl (congrArg (fun b => some (Value.bool b)) hg4) (OpT_move rfl rfl rfl rfl) ?_
     rintro _ rfl
     rcases Bool.eq_false_or_eq_true (decide (x1 > (0 : Int))) with hg5 | hg5
     ·replace h := br_t hg5 h
      refine Tops_yes rfl rfl (congrArg (fun b => some (Value.bool b)) hg5) (OpT_move rfl rfl rfl rfl) ?_
      rintro _ rfl
      refine Tops_yes rfl rfl (congrArg (fun b => some (Value.bool b)) hg5) (OpT_move rfl rfl rfl rfl) ?_
      rintro _ rfl
      refine Tops_yes rfl rfl (congrArg (fun b => some (Value.bool b)) hg5) (OpT_bin rfl rfl rfl rfl rfl (bin_sub_i (a := x1) (b := (1 : Int)))) ?_
      rintro _ rfl
      obtain ⟨s2, hx4, h⟩ := ob_e h
      refine Tops_yes rfl rfl (congrArg (fun b => some (Value.bool b)) hg5) (OpT_idxS rfl rfl rfl rfl rfl slF27 (i := 0) rfl hx4) ?_
      rintro _ ⟨p2, rfl⟩
      refine Tops_yes rfl rfl (congrArg (fun b => some (Value.bool b)) hg5) (OpT_fieldP (S' := bS) (y := s2.Write) rfl rfl rfl rfl fldF59x2 (i := 1) rfl (by intro h cs hr; subst hr; rfl)) ?_
      rintro _ ⟨p3, rfl⟩
      refine Tops_yes rfl rfl (congrArg (fun b => some (Value.bool b)) hg5) (OpT_loadP rfl rfl rfl rfl tyF4 (i := 2) rfl rfl) ?_
      rintro _ rfl
      refine Tops_yes rfl rfl (congrArg (fun b => some (Value.bool b)) hg4) (OpT_pickT rfl rfl rfl (congrArg (fun b => some (Value.bool b)) hg5) rfl) ?_
      rintro _ rfl
      refine Tops_yes rfl rfl (congrArg (fun b => some (Value.bool b)) hg4) (OpT_move rfl rfl rfl rfl) ?_
      rintro _ rfl
      rcases Bool.eq_false_or_eq_true (s2.Write) with hg6 | hg6
      ·replace h := br_t hg6 h
       refine Tops_yes rfl rfl (congrArg (fun b => some (Value.bool b)) hg6) (OpT_fieldC rfl rfl rfl rfl fldF59x2) ?_
       rintro _ rfl
       refine Tops_yes rfl rfl (congrArg (fun b => some (Value.bool b)) hg6) (OpT_loadC rfl rfl rfl rfl tyF4 (i := 2) rfl rfl) ?_
       rintro _ rfl
       refine Tops_yes rfl rfl (congrArg (fun b => some (Value.bool b)) hg6) (OpT_not rfl rfl rfl rfl) ?_
       rintro _ rfl
       refine Tops_yes rfl rfl (congrArg (fun b => some (Value.bool b)) hg4) (OpT_pickT rfl rfl rfl (congrArg (fun b => some (Value.bool b)) hg6) rfl) ?_
       rintro _ rfl
       refine Tops_step rfl (OpT_pickF rfl rfl rfl (congrArg (fun b => some (Value.bool b)) hg4) rfl) ?_
       refine Tops_nil (Tk_wkS (fr' := [(0, some (vl1)), (2, some (.pointer (some ⟨b1, 0, none⟩))), (3, some (.pointer (some ⟨b2, 0, none⟩))), (10, some (vl1)), (11, some (vI (len l))), (12, some (vI x1)), (5, some (.pointer (some ⟨b3, 0, none⟩))), (46, some (vB (!s1.Write)))]) (own' := [some (cellsR b1 23 [vI m1]), some (cellsR b2 34 [vU64 m2]), some (cellsR b3 59 [vU64 s1.At, vU32 s1.Len, vB s1.Write])]) (shr' := [Fact.sl SegS vl1 l]) [0, 2, 3, 10, 11, 12, 5, 46] [0, 1, 2] [0] rfl rfl rfl rfl ?_)
       rcases Bool.eq_false_or_eq_true ((!s1.Write)) with hg7 | hg7
       ·replace h := br_t hg7 h
        refine Tk_condT (congrArg (fun b => some (Value.bool b)) hg7) ?_
        refine Tk_seq (Tk_region (Tops_step rfl (OpT_storeC (cs' := [vI (2 : Int)]) rfl rfl rfl rfl tyF23 (i := 0) rfl rfl rfl (one_of rfl) rfl) ?_))
        refine Tops_nil (Tk_wkS (fr' := [(2, some (.pointer (some ⟨b1, 0, none⟩)))]) (own' := [some (cellsR b1 23 [vI (2 : Int)]), some (cellsR b2 34 [vU64 m2])]) (shr' := []) [2] [0, 1] [] rfl rfl rfl rfl ?_)
        obtain ⟨check3, hx5, h⟩ := ob_e h
        obtain rfl := Option.some.inj h
        refine Tk_retD rfl (f := 60) (cp := [.pointer (some ⟨b1, 0, none⟩), .pointer (some ⟨b2, 0, none⟩)]) rfl callee60 (wb_seg_Check_1 hx5).ctrD [0, 1] [] rfl rfl rfl ?_
        rintro _ _ _ ⟨rfl, rfl, rfl⟩
        exact Tleave_mk (resA (vs := [vI check3]) rfl ⟨⟨_, 2, _, _, _, rfl, rfl, .inr ⟨tyF23, rfl⟩⟩, trivial⟩) [] [] rfl rfl rfl ⟨rfl, rfl, rfl⟩
       ·replace h := br_f hg7 h
        refine Tk_condF (congrArg (fun b => some (Value.bool b)) hg7) ?_
        refine Tk_skip (Tk_region (Tops_step rfl (OpT_loadC rfl rfl rfl rfl tyF34 (i := 1) rfl rfl) ?_))
        refine Tops_step rfl (OpT_fieldC rfl rfl rfl rfl fldF59x1) ?_
        refine Tops_step rfl (OpT_loadC rfl rfl rfl rfl tyF35 (i := 2) rfl rfl) ?_
        refine Tops_step rfl (OpT_cnv rfl rfl rfl rfl (cnv_u32_u64 (n := s1.Len) Try.underlying35 Try.underlying34)) ?_
        refine Tops_step rfl (OpT_bin rfl rfl rfl rfl rfl (bin_add_u64 (a := m2) (b := s1.Len.toUInt64))) ?_
        refine Tops_step rfl (OpT_storeC (cs' := [vU64 (m2 + s1.Len.toUInt64)]) rfl rfl rfl rfl tyF34 (i := 1) rfl rfl rfl (one_of rfl) rfl) ?_
        refine Tops_nil (Tk_wkS (fr' := [(0, some (vl1)), (2, some (.pointer (some ⟨b1, 0, none⟩))), (3, some (.pointer (some ⟨b2, 0, none⟩))), (10, some (vl1)), (11, some (vI (len l))), (12, some (vI x1))]) (own' := [some (cellsR b1 23 [vI m1]), some (cellsR b2 34 [vU64 (m2 + s1.Len.toUInt64)])]) (shr' := [Fact.sl SegS vl1 l]) [0, 2, 3, 10, 11, 12] [0, 1] [0] rfl rfl rfl rfl ?_)
        refine Tk_blk (Tk_region (Tops_step rfl (OpT_bin rfl rfl rfl rfl rfl (bin_add_i (a := x1) (b := (1 : Int)))) ?_))
        refine Tops_step rfl (OpT_move rfl rfl rfl rfl) ?_
        refine Tops_nil (Tk_wkS (fr' := [(0, some (vl1)), (2, some (.pointer (some ⟨b1, 0, none⟩))), (3, some (.pointer (some ⟨b2, 0, none⟩))), (10, some (vl1)), (11, some (vI (len l))), (12, some (vI (wi (x1 + (1 : Int)))))]) (own' := [some (cellsR b1 23 [vI m1]), some (cellsR b2 34 [vU64 (m2 + s1.Len.toUInt64)])]) (shr' := [Fact.sl SegS vl1 l]) [0, 2, 3, 10, 11, 12] [0, 1] [0] rfl rfl rfl rfl ?_)
        exact Tk_backS (m1, m2 + s1.Len.toUInt64, wi (x1 + (1 : Int))) h [0, 2, 3, 10, 11, 12] [0, 1] [0] rfl rfl rfl rfl rfl
      ·replace h := br_f hg6 h
       refine Tops_no rfl rfl (congrArg (fun b => some (Value.bool b)) hg6) rfl rfl ?_
       refine Tops_no rfl rfl (congrArg (fun b => some (Value.bool b)) hg6) rfl rfl ?_
       refine Tops_no rfl rfl (congrArg (fun b => some (Value.bool b)) hg6) rfl rfl ?_
       refine Tops_yes rfl rfl (congrArg (fun b => some (Value.bool b)) hg4) (OpT_pickF rfl rfl rfl (congrArg (fun b => some (Value.bool b)) hg6) rfl) ?_
       rintro _ rfl
       refine Tops_step rfl (OpT_pickF rfl rfl rfl (congrArg (fun b => some (Value.bool b)) hg4) rfl) ?_
       refine Tops_nil (Tk_wkS (fr' := [(0, some (vl1)), (2, some (.pointer (some ⟨b1, 0, none⟩))), (3, some (.pointer (some ⟨b2, 0, none⟩))), (10, some (vl1)), (11, some (vI (len l))), (12, some (vI x1)), (5, some (.pointer (some ⟨b3, 0, none⟩))), (46, some (vB false))]) (own' := [some (cellsR b1 23 [vI m1]), some (cellsR b2 34 [vU64 m2]), some (cellsR b3 59 [vU64 s1.At, vU32 s1.Len, vB s1.Write])]) (shr' := [Fact.sl SegS vl1 l]) [0, 2, 3, 10, 11, 12, 5, 46] [0, 1, 2] [0] rfl rfl rfl rfl ?_)
       refine Tk_condF rfl ?_
       refine Tk_skip (Tk_region (Tops_step rfl (OpT_loadC rfl rfl rfl rfl tyF34 (i := 1) rfl rfl) ?_))
       refine Tops_step rfl (OpT_fieldC rfl rfl rfl rfl fldF59x1) ?_
       refine Tops_step rfl (OpT_loadC rfl rfl rfl rfl tyF35 (i := 2) rfl rfl) ?_
       refine Tops_step rfl (OpT_cnv rfl rfl rfl rfl (cnv_u32_u64 (n := s1.Len) Try.underlying35 Try.underlying34)) ?_
       refine Tops_step rfl (OpT_bin rfl rfl rfl rfl rfl (bin_add_u64 (a := m2) (b := s1.Len.toUInt64))) ?_
       refine Tops_step rfl (OpT_storeC (cs' := [vU64 (m2 + s1.Len.toUInt64)]) rfl rfl rfl rfl tyF34 (i := 1) rfl rfl rfl (one_of rfl) rfl) ?_
       refine Tops_nil (Tk_wkS (fr' := [(0, some (vl1)), (2, some (.pointer (some ⟨b1, 0, none⟩))), (3, some (.pointer (some ⟨b2, 0, none⟩))), (10, some (vl1)), (11, some (vI (len l))), (12, some (vI x1))]) (own' := [some (cellsR b1 23 [vI m1]), some (cellsR b2 34 [vU64 (m2 + s1.Len.toUInt64)])]) (shr' := [Fact.sl SegS vl1 l]) [0, 2, 3, 10, 11, 12] [0, 1] [0] rfl rfl rfl rfl ?_)
       refine Tk_blk (Tk_region (Tops_step rfl (OpT_bin rfl rfl rfl rfl rfl (bin_add_i (a := x1) (b := (1 : Int)))) ?_))
       refine Tops_step rfl (OpT_move rfl rfl rfl rfl) ?_
       refine Tops_nil (Tk_wkS (fr' := [(0, some (vl1)), (2, some (.pointer (some ⟨b1, 0, none⟩))), (3, some (.pointer (some ⟨b2, 0, none⟩))), (10, some (vl1)), (11, some (vI (len l))), (12, some (vI (wi (x1 + (1 : Int)))))]) (own' := [some (cellsR b1 23 [vI m1]), some (cellsR b2 34 [vU64 (m2 + s1.Len.toUInt64)])]) (shr' := [Fact.sl SegS vl1 l]) [0, 2, 3, 10, 11, 12] [0, 1] [0] rfl rfl rfl rfl ?_)
       exact Tk_backS (m1, m2 + s1.Len.toUInt64, wi (x1 + (1 : Int))) h [0, 2, 3, 10, 11, 12] [0, 1] [0] rfl rfl rfl rfl rfl
     ·replace h := br_f hg5 h
      refine Tops_no rfl rfl (congrArg (fun b => some (Value.bool b)) hg5) rfl rfl ?_
      refine Tops_no rfl rfl (congrArg (fun b => some (Value.bool b)) hg5) rfl rfl ?_
      refine Tops_no rfl rfl (congrArg (fun b => some (Value.bool b)) hg5) rfl rfl ?_
      refine Tops_no rfl rfl (congrArg (fun b => some (Value.bool b)) hg5) rfl rfl ?_
      refine Tops_no rfl rfl (congrArg (fun b => some (Value.bool b)) hg5) rfl rfl ?_
      refine Tops_no rfl rfl (congrArg (fun b => some (Value.bool b)) hg5) rfl rfl ?_
      refine Tops_yes rfl rfl (congrArg (fun b => some (Value.bool b)) hg4) (OpT_pickF rfl rfl rfl (congrArg (fun b => some (Value.bool b)) hg5) rfl) ?_
      rintro _ rfl
      refine Tops_yes rfl rfl (congrArg (fun b => some (Value.bool b)) hg4) (OpT_move rfl rfl rfl rfl) ?_
      rintro _ rfl
      refine Tops_no rfl rfl rfl rfl rfl ?_
      refine Tops_no rfl rfl rfl rfl rfl ?_
      refine Tops_no rfl rfl rfl rfl rfl ?_
      refine Tops_yes rfl rfl (congrArg (fun b => some (Value.bool b)) hg4) (OpT_pickF rfl rfl rfl rfl rfl) ?_
      rintro _ rfl
      refine Tops_step rfl (OpT_pickF rfl rfl rfl (congrArg (fun b => some (Value.bool b)) hg4) rfl) ?_
      refine Tops_nil (Tk_wkS (fr' := [(0, some (vl1)), (2, some (.pointer (some ⟨b1, 0, none⟩))), (3, some (.pointer (some ⟨b2, 0, none⟩))), (10, some (vl1)), (11, some (vI (len l))), (12, some (vI x1)), (5, some (.pointer (some ⟨b3, 0, none⟩))), (46, some (vB false))]) (own' := [some (cellsR b1 23 [vI m1]), some (cellsR b2 34 [vU64 m2]), some (cellsR b3 59 [vU64 s1.At, vU32 s1.Len, vB s1.Write])]) (shr' := [Fact.sl SegS vl1 l]) [0, 2, 3, 10, 11, 12, 5, 46] [0, 1, 2] [0] rfl rfl rfl rfl ?_)
      refine Tk_condF rfl ?_
      refine Tk_skip (Tk_region (Tops_step rfl (OpT_loadC rfl rfl rfl rfl tyF34 (i := 1) rfl rfl) ?_))
      refine Tops_step rfl (OpT_fieldC rfl rfl rfl rfl fldF59x1) ?_
      refine Tops_step rfl (OpT_loadC rfl rfl rfl rfl tyF35 (i := 2) rfl rfl) ?_
      refine Tops_step rfl (OpT_cnv rfl rfl rfl rfl (cnv_u32_u64 (n := s1.Len) Try.underlying35 Try.underlying34)) ?_
      refine Tops_step rfl (OpT_bin rfl rfl rfl rfl rfl (bin_add_u64 (a := m2) (b := s1.Len.toUInt64))) ?_
      refine Tops_step rfl (OpT_storeC (cs' := [vU64 (m2 + s1.Len.toUInt64)]) rfl rfl rfl rfl tyF34 (i := 1) rfl rfl rfl (one_of rfl) rfl) ?_
      refine Tops_nil (Tk_wkS (fr' := [(0, some (vl1)), (2, some (.pointer (some ⟨b1, 0, none⟩))), (3, some (.pointer (some ⟨b2, 0, none⟩))), (10, some (vl1)), (11, some (vI (len l))), (12, some (vI x1))]) (own' := [some (cellsR b1 23 [vI m1]), some (cellsR b2 34 [vU64 (m2 + s1.Len.toUInt64)])]) (shr' := [Fact.sl SegS vl1 l]) [0, 2, 3, 10, 11, 12] [0, 1] [0] rfl rfl rfl rfl ?_)
      refine Tk_blk (Tk_region (Tops_step rfl (OpT_bin rfl rfl rfl rfl rfl (bin_add_i (a := x1) (b := (1 : Int)))) ?_))
      refine Tops_step rfl (OpT_move rfl rfl rfl rfl) ?_
      refine Tops_nil (Tk_wkS (fr' := [(0, some (vl1)), (2, some (.pointer (some ⟨b1, 0, none⟩))), (3, some (.pointer (some ⟨b2, 0, none⟩))), (10, some (vl1)), (11, some (vI (len l))), (12, some (vI (wi (x1 + (1 : Int)))))]) (own' := [some (cellsR b1 23 [vI m1]), some (cellsR b2 34 [vU64 (m2 + s1.Len.toUInt64)])]) (shr' := [Fact.sl SegS vl1 l]) [0, 2, 3, 10, 11, 12] [0, 1] [0] rfl rfl rfl rfl ?_)
      exact Tk_backS (m1, m2 + s1.Len.toUInt64, wi (x1 + (1 : Int))) h [0, 2, 3, 10, 11, 12] [0, 1] [0] rfl rfl rfl rfl rfl
  ·replace h := br_f hg2 h
   refine Tk_condF (congrArg (fun b => some (Value.bool b)) hg2) ?_
   refine Tk_exit _ rfl ?_
   refine Tk_seq (Tk_region (Tops_step rfl (OpT_storeC (cs' := [vI (0 : Int)]) rfl rfl rfl rfl tyF23 (i := 0) rfl rfl rfl (one_of rfl) rfl) ?_))
   refine Tops_nil (Tk_wkS (fr' := [(2, some (.pointer (some ⟨b1, 0, none⟩)))]) (own' := [some (cellsR b1 23 [vI (0 : Int)]), some (cellsR b2 34 [vU64 m2])]) (shr' := []) [2] [0, 1] [] rfl rfl rfl rfl ?_)
   obtain ⟨check4, hx6, h⟩ := ob_e h
   obtain rfl := Option.some.inj h
   refine Tk_retD rfl (f := 60) (cp := [.pointer (some ⟨b1, 0, none⟩), .pointer (some ⟨b2, 0, none⟩)]) rfl callee60 (wb_seg_Check_1 hx6).ctrD [0, 1] [] rfl rfl rfl ?_
   rintro _ _ _ ⟨rfl, rfl, rfl⟩
   exact Tleave_mk (resA (vs := [vI check4]) rfl ⟨⟨_, 2, _, _, _, rfl, rfl, .inr ⟨tyF23, rfl⟩⟩, trivial⟩) [] [] rfl rfl rfl ⟨rfl, rfl, rfl⟩

set_option maxRecDepth 100000 in
set_option maxHeartbeats 4000000 in
theorem w_build_wrong_1 {arg0 : Bool} {parg01 : Value} {r : Int} (h : build_wrong_1 arg0 = some r) :
  Ctr Try.prog 57 #[parg01] [] [Fact.pt bS parg01 arg0]
   (fun rv own shr => rv = vI r ∧ own = [] ∧ shr = []) := by
 unfold build_wrong_1 at h
 refine Ctr.mk (args := [parg01]) Try.func57 rfl rfl (fun R0 w0 B => ?_)
 refine Tk_seq (Tk_region (Tops_step rfl (OpT_assign rfl rfl rfl rfl) ?_))
 refine Tops_nil (Tk_wkS (fr' := [(0, some (parg01))]) (own' := []) (shr' := [Fact.pt bS parg01 arg0]) [0] [] [0] rfl rfl rfl rfl ?_)
 refine Tk_seq (Tk_seq (Tk_region (Tops_step rfl (OpT_loadP rfl rfl rfl rfl tyF4 (i := 0) rfl rfl) ?_)))
 refine Tops_nil (Tk_wkS (fr' := [(2, some (vB arg0))]) (own' := []) (shr' := []) [2] [] [] rfl rfl rfl rfl ?_)
 rcases Bool.eq_false_or_eq_true (arg0) with hg1 | hg1
 ·replace h := br_t hg1 h
  refine Tk_condT (congrArg (fun b => some (Value.bool b)) hg1) ?_
  refine Tk_seq (Tk_region (Tops_step rfl (OpT_assign rfl rfl rfl rfl) ?_))
  refine Tops_nil (Tk_wkS (fr' := [(1, some (vI (2 : Int)))]) (own' := []) (shr' := []) [1] [] [] rfl rfl rfl rfl ?_)
  obtain rfl := Option.some.inj h
  exact Tk_retV rfl rfl (resA (vs := [vI (2 : Int)]) rfl ⟨rfl, trivial⟩) [] [] rfl rfl rfl ⟨rfl, rfl, rfl⟩
 ·replace h := br_f hg1 h
  refine Tk_condF (congrArg (fun b => some (Value.bool b)) hg1) ?_
  refine Tk_skip (Tk_seq (Tk_region (Tops_step rfl (OpT_assign rfl rfl rfl rfl) ?_)))
  refine Tops_nil (Tk_wkS (fr' := [(1, some (vI (0 : Int)))]) (own' := []) (shr' := []) [1] [] [] rfl rfl rfl rfl ?_)
  obtain rfl := Option.some.inj h
  exact Tk_retV rfl rfl (resA (vs := [vI (0 : Int)]) rfl ⟨rfl, trivial⟩) [] [] rfl rfl rfl ⟨rfl, rfl, rfl⟩

set_option maxRecDepth 100000 in
set_option maxHeartbeats 4000000 in
theorem w_build_wrong {is : Bool} {r : (Option Int)} (h : build_wrong is = some r) :
  Ctr Try.prog 33 #[vB is] [] []
   (fun rv own shr => ∃ (w1 : Value), rv = w1 ∧ own = [] ∧ shr = [Fact.fn Try.prog av0 vI w1 (fun _ => r)]) := by
 unfold build_wrong at h
 refine Ctr.mk (args := [vB is]) Try.func33 rfl rfl (fun R0 w0 B => ?_)
 refine Tk_seq (Tk_region (Tops_ex rfl (OpT_box rfl rfl rfl rfl) fun b1 => ?_))
 refine Tops_step rfl (OpT_assign rfl rfl rfl rfl) ?_
 refine Tops_nil (Tk_wkS (fr' := [(1, some (.pointer (some ⟨b1, 0, none⟩)))]) (own' := [some (cellsR b1 4 [vB is])]) (shr' := []) [1] [0] [] rfl rfl rfl rfl ?_)
 refine Tk_seq (Tk_region (Tops_step rfl (OpT_makeFunc (vs := [.pointer (some ⟨b1, 0, none⟩)]) rfl rfl rfl rfl) ?_))
 refine Tops_step rfl (OpT_assign rfl rfl rfl rfl) ?_
 refine Tops_nil (Tk_wkS (fr' := [(2, some ((.func (.func 57) #[] #[(.pointer (some ⟨b1, 0, none⟩))])))]) (own' := [some (cellsR b1 4 [vB is])]) (shr' := []) [2] [0] [] rfl rfl rfl rfl ?_)
 refine Tk_vs (vs_retireP bS (x := is) (i := 0) rfl (fun _ _ => rfl)) ?_
 refine Tk_vs (vs_add (Fact.fn Try.prog av0 vI (.func (.func 57) #[] #[(.pointer (some ⟨b1, 0, none⟩))]) (fun _ => build_wrong_1 is)) (fun R hF => ⟨rfl, fun x r hx => ⟨57, [(.pointer (some ⟨b1, 0, none⟩))], [Fact.pt bS (.pointer (some ⟨b1, 0, none⟩)) is], rfl, callee57, (fal_cons (mem_at (i := 0) rfl hF) fal_nil), w_build_wrong_1 hx⟩⟩)) ?_
 obtain rfl := Option.some.inj h
 exact Tk_retV rfl rfl (resA (vs := [(.func (.func 57) #[] #[(.pointer (some ⟨b1, 0, none⟩))])]) rfl ⟨rfl, trivial⟩) [] [1] rfl rfl rfl ⟨(.func (.func 57) #[] #[(.pointer (some ⟨b1, 0, none⟩))]), rfl, rfl, rfl⟩

set_option maxRecDepth 100000 in
set_option maxHeartbeats 4000000 in
theorem w_build_buffer_1 {arg0 : List Seg} {parg01 : Value} {r : Int} (h : build_buffer_1 arg0 = some r) :
  Ctr Try.prog 56 #[parg01] [] [Fact.pt (Shape.slice SegS) parg01 arg0]
   (fun rv own shr => rv = vI r ∧ own = [] ∧ shr = []) := by
 unfold build_buffer_1 at h
 refine Ctr.mk (args := [parg01]) Try.func56 rfl rfl (fun R0 w0 B => ?_)
 refine Tk_seq (Tk_region (Tops_step rfl (OpT_assign rfl rfl rfl rfl) ?_))
 refine Tops_nil (Tk_wkS (fr' := [(0, some (parg01))]) (own' := []) (shr' := [Fact.pt (Shape.slice SegS) parg01 arg0]) [0] [] [0] rfl rfl rfl rfl ?_)
 refine Tk_seq (Tk_seq (Tk_region (Tops_ex rfl (OpT_loadPS rfl rfl rfl rfl tyF27 (i := 0) rfl) fun v1 => ?_)))
 obtain ⟨check1, hx1, h⟩ := ob_e h
 refine Tops_exP rfl (OpT_call (w_seg_Check hx1) [] [1] rfl rfl rfl rfl rfl callee46 rfl rfl rfl rfl) ?_
 rintro _ ⟨_, _, _, ⟨rfl, rfl, rfl⟩, rfl⟩
 refine Tops_step rfl (OpT_assign rfl rfl rfl rfl) ?_
 refine Tops_nil (Tk_wkS (fr' := [(0, some (parg01)), (2, some (vI check1))]) (own' := []) (shr' := [Fact.pt (Shape.slice SegS) parg01 arg0]) [0, 2] [] [0] rfl rfl rfl rfl ?_)
 refine Tk_seq (Tk_region (Tops_step rfl (OpT_move rfl rfl rfl rfl) ?_))
 refine Tops_step rfl (OpT_bin rfl rfl rfl rfl rfl (bin_neq_i (a := check1) (b := (0 : Int)))) ?_
 refine Tops_nil (Tk_wkS (fr' := [(0, some (parg01)), (2, some (vI check1)), (6, some (vB (check1 != (0 : Int))))]) (own' := []) (shr' := [Fact.pt (Shape.slice SegS) parg01 arg0]) [0, 2, 6] [] [0] rfl rfl rfl rfl ?_)
 rcases Bool.eq_false_or_eq_true (check1 != (0 : Int)) with hg1 | hg1
 ·replace h := br_t hg1 h
  refine Tk_condT (congrArg (fun b => some (Value.bool b)) hg1) ?_
  refine Tk_seq (Tk_region (Tops_step rfl (OpT_move rfl rfl rfl rfl) ?_))
  refine Tops_step rfl (OpT_assign rfl rfl rfl rfl) ?_
  refine Tops_nil (Tk_wkS (fr' := [(1, some (vI check1))]) (own' := []) (shr' := []) [1] [] [] rfl rfl rfl rfl ?_)
  obtain rfl := Option.some.inj h
  exact Tk_retV rfl rfl (resA (vs := [vI check1]) rfl ⟨rfl, trivial⟩) [] [] rfl rfl rfl ⟨rfl, rfl, rfl⟩
 ·replace h := br_f hg1 h
  refine Tk_condF (congrArg (fun b => some (Value.bool b)) hg1) ?_
  refine Tk_skip (Tk_seq (Tk_region (Tops_ex rfl (OpT_loadPS rfl rfl rfl rfl tyF27 (i := 0) rfl) fun v2 => ?_)))
  refine Tops_step rfl (OpT_lenS rfl rfl rfl rfl Try.underlying27 (i := 1) rfl) ?_
  refine Tops_step rfl (OpT_bin rfl rfl rfl rfl rfl (bin_eql_i (a := len arg0) (b := (0 : Int)))) ?_
  obtain ⟨wrong1, hx2, h⟩ := ob_e h
  refine Tops_exP rfl (OpT_call (w_build_wrong hx2) [] [] rfl rfl rfl rfl rfl callee33 rfl rfl rfl rfl) ?_
  rintro _ ⟨v3, _, _, ⟨_, rfl, rfl, rfl⟩, rfl⟩
  obtain ⟨y1, hx3, h⟩ := ob_e h
  refine Tops_step rfl (OpT_callF (u := vI y1) () rfl rfl rfl rfl (i := 2) rfl rfl rfl hx3 rfl) ?_
  refine Tops_step rfl (OpT_assign rfl rfl rfl rfl) ?_
  refine Tops_nil (Tk_wkS (fr' := [(1, some (vI y1))]) (own' := []) (shr' := []) [1] [] [] rfl rfl rfl rfl ?_)
  obtain rfl := Option.some.inj h
  exact Tk_retV rfl rfl (resA (vs := [vI y1]) rfl ⟨rfl, trivial⟩) [] [] rfl rfl rfl ⟨rfl, rfl, rfl⟩

set_option maxRecDepth 100000 in
set_option maxHeartbeats 4000000 in
theorem w_build_buffer {l : List Seg} {vl1 : Value} {r : (Option Int)} (h : build_buffer l = some r) :
  Ctr Try.prog 32 #[vl1] [] [Fact.sl SegS vl1 l]
   (fun rv own shr => ∃ (w1 : Value), rv = w1 ∧ own = [] ∧ shr = [Fact.fn Try.prog av0 vI w1 (fun _ => r)]) := by
 unfold build_buffer at h
 refine Ctr.mk (args := [vl1]) Try.func32 rfl rfl (fun R0 w0 B => ?_)
 refine Tk_seq (Tk_region (Tops_ex rfl (OpT_box1 rfl rfl rfl rfl (is_sl (i := 0) rfl)) fun b1 => ?_))
 refine Tops_step rfl (OpT_assign rfl rfl rfl rfl) ?_
 refine Tops_nil (Tk_wkS (fr' := [(1, some (.pointer (some ⟨b1, 0, none⟩)))]) (own' := [some (cellsR b1 27 [vl1])]) (shr' := [Fact.sl SegS vl1 l]) [1] [0] [0] rfl rfl rfl rfl ?_)
 refine Tk_seq (Tk_region (Tops_step rfl (OpT_makeFunc (vs := [.pointer (some ⟨b1, 0, none⟩)]) rfl rfl rfl rfl) ?_))
 refine Tops_step rfl (OpT_assign rfl rfl rfl rfl) ?_
 refine Tops_nil (Tk_wkS (fr' := [(2, some ((.func (.func 56) #[] #[(.pointer (some ⟨b1, 0, none⟩))])))]) (own' := [some (cellsR b1 27 [vl1])]) (shr' := [Fact.sl SegS vl1 l]) [2] [0] [0] rfl rfl rfl rfl ?_)
 refine Tk_vs (vs_retireP (Shape.slice SegS) (x := l) (i := 0) rfl (rel_sl (i := 0) rfl)) ?_
 refine Tk_vs (vs_add (Fact.fn Try.prog av0 vI (.func (.func 56) #[] #[(.pointer (some ⟨b1, 0, none⟩))]) (fun _ => build_buffer_1 l)) (fun R hF => ⟨rfl, fun x r hx => ⟨56, [(.pointer (some ⟨b1, 0, none⟩))], [Fact.pt (Shape.slice SegS) (.pointer (some ⟨b1, 0, none⟩)) l], rfl, callee56, (fal_cons (mem_at (i := 1) rfl hF) fal_nil), w_build_buffer_1 hx⟩⟩)) ?_
 obtain rfl := Option.some.inj h
 exact Tk_retV rfl rfl (resA (vs := [(.func (.func 56) #[] #[(.pointer (some ⟨b1, 0, none⟩))])]) rfl ⟨rfl, trivial⟩) [] [2] rfl rfl rfl ⟨(.func (.func 56) #[] #[(.pointer (some ⟨b1, 0, none⟩))]), rfl, rfl, rfl⟩

set_option maxRecDepth 100000 in
set_option maxHeartbeats 4000000 in
theorem w_build_isID {np0 : Int} {r : Bool} (h : build_isID np0 = some r) :
  Ctr Try.prog 41 #[vI np0] [] []
   (fun rv own shr => rv = vB r ∧ own = [] ∧ shr = []) := by
 unfold build_isID at h
 refine Ctr.mk (args := [vI np0]) Try.func41 rfl rfl (fun R0 w0 B => ?_)
 refine Tk_seq (Tk_region (Tops_step rfl (OpT_assign rfl rfl rfl rfl) ?_))
 refine Tops_nil (Tk_wkS (fr' := [(0, some (vI np0))]) (own' := []) (shr' := []) [0] [] [] rfl rfl rfl rfl ?_)
 refine Tk_seq (Tk_region (Tops_step rfl (OpT_move rfl rfl rfl rfl) ?_))
 refine Tops_step rfl (OpT_bin rfl rfl rfl rfl rfl (bin_geq_i (a := np0) (b := (0 : Int)))) ?_
 refine Tops_step rfl (OpT_move rfl rfl rfl rfl) ?_
 rcases Bool.eq_false_or_eq_true (decide (np0 ≥ (0 : Int))) with hg1 | hg1
 ·replace h := br_t hg1 h
  refine Tops_yes rfl rfl (congrArg (fun b => some (Value.bool b)) hg1) (OpT_move rfl rfl rfl rfl) ?_
  rintro _ rfl
  refine Tops_yes rfl rfl (congrArg (fun b => some (Value.bool b)) hg1) (OpT_bin rfl rfl rfl rfl rfl (bin_lss_i (a := np0) (b := (32768 : Int)))) ?_
  rintro _ rfl
  refine Tops_step rfl (OpT_pickT rfl rfl rfl (congrArg (fun b => some (Value.bool b)) hg1) rfl) ?_
  refine Tops_step rfl (OpT_assign rfl rfl rfl rfl) ?_
  refine Tops_nil (Tk_wkS (fr' := [(2, some (vB (decide (np0 < (32768 : Int)))))]) (own' := []) (shr' := []) [2] [] [] rfl rfl rfl rfl ?_)
  obtain rfl := Option.some.inj h
  exact Tk_retV rfl rfl (resA (vs := [vB (decide (np0 < (32768 : Int)))]) rfl ⟨rfl, trivial⟩) [] [] rfl rfl rfl ⟨rfl, rfl, rfl⟩
 ·replace h := br_f hg1 h
  refine Tops_no rfl rfl (congrArg (fun b => some (Value.bool b)) hg1) rfl rfl ?_
  refine Tops_no rfl rfl (congrArg (fun b => some (Value.bool b)) hg1) rfl rfl ?_
  refine Tops_step rfl (OpT_pickF rfl rfl rfl (congrArg (fun b => some (Value.bool b)) hg1) rfl) ?_
  refine Tops_step rfl (OpT_assign rfl rfl rfl rfl) ?_
  refine Tops_nil (Tk_wkS (fr' := [(2, some (vB false))]) (own' := []) (shr' := []) [2] [] [] rfl rfl rfl rfl ?_)
  obtain rfl := Option.some.inj h
  exact Tk_retV rfl rfl (resA (vs := [vB false]) rfl ⟨rfl, trivial⟩) [] [] rfl rfl rfl ⟨rfl, rfl, rfl⟩

set_option maxRecDepth 100000 in
set_option maxHeartbeats 4000000 in
theorem w_build_apart {ids : List Int} {vids1 : Value} {r : Bool} (h : build_apart ids = some r) :
  Ctr Try.prog 34 #[vids1] [] [Fact.sl iS vids1 ids]
   (fun rv own shr => rv = vB r ∧ own = [] ∧ shr = []) := by
 unfold build_apart at h
 refine Ctr.mk (args := [vids1]) Try.func34 rfl rfl (fun R0 w0 B => ?_)
 refine Tk_seq (Tk_region (Tops_step rfl (OpT_assign rfl rfl rfl rfl) ?_))
 refine Tops_nil (Tk_wkS (fr' := [(0, some (vids1))]) (own' := []) (shr' := [Fact.sl iS vids1 ids]) [0] [] [0] rfl rfl rfl rfl ?_)
 refine Tk_seq (Tk_region (Tops_ex rfl (OpT_makeMap .i64 (fun x : Int => x) vB rfl rfl rfl) fun b1 => ?_))
 refine Tops_step rfl (OpT_assign rfl rfl rfl rfl) ?_
 refine Tops_nil (Tk_wkS (fr' := [(0, some (vids1)), (3, some (.map (some b1)))]) (own' := [some (mapR b1 .i64 (fun x : Int => x) vB ([] : List (Int × Bool)))]) (shr' := [Fact.sl iS vids1 ids]) [0, 3] [0] [0] rfl rfl rfl rfl ?_)
 refine Tk_seq (Tk_seq (Tk_region (Tops_step rfl (OpT_move rfl rfl rfl rfl) ?_)))
 refine Tops_step rfl (OpT_lenS rfl rfl rfl rfl Try.underlying26 (i := 0) rfl) ?_
 refine Tops_step rfl (OpT_move rfl rfl rfl rfl) ?_
 refine Tops_nil (Tk_wkS (fr' := [(3, some (.map (some b1))), (7, some (vids1)), (8, some (vI (len ids))), (9, some (vI (0 : Int)))]) (own' := [some (mapR b1 .i64 (fun x : Int => x) vB ([] : List (Int × Bool)))]) (shr' := [Fact.sl iS vids1 ids]) [3, 7, 8, 9] [0] [0] rfl rfl rfl rfl ?_)
 refine Tk_block (Tk_loopS (σ := (List (Int × Bool)) × Int) [3, 7, 8, 9] [0] [0] (fun s => ⟨[(3, some (.map (some b1))), (7, some (vids1)), (8, some (vI (len ids))), (9, some (vI s.2))], [some (mapR b1 .i64 (fun x : Int => x) vB s.1)], [Fact.sl iS vids1 ids]⟩) (fun nf1 s => build_apartL1 ids nf1 s.1 s.2 = some r) fuel (([] : List (Int × Bool)), (0 : Int)) h rfl rfl rfl rfl rfl (fun s h => by cases h) ?_)
 rintro nf1 ⟨map1, x1⟩ h
 replace h : build_apartL1B ids (build_apartL1 ids nf1) map1 x1 = some r := h
 unfold build_apartL1B at h
 refine Tk_seq (Tk_region (Tops_step rfl (OpT_bin rfl rfl rfl rfl rfl (bin_lss_i (a := x1) (b := len ids))) ?_))
 refine Tops_nil (Tk_seq ?_)
 rcases Bool.eq_false_or_eq_true (decide (x1 < (len ids))) with hg1 | hg1
 ·replace h := br_t hg1 h
  refine Tk_condT (congrArg (fun b => some (Value.bool b)) hg1) ?_
  refine Tk_skip (Tk_seq (Tk_block (Tk_seq (Tk_region ?_))))
  obtain ⟨y1, hx1, h⟩ := ob_e h
  refine Tops_ex rfl (OpT_idxS rfl rfl rfl rfl rfl slF26 (i := 0) rfl hx1) fun p1 => ?_
  refine Tops_step rfl (OpT_loadP rfl rfl rfl rfl tyF3 (i := 1) rfl rfl) ?_
  refine Tops_step rfl (OpT_assign rfl rfl rfl rfl) ?_
  refine Tops_nil (Tk_wkS (fr' := [(3, some (.map (some b1))), (7, some (vids1)), (8, some (vI (len ids))), (9, some (vI x1)), (5, some (vI y1))]) (own' := [some (mapR b1 .i64 (fun x : Int => x) vB map1)]) (shr' := [Fact.sl iS vids1 ids]) [3, 7, 8, 9, 5] [0] [0] rfl rfl rfl rfl ?_)
  refine Tk_seq (Tk_seq (Tk_region (Tops_step rfl (OpT_move rfl rfl rfl rfl) ?_)))
  obtain ⟨isid1, hx2, h⟩ := ob_e h
  refine Tops_exP rfl (OpT_call (w_build_isID hx2) [] [] rfl rfl rfl rfl rfl callee41 rfl rfl rfl rfl) ?_
  rintro _ ⟨_, _, _, ⟨rfl, rfl, rfl⟩, rfl⟩
  refine Tops_step rfl (OpT_not rfl rfl rfl rfl) ?_
  refine Tops_step rfl (OpT_move rfl rfl rfl rfl) ?_
  rcases Bool.eq_false_or_eq_true ((!isid1)) with hg2 | hg2
  ·replace h := br_t hg2 h
   refine Tops_no rfl rfl (congrArg (fun b => some (Value.bool b)) hg2) rfl rfl ?_
   refine Tops_no rfl rfl (congrArg (fun b => some (Value.bool b)) hg2) rfl rfl ?_
   refine Tops_no rfl rfl (congrArg (fun b => some (Value.bool b)) hg2) rfl rfl ?_
   refine Tops_step rfl (OpT_pickT rfl rfl rfl (congrArg (fun b => some (Value.bool b)) hg2) rfl) ?_
   refine Tops_nil (Tk_wkS (fr' := [(3, some (.map (some b1))), (7, some (vids1)), (8, some (vI (len ids))), (9, some (vI x1)), (5, some (vI y1)), (20, some (vB true))]) (own' := [some (mapR b1 .i64 (fun x : Int => x) vB map1)]) (shr' := [Fact.sl iS vids1 ids]) [3, 7, 8, 9, 5, 20] [0] [0] rfl rfl rfl rfl ?_)
   refine Tk_condT rfl ?_
   refine Tk_seq (Tk_region (Tops_step rfl (OpT_assign rfl rfl rfl rfl) ?_))
   refine Tops_nil (Tk_wkS (fr' := [(2, some (vB false))]) (own' := []) (shr' := []) [2] [] [] rfl rfl rfl rfl ?_)
   obtain rfl := Option.some.inj h
   exact Tk_retV rfl rfl (resA (vs := [vB false]) rfl ⟨rfl, trivial⟩) [] [] rfl rfl rfl ⟨rfl, rfl, rfl⟩
  ·replace h := br_f hg2 h
   refine Tops_yes rfl rfl (congrArg (fun b => some (Value.bool b)) hg2) (OpT_move rfl rfl rfl rfl) ?_
   rintro _ rfl
   refine Tops_yes rfl rfl (congrArg (fun b => some (Value.bool b)) hg2) (OpT_move rfl rfl rfl rfl) ?_
   rintro _ rfl
   refine Tops_yes rfl rfl (congrArg (fun b => some (Value.bool b)) hg2) (OpT_lookup keyI (V := vB) (kx := y1) (z := false) rfl rfl rfl rfl rfl Try.underlying99 Try.underlying3 tyZ4 (i := 0) rfl) ?_
   rintro _ rfl
   refine Tops_step rfl (OpT_pickF rfl rfl rfl (congrArg (fun b => some (Value.bool b)) hg2) rfl) ?_
   refine Tops_nil (Tk_wkS (fr' := [(3, some (.map (some b1))), (7, some (vids1)), (8, some (vI (len ids))), (9, some (vI x1)), (5, some (vI y1)), (20, some (vB (mget false y1 map1)))]) (own' := [some (mapR b1 .i64 (fun x : Int => x) vB map1)]) (shr' := [Fact.sl iS vids1 ids]) [3, 7, 8, 9, 5, 20] [0] [0] rfl rfl rfl rfl ?_)
   rcases Bool.eq_false_or_eq_true (mget false y1 map1) with hg3 | hg3
   ·replace h := br_t hg3 h
    refine Tk_condT (congrArg (fun b => some (Value.bool b)) hg3) ?_
    refine Tk_seq (Tk_region (Tops_step rfl (OpT_assign rfl rfl rfl rfl) ?_))
    refine Tops_nil (Tk_wkS (fr' := [(2, some (vB false))]) (own' := []) (shr' := []) [2] [] [] rfl rfl rfl rfl ?_)
    obtain rfl := Option.some.inj h
    exact Tk_retV rfl rfl (resA (vs := [vB false]) rfl ⟨rfl, trivial⟩) [] [] rfl rfl rfl ⟨rfl, rfl, rfl⟩
   ·replace h := br_f hg3 h
    refine Tk_condF (congrArg (fun b => some (Value.bool b)) hg3) ?_
    refine Tk_skip (Tk_region (Tops_step rfl (OpT_move rfl rfl rfl rfl) ?_))
    refine Tops_step rfl (OpT_move rfl rfl rfl rfl) ?_
    refine Tops_step rfl (OpT_mapUpdate keyI y1 true (V := vB) (z := false) rfl rfl rfl rfl rfl rfl Try.underlying99 Try.underlying3 (i := 0) rfl rfl) ?_
    refine Tops_nil (Tk_wkS (fr' := [(3, some (.map (some b1))), (7, some (vids1)), (8, some (vI (len ids))), (9, some (vI x1))]) (own' := [some (mapR b1 .i64 (fun x : Int => x) vB (mput y1 true map1))]) (shr' := [Fact.sl iS vids1 ids]) [3, 7, 8, 9] [0] [0] rfl rfl rfl rfl ?_)
    refine Tk_blk (Tk_region (Tops_step rfl (OpT_bin rfl rfl rfl rfl rfl (bin_add_i (a := x1) (b := (1 : Int)))) ?_))
    refine Tops_step rfl (OpT_move rfl rfl rfl rfl) ?_
    refine Tops_nil (Tk_wkS (fr' := [(3, some (.map (some b1))), (7, some (vids1)), (8, some (vI (len ids))), (9, some (vI (wi (x1 + (1 : Int)))))]) (own' := [some (mapR b1 .i64 (fun x : Int => x) vB (mput y1 true map1))]) (shr' := [Fact.sl iS vids1 ids]) [3, 7, 8, 9] [0] [0] rfl rfl rfl rfl ?_)
    exact Tk_backS (mput y1 true map1, wi (x1 + (1 : Int))) h [3, 7, 8, 9] [0] [0] rfl rfl rfl rfl rfl
 ·replace h := br_f hg1 h
  refine Tk_condF (congrArg (fun b => some (Value.bool b)) hg1) ?_
  refine Tk_exit _ rfl ?_
  refine Tk_seq (Tk_region (Tops_step rfl (OpT_assign rfl rfl rfl rfl) ?_))
  refine Tops_nil (Tk_wkS (fr' := [(2, some (vB true))]) (own' := []) (shr' := []) [2] [] [] rfl rfl rfl rfl ?_)
  obtain rfl := Option.some.inj h
  exact Tk_retV rfl rfl (resA (vs := [vB true]) rfl ⟨rfl, trivial⟩) [] [] rfl rfl rfl ⟨rfl, rfl, rfl⟩

set_option maxRecDepth 100000 in
set_option maxHeartbeats 4000000 in
theorem w_build_first {l : List (Option Int)} {vl1 : Value} {r : Int} (h : build_first l = some r) :
  Ctr Try.prog 31 #[vl1] [] [Fact.sl fnS71 vl1 l]
   (fun rv own shr => rv = vI r ∧ own = [] ∧ shr = []) := by
 unfold build_first at h
 refine Ctr.mk (args := [vl1]) Try.func31 rfl rfl (fun R0 w0 B => ?_)
 refine Tk_seq (Tk_region (Tops_step rfl (OpT_assign rfl rfl rfl rfl) ?_))
 refine Tops_nil (Tk_wkS (fr' := [(0, some (vl1))]) (own' := []) (shr' := [Fact.sl fnS71 vl1 l]) [0] [] [0] rfl rfl rfl rfl ?_)
 refine Tk_seq (Tk_seq (Tk_region (Tops_step rfl (OpT_move rfl rfl rfl rfl) ?_)))
 refine Tops_step rfl (OpT_lenS rfl rfl rfl rfl Try.underlying98 (i := 0) rfl) ?_
 refine Tops_step rfl (OpT_move rfl rfl rfl rfl) ?_
 refine Tops_nil (Tk_wkS (fr' := [(6, some (vl1)), (7, some (vI (len l))), (8, some (vI (0 : Int)))]) (own' := []) (shr' := [Fact.sl fnS71 vl1 l]) [6, 7, 8] [] [0] rfl rfl rfl rfl ?_)
 refine Tk_block (Tk_loopS (σ := Int) [6, 7, 8] [] [0] (fun s => ⟨[(6, some (vl1)), (7, some (vI (len l))), (8, some (vI s))], [], [Fact.sl fnS71 vl1 l]⟩) (fun nf1 s => build_firstL1 l nf1 s = some r) fuel (0 : Int) h rfl rfl rfl rfl rfl (fun s h => by cases h) ?_)
 rintro nf1 x1 h
 replace h : build_firstL1B l (build_firstL1 l nf1) x1 = some r := h
 unfold build_firstL1B at h
 refine Tk_seq (Tk_region (Tops_step rfl (OpT_bin rfl rfl rfl rfl rfl (bin_lss_i (a := x1) (b := len l))) ?_))
 refine Tops_nil (Tk_seq ?_)
 rcases Bool.eq_false_or_eq_true (decide (x1 < (len l))) with hg1 | hg1
 ·replace h := br_t hg1 h
  refine Tk_condT (congrArg (fun b => some (Value.bool b)) hg1) ?_
  refine Tk_skip (Tk_seq (Tk_block (Tk_seq (Tk_region ?_))))
  obtain ⟨y1, hx1, h⟩ := ob_e h
  refine Tops_ex rfl (OpT_idxS rfl rfl rfl rfl rfl slF98 (i := 0) rfl hx1) fun p1 => ?_
  refine Tops_ex rfl (OpT_loadPF rfl rfl rfl rfl tyF71 (i := 1) rfl) fun v1 => ?_
  refine Tops_step rfl (OpT_assign rfl rfl rfl rfl) ?_
  refine Tops_nil (Tk_wkS (fr' := [(6, some (vl1)), (7, some (vI (len l))), (8, some (vI x1)), (4, some (v1))]) (own' := []) (shr' := [Fact.sl fnS71 vl1 l, Fact.fn Try.prog av0 vI v1 (fun _ => y1)]) [6, 7, 8, 4] [] [0, 2] rfl rfl rfl rfl ?_)
  refine Tk_seq (Tk_region (Tops_step rfl (OpT_move rfl rfl rfl rfl) ?_))
  obtain ⟨y2, hx2, h⟩ := ob_e h
  refine Tops_step rfl (OpT_callF (u := vI y2) () rfl rfl rfl rfl (i := 1) rfl rfl rfl hx2 rfl) ?_
  refine Tops_step rfl (OpT_assign rfl rfl rfl rfl) ?_
  refine Tops_nil (Tk_wkS (fr' := [(6, some (vl1)), (7, some (vI (len l))), (8, some (vI x1)), (5, some (vI y2))]) (own' := []) (shr' := [Fact.sl fnS71 vl1 l]) [6, 7, 8, 5] [] [0] rfl rfl rfl rfl ?_)
  refine Tk_seq (Tk_region (Tops_step rfl (OpT_move rfl rfl rfl rfl) ?_))
  refine Tops_step rfl (OpT_bin rfl rfl rfl rfl rfl (bin_neq_i (a := y2) (b := (0 : Int)))) ?_
  refine Tops_nil (Tk_wkS (fr' := [(6, some (vl1)), (7, some (vI (len l))), (8, some (vI x1)), (5, some (vI y2)), (15, some (vB (y2 != (0 : Int))))]) (own' := []) (shr' := [Fact.sl fnS71 vl1 l]) [6, 7, 8, 5, 15] [] [0] rfl rfl rfl rfl ?_)
  rcases Bool.eq_false_or_eq_true (y2 != (0 : Int)) with hg2 | hg2
  ·replace h := br_t hg2 h
   refine Tk_condT (congrArg (fun b => some (Value.bool b)) hg2) ?_
   refine Tk_seq (Tk_region (Tops_step rfl (OpT_move rfl rfl rfl rfl) ?_))
   refine Tops_step rfl (OpT_assign rfl rfl rfl rfl) ?_
   refine Tops_nil (Tk_wkS (fr' := [(2, some (vI y2))]) (own' := []) (shr' := []) [2] [] [] rfl rfl rfl rfl ?_)
   obtain rfl := Option.some.inj h
   exact Tk_retV rfl rfl (resA (vs := [vI y2]) rfl ⟨rfl, trivial⟩) [] [] rfl rfl rfl ⟨rfl, rfl, rfl⟩
  ·replace h := br_f hg2 h
   refine Tk_condF (congrArg (fun b => some (Value.bool b)) hg2) ?_
   refine Tk_skip (Tk_blk (Tk_region (Tops_step rfl (OpT_bin rfl rfl rfl rfl rfl (bin_add_i (a := x1) (b := (1 : Int)))) ?_)))
   refine Tops_step rfl (OpT_move rfl rfl rfl rfl) ?_
   refine Tops_nil (Tk_wkS (fr' := [(6, some (vl1)), (7, some (vI (len l))), (8, some (vI (wi (x1 + (1 : Int)))))]) (own' := []) (shr' := [Fact.sl fnS71 vl1 l]) [6, 7, 8] [] [0] rfl rfl rfl rfl ?_)
   exact Tk_backS (wi (x1 + (1 : Int))) h [6, 7, 8] [] [0] rfl rfl rfl rfl rfl
 ·replace h := br_f hg1 h
  refine Tk_condF (congrArg (fun b => some (Value.bool b)) hg1) ?_
  refine Tk_exit _ rfl ?_
  refine Tk_seq (Tk_region (Tops_step rfl (OpT_assign rfl rfl rfl rfl) ?_))
  refine Tops_nil (Tk_wkS (fr' := [(2, some (vI (0 : Int)))]) (own' := []) (shr' := []) [2] [] [] rfl rfl rfl rfl ?_)
  obtain rfl := Option.some.inj h
  exact Tk_retV rfl rfl (resA (vs := [vI (0 : Int)]) rfl ⟨rfl, trivial⟩) [] [] rfl rfl rfl ⟨rfl, rfl, rfl⟩

set_option maxRecDepth 100000 in
set_option maxHeartbeats 4000000 in
theorem w_build_split_made {dp0 : build_split} {sp1 : Seg} {more : Bool} {r : build_split} (h : build_split_made dp0 sp1 more = some r) :
  Ctr Try.prog 80 #[.agg #[vU64 dp0.Desc.Addr, vU32 dp0.Desc.Len, vU16 dp0.Desc.Flags, vU16 dp0.Desc.Next, vI dp0.next], .agg #[vU64 sp1.At, vU32 sp1.Len, vB sp1.Write], vB more] [] []
   (fun rv own shr => rv = .iface 78 (.agg #[vU64 r.Desc.Addr, vU32 r.Desc.Len, vU16 r.Desc.Flags, vU16 r.Desc.Next, vI r.next]) ∧ own = [] ∧ shr = []) := by
 unfold build_split_made at h
 refine Ctr.mk (args := [.agg #[vU64 dp0.Desc.Addr, vU32 dp0.Desc.Len, vU16 dp0.Desc.Flags, vU16 dp0.Desc.Next, vI dp0.next], .agg #[vU64 sp1.At, vU32 sp1.Len, vB sp1.Write], vB more]) Try.func80 rfl rfl (fun R0 w0 B => ?_)
 refine Tk_seq (Tk_region (Tops_ex rfl (OpT_box rfl rfl rfl rfl) fun b1 => ?_))
 refine Tops_ex rfl (OpT_box rfl rfl rfl rfl) fun b2 => ?_
 refine Tops_step rfl (OpT_assign rfl rfl rfl rfl) ?_
 refine Tops_nil (Tk_wkS (fr' := [(2, some (vB more)), (3, some (.pointer (some ⟨b1, 0, none⟩))), (4, some (.pointer (some ⟨b2, 0, none⟩)))]) (own' := [some (cellsR b1 78 [vU64 dp0.Desc.Addr, vU32 dp0.Desc.Len, vU16 dp0.Desc.Flags, vU16 dp0.Desc.Next, vI dp0.next]), some (cellsR b2 59 [vU64 sp1.At, vU32 sp1.Len, vB sp1.Write])]) (shr' := []) [2, 3, 4] [0, 1] [] rfl rfl rfl rfl ?_)
 refine Tk_seq (Tk_region (Tops_step rfl (OpT_fieldC rfl rfl rfl rfl fldF59x0) ?_))
 refine Tops_step rfl (OpT_loadC rfl rfl rfl rfl tyF34 (i := 1) rfl rfl) ?_
 refine Tops_step rfl (OpT_fieldC rfl rfl rfl rfl fldF59x1) ?_
 refine Tops_step rfl (OpT_loadC rfl rfl rfl rfl tyF35 (i := 1) rfl rfl) ?_
 refine Tops_step rfl (OpT_build (v := .agg #[vU64 sp1.At, vU32 sp1.Len, vU16 (0 : UInt16), vU16 (0 : UInt16)]) rfl rfl rfl rfl (bldV (by kernel_rfl))) ?_
 refine Tops_step rfl (OpT_fieldC rfl rfl rfl rfl fldF78x0) ?_
 refine Tops_step rfl (OpT_storeC (cs' := [vU64 sp1.At, vU32 sp1.Len, vU16 (0 : UInt16), vU16 (0 : UInt16), vI dp0.next]) rfl rfl rfl rfl tyF38 (i := 0) rfl rfl rfl (one_of rfl) rfl) ?_
 refine Tops_nil (Tk_wkS (fr' := [(2, some (vB more)), (3, some (.pointer (some ⟨b1, 0, none⟩))), (4, some (.pointer (some ⟨b2, 0, none⟩)))]) (own' := [some (cellsR b1 78 [vU64 sp1.At, vU32 sp1.Len, vU16 (0 : UInt16), vU16 (0 : UInt16), vI dp0.next]), some (cellsR b2 59 [vU64 sp1.At, vU32 sp1.Len, vB sp1.Write])]) (shr' := []) [2, 3, 4] [0, 1] [] rfl rfl rfl rfl ?_)
 refine Tk_seq (Tk_seq (Tk_region (Tops_step rfl (OpT_fieldC rfl rfl rfl rfl fldF59x2) ?_)))
 refine Tops_step rfl (OpT_loadC rfl rfl rfl rfl tyF4 (i := 1) rfl rfl) ?_
 refine Tops_nil (Tk_wkS (fr' := [(2, some (vB more)), (3, some (.pointer (some ⟨b1, 0, none⟩))), (14, some (vB sp1.Write))]) (own' := [some (cellsR b1 78 [vU64 sp1.At, vU32 sp1.Len, vU16 (0 : UInt16), vU16 (0 : UInt16), vI dp0.next])]) (shr' := []) [2, 3, 14] [0] [] rfl rfl rfl rfl ?_)
 refine Tk_join (α := build_split) (fun s => ⟨[(2, some (vB more)), (3, some (.pointer (some ⟨b1, 0, none⟩)))], [some (cellsR b1 78 [vU64 s.Desc.Addr, vU32 s.Desc.Len, vU16 s.Desc.Flags, vU16 s.Desc.Next, vI s.next])], []⟩) (fun s => build_split_madeJ1 more s = some r) ?_ ?_
 ·rintro m1 h
  replace h : build_split_madeJ1 more m1 = some r := h
  unfold build_split_madeJ1 at h
  refine Tk_seq (Tk_seq (Tk_region (Tops_step rfl (OpT_move rfl rfl rfl rfl) ?_)))
  refine Tops_nil (Tk_wkS (fr' := [(3, some (.pointer (some ⟨b1, 0, none⟩))), (21, some (vB more))]) (own' := [some (cellsR b1 78 [vU64 m1.Desc.Addr, vU32 m1.Desc.Len, vU16 m1.Desc.Flags, vU16 m1.Desc.Next, vI m1.next])]) (shr' := []) [3, 21] [0] [] rfl rfl rfl rfl ?_)
  rcases Bool.eq_false_or_eq_true (more) with hg1 | hg1
  ·replace h := br_t hg1 h
   refine Tk_condT (congrArg (fun b => some (Value.bool b)) hg1) ?_
   refine Tk_seq (Tk_region (Tops_step rfl (OpT_fieldC rfl rfl rfl rfl fldF78x0) ?_))
   refine Tops_step rfl (OpT_fieldC rfl rfl rfl rfl fldF38x2) ?_
   refine Tops_step rfl (OpT_loadC rfl rfl rfl rfl tyF36 (i := 0) rfl rfl) ?_
   refine Tops_step rfl (OpT_bin rfl rfl rfl rfl rfl (bin_or_u16 (a := m1.Desc.Flags) (b := (1 : UInt16)))) ?_
   refine Tops_step rfl (OpT_fieldC rfl rfl rfl rfl fldF78x0) ?_
   refine Tops_step rfl (OpT_fieldC rfl rfl rfl rfl fldF38x2) ?_
   refine Tops_step rfl (OpT_storeC (cs' := [vU64 m1.Desc.Addr, vU32 m1.Desc.Len, vU16 (m1.Desc.Flags ||| (1 : UInt16)), vU16 m1.Desc.Next, vI m1.next]) rfl rfl rfl rfl tyF36 (i := 0) rfl rfl rfl (one_of rfl) rfl) ?_
   refine Tops_nil (Tk_wkS (fr' := [(3, some (.pointer (some ⟨b1, 0, none⟩)))]) (own' := [some (cellsR b1 78 [vU64 m1.Desc.Addr, vU32 m1.Desc.Len, vU16 (m1.Desc.Flags ||| (1 : UInt16)), vU16 m1.Desc.Next, vI m1.next])]) (shr' := []) [3] [0] [] rfl rfl rfl rfl ?_)
   refine Tk_region (Tops_step rfl (OpT_fieldC rfl rfl rfl rfl fldF78x1) ?_)
   refine Tops_step rfl (OpT_loadC rfl rfl rfl rfl tyF3 (i := 0) rfl rfl) ?_
   refine Tops_step rfl (OpT_cnv rfl rfl rfl rfl (cnv_i_u16 (n := m1.next) Try.underlying3 Try.underlying36)) ?_
   refine Tops_step rfl (OpT_fieldC rfl rfl rfl rfl fldF78x0) ?_
   refine Tops_step rfl (OpT_fieldC rfl rfl rfl rfl fldF38x3) ?_
   refine Tops_step rfl (OpT_storeC (cs' := [vU64 m1.Desc.Addr, vU32 m1.Desc.Len, vU16 (m1.Desc.Flags ||| (1 : UInt16)), vU16 (u16 m1.next), vI m1.next]) rfl rfl rfl rfl tyF36 (i := 0) rfl rfl rfl (one_of rfl) rfl) ?_
   refine Tops_nil (Tk_wkS (fr' := [(3, some (.pointer (some ⟨b1, 0, none⟩)))]) (own' := [some (cellsR b1 78 [vU64 m1.Desc.Addr, vU32 m1.Desc.Len, vU16 (m1.Desc.Flags ||| (1 : UInt16)), vU16 (u16 m1.next), vI m1.next])]) (shr' := []) [3] [0] [] rfl rfl rfl rfl ?_)
   refine Tk_seq (Tk_region (Tops_step rfl (OpT_loadCA (vs := [vU64 m1.Desc.Addr, vU32 m1.Desc.Len, vU16 (m1.Desc.Flags ||| (1 : UInt16)), vU16 (u16 m1.next), vI m1.next]) rfl rfl rfl rfl tyF78 (i := 0) rfl rfl rfl) ?_))
   refine Tops_step rfl (OpT_mkIf rfl rfl rfl rfl mkif78) ?_
   refine Tops_step rfl (OpT_assign rfl rfl rfl rfl) ?_
   refine Tops_nil (Tk_wkS (fr' := [(6, some (.iface 78 (.agg #[vU64 m1.Desc.Addr, vU32 m1.Desc.Len, vU16 (m1.Desc.Flags ||| (1 : UInt16)), vU16 (u16 m1.next), vI m1.next])))]) (own' := []) (shr' := []) [6] [] [] rfl rfl rfl rfl ?_)
   obtain rfl := Option.some.inj h
   exact Tk_retV rfl rfl (resA (vs := [.iface 78 (.agg #[vU64 m1.Desc.Addr, vU32 m1.Desc.Len, vU16 (m1.Desc.Flags ||| (1 : UInt16)), vU16 (u16 m1.next), vI m1.next])]) rfl ⟨rfl, trivial⟩) [] [] rfl rfl rfl ⟨rfl, rfl, rfl⟩
  ·replace h := br_f hg1 h
   refine Tk_condF (congrArg (fun b => some (Value.bool b)) hg1) ?_
   refine Tk_skip (Tk_seq (Tk_region (Tops_step rfl (OpT_loadCA (vs := [vU64 m1.Desc.Addr, vU32 m1.Desc.Len, vU16 m1.Desc.Flags, vU16 m1.Desc.Next, vI m1.next]) rfl rfl rfl rfl tyF78 (i := 0) rfl rfl rfl) ?_)))
   refine Tops_step rfl (OpT_mkIf rfl rfl rfl rfl mkif78) ?_
   refine Tops_step rfl (OpT_assign rfl rfl rfl rfl) ?_
   refine Tops_nil (Tk_wkS (fr' := [(6, some (.iface 78 (.agg #[vU64 m1.Desc.Addr, vU32 m1.Desc.Len, vU16 m1.Desc.Flags, vU16 m1.Desc.Next, vI m1.next])))]) (own' := []) (shr' := []) [6] [] [] rfl rfl rfl rfl ?_)
   obtain rfl := Option.some.inj h
   exact Tk_retV rfl rfl (resA (vs := [.iface 78 (.agg #[vU64 m1.Desc.Addr, vU32 m1.Desc.Len, vU16 m1.Desc.Flags, vU16 m1.Desc.Next, vI m1.next])]) rfl ⟨rfl, trivial⟩) [] [] rfl rfl rfl ⟨rfl, rfl, rfl⟩
 ·intro HJ1
  rcases Bool.eq_false_or_eq_true (sp1.Write) with hg2 | hg2
  ·replace h := br_t hg2 h
   refine Tk_condT (congrArg (fun b => some (Value.bool b)) hg2) ?_
   refine Tk_region (Tops_step rfl (OpT_fieldC rfl rfl rfl rfl fldF78x0) ?_)
   refine Tops_step rfl (OpT_fieldC rfl rfl rfl rfl fldF38x2) ?_
   refine Tops_step rfl (OpT_loadC rfl rfl rfl rfl tyF36 (i := 0) rfl rfl) ?_
   refine Tops_step rfl (OpT_bin rfl rfl rfl rfl rfl (bin_or_u16 (a := (0 : UInt16)) (b := (2 : UInt16)))) ?_
   refine Tops_step rfl (OpT_fieldC rfl rfl rfl rfl fldF78x0) ?_
   refine Tops_step rfl (OpT_fieldC rfl rfl rfl rfl fldF38x2) ?_
   refine Tops_step rfl (OpT_storeC (cs' := [vU64 sp1.At, vU32 sp1.Len, vU16 ((0 : UInt16) ||| (2 : UInt16)), vU16 (0 : UInt16), vI dp0.next]) rfl rfl rfl rfl tyF36 (i := 0) rfl rfl rfl (one_of rfl) rfl) ?_
   refine Tops_nil (Tk_wkS (fr' := [(2, some (vB more)), (3, some (.pointer (some ⟨b1, 0, none⟩)))]) (own' := [some (cellsR b1 78 [vU64 sp1.At, vU32 sp1.Len, vU16 ((0 : UInt16) ||| (2 : UInt16)), vU16 (0 : UInt16), vI dp0.next])]) (shr' := []) [2, 3] [0] [] rfl rfl rfl rfl ?_)
   exact Tk_jmpS (HJ1 (build_split.mk (Desc.mk sp1.At sp1.Len ((0 : UInt16) ||| (2 : UInt16)) (0 : UInt16)) dp0.next) h) [2, 3] [0] [] rfl rfl rfl rfl
  ·replace h := br_f hg2 h
   refine Tk_condF (congrArg (fun b => some (Value.bool b)) hg2) ?_
   refine Tk_skip ?_
   exact Tk_jmpS (HJ1 (build_split.mk (Desc.mk sp1.At sp1.Len (0 : UInt16) (0 : UInt16)) dp0.next) h) [2, 3] [0] [] rfl rfl rfl rfl

set_option maxRecDepth 100000 in
set_option maxHeartbeats 4000000 in
theorem w_build_chain_buildsplit {l : List Seg} {of : Int → Option build_split} {vl1 : Value} {vof1 : Value} {r : (List build_split)} (h : build_chain_buildsplit l of = some r) :
  Ctr Try.prog 35 #[vl1, vof1] [] [Fact.sl SegS vl1 l, Fact.fn Try.prog (fun (x : Int) => [vI x]) (fun (x : build_split) => .agg #[vU64 x.Desc.Addr, vU32 x.Desc.Len, vU16 x.Desc.Flags, vU16 x.Desc.Next, vI x.next]) vof1 of]
   (fun rv own shr => ∃ (w1 : Value), rv = w1 ∧ own = [(rowS build_splitS w1 r)] ∧ shr = []) := by
 unfold build_chain_buildsplit at h
 refine Ctr.mk (args := [vl1, vof1]) Try.func35 rfl rfl (fun R0 w0 B => ?_)
 refine Tk_seq (Tk_region (Tops_step rfl (OpT_assign rfl rfl rfl rfl) ?_))
 refine Tops_nil (Tk_wkS (fr' := [(0, some (vl1)), (1, some (vof1))]) (own' := []) (shr' := [Fact.sl SegS vl1 l, Fact.fn Try.prog (fun (x : Int) => [vI x]) (fun (x : build_split) => .agg #[vU64 x.Desc.Addr, vU32 x.Desc.Len, vU16 x.Desc.Flags, vU16 x.Desc.Next, vI x.next]) vof1 of]) [0, 1] [] [0, 1] rfl rfl rfl rfl ?_)
 refine Tk_seq (Tk_region (Tops_step rfl (OpT_move rfl rfl rfl rfl) ?_))
 refine Tops_step rfl (OpT_lenS rfl rfl rfl rfl Try.underlying27 (i := 0) rfl) ?_
 obtain ⟨hc1, h⟩ := chk_e h
 refine Tops_ex rfl (OpT_makeD build_splitS rfl (u := (build_split.mk (Desc.mk (0 : UInt64) (0 : UInt32) (0 : UInt16) (0 : UInt16)) (0 : Int))) rfl rfl rfl rfl rfl slF75 rfl hc1) fun v1 => ?_
 refine Tops_step rfl (OpT_assign rfl rfl rfl rfl) ?_
 refine Tops_nil (Tk_wkS (fr' := [(0, some (vl1)), (1, some (vof1)), (5, some (v1))]) (own' := [some (rowS build_splitS v1 (List.replicate (0 : Int).toNat (build_split.mk (Desc.mk (0 : UInt64) (0 : UInt32) (0 : UInt16) (0 : UInt16)) (0 : Int))))]) (shr' := [Fact.sl SegS vl1 l, Fact.fn Try.prog (fun (x : Int) => [vI x]) (fun (x : build_split) => .agg #[vU64 x.Desc.Addr, vU32 x.Desc.Len, vU16 x.Desc.Flags, vU16 x.Desc.Next, vI x.next]) vof1 of]) [0, 1, 5] [0] [0, 1] rfl rfl rfl rfl ?_)
 refine Tk_seq (Tk_seq (Tk_region (Tops_step rfl (OpT_move rfl rfl rfl rfl) ?_)))
 refine Tops_step rfl (OpT_lenS rfl rfl rfl rfl Try.underlying27 (i := 0) rfl) ?_
 refine Tops_step rfl (OpT_move rfl rfl rfl rfl) ?_
 refine Tops_nil (Tk_block (Tk_loopS (σ := (List build_split) × Int × Value) [0, 1, 5, 11, 12, 13] [0] [0, 1] (fun s => ⟨[(0, some (vl1)), (1, some (vof1)), (5, some (s.2.2)), (11, some (vl1)), (12, some (vI (len l))), (13, some (vI s.2.1))], [some (rowS build_splitS s.2.2 s.1)], [Fact.sl SegS vl1 l, Fact.fn Try.prog (fun (x : Int) => [vI x]) (fun (x : build_split) => .agg #[vU64 x.Desc.Addr, vU32 x.Desc.Len, vU16 x.Desc.Flags, vU16 x.Desc.Next, vI x.next]) vof1 of]⟩) (fun nf1 s => build_chain_buildsplitL1 l of nf1 s.1 s.2.1 = some r) fuel (List.replicate (0 : Int).toNat (build_split.mk (Desc.mk (0 : UInt64) (0 : UInt32) (0 : UInt16) (0 : UInt16)) (0 : Int)), (0 : Int), v1) h rfl rfl rfl rfl rfl (fun s h => by cases h) ?_))
 rintro nf1 ⟨out1, x1, v2⟩ h
 replace h : build_chain_buildsplitL1B l of (build_chain_buildsplitL1 l of nf1) out1 x1 = some r := h
 unfold build_chain_buildsplitL1B at h
 refine Tk_seq (Tk_region (Tops_step rfl (OpT_bin rfl rfl rfl rfl rfl (bin_lss_i (a := x1) (b := len l))) ?_))
 refine Tops_nil (Tk_seq ?_)
 rcases Bool.eq_false_or_eq_true (decide (x1 < (len l))) with hg1 | hg1
 ·replace h := br_t hg1 h
  refine Tk_condT (congrArg (fun b => some (Value.bool b)) hg1) ?_
  refine Tk_skip (Tk_seq (Tk_block (Tk_seq (Tk_region (Tops_step rfl (OpT_move rfl rfl rfl rfl) ?_)))))
  obtain ⟨s1, hx1, h⟩ := ob_e h
  refine Tops_ex rfl (OpT_idxS rfl rfl rfl rfl rfl slF27 (i := 0) rfl hx1) fun p1 => ?_
  refine Tops_step rfl (OpT_loadPA (vs := [vU64 s1.At, vU32 s1.Len, vB s1.Write]) rfl rfl rfl rfl tyF59 (i := 2) rfl rfl) ?_
  refine Tops_ex rfl (OpT_alloc rfl rfl rfl tyZ59) fun b1 => ?_
  refine Tops_step rfl (OpT_assign rfl rfl rfl rfl) ?_
  refine Tops_step rfl (OpT_storeC (cs' := [vU64 s1.At, vU32 s1.Len, vB s1.Write]) rfl rfl rfl rfl tyF59 (i := 1) rfl rfl rfl (one_of rfl) rfl) ?_
  refine Tops_nil (Tk_wkS (fr' := [(0, some (vl1)), (1, some (vof1)), (5, some (v2)), (11, some (vl1)), (12, some (vI (len l))), (13, some (vI x1)), (7, some (.pointer (some ⟨b1, 0, none⟩))), (6, some (vI x1))]) (own' := [some (rowS build_splitS v2 out1), some (cellsR b1 59 [vU64 s1.At, vU32 s1.Len, vB s1.Write])]) (shr' := [Fact.sl SegS vl1 l, Fact.fn Try.prog (fun (x : Int) => [vI x]) (fun (x : build_split) => .agg #[vU64 x.Desc.Addr, vU32 x.Desc.Len, vU16 x.Desc.Flags, vU16 x.Desc.Next, vI x.next]) vof1 of]) [0, 1, 5, 11, 12, 13, 7, 6] [0, 1] [0, 1] rfl rfl rfl rfl ?_)
  refine Tk_drawT (by kernel_rfl) ?_
  refine TA_tb [0, 0, 0, 6, 14, 0, 0, 64, 0, 256, 960, 2046, 4094, 8190, 16383, 32767] (by kernel_rfl) fun htb => ?_
  obtain ⟨y1, hx2, h⟩ := ob_e h
  obtain ⟨made1, hx3, h⟩ := ob_e h
  refine TA_seg (lo := 0) (hi := 14) htb rfl rfl (by kernel_rfl) (fun c L a w => ∃ (v3 : Value), Sat c ⟨[(0, some (vl1)), (1, some (vof1)), (5, some (v2)), (11, some (vl1)), (12, some (vI (len l))), (13, some (vI x1)), (7, some (.pointer (some ⟨b1, 0, none⟩))), (6, some (vI x1)), (18, bif L 0 then some (v2) else none), (19, bif L 1 then some (vof1) else none), (20, bif L 2 then some (vI x1) else none), (21, bif L 3 then some (.agg #[vU64 y1.Desc.Addr, vU32 y1.Desc.Len, vU16 y1.Desc.Flags, vU16 y1.Desc.Next, vI y1.next]) else none), (22, bif L 4 then some (.iface 78 (.agg #[vU64 y1.Desc.Addr, vU32 y1.Desc.Len, vU16 y1.Desc.Flags, vU16 y1.Desc.Next, vI y1.next])) else none), (23, bif L 5 then some (.agg #[vU64 s1.At, vU32 s1.Len, vB s1.Write]) else none), (24, bif L 6 then some (vI x1) else none), (25, bif L 7 then some (vI (wi (x1 + (1 : Int)))) else none), (26, bif L 8 then some (vl1) else none), (27, bif L 9 then some (vI (len l)) else none), (28, bif L 10 then some (vB (decide ((wi (x1 + (1 : Int))) < (len l)))) else none), (29, bif L 11 then some (.iface 78 (.agg #[vU64 made1.Desc.Addr, vU32 made1.Desc.Len, vU16 made1.Desc.Flags, vU16 made1.Desc.Next, vI made1.next])) else none), (30, bif L 12 then some (.agg #[vU64 made1.Desc.Addr, vU32 made1.Desc.Len, vU16 made1.Desc.Flags, vU16 made1.Desc.Next, vI made1.next]) else none), (31, bif L 13 then some (v3) else none)], [(some (rowS build_splitS v2 out1) : Option Res), (some (cellsR b1 59 [vU64 s1.At, vU32 s1.Len, vB s1.Write]) : Option Res), (bif L 13 then some (rowS build_splitS v3 [made1]) else none : Option Res)], [Fact.sl SegS vl1 l, Fact.fn Try.prog (fun (x : Int) => [vI x]) (fun (x : build_split) => .agg #[vU64 x.Desc.Addr, vU32 x.Desc.Len, vU16 x.Desc.Flags, vU16 x.Desc.Next, vI x.next]) vof1 of]⟩ a w) [([], []), ([], [3, 4, 11, 12, 13]), ([], [3, 4, 11, 12, 13]), ([1, 2], [4, 11, 12, 13]), ([1, 2, 3], [11, 12, 13]), ([], [11, 12, 13]), ([], [7, 10, 11, 12, 13]), ([6], [10, 11, 12, 13]), ([], [9, 10, 11, 12, 13]), ([8], [10, 11, 12, 13]), ([6, 7, 8, 9], [11, 12, 13]), ([1, 2, 3, 4, 5, 6, 7, 8, 9, 10], [12, 13]), ([1, 2, 3, 4, 5, 6, 7, 8, 9, 10, 11], [13]), ([1, 2, 3, 4, 5, 6, 7, 8, 9, 10, 11, 12], [])] rfl (by kernel_rfl) ?_ (steps_cons ?_ (steps_cons ?_ (steps_cons ?_ (steps_cons ?_ (steps_cons ?_ (steps_cons ?_ (steps_cons ?_ (steps_cons ?_ (steps_cons ?_ (steps_cons ?_ (steps_cons ?_ (steps_cons ?_ (steps_cons ?_ (steps_cons ?_ (steps_nil))))))))))))))) ?_
  ·intro a w hs
   exact ⟨undef, hs.startF [18, 19, 20, 21, 22, 23, 24, 25, 26, 27, 28, 29, 30, 31] [0, 1, 2] [0, 1] rfl rfl rfl rfl⟩
  ·intro L a w hv K Q hK
   obtain ⟨v3, hs⟩ := hv
   refine wpOp_go rfl rfl hs (OpT_move rfl rfl rfl rfl) ?_
   rintro _ rfl a' w' hs'
   exact hK a' w' ⟨v3, hs'.putF (i := 8) rfl [0, 1, 2] [0, 1] rfl rfl rfl rfl⟩
  ·intro L a w hv K Q hK
   obtain ⟨v3, hs⟩ := hv
   refine wpOp_go rfl rfl hs (OpT_move rfl rfl rfl rfl) ?_
   rintro _ rfl a' w' hs'
   exact hK a' w' ⟨v3, hs'.putF (i := 9) rfl [0, 1, 2] [0, 1] rfl rfl rfl rfl⟩
  ·intro L a w hv K Q hK
   obtain ⟨v3, hs⟩ := hv
   refine wpOp_go rfl rfl hs (OpT_move rfl rfl rfl rfl) ?_
   rintro _ rfl a' w' hs'
   exact hK a' w' ⟨v3, hs'.putF (i := 10) rfl [0, 1, 2] [0, 1] rfl rfl rfl rfl⟩
  ·intro L a w hv K Q hK
   obtain ⟨v3, hs⟩ := hv
   refine wpOp_go rfl rfl hs (OpT_callF (u := .agg #[vU64 y1.Desc.Addr, vU32 y1.Desc.Len, vU16 y1.Desc.Flags, vU16 y1.Desc.Next, vI y1.next]) x1 rfl rfl rfl rfl (i := 1) rfl rfl rfl hx2 rfl) ?_
   rintro _ rfl a' w' hs'
   exact hK a' w' ⟨v3, hs'.putF (i := 11) rfl [0, 1, 2] [0, 1] rfl rfl rfl rfl⟩
  ·intro L a w hv K Q hK
   obtain ⟨v3, hs⟩ := hv
   refine wpOp_go rfl rfl hs (OpT_mkIf rfl rfl rfl rfl mkif78) ?_
   rintro _ rfl a' w' hs'
   exact hK a' w' ⟨v3, hs'.putF (i := 12) rfl [0, 1, 2] [0, 1] rfl rfl rfl rfl⟩
  ·intro L a w hv K Q hK
   obtain ⟨v3, hs⟩ := hv
   refine wpOp_go rfl rfl hs (OpT_loadCA (vs := [vU64 s1.At, vU32 s1.Len, vB s1.Write]) rfl rfl rfl rfl tyF59 (i := 1) rfl rfl rfl) ?_
   rintro _ rfl a' w' hs'
   exact hK a' w' ⟨v3, hs'.putF (i := 13) rfl [0, 1, 2] [0, 1] rfl rfl rfl rfl⟩
  ·intro L a w hv K Q hK
   obtain ⟨v3, hs⟩ := hv
   refine wpOp_go rfl rfl hs (OpT_move rfl rfl rfl rfl) ?_
   rintro _ rfl a' w' hs'
   exact hK a' w' ⟨v3, hs'.putF (i := 14) rfl [0, 1, 2] [0, 1] rfl rfl rfl rfl⟩
  ·intro L a w hv K Q hK
   obtain ⟨v3, hs⟩ := hv
   refine wpOp_go rfl rfl hs (OpT_bin rfl rfl rfl rfl rfl (bin_add_i (a := x1) (b := (1 : Int)))) ?_
   rintro _ rfl a' w' hs'
   exact hK a' w' ⟨v3, hs'.putF (i := 15) rfl [0, 1, 2] [0, 1] rfl rfl rfl rfl⟩
  ·intro L a w hv K Q hK
   obtain ⟨v3, hs⟩ := hv
   refine wpOp_go rfl rfl hs (OpT_move rfl rfl rfl rfl) ?_
   rintro _ rfl a' w' hs'
   exact hK a' w' ⟨v3, hs'.putF (i := 16) rfl [0, 1, 2] [0, 1] rfl rfl rfl rfl⟩
  ·intro L a w hv K Q hK
   obtain ⟨v3, hs⟩ := hv
   refine wpOp_go rfl rfl hs (OpT_lenS rfl rfl rfl rfl Try.underlying27 (i := 0) rfl) ?_
   rintro _ rfl a' w' hs'
   exact hK a' w' ⟨v3, hs'.putF (i := 17) rfl [0, 1, 2] [0, 1] rfl rfl rfl rfl⟩
  ·intro L a w hv K Q hK
   obtain ⟨v3, hs⟩ := hv
   refine wpOp_go rfl rfl hs (OpT_bin rfl rfl rfl rfl rfl (bin_lss_i (a := wi (x1 + (1 : Int))) (b := len l))) ?_
   rintro _ rfl a' w' hs'
   exact hK a' w' ⟨v3, hs'.putF (i := 18) rfl [0, 1, 2] [0, 1] rfl rfl rfl rfl⟩
  ·intro L a w hv K Q hK
   obtain ⟨v3, hs⟩ := hv
   refine wpOp_go rfl rfl hs (OpT_invoke (w_build_split_made hx3) [] [] rfl rfl rfl rfl rfl ⟨meth78x80, callee80⟩ rfl rfl rfl rfl) ?_
   rintro _ ⟨_, _, _, ⟨rfl, rfl, rfl⟩, rfl⟩ a' w' hs'
   exact hK a' w' ⟨v3, hs'.putF (i := 19) rfl [0, 1, 2] [0, 1] rfl rfl rfl rfl⟩
  ·intro L a w hv K Q hK
   obtain ⟨v3, hs⟩ := hv
   refine wpOp_go rfl rfl hs (OpT_asrt rfl rfl rfl rfl asrt101x78) ?_
   rintro _ rfl a' w' hs'
   exact hK a' w' ⟨v3, hs'.putF (i := 20) rfl [0, 1, 2] [0, 1] rfl rfl rfl rfl⟩
  ·intro L a w hv K Q hK
   obtain ⟨v3, hs⟩ := hv
   refine wpOp_go rfl rfl hs (OpT_buildSlice (S := build_splitS) (xs := [made1]) (css := [[vU64 made1.Desc.Addr, vU32 made1.Desc.Len, vU16 made1.Desc.Flags, vU16 made1.Desc.Next, vI made1.next]]) (cs := [vU64 made1.Desc.Addr, vU32 made1.Desc.Len, vU16 made1.Desc.Flags, vU16 made1.Desc.Next, vI made1.next]) (e := 78) rfl rfl rfl rfl (bldF slF75 (by decide) (by kernel_rfl)) rfl rfl rfl rfl (rel_plainD (S := build_splitS) (xs := [made1]) (css := [[vU64 made1.Desc.Addr, vU32 made1.Desc.Len, vU16 made1.Desc.Flags, vU16 made1.Desc.Next, vI made1.next]]) rfl rfl)) ?_
   rintro _ ⟨v3', rfl⟩ a' w' hs'
   exact hK a' w' ⟨v3', hs'.putF (i := 21) rfl [0, 1, 3] [0, 1] rfl rfl rfl rfl⟩
  ·intro L a w hL hv
   rw [allTrue hL] at hv
   obtain ⟨v3, hs⟩ := hv
   refine (show TA _ _ _ 14 ⟨[(0, some (vl1)), (1, some (vof1)), (11, some (vl1)), (12, some (vI (len l))), (13, some (vI x1)), (18, some (v2)), (31, some (v3))], [some (rowS build_splitS v2 out1), some (rowS build_splitS v3 [made1])], [Fact.sl SegS vl1 l, Fact.fn Try.prog (fun (x : Int) => [vI x]) (fun (x : build_split) => .agg #[vU64 x.Desc.Addr, vU32 x.Desc.Len, vU16 x.Desc.Flags, vU16 x.Desc.Next, vI x.next]) vof1 of]⟩ from ?_) a w (hs.wkS [0, 1, 11, 12, 13, 18, 31] [0, 2] [0, 1] rfl rfl rfl rfl)
   clear hs hL
   obtain ⟨hc2, h⟩ := chk_e h
   refine TA_ex htb (by kernel_rfl) rfl rfl (OpT_appendB (S := build_splitS) rfl rfl rfl rfl rfl rfl slF75 (i := 0) (j := 1) rfl rfl hc2) fun v4 => ?_
   refine TA_step htb (by kernel_rfl) rfl rfl (OpT_assign rfl rfl rfl rfl) ?_
   refine TA_end rfl ?_
   refine Tk_wkS (fr' := [(0, some (vl1)), (1, some (vof1)), (11, some (vl1)), (12, some (vI (len l))), (13, some (vI x1)), (5, some (v4))]) (own' := [some (rowS build_splitS v4 (out1 ++ [made1]))]) (shr' := [Fact.sl SegS vl1 l, Fact.fn Try.prog (fun (x : Int) => [vI x]) (fun (x : build_split) => .agg #[vU64 x.Desc.Addr, vU32 x.Desc.Len, vU16 x.Desc.Flags, vU16 x.Desc.Next, vI x.next]) vof1 of]) [0, 1, 11, 12, 13, 5] [0] [0, 1] rfl rfl rfl rfl ?_
   refine Tk_blk (Tk_region (Tops_step rfl (OpT_bin rfl rfl rfl rfl rfl (bin_add_i (a := x1) (b := (1 : Int)))) ?_))
   refine Tops_step rfl (OpT_move rfl rfl rfl rfl) ?_
   refine Tops_nil (Tk_wkS (fr' := [(0, some (vl1)), (1, some (vof1)), (11, some (vl1)), (12, some (vI (len l))), (13, some (vI (wi (x1 + (1 : Int))))), (5, some (v4))]) (own' := [some (rowS build_splitS v4 (out1 ++ [made1]))]) (shr' := [Fact.sl SegS vl1 l, Fact.fn Try.prog (fun (x : Int) => [vI x]) (fun (x : build_split) => .agg #[vU64 x.Desc.Addr, vU32 x.Desc.Len, vU16 x.Desc.Flags, vU16 x.Desc.Next, vI x.next]) vof1 of]) [0, 1, 11, 12, 13, 5] [0] [0, 1] rfl rfl rfl rfl ?_)
   exact Tk_backS (out1 ++ [made1], wi (x1 + (1 : Int)), v4) h [0, 1, 5, 11, 12, 13] [0] [0, 1] rfl rfl rfl rfl rfl
 ·replace h := br_f hg1 h
  refine Tk_condF (congrArg (fun b => some (Value.bool b)) hg1) ?_
  refine Tk_exit _ rfl ?_
  refine Tk_seq (Tk_region (Tops_step rfl (OpT_move rfl rfl rfl rfl) ?_))
  refine Tops_step rfl (OpT_assign rfl rfl rfl rfl) ?_
  refine Tops_nil (Tk_wkS (fr' := [(4, some (v2))]) (own' := [some (rowS build_splitS v2 out1)]) (shr' := []) [4] [0] [] rfl rfl rfl rfl ?_)
  obtain rfl := Option.some.inj h
  exact Tk_retV rfl rfl (resA (vs := [v2]) rfl ⟨rfl, trivial⟩) [0] [] rfl rfl rfl ⟨v2, rfl, rfl, rfl⟩

set_option maxRecDepth 100000 in
set_option maxHeartbeats 4000000 in
theorem w_build_Split_1 {ip0 : Int} {arg1 : List Int} {parg11 : Value} {r : build_split} (h : build_Split_1 ip0 arg1 = some r) :
  Ctr Try.prog 36 #[vI ip0, parg11] [] [Fact.pt (Shape.slice iS) parg11 arg1]
   (fun rv own shr => rv = .agg #[vU64 r.Desc.Addr, vU32 r.Desc.Len, vU16 r.Desc.Flags, vU16 r.Desc.Next, vI r.next] ∧ own = [] ∧ shr = []) := by
 unfold build_Split_1 at h
 refine Ctr.mk (args := [vI ip0, parg11]) Try.func36 rfl rfl (fun R0 w0 B => ?_)
 refine Tk_seq (Tk_region (Tops_ex rfl (OpT_alloc rfl rfl rfl tyZ78) fun b1 => ?_))
 refine Tops_nil (Tk_seq (Tk_seq (Tk_region (Tops_step rfl (OpT_move rfl rfl rfl rfl) ?_))))
 refine Tops_step rfl (OpT_bin rfl rfl rfl rfl rfl (bin_add_i (a := ip0) (b := (1 : Int)))) ?_
 refine Tops_ex rfl (OpT_loadPS rfl rfl rfl rfl tyF26 (i := 0) rfl) fun v1 => ?_
 refine Tops_step rfl (OpT_lenS rfl rfl rfl rfl Try.underlying26 (i := 1) rfl) ?_
 refine Tops_step rfl (OpT_bin rfl rfl rfl rfl rfl (bin_lss_i (a := wi (ip0 + (1 : Int))) (b := len arg1))) ?_
 refine Tops_nil (Tk_wkS (fr' := [(0, some (vI ip0)), (1, some (parg11)), (3, some (.pointer (some ⟨b1, 0, none⟩))), (8, some (vB (decide ((wi (ip0 + (1 : Int))) < (len arg1)))))]) (own' := [some (cellsR b1 78 [vU64 (0 : UInt64), vU32 (0 : UInt32), vU16 (0 : UInt16), vU16 (0 : UInt16), vI (0 : Int)])]) (shr' := [Fact.pt (Shape.slice iS) parg11 arg1]) [0, 1, 3, 8] [0] [0] rfl rfl rfl rfl ?_)
 rcases Bool.eq_false_or_eq_true (decide ((wi (ip0 + (1 : Int))) < (len arg1))) with hg1 | hg1
 ·replace h := br_t hg1 h
  refine Tk_condT (congrArg (fun b => some (Value.bool b)) hg1) ?_
  refine Tk_seq (Tk_region (Tops_ex rfl (OpT_loadPS rfl rfl rfl rfl tyF26 (i := 0) rfl) fun v2 => ?_))
  refine Tops_step rfl (OpT_move rfl rfl rfl rfl) ?_
  refine Tops_step rfl (OpT_bin rfl rfl rfl rfl rfl (bin_add_i (a := ip0) (b := (1 : Int)))) ?_
  obtain ⟨y1, hx1, h⟩ := ob_e h
  refine Tops_ex rfl (OpT_idxS rfl rfl rfl rfl rfl slF26 (i := 1) rfl hx1) fun p1 => ?_
  refine Tops_step rfl (OpT_loadP rfl rfl rfl rfl tyF3 (i := 2) rfl rfl) ?_
  refine Tops_step rfl (OpT_build (v := .agg #[vU64 (0 : UInt64), vU32 (0 : UInt32), vU16 (0 : UInt16), vU16 (0 : UInt16), vI y1]) rfl rfl rfl rfl (bldV (by kernel_rfl))) ?_
  refine Tops_step rfl (OpT_storeC (cs' := [vU64 (0 : UInt64), vU32 (0 : UInt32), vU16 (0 : UInt16), vU16 (0 : UInt16), vI y1]) rfl rfl rfl rfl tyF78 (i := 0) rfl rfl rfl (one_of rfl) rfl) ?_
  refine Tops_nil (Tk_wkS (fr' := [(3, some (.pointer (some ⟨b1, 0, none⟩)))]) (own' := [some (cellsR b1 78 [vU64 (0 : UInt64), vU32 (0 : UInt32), vU16 (0 : UInt16), vU16 (0 : UInt16), vI y1])]) (shr' := []) [3] [0] [] rfl rfl rfl rfl ?_)
  obtain rfl := Option.some.inj h
  exact Tk_retV rfl rfl (resA (vs := [.agg #[vU64 (0 : UInt64), vU32 (0 : UInt32), vU16 (0 : UInt16), vU16 (0 : UInt16), vI y1]]) rfl ⟨⟨_, 0, _, _, _, rfl, rfl, .inl ⟨tyF78, rfl, rfl⟩⟩, trivial⟩) [] [] rfl rfl rfl ⟨rfl, rfl, rfl⟩
 ·replace h := br_f hg1 h
  refine Tk_condF (congrArg (fun b => some (Value.bool b)) hg1) ?_
  refine Tk_skip (Tk_seq (Tk_region (Tops_step rfl (OpT_build (v := .agg #[vU64 (0 : UInt64), vU32 (0 : UInt32), vU16 (0 : UInt16), vU16 (0 : UInt16), vI (0 : Int)]) rfl rfl rfl rfl (bldV (by kernel_rfl))) ?_)))
  refine Tops_step rfl (OpT_storeC (cs' := [vU64 (0 : UInt64), vU32 (0 : UInt32), vU16 (0 : UInt16), vU16 (0 : UInt16), vI (0 : Int)]) rfl rfl rfl rfl tyF78 (i := 0) rfl rfl rfl (one_of rfl) rfl) ?_
  refine Tops_nil (Tk_wkS (fr' := [(3, some (.pointer (some ⟨b1, 0, none⟩)))]) (own' := [some (cellsR b1 78 [vU64 (0 : UInt64), vU32 (0 : UInt32), vU16 (0 : UInt16), vU16 (0 : UInt16), vI (0 : Int)])]) (shr' := []) [3] [0] [] rfl rfl rfl rfl ?_)
  obtain rfl := Option.some.inj h
  exact Tk_retV rfl rfl (resA (vs := [.agg #[vU64 (0 : UInt64), vU32 (0 : UInt32), vU16 (0 : UInt16), vU16 (0 : UInt16), vI (0 : Int)]]) rfl ⟨⟨_, 0, _, _, _, rfl, rfl, .inl ⟨tyF78, rfl, rfl⟩⟩, trivial⟩) [] [] rfl rfl rfl ⟨rfl, rfl, rfl⟩

set_option maxRecDepth 100000 in
set_option maxHeartbeats 4000000 in
theorem w_build_Split {ids : List Int} {l : List Seg} {vids1 : Value} {vl1 : Value} {r : ((List Put) × Int)} (h : build_Split ids l = some r) :
  Ctr Try.prog 7 #[vids1, vl1] [] [Fact.sl iS vids1 ids, Fact.sl SegS vl1 l]
   (fun rv own shr => ∃ (w1 : Value), rv = .tuple #[w1, vI r.2] ∧ own = [(rowS PutS w1 r.1)] ∧ shr = []) := by
 unfold build_Split at h
 refine Ctr.mk (args := [vids1, vl1]) Try.func7 rfl rfl (fun R0 w0 B => ?_)
 refine Tk_seq (Tk_region (Tops_ex rfl (OpT_box1 rfl rfl rfl rfl (is_sl (i := 0) rfl)) fun b1 => ?_))
 refine Tops_step rfl (OpT_assign rfl rfl rfl rfl) ?_
 refine Tops_step rfl (OpT_assign rfl rfl rfl rfl) ?_
 refine Tops_nil (Tk_wkS (fr' := [(1, some (vl1)), (2, some (.pointer (some ⟨b1, 0, none⟩)))]) (own' := [some (cellsR b1 26 [vids1])]) (shr' := [Fact.sl iS vids1 ids, Fact.sl SegS vl1 l]) [1, 2] [0] [0, 1] rfl rfl rfl rfl ?_)
 refine Tk_seq (Tk_seq (Tk_drawT (by kernel_rfl) ?_))
 refine TA_tb [0, 1, 0, 4, 0, 16, 60, 127, 255, 511, 1023, 2047, 4095, 8191, 16383, 32767] (by kernel_rfl) fun htb => ?_
 obtain ⟨buffer1, hx1, h⟩ := ob_e h
 refine TA_seg (lo := 0) (hi := 7) htb rfl rfl (by kernel_rfl) (fun c L a w => ∃ (v1 : Value), Sat c ⟨[(1, some (vl1)), (2, some (.pointer (some ⟨b1, 0, none⟩))), (10, bif L 0 then some (vl1) else none), (11, bif L 1 then some (v1) else none), (12, bif L 2 then some (vids1) else none), (13, bif L 3 then some (vI (len ids)) else none), (14, bif L 4 then some (vl1) else none), (15, bif L 5 then some (vI (len l)) else none), (16, bif L 6 then some (vB ((len ids) != (len l))) else none)], [(some (cellsR b1 26 [vids1]) : Option Res)], [Fact.sl iS vids1 ids, Fact.sl SegS vl1 l, (bif L 1 then Fact.fn Try.prog av0 vI v1 (fun _ => buffer1) else Fact.tt)]⟩ a w) [([], [1]), ([0], []), ([], [3, 6]), ([2], [6]), ([], [5, 6]), ([4], [6]), ([2, 3, 4, 5], [])] rfl (by kernel_rfl) ?_ (steps_cons ?_ (steps_cons ?_ (steps_cons ?_ (steps_cons ?_ (steps_cons ?_ (steps_cons ?_ (steps_cons ?_ (steps_nil)))))))) ?_
 ·intro a w hs
  exact ⟨undef, hs.startF [10, 11, 12, 13, 14, 15, 16] [0] [0, 1, 2] rfl rfl rfl rfl⟩
 ·intro L a w hv K Q hK
  obtain ⟨v1, hs⟩ := hv
  refine wpOp_go rfl rfl hs (OpT_move rfl rfl rfl rfl) ?_
  rintro _ rfl a' w' hs'
  exact hK a' w' ⟨v1, hs'.putF (i := 2) rfl [0] [0, 1, 2] rfl rfl rfl rfl⟩
 ·intro L a w hv K Q hK
  obtain ⟨v1, hs⟩ := hv
  refine wpOp_go rfl rfl hs (OpT_call (w_build_buffer hx1) [] [1] rfl rfl rfl rfl rfl callee32 rfl rfl rfl rfl) ?_
  rintro _ ⟨v1', _, _, ⟨_, rfl, rfl, rfl⟩, rfl⟩ a' w' hs'
  exact hK a' w' ⟨v1', hs'.putF (i := 3) rfl [0] [0, 1, 3] rfl rfl rfl rfl⟩
 ·intro L a w hv K Q hK
  obtain ⟨v1, hs⟩ := hv
  refine wpOp_go rfl rfl hs (OpT_loadC rfl rfl rfl rfl tyF26 (i := 0) rfl rfl) ?_
  rintro _ rfl a' w' hs'
  exact hK a' w' ⟨v1, hs'.putF (i := 4) rfl [0] [0, 1, 2] rfl rfl rfl rfl⟩
 ·intro L a w hv K Q hK
  obtain ⟨v1, hs⟩ := hv
  refine wpOp_go rfl rfl hs (OpT_lenS rfl rfl rfl rfl Try.underlying26 (i := 0) rfl) ?_
  rintro _ rfl a' w' hs'
  exact hK a' w' ⟨v1, hs'.putF (i := 5) rfl [0] [0, 1, 2] rfl rfl rfl rfl⟩
 ·intro L a w hv K Q hK
  obtain ⟨v1, hs⟩ := hv
  refine wpOp_go rfl rfl hs (OpT_move rfl rfl rfl rfl) ?_
  rintro _ rfl a' w' hs'
  exact hK a' w' ⟨v1, hs'.putF (i := 6) rfl [0] [0, 1, 2] rfl rfl rfl rfl⟩
 ·intro L a w hv K Q hK
  obtain ⟨v1, hs⟩ := hv
  refine wpOp_go rfl rfl hs (OpT_lenS rfl rfl rfl rfl Try.underlying27 (i := 1) rfl) ?_
  rintro _ rfl a' w' hs'
  exact hK a' w' ⟨v1, hs'.putF (i := 7) rfl [0] [0, 1, 2] rfl rfl rfl rfl⟩
 ·intro L a w hv K Q hK
  obtain ⟨v1, hs⟩ := hv
  refine wpOp_go rfl rfl hs (OpT_bin rfl rfl rfl rfl rfl (bin_neq_i (a := len ids) (b := len l))) ?_
  rintro _ rfl a' w' hs'
  exact hK a' w' ⟨v1, hs'.putF (i := 8) rfl [0] [0, 1, 2] rfl rfl rfl rfl⟩
 ·intro L a w hL hv
  rw [allTrue hL] at hv
  obtain ⟨v1, hs⟩ := hv
  refine (show TA _ _ _ 7 ⟨[(1, some (vl1)), (2, some (.pointer (some ⟨b1, 0, none⟩))), (11, some (v1)), (16, some (vB ((len ids) != (len l))))], [some (cellsR b1 26 [vids1])], [Fact.sl iS vids1 ids, Fact.sl SegS vl1 l, Fact.fn Try.prog av0 vI v1 (fun _ => buffer1)]⟩ from ?_) a w (hs.wkS [1, 2, 11, 16] [0] [0, 1, 2] rfl rfl rfl rfl)
  clear hs hL
  refine TA_step htb (by kernel_rfl) rfl rfl (OpT_move rfl rfl rfl rfl) ?_
  rcases Bool.eq_false_or_eq_true ((len ids) != (len l)) with hg1 | hg1
  ·replace h := br_t hg1 h
   refine TA_no htb (by kernel_rfl) rfl rfl rfl (congrArg (fun b => some (Value.bool b)) hg1) rfl rfl ?_
   refine TA_no htb (by kernel_rfl) rfl rfl rfl (congrArg (fun b => some (Value.bool b)) hg1) rfl rfl ?_
   refine TA_no htb (by kernel_rfl) rfl rfl rfl (congrArg (fun b => some (Value.bool b)) hg1) rfl rfl ?_
   refine TA_step htb (by kernel_rfl) rfl rfl (OpT_pickT rfl rfl rfl (congrArg (fun b => some (Value.bool b)) hg1) rfl) ?_
   obtain ⟨wrong1, hx2, h⟩ := ob_e h
   refine TA_exP htb (by kernel_rfl) rfl rfl (OpT_call (w_build_wrong hx2) [] [] rfl rfl rfl rfl rfl callee33 rfl rfl rfl rfl) ?_
   rintro _ ⟨v2, _, _, ⟨_, rfl, rfl, rfl⟩, rfl⟩
   refine TA_ex htb (by kernel_rfl) rfl rfl (OpT_buildOne fnS71 (vs := [v1, v2]) (xs := [buffer1, wrong1]) rfl rfl rfl rfl rfl slF98 rfl rfl rfl (rel_cons (rel_fn (i := 2) rfl) (rel_cons (rel_fn (i := 3) rfl) (rel_nil rfl)))) fun v3 => ?_
   refine TA_wkS (fr' := [(1, some (vl1)), (2, some (.pointer (some ⟨b1, 0, none⟩))), (23, some (v3))]) (own' := [some (cellsR b1 26 [vids1]), some (rowS fnS71 v3 [buffer1, wrong1])]) (shr' := [Fact.sl iS vids1 ids, Fact.sl SegS vl1 l]) [1, 2, 23] [0, 1] [0, 1] rfl rfl rfl rfl ?_
   obtain ⟨first1, hx3, h⟩ := ob_e h
   refine TA_exP htb (by kernel_rfl) rfl rfl (OpT_callB [1] [0, 1] (w_build_first hx3) [] rfl rfl rfl rfl rfl callee31 rfl rfl rfl rfl rfl rfl (bor_cons (bor_row 1 rfl rfl) bor_nil) (by rintro _ _ _ ⟨rfl, rfl, rfl⟩; exact ⟨rfl, ri_nil⟩)) ?_
   rintro _ ⟨_, _, _, ⟨rfl, rfl, rfl⟩, rfl⟩
   refine TA_step htb (by kernel_rfl) rfl rfl (OpT_assign rfl rfl rfl rfl) ?_
   refine TA_end rfl ?_
   refine Tk_wkS (fr' := [(1, some (vl1)), (2, some (.pointer (some ⟨b1, 0, none⟩))), (6, some (vI first1))]) (own' := [some (cellsR b1 26 [vids1])]) (shr' := [Fact.sl iS vids1 ids, Fact.sl SegS vl1 l]) [1, 2, 6] [0] [0, 1] rfl rfl rfl rfl ?_
   refine Tk_seq (Tk_region (Tops_step rfl (OpT_move rfl rfl rfl rfl) ?_))
   refine Tops_step rfl (OpT_bin rfl rfl rfl rfl rfl (bin_neq_i (a := first1) (b := (0 : Int)))) ?_
   refine Tops_nil (Tk_wkS (fr' := [(1, some (vl1)), (2, some (.pointer (some ⟨b1, 0, none⟩))), (6, some (vI first1)), (26, some (vB (first1 != (0 : Int))))]) (own' := [some (cellsR b1 26 [vids1])]) (shr' := [Fact.sl iS vids1 ids, Fact.sl SegS vl1 l]) [1, 2, 6, 26] [0] [0, 1] rfl rfl rfl rfl ?_)
   rcases Bool.eq_false_or_eq_true (first1 != (0 : Int)) with hg2 | hg2
   ·replace h := br_t hg2 h
    refine Tk_condT (congrArg (fun b => some (Value.bool b)) hg2) ?_
    refine Tk_seq (Tk_region (Tops_step rfl (OpT_move rfl rfl rfl rfl) ?_))
    refine Tops_step rfl (OpT_assign rfl rfl rfl rfl) ?_
    refine Tops_step rfl (OpT_assign rfl rfl rfl rfl) ?_
    refine Tops_nil (Tk_wkS (fr' := [(4, some (.slice none 0 0)), (5, some (vI first1))]) (own' := []) (shr' := []) [4, 5] [] [] rfl rfl rfl rfl ?_)
    refine Tk_nilrow PutS ?_
    obtain rfl := Option.some.inj h
    exact Tk_retV rfl rfl (resA (vs := [.slice none 0 0, vI first1]) rfl ⟨rfl, rfl, trivial⟩) [0] [] rfl rfl rfl ⟨(.slice none 0 0), rfl, rfl, rfl⟩
   ·replace h := br_f hg2 h
    refine Tk_condF (congrArg (fun b => some (Value.bool b)) hg2) ?_
    refine Tk_skip (Tk_seq (Tk_region (Tops_step rfl (OpT_assign rfl rfl rfl rfl) ?_)))
    refine Tops_nil (Tk_wkS (fr' := [(1, some (vl1)), (2, some (.pointer (some ⟨b1, 0, none⟩))), (7, some (.slice none 0 0))]) (own' := [some (cellsR b1 26 [vids1])]) (shr' := [Fact.sl iS vids1 ids, Fact.sl SegS vl1 l]) [1, 2, 7] [0] [0, 1] rfl rfl rfl rfl ?_)
    refine Tk_seq (Tk_seq (Tk_region (Tops_step rfl (OpT_move rfl rfl rfl rfl) ?_)))
    refine Tops_step rfl (OpT_makeFunc (vs := [.pointer (some ⟨b1, 0, none⟩)]) rfl rfl rfl rfl) ?_
    refine Tops_vs (vs_retireP (Shape.slice iS) (x := ids) (i := 0) rfl (rel_sl (i := 0) rfl)) ?_
    refine Tops_vs (vs_add (Fact.fn Try.prog (fun (x : Int) => [vI x]) (fun (x : build_split) => .agg #[vU64 x.Desc.Addr, vU32 x.Desc.Len, vU16 x.Desc.Flags, vU16 x.Desc.Next, vI x.next]) (.func (.func 36) #[] #[(.pointer (some ⟨b1, 0, none⟩))]) (fun x => build_Split_1 x ids)) (fun R hF => ⟨rfl, fun x r hx => ⟨36, [(.pointer (some ⟨b1, 0, none⟩))], [Fact.pt (Shape.slice iS) (.pointer (some ⟨b1, 0, none⟩)) ids], rfl, callee36, (fal_cons (mem_at (i := 2) rfl hF) fal_nil), w_build_Split_1 hx⟩⟩)) ?_
    obtain ⟨split1, hx4, h⟩ := ob_e h
    refine Tops_exP rfl (OpT_call (w_build_chain_buildsplit hx4) [] [1, 3] rfl rfl rfl rfl rfl callee35 rfl rfl rfl rfl) ?_
    rintro _ ⟨v4, _, _, ⟨_, rfl, rfl, rfl⟩, rfl⟩
    refine Tops_step rfl (OpT_lenO rfl rfl rfl rfl Try.underlying75 (i := 1) rfl) ?_
    refine Tops_step rfl (OpT_move rfl rfl rfl rfl) ?_
    refine Tops_nil (Tk_wkS (fr' := [(2, some (.pointer (some ⟨b1, 0, none⟩))), (7, some (.slice none 0 0)), (30, some (v4)), (31, some (vI (len split1))), (32, some (vI (0 : Int)))]) (own' := [some (rowS build_splitS v4 split1)]) (shr' := [Fact.pt (Shape.slice iS) (.pointer (some ⟨b1, 0, none⟩)) ids]) [2, 7, 30, 31, 32] [1] [2] rfl rfl rfl rfl ?_)
    refine Tk_block (Tk_nilrow PutS ?_)
    refine Tk_loopS (σ := (List Put) × (List build_split) × Int × Value × Value) [2, 7, 30, 31, 32] [1, 0] [0] (fun s => ⟨[(2, some (.pointer (some ⟨b1, 0, none⟩))), (7, some (s.2.2.2.1)), (30, some (s.2.2.2.2)), (31, some (vI (len split1))), (32, some (vI s.2.2.1))], [some (rowS PutS s.2.2.2.1 s.1), some (rowS build_splitS s.2.2.2.2 s.2.1)], [Fact.pt (Shape.slice iS) (.pointer (some ⟨b1, 0, none⟩)) ids]⟩) (fun nf1 s => build_SplitL1 ids split1 nf1 s.1 s.2.1 s.2.2.1 = some r) fuel ([], split1, (0 : Int), (.slice none 0 0), v4) h rfl rfl rfl rfl rfl (fun s h => by cases h) ?_
    rintro nf1 ⟨out1, l1, x1, v5, v6⟩ h
    replace h : build_SplitL1B ids split1 (build_SplitL1 ids split1 nf1) out1 l1 x1 = some r := h
    unfold build_SplitL1B at h
    refine Tk_seq (Tk_region (Tops_step rfl (OpT_bin rfl rfl rfl rfl rfl (bin_lss_i (a := x1) (b := len split1))) ?_))
    refine Tops_nil (Tk_seq ?_)
    rcases Bool.eq_false_or_eq_true (decide (x1 < (len split1))) with hg3 | hg3
    ·replace h := br_t hg3 h
     refine Tk_condT (congrArg (fun b => some (Value.bool b)) hg3) ?_
     refine Tk_skip (Tk_seq (Tk_block (Tk_seq (Tk_region (Tops_step rfl (OpT_move rfl rfl rfl rfl) ?_)))))
     obtain ⟨b2, hx5, h⟩ := ob_e h
     refine Tops_step rfl (OpT_idxO rfl rfl rfl rfl rfl slF75 (i := 1) rfl hx5) ?_
     refine Tops_step rfl (OpT_loadOA (S := build_splitS) (vs := [vU64 b2.Desc.Addr, vU32 b2.Desc.Len, vU16 b2.Desc.Flags, vU16 b2.Desc.Next, vI b2.next]) rfl rfl rfl rfl rfl tyF78 (i := 1) rfl hx5 rfl) ?_
     refine Tops_ex rfl (OpT_alloc rfl rfl rfl tyZ78) fun b3 => ?_
     refine Tops_step rfl (OpT_assign rfl rfl rfl rfl) ?_
     refine Tops_step rfl (OpT_storeC (cs' := [vU64 b2.Desc.Addr, vU32 b2.Desc.Len, vU16 b2.Desc.Flags, vU16 b2.Desc.Next, vI b2.next]) rfl rfl rfl rfl tyF78 (i := 2) rfl rfl rfl (one_of rfl) rfl) ?_
     refine Tops_nil (Tk_wkS (fr' := [(2, some (.pointer (some ⟨b1, 0, none⟩))), (7, some (v5)), (30, some (v6)), (31, some (vI (len split1))), (32, some (vI x1)), (9, some (.pointer (some ⟨b3, 0, none⟩))), (8, some (vI x1))]) (own' := [some (rowS PutS v5 out1), some (rowS build_splitS v6 l1), some (cellsR b3 78 [vU64 b2.Desc.Addr, vU32 b2.Desc.Len, vU16 b2.Desc.Flags, vU16 b2.Desc.Next, vI b2.next])]) (shr' := [Fact.pt (Shape.slice iS) (.pointer (some ⟨b1, 0, none⟩)) ids]) [2, 7, 30, 31, 32, 9, 8] [0, 1, 2] [0] rfl rfl rfl rfl ?_)
     refine Tk_drawT (by kernel_rfl) ?_
     refine TA_tb [0, 0, 0, 6, 14, 0, 32, 126, 254, 511, 1023] (by kernel_rfl) fun htb => ?_
     obtain ⟨y1, hx6, h⟩ := ob_e h
     refine TA_seg (lo := 0) (hi := 9) htb rfl rfl (by kernel_rfl) (fun c L a w => ∃ (v7 : Value), ∃ (p1 : Value), ∃ (v8 : Value), Sat c ⟨[(2, some (.pointer (some ⟨b1, 0, none⟩))), (7, some (v5)), (30, some (v6)), (31, some (vI (len split1))), (32, some (vI x1)), (9, some (.pointer (some ⟨b3, 0, none⟩))), (8, some (vI x1)), (37, bif L 0 then some (v5) else none), (38, bif L 1 then some (v7) else none), (39, bif L 2 then some (vI x1) else none), (40, bif L 3 then some (p1) else none), (41, bif L 4 then some (vI y1) else none), (42, bif L 5 then some (.pointer (some ⟨b3, 0, none⟩)) else none), (43, bif L 6 then some (.agg #[vU64 b2.Desc.Addr, vU32 b2.Desc.Len, vU16 b2.Desc.Flags, vU16 b2.Desc.Next]) else none), (44, bif L 7 then some (.agg #[vI y1, vU64 b2.Desc.Addr, vU32 b2.Desc.Len, vU16 b2.Desc.Flags, vU16 b2.Desc.Next]) else none), (45, bif L 8 then some (v8) else none)], [(some (rowS PutS v5 out1) : Option Res), (some (rowS build_splitS v6 l1) : Option Res), (some (cellsR b3 78 [vU64 b2.Desc.Addr, vU32 b2.Desc.Len, vU16 b2.Desc.Flags, vU16 b2.Desc.Next, vI b2.next]) : Option Res), (bif L 8 then some (rowS PutS v8 [(Put.mk y1 b2.Desc)]) else none : Option Res)], [Fact.pt (Shape.slice iS) (.pointer (some ⟨b1, 0, none⟩)) ids, (bif L 1 then Fact.sl iS v7 ids else Fact.tt), (bif L 3 then Fact.pt iS p1 y1 else Fact.tt)]⟩ a w) [([], []), ([], [3, 4, 7, 8]), ([], [3, 4, 7, 8]), ([1, 2], [4, 7, 8]), ([1, 2, 3], [7, 8]), ([], [6, 7, 8]), ([5], [7, 8]), ([1, 2, 3, 4, 5, 6], [8]), ([1, 2, 3, 4, 5, 6, 7], [])] rfl (by kernel_rfl) ?_ (steps_cons ?_ (steps_cons ?_ (steps_cons ?_ (steps_cons ?_ (steps_cons ?_ (steps_cons ?_ (steps_cons ?_ (steps_cons ?_ (steps_cons ?_ (steps_nil)))))))))) ?_
     ·intro a w hs
      exact ⟨undef, undef, undef, hs.startF [37, 38, 39, 40, 41, 42, 43, 44, 45] [0, 1, 2, 3] [0, 1, 2] rfl rfl rfl rfl⟩
     ·intro L a w hv K Q hK
      obtain ⟨v7, p1, v8, hs⟩ := hv
      refine wpOp_go rfl rfl hs (OpT_move rfl rfl rfl rfl) ?_
      rintro _ rfl a' w' hs'
      exact hK a' w' ⟨v7, p1, v8, hs'.putF (i := 7) rfl [0, 1, 2, 3] [0, 1, 2] rfl rfl rfl rfl⟩
     ·intro L a w hv K Q hK
      obtain ⟨v7, p1, v8, hs⟩ := hv
      refine wpOp_go rfl rfl hs (OpT_loadPS rfl rfl rfl rfl tyF26 (i := 0) rfl) ?_
      rintro _ ⟨v7', rfl⟩ a' w' hs'
      exact hK a' w' ⟨v7', p1, v8, hs'.putF (i := 8) rfl [0, 1, 2, 3] [0, 3, 2] rfl rfl rfl rfl⟩
     ·intro L a w hv K Q hK
      obtain ⟨v7, p1, v8, hs⟩ := hv
      refine wpOp_go rfl rfl hs (OpT_move rfl rfl rfl rfl) ?_
      rintro _ rfl a' w' hs'
      exact hK a' w' ⟨v7, p1, v8, hs'.putF (i := 9) rfl [0, 1, 2, 3] [0, 1, 2] rfl rfl rfl rfl⟩
     ·intro L a w hv K Q hK
      obtain ⟨v7, p1, v8, hs⟩ := hv
      refine wpOp_go rfl rfl hs (OpT_idxS rfl rfl rfl rfl rfl slF26 (i := 1) rfl hx6) ?_
      rintro _ ⟨p1', rfl⟩ a' w' hs'
      exact hK a' w' ⟨v7, p1', v8, hs'.putF (i := 10) rfl [0, 1, 2, 3] [0, 1, 3] rfl rfl rfl rfl⟩
     ·intro L a w hv K Q hK
      obtain ⟨v7, p1, v8, hs⟩ := hv
      refine wpOp_go rfl rfl hs (OpT_loadP rfl rfl rfl rfl tyF3 (i := 2) rfl rfl) ?_
      rintro _ rfl a' w' hs'
      exact hK a' w' ⟨v7, p1, v8, hs'.putF (i := 11) rfl [0, 1, 2, 3] [0, 1, 2] rfl rfl rfl rfl⟩
     ·intro L a w hv K Q hK
      obtain ⟨v7, p1, v8, hs⟩ := hv
      refine wpOp_go rfl rfl hs (OpT_fieldC rfl rfl rfl rfl fldF78x0) ?_
      rintro _ rfl a' w' hs'
      exact hK a' w' ⟨v7, p1, v8, hs'.putF (i := 12) rfl [0, 1, 2, 3] [0, 1, 2] rfl rfl rfl rfl⟩
     ·intro L a w hv K Q hK
      obtain ⟨v7, p1, v8, hs⟩ := hv
      refine wpOp_go rfl rfl hs (OpT_loadCA (vs := [vU64 b2.Desc.Addr, vU32 b2.Desc.Len, vU16 b2.Desc.Flags, vU16 b2.Desc.Next]) rfl rfl rfl rfl tyF38 (i := 2) rfl rfl rfl) ?_
      rintro _ rfl a' w' hs'
      exact hK a' w' ⟨v7, p1, v8, hs'.putF (i := 13) rfl [0, 1, 2, 3] [0, 1, 2] rfl rfl rfl rfl⟩
     ·intro L a w hv K Q hK
      obtain ⟨v7, p1, v8, hs⟩ := hv
      refine wpOp_go rfl rfl hs (OpT_build (v := .agg #[vI y1, vU64 b2.Desc.Addr, vU32 b2.Desc.Len, vU16 b2.Desc.Flags, vU16 b2.Desc.Next]) rfl rfl rfl rfl (bldV (by kernel_rfl))) ?_
      rintro _ rfl a' w' hs'
      exact hK a' w' ⟨v7, p1, v8, hs'.putF (i := 14) rfl [0, 1, 2, 3] [0, 1, 2] rfl rfl rfl rfl⟩
     ·intro L a w hv K Q hK
      obtain ⟨v7, p1, v8, hs⟩ := hv
      refine wpOp_go rfl rfl hs (OpT_buildSlice (S := PutS) (xs := [(Put.mk y1 b2.Desc)]) (css := [[vI y1, vU64 b2.Desc.Addr, vU32 b2.Desc.Len, vU16 b2.Desc.Flags, vU16 b2.Desc.Next]]) (cs := [vI y1, vU64 b2.Desc.Addr, vU32 b2.Desc.Len, vU16 b2.Desc.Flags, vU16 b2.Desc.Next]) (e := 40) rfl rfl rfl rfl (bldF slF22 (by decide) (by kernel_rfl)) rfl rfl rfl rfl (rel_plainD (S := PutS) (xs := [(Put.mk y1 b2.Desc)]) (css := [[vI y1, vU64 b2.Desc.Addr, vU32 b2.Desc.Len, vU16 b2.Desc.Flags, vU16 b2.Desc.Next]]) rfl rfl)) ?_
      rintro _ ⟨v8', rfl⟩ a' w' hs'
      exact hK a' w' ⟨v7, p1, v8', hs'.putF (i := 15) rfl [0, 1, 2, 4] [0, 1, 2] rfl rfl rfl rfl⟩
     ·intro L a w hL hv
      rw [allTrue hL] at hv
      obtain ⟨v7, p1, v8, hs⟩ := hv
      refine (show TA _ _ _ 9 ⟨[(2, some (.pointer (some ⟨b1, 0, none⟩))), (30, some (v6)), (31, some (vI (len split1))), (32, some (vI x1)), (37, some (v5)), (45, some (v8))], [some (rowS PutS v5 out1), some (rowS build_splitS v6 l1), some (rowS PutS v8 [(Put.mk y1 b2.Desc)])], [Fact.pt (Shape.slice iS) (.pointer (some ⟨b1, 0, none⟩)) ids]⟩ from ?_) a w (hs.wkS [2, 30, 31, 32, 37, 45] [0, 1, 3] [0] rfl rfl rfl rfl)
      clear hs hL
      obtain ⟨hc1, h⟩ := chk_e h
      refine TA_ex htb (by kernel_rfl) rfl rfl (OpT_appendB (S := PutS) rfl rfl rfl rfl rfl rfl slF22 (i := 0) (j := 2) rfl rfl hc1) fun v9 => ?_
      refine TA_step htb (by kernel_rfl) rfl rfl (OpT_assign rfl rfl rfl rfl) ?_
      refine TA_end rfl ?_
      refine Tk_wkS (fr' := [(2, some (.pointer (some ⟨b1, 0, none⟩))), (30, some (v6)), (31, some (vI (len split1))), (32, some (vI x1)), (7, some (v9))]) (own' := [some (rowS PutS v9 (out1 ++ [(Put.mk y1 b2.Desc)])), some (rowS build_splitS v6 l1)]) (shr' := [Fact.pt (Shape.slice iS) (.pointer (some ⟨b1, 0, none⟩)) ids]) [2, 30, 31, 32, 7] [0, 1] [0] rfl rfl rfl rfl ?_
      refine Tk_blk (Tk_region (Tops_step rfl (OpT_bin rfl rfl rfl rfl rfl (bin_add_i (a := x1) (b := (1 : Int)))) ?_))
      refine Tops_step rfl (OpT_move rfl rfl rfl rfl) ?_
      refine Tops_nil (Tk_wkS (fr' := [(2, some (.pointer (some ⟨b1, 0, none⟩))), (30, some (v6)), (31, some (vI (len split1))), (32, some (vI (wi (x1 + (1 : Int))))), (7, some (v9))]) (own' := [some (rowS PutS v9 (out1 ++ [(Put.mk y1 b2.Desc)])), some (rowS build_splitS v6 l1)]) (shr' := [Fact.pt (Shape.slice iS) (.pointer (some ⟨b1, 0, none⟩)) ids]) [2, 30, 31, 32, 7] [0, 1] [0] rfl rfl rfl rfl ?_)
      exact Tk_backS (out1 ++ [(Put.mk y1 b2.Desc)], l1, wi (x1 + (1 : Int)), v9, v6) h [2, 7, 30, 31, 32] [0, 1] [0] rfl rfl rfl rfl rfl
    ·replace h := br_f hg3 h
     refine Tk_condF (congrArg (fun b => some (Value.bool b)) hg3) ?_
     refine Tk_exit _ rfl ?_
     refine Tk_seq (Tk_region (Tops_step rfl (OpT_move rfl rfl rfl rfl) ?_))
     refine Tops_step rfl (OpT_assign rfl rfl rfl rfl) ?_
     refine Tops_step rfl (OpT_assign rfl rfl rfl rfl) ?_
     refine Tops_nil (Tk_wkS (fr' := [(4, some (v5)), (5, some (vI (0 : Int)))]) (own' := [some (rowS PutS v5 out1)]) (shr' := []) [4, 5] [0] [] rfl rfl rfl rfl ?_)
     obtain rfl := Option.some.inj h
     exact Tk_retV rfl rfl (resA (vs := [v5, vI (0 : Int)]) rfl ⟨rfl, rfl, trivial⟩) [0] [] rfl rfl rfl ⟨v5, rfl, rfl, rfl⟩
  ·replace h := br_f hg1 h
   refine TA_yes htb (by kernel_rfl) rfl rfl rfl (congrArg (fun b => some (Value.bool b)) hg1) (OpT_loadC rfl rfl rfl rfl tyF26 (i := 0) rfl rfl) ?_
   rintro _ rfl
   obtain ⟨apart1, hx7, h⟩ := ob_e h
   refine TA_yes htb (by kernel_rfl) rfl rfl rfl (congrArg (fun b => some (Value.bool b)) hg1) (OpT_call (w_build_apart hx7) [] [0] rfl rfl rfl rfl rfl callee34 rfl rfl rfl rfl) ?_
   rintro _ ⟨_, _, _, ⟨rfl, rfl, rfl⟩, rfl⟩
   refine TA_yes htb (by kernel_rfl) rfl rfl rfl (congrArg (fun b => some (Value.bool b)) hg1) (OpT_not rfl rfl rfl rfl) ?_
   rintro _ rfl
   refine TA_step htb (by kernel_rfl) rfl rfl (OpT_pickF rfl rfl rfl (congrArg (fun b => some (Value.bool b)) hg1) rfl) ?_
   obtain ⟨wrong2, hx8, h⟩ := ob_e h
   refine TA_exP htb (by kernel_rfl) rfl rfl (OpT_call (w_build_wrong hx8) [] [] rfl rfl rfl rfl rfl callee33 rfl rfl rfl rfl) ?_
   rintro _ ⟨v10, _, _, ⟨_, rfl, rfl, rfl⟩, rfl⟩
   refine TA_ex htb (by kernel_rfl) rfl rfl (OpT_buildOne fnS71 (vs := [v1, v10]) (xs := [buffer1, wrong2]) rfl rfl rfl rfl rfl slF98 rfl rfl rfl (rel_cons (rel_fn (i := 2) rfl) (rel_cons (rel_fn (i := 3) rfl) (rel_nil rfl)))) fun v11 => ?_
   refine TA_wkS (fr' := [(1, some (vl1)), (2, some (.pointer (some ⟨b1, 0, none⟩))), (23, some (v11))]) (own' := [some (cellsR b1 26 [vids1]), some (rowS fnS71 v11 [buffer1, wrong2])]) (shr' := [Fact.sl iS vids1 ids, Fact.sl SegS vl1 l]) [1, 2, 23] [0, 1] [0, 1] rfl rfl rfl rfl ?_
   obtain ⟨first2, hx9, h⟩ := ob_e h
   refine TA_exP htb (by kernel_rfl) rfl rfl (OpT_callB [1] [0, 1] (w_build_first hx9) [] rfl rfl rfl rfl rfl callee31 rfl rfl rfl rfl rfl rfl (bor_cons (bor_row 1 rfl rfl) bor_nil) (by rintro _ _ _ ⟨rfl, rfl, rfl⟩; exact ⟨rfl, ri_nil⟩)) ?_
   rintro _ ⟨_, _, _, ⟨rfl, rfl, rfl⟩, rfl⟩
   refine TA_step htb (by kernel_rfl) rfl rfl (OpT_assign rfl rfl rfl rfl) ?_
   refine TA_end rfl ?_
   refine Tk_wkS (fr' := [(1, some (vl1)), (2, some (.pointer (some ⟨b1, 0, none⟩))), (6, some (vI first2))]) (own' := [some (cellsR b1 26 [vids1])]) (shr' := [Fact.sl iS vids1 ids, Fact.sl SegS vl1 l]) [1, 2, 6] [0] [0, 1] rfl rfl rfl rfl ?_
   refine Tk_seq (Tk_region (Tops_step rfl (OpT_move rfl rfl rfl rfl) ?_))
   refine Tops_step rfl (OpT_bin rfl rfl rfl rfl rfl (bin_neq_i (a := first2) (b := (0 : Int)))) ?_
   refine Tops_nil (Tk_wkS (fr' := [(1, some (vl1)), (2, some (.pointer (some ⟨b1, 0, none⟩))), (6, some (vI first2)), (26, some (vB (first2 != (0 : Int))))]) (own' := [some (cellsR b1 26 [vids1])]) (shr' := [Fact.sl iS vids1 ids, Fact.sl SegS vl1 l]) [1, 2, 6, 26] [0] [0, 1] rfl rfl rfl rfl ?_)
   rcases Bool.eq_false_or_eq_true (first2 != (0 : Int)) with hg4 | hg4
   ·replace h := br_t hg4 h
    refine Tk_condT (congrArg (fun b => some (Value.bool b)) hg4) ?_
    refine Tk_seq (Tk_region (Tops_step rfl (OpT_move rfl rfl rfl rfl) ?_))
    refine Tops_step rfl (OpT_assign rfl rfl rfl rfl) ?_
    refine Tops_step rfl (OpT_assign rfl rfl rfl rfl) ?_
    refine Tops_nil (Tk_wkS (fr' := [(4, some (.slice none 0 0)), (5, some (vI first2))]) (own' := []) (shr' := []) [4, 5] [] [] rfl rfl rfl rfl ?_)
    refine Tk_nilrow PutS ?_
    obtain rfl := Option.some.inj h
    exact Tk_retV rfl rfl (resA (vs := [.slice none 0 0, vI first2]) rfl ⟨rfl, rfl, trivial⟩) [0] [] rfl rfl rfl ⟨(.slice none 0 0), rfl, rfl, rfl⟩
   ·replace h := br_f hg4 h
    refine Tk_condF (congrArg (fun b => some (Value.bool b)) hg4) ?_
    refine Tk_skip (Tk_seq (Tk_region (Tops_step rfl (OpT_assign rfl rfl rfl rfl) ?_)))
    refine Tops_nil (Tk_wkS (fr' := [(1, some (vl1)), (2, some (.pointer (some ⟨b1, 0, none⟩))), (7, some (.slice none 0 0))]) (own' := [some (cellsR b1 26 [vids1])]) (shr' := [Fact.sl iS vids1 ids, Fact.sl SegS vl1 l]) [1, 2, 7] [0] [0, 1] rfl rfl rfl rfl ?_)
    refine Tk_seq (Tk_seq (Tk_region (Tops_step rfl (OpT_move rfl rfl rfl rfl) ?_)))
    refine Tops_step rfl (OpT_makeFunc (vs := [.pointer (some ⟨b1, 0, none⟩)]) rfl rfl rfl rfl) ?_
    refine Tops_vs (vs_retireP (Shape.slice iS) (x := ids) (i := 0) rfl (rel_sl (i := 0) rfl)) ?_
    refine Tops_vs (vs_add (Fact.fn Try.prog (fun (x : Int) => [vI x]) (fun (x : build_split) => .agg #[vU64 x.Desc.Addr, vU32 x.Desc.Len, vU16 x.Desc.Flags, vU16 x.Desc.Next, vI x.next]) (.func (.func 36) #[] #[(.pointer (some ⟨b1, 0, none⟩))]) (fun x => build_Split_1 x ids)) (fun R hF => ⟨rfl, fun x r hx => ⟨36, [(.pointer (some ⟨b1, 0, none⟩))], [Fact.pt (Shape.slice iS) (.pointer (some ⟨b1, 0, none⟩)) ids], rfl, callee36, (fal_cons (mem_at (i := 2) rfl hF) fal_nil), w_build_Split_1 hx⟩⟩)) ?_
    obtain ⟨split2, hx10, h⟩ := ob_e h
    refine Tops_exP rfl (OpT_call (w_build_chain_buildsplit hx10) [] [1, 3] rfl rfl rfl rfl rfl callee35 rfl rfl rfl rfl) ?_
    rintro _ ⟨v12, _, _, ⟨_, rfl, rfl, rfl⟩, rfl⟩
    refine Tops_step rfl (OpT_lenO rfl rfl rfl rfl Try.underlying75 (i := 1) rfl) ?_
    refine Tops_step rfl (OpT_move rfl rfl rfl rfl) ?_
    refine Tops_nil (Tk_wkS (fr' := [(2, some (.pointer (some ⟨b1, 0, none⟩))), (7, some (.slice none 0 0)), (30, some (v12)), (31, some (vI (len split2))), (32, some (vI (0 : Int)))]) (own' := [some (rowS build_splitS v12 split2)]) (shr' := [Fact.pt (Shape.slice iS) (.pointer (some ⟨b1, 0, none⟩)) ids]) [2, 7, 30, 31, 32] [1] [2] rfl rfl rfl rfl ?_)
    refine Tk_block (Tk_nilrow PutS ?_)
    refine Tk_loopS (σ := (List Put) × (List build_split) × Int × Value × Value) [2, 7, 30, 31, 32] [1, 0] [0] (fun s => ⟨[(2, some (.pointer (some ⟨b1, 0, none⟩))), (7, some (s.2.2.2.1)), (30, some (s.2.2.2.2)), (31, some (vI (len split2))), (32, some (vI s.2.2.1))], [some (rowS PutS s.2.2.2.1 s.1), some (rowS build_splitS s.2.2.2.2 s.2.1)], [Fact.pt (Shape.slice iS) (.pointer (some ⟨b1, 0, none⟩)) ids]⟩) (fun nf2 s => build_SplitL2 ids split2 nf2 s.1 s.2.1 s.2.2.1 = some r) fuel ([], split2, (0 : Int), (.slice none 0 0), v12) h rfl rfl rfl rfl rfl (fun s h => by cases h) ?_
    rintro nf2 ⟨out2, l2, x2, v13, v14⟩ h
    replace h : build_SplitL2B ids split2 (build_SplitL2 ids split2 nf2) out2 l2 x2 = some r := h
    unfold build_SplitL2B at h
    refine Tk_seq (Tk_region (Tops_step rfl (OpT_bin rfl rfl rfl rfl rfl (bin_lss_i (a := x2) (b := len split2))) ?_))
    refine Tops_nil (Tk_seq ?_)
    rcases Bool.eq_false_or_eq_true (decide (x2 < (len split2))) with hg5 | hg5
    ·replace h := br_t hg5 h
     refine Tk_condT (congrArg (fun b => some (Value.bool b)) hg5) ?_
     refine Tk_skip (Tk_seq (Tk_block (Tk_seq (Tk_region (Tops_step rfl (OpT_move rfl rfl rfl rfl) ?_)))))
     obtain ⟨b4, hx11, h⟩ := ob_e h
     refine Tops_step rfl (OpT_idxO rfl rfl rfl rfl rfl slF75 (i := 1) rfl hx11) ?_
     refine Tops_step rfl (OpT_loadOA (S := build_splitS) (vs := [vU64 b4.Desc.Addr, vU32 b4.Desc.Len, vU16 b4.Desc.Flags, vU16 b4.Desc.Next, vI b4.next]) rfl rfl rfl rfl rfl tyF78 (i := 1) rfl hx11 rfl) ?_
     refine Tops_ex rfl (OpT_alloc rfl rfl rfl tyZ78) fun b5 => ?_
     refine Tops_step rfl (OpT_assign rfl rfl rfl rfl) ?_
     refine Tops_step rfl (OpT_storeC (cs' := [vU64 b4.Desc.Addr, vU32 b4.Desc.Len, vU16 b4.Desc.Flags, vU16 b4.Desc.Next, vI b4.next]) rfl rfl rfl rfl tyF78 (i := 2) rfl rfl rfl (one_of rfl) rfl) ?_
     refine Tops_nil (Tk_wkS (fr' := [(2, some (.pointer (some ⟨b1, 0, none⟩))), (7, some (v13)), (30, some (v14)), (31, some (vI (len split2))), (32, some (vI x2)), (9, some (.pointer (some ⟨b5, 0, none⟩))), (8, some (vI x2))]) (own' := [some (rowS PutS v13 out2), some (rowS build_splitS v14 l2), some (cellsR b5 78 [vU64 b4.Desc.Addr, vU32 b4.Desc.Len, vU16 b4.Desc.Flags, vU16 b4.Desc.Next, vI b4.next])]) (shr' := [Fact.pt (Shape.slice iS) (.pointer (some ⟨b1, 0, none⟩)) ids]) [2, 7, 30, 31, 32, 9, 8] [0, 1, 2] [0] rfl rfl rfl rfl ?_)
     refine Tk_drawT (by kernel_rfl) ?_
     refine TA_tb [0, 0, 0, 6, 14, 0, 32, 126, 254, 511, 1023] (by kernel_rfl) fun htb => ?_
     obtain ⟨y2, hx12, h⟩ := ob_e h
     refine TA_seg (lo := 0) (hi := 9) htb rfl rfl (by kernel_rfl) (fun c L a w => ∃ (v15 : Value), ∃ (p2 : Value), ∃ (v16 : Value), Sat c ⟨[(2, some (.pointer (some ⟨b1, 0, none⟩))), (7, some (v13)), (30, some (v14)), (31, some (vI (len split2))), (32, some (vI x2)), (9, some (.pointer (some ⟨b5, 0, none⟩))), (8, some (vI x2)), (37, bif L 0 then some (v13) else none), (38, bif L 1 then some (v15) else none), (39, bif L 2 then some (vI x2) else none), (40, bif L 3 then some (p2) else none), (41, bif L 4 then some (vI y2) else none), (42, bif L 5 then some (.pointer (some ⟨b5, 0, none⟩)) else none), (43, bif L 6 then some (.agg #[vU64 b4.Desc.Addr, vU32 b4.Desc.Len, vU16 b4.Desc.Flags, vU16 b4.Desc.Next]) else none), (44, bif L 7 then some (.agg #[vI y2, vU64 b4.Desc.Addr, vU32 b4.Desc.Len, vU16 b4.Desc.Flags, vU16 b4.Desc.Next]) else none), (45, bif L 8 then some (v16) else none)], [(some (rowS PutS v13 out2) : Option Res), (some (rowS build_splitS v14 l2) : Option Res), (some (cellsR b5 78 [vU64 b4.Desc.Addr, vU32 b4.Desc.Len, vU16 b4.Desc.Flags, vU16 b4.Desc.Next, vI b4.next]) : Option Res), (bif L 8 then some (rowS PutS v16 [(Put.mk y2 b4.Desc)]) else none : Option Res)], [Fact.pt (Shape.slice iS) (.pointer (some ⟨b1, 0, none⟩)) ids, (bif L 1 then Fact.sl iS v15 ids else Fact.tt), (bif L 3 then Fact.pt iS p2 y2 else Fact.tt)]⟩ a w) [([], []), ([], [3, 4, 7, 8]), ([], [3, 4, 7, 8]), ([1, 2], [4, 7, 8]), ([1, 2, 3], [7, 8]), ([], [6, 7, 8]), ([5], [7, 8]), ([1, 2, 3, 4, 5, 6], [8]), ([1, 2, 3, 4, 5, 6, 7], [])] rfl (by kernel_rfl) ?_ (steps_cons ?_ (steps_cons ?_ (steps_cons ?_ (steps_cons ?_ (steps_cons ?_ (steps_cons ?_ (steps_cons ?_ (steps_cons ?_ (steps_cons ?_ (steps_nil)))))))))) ?_
     ·intro a w hs
      exact ⟨undef, undef, undef, hs.startF [37, 38, 39, 40, 41, 42, 43, 44, 45] [0, 1, 2, 3] [0, 1, 2] rfl rfl rfl rfl⟩
     ·intro L a w hv K Q hK
      obtain ⟨v15, p2, v16, hs⟩ := hv
      refine wpOp_go rfl rfl hs (OpT_move rfl rfl rfl rfl) ?_
      rintro _ rfl a' w' hs'
      exact hK a' w' ⟨v15, p2, v16, hs'.putF (i := 7) rfl [0, 1, 2, 3] [0, 1, 2] rfl rfl rfl rfl⟩
     ·intro L a w hv K Q hK
      obtain ⟨v15, p2, v16, hs⟩ := hv
      refine wpOp_go rfl rfl hs (OpT_loadPS rfl rfl rfl rfl tyF26 (i := 0) rfl) ?_
      rintro _ ⟨v15', rfl⟩ a' w' hs'
      exact hK a' w' ⟨v15', p2, v16, hs'.putF (i := 8) rfl [0, 1, 2, 3] [0, 3, 2] rfl rfl rfl rfl⟩
     ·intro L a w hv K Q hK
      obtain ⟨v15, p2, v16, hs⟩ := hv
      refine wpOp_go rfl rfl hs (OpT_move rfl rfl rfl rfl) ?_
      rintro _ rfl a' w' hs'
      exact hK a' w' ⟨v15, p2, v16, hs'.putF (i := 9) rfl [0, 1, 2, 3] [0, 1, 2] rfl rfl rfl rfl⟩
     ·intro L a w hv K Q hK
      obtain ⟨v15, p2, v16, hs⟩ := hv
      refine wpOp_go rfl rfl hs (OpT_idxS rfl rfl rfl rfl rfl slF26 (i := 1) rfl hx12) ?_
      rintro _ ⟨p2', rfl⟩ a' w' hs'
      exact hK a' w' ⟨v15, p2', v16, hs'.putF (i := 10) rfl [0, 1, 2, 3] [0, 1, 3] rfl rfl rfl rfl⟩
     ·intro L a w hv K Q hK
      obtain ⟨v15, p2, v16, hs⟩ := hv
      refine wpOp_go rfl rfl hs (OpT_loadP rfl rfl rfl rfl tyF3 (i := 2) rfl rfl) ?_
      rintro _ rfl a' w' hs'
      exact hK a' w' ⟨v15, p2, v16, hs'.putF (i := 11) rfl [0, 1, 2, 3] [0, 1, 2] rfl rfl rfl rfl⟩
     ·intro L a w hv K Q hK
      obtain ⟨v15, p2, v16, hs⟩ := hv
      refine wpOp_go rfl rfl hs (OpT_fieldC rfl rfl rfl rfl fldF78x0) ?_
      rintro _ rfl a' w' hs'
      exact hK a' w' ⟨v15, p2, v16, hs'.putF (i := 12) rfl [0, 1, 2, 3] [0, 1, 2] rfl rfl rfl rfl⟩
     ·intro L a w hv K Q hK
      obtain ⟨v15, p2, v16, hs⟩ := hv
      refine wpOp_go rfl rfl hs (OpT_loadCA (vs := [vU64 b4.Desc.Addr, vU32 b4.Desc.Len, vU16 b4.Desc.Flags, vU16 b4.Desc.Next]) rfl rfl rfl rfl tyF38 (i := 2) rfl rfl rfl) ?_
      rintro _ rfl a' w' hs'
      exact hK a' w' ⟨v15, p2, v16, hs'.putF (i := 13) rfl [0, 1, 2, 3] [0, 1, 2] rfl rfl rfl rfl⟩
     ·intro L a w hv K Q hK
      obtain ⟨v15, p2, v16, hs⟩ := hv
      refine wpOp_go rfl rfl hs (OpT_build (v := .agg #[vI y2, vU64 b4.Desc.Addr, vU32 b4.Desc.Len, vU16 b4.Desc.Flags, vU16 b4.Desc.Next]) rfl rfl rfl rfl (bldV (by kernel_rfl))) ?_
      rintro _ rfl a' w' hs'
      exact hK a' w' ⟨v15, p2, v16, hs'.putF (i := 14) rfl [0, 1, 2, 3] [0, 1, 2] rfl rfl rfl rfl⟩
     ·intro L a w hv K Q hK
      obtain ⟨v15, p2, v16, hs⟩ := hv
      refine wpOp_go rfl rfl hs (OpT_buildSlice (S := PutS) (xs := [(Put.mk y2 b4.Desc)]) (css := [[vI y2, vU64 b4.Desc.Addr, vU32 b4.Desc.Len, vU16 b4.Desc.Flags, vU16 b4.Desc.Next]]) (cs := [vI y2, vU64 b4.Desc.Addr, vU32 b4.Desc.Len, vU16 b4.Desc.Flags, vU16 b4.Desc.Next]) (e := 40) rfl rfl rfl rfl (bldF slF22 (by decide) (by kernel_rfl)) rfl rfl rfl rfl (rel_plainD (S := PutS) (xs := [(Put.mk y2 b4.Desc)]) (css := [[vI y2, vU64 b4.Desc.Addr, vU32 b4.Desc.Len, vU16 b4.Desc.Flags, vU16 b4.Desc.Next]]) rfl rfl)) ?_
      rintro _ ⟨v16', rfl⟩ a' w' hs'
      exact hK a' w' ⟨v15, p2, v16', hs'.putF (i := 15) rfl [0, 1, 2, 4] [0, 1, 2] rfl rfl rfl rfl⟩
     ·intro L a w hL hv
      rw [allTrue hL] at hv
      obtain ⟨v15, p2, v16, hs⟩ := hv
      refine (show TA _ _ _ 9 ⟨[(2, some (.pointer (some ⟨b1, 0, none⟩))), (30, some (v14)), (31, some (vI (len split2))), (32, some (vI x2)), (37, some (v13)), (45, some (v16))], [some (rowS PutS v13 out2), some (rowS build_splitS v14 l2), some (rowS PutS v16 [(Put.mk y2 b4.Desc)])], [Fact.pt (Shape.slice iS) (.pointer (some ⟨b1, 0, none⟩)) ids]⟩ from ?_) a w (hs.wkS [2, 30, 31, 32, 37, 45] [0, 1, 3] [0] rfl rfl rfl rfl)
      clear hs hL
      obtain ⟨hc2, h⟩ := chk_e h
      refine TA_ex htb (by kernel_rfl) rfl rfl (OpT_appendB (S := PutS) rfl rfl rfl rfl rfl rfl slF22 (i := 0) (j := 2) rfl rfl hc2) fun v17 => ?_
      refine TA_step htb (by kernel_rfl) rfl rfl (OpT_assign rfl rfl rfl rfl) ?_
      refine TA_end rfl ?_
      refine Tk_wkS (fr' := [(2, some (.pointer (some ⟨b1, 0, none⟩))), (30, some (v14)), (31, some (vI (len split2))), (32, some (vI x2)), (7, some (v17))]) (own' := [some (rowS PutS v17 (out2 ++ [(Put.mk y2 b4.Desc)])), some (rowS build_splitS v14 l2)]) (shr' := [Fact.pt (Shape.slice iS) (.pointer (some ⟨b1, 0, none⟩)) ids]) [2, 30, 31, 32, 7] [0, 1] [0] rfl rfl rfl rfl ?_
      refine Tk_blk (Tk_region (Tops_step rfl (OpT_bin rfl rfl rfl rfl rfl (bin_add_i (a := x2) (b := (1 : Int)))) ?_))
      refine Tops_step rfl (OpT_move rfl rfl rfl rfl) ?_
      refine Tops_nil (Tk_wkS (fr' := [(2, some (.pointer (some ⟨b1, 0, none⟩))), (30, some (v14)), (31, some (vI (len split2))), (32, some (vI (wi (x2 + (1 : Int))))), (7, some (v17))]) (own' := [some (rowS PutS v17 (out2 ++ [(Put.mk y2 b4.Desc)])), some (rowS build_splitS v14 l2)]) (shr' := [Fact.pt (Shape.slice iS) (.pointer (some ⟨b1, 0, none⟩)) ids]) [2, 30, 31, 32, 7] [0, 1] [0] rfl rfl rfl rfl ?_)
      exact Tk_backS (out2 ++ [(Put.mk y2 b4.Desc)], l2, wi (x2 + (1 : Int)), v17, v14) h [2, 7, 30, 31, 32] [0, 1] [0] rfl rfl rfl rfl rfl
    ·replace h := br_f hg5 h
     refine Tk_condF (congrArg (fun b => some (Value.bool b)) hg5) ?_
     refine Tk_exit _ rfl ?_
     refine Tk_seq (Tk_region (Tops_step rfl (OpT_move rfl rfl rfl rfl) ?_))
     refine Tops_step rfl (OpT_assign rfl rfl rfl rfl) ?_
     refine Tops_step rfl (OpT_assign rfl rfl rfl rfl) ?_
     refine Tops_nil (Tk_wkS (fr' := [(4, some (v13)), (5, some (vI (0 : Int)))]) (own' := [some (rowS PutS v13 out2)]) (shr' := []) [4, 5] [0] [] rfl rfl rfl rfl ?_)
     obtain rfl := Option.some.inj h
     exact Tk_retV rfl rfl (resA (vs := [v13, vI (0 : Int)]) rfl ⟨rfl, rfl, trivial⟩) [0] [] rfl rfl rfl ⟨v13, rfl, rfl, rfl⟩

set_option maxRecDepth 100000 in
set_option maxHeartbeats 4000000 in
theorem w_desc_Mark {flags : UInt16} {wrap : Bool} {used : Bool} {r : UInt16} (h : desc_Mark flags wrap used = some r) :
  Ctr Try.prog 43 #[vU16 flags, vB wrap, vB used] [] []
   (fun rv own shr => rv = vU16 r ∧ own = [] ∧ shr = []) := by
 unfold desc_Mark at h
 refine Ctr.mk (args := [vU16 flags, vB wrap, vB used]) Try.func43 rfl rfl (fun R0 w0 B => ?_)
 refine Tk_seq (Tk_region (Tops_step rfl (OpT_assign rfl rfl rfl rfl) ?_))
 refine Tops_nil (Tk_wkS (fr' := [(0, some (vU16 flags)), (1, some (vB wrap)), (2, some (vB used))]) (own' := []) (shr' := []) [0, 1, 2] [] [] rfl rfl rfl rfl ?_)
 refine Tk_seq (Tk_region (Tops_step rfl (OpT_move rfl rfl rfl rfl) ?_))
 refine Tops_step rfl (OpT_bin rfl rfl rfl rfl rfl (bin_andNot_u16 (a := flags) (b := (32896 : UInt16)))) ?_
 refine Tops_step rfl (OpT_assign rfl rfl rfl rfl) ?_
 refine Tops_nil (Tk_wkS (fr' := [(0, some (vU16 (flags &&& ~~~(32896 : UInt16)))), (1, some (vB wrap)), (2, some (vB used))]) (own' := []) (shr' := []) [0, 1, 2] [] [] rfl rfl rfl rfl ?_)
 refine Tk_seq (Tk_seq (Tk_region (Tops_step rfl (OpT_move rfl rfl rfl rfl) ?_)))
 refine Tops_nil (Tk_join (α := UInt16) (fun s => ⟨[(0, some (vU16 s)), (1, some (vB wrap)), (2, some (vB used))], [], []⟩) (fun s => desc_MarkJ1 wrap used s = some r) ?_ ?_)
 ·rintro flags1 h
  replace h : desc_MarkJ1 wrap used flags1 = some r := h
  unfold desc_MarkJ1 at h
  refine Tk_seq (Tk_seq (Tk_region (Tops_step rfl (OpT_move rfl rfl rfl rfl) ?_)))
  refine Tops_step rfl (OpT_move rfl rfl rfl rfl) ?_
  refine Tops_step rfl (OpT_bin rfl rfl rfl rfl rfl (bin_eql_b (a := wrap) (b := used) Try.underlying4)) ?_
  refine Tops_nil (Tk_wkS (fr' := [(0, some (vU16 flags1)), (14, some (vB (wrap == used)))]) (own' := []) (shr' := []) [0, 14] [] [] rfl rfl rfl rfl ?_)
  rcases Bool.eq_false_or_eq_true (wrap == used) with hg1 | hg1
  ·replace h := br_t hg1 h
   refine Tk_condT (congrArg (fun b => some (Value.bool b)) hg1) ?_
   refine Tk_region (Tops_step rfl (OpT_move rfl rfl rfl rfl) ?_)
   refine Tops_step rfl (OpT_bin rfl rfl rfl rfl rfl (bin_or_u16 (a := flags1) (b := (32768 : UInt16)))) ?_
   refine Tops_step rfl (OpT_assign rfl rfl rfl rfl) ?_
   refine Tops_nil (Tk_wkS (fr' := [(0, some (vU16 (flags1 ||| (32768 : UInt16))))]) (own' := []) (shr' := []) [0] [] [] rfl rfl rfl rfl ?_)
   refine Tk_seq (Tk_region (Tops_step rfl (OpT_move rfl rfl rfl rfl) ?_))
   refine Tops_step rfl (OpT_assign rfl rfl rfl rfl) ?_
   refine Tops_nil (Tk_wkS (fr' := [(6, some (vU16 (flags1 ||| (32768 : UInt16))))]) (own' := []) (shr' := []) [6] [] [] rfl rfl rfl rfl ?_)
   obtain rfl := Option.some.inj h
   exact Tk_retV rfl rfl (resA (vs := [vU16 (flags1 ||| (32768 : UInt16))]) rfl ⟨rfl, trivial⟩) [] [] rfl rfl rfl ⟨rfl, rfl, rfl⟩
  ·replace h := br_f hg1 h
   refine Tk_condF (congrArg (fun b => some (Value.bool b)) hg1) ?_
   refine Tk_skip (Tk_seq (Tk_region (Tops_step rfl (OpT_move rfl rfl rfl rfl) ?_)))
   refine Tops_step rfl (OpT_assign rfl rfl rfl rfl) ?_
   refine Tops_nil (Tk_wkS (fr' := [(6, some (vU16 flags1))]) (own' := []) (shr' := []) [6] [] [] rfl rfl rfl rfl ?_)
   obtain rfl := Option.some.inj h
   exact Tk_retV rfl rfl (resA (vs := [vU16 flags1]) rfl ⟨rfl, trivial⟩) [] [] rfl rfl rfl ⟨rfl, rfl, rfl⟩
 ·intro HJ1
  rcases Bool.eq_false_or_eq_true (wrap) with hg2 | hg2
  ·replace h := br_t hg2 h
   refine Tk_condT (congrArg (fun b => some (Value.bool b)) hg2) ?_
   refine Tk_region (Tops_step rfl (OpT_move rfl rfl rfl rfl) ?_)
   refine Tops_step rfl (OpT_bin rfl rfl rfl rfl rfl (bin_or_u16 (a := flags &&& ~~~(32896 : UInt16)) (b := (128 : UInt16)))) ?_
   refine Tops_step rfl (OpT_assign rfl rfl rfl rfl) ?_
   refine Tops_nil (Tk_wkS (fr' := [(0, some (vU16 ((flags &&& ~~~(32896 : UInt16)) ||| (128 : UInt16)))), (1, some (vB wrap)), (2, some (vB used))]) (own' := []) (shr' := []) [0, 1, 2] [] [] rfl rfl rfl rfl ?_)
   exact Tk_jmpS (HJ1 ((flags &&& ~~~(32896 : UInt16)) ||| (128 : UInt16)) h) [0, 1, 2] [] [] rfl rfl rfl rfl
  ·replace h := br_f hg2 h
   refine Tk_condF (congrArg (fun b => some (Value.bool b)) hg2) ?_
   refine Tk_skip ?_
   exact Tk_jmpS (HJ1 (flags &&& ~~~(32896 : UInt16)) h) [0, 1, 2] [] [] rfl rfl rfl rfl

set_option maxRecDepth 100000 in
set_option maxHeartbeats 4000000 in
theorem w_build_packed_made {dp0 : build_packed} {sp1 : Seg} {more : Bool} {r : build_packed} (h : build_packed_made dp0 sp1 more = some r) :
  Ctr Try.prog 81 #[.agg #[vU64 dp0.Packed.Addr, vU32 dp0.Packed.Len, vU16 dp0.Packed.ID, vU16 dp0.Packed.Flags, vI dp0.id, vB dp0.wrap], .agg #[vU64 sp1.At, vU32 sp1.Len, vB sp1.Write], vB more] [] []
   (fun rv own shr => rv = .iface 87 (.agg #[vU64 r.Packed.Addr, vU32 r.Packed.Len, vU16 r.Packed.ID, vU16 r.Packed.Flags, vI r.id, vB r.wrap]) ∧ own = [] ∧ shr = []) := by
 unfold build_packed_made at h
 refine Ctr.mk (args := [.agg #[vU64 dp0.Packed.Addr, vU32 dp0.Packed.Len, vU16 dp0.Packed.ID, vU16 dp0.Packed.Flags, vI dp0.id, vB dp0.wrap], .agg #[vU64 sp1.At, vU32 sp1.Len, vB sp1.Write], vB more]) Try.func81 rfl rfl (fun R0 w0 B => ?_)
 refine Tk_seq (Tk_region (Tops_ex rfl (OpT_box rfl rfl rfl rfl) fun b1 => ?_))
 refine Tops_ex rfl (OpT_box rfl rfl rfl rfl) fun b2 => ?_
 refine Tops_step rfl (OpT_assign rfl rfl rfl rfl) ?_
 refine Tops_nil (Tk_wkS (fr' := [(2, some (vB more)), (3, some (.pointer (some ⟨b1, 0, none⟩))), (4, some (.pointer (some ⟨b2, 0, none⟩)))]) (own' := [some (cellsR b1 87 [vU64 dp0.Packed.Addr, vU32 dp0.Packed.Len, vU16 dp0.Packed.ID, vU16 dp0.Packed.Flags, vI dp0.id, vB dp0.wrap]), some (cellsR b2 59 [vU64 sp1.At, vU32 sp1.Len, vB sp1.Write])]) (shr' := []) [2, 3, 4] [0, 1] [] rfl rfl rfl rfl ?_)
 refine Tk_seq (Tk_region (Tops_step rfl (OpT_fieldC rfl rfl rfl rfl fldF59x0) ?_))
 refine Tops_step rfl (OpT_loadC rfl rfl rfl rfl tyF34 (i := 1) rfl rfl) ?_
 refine Tops_step rfl (OpT_fieldC rfl rfl rfl rfl fldF59x1) ?_
 refine Tops_step rfl (OpT_loadC rfl rfl rfl rfl tyF35 (i := 1) rfl rfl) ?_
 refine Tops_step rfl (OpT_fieldC rfl rfl rfl rfl fldF87x1) ?_
 refine Tops_step rfl (OpT_loadC rfl rfl rfl rfl tyF3 (i := 0) rfl rfl) ?_
 refine Tops_step rfl (OpT_cnv rfl rfl rfl rfl (cnv_i_u16 (n := dp0.id) Try.underlying3 Try.underlying36)) ?_
 refine Tops_step rfl (OpT_build (v := .agg #[vU64 sp1.At, vU32 sp1.Len, vU16 (u16 dp0.id), vU16 (0 : UInt16)]) rfl rfl rfl rfl (bldV (by kernel_rfl))) ?_
 refine Tops_step rfl (OpT_fieldC rfl rfl rfl rfl fldF87x0) ?_
 refine Tops_step rfl (OpT_storeC (cs' := [vU64 sp1.At, vU32 sp1.Len, vU16 (u16 dp0.id), vU16 (0 : UInt16), vI dp0.id, vB dp0.wrap]) rfl rfl rfl rfl tyF44 (i := 0) rfl rfl rfl (one_of rfl) rfl) ?_
 refine Tops_nil (Tk_wkS (fr' := [(2, some (vB more)), (3, some (.pointer (some ⟨b1, 0, none⟩))), (4, some (.pointer (some ⟨b2, 0, none⟩)))]) (own' := [some (cellsR b1 87 [vU64 sp1.At, vU32 sp1.Len, vU16 (u16 dp0.id), vU16 (0 : UInt16), vI dp0.id, vB dp0.wrap]), some (cellsR b2 59 [vU64 sp1.At, vU32 sp1.Len, vB sp1.Write])]) (shr' := []) [2, 3, 4] [0, 1] [] rfl rfl rfl rfl ?_)
 refine Tk_seq (Tk_seq (Tk_region (Tops_step rfl (OpT_fieldC rfl rfl rfl rfl fldF59x2) ?_)))
 refine Tops_step rfl (OpT_loadC rfl rfl rfl rfl tyF4 (i := 1) rfl rfl) ?_
 refine Tops_nil (Tk_wkS (fr' := [(2, some (vB more)), (3, some (.pointer (some ⟨b1, 0, none⟩))), (17, some (vB sp1.Write))]) (own' := [some (cellsR b1 87 [vU64 sp1.At, vU32 sp1.Len, vU16 (u16 dp0.id), vU16 (0 : UInt16), vI dp0.id, vB dp0.wrap])]) (shr' := []) [2, 3, 17] [0] [] rfl rfl rfl rfl ?_)
 refine Tk_join (α := build_packed) (fun s => ⟨[(2, some (vB more)), (3, some (.pointer (some ⟨b1, 0, none⟩)))], [some (cellsR b1 87 [vU64 s.Packed.Addr, vU32 s.Packed.Len, vU16 s.Packed.ID, vU16 s.Packed.Flags, vI s.id, vB s.wrap])], []⟩) (fun s => build_packed_madeJ1 more s = some r) ?_ ?_
 ·rintro m1 h
  replace h : build_packed_madeJ1 more m1 = some r := h
  unfold build_packed_madeJ1 at h
  refine Tk_seq (Tk_seq (Tk_region (Tops_step rfl (OpT_move rfl rfl rfl rfl) ?_)))
  refine Tops_nil (Tk_wkS (fr' := [(3, some (.pointer (some ⟨b1, 0, none⟩))), (24, some (vB more))]) (own' := [some (cellsR b1 87 [vU64 m1.Packed.Addr, vU32 m1.Packed.Len, vU16 m1.Packed.ID, vU16 m1.Packed.Flags, vI m1.id, vB m1.wrap])]) (shr' := []) [3, 24] [0] [] rfl rfl rfl rfl ?_)
  refine Tk_join (α := build_packed) (fun s => ⟨[(3, some (.pointer (some ⟨b1, 0, none⟩)))], [some (cellsR b1 87 [vU64 s.Packed.Addr, vU32 s.Packed.Len, vU16 s.Packed.ID, vU16 s.Packed.Flags, vI s.id, vB s.wrap])], []⟩) (fun s => build_packed_madeJ2 s = some r) ?_ ?_
  ·rintro m2 h
   replace h : build_packed_madeJ2 m2 = some r := h
   unfold build_packed_madeJ2 at h
   refine Tk_seq (Tk_region (Tops_step rfl (OpT_fieldC rfl rfl rfl rfl fldF87x0) ?_))
   refine Tops_step rfl (OpT_fieldC rfl rfl rfl rfl fldF44x3) ?_
   refine Tops_step rfl (OpT_loadC rfl rfl rfl rfl tyF36 (i := 0) rfl rfl) ?_
   refine Tops_step rfl (OpT_fieldC rfl rfl rfl rfl fldF87x2) ?_
   refine Tops_step rfl (OpT_loadC rfl rfl rfl rfl tyF4 (i := 0) rfl rfl) ?_
   obtain ⟨mark1, hx1, h⟩ := ob_e h
   refine Tops_exP rfl (OpT_call (w_desc_Mark hx1) [] [] rfl rfl rfl rfl rfl callee43 rfl rfl rfl rfl) ?_
   rintro _ ⟨_, _, _, ⟨rfl, rfl, rfl⟩, rfl⟩
   refine Tops_step rfl (OpT_fieldC rfl rfl rfl rfl fldF87x0) ?_
   refine Tops_step rfl (OpT_fieldC rfl rfl rfl rfl fldF44x3) ?_
   refine Tops_step rfl (OpT_storeC (cs' := [vU64 m2.Packed.Addr, vU32 m2.Packed.Len, vU16 m2.Packed.ID, vU16 mark1, vI m2.id, vB m2.wrap]) rfl rfl rfl rfl tyF36 (i := 0) rfl rfl rfl (one_of rfl) rfl) ?_
   refine Tops_nil (Tk_wkS (fr' := [(3, some (.pointer (some ⟨b1, 0, none⟩)))]) (own' := [some (cellsR b1 87 [vU64 m2.Packed.Addr, vU32 m2.Packed.Len, vU16 m2.Packed.ID, vU16 mark1, vI m2.id, vB m2.wrap])]) (shr' := []) [3] [0] [] rfl rfl rfl rfl ?_)
   refine Tk_seq (Tk_region (Tops_step rfl (OpT_loadCA (vs := [vU64 m2.Packed.Addr, vU32 m2.Packed.Len, vU16 m2.Packed.ID, vU16 mark1, vI m2.id, vB m2.wrap]) rfl rfl rfl rfl tyF87 (i := 0) rfl rfl rfl) ?_))
   refine Tops_step rfl (OpT_mkIf rfl rfl rfl rfl mkif87) ?_
   refine Tops_step rfl (OpT_assign rfl rfl rfl rfl) ?_
   refine Tops_nil (Tk_wkS (fr' := [(6, some (.iface 87 (.agg #[vU64 m2.Packed.Addr, vU32 m2.Packed.Len, vU16 m2.Packed.ID, vU16 mark1, vI m2.id, vB m2.wrap])))]) (own' := []) (shr' := []) [6] [] [] rfl rfl rfl rfl ?_)
   obtain rfl := Option.some.inj h
   exact Tk_retV rfl rfl (resA (vs := [.iface 87 (.agg #[vU64 m2.Packed.Addr, vU32 m2.Packed.Len, vU16 m2.Packed.ID, vU16 mark1, vI m2.id, vB m2.wrap])]) rfl ⟨rfl, trivial⟩) [] [] rfl rfl rfl ⟨rfl, rfl, rfl⟩
  ·intro HJ1
   rcases Bool.eq_false_or_eq_true (more) with hg1 | hg1
   ·replace h := br_t hg1 h
    refine Tk_condT (congrArg (fun b => some (Value.bool b)) hg1) ?_
    refine Tk_region (Tops_step rfl (OpT_fieldC rfl rfl rfl rfl fldF87x0) ?_)
    refine Tops_step rfl (OpT_fieldC rfl rfl rfl rfl fldF44x3) ?_
    refine Tops_step rfl (OpT_loadC rfl rfl rfl rfl tyF36 (i := 0) rfl rfl) ?_
    refine Tops_step rfl (OpT_bin rfl rfl rfl rfl rfl (bin_or_u16 (a := m1.Packed.Flags) (b := (1 : UInt16)))) ?_
    refine Tops_step rfl (OpT_fieldC rfl rfl rfl rfl fldF87x0) ?_
    refine Tops_step rfl (OpT_fieldC rfl rfl rfl rfl fldF44x3) ?_
    refine Tops_step rfl (OpT_storeC (cs' := [vU64 m1.Packed.Addr, vU32 m1.Packed.Len, vU16 m1.Packed.ID, vU16 (m1.Packed.Flags ||| (1 : UInt16)), vI m1.id, vB m1.wrap]) rfl rfl rfl rfl tyF36 (i := 0) rfl rfl rfl (one_of rfl) rfl) ?_
    refine Tops_nil (Tk_wkS (fr' := [(3, some (.pointer (some ⟨b1, 0, none⟩)))]) (own' := [some (cellsR b1 87 [vU64 m1.Packed.Addr, vU32 m1.Packed.Len, vU16 m1.Packed.ID, vU16 (m1.Packed.Flags ||| (1 : UInt16)), vI m1.id, vB m1.wrap])]) (shr' := []) [3] [0] [] rfl rfl rfl rfl ?_)
    exact Tk_jmpS (HJ1 (build_packed.mk (Packed.mk m1.Packed.Addr m1.Packed.Len m1.Packed.ID (m1.Packed.Flags ||| (1 : UInt16))) m1.id m1.wrap) h) [3] [0] [] rfl rfl rfl rfl
   ·replace h := br_f hg1 h
    refine Tk_condF (congrArg (fun b => some (Value.bool b)) hg1) ?_
    refine Tk_skip ?_
    exact Tk_jmpS (HJ1 m1 h) [3] [0] [] rfl rfl rfl rfl
 ·intro HJ2
  rcases Bool.eq_false_or_eq_true (sp1.Write) with hg2 | hg2
  ·replace h := br_t hg2 h
   refine Tk_condT (congrArg (fun b => some (Value.bool b)) hg2) ?_
   refine Tk_region (Tops_step rfl (OpT_fieldC rfl rfl rfl rfl fldF87x0) ?_)
   refine Tops_step rfl (OpT_fieldC rfl rfl rfl rfl fldF44x3) ?_
   refine Tops_step rfl (OpT_loadC rfl rfl rfl rfl tyF36 (i := 0) rfl rfl) ?_
   refine Tops_step rfl (OpT_bin rfl rfl rfl rfl rfl (bin_or_u16 (a := (0 : UInt16)) (b := (2 : UInt16)))) ?_
   refine Tops_step rfl (OpT_fieldC rfl rfl rfl rfl fldF87x0) ?_
   refine Tops_step rfl (OpT_fieldC rfl rfl rfl rfl fldF44x3) ?_
   refine Tops_step rfl (OpT_storeC (cs' := [vU64 sp1.At, vU32 sp1.Len, vU16 (u16 dp0.id), vU16 ((0 : UInt16) ||| (2 : UInt16)), vI dp0.id, vB dp0.wrap]) rfl rfl rfl rfl tyF36 (i := 0) rfl rfl rfl (one_of rfl) rfl) ?_
   refine Tops_nil (Tk_wkS (fr' := [(2, some (vB more)), (3, some (.pointer (some ⟨b1, 0, none⟩)))]) (own' := [some (cellsR b1 87 [vU64 sp1.At, vU32 sp1.Len, vU16 (u16 dp0.id), vU16 ((0 : UInt16) ||| (2 : UInt16)), vI dp0.id, vB dp0.wrap])]) (shr' := []) [2, 3] [0] [] rfl rfl rfl rfl ?_)
   exact Tk_jmpS (HJ2 (build_packed.mk (Packed.mk sp1.At sp1.Len (u16 dp0.id) ((0 : UInt16) ||| (2 : UInt16))) dp0.id dp0.wrap) h) [2, 3] [0] [] rfl rfl rfl rfl
  ·replace h := br_f hg2 h
   refine Tk_condF (congrArg (fun b => some (Value.bool b)) hg2) ?_
   refine Tk_skip ?_
   exact Tk_jmpS (HJ2 (build_packed.mk (Packed.mk sp1.At sp1.Len (u16 dp0.id) (0 : UInt16)) dp0.id dp0.wrap) h) [2, 3] [0] [] rfl rfl rfl rfl

set_option maxRecDepth 100000 in
set_option maxHeartbeats 4000000 in
theorem w_build_chain_buildpacked {l : List Seg} {of : Int → Option build_packed} {vl1 : Value} {vof1 : Value} {r : (List build_packed)} (h : build_chain_buildpacked l of = some r) :
  Ctr Try.prog 39 #[vl1, vof1] [] [Fact.sl SegS vl1 l, Fact.fn Try.prog (fun (x : Int) => [vI x]) (fun (x : build_packed) => .agg #[vU64 x.Packed.Addr, vU32 x.Packed.Len, vU16 x.Packed.ID, vU16 x.Packed.Flags, vI x.id, vB x.wrap]) vof1 of]
   (fun rv own shr => ∃ (w1 : Value), rv = w1 ∧ own = [(rowS build_packedS w1 r)] ∧ shr = []) := by
 unfold build_chain_buildpacked at h
 refine Ctr.mk (args := [vl1, vof1]) Try.func39 rfl rfl (fun R0 w0 B => ?_)
 refine Tk_seq (Tk_region (Tops_step rfl (OpT_assign rfl rfl rfl rfl) ?_))
 refine Tops_nil (Tk_wkS (fr' := [(0, some (vl1)), (1, some (vof1))]) (own' := []) (shr' := [Fact.sl SegS vl1 l, Fact.fn Try.prog (fun (x : Int) => [vI x]) (fun (x : build_packed) => .agg #[vU64 x.Packed.Addr, vU32 x.Packed.Len, vU16 x.Packed.ID, vU16 x.Packed.Flags, vI x.id, vB x.wrap]) vof1 of]) [0, 1] [] [0, 1] rfl rfl rfl rfl ?_)
 refine Tk_seq (Tk_region (Tops_step rfl (OpT_move rfl rfl rfl rfl) ?_))
 refine Tops_step rfl (OpT_lenS rfl rfl rfl rfl Try.underlying27 (i := 0) rfl) ?_
 obtain ⟨hc1, h⟩ := chk_e h
 refine Tops_ex rfl (OpT_makeD build_packedS rfl (u := (build_packed.mk (Packed.mk (0 : UInt64) (0 : UInt32) (0 : UInt16) (0 : UInt16)) (0 : Int) false)) rfl rfl rfl rfl rfl slF84 rfl hc1) fun v1 => ?_
 refine Tops_step rfl (OpT_assign rfl rfl rfl rfl) ?_
 refine Tops_nil (Tk_wkS (fr' := [(0, some (vl1)), (1, some (vof1)), (5, some (v1))]) (own' := [some (rowS build_packedS v1 (List.replicate (0 : Int).toNat (build_packed.mk (Packed.mk (0 : UInt64) (0 : UInt32) (0 : UInt16) (0 : UInt16)) (0 : Int) false)))]) (shr' := [Fact.sl SegS vl1 l, Fact.fn Try.prog (fun (x : Int) => [vI x]) (fun (x : build_packed) => .agg #[vU64 x.Packed.Addr, vU32 x.Packed.Len, vU16 x.Packed.ID, vU16 x.Packed.Flags, vI x.id, vB x.wrap]) vof1 of]) [0, 1, 5] [0] [0, 1] rfl rfl rfl rfl ?_)
 refine Tk_seq (Tk_seq (Tk_region (Tops_step rfl (OpT_move rfl rfl rfl rfl) ?_)))
 refine Tops_step rfl (OpT_lenS rfl rfl rfl rfl Try.underlying27 (i := 0) rfl) ?_
 refine Tops_step rfl (OpT_move rfl rfl rfl rfl) ?_
 refine Tops_nil (Tk_block (Tk_loopS (σ := (List build_packed) × Int × Value) [0, 1, 5, 11, 12, 13] [0] [0, 1] (fun s => ⟨[(0, some (vl1)), (1, some (vof1)), (5, some (s.2.2)), (11, some (vl1)), (12, some (vI (len l))), (13, some (vI s.2.1))], [some (rowS build_packedS s.2.2 s.1)], [Fact.sl SegS vl1 l, Fact.fn Try.prog (fun (x : Int) => [vI x]) (fun (x : build_packed) => .agg #[vU64 x.Packed.Addr, vU32 x.Packed.Len, vU16 x.Packed.ID, vU16 x.Packed.Flags, vI x.id, vB x.wrap]) vof1 of]⟩) (fun nf1 s => build_chain_buildpackedL1 l of nf1 s.1 s.2.1 = some r) fuel (List.replicate (0 : Int).toNat (build_packed.mk (Packed.mk (0 : UInt64) (0 : UInt32) (0 : UInt16) (0 : UInt16)) (0 : Int) false), (0 : Int), v1) h rfl rfl rfl rfl rfl (fun s h => by cases h) ?_))
 rintro nf1 ⟨out1, x1, v2⟩ h
 replace h : build_chain_buildpackedL1B l of (build_chain_buildpackedL1 l of nf1) out1 x1 = some r := h
 unfold build_chain_buildpackedL1B at h
 refine Tk_seq (Tk_region (Tops_step rfl (OpT_bin rfl rfl rfl rfl rfl (bin_lss_i (a := x1) (b := len l))) ?_))
 refine Tops_nil (Tk_seq ?_)
 rcases Bool.eq_false_or_eq_true (decide (x1 < (len l))) with hg1 | hg1
 ·replace h := br_t hg1 h
  refine Tk_condT (congrArg (fun b => some (Value.bool b)) hg1) ?_
  refine Tk_skip (Tk_seq (Tk_block (Tk_seq (Tk_region (Tops_step rfl (OpT_move rfl rfl rfl rfl) ?_)))))
  obtain ⟨s1, hx1, h⟩ := ob_e h
  refine Tops_ex rfl (OpT_idxS rfl rfl rfl rfl rfl slF27 (i := 0) rfl hx1) fun p1 => ?_
  refine Tops_step rfl (OpT_loadPA (vs := [vU64 s1.At, vU32 s1.Len, vB s1.Write]) rfl rfl rfl rfl tyF59 (i := 2) rfl rfl) ?_
  refine Tops_ex rfl (OpT_alloc rfl rfl rfl tyZ59) fun b1 => ?_
  refine Tops_step rfl (OpT_assign rfl rfl rfl rfl) ?_
  refine Tops_step rfl (OpT_storeC (cs' := [vU64 s1.At, vU32 s1.Len, vB s1.Write]) rfl rfl rfl rfl tyF59 (i := 1) rfl rfl rfl (one_of rfl) rfl) ?_
  refine Tops_nil (Tk_wkS (fr' := [(0, some (vl1)), (1, some (vof1)), (5, some (v2)), (11, some (vl1)), (12, some (vI (len l))), (13, some (vI x1)), (7, some (.pointer (some ⟨b1, 0, none⟩))), (6, some (vI x1))]) (own' := [some (rowS build_packedS v2 out1), some (cellsR b1 59 [vU64 s1.At, vU32 s1.Len, vB s1.Write])]) (shr' := [Fact.sl SegS vl1 l, Fact.fn Try.prog (fun (x : Int) => [vI x]) (fun (x : build_packed) => .agg #[vU64 x.Packed.Addr, vU32 x.Packed.Len, vU16 x.Packed.ID, vU16 x.Packed.Flags, vI x.id, vB x.wrap]) vof1 of]) [0, 1, 5, 11, 12, 13, 7, 6] [0, 1] [0, 1] rfl rfl rfl rfl ?_)
  refine Tk_drawT (by kernel_rfl) ?_
  refine TA_tb [0, 0, 0, 6, 14, 0, 0, 64, 0, 256, 960, 2046, 4094, 8190, 16383, 32767] (by kernel_rfl) fun htb => ?_
  obtain ⟨y1, hx2, h⟩ := ob_e h
  obtain ⟨made1, hx3, h⟩ := ob_e h
  refine TA_seg (lo := 0) (hi := 14) htb rfl rfl (by kernel_rfl) (fun c L a w => ∃ (v3 : Value), Sat c ⟨[(0, some (vl1)), (1, some (vof1)), (5, some (v2)), (11, some (vl1)), (12, some (vI (len l))), (13, some (vI x1)), (7, some (.pointer (some ⟨b1, 0, none⟩))), (6, some (vI x1)), (18, bif L 0 then some (v2) else none), (19, bif L 1 then some (vof1) else none), (20, bif L 2 then some (vI x1) else none), (21, bif L 3 then some (.agg #[vU64 y1.Packed.Addr, vU32 y1.Packed.Len, vU16 y1.Packed.ID, vU16 y1.Packed.Flags, vI y1.id, vB y1.wrap]) else none), (22, bif L 4 then some (.iface 87 (.agg #[vU64 y1.Packed.Addr, vU32 y1.Packed.Len, vU16 y1.Packed.ID, vU16 y1.Packed.Flags, vI y1.id, vB y1.wrap])) else none), (23, bif L 5 then some (.agg #[vU64 s1.At, vU32 s1.Len, vB s1.Write]) else none), (24, bif L 6 then some (vI x1) else none), (25, bif L 7 then some (vI (wi (x1 + (1 : Int)))) else none), (26, bif L 8 then some (vl1) else none), (27, bif L 9 then some (vI (len l)) else none), (28, bif L 10 then some (vB (decide ((wi (x1 + (1 : Int))) < (len l)))) else none), (29, bif L 11 then some (.iface 87 (.agg #[vU64 made1.Packed.Addr, vU32 made1.Packed.Len, vU16 made1.Packed.ID, vU16 made1.Packed.Flags, vI made1.id, vB made1.wrap])) else none), (30, bif L 12 then some (.agg #[vU64 made1.Packed.Addr, vU32 made1.Packed.Len, vU16 made1.Packed.ID, vU16 made1.Packed.Flags, vI made1.id, vB made1.wrap]) else none), (31, bif L 13 then some (v3) else none)], [(some (rowS build_packedS v2 out1) : Option Res), (some (cellsR b1 59 [vU64 s1.At, vU32 s1.Len, vB s1.Write]) : Option Res), (bif L 13 then some (rowS build_packedS v3 [made1]) else none : Option Res)], [Fact.sl SegS vl1 l, Fact.fn Try.prog (fun (x : Int) => [vI x]) (fun (x : build_packed) => .agg #[vU64 x.Packed.Addr, vU32 x.Packed.Len, vU16 x.Packed.ID, vU16 x.Packed.Flags, vI x.id, vB x.wrap]) vof1 of]⟩ a w) [([], []), ([], [3, 4, 11, 12, 13]), ([], [3, 4, 11, 12, 13]), ([1, 2], [4, 11, 12, 13]), ([1, 2, 3], [11, 12, 13]), ([], [11, 12, 13]), ([], [7, 10, 11, 12, 13]), ([6], [10, 11, 12, 13]), ([], [9, 10, 11, 12, 13]), ([8], [10, 11, 12, 13]), ([6, 7, 8, 9], [11, 12, 13]), ([1, 2, 3, 4, 5, 6, 7, 8, 9, 10], [12, 13]), ([1, 2, 3, 4, 5, 6, 7, 8, 9, 10, 11], [13]), ([1, 2, 3, 4, 5, 6, 7, 8, 9, 10, 11, 12], [])] rfl (by kernel_rfl) ?_ (steps_cons ?_ (steps_cons ?_ (steps_cons ?_ (steps_cons ?_ (steps_cons ?_ (steps_cons ?_ (steps_cons ?_ (steps_cons ?_ (steps_cons ?_ (steps_cons ?_ (steps_cons ?_ (steps_cons ?_ (steps_cons ?_ (steps_cons ?_ (steps_nil))))))))))))))) ?_
  ·intro a w hs
   exact ⟨undef, hs.startF [18, 19, 20, 21, 22, 23, 24, 25, 26, 27, 28, 29, 30, 31] [0, 1, 2] [0, 1] rfl rfl rfl rfl⟩
  ·intro L a w hv K Q hK
   obtain ⟨v3, hs⟩ := hv
   refine wpOp_go rfl rfl hs (OpT_move rfl rfl rfl rfl) ?_
   rintro _ rfl a' w' hs'
   exact hK a' w' ⟨v3, hs'.putF (i := 8) rfl [0, 1, 2] [0, 1] rfl rfl rfl rfl⟩
  ·intro L a w hv K Q hK
   obtain ⟨v3, hs⟩ := hv
   refine wpOp_go rfl rfl hs (OpT_move rfl rfl rfl rfl) ?_
   rintro _ rfl a' w' hs'
   exact hK a' w' ⟨v3, hs'.putF (i := 9) rfl [0, 1, 2] [0, 1] rfl rfl rfl rfl⟩
  ·intro L a w hv K Q hK
   obtain ⟨v3, hs⟩ := hv
   refine wpOp_go rfl rfl hs (OpT_move rfl rfl rfl rfl) ?_
   rintro _ rfl a' w' hs'
   exact hK a' w' ⟨v3, hs'.putF (i := 10) rfl [0, 1, 2] [0, 1] rfl rfl rfl rfl⟩
  ·intro L a w hv K Q hK
   obtain ⟨v3, hs⟩ := hv
   refine wpOp_go rfl rfl hs (OpT_callF (u := .agg #[vU64 y1.Packed.Addr, vU32 y1.Packed.Len, vU16 y1.Packed.ID, vU16 y1.Packed.Flags, vI y1.id, vB y1.wrap]) x1 rfl rfl rfl rfl (i := 1) rfl rfl rfl hx2 rfl) ?_
   rintro _ rfl a' w' hs'
   exact hK a' w' ⟨v3, hs'.putF (i := 11) rfl [0, 1, 2] [0, 1] rfl rfl rfl rfl⟩
  ·intro L a w hv K Q hK
   obtain ⟨v3, hs⟩ := hv
   refine wpOp_go rfl rfl hs (OpT_mkIf rfl rfl rfl rfl mkif87) ?_
   rintro _ rfl a' w' hs'
   exact hK a' w' ⟨v3, hs'.putF (i := 12) rfl [0, 1, 2] [0, 1] rfl rfl rfl rfl⟩
  ·intro L a w hv K Q hK
   obtain ⟨v3, hs⟩ := hv
   refine wpOp_go rfl rfl hs (OpT_loadCA (vs := [vU64 s1.At, vU32 s1.Len, vB s1.Write]) rfl rfl rfl rfl tyF59 (i := 1) rfl rfl rfl) ?_
   rintro _ rfl a' w' hs'
   exact hK a' w' ⟨v3, hs'.putF (i := 13) rfl [0, 1, 2] [0, 1] rfl rfl rfl rfl⟩
  ·intro L a w hv K Q hK
   obtain ⟨v3, hs⟩ := hv
   refine wpOp_go rfl rfl hs (OpT_move rfl rfl rfl rfl) ?_
   rintro _ rfl a' w' hs'
   exact hK a' w' ⟨v3, hs'.putF (i := 14) rfl [0, 1, 2] [0, 1] rfl rfl rfl rfl⟩
  ·intro L a w hv K Q hK
   obtain ⟨v3, hs⟩ := hv
   refine wpOp_go rfl rfl hs (OpT_bin rfl rfl rfl rfl rfl (bin_add_i (a := x1) (b := (1 : Int)))) ?_
   rintro _ rfl a' w' hs'
   exact hK a' w' ⟨v3, hs'.putF (i := 15) rfl [0, 1, 2] [0, 1] rfl rfl rfl rfl⟩
  ·intro L a w hv K Q hK
   obtain ⟨v3, hs⟩ := hv
   refine wpOp_go rfl rfl hs (OpT_move rfl rfl rfl rfl) ?_
   rintro _ rfl a' w' hs'
   exact hK a' w' ⟨v3, hs'.putF (i := 16) rfl [0, 1, 2] [0, 1] rfl rfl rfl rfl⟩
  ·intro L a w hv K Q hK
   obtain ⟨v3, hs⟩ := hv
   refine wpOp_go rfl rfl hs (OpT_lenS rfl rfl rfl rfl Try.underlying27 (i := 0) rfl) ?_
   rintro _ rfl a' w' hs'
   exact hK a' w' ⟨v3, hs'.putF (i := 17) rfl [0, 1, 2] [0, 1] rfl rfl rfl rfl⟩
  ·intro L a w hv K Q hK
   obtain ⟨v3, hs⟩ := hv
   refine wpOp_go rfl rfl hs (OpT_bin rfl rfl rfl rfl rfl (bin_lss_i (a := wi (x1 + (1 : Int))) (b := len l))) ?_
   rintro _ rfl a' w' hs'
   exact hK a' w' ⟨v3, hs'.putF (i := 18) rfl [0, 1, 2] [0, 1] rfl rfl rfl rfl⟩
  ·intro L a w hv K Q hK
   obtain ⟨v3, hs⟩ := hv
   refine wpOp_go rfl rfl hs (OpT_invoke (w_build_packed_made hx3) [] [] rfl rfl rfl rfl rfl ⟨meth87x81, callee81⟩ rfl rfl rfl rfl) ?_
   rintro _ ⟨_, _, _, ⟨rfl, rfl, rfl⟩, rfl⟩ a' w' hs'
   exact hK a' w' ⟨v3, hs'.putF (i := 19) rfl [0, 1, 2] [0, 1] rfl rfl rfl rfl⟩
  ·intro L a w hv K Q hK
   obtain ⟨v3, hs⟩ := hv
   refine wpOp_go rfl rfl hs (OpT_asrt rfl rfl rfl rfl asrt101x87) ?_
   rintro _ rfl a' w' hs'
   exact hK a' w' ⟨v3, hs'.putF (i := 20) rfl [0, 1, 2] [0, 1] rfl rfl rfl rfl⟩
  ·intro L a w hv K Q hK
   obtain ⟨v3, hs⟩ := hv
   refine wpOp_go rfl rfl hs (OpT_buildSlice (S := build_packedS) (xs := [made1]) (css := [[vU64 made1.Packed.Addr, vU32 made1.Packed.Len, vU16 made1.Packed.ID, vU16 made1.Packed.Flags, vI made1.id, vB made1.wrap]]) (cs := [vU64 made1.Packed.Addr, vU32 made1.Packed.Len, vU16 made1.Packed.ID, vU16 made1.Packed.Flags, vI made1.id, vB made1.wrap]) (e := 87) rfl rfl rfl rfl (bldF slF84 (by decide) (by kernel_rfl)) rfl rfl rfl rfl (rel_plainD (S := build_packedS) (xs := [made1]) (css := [[vU64 made1.Packed.Addr, vU32 made1.Packed.Len, vU16 made1.Packed.ID, vU16 made1.Packed.Flags, vI made1.id, vB made1.wrap]]) rfl rfl)) ?_
   rintro _ ⟨v3', rfl⟩ a' w' hs'
   exact hK a' w' ⟨v3', hs'.putF (i := 21) rfl [0, 1, 3] [0, 1] rfl rfl rfl rfl⟩
  ·intro L a w hL hv
   rw [allTrue hL] at hv
   obtain ⟨v3, hs⟩ := hv
   refine (show TA _ _ _ 14 ⟨[(0, some (vl1)), (1, some (vof1)), (11, some (vl1)), (12, some (vI (len l))), (13, some (vI x1)), (18, some (v2)), (31, some (v3))], [some (rowS build_packedS v2 out1), some (rowS build_packedS v3 [made1])], [Fact.sl SegS vl1 l, Fact.fn Try.prog (fun (x : Int) => [vI x]) (fun (x : build_packed) => .agg #[vU64 x.Packed.Addr, vU32 x.Packed.Len, vU16 x.Packed.ID, vU16 x.Packed.Flags, vI x.id, vB x.wrap]) vof1 of]⟩ from ?_) a w (hs.wkS [0, 1, 11, 12, 13, 18, 31] [0, 2] [0, 1] rfl rfl rfl rfl)
   clear hs hL
   obtain ⟨hc2, h⟩ := chk_e h
   refine TA_ex htb (by kernel_rfl) rfl rfl (OpT_appendB (S := build_packedS) rfl rfl rfl rfl rfl rfl slF84 (i := 0) (j := 1) rfl rfl hc2) fun v4 => ?_
   refine TA_step htb (by kernel_rfl) rfl rfl (OpT_assign rfl rfl rfl rfl) ?_
   refine TA_end rfl ?_
   refine Tk_wkS (fr' := [(0, some (vl1)), (1, some (vof1)), (11, some (vl1)), (12, some (vI (len l))), (13, some (vI x1)), (5, some (v4))]) (own' := [some (rowS build_packedS v4 (out1 ++ [made1]))]) (shr' := [Fact.sl SegS vl1 l, Fact.fn Try.prog (fun (x : Int) => [vI x]) (fun (x : build_packed) => .agg #[vU64 x.Packed.Addr, vU32 x.Packed.Len, vU16 x.Packed.ID, vU16 x.Packed.Flags, vI x.id, vB x.wrap]) vof1 of]) [0, 1, 11, 12, 13, 5] [0] [0, 1] rfl rfl rfl rfl ?_
   refine Tk_blk (Tk_region (Tops_step rfl (OpT_bin rfl rfl rfl rfl rfl (bin_add_i (a := x1) (b := (1 : Int)))) ?_))
   refine Tops_step rfl (OpT_move rfl rfl rfl rfl) ?_
   refine Tops_nil (Tk_wkS (fr' := [(0, some (vl1)), (1, some (vof1)), (11, some (vl1)), (12, some (vI (len l))), (13, some (vI (wi (x1 + (1 : Int))))), (5, some (v4))]) (own' := [some (rowS build_packedS v4 (out1 ++ [made1]))]) (shr' := [Fact.sl SegS vl1 l, Fact.fn Try.prog (fun (x : Int) => [vI x]) (fun (x : build_packed) => .agg #[vU64 x.Packed.Addr, vU32 x.Packed.Len, vU16 x.Packed.ID, vU16 x.Packed.Flags, vI x.id, vB x.wrap]) vof1 of]) [0, 1, 11, 12, 13, 5] [0] [0, 1] rfl rfl rfl rfl ?_)
   exact Tk_backS (out1 ++ [made1], wi (x1 + (1 : Int)), v4) h [0, 1, 5, 11, 12, 13] [0] [0, 1] rfl rfl rfl rfl rfl
 ·replace h := br_f hg1 h
  refine Tk_condF (congrArg (fun b => some (Value.bool b)) hg1) ?_
  refine Tk_exit _ rfl ?_
  refine Tk_seq (Tk_region (Tops_step rfl (OpT_move rfl rfl rfl rfl) ?_))
  refine Tops_step rfl (OpT_assign rfl rfl rfl rfl) ?_
  refine Tops_nil (Tk_wkS (fr' := [(4, some (v2))]) (own' := [some (rowS build_packedS v2 out1)]) (shr' := []) [4] [0] [] rfl rfl rfl rfl ?_)
  obtain rfl := Option.some.inj h
  exact Tk_retV rfl rfl (resA (vs := [v2]) rfl ⟨rfl, trivial⟩) [0] [] rfl rfl rfl ⟨v2, rfl, rfl, rfl⟩

set_option maxRecDepth 100000 in
set_option maxHeartbeats 4000000 in
theorem w_serial_isSize {np0 : Int} {r : Bool} (h : serial_isSize np0 = some r) :
  Ctr Try.prog 58 #[vI np0] [] []
   (fun rv own shr => rv = vB r ∧ own = [] ∧ shr = []) := by
 unfold serial_isSize at h
 refine Ctr.mk (args := [vI np0]) Try.func58 rfl rfl (fun R0 w0 B => ?_)
 refine Tk_seq (Tk_region (Tops_step rfl (OpT_assign rfl rfl rfl rfl) ?_))
 refine Tops_nil (Tk_wkS (fr' := [(0, some (vI np0))]) (own' := []) (shr' := []) [0] [] [] rfl rfl rfl rfl ?_)
 refine Tk_seq (Tk_region (Tops_step rfl (OpT_move rfl rfl rfl rfl) ?_))
 refine Tops_step rfl (OpT_bin rfl rfl rfl rfl rfl (bin_geq_i (a := np0) (b := (1 : Int)))) ?_
 refine Tops_step rfl (OpT_move rfl rfl rfl rfl) ?_
 rcases Bool.eq_false_or_eq_true (decide (np0 ≥ (1 : Int))) with hg1 | hg1
 ·replace h := br_t hg1 h
  refine Tops_yes rfl rfl (congrArg (fun b => some (Value.bool b)) hg1) (OpT_move rfl rfl rfl rfl) ?_
  rintro _ rfl
  refine Tops_yes rfl rfl (congrArg (fun b => some (Value.bool b)) hg1) (OpT_bin rfl rfl rfl rfl rfl (bin_leq_i (a := np0) (b := (32768 : Int)))) ?_
  rintro _ rfl
  refine Tops_step rfl (OpT_pickT rfl rfl rfl (congrArg (fun b => some (Value.bool b)) hg1) rfl) ?_
  refine Tops_step rfl (OpT_assign rfl rfl rfl rfl) ?_
  refine Tops_nil (Tk_wkS (fr' := [(2, some (vB (decide (np0 ≤ (32768 : Int)))))]) (own' := []) (shr' := []) [2] [] [] rfl rfl rfl rfl ?_)
  obtain rfl := Option.some.inj h
  exact Tk_retV rfl rfl (resA (vs := [vB (decide (np0 ≤ (32768 : Int)))]) rfl ⟨rfl, trivial⟩) [] [] rfl rfl rfl ⟨rfl, rfl, rfl⟩
 ·replace h := br_f hg1 h
  refine Tops_no rfl rfl (congrArg (fun b => some (Value.bool b)) hg1) rfl rfl ?_
  refine Tops_no rfl rfl (congrArg (fun b => some (Value.bool b)) hg1) rfl rfl ?_
  refine Tops_step rfl (OpT_pickF rfl rfl rfl (congrArg (fun b => some (Value.bool b)) hg1) rfl) ?_
  refine Tops_step rfl (OpT_assign rfl rfl rfl rfl) ?_
  refine Tops_nil (Tk_wkS (fr' := [(2, some (vB false))]) (own' := []) (shr' := []) [2] [] [] rfl rfl rfl rfl ?_)
  obtain rfl := Option.some.inj h
  exact Tk_retV rfl rfl (resA (vs := [vB false]) rfl ⟨rfl, trivial⟩) [] [] rfl rfl rfl ⟨rfl, rfl, rfl⟩

set_option maxRecDepth 100000 in
set_option maxHeartbeats 4000000 in
theorem w_serial_Check {pp0 : Pos} {size : Int} {r : Int} (h : serial_Check pp0 size = some r) :
  Ctr Try.prog 37 #[.agg #[vI pp0.At, vB pp0.Wrap], vI size] [] []
   (fun rv own shr => rv = vI r ∧ own = [] ∧ shr = []) := by
 unfold serial_Check at h
 refine Ctr.mk (args := [.agg #[vI pp0.At, vB pp0.Wrap], vI size]) Try.func37 rfl rfl (fun R0 w0 B => ?_)
 refine Tk_seq (Tk_region (Tops_ex rfl (OpT_box rfl rfl rfl rfl) fun b1 => ?_))
 refine Tops_step rfl (OpT_assign rfl rfl rfl rfl) ?_
 refine Tops_nil (Tk_wkS (fr' := [(1, some (vI size)), (2, some (.pointer (some ⟨b1, 0, none⟩)))]) (own' := [some (cellsR b1 33 [vI pp0.At, vB pp0.Wrap])]) (shr' := []) [1, 2] [0] [] rfl rfl rfl rfl ?_)
 refine Tk_seq (Tk_seq (Tk_region (Tops_step rfl (OpT_move rfl rfl rfl rfl) ?_)))
 obtain ⟨issize1, hx1, h⟩ := ob_e h
 refine Tops_exP rfl (OpT_call (w_serial_isSize hx1) [] [] rfl rfl rfl rfl rfl callee58 rfl rfl rfl rfl) ?_
 rintro _ ⟨_, _, _, ⟨rfl, rfl, rfl⟩, rfl⟩
 refine Tops_step rfl (OpT_not rfl rfl rfl rfl) ?_
 refine Tops_step rfl (OpT_move rfl rfl rfl rfl) ?_
 rcases Bool.eq_false_or_eq_true ((!issize1)) with hg1 | hg1
 ·replace h := br_t hg1 h
  refine Tops_no rfl rfl (congrArg (fun b => some (Value.bool b)) hg1) rfl rfl ?_
  refine Tops_no rfl rfl (congrArg (fun b => some (Value.bool b)) hg1) rfl rfl ?_
  refine Tops_no rfl rfl (congrArg (fun b => some (Value.bool b)) hg1) rfl rfl ?_
  refine Tops_step rfl (OpT_pickT rfl rfl rfl (congrArg (fun b => some (Value.bool b)) hg1) rfl) ?_
  refine Tops_step rfl (OpT_move rfl rfl rfl rfl) ?_
  refine Tops_no rfl rfl rfl rfl rfl ?_
  refine Tops_no rfl rfl rfl rfl rfl ?_
  refine Tops_no rfl rfl rfl rfl rfl ?_
  refine Tops_no rfl rfl rfl rfl rfl ?_
  refine Tops_step rfl (OpT_pickT rfl rfl rfl rfl rfl) ?_
  refine Tops_nil (Tk_wkS (fr' := [(18, some (vB true))]) (own' := []) (shr' := []) [18] [] [] rfl rfl rfl rfl ?_)
  refine Tk_condT rfl ?_
  refine Tk_seq (Tk_region (Tops_step rfl (OpT_assign rfl rfl rfl rfl) ?_))
  refine Tops_nil (Tk_wkS (fr' := [(4, some (vI (2 : Int)))]) (own' := []) (shr' := []) [4] [] [] rfl rfl rfl rfl ?_)
  obtain rfl := Option.some.inj h
  exact Tk_retV rfl rfl (resA (vs := [vI (2 : Int)]) rfl ⟨rfl, trivial⟩) [] [] rfl rfl rfl ⟨rfl, rfl, rfl⟩
 ·replace h := br_f hg1 h
  refine Tops_yes rfl rfl (congrArg (fun b => some (Value.bool b)) hg1) (OpT_fieldC rfl rfl rfl rfl fldF33x0) ?_
  rintro _ rfl
  refine Tops_yes rfl rfl (congrArg (fun b => some (Value.bool b)) hg1) (OpT_loadC rfl rfl rfl rfl tyF3 (i := 0) rfl rfl) ?_
  rintro _ rfl
  refine Tops_yes rfl rfl (congrArg (fun b => some (Value.bool b)) hg1) (OpT_bin rfl rfl rfl rfl rfl (bin_lss_i (a := pp0.At) (b := (0 : Int)))) ?_
  rintro _ rfl
  refine Tops_step rfl (OpT_pickF rfl rfl rfl (congrArg (fun b => some (Value.bool b)) hg1) rfl) ?_
  refine Tops_step rfl (OpT_move rfl rfl rfl rfl) ?_
  rcases Bool.eq_false_or_eq_true (decide (pp0.At < (0 : Int))) with hg2 | hg2
  ·replace h := br_t hg2 h
   refine Tops_no rfl rfl (congrArg (fun b => some (Value.bool b)) hg2) rfl rfl ?_
   refine Tops_no rfl rfl (congrArg (fun b => some (Value.bool b)) hg2) rfl rfl ?_
   refine Tops_no rfl rfl (congrArg (fun b => some (Value.bool b)) hg2) rfl rfl ?_
   refine Tops_no rfl rfl (congrArg (fun b => some (Value.bool b)) hg2) rfl rfl ?_
   refine Tops_step rfl (OpT_pickT rfl rfl rfl (congrArg (fun b => some (Value.bool b)) hg2) rfl) ?_
   refine Tops_nil (Tk_wkS (fr' := [(18, some (vB true))]) (own' := []) (shr' := []) [18] [] [] rfl rfl rfl rfl ?_)
   refine Tk_condT rfl ?_
   refine Tk_seq (Tk_region (Tops_step rfl (OpT_assign rfl rfl rfl rfl) ?_))
   refine Tops_nil (Tk_wkS (fr' := [(4, some (vI (2 : Int)))]) (own' := []) (shr' := []) [4] [] [] rfl rfl rfl rfl ?_)
   obtain rfl := Option.some.inj h
   exact Tk_retV rfl rfl (resA (vs := [vI (2 : Int)]) rfl ⟨rfl, trivial⟩) [] [] rfl rfl rfl ⟨rfl, rfl, rfl⟩
  ·replace h := br_f hg2 h
   refine Tops_yes rfl rfl (congrArg (fun b => some (Value.bool b)) hg2) (OpT_fieldC rfl rfl rfl rfl fldF33x0) ?_
   rintro _ rfl
   refine Tops_yes rfl rfl (congrArg (fun b => some (Value.bool b)) hg2) (OpT_loadC rfl rfl rfl rfl tyF3 (i := 0) rfl rfl) ?_
   rintro _ rfl
   refine Tops_yes rfl rfl (congrArg (fun b => some (Value.bool b)) hg2) (OpT_move rfl rfl rfl rfl) ?_
   rintro _ rfl
   refine Tops_yes rfl rfl (congrArg (fun b => some (Value.bool b)) hg2) (OpT_bin rfl rfl rfl rfl rfl (bin_geq_i (a := pp0.At) (b := size))) ?_
   rintro _ rfl
   refine Tops_step rfl (OpT_pickF rfl rfl rfl (congrArg (fun b => some (Value.bool b)) hg2) rfl) ?_
   refine Tops_nil (Tk_wkS (fr' := [(18, some (vB (decide (pp0.At ≥ size))))]) (own' := []) (shr' := []) [18] [] [] rfl rfl rfl rfl ?_)
   rcases Bool.eq_false_or_eq_true (decide (pp0.At ≥ size)) with hg3 | hg3
   ·replace h := br_t hg3 h
    refine Tk_condT (congrArg (fun b => some (Value.bool b)) hg3) ?_
    refine Tk_seq (Tk_region (Tops_step rfl (OpT_assign rfl rfl rfl rfl) ?_))
    refine Tops_nil (Tk_wkS (fr' := [(4, some (vI (2 : Int)))]) (own' := []) (shr' := []) [4] [] [] rfl rfl rfl rfl ?_)
    obtain rfl := Option.some.inj h
    exact Tk_retV rfl rfl (resA (vs := [vI (2 : Int)]) rfl ⟨rfl, trivial⟩) [] [] rfl rfl rfl ⟨rfl, rfl, rfl⟩
   ·replace h := br_f hg3 h
    refine Tk_condF (congrArg (fun b => some (Value.bool b)) hg3) ?_
    refine Tk_skip (Tk_seq (Tk_region (Tops_step rfl (OpT_assign rfl rfl rfl rfl) ?_)))
    refine Tops_nil (Tk_wkS (fr' := [(4, some (vI (0 : Int)))]) (own' := []) (shr' := []) [4] [] [] rfl rfl rfl rfl ?_)
    obtain rfl := Option.some.inj h
    exact Tk_retV rfl rfl (resA (vs := [vI (0 : Int)]) rfl ⟨rfl, trivial⟩) [] [] rfl rfl rfl ⟨rfl, rfl, rfl⟩

set_option maxRecDepth 100000 in
set_option maxHeartbeats 4000000 in
theorem w_serial_Go {pp0 : Pos} {byp1 : Int} {size : Int} {r : (Pos × Int)} (h : serial_Go pp0 byp1 size = some r) :
  Ctr Try.prog 38 #[.agg #[vI pp0.At, vB pp0.Wrap], vI byp1, vI size] [] []
   (fun rv own shr => rv = .tuple #[.agg #[vI r.1.At, vB r.1.Wrap], vI r.2] ∧ own = [] ∧ shr = []) := by
 unfold serial_Go at h
 refine Ctr.mk (args := [.agg #[vI pp0.At, vB pp0.Wrap], vI byp1, vI size]) Try.func38 rfl rfl (fun R0 w0 B => ?_)
 refine Tk_seq (Tk_region (Tops_ex rfl (OpT_box rfl rfl rfl rfl) fun b1 => ?_))
 refine Tops_ex rfl (OpT_alloc rfl rfl rfl tyZ33) fun b2 => ?_
 refine Tops_step rfl (OpT_assign rfl rfl rfl rfl) ?_
 refine Tops_nil (Tk_wkS (fr' := [(1, some (vI byp1)), (2, some (vI size)), (3, some (.pointer (some ⟨b1, 0, none⟩))), (6, some (.pointer (some ⟨b2, 0, none⟩)))]) (own' := [some (cellsR b1 33 [vI pp0.At, vB pp0.Wrap]), some (cellsR b2 33 [vI (0 : Int), vB false])]) (shr' := []) [1, 2, 3, 6] [0, 1] [] rfl rfl rfl rfl ?_)
 refine Tk_seq (Tk_seq (Tk_region (Tops_step rfl (OpT_loadCA (vs := [vI pp0.At, vB pp0.Wrap]) rfl rfl rfl rfl tyF33 (i := 0) rfl rfl rfl) ?_)))
 refine Tops_step rfl (OpT_move rfl rfl rfl rfl) ?_
 obtain ⟨check1, hx1, h⟩ := ob_e h
 refine Tops_exP rfl (OpT_call (w_serial_Check hx1) [] [] rfl rfl rfl rfl rfl callee37 rfl rfl rfl rfl) ?_
 rintro _ ⟨_, _, _, ⟨rfl, rfl, rfl⟩, rfl⟩
 refine Tops_step rfl (OpT_bin rfl rfl rfl rfl rfl (bin_neq_i (a := check1) (b := (0 : Int)))) ?_
 refine Tops_step rfl (OpT_move rfl rfl rfl rfl) ?_
 rcases Bool.eq_false_or_eq_true (check1 != (0 : Int)) with hg1 | hg1
 ·replace h := br_t hg1 h
  refine Tops_no rfl rfl (congrArg (fun b => some (Value.bool b)) hg1) rfl rfl ?_
  refine Tops_no rfl rfl (congrArg (fun b => some (Value.bool b)) hg1) rfl rfl ?_
  refine Tops_step rfl (OpT_pickT rfl rfl rfl (congrArg (fun b => some (Value.bool b)) hg1) rfl) ?_
  refine Tops_step rfl (OpT_move rfl rfl rfl rfl) ?_
  refine Tops_no rfl rfl rfl rfl rfl ?_
  refine Tops_no rfl rfl rfl rfl rfl ?_
  refine Tops_no rfl rfl rfl rfl rfl ?_
  refine Tops_step rfl (OpT_pickT rfl rfl rfl rfl rfl) ?_
  refine Tops_nil (Tk_wkS (fr' := [(1, some (vI byp1)), (2, some (vI size)), (3, some (.pointer (some ⟨b1, 0, none⟩))), (6, some (.pointer (some ⟨b2, 0, none⟩))), (20, some (vB true))]) (own' := [some (cellsR b1 33 [vI pp0.At, vB pp0.Wrap]), some (cellsR b2 33 [vI (0 : Int), vB false])]) (shr' := []) [1, 2, 3, 6, 20] [0, 1] [] rfl rfl rfl rfl ?_)
  refine Tk_condT rfl ?_
  refine Tk_seq (Tk_region (Tops_step rfl (OpT_build (v := .agg #[vI (0 : Int), vB false]) rfl rfl rfl rfl (bldV (by kernel_rfl))) ?_))
  refine Tops_step rfl (OpT_storeC (cs' := [vI (0 : Int), vB false]) rfl rfl rfl rfl tyF33 (i := 1) rfl rfl rfl (one_of rfl) rfl) ?_
  refine Tops_step rfl (OpT_assign rfl rfl rfl rfl) ?_
  refine Tops_nil (Tk_wkS (fr' := [(6, some (.pointer (some ⟨b2, 0, none⟩))), (7, some (vI (2 : Int)))]) (own' := [some (cellsR b2 33 [vI (0 : Int), vB false])]) (shr' := []) [6, 7] [1] [] rfl rfl rfl rfl ?_)
  obtain rfl := Option.some.inj h
  exact Tk_retV rfl rfl (resA (vs := [.agg #[vI (0 : Int), vB false], vI (2 : Int)]) rfl ⟨⟨_, 0, _, _, _, rfl, rfl, .inl ⟨tyF33, rfl, rfl⟩⟩, rfl, trivial⟩) [] [] rfl rfl rfl ⟨rfl, rfl, rfl⟩
 ·replace h := br_f hg1 h
  refine Tops_yes rfl rfl (congrArg (fun b => some (Value.bool b)) hg1) (OpT_move rfl rfl rfl rfl) ?_
  rintro _ rfl
  refine Tops_yes rfl rfl (congrArg (fun b => some (Value.bool b)) hg1) (OpT_bin rfl rfl rfl rfl rfl (bin_lss_i (a := byp1) (b := (0 : Int)))) ?_
  rintro _ rfl
  refine Tops_step rfl (OpT_pickF rfl rfl rfl (congrArg (fun b => some (Value.bool b)) hg1) rfl) ?_
  refine Tops_step rfl (OpT_move rfl rfl rfl rfl) ?_
  rcases Bool.eq_false_or_eq_true (decide (byp1 < (0 : Int))) with hg2 | hg2
  ·replace h := br_t hg2 h
   refine Tops_no rfl rfl (congrArg (fun b => some (Value.bool b)) hg2) rfl rfl ?_
   refine Tops_no rfl rfl (congrArg (fun b => some (Value.bool b)) hg2) rfl rfl ?_
   refine Tops_no rfl rfl (congrArg (fun b => some (Value.bool b)) hg2) rfl rfl ?_
   refine Tops_step rfl (OpT_pickT rfl rfl rfl (congrArg (fun b => some (Value.bool b)) hg2) rfl) ?_
   refine Tops_nil (Tk_wkS (fr' := [(1, some (vI byp1)), (2, some (vI size)), (3, some (.pointer (some ⟨b1, 0, none⟩))), (6, some (.pointer (some ⟨b2, 0, none⟩))), (20, some (vB true))]) (own' := [some (cellsR b1 33 [vI pp0.At, vB pp0.Wrap]), some (cellsR b2 33 [vI (0 : Int), vB false])]) (shr' := []) [1, 2, 3, 6, 20] [0, 1] [] rfl rfl rfl rfl ?_)
   refine Tk_condT rfl ?_
   refine Tk_seq (Tk_region (Tops_step rfl (OpT_build (v := .agg #[vI (0 : Int), vB false]) rfl rfl rfl rfl (bldV (by kernel_rfl))) ?_))
   refine Tops_step rfl (OpT_storeC (cs' := [vI (0 : Int), vB false]) rfl rfl rfl rfl tyF33 (i := 1) rfl rfl rfl (one_of rfl) rfl) ?_
   refine Tops_step rfl (OpT_assign rfl rfl rfl rfl) ?_
   refine Tops_nil (Tk_wkS (fr' := [(6, some (.pointer (some ⟨b2, 0, none⟩))), (7, some (vI (2 : Int)))]) (own' := [some (cellsR b2 33 [vI (0 : Int), vB false])]) (shr' := []) [6, 7] [1] [] rfl rfl rfl rfl ?_)
   obtain rfl := Option.some.inj h
   exact Tk_retV rfl rfl (resA (vs := [.agg #[vI (0 : Int), vB false], vI (2 : Int)]) rfl ⟨⟨_, 0, _, _, _, rfl, rfl, .inl ⟨tyF33, rfl, rfl⟩⟩, rfl, trivial⟩) [] [] rfl rfl rfl ⟨rfl, rfl, rfl⟩
  ·replace h := br_f hg2 h
   refine Tops_yes rfl rfl (congrArg (fun b => some (Value.bool b)) hg2) (OpT_move rfl rfl rfl rfl) ?_
   rintro _ rfl
   refine Tops_yes rfl rfl (congrArg (fun b => some (Value.bool b)) hg2) (OpT_move rfl rfl rfl rfl) ?_
   rintro _ rfl
   refine Tops_yes rfl rfl (congrArg (fun b => some (Value.bool b)) hg2) (OpT_bin rfl rfl rfl rfl rfl (bin_gtr_i (a := byp1) (b := size))) ?_
   rintro _ rfl
   refine Tops_step rfl (OpT_pickF rfl rfl rfl (congrArg (fun b => some (Value.bool b)) hg2) rfl) ?_
   refine Tops_nil (Tk_wkS (fr' := [(1, some (vI byp1)), (2, some (vI size)), (3, some (.pointer (some ⟨b1, 0, none⟩))), (6, some (.pointer (some ⟨b2, 0, none⟩))), (20, some (vB (decide (byp1 > size))))]) (own' := [some (cellsR b1 33 [vI pp0.At, vB pp0.Wrap]), some (cellsR b2 33 [vI (0 : Int), vB false])]) (shr' := []) [1, 2, 3, 6, 20] [0, 1] [] rfl rfl rfl rfl ?_)
   rcases Bool.eq_false_or_eq_true (decide (byp1 > size)) with hg3 | hg3
   ·replace h := br_t hg3 h
    refine Tk_condT (congrArg (fun b => some (Value.bool b)) hg3) ?_
    refine Tk_seq (Tk_region (Tops_step rfl (OpT_build (v := .agg #[vI (0 : Int), vB false]) rfl rfl rfl rfl (bldV (by kernel_rfl))) ?_))
    refine Tops_step rfl (OpT_storeC (cs' := [vI (0 : Int), vB false]) rfl rfl rfl rfl tyF33 (i := 1) rfl rfl rfl (one_of rfl) rfl) ?_
    refine Tops_step rfl (OpT_assign rfl rfl rfl rfl) ?_
    refine Tops_nil (Tk_wkS (fr' := [(6, some (.pointer (some ⟨b2, 0, none⟩))), (7, some (vI (2 : Int)))]) (own' := [some (cellsR b2 33 [vI (0 : Int), vB false])]) (shr' := []) [6, 7] [1] [] rfl rfl rfl rfl ?_)
    obtain rfl := Option.some.inj h
    exact Tk_retV rfl rfl (resA (vs := [.agg #[vI (0 : Int), vB false], vI (2 : Int)]) rfl ⟨⟨_, 0, _, _, _, rfl, rfl, .inl ⟨tyF33, rfl, rfl⟩⟩, rfl, trivial⟩) [] [] rfl rfl rfl ⟨rfl, rfl, rfl⟩
   ·replace h := br_f hg3 h
    refine Tk_condF (congrArg (fun b => some (Value.bool b)) hg3) ?_
    refine Tk_skip (Tk_seq (Tk_region (Tops_step rfl (OpT_fieldC rfl rfl rfl rfl fldF33x0) ?_)))
    refine Tops_step rfl (OpT_loadC rfl rfl rfl rfl tyF3 (i := 0) rfl rfl) ?_
    refine Tops_step rfl (OpT_move rfl rfl rfl rfl) ?_
    refine Tops_step rfl (OpT_bin rfl rfl rfl rfl rfl (bin_add_i (a := pp0.At) (b := byp1))) ?_
    refine Tops_step rfl (OpT_fieldC rfl rfl rfl rfl fldF33x0) ?_
    refine Tops_step rfl (OpT_storeC (cs' := [vI (wi (pp0.At + byp1)), vB pp0.Wrap]) rfl rfl rfl rfl tyF3 (i := 0) rfl rfl rfl (one_of rfl) rfl) ?_
    refine Tops_nil (Tk_wkS (fr' := [(2, some (vI size)), (3, some (.pointer (some ⟨b1, 0, none⟩))), (6, some (.pointer (some ⟨b2, 0, none⟩)))]) (own' := [some (cellsR b1 33 [vI (wi (pp0.At + byp1)), vB pp0.Wrap]), some (cellsR b2 33 [vI (0 : Int), vB false])]) (shr' := []) [2, 3, 6] [0, 1] [] rfl rfl rfl rfl ?_)
    refine Tk_seq (Tk_seq (Tk_region (Tops_step rfl (OpT_fieldC rfl rfl rfl rfl fldF33x0) ?_)))
    refine Tops_step rfl (OpT_loadC rfl rfl rfl rfl tyF3 (i := 0) rfl rfl) ?_
    refine Tops_step rfl (OpT_move rfl rfl rfl rfl) ?_
    refine Tops_step rfl (OpT_bin rfl rfl rfl rfl rfl (bin_geq_i (a := wi (pp0.At + byp1)) (b := size))) ?_
    refine Tops_nil (Tk_wkS (fr' := [(2, some (vI size)), (3, some (.pointer (some ⟨b1, 0, none⟩))), (6, some (.pointer (some ⟨b2, 0, none⟩))), (30, some (vB (decide ((wi (pp0.At + byp1)) ≥ size))))]) (own' := [some (cellsR b1 33 [vI (wi (pp0.At + byp1)), vB pp0.Wrap]), some (cellsR b2 33 [vI (0 : Int), vB false])]) (shr' := []) [2, 3, 6, 30] [0, 1] [] rfl rfl rfl rfl ?_)
    rcases Bool.eq_false_or_eq_true (decide ((wi (pp0.At + byp1)) ≥ size)) with hg4 | hg4
    ·replace h := br_t hg4 h
     refine Tk_condT (congrArg (fun b => some (Value.bool b)) hg4) ?_
     refine Tk_seq (Tk_region (Tops_step rfl (OpT_fieldC rfl rfl rfl rfl fldF33x0) ?_))
     refine Tops_step rfl (OpT_loadC rfl rfl rfl rfl tyF3 (i := 0) rfl rfl) ?_
     refine Tops_step rfl (OpT_move rfl rfl rfl rfl) ?_
     refine Tops_step rfl (OpT_bin rfl rfl rfl rfl rfl (bin_sub_i (a := wi (pp0.At + byp1)) (b := size))) ?_
     refine Tops_step rfl (OpT_fieldC rfl rfl rfl rfl fldF33x0) ?_
     refine Tops_step rfl (OpT_storeC (cs' := [vI (wi ((wi (pp0.At + byp1)) - size)), vB pp0.Wrap]) rfl rfl rfl rfl tyF3 (i := 0) rfl rfl rfl (one_of rfl) rfl) ?_
     refine Tops_nil (Tk_wkS (fr' := [(3, some (.pointer (some ⟨b1, 0, none⟩))), (6, some (.pointer (some ⟨b2, 0, none⟩)))]) (own' := [some (cellsR b1 33 [vI (wi ((wi (pp0.At + byp1)) - size)), vB pp0.Wrap]), some (cellsR b2 33 [vI (0 : Int), vB false])]) (shr' := []) [3, 6] [0, 1] [] rfl rfl rfl rfl ?_)
     refine Tk_region (Tops_step rfl (OpT_fieldC rfl rfl rfl rfl fldF33x1) ?_)
     refine Tops_step rfl (OpT_loadC rfl rfl rfl rfl tyF4 (i := 0) rfl rfl) ?_
     refine Tops_step rfl (OpT_not rfl rfl rfl rfl) ?_
     refine Tops_step rfl (OpT_fieldC rfl rfl rfl rfl fldF33x1) ?_
     refine Tops_step rfl (OpT_storeC (cs' := [vI (wi ((wi (pp0.At + byp1)) - size)), vB (!pp0.Wrap)]) rfl rfl rfl rfl tyF4 (i := 0) rfl rfl rfl (one_of rfl) rfl) ?_
     refine Tops_nil (Tk_wkS (fr' := [(3, some (.pointer (some ⟨b1, 0, none⟩))), (6, some (.pointer (some ⟨b2, 0, none⟩)))]) (own' := [some (cellsR b1 33 [vI (wi ((wi (pp0.At + byp1)) - size)), vB (!pp0.Wrap)]), some (cellsR b2 33 [vI (0 : Int), vB false])]) (shr' := []) [3, 6] [0, 1] [] rfl rfl rfl rfl ?_)
     refine Tk_seq (Tk_region (Tops_step rfl (OpT_loadCA (vs := [vI (wi ((wi (pp0.At + byp1)) - size)), vB (!pp0.Wrap)]) rfl rfl rfl rfl tyF33 (i := 0) rfl rfl rfl) ?_))
     refine Tops_step rfl (OpT_storeC (cs' := [vI (wi ((wi (pp0.At + byp1)) - size)), vB (!pp0.Wrap)]) rfl rfl rfl rfl tyF33 (i := 1) rfl rfl rfl (one_of rfl) rfl) ?_
     refine Tops_step rfl (OpT_assign rfl rfl rfl rfl) ?_
     refine Tops_nil (Tk_wkS (fr' := [(6, some (.pointer (some ⟨b2, 0, none⟩))), (7, some (vI (0 : Int)))]) (own' := [some (cellsR b2 33 [vI (wi ((wi (pp0.At + byp1)) - size)), vB (!pp0.Wrap)])]) (shr' := []) [6, 7] [1] [] rfl rfl rfl rfl ?_)
     obtain rfl := Option.some.inj h
     exact Tk_retV rfl rfl (resA (vs := [.agg #[vI (wi ((wi (pp0.At + byp1)) - size)), vB (!pp0.Wrap)], vI (0 : Int)]) rfl ⟨⟨_, 0, _, _, _, rfl, rfl, .inl ⟨tyF33, rfl, rfl⟩⟩, rfl, trivial⟩) [] [] rfl rfl rfl ⟨rfl, rfl, rfl⟩
    ·replace h := br_f hg4 h
     refine Tk_condF (congrArg (fun b => some (Value.bool b)) hg4) ?_
     refine Tk_skip (Tk_seq (Tk_region (Tops_step rfl (OpT_loadCA (vs := [vI (wi (pp0.At + byp1)), vB pp0.Wrap]) rfl rfl rfl rfl tyF33 (i := 0) rfl rfl rfl) ?_)))
     refine Tops_step rfl (OpT_storeC (cs' := [vI (wi (pp0.At + byp1)), vB pp0.Wrap]) rfl rfl rfl rfl tyF33 (i := 1) rfl rfl rfl (one_of rfl) rfl) ?_
     refine Tops_step rfl (OpT_assign rfl rfl rfl rfl) ?_
     refine Tops_nil (Tk_wkS (fr' := [(6, some (.pointer (some ⟨b2, 0, none⟩))), (7, some (vI (0 : Int)))]) (own' := [some (cellsR b2 33 [vI (wi (pp0.At + byp1)), vB pp0.Wrap])]) (shr' := []) [6, 7] [1] [] rfl rfl rfl rfl ?_)
     obtain rfl := Option.some.inj h
     exact Tk_retV rfl rfl (resA (vs := [.agg #[vI (wi (pp0.At + byp1)), vB pp0.Wrap], vI (0 : Int)]) rfl ⟨⟨_, 0, _, _, _, rfl, rfl, .inl ⟨tyF33, rfl, rfl⟩⟩, rfl, trivial⟩) [] [] rfl rfl rfl ⟨rfl, rfl, rfl⟩

set_option maxRecDepth 100000 in
set_option maxHeartbeats 4000000 in
theorem w_build_Packed_1 {ip0 : Int} {arg1 : Int} {arg2 : List Pos} {parg11 : Value} {parg21 : Value} {r : build_packed} (h : build_Packed_1 ip0 arg1 arg2 = some r) :
  Ctr Try.prog 40 #[vI ip0, parg11, parg21] [] [Fact.pt iS parg11 arg1, Fact.pt (Shape.slice PosS) parg21 arg2]
   (fun rv own shr => rv = .agg #[vU64 r.Packed.Addr, vU32 r.Packed.Len, vU16 r.Packed.ID, vU16 r.Packed.Flags, vI r.id, vB r.wrap] ∧ own = [] ∧ shr = []) := by
 unfold build_Packed_1 at h
 refine Ctr.mk (args := [vI ip0, parg11, parg21]) Try.func40 rfl rfl (fun R0 w0 B => ?_)
 refine Tk_seq (Tk_region (Tops_ex rfl (OpT_alloc rfl rfl rfl tyZ87) fun b1 => ?_))
 refine Tops_nil (Tk_wkS (fr' := [(0, some (vI ip0)), (1, some (parg11)), (2, some (parg21)), (4, some (.pointer (some ⟨b1, 0, none⟩)))]) (own' := [some (cellsR b1 87 [vU64 (0 : UInt64), vU32 (0 : UInt32), vU16 (0 : UInt16), vU16 (0 : UInt16), vI (0 : Int), vB false])]) (shr' := [Fact.pt iS parg11 arg1, Fact.pt (Shape.slice PosS) parg21 arg2]) [0, 1, 2, 4] [0] [0, 1] rfl rfl rfl rfl ?_)
 refine Tk_seq (Tk_drawT (by kernel_rfl) ?_)
 refine TA_tb [0, 0, 0, 6, 14, 30, 63, 127] (by kernel_rfl) fun htb => ?_
 obtain ⟨p1, hx1, h⟩ := ob_e h
 refine TA_seg (lo := 0) (hi := 6) htb rfl rfl (by kernel_rfl) (fun c L a w => ∃ (v1 : Value), ∃ (p2 : Value), ∃ (p3 : Value), Sat c ⟨[(0, some (vI ip0)), (1, some (parg11)), (2, some (parg21)), (4, some (.pointer (some ⟨b1, 0, none⟩))), (5, bif L 0 then some (vI arg1) else none), (6, bif L 1 then some (v1) else none), (7, bif L 2 then some (vI ip0) else none), (8, bif L 3 then some (p2) else none), (9, bif L 4 then some (p3) else none), (10, bif L 5 then some (vB p1.Wrap) else none)], [(some (cellsR b1 87 [vU64 (0 : UInt64), vU32 (0 : UInt32), vU16 (0 : UInt16), vU16 (0 : UInt16), vI (0 : Int), vB false]) : Option Res)], [Fact.pt iS parg11 arg1, Fact.pt (Shape.slice PosS) parg21 arg2, (bif L 1 then Fact.sl PosS v1 arg2 else Fact.tt), (bif L 3 then Fact.pt PosS p2 p1 else Fact.tt), (bif L 4 then Fact.pt bS p3 p1.Wrap else Fact.tt)]⟩ a w) [([], []), ([], [3, 4, 5]), ([], [3, 4, 5]), ([1, 2], [4, 5]), ([1, 2, 3], [5]), ([1, 2, 3, 4], [])] rfl (by kernel_rfl) ?_ (steps_cons ?_ (steps_cons ?_ (steps_cons ?_ (steps_cons ?_ (steps_cons ?_ (steps_cons ?_ (steps_nil))))))) ?_
 ·intro a w hs
  exact ⟨undef, undef, undef, hs.startF [5, 6, 7, 8, 9, 10] [0] [0, 1, 2, 3, 4] rfl rfl rfl rfl⟩
 ·intro L a w hv K Q hK
  obtain ⟨v1, p2, p3, hs⟩ := hv
  refine wpOp_go rfl rfl hs (OpT_loadP rfl rfl rfl rfl tyF3 (i := 0) rfl rfl) ?_
  rintro _ rfl a' w' hs'
  exact hK a' w' ⟨v1, p2, p3, hs'.putF (i := 4) rfl [0] [0, 1, 2, 3, 4] rfl rfl rfl rfl⟩
 ·intro L a w hv K Q hK
  obtain ⟨v1, p2, p3, hs⟩ := hv
  refine wpOp_go rfl rfl hs (OpT_loadPS rfl rfl rfl rfl tyF81 (i := 1) rfl) ?_
  rintro _ ⟨v1', rfl⟩ a' w' hs'
  exact hK a' w' ⟨v1', p2, p3, hs'.putF (i := 5) rfl [0] [0, 1, 5, 3, 4] rfl rfl rfl rfl⟩
 ·intro L a w hv K Q hK
  obtain ⟨v1, p2, p3, hs⟩ := hv
  refine wpOp_go rfl rfl hs (OpT_move rfl rfl rfl rfl) ?_
  rintro _ rfl a' w' hs'
  exact hK a' w' ⟨v1, p2, p3, hs'.putF (i := 6) rfl [0] [0, 1, 2, 3, 4] rfl rfl rfl rfl⟩
 ·intro L a w hv K Q hK
  obtain ⟨v1, p2, p3, hs⟩ := hv
  refine wpOp_go rfl rfl hs (OpT_idxS rfl rfl rfl rfl rfl slF81 (i := 2) rfl hx1) ?_
  rintro _ ⟨p2', rfl⟩ a' w' hs'
  exact hK a' w' ⟨v1, p2', p3, hs'.putF (i := 7) rfl [0] [0, 1, 2, 5, 4] rfl rfl rfl rfl⟩
 ·intro L a w hv K Q hK
  obtain ⟨v1, p2, p3, hs⟩ := hv
  refine wpOp_go rfl rfl hs (OpT_fieldP (S' := bS) (y := p1.Wrap) rfl rfl rfl rfl fldF33x1 (i := 3) rfl (by intro h cs hr; subst hr; rfl)) ?_
  rintro _ ⟨p3', rfl⟩ a' w' hs'
  exact hK a' w' ⟨v1, p2, p3', hs'.putF (i := 8) rfl [0] [0, 1, 2, 3, 5] rfl rfl rfl rfl⟩
 ·intro L a w hv K Q hK
  obtain ⟨v1, p2, p3, hs⟩ := hv
  refine wpOp_go rfl rfl hs (OpT_loadP rfl rfl rfl rfl tyF4 (i := 4) rfl rfl) ?_
  rintro _ rfl a' w' hs'
  exact hK a' w' ⟨v1, p2, p3, hs'.putF (i := 9) rfl [0] [0, 1, 2, 3, 4] rfl rfl rfl rfl⟩
 ·intro L a w hL hv
  rw [allTrue hL] at hv
  obtain ⟨v1, p2, p3, hs⟩ := hv
  refine (show TA _ _ _ 6 ⟨[(4, some (.pointer (some ⟨b1, 0, none⟩))), (5, some (vI arg1)), (10, some (vB p1.Wrap))], [some (cellsR b1 87 [vU64 (0 : UInt64), vU32 (0 : UInt32), vU16 (0 : UInt16), vU16 (0 : UInt16), vI (0 : Int), vB false])], []⟩ from ?_) a w (hs.wkS [4, 5, 10] [0] [] rfl rfl rfl rfl)
  clear hs hL
  refine TA_step htb (by kernel_rfl) rfl rfl (OpT_build (v := .agg #[vU64 (0 : UInt64), vU32 (0 : UInt32), vU16 (0 : UInt16), vU16 (0 : UInt16), vI arg1, vB p1.Wrap]) rfl rfl rfl rfl (bldV (by kernel_rfl))) ?_
  refine TA_step htb (by kernel_rfl) rfl rfl (OpT_storeC (cs' := [vU64 (0 : UInt64), vU32 (0 : UInt32), vU16 (0 : UInt16), vU16 (0 : UInt16), vI arg1, vB p1.Wrap]) rfl rfl rfl rfl tyF87 (i := 0) rfl rfl rfl (one_of rfl) rfl) ?_
  refine TA_end rfl ?_
  refine Tk_wkS (fr' := [(4, some (.pointer (some ⟨b1, 0, none⟩)))]) (own' := [some (cellsR b1 87 [vU64 (0 : UInt64), vU32 (0 : UInt32), vU16 (0 : UInt16), vU16 (0 : UInt16), vI arg1, vB p1.Wrap])]) (shr' := []) [4] [0] [] rfl rfl rfl rfl ?_
  obtain rfl := Option.some.inj h
  exact Tk_retV rfl rfl (resA (vs := [.agg #[vU64 (0 : UInt64), vU32 (0 : UInt32), vU16 (0 : UInt16), vU16 (0 : UInt16), vI arg1, vB p1.Wrap]]) rfl ⟨⟨_, 0, _, _, _, rfl, rfl, .inl ⟨tyF87, rfl, rfl⟩⟩, trivial⟩) [] [] rfl rfl rfl ⟨rfl, rfl, rfl⟩

set_option maxRecDepth 100000 in
set_option maxHeartbeats 4000000 in
theorem w_build_Packed {pp0 : Pos} {size : Int} {id : Int} {l : List Seg} {vl1 : Value} {r : ((List PutPacked) × Int)} (h : build_Packed pp0 size id l = some r) :
  Ctr Try.prog 9 #[.agg #[vI pp0.At, vB pp0.Wrap], vI size, vI id, vl1] [] [Fact.sl SegS vl1 l]
   (fun rv own shr => ∃ (w1 : Value), rv = .tuple #[w1, vI r.2] ∧ own = [(rowS PutPackedS w1 r.1)] ∧ shr = []) := by
 unfold build_Packed at h
 refine Ctr.mk (args := [.agg #[vI pp0.At, vB pp0.Wrap], vI size, vI id, vl1]) Try.func9 rfl rfl (fun R0 w0 B => ?_)
 refine Tk_seq (Tk_region (Tops_ex rfl (OpT_box rfl rfl rfl rfl) fun b1 => ?_))
 refine Tops_ex rfl (OpT_box rfl rfl rfl rfl) fun b2 => ?_
 refine Tops_step rfl (OpT_assign rfl rfl rfl rfl) ?_
 refine Tops_step rfl (OpT_assign rfl rfl rfl rfl) ?_
 refine Tops_nil (Tk_wkS (fr' := [(1, some (vI size)), (3, some (vl1)), (4, some (.pointer (some ⟨b1, 0, none⟩))), (6, some (.pointer (some ⟨b2, 0, none⟩)))]) (own' := [some (cellsR b1 33 [vI pp0.At, vB pp0.Wrap]), some (cellsR b2 3 [vI id])]) (shr' := [Fact.sl SegS vl1 l]) [1, 3, 4, 6] [0, 1] [0] rfl rfl rfl rfl ?_)
 refine Tk_seq (Tk_seq (Tk_drawT (by kernel_rfl) ?_))
 refine TA_tb [0, 1, 0, 0, 15, 31, 63, 127, 255, 511, 1023, 2047, 2047, 8191, 16383, 32767, 65535, 131071, 65535, 524287, 1048575, 2097151, 4194303, 8388607, 16777215] (by kernel_rfl) fun htb => ?_
 obtain ⟨buffer1, hx1, h⟩ := ob_e h
 refine TA_seg (lo := 0) (hi := 4) htb rfl rfl (by kernel_rfl) (fun c L a w => ∃ (v1 : Value), Sat c ⟨[(1, some (vI size)), (3, some (vl1)), (4, some (.pointer (some ⟨b1, 0, none⟩))), (6, some (.pointer (some ⟨b2, 0, none⟩))), (15, bif L 0 then some (vl1) else none), (16, bif L 1 then some (v1) else none), (17, bif L 2 then some (.agg #[vI pp0.At, vB pp0.Wrap]) else none), (18, bif L 3 then some (vI size) else none)], [(some (cellsR b1 33 [vI pp0.At, vB pp0.Wrap]) : Option Res), (some (cellsR b2 3 [vI id]) : Option Res)], [Fact.sl SegS vl1 l, (bif L 1 then Fact.fn Try.prog av0 vI v1 (fun _ => buffer1) else Fact.tt)]⟩ a w) [([], [1]), ([0], []), ([], []), ([], [])] rfl (by kernel_rfl) ?_ (steps_cons ?_ (steps_cons ?_ (steps_cons ?_ (steps_cons ?_ (steps_nil))))) ?_
 ·intro a w hs
  exact ⟨undef, hs.startF [15, 16, 17, 18] [0, 1] [0, 1] rfl rfl rfl rfl⟩
 ·intro L a w hv K Q hK
  obtain ⟨v1, hs⟩ := hv
  refine wpOp_go rfl rfl hs (OpT_move rfl rfl rfl rfl) ?_
  rintro _ rfl a' w' hs'
  exact hK a' w' ⟨v1, hs'.putF (i := 4) rfl [0, 1] [0, 1] rfl rfl rfl rfl⟩
 ·intro L a w hv K Q hK
  obtain ⟨v1, hs⟩ := hv
  refine wpOp_go rfl rfl hs (OpT_call (w_build_buffer hx1) [] [0] rfl rfl rfl rfl rfl callee32 rfl rfl rfl rfl) ?_
  rintro _ ⟨v1', _, _, ⟨_, rfl, rfl, rfl⟩, rfl⟩ a' w' hs'
  exact hK a' w' ⟨v1', hs'.putF (i := 5) rfl [0, 1] [0, 2] rfl rfl rfl rfl⟩
 ·intro L a w hv K Q hK
  obtain ⟨v1, hs⟩ := hv
  refine wpOp_go rfl rfl hs (OpT_loadCA (vs := [vI pp0.At, vB pp0.Wrap]) rfl rfl rfl rfl tyF33 (i := 0) rfl rfl rfl) ?_
  rintro _ rfl a' w' hs'
  exact hK a' w' ⟨v1, hs'.putF (i := 6) rfl [0, 1] [0, 1] rfl rfl rfl rfl⟩
 ·intro L a w hv K Q hK
  obtain ⟨v1, hs⟩ := hv
  refine wpOp_go rfl rfl hs (OpT_move rfl rfl rfl rfl) ?_
  rintro _ rfl a' w' hs'
  exact hK a' w' ⟨v1, hs'.putF (i := 7) rfl [0, 1] [0, 1] rfl rfl rfl rfl⟩
 ·intro L a w hL hv
  rw [allTrue hL] at hv
  obtain ⟨v1, hs⟩ := hv
  refine (show TA _ _ _ 4 ⟨[(1, some (vI size)), (3, some (vl1)), (4, some (.pointer (some ⟨b1, 0, none⟩))), (6, some (.pointer (some ⟨b2, 0, none⟩))), (16, some (v1)), (17, some (.agg #[vI pp0.At, vB pp0.Wrap])), (18, some (vI size))], [some (cellsR b1 33 [vI pp0.At, vB pp0.Wrap]), some (cellsR b2 3 [vI id])], [Fact.sl SegS vl1 l, Fact.fn Try.prog av0 vI v1 (fun _ => buffer1)]⟩ from ?_) a w (hs.wkS [1, 3, 4, 6, 16, 17, 18] [0, 1] [0, 1] rfl rfl rfl rfl)
  clear hs hL
  obtain ⟨check1, hx2, h⟩ := ob_e h
  refine TA_exP htb (by kernel_rfl) rfl rfl (OpT_call (w_serial_Check hx2) [] [] rfl rfl rfl rfl rfl callee37 rfl rfl rfl rfl) ?_
  rintro _ ⟨_, _, _, ⟨rfl, rfl, rfl⟩, rfl⟩
  refine TA_step htb (by kernel_rfl) rfl rfl (OpT_bin rfl rfl rfl rfl rfl (bin_neq_i (a := check1) (b := (0 : Int)))) ?_
  refine TA_step htb (by kernel_rfl) rfl rfl (OpT_move rfl rfl rfl rfl) ?_
  rcases Bool.eq_false_or_eq_true (check1 != (0 : Int)) with hg1 | hg1
  ·replace h := br_t hg1 h
   refine TA_no htb (by kernel_rfl) rfl rfl rfl (congrArg (fun b => some (Value.bool b)) hg1) rfl rfl ?_
   refine TA_no htb (by kernel_rfl) rfl rfl rfl (congrArg (fun b => some (Value.bool b)) hg1) rfl rfl ?_
   refine TA_step htb (by kernel_rfl) rfl rfl (OpT_pickT rfl rfl rfl (congrArg (fun b => some (Value.bool b)) hg1) rfl) ?_
   refine TA_step htb (by kernel_rfl) rfl rfl (OpT_move rfl rfl rfl rfl) ?_
   refine TA_wkS (fr' := [(1, some (vI size)), (3, some (vl1)), (4, some (.pointer (some ⟨b1, 0, none⟩))), (6, some (.pointer (some ⟨b2, 0, none⟩))), (16, some (v1)), (25, some (vB true))]) (own' := [some (cellsR b1 33 [vI pp0.At, vB pp0.Wrap]), some (cellsR b2 3 [vI id])]) (shr' := [Fact.sl SegS vl1 l, Fact.fn Try.prog av0 vI v1 (fun _ => buffer1)]) [1, 3, 4, 6, 16, 25] [0, 1] [0, 1] rfl rfl rfl rfl ?_
   refine TA_seg (lo := 11) (hi := 13) htb rfl rfl (by kernel_rfl) (fun c L a w => Sat c ⟨[(1, some (vI size)), (3, some (vl1)), (4, some (.pointer (some ⟨b1, 0, none⟩))), (6, some (.pointer (some ⟨b2, 0, none⟩))), (16, some (v1)), (25, some (vB true)), (26, bif L 11 then some (undef) else none), (27, bif L 12 then some (undef) else none)], [(some (cellsR b1 33 [vI pp0.At, vB pp0.Wrap]) : Option Res), (some (cellsR b2 3 [vI id]) : Option Res)], [Fact.sl SegS vl1 l, Fact.fn Try.prog av0 vI v1 (fun _ => buffer1)]⟩ a w) [([], []), ([], [])] rfl (by kernel_rfl) ?_ (steps_cons ?_ (steps_cons ?_ (steps_nil))) ?_
   ·intro a w hs
    exact hs.startF [26, 27] [0, 1] [0, 1] rfl rfl rfl rfl
   ·intro L a w hv K Q hK
    have hs := hv
    refine wpOp_no rfl rfl rfl hs rfl rfl rfl ?_
    intro a' w' hs'
    exact hK a' w' (hs'.putF (i := 6) rfl [0, 1] [0, 1] rfl rfl rfl rfl)
   ·intro L a w hv K Q hK
    have hs := hv
    refine wpOp_no rfl rfl rfl hs rfl rfl rfl ?_
    intro a' w' hs'
    exact hK a' w' (hs'.putF (i := 7) rfl [0, 1] [0, 1] rfl rfl rfl rfl)
   ·intro L a w hL hv
    rw [allTrue hL] at hv
    have hs := hv
    refine (show TA _ _ _ 13 ⟨[(1, some (vI size)), (3, some (vl1)), (4, some (.pointer (some ⟨b1, 0, none⟩))), (6, some (.pointer (some ⟨b2, 0, none⟩))), (16, some (v1)), (25, some (vB true)), (26, some (undef)), (27, some (undef))], [some (cellsR b1 33 [vI pp0.At, vB pp0.Wrap]), some (cellsR b2 3 [vI id])], [Fact.sl SegS vl1 l, Fact.fn Try.prog av0 vI v1 (fun _ => buffer1)]⟩ from ?_) a w (hs.wkS [1, 3, 4, 6, 16, 25, 26, 27] [0, 1] [0, 1] rfl rfl rfl rfl)
    clear hs hL
    refine TA_no htb (by kernel_rfl) rfl rfl rfl rfl rfl rfl ?_
    refine TA_step htb (by kernel_rfl) rfl rfl (OpT_pickT rfl rfl rfl rfl rfl) ?_
    refine TA_step htb (by kernel_rfl) rfl rfl (OpT_move rfl rfl rfl rfl) ?_
    refine TA_wkS (fr' := [(1, some (vI size)), (3, some (vl1)), (4, some (.pointer (some ⟨b1, 0, none⟩))), (6, some (.pointer (some ⟨b2, 0, none⟩))), (16, some (v1)), (30, some (vB true))]) (own' := [some (cellsR b1 33 [vI pp0.At, vB pp0.Wrap]), some (cellsR b2 3 [vI id])]) (shr' := [Fact.sl SegS vl1 l, Fact.fn Try.prog av0 vI v1 (fun _ => buffer1)]) [1, 3, 4, 6, 16, 30] [0, 1] [0, 1] rfl rfl rfl rfl ?_
    refine TA_seg (lo := 16) (hi := 19) htb rfl rfl (by kernel_rfl) (fun c L a w => Sat c ⟨[(1, some (vI size)), (3, some (vl1)), (4, some (.pointer (some ⟨b1, 0, none⟩))), (6, some (.pointer (some ⟨b2, 0, none⟩))), (16, some (v1)), (30, some (vB true)), (31, bif L 16 then some (undef) else none), (32, bif L 17 then some (undef) else none), (33, bif L 18 then some (undef) else none)], [(some (cellsR b1 33 [vI pp0.At, vB pp0.Wrap]) : Option Res), (some (cellsR b2 3 [vI id]) : Option Res)], [Fact.sl SegS vl1 l, Fact.fn Try.prog av0 vI v1 (fun _ => buffer1)]⟩ a w) [([], [17]), ([16], []), ([], [])] rfl (by kernel_rfl) ?_ (steps_cons ?_ (steps_cons ?_ (steps_cons ?_ (steps_nil)))) ?_
    ·intro a w hs
     exact hs.startF [31, 32, 33] [0, 1] [0, 1] rfl rfl rfl rfl
    ·intro L a w hv K Q hK
     have hs := hv
     refine wpOp_no rfl rfl rfl hs rfl rfl rfl ?_
     intro a' w' hs'
     exact hK a' w' (hs'.putF (i := 6) rfl [0, 1] [0, 1] rfl rfl rfl rfl)
    ·intro L a w hv K Q hK
     have hs := hv
     refine wpOp_no rfl rfl rfl hs rfl rfl rfl ?_
     intro a' w' hs'
     exact hK a' w' (hs'.putF (i := 7) rfl [0, 1] [0, 1] rfl rfl rfl rfl)
    ·intro L a w hv K Q hK
     have hs := hv
     refine wpOp_no rfl rfl rfl hs rfl rfl rfl ?_
     intro a' w' hs'
     exact hK a' w' (hs'.putF (i := 8) rfl [0, 1] [0, 1] rfl rfl rfl rfl)
    ·intro L a w hL hv
     rw [allTrue hL] at hv
     have hs := hv
     refine (show TA _ _ _ 19 ⟨[(1, some (vI size)), (3, some (vl1)), (4, some (.pointer (some ⟨b1, 0, none⟩))), (6, some (.pointer (some ⟨b2, 0, none⟩))), (16, some (v1)), (30, some (vB true)), (32, some (undef)), (33, some (undef))], [some (cellsR b1 33 [vI pp0.At, vB pp0.Wrap]), some (cellsR b2 3 [vI id])], [Fact.sl SegS vl1 l, Fact.fn Try.prog av0 vI v1 (fun _ => buffer1)]⟩ from ?_) a w (hs.wkS [1, 3, 4, 6, 16, 30, 32, 33] [0, 1] [0, 1] rfl rfl rfl rfl)
     clear hs hL
     refine TA_no htb (by kernel_rfl) rfl rfl rfl rfl rfl rfl ?_
     refine TA_step htb (by kernel_rfl) rfl rfl (OpT_pickT rfl rfl rfl rfl rfl) ?_
     obtain ⟨wrong1, hx3, h⟩ := ob_e h
     refine TA_exP htb (by kernel_rfl) rfl rfl (OpT_call (w_build_wrong hx3) [] [] rfl rfl rfl rfl rfl callee33 rfl rfl rfl rfl) ?_
     rintro _ ⟨v2, _, _, ⟨_, rfl, rfl, rfl⟩, rfl⟩
     refine TA_ex htb (by kernel_rfl) rfl rfl (OpT_buildOne fnS71 (vs := [v1, v2]) (xs := [buffer1, wrong1]) rfl rfl rfl rfl rfl slF98 rfl rfl rfl (rel_cons (rel_fn (i := 1) rfl) (rel_cons (rel_fn (i := 2) rfl) (rel_nil rfl)))) fun v3 => ?_
     obtain ⟨first1, hx4, h⟩ := ob_e h
     refine TA_exP htb (by kernel_rfl) rfl rfl (OpT_callB [2] [0, 1, 2] (w_build_first hx4) [] rfl rfl rfl rfl rfl callee31 rfl rfl rfl rfl rfl rfl (bor_cons (bor_row 2 rfl rfl) bor_nil) (by rintro _ _ _ ⟨rfl, rfl, rfl⟩; exact ⟨rfl, ri_nil⟩)) ?_
     rintro _ ⟨_, _, _, ⟨rfl, rfl, rfl⟩, rfl⟩
     refine TA_wkS (fr' := [(1, some (vI size)), (3, some (vl1)), (4, some (.pointer (some ⟨b1, 0, none⟩))), (6, some (.pointer (some ⟨b2, 0, none⟩))), (38, some (vI first1))]) (own' := [some (cellsR b1 33 [vI pp0.At, vB pp0.Wrap]), some (cellsR b2 3 [vI id])]) (shr' := [Fact.sl SegS vl1 l]) [1, 3, 4, 6, 38] [0, 1] [0] rfl rfl rfl rfl ?_
     refine TA_step htb (by kernel_rfl) rfl rfl (OpT_assign rfl rfl rfl rfl) ?_
     refine TA_end rfl ?_
     refine Tk_wkS (fr' := [(1, some (vI size)), (3, some (vl1)), (4, some (.pointer (some ⟨b1, 0, none⟩))), (6, some (.pointer (some ⟨b2, 0, none⟩))), (10, some (vI first1))]) (own' := [some (cellsR b1 33 [vI pp0.At, vB pp0.Wrap]), some (cellsR b2 3 [vI id])]) (shr' := [Fact.sl SegS vl1 l]) [1, 3, 4, 6, 10] [0, 1] [0] rfl rfl rfl rfl ?_
     refine Tk_seq (Tk_region (Tops_step rfl (OpT_move rfl rfl rfl rfl) ?_))
     refine Tops_step rfl (OpT_bin rfl rfl rfl rfl rfl (bin_neq_i (a := first1) (b := (0 : Int)))) ?_
     refine Tops_nil (Tk_wkS (fr' := [(1, some (vI size)), (3, some (vl1)), (4, some (.pointer (some ⟨b1, 0, none⟩))), (6, some (.pointer (some ⟨b2, 0, none⟩))), (10, some (vI first1)), (40, some (vB (first1 != (0 : Int))))]) (own' := [some (cellsR b1 33 [vI pp0.At, vB pp0.Wrap]), some (cellsR b2 3 [vI id])]) (shr' := [Fact.sl SegS vl1 l]) [1, 3, 4, 6, 10, 40] [0, 1] [0] rfl rfl rfl rfl ?_)
     rcases Bool.eq_false_or_eq_true (first1 != (0 : Int)) with hg2 | hg2
     ·replace h := br_t hg2 h
      refine Tk_condT (congrArg (fun b => some (Value.bool b)) hg2) ?_
      refine Tk_seq (Tk_region (Tops_step rfl (OpT_move rfl rfl rfl rfl) ?_))
      refine Tops_step rfl (OpT_assign rfl rfl rfl rfl) ?_
      refine Tops_step rfl (OpT_assign rfl rfl rfl rfl) ?_
      refine Tops_nil (Tk_wkS (fr' := [(8, some (.slice none 0 0)), (9, some (vI first1))]) (own' := []) (shr' := []) [8, 9] [] [] rfl rfl rfl rfl ?_)
      refine Tk_nilrow PutPackedS ?_
      obtain rfl := Option.some.inj h
      exact Tk_retV rfl rfl (resA (vs := [.slice none 0 0, vI first1]) rfl ⟨rfl, rfl, trivial⟩) [0] [] rfl rfl rfl ⟨(.slice none 0 0), rfl, rfl, rfl⟩
     ·replace h := br_f hg2 h
      refine Tk_condF (congrArg (fun b => some (Value.bool b)) hg2) ?_
      refine Tk_skip (Tk_seq (Tk_region (Tops_ex rfl (OpT_alloc rfl rfl rfl tyZ81) fun b3 => ?_)))
      refine Tops_nil (Tk_wkS (fr' := [(1, some (vI size)), (3, some (vl1)), (4, some (.pointer (some ⟨b1, 0, none⟩))), (6, some (.pointer (some ⟨b2, 0, none⟩))), (11, some (.pointer (some ⟨b3, 0, none⟩)))]) (own' := [some (cellsR b1 33 [vI pp0.At, vB pp0.Wrap]), some (cellsR b2 3 [vI id]), some (cellsR b3 81 [.slice none 0 0])]) (shr' := [Fact.sl SegS vl1 l]) [1, 3, 4, 6, 11] [0, 1, 2] [0] rfl rfl rfl rfl ?_)
      refine Tk_seq (Tk_seq (Tk_region (Tops_step rfl (OpT_move rfl rfl rfl rfl) ?_)))
      refine Tops_step rfl (OpT_lenS rfl rfl rfl rfl Try.underlying27 (i := 0) rfl) ?_
      refine Tops_step rfl (OpT_move rfl rfl rfl rfl) ?_
      refine Tops_nil (Tk_wkS (fr' := [(1, some (vI size)), (3, some (vl1)), (4, some (.pointer (some ⟨b1, 0, none⟩))), (6, some (.pointer (some ⟨b2, 0, none⟩))), (11, some (.pointer (some ⟨b3, 0, none⟩))), (43, some (vI (len l))), (44, some (vI (0 : Int)))]) (own' := [some (cellsR b1 33 [vI pp0.At, vB pp0.Wrap]), some (cellsR b2 3 [vI id]), some (cellsR b3 81 [.slice none 0 0])]) (shr' := [Fact.sl SegS vl1 l]) [1, 3, 4, 6, 11, 43, 44] [0, 1, 2] [0] rfl rfl rfl rfl ?_)
      refine Tk_block (Tk_nilrow PosS ?_)
      refine Tk_loopS (σ := Pos × Int × (List Pos) × Int × Value) [1, 3, 4, 6, 11, 43, 44] [0, 1, 2, 3] [0] (fun s => ⟨[(1, some (vI size)), (3, some (vl1)), (4, some (.pointer (some ⟨b1, 0, none⟩))), (6, some (.pointer (some ⟨b2, 0, none⟩))), (11, some (.pointer (some ⟨b3, 0, none⟩))), (43, some (vI (len l))), (44, some (vI s.2.2.2.1))], [some (cellsR b1 33 [vI s.1.At, vB s.1.Wrap]), some (cellsR b2 3 [vI s.2.1]), some (cellsR b3 81 [s.2.2.2.2]), some (rowS PosS s.2.2.2.2 s.2.2.1)], [Fact.sl SegS vl1 l]⟩) (fun nf1 s => build_PackedL1 size l nf1 s.1 s.2.1 s.2.2.1 s.2.2.2.1 = some r) fuel (pp0, id, ([] : List Pos), (0 : Int), .slice none 0 0) h rfl rfl rfl rfl rfl (fun s h => by cases h) ?_
      rintro nf1 ⟨m1, m2, m3, x1, v4⟩ h
      replace h : build_PackedL1B size l (build_PackedL1 size l nf1) m1 m2 m3 x1 = some r := h
      unfold build_PackedL1B at h
      refine Tk_seq (Tk_region (Tops_step rfl (OpT_bin rfl rfl rfl rfl rfl (bin_lss_i (a := x1) (b := len l))) ?_))
      refine Tops_nil (Tk_seq ?_)
      rcases Bool.eq_false_or_eq_true (decide (x1 < (len l))) with hg3 | hg3
      ·replace h := br_t hg3 h
       refine Tk_condT (congrArg (fun b => some (Value.bool b)) hg3) ?_
       refine Tk_skip (Tk_seq (Tk_block (Tk_seq (Tk_region (Tops_step rfl (OpT_loadC rfl rfl rfl rfl tyF81 (i := 2) rfl rfl) ?_)))))
       refine Tops_step rfl (OpT_loadCA (vs := [vI m1.At, vB m1.Wrap]) rfl rfl rfl rfl tyF33 (i := 0) rfl rfl rfl) ?_
       refine Tops_ex rfl (OpT_buildSlice (S := PosS) (xs := [m1]) (css := [[vI m1.At, vB m1.Wrap]]) (cs := [vI m1.At, vB m1.Wrap]) (e := 33) rfl rfl rfl rfl (bldF slF81 (by decide) (by kernel_rfl)) rfl rfl rfl rfl (rel_plainD (S := PosS) (xs := [m1]) (css := [[vI m1.At, vB m1.Wrap]]) rfl rfl)) fun v5 => ?_
       obtain ⟨hc1, h⟩ := chk_e h
       refine Tops_ex rfl (OpT_appendB (S := PosS) rfl rfl rfl rfl rfl rfl slF81 (i := 3) (j := 4) rfl rfl hc1) fun v6 => ?_
       refine Tops_step rfl (OpT_storeV (cs' := [v6]) rfl rfl rfl rfl tyF81 (i := 2) rfl (is_row (i := 3) rfl) rfl rfl) ?_
       refine Tops_nil (Tk_wkS (fr' := [(1, some (vI size)), (3, some (vl1)), (4, some (.pointer (some ⟨b1, 0, none⟩))), (6, some (.pointer (some ⟨b2, 0, none⟩))), (11, some (.pointer (some ⟨b3, 0, none⟩))), (43, some (vI (len l))), (44, some (vI x1))]) (own' := [some (cellsR b1 33 [vI m1.At, vB m1.Wrap]), some (cellsR b2 3 [vI m2]), some (cellsR b3 81 [v6]), some (rowS PosS v6 (m3 ++ [m1]))]) (shr' := [Fact.sl SegS vl1 l]) [1, 3, 4, 6, 11, 43, 44] [0, 1, 2, 3] [0] rfl rfl rfl rfl ?_)
       refine Tk_region (Tops_step rfl (OpT_loadCA (vs := [vI m1.At, vB m1.Wrap]) rfl rfl rfl rfl tyF33 (i := 0) rfl rfl rfl) ?_)
       refine Tops_step rfl (OpT_move rfl rfl rfl rfl) ?_
       obtain ⟨go1, hx5, h⟩ := ob_e h
       refine Tops_exP rfl (OpT_call (w_serial_Go hx5) [] [] rfl rfl rfl rfl rfl callee38 rfl rfl rfl rfl) ?_
       rintro _ ⟨_, _, _, ⟨rfl, rfl, rfl⟩, rfl⟩
       refine Tops_step rfl (OpT_move rfl rfl rfl rfl) ?_
       refine Tops_step rfl (OpT_extract rfl rfl rfl rfl rfl) ?_
       refine Tops_step rfl (OpT_extract rfl rfl rfl rfl rfl) ?_
       refine Tops_step rfl (OpT_storeC (cs' := [vI go1.1.At, vB go1.1.Wrap]) rfl rfl rfl rfl tyF33 (i := 0) rfl rfl rfl (one_of rfl) rfl) ?_
       refine Tops_nil (Tk_wkS (fr' := [(1, some (vI size)), (3, some (vl1)), (4, some (.pointer (some ⟨b1, 0, none⟩))), (6, some (.pointer (some ⟨b2, 0, none⟩))), (11, some (.pointer (some ⟨b3, 0, none⟩))), (43, some (vI (len l))), (44, some (vI x1))]) (own' := [some (cellsR b1 33 [vI go1.1.At, vB go1.1.Wrap]), some (cellsR b2 3 [vI m2]), some (cellsR b3 81 [v6]), some (rowS PosS v6 (m3 ++ [m1]))]) (shr' := [Fact.sl SegS vl1 l]) [1, 3, 4, 6, 11, 43, 44] [0, 1, 2, 3] [0] rfl rfl rfl rfl ?_)
       refine Tk_blk (Tk_region (Tops_step rfl (OpT_bin rfl rfl rfl rfl rfl (bin_add_i (a := x1) (b := (1 : Int)))) ?_))
       refine Tops_step rfl (OpT_move rfl rfl rfl rfl) ?_
       refine Tops_nil (Tk_wkS (fr' := [(1, some (vI size)), (3, some (vl1)), (4, some (.pointer (some ⟨b1, 0, none⟩))), (6, some (.pointer (some ⟨b2, 0, none⟩))), (11, some (.pointer (some ⟨b3, 0, none⟩))), (43, some (vI (len l))), (44, some (vI (wi (x1 + (1 : Int)))))]) (own' := [some (cellsR b1 33 [vI go1.1.At, vB go1.1.Wrap]), some (cellsR b2 3 [vI m2]), some (cellsR b3 81 [v6]), some (rowS PosS v6 (m3 ++ [m1]))]) (shr' := [Fact.sl SegS vl1 l]) [1, 3, 4, 6, 11, 43, 44] [0, 1, 2, 3] [0] rfl rfl rfl rfl ?_)
       exact Tk_backS (go1.1, m2, m3 ++ [m1], wi (x1 + (1 : Int)), v6) h [1, 3, 4, 6, 11, 43, 44] [0, 1, 2, 3] [0] rfl rfl rfl rfl rfl
      ·replace h := br_f hg3 h
       refine Tk_condF (congrArg (fun b => some (Value.bool b)) hg3) ?_
       refine Tk_exit _ rfl ?_
       refine Tk_seq (Tk_region (Tops_step rfl (OpT_assign rfl rfl rfl rfl) ?_))
       refine Tops_nil (Tk_wkS (fr' := [(3, some (vl1)), (6, some (.pointer (some ⟨b2, 0, none⟩))), (11, some (.pointer (some ⟨b3, 0, none⟩))), (12, some (.slice none 0 0))]) (own' := [some (cellsR b2 3 [vI m2]), some (cellsR b3 81 [v4]), some (rowS PosS v4 m3)]) (shr' := [Fact.sl SegS vl1 l]) [3, 6, 11, 12] [1, 2, 3] [0] rfl rfl rfl rfl ?_)
       refine Tk_seq (Tk_seq (Tk_region (Tops_step rfl (OpT_move rfl rfl rfl rfl) ?_)))
       refine Tops_step rfl (OpT_makeFunc (vs := [.pointer (some ⟨b2, 0, none⟩), .pointer (some ⟨b3, 0, none⟩)]) rfl rfl rfl rfl) ?_
       refine Tops_vs (vs_retireP iS (x := m2) (i := 0) rfl (fun _ _ => rfl)) ?_
       refine Tops_retire (i := 2) rfl ?_
       refine Tops_vs (vs_retireP (Shape.slice PosS) (x := m3) (i := 1) rfl (rel_sl (i := 2) rfl)) ?_
       refine Tops_vs (vs_add (Fact.fn Try.prog (fun (x : Int) => [vI x]) (fun (x : build_packed) => .agg #[vU64 x.Packed.Addr, vU32 x.Packed.Len, vU16 x.Packed.ID, vU16 x.Packed.Flags, vI x.id, vB x.wrap]) (.func (.func 40) #[] #[(.pointer (some ⟨b2, 0, none⟩)), (.pointer (some ⟨b3, 0, none⟩))]) (fun x => build_Packed_1 x m2 m3)) (fun R hF => ⟨rfl, fun x r hx => ⟨40, [(.pointer (some ⟨b2, 0, none⟩)), (.pointer (some ⟨b3, 0, none⟩))], [Fact.pt iS (.pointer (some ⟨b2, 0, none⟩)) m2, Fact.pt (Shape.slice PosS) (.pointer (some ⟨b3, 0, none⟩)) m3], rfl, callee40, (fal_cons (mem_at (i := 1) rfl hF) (fal_cons (mem_at (i := 3) rfl hF) fal_nil)), w_build_Packed_1 hx⟩⟩)) ?_
       obtain ⟨packed1, hx6, h⟩ := ob_e h
       refine Tops_exP rfl (OpT_call (w_build_chain_buildpacked hx6) [] [0, 4] rfl rfl rfl rfl rfl callee39 rfl rfl rfl rfl) ?_
       rintro _ ⟨v7, _, _, ⟨_, rfl, rfl, rfl⟩, rfl⟩
       refine Tops_step rfl (OpT_lenO rfl rfl rfl rfl Try.underlying84 (i := 3) rfl) ?_
       refine Tops_step rfl (OpT_move rfl rfl rfl rfl) ?_
       refine Tops_nil (Tk_wkS (fr' := [(11, some (.pointer (some ⟨b3, 0, none⟩))), (12, some (.slice none 0 0)), (59, some (v7)), (60, some (vI (len packed1))), (61, some (vI (0 : Int)))]) (own' := [some (rowS build_packedS v7 packed1)]) (shr' := [Fact.pt (Shape.slice PosS) (.pointer (some ⟨b3, 0, none⟩)) m3]) [11, 12, 59, 60, 61] [3] [3] rfl rfl rfl rfl ?_)
       refine Tk_block (Tk_nilrow PutPackedS ?_)
       refine Tk_loopS (σ := (List PutPacked) × (List build_packed) × Int × Value × Value) [11, 12, 59, 60, 61] [1, 0] [0] (fun s => ⟨[(11, some (.pointer (some ⟨b3, 0, none⟩))), (12, some (s.2.2.2.1)), (59, some (s.2.2.2.2)), (60, some (vI (len packed1))), (61, some (vI s.2.2.1))], [some (rowS PutPackedS s.2.2.2.1 s.1), some (rowS build_packedS s.2.2.2.2 s.2.1)], [Fact.pt (Shape.slice PosS) (.pointer (some ⟨b3, 0, none⟩)) m3]⟩) (fun nf2 s => build_PackedL2 m3 packed1 nf2 s.1 s.2.1 s.2.2.1 = some r) fuel ([], packed1, (0 : Int), (.slice none 0 0), v7) h rfl rfl rfl rfl rfl (fun s h => by cases h) ?_
       rintro nf2 ⟨out1, l1, x2, v8, v9⟩ h
       replace h : build_PackedL2B m3 packed1 (build_PackedL2 m3 packed1 nf2) out1 l1 x2 = some r := h
       unfold build_PackedL2B at h
       refine Tk_seq (Tk_region (Tops_step rfl (OpT_bin rfl rfl rfl rfl rfl (bin_lss_i (a := x2) (b := len packed1))) ?_))
       refine Tops_nil (Tk_seq ?_)
       rcases Bool.eq_false_or_eq_true (decide (x2 < (len packed1))) with hg4 | hg4
       ·replace h := br_t hg4 h
        refine Tk_condT (congrArg (fun b => some (Value.bool b)) hg4) ?_
        refine Tk_skip (Tk_seq (Tk_block (Tk_seq (Tk_region (Tops_step rfl (OpT_move rfl rfl rfl rfl) ?_)))))
        obtain ⟨b4, hx7, h⟩ := ob_e h
        refine Tops_step rfl (OpT_idxO rfl rfl rfl rfl rfl slF84 (i := 1) rfl hx7) ?_
        refine Tops_step rfl (OpT_loadOA (S := build_packedS) (vs := [vU64 b4.Packed.Addr, vU32 b4.Packed.Len, vU16 b4.Packed.ID, vU16 b4.Packed.Flags, vI b4.id, vB b4.wrap]) rfl rfl rfl rfl rfl tyF87 (i := 1) rfl hx7 rfl) ?_
        refine Tops_ex rfl (OpT_alloc rfl rfl rfl tyZ87) fun b5 => ?_
        refine Tops_step rfl (OpT_assign rfl rfl rfl rfl) ?_
        refine Tops_step rfl (OpT_storeC (cs' := [vU64 b4.Packed.Addr, vU32 b4.Packed.Len, vU16 b4.Packed.ID, vU16 b4.Packed.Flags, vI b4.id, vB b4.wrap]) rfl rfl rfl rfl tyF87 (i := 2) rfl rfl rfl (one_of rfl) rfl) ?_
        refine Tops_nil (Tk_wkS (fr' := [(11, some (.pointer (some ⟨b3, 0, none⟩))), (12, some (v8)), (59, some (v9)), (60, some (vI (len packed1))), (61, some (vI x2)), (14, some (.pointer (some ⟨b5, 0, none⟩))), (13, some (vI x2))]) (own' := [some (rowS PutPackedS v8 out1), some (rowS build_packedS v9 l1), some (cellsR b5 87 [vU64 b4.Packed.Addr, vU32 b4.Packed.Len, vU16 b4.Packed.ID, vU16 b4.Packed.Flags, vI b4.id, vB b4.wrap])]) (shr' := [Fact.pt (Shape.slice PosS) (.pointer (some ⟨b3, 0, none⟩)) m3]) [11, 12, 59, 60, 61, 14, 13] [0, 1, 2] [0] rfl rfl rfl rfl ?_)
        refine Tk_drawT (by kernel_rfl) ?_
        refine TA_tb [0, 0, 0, 6, 14, 30, 0, 64, 254, 510, 1023, 2047] (by kernel_rfl) fun htb => ?_
        obtain ⟨p1, hx8, h⟩ := ob_e h
        refine TA_seg (lo := 0) (hi := 10) htb rfl rfl (by kernel_rfl) (fun c L a w => ∃ (v10 : Value), ∃ (p2 : Value), ∃ (p3 : Value), ∃ (v11 : Value), Sat c ⟨[(11, some (.pointer (some ⟨b3, 0, none⟩))), (12, some (v8)), (59, some (v9)), (60, some (vI (len packed1))), (61, some (vI x2)), (14, some (.pointer (some ⟨b5, 0, none⟩))), (13, some (vI x2)), (66, bif L 0 then some (v8) else none), (67, bif L 1 then some (v10) else none), (68, bif L 2 then some (vI x2) else none), (69, bif L 3 then some (p2) else none), (70, bif L 4 then some (p3) else none), (71, bif L 5 then some (vI p1.At) else none), (72, bif L 6 then some (.pointer (some ⟨b5, 0, none⟩)) else none), (73, bif L 7 then some (.agg #[vU64 b4.Packed.Addr, vU32 b4.Packed.Len, vU16 b4.Packed.ID, vU16 b4.Packed.Flags]) else none), (74, bif L 8 then some (.agg #[vI p1.At, vU64 b4.Packed.Addr, vU32 b4.Packed.Len, vU16 b4.Packed.ID, vU16 b4.Packed.Flags]) else none), (75, bif L 9 then some (v11) else none)], [(some (rowS PutPackedS v8 out1) : Option Res), (some (rowS build_packedS v9 l1) : Option Res), (some (cellsR b5 87 [vU64 b4.Packed.Addr, vU32 b4.Packed.Len, vU16 b4.Packed.ID, vU16 b4.Packed.Flags, vI b4.id, vB b4.wrap]) : Option Res), (bif L 9 then some (rowS PutPackedS v11 [(PutPacked.mk p1.At b4.Packed)]) else none : Option Res)], [Fact.pt (Shape.slice PosS) (.pointer (some ⟨b3, 0, none⟩)) m3, (bif L 1 then Fact.sl PosS v10 m3 else Fact.tt), (bif L 3 then Fact.pt PosS p2 p1 else Fact.tt), (bif L 4 then Fact.pt iS p3 p1.At else Fact.tt)]⟩ a w) [([], []), ([], [3, 4, 5, 8, 9]), ([], [3, 4, 5, 8, 9]), ([1, 2], [4, 5, 8, 9]), ([1, 2, 3], [5, 8, 9]), ([1, 2, 3, 4], [8, 9]), ([], [7, 8, 9]), ([6], [8, 9]), ([1, 2, 3, 4, 5, 6, 7], [9]), ([1, 2, 3, 4, 5, 6, 7, 8], [])] rfl (by kernel_rfl) ?_ (steps_cons ?_ (steps_cons ?_ (steps_cons ?_ (steps_cons ?_ (steps_cons ?_ (steps_cons ?_ (steps_cons ?_ (steps_cons ?_ (steps_cons ?_ (steps_cons ?_ (steps_nil))))))))))) ?_
        ·intro a w hs
         exact ⟨undef, undef, undef, undef, hs.startF [66, 67, 68, 69, 70, 71, 72, 73, 74, 75] [0, 1, 2, 3] [0, 1, 2, 3] rfl rfl rfl rfl⟩
        ·intro L a w hv K Q hK
         obtain ⟨v10, p2, p3, v11, hs⟩ := hv
         refine wpOp_go rfl rfl hs (OpT_move rfl rfl rfl rfl) ?_
         rintro _ rfl a' w' hs'
         exact hK a' w' ⟨v10, p2, p3, v11, hs'.putF (i := 7) rfl [0, 1, 2, 3] [0, 1, 2, 3] rfl rfl rfl rfl⟩
        ·intro L a w hv K Q hK
         obtain ⟨v10, p2, p3, v11, hs⟩ := hv
         refine wpOp_go rfl rfl hs (OpT_loadPS rfl rfl rfl rfl tyF81 (i := 0) rfl) ?_
         rintro _ ⟨v10', rfl⟩ a' w' hs'
         exact hK a' w' ⟨v10', p2, p3, v11, hs'.putF (i := 8) rfl [0, 1, 2, 3] [0, 4, 2, 3] rfl rfl rfl rfl⟩
        ·intro L a w hv K Q hK
         obtain ⟨v10, p2, p3, v11, hs⟩ := hv
         refine wpOp_go rfl rfl hs (OpT_move rfl rfl rfl rfl) ?_
         rintro _ rfl a' w' hs'
         exact hK a' w' ⟨v10, p2, p3, v11, hs'.putF (i := 9) rfl [0, 1, 2, 3] [0, 1, 2, 3] rfl rfl rfl rfl⟩
        ·intro L a w hv K Q hK
         obtain ⟨v10, p2, p3, v11, hs⟩ := hv
         refine wpOp_go rfl rfl hs (OpT_idxS rfl rfl rfl rfl rfl slF81 (i := 1) rfl hx8) ?_
         rintro _ ⟨p2', rfl⟩ a' w' hs'
         exact hK a' w' ⟨v10, p2', p3, v11, hs'.putF (i := 10) rfl [0, 1, 2, 3] [0, 1, 4, 3] rfl rfl rfl rfl⟩
        ·intro L a w hv K Q hK
         obtain ⟨v10, p2, p3, v11, hs⟩ := hv
         refine wpOp_go rfl rfl hs (OpT_fieldP (S' := iS) (y := p1.At) rfl rfl rfl rfl fldF33x0 (i := 2) rfl (by intro h cs hr; subst hr; rfl)) ?_
         rintro _ ⟨p3', rfl⟩ a' w' hs'
         exact hK a' w' ⟨v10, p2, p3', v11, hs'.putF (i := 11) rfl [0, 1, 2, 3] [0, 1, 2, 4] rfl rfl rfl rfl⟩
        ·intro L a w hv K Q hK
         obtain ⟨v10, p2, p3, v11, hs⟩ := hv
         refine wpOp_go rfl rfl hs (OpT_loadP rfl rfl rfl rfl tyF3 (i := 3) rfl rfl) ?_
         rintro _ rfl a' w' hs'
         exact hK a' w' ⟨v10, p2, p3, v11, hs'.putF (i := 12) rfl [0, 1, 2, 3] [0, 1, 2, 3] rfl rfl rfl rfl⟩
        ·intro L a w hv K Q hK
         obtain ⟨v10, p2, p3, v11, hs⟩ := hv
         refine wpOp_go rfl rfl hs (OpT_fieldC rfl rfl rfl rfl fldF87x0) ?_
         rintro _ rfl a' w' hs'
         exact hK a' w' ⟨v10, p2, p3, v11, hs'.putF (i := 13) rfl [0, 1, 2, 3] [0, 1, 2, 3] rfl rfl rfl rfl⟩
        ·intro L a w hv K Q hK
         obtain ⟨v10, p2, p3, v11, hs⟩ := hv
         refine wpOp_go rfl rfl hs (OpT_loadCA (vs := [vU64 b4.Packed.Addr, vU32 b4.Packed.Len, vU16 b4.Packed.ID, vU16 b4.Packed.Flags]) rfl rfl rfl rfl tyF44 (i := 2) rfl rfl rfl) ?_
         rintro _ rfl a' w' hs'
         exact hK a' w' ⟨v10, p2, p3, v11, hs'.putF (i := 14) rfl [0, 1, 2, 3] [0, 1, 2, 3] rfl rfl rfl rfl⟩
        ·intro L a w hv K Q hK
         obtain ⟨v10, p2, p3, v11, hs⟩ := hv
         refine wpOp_go rfl rfl hs (OpT_build (v := .agg #[vI p1.At, vU64 b4.Packed.Addr, vU32 b4.Packed.Len, vU16 b4.Packed.ID, vU16 b4.Packed.Flags]) rfl rfl rfl rfl (bldV (by kernel_rfl))) ?_
         rintro _ rfl a' w' hs'
         exact hK a' w' ⟨v10, p2, p3, v11, hs'.putF (i := 15) rfl [0, 1, 2, 3] [0, 1, 2, 3] rfl rfl rfl rfl⟩
        ·intro L a w hv K Q hK
         obtain ⟨v10, p2, p3, v11, hs⟩ := hv
         refine wpOp_go rfl rfl hs (OpT_buildSlice (S := PutPackedS) (xs := [(PutPacked.mk p1.At b4.Packed)]) (css := [[vI p1.At, vU64 b4.Packed.Addr, vU32 b4.Packed.Len, vU16 b4.Packed.ID, vU16 b4.Packed.Flags]]) (cs := [vI p1.At, vU64 b4.Packed.Addr, vU32 b4.Packed.Len, vU16 b4.Packed.ID, vU16 b4.Packed.Flags]) (e := 46) rfl rfl rfl rfl (bldF slF29 (by decide) (by kernel_rfl)) rfl rfl rfl rfl (rel_plainD (S := PutPackedS) (xs := [(PutPacked.mk p1.At b4.Packed)]) (css := [[vI p1.At, vU64 b4.Packed.Addr, vU32 b4.Packed.Len, vU16 b4.Packed.ID, vU16 b4.Packed.Flags]]) rfl rfl)) ?_
         rintro _ ⟨v11', rfl⟩ a' w' hs'
         exact hK a' w' ⟨v10, p2, p3, v11', hs'.putF (i := 16) rfl [0, 1, 2, 4] [0, 1, 2, 3] rfl rfl rfl rfl⟩
        ·intro L a w hL hv
         rw [allTrue hL] at hv
         obtain ⟨v10, p2, p3, v11, hs⟩ := hv
         refine (show TA _ _ _ 10 ⟨[(11, some (.pointer (some ⟨b3, 0, none⟩))), (59, some (v9)), (60, some (vI (len packed1))), (61, some (vI x2)), (66, some (v8)), (75, some (v11))], [some (rowS PutPackedS v8 out1), some (rowS build_packedS v9 l1), some (rowS PutPackedS v11 [(PutPacked.mk p1.At b4.Packed)])], [Fact.pt (Shape.slice PosS) (.pointer (some ⟨b3, 0, none⟩)) m3]⟩ from ?_) a w (hs.wkS [11, 59, 60, 61, 66, 75] [0, 1, 3] [0] rfl rfl rfl rfl)
         clear hs hL
         obtain ⟨hc2, h⟩ := chk_e h
         refine TA_ex htb (by kernel_rfl) rfl rfl (OpT_appendB (S := PutPackedS) rfl rfl rfl rfl rfl rfl slF29 (i := 0) (j := 2) rfl rfl hc2) fun v12 => ?_
         refine TA_step htb (by kernel_rfl) rfl rfl (OpT_assign rfl rfl rfl rfl) ?_
         refine TA_end rfl ?_
         refine Tk_wkS (fr' := [(11, some (.pointer (some ⟨b3, 0, none⟩))), (59, some (v9)), (60, some (vI (len packed1))), (61, some (vI x2)), (12, some (v12))]) (own' := [some (rowS PutPackedS v12 (out1 ++ [(PutPacked.mk p1.At b4.Packed)])), some (rowS build_packedS v9 l1)]) (shr' := [Fact.pt (Shape.slice PosS) (.pointer (some ⟨b3, 0, none⟩)) m3]) [11, 59, 60, 61, 12] [0, 1] [0] rfl rfl rfl rfl ?_
         refine Tk_blk (Tk_region (Tops_step rfl (OpT_bin rfl rfl rfl rfl rfl (bin_add_i (a := x2) (b := (1 : Int)))) ?_))
         refine Tops_step rfl (OpT_move rfl rfl rfl rfl) ?_
         refine Tops_nil (Tk_wkS (fr' := [(11, some (.pointer (some ⟨b3, 0, none⟩))), (59, some (v9)), (60, some (vI (len packed1))), (61, some (vI (wi (x2 + (1 : Int))))), (12, some (v12))]) (own' := [some (rowS PutPackedS v12 (out1 ++ [(PutPacked.mk p1.At b4.Packed)])), some (rowS build_packedS v9 l1)]) (shr' := [Fact.pt (Shape.slice PosS) (.pointer (some ⟨b3, 0, none⟩)) m3]) [11, 59, 60, 61, 12] [0, 1] [0] rfl rfl rfl rfl ?_)
         exact Tk_backS (out1 ++ [(PutPacked.mk p1.At b4.Packed)], l1, wi (x2 + (1 : Int)), v12, v9) h [11, 12, 59, 60, 61] [0, 1] [0] rfl rfl rfl rfl rfl
       ·replace h := br_f hg4 h
        refine Tk_condF (congrArg (fun b => some (Value.bool b)) hg4) ?_
        refine Tk_exit _ rfl ?_
        refine Tk_seq (Tk_region (Tops_step rfl (OpT_move rfl rfl rfl rfl) ?_))
        refine Tops_step rfl (OpT_assign rfl rfl rfl rfl) ?_
        refine Tops_step rfl (OpT_assign rfl rfl rfl rfl) ?_
        refine Tops_nil (Tk_wkS (fr' := [(8, some (v8)), (9, some (vI (0 : Int)))]) (own' := [some (rowS PutPackedS v8 out1)]) (shr' := []) [8, 9] [0] [] rfl rfl rfl rfl ?_)
        obtain rfl := Option.some.inj h
        exact Tk_retV rfl rfl (resA (vs := [v8, vI (0 : Int)]) rfl ⟨rfl, rfl, trivial⟩) [0] [] rfl rfl rfl ⟨v8, rfl, rfl, rfl⟩
  ·replace h := br_f hg1 h
   refine TA_yes htb (by kernel_rfl) rfl rfl rfl (congrArg (fun b => some (Value.bool b)) hg1) (OpT_loadC rfl rfl rfl rfl tyF3 (i := 1) rfl rfl) ?_
   rintro _ rfl
   refine TA_yes htb (by kernel_rfl) rfl rfl rfl (congrArg (fun b => some (Value.bool b)) hg1) (OpT_bin rfl rfl rfl rfl rfl (bin_lss_i (a := id) (b := (0 : Int)))) ?_
   rintro _ rfl
   refine TA_step htb (by kernel_rfl) rfl rfl (OpT_pickF rfl rfl rfl (congrArg (fun b => some (Value.bool b)) hg1) rfl) ?_
   refine TA_step htb (by kernel_rfl) rfl rfl (OpT_move rfl rfl rfl rfl) ?_
   refine TA_wkS (fr' := [(1, some (vI size)), (3, some (vl1)), (4, some (.pointer (some ⟨b1, 0, none⟩))), (6, some (.pointer (some ⟨b2, 0, none⟩))), (16, some (v1)), (25, some (vB (decide (id < (0 : Int)))))]) (own' := [some (cellsR b1 33 [vI pp0.At, vB pp0.Wrap]), some (cellsR b2 3 [vI id])]) (shr' := [Fact.sl SegS vl1 l, Fact.fn Try.prog av0 vI v1 (fun _ => buffer1)]) [1, 3, 4, 6, 16, 25] [0, 1] [0, 1] rfl rfl rfl rfl ?_
   rcases Bool.eq_false_or_eq_true (decide (id < (0 : Int))) with hg5 | hg5
   ·replace h := br_t hg5 h
    refine TA_seg (lo := 11) (hi := 13) htb rfl rfl (by kernel_rfl) (fun c L a w => Sat c ⟨[(1, some (vI size)), (3, some (vl1)), (4, some (.pointer (some ⟨b1, 0, none⟩))), (6, some (.pointer (some ⟨b2, 0, none⟩))), (16, some (v1)), (25, some (vB (decide (id < (0 : Int))))), (26, bif L 11 then some (undef) else none), (27, bif L 12 then some (undef) else none)], [(some (cellsR b1 33 [vI pp0.At, vB pp0.Wrap]) : Option Res), (some (cellsR b2 3 [vI id]) : Option Res)], [Fact.sl SegS vl1 l, Fact.fn Try.prog av0 vI v1 (fun _ => buffer1)]⟩ a w) [([], []), ([], [])] rfl (by kernel_rfl) ?_ (steps_cons ?_ (steps_cons ?_ (steps_nil))) ?_
    ·intro a w hs
     exact hs.startF [26, 27] [0, 1] [0, 1] rfl rfl rfl rfl
    ·intro L a w hv K Q hK
     have hs := hv
     refine wpOp_no rfl rfl rfl hs (congrArg (fun b => some (Value.bool b)) hg5) rfl rfl ?_
     intro a' w' hs'
     exact hK a' w' (hs'.putF (i := 6) rfl [0, 1] [0, 1] rfl rfl rfl rfl)
    ·intro L a w hv K Q hK
     have hs := hv
     refine wpOp_no rfl rfl rfl hs (congrArg (fun b => some (Value.bool b)) hg5) rfl rfl ?_
     intro a' w' hs'
     exact hK a' w' (hs'.putF (i := 7) rfl [0, 1] [0, 1] rfl rfl rfl rfl)
    ·intro L a w hL hv
     rw [allTrue hL] at hv
     have hs := hv
     refine (show TA _ _ _ 13 ⟨[(1, some (vI size)), (3, some (vl1)), (4, some (.pointer (some ⟨b1, 0, none⟩))), (6, some (.pointer (some ⟨b2, 0, none⟩))), (16, some (v1)), (25, some (vB (decide (id < (0 : Int))))), (26, some (undef)), (27, some (undef))], [some (cellsR b1 33 [vI pp0.At, vB pp0.Wrap]), some (cellsR b2 3 [vI id])], [Fact.sl SegS vl1 l, Fact.fn Try.prog av0 vI v1 (fun _ => buffer1)]⟩ from ?_) a w (hs.wkS [1, 3, 4, 6, 16, 25, 26, 27] [0, 1] [0, 1] rfl rfl rfl rfl)
     clear hs hL
     refine TA_no htb (by kernel_rfl) rfl rfl rfl (congrArg (fun b => some (Value.bool b)) hg5) rfl rfl ?_
     refine TA_step htb (by kernel_rfl) rfl rfl (OpT_pickT rfl rfl rfl (congrArg (fun b => some (Value.bool b)) hg5) rfl) ?_
     refine TA_step htb (by kernel_rfl) rfl rfl (OpT_move rfl rfl rfl rfl) ?_
     refine TA_wkS (fr' := [(1, some (vI size)), (3, some (vl1)), (4, some (.pointer (some ⟨b1, 0, none⟩))), (6, some (.pointer (some ⟨b2, 0, none⟩))), (16, some (v1)), (30, some (vB true))]) (own' := [some (cellsR b1 33 [vI pp0.At, vB pp0.Wrap]), some (cellsR b2 3 [vI id])]) (shr' := [Fact.sl SegS vl1 l, Fact.fn Try.prog av0 vI v1 (fun _ => buffer1)]) [1, 3, 4, 6, 16, 30] [0, 1] [0, 1] rfl rfl rfl rfl ?_
     refine TA_seg (lo := 16) (hi := 19) htb rfl rfl (by kernel_rfl) (fun c L a w => Sat c ⟨[(1, some (vI size)), (3, some (vl1)), (4, some (.pointer (some ⟨b1, 0, none⟩))), (6, some (.pointer (some ⟨b2, 0, none⟩))), (16, some (v1)), (30, some (vB true)), (31, bif L 16 then some (undef) else none), (32, bif L 17 then some (undef) else none), (33, bif L 18 then some (undef) else none)], [(some (cellsR b1 33 [vI pp0.At, vB pp0.Wrap]) : Option Res), (some (cellsR b2 3 [vI id]) : Option Res)], [Fact.sl SegS vl1 l, Fact.fn Try.prog av0 vI v1 (fun _ => buffer1)]⟩ a w) [([], [17]), ([16], []), ([], [])] rfl (by kernel_rfl) ?_ (steps_cons ?_ (steps_cons ?_ (steps_cons ?_ (steps_nil)))) ?_
     ·intro a w hs
      exact hs.startF [31, 32, 33] [0, 1] [0, 1] rfl rfl rfl rfl
     ·intro L a w hv K Q hK
      have hs := hv
      refine wpOp_no rfl rfl rfl hs rfl rfl rfl ?_
      intro a' w' hs'
      exact hK a' w' (hs'.putF (i := 6) rfl [0, 1] [0, 1] rfl rfl rfl rfl)
     ·intro L a w hv K Q hK
      have hs := hv
      refine wpOp_no rfl rfl rfl hs rfl rfl rfl ?_
      intro a' w' hs'
      exact hK a' w' (hs'.putF (i := 7) rfl [0, 1] [0, 1] rfl rfl rfl rfl)
     ·intro L a w hv K Q hK
      have hs := hv
      refine wpOp_no rfl rfl rfl hs rfl rfl rfl ?_
      intro a' w' hs'
      exact hK a' w' (hs'.putF (i := 8) rfl [0, 1] [0, 1] rfl rfl rfl rfl)
     ·intro L a w hL hv
      rw [allTrue hL] at hv
      have hs := hv
      refine (show TA _ _ _ 19 ⟨[(1, some (vI size)), (3, some (vl1)), (4, some (.pointer (some ⟨b1, 0, none⟩))), (6, some (.pointer (some ⟨b2, 0, none⟩))), (16, some (v1)), (30, some (vB true)), (32, some (undef)), (33, some (undef))], [some (cellsR b1 33 [vI pp0.At, vB pp0.Wrap]), some (cellsR b2 3 [vI id])], [Fact.sl SegS vl1 l, Fact.fn Try.prog av0 vI v1 (fun _ => buffer1)]⟩ from ?_) a w (hs.wkS [1, 3, 4, 6, 16, 30, 32, 33] [0, 1] [0, 1] rfl rfl rfl rfl)
      clear hs hL
      refine TA_no htb (by kernel_rfl) rfl rfl rfl rfl rfl rfl ?_
      refine TA_step htb (by kernel_rfl) rfl rfl (OpT_pickT rfl rfl rfl rfl rfl) ?_
      obtain ⟨wrong2, hx9, h⟩ := ob_e h
      refine TA_exP htb (by kernel_rfl) rfl rfl (OpT_call (w_build_wrong hx9) [] [] rfl rfl rfl rfl rfl callee33 rfl rfl rfl rfl) ?_
      rintro _ ⟨v13, _, _, ⟨_, rfl, rfl, rfl⟩, rfl⟩
      refine TA_ex htb (by kernel_rfl) rfl rfl (OpT_buildOne fnS71 (vs := [v1, v13]) (xs := [buffer1, wrong2]) rfl rfl rfl rfl rfl slF98 rfl rfl rfl (rel_cons (rel_fn (i := 1) rfl) (rel_cons (rel_fn (i := 2) rfl) (rel_nil rfl)))) fun v14 => ?_
      obtain ⟨first2, hx10, h⟩ := ob_e h
      refine TA_exP htb (by kernel_rfl) rfl rfl (OpT_callB [2] [0, 1, 2] (w_build_first hx10) [] rfl rfl rfl rfl rfl callee31 rfl rfl rfl rfl rfl rfl (bor_cons (bor_row 2 rfl rfl) bor_nil) (by rintro _ _ _ ⟨rfl, rfl, rfl⟩; exact ⟨rfl, ri_nil⟩)) ?_
      rintro _ ⟨_, _, _, ⟨rfl, rfl, rfl⟩, rfl⟩
      refine TA_wkS (fr' := [(1, some (vI size)), (3, some (vl1)), (4, some (.pointer (some ⟨b1, 0, none⟩))), (6, some (.pointer (some ⟨b2, 0, none⟩))), (38, some (vI first2))]) (own' := [some (cellsR b1 33 [vI pp0.At, vB pp0.Wrap]), some (cellsR b2 3 [vI id])]) (shr' := [Fact.sl SegS vl1 l]) [1, 3, 4, 6, 38] [0, 1] [0] rfl rfl rfl rfl ?_
      refine TA_step htb (by kernel_rfl) rfl rfl (OpT_assign rfl rfl rfl rfl) ?_
      refine TA_end rfl ?_
      refine Tk_wkS (fr' := [(1, some (vI size)), (3, some (vl1)), (4, some (.pointer (some ⟨b1, 0, none⟩))), (6, some (.pointer (some ⟨b2, 0, none⟩))), (10, some (vI first2))]) (own' := [some (cellsR b1 33 [vI pp0.At, vB pp0.Wrap]), some (cellsR b2 3 [vI id])]) (shr' := [Fact.sl SegS vl1 l]) [1, 3, 4, 6, 10] [0, 1] [0] rfl rfl rfl rfl ?_
      refine Tk_seq (Tk_region (Tops_step rfl (OpT_move rfl rfl rfl rfl) ?_))
      refine Tops_step rfl (OpT_bin rfl rfl rfl rfl rfl (bin_neq_i (a := first2) (b := (0 : Int)))) ?_
      refine Tops_nil (Tk_wkS (fr' := [(1, some (vI size)), (3, some (vl1)), (4, some (.pointer (some ⟨b1, 0, none⟩))), (6, some (.pointer (some ⟨b2, 0, none⟩))), (10, some (vI first2)), (40, some (vB (first2 != (0 : Int))))]) (own' := [some (cellsR b1 33 [vI pp0.At, vB pp0.Wrap]), some (cellsR b2 3 [vI id])]) (shr' := [Fact.sl SegS vl1 l]) [1, 3, 4, 6, 10, 40] [0, 1] [0] rfl rfl rfl rfl ?_)
      rcases Bool.eq_false_or_eq_true (first2 != (0 : Int)) with hg6 | hg6
      ·replace h := br_t hg6 h
       refine Tk_condT (congrArg (fun b => some (Value.bool b)) hg6) ?_
       refine Tk_seq (Tk_region (Tops_step rfl (OpT_move rfl rfl rfl rfl) ?_))
       refine Tops_step rfl (OpT_assign rfl rfl rfl rfl) ?_
       refine Tops_step rfl (OpT_assign rfl rfl rfl rfl) ?_
       refine Tops_nil (Tk_wkS (fr' := [(8, some (.slice none 0 0)), (9, some (vI first2))]) (own' := []) (shr' := []) [8, 9] [] [] rfl rfl rfl rfl ?_)
       refine Tk_nilrow PutPackedS ?_
       obtain rfl := Option.some.inj h
       exact Tk_retV rfl rfl (resA (vs := [.slice none 0 0, vI first2]) rfl ⟨rfl, rfl, trivial⟩) [0] [] rfl rfl rfl ⟨(.slice none 0 0), rfl, rfl, rfl⟩
      ·replace h := br_f hg6 h
       refine Tk_condF (congrArg (fun b => some (Value.bool b)) hg6) ?_
       refine Tk_skip (Tk_seq (Tk_region (Tops_ex rfl (OpT_alloc rfl rfl rfl tyZ81) fun b6 => ?_)))
       refine Tops_nil (Tk_wkS (fr' := [(1, some (vI size)), (3, some (vl1)), (4, some (.pointer (some ⟨b1, 0, none⟩))), (6, some (.pointer (some ⟨b2, 0, none⟩))), (11, some (.pointer (some ⟨b6, 0, none⟩)))]) (own' := [some (cellsR b1 33 [vI pp0.At, vB pp0.Wrap]), some (cellsR b2 3 [vI id]), some (cellsR b6 81 [.slice none 0 0])]) (shr' := [Fact.sl SegS vl1 l]) [1, 3, 4, 6, 11] [0, 1, 2] [0] rfl rfl rfl rfl ?_)
       refine Tk_seq (Tk_seq (Tk_region (Tops_step rfl (OpT_move rfl rfl rfl rfl) ?_)))
       refine Tops_step rfl (OpT_lenS rfl rfl rfl rfl Try.underlying27 (i := 0) rfl) ?_
       refine Tops_step rfl (OpT_move rfl rfl rfl rfl) ?_
       refine Tops_nil (Tk_wkS (fr' := [(1, some (vI size)), (3, some (vl1)), (4, some (.pointer (some ⟨b1, 0, none⟩))), (6, some (.pointer (some ⟨b2, 0, none⟩))), (11, some (.pointer (some ⟨b6, 0, none⟩))), (43, some (vI (len l))), (44, some (vI (0 : Int)))]) (own' := [some (cellsR b1 33 [vI pp0.At, vB pp0.Wrap]), some (cellsR b2 3 [vI id]), some (cellsR b6 81 [.slice none 0 0])]) (shr' := [Fact.sl SegS vl1 l]) [1, 3, 4, 6, 11, 43, 44] [0, 1, 2] [0] rfl rfl rfl rfl ?_)
       refine Tk_block (Tk_nilrow PosS ?_)
       refine Tk_loopS (σ := Pos × Int × (List Pos) × Int × Value) [1, 3, 4, 6, 11, 43, 44] [0, 1, 2, 3] [0] (fun s => ⟨[(1, some (vI size)), (3, some (vl1)), (4, some (.pointer (some ⟨b1, 0, none⟩))), (6, some (.pointer (some ⟨b2, 0, none⟩))), (11, some (.pointer (some ⟨b6, 0, none⟩))), (43, some (vI (len l))), (44, some (vI s.2.2.2.1))], [some (cellsR b1 33 [vI s.1.At, vB s.1.Wrap]), some (cellsR b2 3 [vI s.2.1]), some (cellsR b6 81 [s.2.2.2.2]), some (rowS PosS s.2.2.2.2 s.2.2.1)], [Fact.sl SegS vl1 l]⟩) (fun nf3 s => build_PackedL3 size l nf3 s.1 s.2.1 s.2.2.1 s.2.2.2.1 = some r) fuel (pp0, id, ([] : List Pos), (0 : Int), .slice none 0 0) h rfl rfl rfl rfl rfl (fun s h => by cases h) ?_
       rintro nf3 ⟨m4, m5, m6, x3, v15⟩ h
       replace h : build_PackedL3B size l (build_PackedL3 size l nf3) m4 m5 m6 x3 = some r := h
       unfold build_PackedL3B at h
       refine Tk_seq (Tk_region (Tops_step rfl (OpT_bin rfl rfl rfl rfl rfl (bin_lss_i (a := x3) (b := len l))) ?_))
       refine Tops_nil (Tk_seq ?_)
       rcases Bool.eq_false_or_eq_true (decide (x3 < (len l))) with hg7 | hg7
       ·replace h := br_t hg7 h
        refine Tk_condT (congrArg (fun b => some (Value.bool b)) hg7) ?_
        refine Tk_skip (Tk_seq (Tk_block (Tk_seq (Tk_region (Tops_step rfl (OpT_loadC rfl rfl rfl rfl tyF81 (i := 2) rfl rfl) ?_)))))
        refine Tops_step rfl (OpT_loadCA (vs := [vI m4.At, vB m4.Wrap]) rfl rfl rfl rfl tyF33 (i := 0) rfl rfl rfl) ?_
        refine Tops_ex rfl (OpT_buildSlice (S := PosS) (xs := [m4]) (css := [[vI m4.At, vB m4.Wrap]]) (cs := [vI m4.At, vB m4.Wrap]) (e := 33) rfl rfl rfl rfl (bldF slF81 (by decide) (by kernel_rfl)) rfl rfl rfl rfl (rel_plainD (S := PosS) (xs := [m4]) (css := [[vI m4.At, vB m4.Wrap]]) rfl rfl)) fun v16 => ?_
        obtain ⟨hc3, h⟩ := chk_e h
        refine Tops_ex rfl (OpT_appendB (S := PosS) rfl rfl rfl rfl rfl rfl slF81 (i := 3) (j := 4) rfl rfl hc3) fun v17 => ?_
        refine Tops_step rfl (OpT_storeV (cs' := [v17]) rfl rfl rfl rfl tyF81 (i := 2) rfl (is_row (i := 3) rfl) rfl rfl) ?_
        refine Tops_nil (Tk_wkS (fr' := [(1, some (vI size)), (3, some (vl1)), (4, some (.pointer (some ⟨b1, 0, none⟩))), (6, some (.pointer (some ⟨b2, 0, none⟩))), (11, some (.pointer (some ⟨b6, 0, none⟩))), (43, some (vI (len l))), (44, some (vI x3))]) (own' := [some (cellsR b1 33 [vI m4.At, vB m4.Wrap]), some (cellsR b2 3 [vI m5]), some (cellsR b6 81 [v17]), some (rowS PosS v17 (m6 ++ [m4]))]) (shr' := [Fact.sl SegS vl1 l]) [1, 3, 4, 6, 11, 43, 44] [0, 1, 2, 3] [0] rfl rfl rfl rfl ?_)
        refine Tk_region (Tops_step rfl (OpT_loadCA (vs := [vI m4.At, vB m4.Wrap]) rfl rfl rfl rfl tyF33 (i := 0) rfl rfl rfl) ?_)
        refine Tops_step rfl (OpT_move rfl rfl rfl rfl) ?_
        obtain ⟨go2, hx11, h⟩ := ob_e h
        refine Tops_exP rfl (OpT_call (w_serial_Go hx11) [] [] rfl rfl rfl rfl rfl callee38 rfl rfl rfl rfl) ?_
        rintro _ ⟨_, _, _, ⟨rfl, rfl, rfl⟩, rfl⟩
        refine Tops_step rfl (OpT_move rfl rfl rfl rfl) ?_
        refine Tops_step rfl (OpT_extract rfl rfl rfl rfl rfl) ?_
        refine Tops_step rfl (OpT_extract rfl rfl rfl rfl rfl) ?_
        refine Tops_step rfl (OpT_storeC (cs' := [vI go2.1.At, vB go2.1.Wrap]) rfl rfl rfl rfl tyF33 (i := 0) rfl rfl rfl (one_of rfl) rfl) ?_
        refine Tops_nil (Tk_wkS (fr' := [(1, some (vI size)), (3, some (vl1)), (4, some (.pointer (some ⟨b1, 0, none⟩))), (6, some (.pointer (some ⟨b2, 0, none⟩))), (11, some (.pointer (some ⟨b6, 0, none⟩))), (43, some (vI (len l))), (44, some (vI x3))]) (own' := [some (cellsR b1 33 [vI go2.1.At, vB go2.1.Wrap]), some (cellsR b2 3 [vI m5]), some (cellsR b6 81 [v17]), some (rowS PosS v17 (m6 ++ [m4]))]) (shr' := [Fact.sl SegS vl1 l]) [1, 3, 4, 6, 11, 43, 44] [0, 1, 2, 3] [0] rfl rfl rfl rfl ?_)
        refine Tk_blk (Tk_region (Tops_step rfl (OpT_bin rfl rfl rfl rfl rfl (bin_add_i (a := x3) (b := (1 : Int)))) ?_))
        refine Tops_step rfl (OpT_move rfl rfl rfl rfl) ?_
        refine Tops_nil (Tk_wkS (fr' := [(1, some (vI size)), (3, some (vl1)), (4, some (.pointer (some ⟨b1, 0, none⟩))), (6, some (.pointer (some ⟨b2, 0, none⟩))), (11, some (.pointer (some ⟨b6, 0, none⟩))), (43, some (vI (len l))), (44, some (vI (wi (x3 + (1 : Int)))))]) (own' := [some (cellsR b1 33 [vI go2.1.At, vB go2.1.Wrap]), some (cellsR b2 3 [vI m5]), some (cellsR b6 81 [v17]), some (rowS PosS v17 (m6 ++ [m4]))]) (shr' := [Fact.sl SegS vl1 l]) [1, 3, 4, 6, 11, 43, 44] [0, 1, 2, 3] [0] rfl rfl rfl rfl ?_)
        exact Tk_backS (go2.1, m5, m6 ++ [m4], wi (x3 + (1 : Int)), v17) h [1, 3, 4, 6, 11, 43, 44] [0, 1, 2, 3] [0] rfl rfl rfl rfl rfl
       ·replace h := br_f hg7 h
        refine Tk_condF (congrArg (fun b => some (Value.bool b)) hg7) ?_
        refine Tk_exit _ rfl ?_
        refine Tk_seq (Tk_region (Tops_step rfl (OpT_assign rfl rfl rfl rfl) ?_))
        refine Tops_nil (Tk_wkS (fr' := [(3, some (vl1)), (6, some (.pointer (some ⟨b2, 0, none⟩))), (11, some (.pointer (some ⟨b6, 0, none⟩))), (12, some (.slice none 0 0))]) (own' := [some (cellsR b2 3 [vI m5]), some (cellsR b6 81 [v15]), some (rowS PosS v15 m6)]) (shr' := [Fact.sl SegS vl1 l]) [3, 6, 11, 12] [1, 2, 3] [0] rfl rfl rfl rfl ?_)
        refine Tk_seq (Tk_seq (Tk_region (Tops_step rfl (OpT_move rfl rfl rfl rfl) ?_)))
        refine Tops_step rfl (OpT_makeFunc (vs := [.pointer (some ⟨b2, 0, none⟩), .pointer (some ⟨b6, 0, none⟩)]) rfl rfl rfl rfl) ?_
        refine Tops_vs (vs_retireP iS (x := m5) (i := 0) rfl (fun _ _ => rfl)) ?_
        refine Tops_retire (i := 2) rfl ?_
        refine Tops_vs (vs_retireP (Shape.slice PosS) (x := m6) (i := 1) rfl (rel_sl (i := 2) rfl)) ?_
        refine Tops_vs (vs_add (Fact.fn Try.prog (fun (x : Int) => [vI x]) (fun (x : build_packed) => .agg #[vU64 x.Packed.Addr, vU32 x.Packed.Len, vU16 x.Packed.ID, vU16 x.Packed.Flags, vI x.id, vB x.wrap]) (.func (.func 40) #[] #[(.pointer (some ⟨b2, 0, none⟩)), (.pointer (some ⟨b6, 0, none⟩))]) (fun x => build_Packed_1 x m5 m6)) (fun R hF => ⟨rfl, fun x r hx => ⟨40, [(.pointer (some ⟨b2, 0, none⟩)), (.pointer (some ⟨b6, 0, none⟩))], [Fact.pt iS (.pointer (some ⟨b2, 0, none⟩)) m5, Fact.pt (Shape.slice PosS) (.pointer (some ⟨b6, 0, none⟩)) m6], rfl, callee40, (fal_cons (mem_at (i := 1) rfl hF) (fal_cons (mem_at (i := 3) rfl hF) fal_nil)), w_build_Packed_1 hx⟩⟩)) ?_
        obtain ⟨packed2, hx12, h⟩ := ob_e h
        refine Tops_exP rfl (OpT_call (w_build_chain_buildpacked hx12) [] [0, 4] rfl rfl rfl rfl rfl callee39 rfl rfl rfl rfl) ?_
        rintro _ ⟨v18, _, _, ⟨_, rfl, rfl, rfl⟩, rfl⟩
        refine Tops_step rfl (OpT_lenO rfl rfl rfl rfl Try.underlying84 (i := 3) rfl) ?_
        refine Tops_step rfl (OpT_move rfl rfl rfl rfl) ?_
        refine Tops_nil (Tk_wkS (fr' := [(11, some (.pointer (some ⟨b6, 0, none⟩))), (12, some (.slice none 0 0)), (59, some (v18)), (60, some (vI (len packed2))), (61, some (vI (0 : Int)))]) (own' := [some (rowS build_packedS v18 packed2)]) (shr' := [Fact.pt (Shape.slice PosS) (.pointer (some ⟨b6, 0, none⟩)) m6]) [11, 12, 59, 60, 61] [3] [3] rfl rfl rfl rfl ?_)
        refine Tk_block (Tk_nilrow PutPackedS ?_)
        refine Tk_loopS (σ := (List PutPacked) × (List build_packed) × Int × Value × Value) [11, 12, 59, 60, 61] [1, 0] [0] (fun s => ⟨[(11, some (.pointer (some ⟨b6, 0, none⟩))), (12, some (s.2.2.2.1)), (59, some (s.2.2.2.2)), (60, some (vI (len packed2))), (61, some (vI s.2.2.1))], [some (rowS PutPackedS s.2.2.2.1 s.1), some (rowS build_packedS s.2.2.2.2 s.2.1)], [Fact.pt (Shape.slice PosS) (.pointer (some ⟨b6, 0, none⟩)) m6]⟩) (fun nf4 s => build_PackedL4 m6 packed2 nf4 s.1 s.2.1 s.2.2.1 = some r) fuel ([], packed2, (0 : Int), (.slice none 0 0), v18) h rfl rfl rfl rfl rfl (fun s h => by cases h) ?_
        rintro nf4 ⟨out2, l2, x4, v19, v20⟩ h
        replace h : build_PackedL4B m6 packed2 (build_PackedL4 m6 packed2 nf4) out2 l2 x4 = some r := h
        unfold build_PackedL4B at h
        refine Tk_seq (Tk_region (Tops_step rfl (OpT_bin rfl rfl rfl rfl rfl (bin_lss_i (a := x4) (b := len packed2))) ?_))
        refine Tops_nil (Tk_seq ?_)
        rcases Bool.eq_false_or_eq_true (decide (x4 < (len packed2))) with hg8 | hg8
        ·replace h := br_t hg8 h
         refine Tk_condT (congrArg (fun b => some (Value.bool b)) hg8) ?_
         refine Tk_skip (Tk_seq (Tk_block (Tk_seq (Tk_region (Tops_step rfl (OpT_move rfl rfl rfl rfl) ?_)))))
         obtain ⟨b7, hx13, h⟩ := ob_e h
         refine Tops_step rfl (OpT_idxO rfl rfl rfl rfl rfl slF84 (i := 1) rfl hx13) ?_
         refine Tops_step rfl (OpT_loadOA (S := build_packedS) (vs := [vU64 b7.Packed.Addr, vU32 b7.Packed.Len, vU16 b7.Packed.ID, vU16 b7.Packed.Flags, vI b7.id, vB b7.wrap]) rfl rfl rfl rfl rfl tyF87 (i := 1) rfl hx13 rfl) ?_
         refine Tops_ex rfl (OpT_alloc rfl rfl rfl tyZ87) fun b8 => ?_
         refine Tops_step rfl (OpT_assign rfl rfl rfl rfl) ?_
         refine Tops_step rfl (OpT_storeC (cs' := [vU64 b7.Packed.Addr, vU32 b7.Packed.Len, vU16 b7.Packed.ID, vU16 b7.Packed.Flags, vI b7.id, vB b7.wrap]) rfl rfl rfl rfl tyF87 (i := 2) rfl rfl rfl (one_of rfl) rfl) ?_
         refine Tops_nil (Tk_wkS (fr' := [(11, some (.pointer (some ⟨b6, 0, none⟩))), (12, some (v19)), (59, some (v20)), (60, some (vI (len packed2))), (61, some (vI x4)), (14, some (.pointer (some ⟨b8, 0, none⟩))), (13, some (vI x4))]) (own' := [some (rowS PutPackedS v19 out2), some (rowS build_packedS v20 l2), some (cellsR b8 87 [vU64 b7.Packed.Addr, vU32 b7.Packed.Len, vU16 b7.Packed.ID, vU16 b7.Packed.Flags, vI b7.id, vB b7.wrap])]) (shr' := [Fact.pt (Shape.slice PosS) (.pointer (some ⟨b6, 0, none⟩)) m6]) [11, 12, 59, 60, 61, 14, 13] [0, 1, 2] [0] rfl rfl rfl rfl ?_)
         refine Tk_drawT (by kernel_rfl) ?_
         refine TA_tb [0, 0, 0, 6, 14, 30, 0, 64, 254, 510, 1023, 2047] (by kernel_rfl) fun htb => ?_
         obtain ⟨p4, hx14, h⟩ := ob_e h
         refine TA_seg (lo := 0) (hi := 10) htb rfl rfl (by kernel_rfl) (fun c L a w => ∃ (v21 : Value), ∃ (p5 : Value), ∃ (p6 : Value), ∃ (v22 : Value), Sat c ⟨[(11, some (.pointer (some ⟨b6, 0, none⟩))), (12, some (v19)), (59, some (v20)), (60, some (vI (len packed2))), (61, some (vI x4)), (14, some (.pointer (some ⟨b8, 0, none⟩))), (13, some (vI x4)), (66, bif L 0 then some (v19) else none), (67, bif L 1 then some (v21) else none), (68, bif L 2 then some (vI x4) else none), (69, bif L 3 then some (p5) else none), (70, bif L 4 then some (p6) else none), (71, bif L 5 then some (vI p4.At) else none), (72, bif L 6 then some (.pointer (some ⟨b8, 0, none⟩)) else none), (73, bif L 7 then some (.agg #[vU64 b7.Packed.Addr, vU32 b7.Packed.Len, vU16 b7.Packed.ID, vU16 b7.Packed.Flags]) else none), (74, bif L 8 then some (.agg #[vI p4.At, vU64 b7.Packed.Addr, vU32 b7.Packed.Len, vU16 b7.Packed.ID, vU16 b7.Packed.Flags]) else none), (75, bif L 9 then some (v22) else none)], [(some (rowS PutPackedS v19 out2) : Option Res), (some (rowS build_packedS v20 l2) : Option Res), (some (cellsR b8 87 [vU64 b7.Packed.Addr, vU32 b7.Packed.Len, vU16 b7.Packed.ID, vU16 b7.Packed.Flags, vI b7.id, vB b7.wrap]) : Option Res), (bif L 9 then some (rowS PutPackedS v22 [(PutPacked.mk p4.At b7.Packed)]) else none : Option Res)], [Fact.pt (Shape.slice PosS) (.pointer (some ⟨b6, 0, none⟩)) m6, (bif L 1 then Fact.sl PosS v21 m6 else Fact.tt), (bif L 3 then Fact.pt PosS p5 p4 else Fact.tt), (bif L 4 then Fact.pt iS p6 p4.At else Fact.tt)]⟩ a w) [([], []), ([], [3, 4, 5, 8, 9]), ([], [3, 4, 5, 8, 9]), ([1, 2], [4, 5, 8, 9]), ([1, 2, 3], [5, 8, 9]), ([1, 2, 3, 4], [8, 9]), ([], [7, 8, 9]), ([6], [8, 9]), ([1, 2, 3, 4, 5, 6, 7], [9]), ([1, 2, 3, 4, 5, 6, 7, 8], [])] rfl (by kernel_rfl) ?_ (steps_cons ?_ (steps_cons ?_ (steps_cons ?_ (steps_cons ?_ (steps_cons ?_ (steps_cons ?_ (steps_cons ?_ (steps_cons ?_ (steps_cons ?_ (steps_cons ?_ (steps_nil))))))))))) ?_
         ·intro a w hs
          exact ⟨undef, undef, undef, undef, hs.startF [66, 67, 68, 69, 70, 71, 72, 73, 74, 75] [0, 1, 2, 3] [0, 1, 2, 3] rfl rfl rfl rfl⟩
         ·intro L a w hv K Q hK
          obtain ⟨v21, p5, p6, v22, hs⟩ := hv
          refine wpOp_go rfl rfl hs (OpT_move rfl rfl rfl rfl) ?_
          rintro _ rfl a' w' hs'
          exact hK a' w' ⟨v21, p5, p6, v22, hs'.putF (i := 7) rfl [0, 1, 2, 3] [0, 1, 2, 3] rfl rfl rfl rfl⟩
         ·intro L a w hv K Q hK
          obtain ⟨v21, p5, p6, v22, hs⟩ := hv
          refine wpOp_go rfl rfl hs (OpT_loadPS rfl rfl rfl rfl tyF81 (i := 0) rfl) ?_
          rintro _ ⟨v21', rfl⟩ a' w' hs'
          exact hK a' w' ⟨v21', p5, p6, v22, hs'.putF (i := 8) rfl [0, 1, 2, 3] [0, 4, 2, 3] rfl rfl rfl rfl⟩
         ·intro L a w hv K Q hK
          obtain ⟨v21, p5, p6, v22, hs⟩ := hv
          refine wpOp_go rfl rfl hs (OpT_move rfl rfl rfl rfl) ?_
          rintro _ rfl a' w' hs'
          exact hK a' w' ⟨v21, p5, p6, v22, hs'.putF (i := 9) rfl [0, 1, 2, 3] [0, 1, 2, 3] rfl rfl rfl rfl⟩
         ·intro L a w hv K Q hK
          obtain ⟨v21, p5, p6, v22, hs⟩ := hv
          refine wpOp_go rfl rfl hs (OpT_idxS rfl rfl rfl rfl rfl slF81 (i := 1) rfl hx14) ?_
          rintro _ ⟨p5', rfl⟩ a' w' hs'
          exact hK a' w' ⟨v21, p5', p6, v22, hs'.putF (i := 10) rfl [0, 1, 2, 3] [0, 1, 4, 3] rfl rfl rfl rfl⟩
         ·intro L a w hv K Q hK
          obtain ⟨v21, p5, p6, v22, hs⟩ := hv
          refine wpOp_go rfl rfl hs (OpT_fieldP (S' := iS) (y := p4.At) rfl rfl rfl rfl fldF33x0 (i := 2) rfl (by intro h cs hr; subst hr; rfl)) ?_
          rintro _ ⟨p6', rfl⟩ a' w' hs'
          exact hK a' w' ⟨v21, p5, p6', v22, hs'.putF (i := 11) rfl [0, 1, 2, 3] [0, 1, 2, 4] rfl rfl rfl rfl⟩
         ·intro L a w hv K Q hK
          obtain ⟨v21, p5, p6, v22, hs⟩ := hv
          refine wpOp_go rfl rfl hs (OpT_loadP rfl rfl rfl rfl tyF3 (i := 3) rfl rfl) ?_
          rintro _ rfl a' w' hs'
          exact hK a' w' ⟨v21, p5, p6, v22, hs'.putF (i := 12) rfl [0, 1, 2, 3] [0, 1, 2, 3] rfl rfl rfl rfl⟩
         ·intro L a w hv K Q hK
          obtain ⟨v21, p5, p6, v22, hs⟩ := hv
          refine wpOp_go rfl rfl hs (OpT_fieldC rfl rfl rfl rfl fldF87x0) ?_
          rintro _ rfl a' w' hs'
          exact hK a' w' ⟨v21, p5, p6, v22, hs'.putF (i := 13) rfl [0, 1, 2, 3] [0, 1, 2, 3] rfl rfl rfl rfl⟩
         ·intro L a w hv K Q hK
          obtain ⟨v21, p5, p6, v22, hs⟩ := hv
          refine wpOp_go rfl rfl hs (OpT_loadCA (vs := [vU64 b7.Packed.Addr, vU32 b7.Packed.Len, vU16 b7.Packed.ID, vU16 b7.Packed.Flags]) rfl rfl rfl rfl tyF44 (i := 2) rfl rfl rfl) ?_
          rintro _ rfl a' w' hs'
          exact hK a' w' ⟨v21, p5, p6, v22, hs'.putF (i := 14) rfl [0, 1, 2, 3] [0, 1, 2, 3] rfl rfl rfl rfl⟩
         ·intro L a w hv K Q hK
          obtain ⟨v21, p5, p6, v22, hs⟩ := hv
          refine wpOp_go rfl rfl hs (OpT_build (v := .agg #[vI p4.At, vU64 b7.Packed.Addr, vU32 b7.Packed.Len, vU16 b7.Packed.ID, vU16 b7.Packed.Flags]) rfl rfl rfl rfl (bldV (by kernel_rfl))) ?_
          rintro _ rfl a' w' hs'
          exact hK a' w' ⟨v21, p5, p6, v22, hs'.putF (i := 15) rfl [0, 1, 2, 3] [0, 1, 2, 3] rfl rfl rfl rfl⟩
         ·intro L a w hv K Q hK
          obtain ⟨v21, p5, p6, v22, hs⟩ := hv
          refine wpOp_go rfl rfl hs (OpT_buildSlice (S := PutPackedS) (xs := [(PutPacked.mk p4.At b7.Packed)]) (css := [[vI p4.At, vU64 b7.Packed.Addr, vU32 b7.Packed.Len, vU16 b7.Packed.ID, vU16 b7.Packed.Flags]]) (cs := [vI p4.At, vU64 b7.Packed.Addr, vU32 b7.Packed.Len, vU16 b7.Packed.ID, vU16 b7.Packed.Flags]) (e := 46) rfl rfl rfl rfl (bldF slF29 (by decide) (by kernel_rfl)) rfl rfl rfl rfl (rel_plainD (S := PutPackedS) (xs := [(PutPacked.mk p4.At b7.Packed)]) (css := [[vI p4.At, vU64 b7.Packed.Addr, vU32 b7.Packed.Len, vU16 b7.Packed.ID, vU16 b7.Packed.Flags]]) rfl rfl)) ?_
          rintro _ ⟨v22', rfl⟩ a' w' hs'
          exact hK a' w' ⟨v21, p5, p6, v22', hs'.putF (i := 16) rfl [0, 1, 2, 4] [0, 1, 2, 3] rfl rfl rfl rfl⟩
         ·intro L a w hL hv
          rw [allTrue hL] at hv
          obtain ⟨v21, p5, p6, v22, hs⟩ := hv
          refine (show TA _ _ _ 10 ⟨[(11, some (.pointer (some ⟨b6, 0, none⟩))), (59, some (v20)), (60, some (vI (len packed2))), (61, some (vI x4)), (66, some (v19)), (75, some (v22))], [some (rowS PutPackedS v19 out2), some (rowS build_packedS v20 l2), some (rowS PutPackedS v22 [(PutPacked.mk p4.At b7.Packed)])], [Fact.pt (Shape.slice PosS) (.pointer (some ⟨b6, 0, none⟩)) m6]⟩ from ?_) a w (hs.wkS [11, 59, 60, 61, 66, 75] [0, 1, 3] [0] rfl rfl rfl rfl)
          clear hs hL
          obtain ⟨hc4, h⟩ := chk_e h
          refine TA_ex htb (by kernel_rfl) rfl rfl (OpT_appendB (S := PutPackedS) rfl rfl rfl rfl rfl rfl slF29 (i := 0) (j := 2) rfl rfl hc4) fun v23 => ?_
          refine TA_step htb (by kernel_rfl) rfl rfl (OpT_assign rfl rfl rfl rfl) ?_
          refine TA_end rfl ?_
          refine Tk_wkS (fr' := [(11, some (.pointer (some ⟨b6, 0, none⟩))), (59, some (v20)), (60, some (vI (len packed2))), (61, some (vI x4)), (12, some (v23))]) (own' := [some (rowS PutPackedS v23 (out2 ++ [(PutPacked.mk p4.At b7.Packed)])), some (rowS build_packedS v20 l2)]) (shr' := [Fact.pt (Shape.slice PosS) (.pointer (some ⟨b6, 0, none⟩)) m6]) [11, 59, 60, 61, 12] [0, 1] [0] rfl rfl rfl rfl ?_
          refine Tk_blk (Tk_region (Tops_step rfl (OpT_bin rfl rfl rfl rfl rfl (bin_add_i (a := x4) (b := (1 : Int)))) ?_))
          refine Tops_step rfl (OpT_move rfl rfl rfl rfl) ?_
          refine Tops_nil (Tk_wkS (fr' := [(11, some (.pointer (some ⟨b6, 0, none⟩))), (59, some (v20)), (60, some (vI (len packed2))), (61, some (vI (wi (x4 + (1 : Int))))), (12, some (v23))]) (own' := [some (rowS PutPackedS v23 (out2 ++ [(PutPacked.mk p4.At b7.Packed)])), some (rowS build_packedS v20 l2)]) (shr' := [Fact.pt (Shape.slice PosS) (.pointer (some ⟨b6, 0, none⟩)) m6]) [11, 59, 60, 61, 12] [0, 1] [0] rfl rfl rfl rfl ?_)
          exact Tk_backS (out2 ++ [(PutPacked.mk p4.At b7.Packed)], l2, wi (x4 + (1 : Int)), v23, v20) h [11, 12, 59, 60, 61] [0, 1] [0] rfl rfl rfl rfl rfl
        ·replace h := br_f hg8 h
         refine Tk_condF (congrArg (fun b => some (Value.bool b)) hg8) ?_
         refine Tk_exit _ rfl ?_
         refine Tk_seq (Tk_region (Tops_step rfl (OpT_move rfl rfl rfl rfl) ?_))
         refine Tops_step rfl (OpT_assign rfl rfl rfl rfl) ?_
         refine Tops_step rfl (OpT_assign rfl rfl rfl rfl) ?_
         refine Tops_nil (Tk_wkS (fr' := [(8, some (v19)), (9, some (vI (0 : Int)))]) (own' := [some (rowS PutPackedS v19 out2)]) (shr' := []) [8, 9] [0] [] rfl rfl rfl rfl ?_)
         obtain rfl := Option.some.inj h
         exact Tk_retV rfl rfl (resA (vs := [v19, vI (0 : Int)]) rfl ⟨rfl, rfl, trivial⟩) [0] [] rfl rfl rfl ⟨v19, rfl, rfl, rfl⟩
   ·replace h := br_f hg5 h
    refine TA_seg (lo := 11) (hi := 13) htb rfl rfl (by kernel_rfl) (fun c L a w => Sat c ⟨[(1, some (vI size)), (3, some (vl1)), (4, some (.pointer (some ⟨b1, 0, none⟩))), (6, some (.pointer (some ⟨b2, 0, none⟩))), (16, some (v1)), (25, some (vB (decide (id < (0 : Int))))), (26, bif L 11 then some (vI id) else none), (27, bif L 12 then some (vI size) else none)], [(some (cellsR b1 33 [vI pp0.At, vB pp0.Wrap]) : Option Res), (some (cellsR b2 3 [vI id]) : Option Res)], [Fact.sl SegS vl1 l, Fact.fn Try.prog av0 vI v1 (fun _ => buffer1)]⟩ a w) [([], []), ([], [])] rfl (by kernel_rfl) ?_ (steps_cons ?_ (steps_cons ?_ (steps_nil))) ?_
    ·intro a w hs
     exact hs.startF [26, 27] [0, 1] [0, 1] rfl rfl rfl rfl
    ·intro L a w hv K Q hK
     have hs := hv
     refine wpOp_yes rfl rfl rfl hs (congrArg (fun b => some (Value.bool b)) hg5) (OpT_loadC rfl rfl rfl rfl tyF3 (i := 1) rfl rfl) ?_
     rintro _ rfl a' w' hs'
     exact hK a' w' (hs'.putF (i := 6) rfl [0, 1] [0, 1] rfl rfl rfl rfl)
    ·intro L a w hv K Q hK
     have hs := hv
     refine wpOp_yes rfl rfl rfl hs (congrArg (fun b => some (Value.bool b)) hg5) (OpT_move rfl rfl rfl rfl) ?_
     rintro _ rfl a' w' hs'
     exact hK a' w' (hs'.putF (i := 7) rfl [0, 1] [0, 1] rfl rfl rfl rfl)
    ·intro L a w hL hv
     rw [allTrue hL] at hv
     have hs := hv
     refine (show TA _ _ _ 13 ⟨[(1, some (vI size)), (3, some (vl1)), (4, some (.pointer (some ⟨b1, 0, none⟩))), (6, some (.pointer (some ⟨b2, 0, none⟩))), (16, some (v1)), (25, some (vB (decide (id < (0 : Int))))), (26, some (vI id)), (27, some (vI size))], [some (cellsR b1 33 [vI pp0.At, vB pp0.Wrap]), some (cellsR b2 3 [vI id])], [Fact.sl SegS vl1 l, Fact.fn Try.prog av0 vI v1 (fun _ => buffer1)]⟩ from ?_) a w (hs.wkS [1, 3, 4, 6, 16, 25, 26, 27] [0, 1] [0, 1] rfl rfl rfl rfl)
     clear hs hL
     refine TA_yes htb (by kernel_rfl) rfl rfl rfl (congrArg (fun b => some (Value.bool b)) hg5) (OpT_bin rfl rfl rfl rfl rfl (bin_geq_i (a := id) (b := size))) ?_
     rintro _ rfl
     refine TA_step htb (by kernel_rfl) rfl rfl (OpT_pickF rfl rfl rfl (congrArg (fun b => some (Value.bool b)) hg5) rfl) ?_
     refine TA_step htb (by kernel_rfl) rfl rfl (OpT_move rfl rfl rfl rfl) ?_
     refine TA_wkS (fr' := [(1, some (vI size)), (3, some (vl1)), (4, some (.pointer (some ⟨b1, 0, none⟩))), (6, some (.pointer (some ⟨b2, 0, none⟩))), (16, some (v1)), (30, some (vB (decide (id ≥ size))))]) (own' := [some (cellsR b1 33 [vI pp0.At, vB pp0.Wrap]), some (cellsR b2 3 [vI id])]) (shr' := [Fact.sl SegS vl1 l, Fact.fn Try.prog av0 vI v1 (fun _ => buffer1)]) [1, 3, 4, 6, 16, 30] [0, 1] [0, 1] rfl rfl rfl rfl ?_
     rcases Bool.eq_false_or_eq_true (decide (id ≥ size)) with hg9 | hg9
     ·replace h := br_t hg9 h
      refine TA_seg (lo := 16) (hi := 19) htb rfl rfl (by kernel_rfl) (fun c L a w => Sat c ⟨[(1, some (vI size)), (3, some (vl1)), (4, some (.pointer (some ⟨b1, 0, none⟩))), (6, some (.pointer (some ⟨b2, 0, none⟩))), (16, some (v1)), (30, some (vB (decide (id ≥ size)))), (31, bif L 16 then some (undef) else none), (32, bif L 17 then some (undef) else none), (33, bif L 18 then some (undef) else none)], [(some (cellsR b1 33 [vI pp0.At, vB pp0.Wrap]) : Option Res), (some (cellsR b2 3 [vI id]) : Option Res)], [Fact.sl SegS vl1 l, Fact.fn Try.prog av0 vI v1 (fun _ => buffer1)]⟩ a w) [([], [17]), ([16], []), ([], [])] rfl (by kernel_rfl) ?_ (steps_cons ?_ (steps_cons ?_ (steps_cons ?_ (steps_nil)))) ?_
      ·intro a w hs
       exact hs.startF [31, 32, 33] [0, 1] [0, 1] rfl rfl rfl rfl
      ·intro L a w hv K Q hK
       have hs := hv
       refine wpOp_no rfl rfl rfl hs (congrArg (fun b => some (Value.bool b)) hg9) rfl rfl ?_
       intro a' w' hs'
       exact hK a' w' (hs'.putF (i := 6) rfl [0, 1] [0, 1] rfl rfl rfl rfl)
      ·intro L a w hv K Q hK
       have hs := hv
       refine wpOp_no rfl rfl rfl hs (congrArg (fun b => some (Value.bool b)) hg9) rfl rfl ?_
       intro a' w' hs'
       exact hK a' w' (hs'.putF (i := 7) rfl [0, 1] [0, 1] rfl rfl rfl rfl)
      ·intro L a w hv K Q hK
       have hs := hv
       refine wpOp_no rfl rfl rfl hs (congrArg (fun b => some (Value.bool b)) hg9) rfl rfl ?_
       intro a' w' hs'
       exact hK a' w' (hs'.putF (i := 8) rfl [0, 1] [0, 1] rfl rfl rfl rfl)
      ·intro L a w hL hv
       rw [allTrue hL] at hv
       have hs := hv
       refine (show TA _ _ _ 19 ⟨[(1, some (vI size)), (3, some (vl1)), (4, some (.pointer (some ⟨b1, 0, none⟩))), (6, some (.pointer (some ⟨b2, 0, none⟩))), (16, some (v1)), (30, some (vB (decide (id ≥ size)))), (32, some (undef)), (33, some (undef))], [some (cellsR b1 33 [vI pp0.At, vB pp0.Wrap]), some (cellsR b2 3 [vI id])], [Fact.sl SegS vl1 l, Fact.fn Try.prog av0 vI v1 (fun _ => buffer1)]⟩ from ?_) a w (hs.wkS [1, 3, 4, 6, 16, 30, 32, 33] [0, 1] [0, 1] rfl rfl rfl rfl)
       clear hs hL
       refine TA_no htb (by kernel_rfl) rfl rfl rfl (congrArg (fun b => some (Value.bool b)) hg9) rfl rfl ?_
       refine TA_step htb (by kernel_rfl) rfl rfl (OpT_pickT rfl rfl rfl (congrArg (fun b => some (Value.bool b)) hg9) rfl) ?_
       obtain ⟨wrong3, hx15, h⟩ := ob_e h
       refine TA_exP htb (by kernel_rfl) rfl rfl (OpT_call (w_build_wrong hx15) [] [] rfl rfl rfl rfl rfl callee33 rfl rfl rfl rfl) ?_
       rintro _ ⟨v24, _, _, ⟨_, rfl, rfl, rfl⟩, rfl⟩
       refine TA_ex htb (by kernel_rfl) rfl rfl (OpT_buildOne fnS71 (vs := [v1, v24]) (xs := [buffer1, wrong3]) rfl rfl rfl rfl rfl slF98 rfl rfl rfl (rel_cons (rel_fn (i := 1) rfl) (rel_cons (rel_fn (i := 2) rfl) (rel_nil rfl)))) fun v25 => ?_
       obtain ⟨first3, hx16, h⟩ := ob_e h
       refine TA_exP htb (by kernel_rfl) rfl rfl (OpT_callB [2] [0, 1, 2] (w_build_first hx16) [] rfl rfl rfl rfl rfl callee31 rfl rfl rfl rfl rfl rfl (bor_cons (bor_row 2 rfl rfl) bor_nil) (by rintro _ _ _ ⟨rfl, rfl, rfl⟩; exact ⟨rfl, ri_nil⟩)) ?_
       rintro _ ⟨_, _, _, ⟨rfl, rfl, rfl⟩, rfl⟩
       refine TA_wkS (fr' := [(1, some (vI size)), (3, some (vl1)), (4, some (.pointer (some ⟨b1, 0, none⟩))), (6, some (.pointer (some ⟨b2, 0, none⟩))), (38, some (vI first3))]) (own' := [some (cellsR b1 33 [vI pp0.At, vB pp0.Wrap]), some (cellsR b2 3 [vI id])]) (shr' := [Fact.sl SegS vl1 l]) [1, 3, 4, 6, 38] [0, 1] [0] rfl rfl rfl rfl ?_
       refine TA_step htb (by kernel_rfl) rfl rfl (OpT_assign rfl rfl rfl rfl) ?_
       refine TA_end rfl ?_
       refine Tk_wkS (fr' := [(1, some (vI size)), (3, some (vl1)), (4, some (.pointer (some ⟨b1, 0, none⟩))), (6, some (.pointer (some ⟨b2, 0, none⟩))), (10, some (vI first3))]) (own' := [some (cellsR b1 33 [vI pp0.At, vB pp0.Wrap]), some (cellsR b2 3 [vI id])]) (shr' := [Fact.sl SegS vl1 l]) [1, 3, 4, 6, 10] [0, 1] [0] rfl rfl rfl rfl ?_
       refine Tk_seq (Tk_region (Tops_step rfl (OpT_move rfl rfl rfl rfl) ?_))
       refine Tops_step rfl (OpT_bin rfl rfl rfl rfl rfl (bin_neq_i (a := first3) (b := (0 : Int)))) ?_
       refine Tops_nil (Tk_wkS (fr' := [(1, some (vI size)), (3, some (vl1)), (4, some (.pointer (some ⟨b1, 0, none⟩))), (6, some (.pointer (some ⟨b2, 0, none⟩))), (10, some (vI first3)), (40, some (vB (first3 != (0 : Int))))]) (own' := [some (cellsR b1 33 [vI pp0.At, vB pp0.Wrap]), some (cellsR b2 3 [vI id])]) (shr' := [Fact.sl SegS vl1 l]) [1, 3, 4, 6, 10, 40] [0, 1] [0] rfl rfl rfl rfl ?_)
       rcases Bool.eq_false_or_eq_true (first3 != (0 : Int)) with hg10 | hg10
       ·replace h := br_t hg10 h
        refine Tk_condT (congrArg (fun b => some (Value.bool b)) hg10) ?_
        refine Tk_seq (Tk_region (Tops_step rfl (OpT_move rfl rfl rfl rfl) ?_))
        refine Tops_step rfl (OpT_assign rfl rfl rfl rfl) ?_
        refine Tops_step rfl (OpT_assign rfl rfl rfl rfl) ?_
        refine Tops_nil (Tk_wkS (fr' := [(8, some (.slice none 0 0)), (9, some (vI first3))]) (own' := []) (shr' := []) [8, 9] [] [] rfl rfl rfl rfl ?_)
        refine Tk_nilrow PutPackedS ?_
        obtain rfl := Option.some.inj h
        exact Tk_retV rfl rfl (resA (vs := [.slice none 0 0, vI first3]) rfl ⟨rfl, rfl, trivial⟩) [0] [] rfl rfl rfl ⟨(.slice none 0 0), rfl, rfl, rfl⟩
       ·replace h := br_f hg10 h
        refine Tk_condF (congrArg (fun b => some (Value.bool b)) hg10) ?_
        refine Tk_skip (Tk_seq (Tk_region (Tops_ex rfl (OpT_alloc rfl rfl rfl tyZ81) fun b9 => ?_)))
        refine Tops_nil (Tk_wkS (fr' := [(1, some (vI size)), (3, some (vl1)), (4, some (.pointer (some ⟨b1, 0, none⟩))), (6, some (.pointer (some ⟨b2, 0, none⟩))), (11, some (.pointer (some ⟨b9, 0, none⟩)))]) (own' := [some (cellsR b1 33 [vI pp0.At, vB pp0.Wrap]), some (cellsR b2 3 [vI id]), some (cellsR b9 81 [.slice none 0 0])]) (shr' := [Fact.sl SegS vl1 l]) [1, 3, 4, 6, 11] [0, 1, 2] [0] rfl rfl rfl rfl ?_)
        refine Tk_seq (Tk_seq (Tk_region (Tops_step rfl (OpT_move rfl rfl rfl rfl) ?_)))
        refine Tops_step rfl (OpT_lenS rfl rfl rfl rfl Try.underlying27 (i := 0) rfl) ?_
        refine Tops_step rfl (OpT_move rfl rfl rfl rfl) ?_
        refine Tops_nil (Tk_wkS (fr' := [(1, some (vI size)), (3, some (vl1)), (4, some (.pointer (some ⟨b1, 0, none⟩))), (6, some (.pointer (some ⟨b2, 0, none⟩))), (11, some (.pointer (some ⟨b9, 0, none⟩))), (43, some (vI (len l))), (44, some (vI (0 : Int)))]) (own' := [some (cellsR b1 33 [vI pp0.At, vB pp0.Wrap]), some (cellsR b2 3 [vI id]), some (cellsR b9 81 [.slice none 0 0])]) (shr' := [Fact.sl SegS vl1 l]) [1, 3, 4, 6, 11, 43, 44] [0, 1, 2] [0] rfl rfl rfl rfl ?_)
        refine Tk_block (Tk_nilrow PosS ?_)
        refine Tk_loopS (σ := Pos × Int × (List Pos) × Int × Value) [1, 3, 4, 6, 11, 43, 44] [0, 1, 2, 3] [0] (fun s => ⟨[(1, some (vI size)), (3, some (vl1)), (4, some (.pointer (some ⟨b1, 0, none⟩))), (6, some (.pointer (some ⟨b2, 0, none⟩))), (11, some (.pointer (some ⟨b9, 0, none⟩))), (43, some (vI (len l))), (44, some (vI s.2.2.2.1))], [some (cellsR b1 33 [vI s.1.At, vB s.1.Wrap]), some (cellsR b2 3 [vI s.2.1]), some (cellsR b9 81 [s.2.2.2.2]), some (rowS PosS s.2.2.2.2 s.2.2.1)], [Fact.sl SegS vl1 l]⟩) (fun nf5 s => build_PackedL5 size l nf5 s.1 s.2.1 s.2.2.1 s.2.2.2.1 = some r) fuel (pp0, id, ([] : List Pos), (0 : Int), .slice none 0 0) h rfl rfl rfl rfl rfl (fun s h => by cases h) ?_
        rintro nf5 ⟨m7, m8, m9, x5, v26⟩ h
        replace h : build_PackedL5B size l (build_PackedL5 size l nf5) m7 m8 m9 x5 = some r := h
        unfold build_PackedL5B at h
        refine Tk_seq (Tk_region (Tops_step rfl (OpT_bin rfl rfl rfl rfl rfl (bin_lss_i (a := x5) (b := len l))) ?_))
        refine Tops_nil (Tk_seq ?_)
        rcases Bool.eq_false_or_eq_true (decide (x5 < (len l))) with hg11 | hg11
        ·replace h := br_t hg11 h
         refine Tk_condT (congrArg (fun b => some (Value.bool b)) hg11) ?_
         refine Tk_skip (Tk_seq (Tk_block (Tk_seq (Tk_region (Tops_step rfl (OpT_loadC rfl rfl rfl rfl tyF81 (i := 2) rfl rfl) ?_)))))
         refine Tops_step rfl (OpT_loadCA (vs := [vI m7.At, vB m7.Wrap]) rfl rfl rfl rfl tyF33 (i := 0) rfl rfl rfl) ?_
         refine Tops_ex rfl (OpT_buildSlice (S := PosS) (xs := [m7]) (css := [[vI m7.At, vB m7.Wrap]]) (cs := [vI m7.At, vB m7.Wrap]) (e := 33) rfl rfl rfl rfl (bldF slF81 (by decide) (by kernel_rfl)) rfl rfl rfl rfl (rel_plainD (S := PosS) (xs := [m7]) (css := [[vI m7.At, vB m7.Wrap]]) rfl rfl)) fun v27 => ?_
         obtain ⟨hc5, h⟩ := chk_e h
         refine Tops_ex rfl (OpT_appendB (S := PosS) rfl rfl rfl rfl rfl rfl slF81 (i := 3) (j := 4) rfl rfl hc5) fun v28 => ?_
         refine Tops_step rfl (OpT_storeV (cs' := [v28]) rfl rfl rfl rfl tyF81 (i := 2) rfl (is_row (i := 3) rfl) rfl rfl) ?_
         refine Tops_nil (Tk_wkS (fr' := [(1, some (vI size)), (3, some (vl1)), (4, some (.pointer (some ⟨b1, 0, none⟩))), (6, some (.pointer (some ⟨b2, 0, none⟩))), (11, some (.pointer (some ⟨b9, 0, none⟩))), (43, some (vI (len l))), (44, some (vI x5))]) (own' := [some (cellsR b1 33 [vI m7.At, vB m7.Wrap]), some (cellsR b2 3 [vI m8]), some (cellsR b9 81 [v28]), some (rowS PosS v28 (m9 ++ [m7]))]) (shr' := [Fact.sl SegS vl1 l]) [1, 3, 4, 6, 11, 43, 44] [0, 1, 2, 3] [0] rfl rfl rfl rfl ?_)
         refine Tk_region (Tops_step rfl (OpT_loadCA (vs := [vI m7.At, vB m7.Wrap]) rfl rfl rfl rfl tyF33 (i := 0) rfl rfl rfl) ?_)
         refine Tops_step rfl (OpT_move rfl rfl rfl rfl) ?_
         obtain ⟨go3, hx17, h⟩ := ob_e h
         refine Tops_exP rfl (OpT_call (w_serial_Go hx17) [] [] rfl rfl rfl rfl rfl callee38 rfl rfl rfl rfl) ?_
         rintro _ ⟨_, _, _, ⟨rfl, rfl, rfl⟩, rfl⟩
         refine Tops_step rfl (OpT_move rfl rfl rfl rfl) ?_
         refine Tops_step rfl (OpT_extract rfl rfl rfl rfl rfl) ?_
         refine Tops_step rfl (OpT_extract rfl rfl rfl rfl rfl) ?_
         refine Tops_step rfl (OpT_storeC (cs' := [vI go3.1.At, vB go3.1.Wrap]) rfl rfl rfl rfl tyF33 (i := 0) rfl rfl rfl (one_of rfl) rfl) ?_
         refine Tops_nil (Tk_wkS (fr' := [(1, some (vI size)), (3, some (vl1)), (4, some (.pointer (some ⟨b1, 0, none⟩))), (6, some (.pointer (some ⟨b2, 0, none⟩))), (11, some (.pointer (some ⟨b9, 0, none⟩))), (43, some (vI (len l))), (44, some (vI x5))]) (own' := [some (cellsR b1 33 [vI go3.1.At, vB go3.1.Wrap]), some (cellsR b2 3 [vI m8]), some (cellsR b9 81 [v28]), some (rowS PosS v28 (m9 ++ [m7]))]) (shr' := [Fact.sl SegS vl1 l]) [1, 3, 4, 6, 11, 43, 44] [0, 1, 2, 3] [0] rfl rfl rfl rfl ?_)
         refine Tk_blk (Tk_region (Tops_step rfl (OpT_bin rfl rfl rfl rfl rfl (bin_add_i (a := x5) (b := (1 : Int)))) ?_))
         refine Tops_step rfl (OpT_move rfl rfl rfl rfl) ?_
         refine Tops_nil (Tk_wkS (fr' := [(1, some (vI size)), (3, some (vl1)), (4, some (.pointer (some ⟨b1, 0, none⟩))), (6, some (.pointer (some ⟨b2, 0, none⟩))), (11, some (.pointer (some ⟨b9, 0, none⟩))), (43, some (vI (len l))), (44, some (vI (wi (x5 + (1 : Int)))))]) (own' := [some (cellsR b1 33 [vI go3.1.At, vB go3.1.Wrap]), some (cellsR b2 3 [vI m8]), some (cellsR b9 81 [v28]), some (rowS PosS v28 (m9 ++ [m7]))]) (shr' := [Fact.sl SegS vl1 l]) [1, 3, 4, 6, 11, 43, 44] [0, 1, 2, 3] [0] rfl rfl rfl rfl ?_)
         exact Tk_backS (go3.1, m8, m9 ++ [m7], wi (x5 + (1 : Int)), v28) h [1, 3, 4, 6, 11, 43, 44] [0, 1, 2, 3] [0] rfl rfl rfl rfl rfl
        ·replace h := br_f hg11 h
         refine Tk_condF (congrArg (fun b => some (Value.bool b)) hg11) ?_
         refine Tk_exit _ rfl ?_
         refine Tk_seq (Tk_region (Tops_step rfl (OpT_assign rfl rfl rfl rfl) ?_))
         refine Tops_nil (Tk_wkS (fr' := [(3, some (vl1)), (6, some (.pointer (some ⟨b2, 0, none⟩))), (11, some (.pointer (some ⟨b9, 0, none⟩))), (12, some (.slice none 0 0))]) (own' := [some (cellsR b2 3 [vI m8]), some (cellsR b9 81 [v26]), some (rowS PosS v26 m9)]) (shr' := [Fact.sl SegS vl1 l]) [3, 6, 11, 12] [1, 2, 3] [0] rfl rfl rfl rfl ?_)
         refine Tk_seq (Tk_seq (Tk_region (Tops_step rfl (OpT_move rfl rfl rfl rfl) ?_)))
         refine Tops_step rfl (OpT_makeFunc (vs := [.pointer (some ⟨b2, 0, none⟩), .pointer (some ⟨b9, 0, none⟩)]) rfl rfl rfl rfl) ?_
         refine Tops_vs (vs_retireP iS (x := m8) (i := 0) rfl (fun _ _ => rfl)) ?_
         refine Tops_retire (i := 2) rfl ?_
         refine Tops_vs (vs_retireP (Shape.slice PosS) (x := m9) (i := 1) rfl (rel_sl (i := 2) rfl)) ?_
         refine Tops_vs (vs_add (Fact.fn Try.prog (fun (x : Int) => [vI x]) (fun (x : build_packed) => .agg #[vU64 x.Packed.Addr, vU32 x.Packed.Len, vU16 x.Packed.ID, vU16 x.Packed.Flags, vI x.id, vB x.wrap]) (.func (.func 40) #[] #[(.pointer (some ⟨b2, 0, none⟩)), (.pointer (some ⟨b9, 0, none⟩))]) (fun x => build_Packed_1 x m8 m9)) (fun R hF => ⟨rfl, fun x r hx => ⟨40, [(.pointer (some ⟨b2, 0, none⟩)), (.pointer (some ⟨b9, 0, none⟩))], [Fact.pt iS (.pointer (some ⟨b2, 0, none⟩)) m8, Fact.pt (Shape.slice PosS) (.pointer (some ⟨b9, 0, none⟩)) m9], rfl, callee40, (fal_cons (mem_at (i := 1) rfl hF) (fal_cons (mem_at (i := 3) rfl hF) fal_nil)), w_build_Packed_1 hx⟩⟩)) ?_
         obtain ⟨packed3, hx18, h⟩ := ob_e h
         refine Tops_exP rfl (OpT_call (w_build_chain_buildpacked hx18) [] [0, 4] rfl rfl rfl rfl rfl callee39 rfl rfl rfl rfl) ?_
         rintro _ ⟨v29, _, _, ⟨_, rfl, rfl, rfl⟩, rfl⟩
         refine Tops_step rfl (OpT_lenO rfl rfl rfl rfl Try.underlying84 (i := 3) rfl) ?_
         refine Tops_step rfl (OpT_move rfl rfl rfl rfl) ?_
         refine Tops_nil (Tk_wkS (fr' := [(11, some (.pointer (some ⟨b9, 0, none⟩))), (12, some (.slice none 0 0)), (59, some (v29)), (60, some (vI (len packed3))), (61, some (vI (0 : Int)))]) (own' := [some (rowS build_packedS v29 packed3)]) (shr' := [Fact.pt (Shape.slice PosS) (.pointer (some ⟨b9, 0, none⟩)) m9]) [11, 12, 59, 60, 61] [3] [3] rfl rfl rfl rfl ?_)
         refine Tk_block (Tk_nilrow PutPackedS ?_)
         refine Tk_loopS (σ := (List PutPacked) × (List build_packed) × Int × Value × Value) [11, 12, 59, 60, 61] [1, 0] [0] (fun s => ⟨[(11, some (.pointer (some ⟨b9, 0, none⟩))), (12, some (s.2.2.2.1)), (59, some (s.2.2.2.2)), (60, some (vI (len packed3))), (61, some (vI s.2.2.1))], [some (rowS PutPackedS s.2.2.2.1 s.1), some (rowS build_packedS s.2.2.2.2 s.2.1)], [Fact.pt (Shape.slice PosS) (.pointer (some ⟨b9, 0, none⟩)) m9]⟩) (fun nf6 s => build_PackedL6 m9 packed3 nf6 s.1 s.2.1 s.2.2.1 = some r) fuel ([], packed3, (0 : Int), (.slice none 0 0), v29) h rfl rfl rfl rfl rfl (fun s h => by cases h) ?_
         rintro nf6 ⟨out3, l3, x6, v30, v31⟩ h
         replace h : build_PackedL6B m9 packed3 (build_PackedL6 m9 packed3 nf6) out3 l3 x6 = some r := h
         unfold build_PackedL6B at h
         refine Tk_seq (Tk_region (Tops_step rfl (OpT_bin rfl rfl rfl rfl rfl (bin_lss_i (a := x6) (b := len packed3))) ?_))
         refine Tops_nil (Tk_seq ?_)
         rcases Bool.eq_false_or_eq_true (decide (x6 < (len packed3))) with hg12 | hg12
         ·replace h := br_t hg12 h
          refine Tk_condT (congrArg (fun b => some (Value.bool b)) hg12) ?_
          refine Tk_skip (Tk_seq (Tk_block (Tk_seq (Tk_region (Tops_step rfl (OpT_move rfl rfl rfl rfl) ?_)))))
          obtain ⟨b10, hx19, h⟩ := ob_e h
          refine Tops_step rfl (OpT_idxO rfl rfl rfl rfl rfl slF84 (i := 1) rfl hx19) ?_
          refine Tops_step rfl (OpT_loadOA (S := build_packedS) (vs := [vU64 b10.Packed.Addr, vU32 b10.Packed.Len, vU16 b10.Packed.ID, vU16 b10.Packed.Flags, vI b10.id, vB b10.wrap]) rfl rfl rfl rfl rfl tyF87 (i := 1) rfl hx19 rfl) ?_
          refine Tops_ex rfl (OpT_alloc rfl rfl rfl tyZ87) fun b11 => ?_
          refine Tops_step rfl (OpT_assign rfl rfl rfl rfl) ?_
          refine Tops_step rfl (OpT_storeC (cs' := [vU64 b10.Packed.Addr, vU32 b10.Packed.Len, vU16 b10.Packed.ID, vU16 b10.Packed.Flags, vI b10.id, vB b10.wrap]) rfl rfl rfl rfl tyF87 (i := 2) rfl rfl rfl (one_of rfl) rfl) ?_
          refine Tops_nil (Tk_wkS (fr' := [(11, some (.pointer (some ⟨b9, 0, none⟩))), (12, some (v30)), (59, some (v31)), (60, some (vI (len packed3))), (61, some (vI x6)), (14, some (.pointer (some ⟨b11, 0, none⟩))), (13, some (vI x6))]) (own' := [some (rowS PutPackedS v30 out3), some (rowS build_packedS v31 l3), some (cellsR b11 87 [vU64 b10.Packed.Addr, vU32 b10.Packed.Len, vU16 b10.Packed.ID, vU16 b10.Packed.Flags, vI b10.id, vB b10.wrap])]) (shr' := [Fact.pt (Shape.slice PosS) (.pointer (some ⟨b9, 0, none⟩)) m9]) [11, 12, 59, 60, 61, 14, 13] [0, 1, 2] [0] rfl rfl rfl rfl ?_)
          refine Tk_drawT (by kernel_rfl) ?_
          refine TA_tb [0, 0, 0, 6, 14, 30, 0, 64, 254, 510, 1023, 2047] (by kernel_rfl) fun htb => ?_
          obtain ⟨p7, hx20, h⟩ := ob_e h
          refine TA_seg (lo := 0) (hi := 10) htb rfl rfl (by kernel_rfl) (fun c L a w => ∃ (v32 : Value), ∃ (p8 : Value), ∃ (p9 : Value), ∃ (v33 : Value), Sat c ⟨[(11, some (.pointer (some ⟨b9, 0, none⟩))), (12, some (v30)), (59, some (v31)), (60, some (vI (len packed3))), (61, some (vI x6)), (14, some (.pointer (some ⟨b11, 0, none⟩))), (13, some (vI x6)), (66, bif L 0 then some (v30) else none), (67, bif L 1 then some (v32) else none), (68, bif L 2 then some (vI x6) else none), (69, bif L 3 then some (p8) else none), (70, bif L 4 then some (p9) else none), (71, bif L 5 then some (vI p7.At) else none), (72, bif L 6 then some (.pointer (some ⟨b11, 0, none⟩)) else none), (73, bif L 7 then some (.agg #[vU64 b10.Packed.Addr, vU32 b10.Packed.Len, vU16 b10.Packed.ID, vU16 b10.Packed.Flags]) else none), (74, bif L 8 then some (.agg #[vI p7.At, vU64 b10.Packed.Addr, vU32 b10.Packed.Len, vU16 b10.Packed.ID, vU16 b10.Packed.Flags]) else none), (75, bif L 9 then some (v33) else none)], [(some (rowS PutPackedS v30 out3) : Option Res), (some (rowS build_packedS v31 l3) : Option Res), (some (cellsR b11 87 [vU64 b10.Packed.Addr, vU32 b10.Packed.Len, vU16 b10.Packed.ID, vU16 b10.Packed.Flags, vI b10.id, vB b10.wrap]) : Option Res), (bif L 9 then some (rowS PutPackedS v33 [(PutPacked.mk p7.At b10.Packed)]) else none : Option Res)], [Fact.pt (Shape.slice PosS) (.pointer (some ⟨b9, 0, none⟩)) m9, (bif L 1 then Fact.sl PosS v32 m9 else Fact.tt), (bif L 3 then Fact.pt PosS p8 p7 else Fact.tt), (bif L 4 then Fact.pt iS p9 p7.At else Fact.tt)]⟩ a w) [([], []), ([], [3, 4, 5, 8, 9]), ([], [3, 4, 5, 8, 9]), ([1, 2], [4, 5, 8, 9]), ([1, 2, 3], [5, 8, 9]), ([1, 2, 3, 4], [8, 9]), ([], [7, 8, 9]), ([6], [8, 9]), ([1, 2, 3, 4, 5, 6, 7], [9]), ([1, 2, 3, 4, 5, 6, 7, 8], [])] rfl (by kernel_rfl) ?_ (steps_cons ?_ (steps_cons ?_ (steps_cons ?_ (steps_cons ?_ (steps_cons ?_ (steps_cons ?_ (steps_cons ?_ (steps_cons ?_ (steps_cons ?_ (steps_cons ?_ (steps_nil))))))))))) ?_
          ·intro a w hs
           exact ⟨undef, undef, undef, undef, hs.startF [66, 67, 68, 69, 70, 71, 72, 73, 74, 75] [0, 1, 2, 3] [0, 1, 2, 3] rfl rfl rfl rfl⟩
          ·intro L a w hv K Q hK
           obtain ⟨v32, p8, p9, v33, hs⟩ := hv
           refine wpOp_go rfl rfl hs (OpT_move rfl rfl rfl rfl) ?_
           rintro _ rfl a' w' hs'
           exact hK a' w' ⟨v32, p8, p9, v33, hs'.putF (i := 7) rfl [0, 1, 2, 3] [0, 1, 2, 3] rfl rfl rfl rfl⟩
          ·intro L a w hv K Q hK
           obtain ⟨v32, p8, p9, v33, hs⟩ := hv
           refine wpOp_go rfl rfl hs (OpT_loadPS rfl rfl rfl rfl tyF81 (i := 0) rfl) ?_
           rintro _ ⟨v32', rfl⟩ a' w' hs'
           exact hK a' w' ⟨v32', p8, p9, v33, hs'.putF (i := 8) rfl [0, 1, 2, 3] [0, 4, 2, 3] rfl rfl rfl rfl⟩
          ·intro L a w hv K Q hK
           obtain ⟨v32, p8, p9, v33, hs⟩ := hv
           refine wpOp_go rfl rfl hs (OpT_move rfl rfl rfl rfl) ?_
           rintro _ rfl a' w' hs'
           exact hK a' w' ⟨v32, p8, p9, v33, hs'.putF (i := 9) rfl [0, 1, 2, 3] [0, 1, 2, 3] rfl rfl rfl rfl⟩
          ·intro L a w hv K Q hK
           obtain ⟨v32, p8, p9, v33, hs⟩ := hv
           refine wpOp_go rfl rfl hs (OpT_idxS rfl rfl rfl rfl rfl slF81 (i := 1) rfl hx20) ?_
           rintro _ ⟨p8', rfl⟩ a' w' hs'
           exact hK a' w' ⟨v32, p8', p9, v33, hs'.putF (i := 10) rfl [0, 1, 2, 3] [0, 1, 4, 3] rfl rfl rfl rfl⟩
          ·intro L a w hv K Q hK
           obtain ⟨v32, p8, p9, v33, hs⟩ := hv
           refine wpOp_go rfl rfl hs (OpT_fieldP (S' := iS) (y := p7.At) rfl rfl rfl rfl fldF33x0 (i := 2) rfl (by intro h cs hr; subst hr; rfl)) ?_
           rintro _ ⟨p9', rfl⟩ a' w' hs'
           exact hK a' w' ⟨v32, p8, p9', v33, hs'.putF (i := 11) rfl [0, 1, 2, 3] [0, 1, 2, 4] rfl rfl rfl rfl⟩
          ·intro L a w hv K Q hK
           obtain ⟨v32, p8, p9, v33, hs⟩ := hv
           refine wpOp_go rfl rfl hs (OpT_loadP rfl rfl rfl rfl tyF3 (i := 3) rfl rfl) ?_
           rintro _ rfl a' w' hs'
           exact hK a' w' ⟨v32, p8, p9, v33, hs'.putF (i := 12) rfl [0, 1, 2, 3] [0, 1, 2, 3] rfl rfl rfl rfl⟩
          ·intro L a w hv K Q hK
           obtain ⟨v32, p8, p9, v33, hs⟩ := hv
           refine wpOp_go rfl rfl hs (OpT_fieldC rfl rfl rfl rfl fldF87x0) ?_
           rintro _ rfl a' w' hs'
           exact hK a' w' ⟨v32, p8, p9, v33, hs'.putF (i := 13) rfl [0, 1, 2, 3] [0, 1, 2, 3] rfl rfl rfl rfl⟩
          ·intro L a w hv K Q hK
           obtain ⟨v32, p8, p9, v33, hs⟩ := hv
           refine wpOp_go rfl rfl hs (OpT_loadCA (vs := [vU64 b10.Packed.Addr, vU32 b10.Packed.Len, vU16 b10.Packed.ID, vU16 b10.Packed.Flags]) rfl rfl rfl rfl tyF44 (i := 2) rfl rfl rfl) ?_
           rintro _ rfl a' w' hs'
           exact hK a' w' ⟨v32, p8, p9, v33, hs'.putF (i := 14) rfl [0, 1, 2, 3] [0, 1, 2, 3] rfl rfl rfl rfl⟩
          ·intro L a w hv K Q hK
           obtain ⟨v32, p8, p9, v33, hs⟩ := hv
           refine wpOp_go rfl rfl hs (OpT_build (v := .agg #[vI p7.At, vU64 b10.Packed.Addr, vU32 b10.Packed.Len, vU16 b10.Packed.ID, vU16 b10.Packed.Flags]) rfl rfl rfl rfl (bldV (by kernel_rfl))) ?_
           rintro _ rfl a' w' hs'
           exact hK a' w' ⟨v32, p8, p9, v33, hs'.putF (i := 15) rfl [0, 1, 2, 3] [0, 1, 2, 3] rfl rfl rfl rfl⟩
          ·intro L a w hv K Q hK
           obtain ⟨v32, p8, p9, v33, hs⟩ := hv
           refine wpOp_go rfl rfl hs (OpT_buildSlice (S := PutPackedS) (xs := [(PutPacked.mk p7.At b10.Packed)]) (css := [[vI p7.At, vU64 b10.Packed.Addr, vU32 b10.Packed.Len, vU16 b10.Packed.ID, vU16 b10.Packed.Flags]]) (cs := [vI p7.At, vU64 b10.Packed.Addr, vU32 b10.Packed.Len, vU16 b10.Packed.ID, vU16 b10.Packed.Flags]) (e := 46) rfl rfl rfl rfl (bldF slF29 (by decide) (by kernel_rfl)) rfl rfl rfl rfl (rel_plainD (S := PutPackedS) (xs := [(PutPacked.mk p7.At b10.Packed)]) (css := [[vI p7.At, vU64 b10.Packed.Addr, vU32 b10.Packed.Len, vU16 b10.Packed.ID, vU16 b10.Packed.Flags]]) rfl rfl)) ?_
           rintro _ ⟨v33', rfl⟩ a' w' hs'
           exact hK a' w' ⟨v32, p8, p9, v33', hs'.putF (i := 16) rfl [0, 1, 2, 4] [0, 1, 2, 3] rfl rfl rfl rfl⟩
          ·intro L a w hL hv
           rw [allTrue hL] at hv
           obtain ⟨v32, p8, p9, v33, hs⟩ := hv
           refine (show TA _ _ _ 10 ⟨[(11, some (.pointer (some ⟨b9, 0, none⟩))), (59, some (v31)), (60, some (vI (len packed3))), (61, some (vI x6)), (66, some (v30)), (75, some (v33))], [some (rowS PutPackedS v30 out3), some (rowS build_packedS v31 l3), some (rowS PutPackedS v33 [(PutPacked.mk p7.At b10.Packed)])], [Fact.pt (Shape.slice PosS) (.pointer (some ⟨b9, 0, none⟩)) m9]⟩ from ?_) a w (hs.wkS [11, 59, 60, 61, 66, 75] [0, 1, 3] [0] rfl rfl rfl rfl)
           clear hs hL
           obtain ⟨hc6, h⟩ := chk_e h
           refine TA_ex htb (by kernel_rfl) rfl rfl (OpT_appendB (S := PutPackedS) rfl rfl rfl rfl rfl rfl slF29 (i := 0) (j := 2) rfl rfl hc6) fun v34 => ?_
           refine TA_step htb (by kernel_rfl) rfl rfl (OpT_assign rfl rfl rfl rfl) ?_
           refine TA_end rfl ?_
           refine Tk_wkS (fr' := [(11, some (.pointer (some ⟨b9, 0, none⟩))), (59, some (v31)), (60, some (vI (len packed3))), (61, some (vI x6)), (12, some (v34))]) (own' := [some (rowS PutPackedS v34 (out3 ++ [(PutPacked.mk p7.At b10.Packed)])), some (rowS build_packedS v31 l3)]) (shr' := [Fact.pt (Shape.slice PosS) (.pointer (some ⟨b9, 0, none⟩)) m9]) [11, 59, 60, 61, 12] [0, 1] [0] rfl rfl rfl rfl ?_
           refine Tk_blk (Tk_region (Tops_step rfl (OpT_bin rfl rfl rfl rfl rfl (bin_add_i (a := x6) (b := (1 : Int)))) ?_))
           refine Tops_step rfl (OpT_move rfl rfl rfl rfl) ?_
           refine Tops_nil (Tk_wkS (fr' := [(11, some (.pointer (some ⟨b9, 0, none⟩))), (59, some (v31)), (60, some (vI (len packed3))), (61, some (vI (wi (x6 + (1 : Int))))), (12, some (v34))]) (own' := [some (rowS PutPackedS v34 (out3 ++ [(PutPacked.mk p7.At b10.Packed)])), some (rowS build_packedS v31 l3)]) (shr' := [Fact.pt (Shape.slice PosS) (.pointer (some ⟨b9, 0, none⟩)) m9]) [11, 59, 60, 61, 12] [0, 1] [0] rfl rfl rfl rfl ?_)
           exact Tk_backS (out3 ++ [(PutPacked.mk p7.At b10.Packed)], l3, wi (x6 + (1 : Int)), v34, v31) h [11, 12, 59, 60, 61] [0, 1] [0] rfl rfl rfl rfl rfl
         ·replace h := br_f hg12 h
          refine Tk_condF (congrArg (fun b => some (Value.bool b)) hg12) ?_
          refine Tk_exit _ rfl ?_
          refine Tk_seq (Tk_region (Tops_step rfl (OpT_move rfl rfl rfl rfl) ?_))
          refine Tops_step rfl (OpT_assign rfl rfl rfl rfl) ?_
          refine Tops_step rfl (OpT_assign rfl rfl rfl rfl) ?_
          refine Tops_nil (Tk_wkS (fr' := [(8, some (v30)), (9, some (vI (0 : Int)))]) (own' := [some (rowS PutPackedS v30 out3)]) (shr' := []) [8, 9] [0] [] rfl rfl rfl rfl ?_)
          obtain rfl := Option.some.inj h
          exact Tk_retV rfl rfl (resA (vs := [v30, vI (0 : Int)]) rfl ⟨rfl, rfl, trivial⟩) [0] [] rfl rfl rfl ⟨v30, rfl, rfl, rfl⟩
     ·replace h := br_f hg9 h
      refine TA_seg (lo := 16) (hi := 19) htb rfl rfl (by kernel_rfl) (fun c L a w => Sat c ⟨[(1, some (vI size)), (3, some (vl1)), (4, some (.pointer (some ⟨b1, 0, none⟩))), (6, some (.pointer (some ⟨b2, 0, none⟩))), (16, some (v1)), (30, some (vB (decide (id ≥ size)))), (31, bif L 16 then some (vl1) else none), (32, bif L 17 then some (vI (len l)) else none), (33, bif L 18 then some (vI size) else none)], [(some (cellsR b1 33 [vI pp0.At, vB pp0.Wrap]) : Option Res), (some (cellsR b2 3 [vI id]) : Option Res)], [Fact.sl SegS vl1 l, Fact.fn Try.prog av0 vI v1 (fun _ => buffer1)]⟩ a w) [([], [17]), ([16], []), ([], [])] rfl (by kernel_rfl) ?_ (steps_cons ?_ (steps_cons ?_ (steps_cons ?_ (steps_nil)))) ?_
      ·intro a w hs
       exact hs.startF [31, 32, 33] [0, 1] [0, 1] rfl rfl rfl rfl
      ·intro L a w hv K Q hK
       have hs := hv
       refine wpOp_yes rfl rfl rfl hs (congrArg (fun b => some (Value.bool b)) hg9) (OpT_move rfl rfl rfl rfl) ?_
       rintro _ rfl a' w' hs'
       exact hK a' w' (hs'.putF (i := 6) rfl [0, 1] [0, 1] rfl rfl rfl rfl)
      ·intro L a w hv K Q hK
       have hs := hv
       refine wpOp_yes rfl rfl rfl hs (congrArg (fun b => some (Value.bool b)) hg9) (OpT_lenS rfl rfl rfl rfl Try.underlying27 (i := 0) rfl) ?_
       rintro _ rfl a' w' hs'
       exact hK a' w' (hs'.putF (i := 7) rfl [0, 1] [0, 1] rfl rfl rfl rfl)
      ·intro L a w hv K Q hK
       have hs := hv
       refine wpOp_yes rfl rfl rfl hs (congrArg (fun b => some (Value.bool b)) hg9) (OpT_move rfl rfl rfl rfl) ?_
       rintro _ rfl a' w' hs'
       exact hK a' w' (hs'.putF (i := 8) rfl [0, 1] [0, 1] rfl rfl rfl rfl)
      ·intro L a w hL hv
       rw [allTrue hL] at hv
       have hs := hv
       refine (show TA _ _ _ 19 ⟨[(1, some (vI size)), (3, some (vl1)), (4, some (.pointer (some ⟨b1, 0, none⟩))), (6, some (.pointer (some ⟨b2, 0, none⟩))), (16, some (v1)), (30, some (vB (decide (id ≥ size)))), (32, some (vI (len l))), (33, some (vI size))], [some (cellsR b1 33 [vI pp0.At, vB pp0.Wrap]), some (cellsR b2 3 [vI id])], [Fact.sl SegS vl1 l, Fact.fn Try.prog av0 vI v1 (fun _ => buffer1)]⟩ from ?_) a w (hs.wkS [1, 3, 4, 6, 16, 30, 32, 33] [0, 1] [0, 1] rfl rfl rfl rfl)
       clear hs hL
       refine TA_yes htb (by kernel_rfl) rfl rfl rfl (congrArg (fun b => some (Value.bool b)) hg9) (OpT_bin rfl rfl rfl rfl rfl (bin_gtr_i (a := len l) (b := size))) ?_
       rintro _ rfl
       refine TA_step htb (by kernel_rfl) rfl rfl (OpT_pickF rfl rfl rfl (congrArg (fun b => some (Value.bool b)) hg9) rfl) ?_
       obtain ⟨wrong4, hx21, h⟩ := ob_e h
       refine TA_exP htb (by kernel_rfl) rfl rfl (OpT_call (w_build_wrong hx21) [] [] rfl rfl rfl rfl rfl callee33 rfl rfl rfl rfl) ?_
       rintro _ ⟨v35, _, _, ⟨_, rfl, rfl, rfl⟩, rfl⟩
       refine TA_ex htb (by kernel_rfl) rfl rfl (OpT_buildOne fnS71 (vs := [v1, v35]) (xs := [buffer1, wrong4]) rfl rfl rfl rfl rfl slF98 rfl rfl rfl (rel_cons (rel_fn (i := 1) rfl) (rel_cons (rel_fn (i := 2) rfl) (rel_nil rfl)))) fun v36 => ?_
       obtain ⟨first4, hx22, h⟩ := ob_e h
       refine TA_exP htb (by kernel_rfl) rfl rfl (OpT_callB [2] [0, 1, 2] (w_build_first hx22) [] rfl rfl rfl rfl rfl callee31 rfl rfl rfl rfl rfl rfl (bor_cons (bor_row 2 rfl rfl) bor_nil) (by rintro _ _ _ ⟨rfl, rfl, rfl⟩; exact ⟨rfl, ri_nil⟩)) ?_
       rintro _ ⟨_, _, _, ⟨rfl, rfl, rfl⟩, rfl⟩
       refine TA_wkS (fr' := [(1, some (vI size)), (3, some (vl1)), (4, some (.pointer (some ⟨b1, 0, none⟩))), (6, some (.pointer (some ⟨b2, 0, none⟩))), (38, some (vI first4))]) (own' := [some (cellsR b1 33 [vI pp0.At, vB pp0.Wrap]), some (cellsR b2 3 [vI id])]) (shr' := [Fact.sl SegS vl1 l]) [1, 3, 4, 6, 38] [0, 1] [0] rfl rfl rfl rfl ?_
       refine TA_step htb (by kernel_rfl) rfl rfl (OpT_assign rfl rfl rfl rfl) ?_
       refine TA_end rfl ?_
       refine Tk_wkS (fr' := [(1, some (vI size)), (3, some (vl1)), (4, some (.pointer (some ⟨b1, 0, none⟩))), (6, some (.pointer (some ⟨b2, 0, none⟩))), (10, some (vI first4))]) (own' := [some (cellsR b1 33 [vI pp0.At, vB pp0.Wrap]), some (cellsR b2 3 [vI id])]) (shr' := [Fact.sl SegS vl1 l]) [1, 3, 4, 6, 10] [0, 1] [0] rfl rfl rfl rfl ?_
       refine Tk_seq (Tk_region (Tops_step rfl (OpT_move rfl rfl rfl rfl) ?_))
       refine Tops_step rfl (OpT_bin rfl rfl rfl rfl rfl (bin_neq_i (a := first4) (b := (0 : Int)))) ?_
       refine Tops_nil (Tk_wkS (fr' := [(1, some (vI size)), (3, some (vl1)), (4, some (.pointer (some ⟨b1, 0, none⟩))), (6, some (.pointer (some ⟨b2, 0, none⟩))), (10, some (vI first4)), (40, some (vB (first4 != (0 : Int))))]) (own' := [some (cellsR b1 33 [vI pp0.At, vB pp0.Wrap]), some (cellsR b2 3 [vI id])]) (shr' := [Fact.sl SegS vl1 l]) [1, 3, 4, 6, 10, 40] [0, 1] [0] rfl rfl rfl rfl ?_)
       rcases Bool.eq_false_or_eq_true (first4 != (0 : Int)) with hg13 | hg13
       ·replace h := br_t hg13 h
        refine Tk_condT (congrArg (fun b => some (Value.bool b)) hg13) ?_
        refine Tk_seq (Tk_region (Tops_step rfl (OpT_move rfl rfl rfl rfl) ?_))
        refine Tops_step rfl (OpT_assign rfl rfl rfl rfl) ?_
        refine Tops_step rfl (OpT_assign rfl rfl rfl rfl) ?_
        refine Tops_nil (Tk_wkS (fr' := [(8, some (.slice none 0 0)), (9, some (vI first4))]) (own' := []) (shr' := []) [8, 9] [] [] rfl rfl rfl rfl ?_)
        refine Tk_nilrow PutPackedS ?_
        obtain rfl := Option.some.inj h
        exact Tk_retV rfl rfl (resA (vs := [.slice none 0 0, vI first4]) rfl ⟨rfl, rfl, trivial⟩) [0] [] rfl rfl rfl ⟨(.slice none 0 0), rfl, rfl, rfl⟩
       ·replace h := br_f hg13 h
        refine Tk_condF (congrArg (fun b => some (Value.bool b)) hg13) ?_
        refine Tk_skip (Tk_seq (Tk_region (Tops_ex rfl (OpT_alloc rfl rfl rfl tyZ81) fun b12 => ?_)))
        refine Tops_nil (Tk_wkS (fr' := [(1, some (vI size)), (3, some (vl1)), (4, some (.pointer (some ⟨b1, 0, none⟩))), (6, some (.pointer (some ⟨b2, 0, none⟩))), (11, some (.pointer (some ⟨b12, 0, none⟩)))]) (own' := [some (cellsR b1 33 [vI pp0.At, vB pp0.Wrap]), some (cellsR b2 3 [vI id]), some (cellsR b12 81 [.slice none 0 0])]) (shr' := [Fact.sl SegS vl1 l]) [1, 3, 4, 6, 11] [0, 1, 2] [0] rfl rfl rfl rfl ?_)
        refine Tk_seq (Tk_seq (Tk_region (Tops_step rfl (OpT_move rfl rfl rfl rfl) ?_)))
        refine Tops_step rfl (OpT_lenS rfl rfl rfl rfl Try.underlying27 (i := 0) rfl) ?_
        refine Tops_step rfl (OpT_move rfl rfl rfl rfl) ?_
        refine Tops_nil (Tk_wkS (fr' := [(1, some (vI size)), (3, some (vl1)), (4, some (.pointer (some ⟨b1, 0, none⟩))), (6, some (.pointer (some ⟨b2, 0, none⟩))), (11, some (.pointer (some ⟨b12, 0, none⟩))), (43, some (vI (len l))), (44, some (vI (0 : Int)))]) (own' := [some (cellsR b1 33 [vI pp0.At, vB pp0.Wrap]), some (cellsR b2 3 [vI id]), some (cellsR b12 81 [.slice none 0 0])]) (shr' := [Fact.sl SegS vl1 l]) [1, 3, 4, 6, 11, 43, 44] [0, 1, 2] [0] rfl rfl rfl rfl ?_)
        refine Tk_block (Tk_nilrow PosS ?_)
        refine Tk_loopS (σ := Pos × Int × (List Pos) × Int × Value) [1, 3, 4, 6, 11, 43, 44] [0, 1, 2, 3] [0] (fun s => ⟨[(1, some (vI size)), (3, some (vl1)), (4, some (.pointer (some ⟨b1, 0, none⟩))), (6, some (.pointer (some ⟨b2, 0, none⟩))), (11, some (.pointer (some ⟨b12, 0, none⟩))), (43, some (vI (len l))), (44, some (vI s.2.2.2.1))], [some (cellsR b1 33 [vI s.1.At, vB s.1.Wrap]), some (cellsR b2 3 [vI s.2.1]), some (cellsR b12 81 [s.2.2.2.2]), some (rowS PosS s.2.2.2.2 s.2.2.1)], [Fact.sl SegS vl1 l]⟩) (fun nf7 s => build_PackedL7 size l nf7 s.1 s.2.1 s.2.2.1 s.2.2.2.1 = some r) fuel (pp0, id, ([] : List Pos), (0 : Int), .slice none 0 0) h rfl rfl rfl rfl rfl (fun s h => by cases h) ?_
        rintro nf7 ⟨m10, m11, m12, x7, v37⟩ h
        replace h : build_PackedL7B size l (build_PackedL7 size l nf7) m10 m11 m12 x7 = some r := h
        unfold build_PackedL7B at h
        refine Tk_seq (Tk_region (Tops_step rfl (OpT_bin rfl rfl rfl rfl rfl (bin_lss_i (a := x7) (b := len l))) ?_))
        refine Tops_nil (Tk_seq ?_)
        rcases Bool.eq_false_or_eq_true (decide (x7 < (len l))) with hg14 | hg14
        ·replace h := br_t hg14 h
         refine Tk_condT (congrArg (fun b => some (Value.bool b)) hg14) ?_
         refine Tk_skip (Tk_seq (Tk_block (Tk_seq (Tk_region (Tops_step rfl (OpT_loadC rfl rfl rfl rfl tyF81 (i := 2) rfl rfl) ?_)))))
         refine Tops_step rfl (OpT_loadCA (vs := [vI m10.At, vB m10.Wrap]) rfl rfl rfl rfl tyF33 (i := 0) rfl rfl rfl) ?_
         refine Tops_ex rfl (OpT_buildSlice (S := PosS) (xs := [m10]) (css := [[vI m10.At, vB m10.Wrap]]) (cs := [vI m10.At, vB m10.Wrap]) (e := 33) rfl rfl rfl rfl (bldF slF81 (by decide) (by kernel_rfl)) rfl rfl rfl rfl (rel_plainD (S := PosS) (xs := [m10]) (css := [[vI m10.At, vB m10.Wrap]]) rfl rfl)) fun v38 => ?_
         obtain ⟨hc7, h⟩ := chk_e h
         refine Tops_ex rfl (OpT_appendB (S := PosS) rfl rfl rfl rfl rfl rfl slF81 (i := 3) (j := 4) rfl rfl hc7) fun v39 => ?_
         refine Tops_step rfl (OpT_storeV (cs' := [v39]) rfl rfl rfl rfl tyF81 (i := 2) rfl (is_row (i := 3) rfl) rfl rfl) ?_
         refine Tops_nil (Tk_wkS (fr' := [(1, some (vI size)), (3, some (vl1)), (4, some (.pointer (some ⟨b1, 0, none⟩))), (6, some (.pointer (some ⟨b2, 0, none⟩))), (11, some (.pointer (some ⟨b12, 0, none⟩))), (43, some (vI (len l))), (44, some (vI x7))]) (own' := [some (cellsR b1 33 [vI m10.At, vB m10.Wrap]), some (cellsR b2 3 [vI m11]), some (cellsR b12 81 [v39]), some (rowS PosS v39 (m12 ++ [m10]))]) (shr' := [Fact.sl SegS vl1 l]) [1, 3, 4, 6, 11, 43, 44] [0, 1, 2, 3] [0] rfl rfl rfl rfl ?_)
         refine Tk_region (Tops_step rfl (OpT_loadCA (vs := [vI m10.At, vB m10.Wrap]) rfl rfl rfl rfl tyF33 (i := 0) rfl rfl rfl) ?_)
         refine Tops_step rfl (OpT_move rfl rfl rfl rfl) ?_
         obtain ⟨go4, hx23, h⟩ := ob_e h
         refine Tops_exP rfl (OpT_call (w_serial_Go hx23) [] [] rfl rfl rfl rfl rfl callee38 rfl rfl rfl rfl) ?_
         rintro _ ⟨_, _, _, ⟨rfl, rfl, rfl⟩, rfl⟩
         refine Tops_step rfl (OpT_move rfl rfl rfl rfl) ?_
         refine Tops_step rfl (OpT_extract rfl rfl rfl rfl rfl) ?_
         refine Tops_step rfl (OpT_extract rfl rfl rfl rfl rfl) ?_
         refine Tops_step rfl (OpT_storeC (cs' := [vI go4.1.At, vB go4.1.Wrap]) rfl rfl rfl rfl tyF33 (i := 0) rfl rfl rfl (one_of rfl) rfl) ?_
         refine Tops_nil (Tk_wkS (fr' := [(1, some (vI size)), (3, some (vl1)), (4, some (.pointer (some ⟨b1, 0, none⟩))), (6, some (.pointer (some ⟨b2, 0, none⟩))), (11, some (.pointer (some ⟨b12, 0, none⟩))), (43, some (vI (len l))), (44, some (vI x7))]) (own' := [some (cellsR b1 33 [vI go4.1.At, vB go4.1.Wrap]), some (cellsR b2 3 [vI m11]), some (cellsR b12 81 [v39]), some (rowS PosS v39 (m12 ++ [m10]))]) (shr' := [Fact.sl SegS vl1 l]) [1, 3, 4, 6, 11, 43, 44] [0, 1, 2, 3] [0] rfl rfl rfl rfl ?_)
         refine Tk_blk (Tk_region (Tops_step rfl (OpT_bin rfl rfl rfl rfl rfl (bin_add_i (a := x7) (b := (1 : Int)))) ?_))
         refine Tops_step rfl (OpT_move rfl rfl rfl rfl) ?_
         refine Tops_nil (Tk_wkS (fr' := [(1, some (vI size)), (3, some (vl1)), (4, some (.pointer (some ⟨b1, 0, none⟩))), (6, some (.pointer (some ⟨b2, 0, none⟩))), (11, some (.pointer (some ⟨b12, 0, none⟩))), (43, some (vI (len l))), (44, some (vI (wi (x7 + (1 : Int)))))]) (own' := [some (cellsR b1 33 [vI go4.1.At, vB go4.1.Wrap]), some (cellsR b2 3 [vI m11]), some (cellsR b12 81 [v39]), some (rowS PosS v39 (m12 ++ [m10]))]) (shr' := [Fact.sl SegS vl1 l]) [1, 3, 4, 6, 11, 43, 44] [0, 1, 2, 3] [0] rfl rfl rfl rfl ?_)
         exact Tk_backS (go4.1, m11, m12 ++ [m10], wi (x7 + (1 : Int)), v39) h [1, 3, 4, 6, 11, 43, 44] [0, 1, 2, 3] [0] rfl rfl rfl rfl rfl
        ·replace h := br_f hg14 h
         refine Tk_condF (congrArg (fun b => some (Value.bool b)) hg14) ?_
         refine Tk_exit _ rfl ?_
         refine Tk_seq (Tk_region (Tops_step rfl (OpT_assign rfl rfl rfl rfl) ?_))
         refine Tops_nil (Tk_wkS (fr' := [(3, some (vl1)), (6, some (.pointer (some ⟨b2, 0, none⟩))), (11, some (.pointer (some ⟨b12, 0, none⟩))), (12, some (.slice none 0 0))]) (own' := [some (cellsR b2 3 [vI m11]), some (cellsR b12 81 [v37]), some (rowS PosS v37 m12)]) (shr' := [Fact.sl SegS vl1 l]) [3, 6, 11, 12] [1, 2, 3] [0] rfl rfl rfl rfl ?_)
         refine Tk_seq (Tk_seq (Tk_region (Tops_step rfl (OpT_move rfl rfl rfl rfl) ?_)))
         refine Tops_step rfl (OpT_makeFunc (vs := [.pointer (some ⟨b2, 0, none⟩), .pointer (some ⟨b12, 0, none⟩)]) rfl rfl rfl rfl) ?_
         refine Tops_vs (vs_retireP iS (x := m11) (i := 0) rfl (fun _ _ => rfl)) ?_
         refine Tops_retire (i := 2) rfl ?_
         refine Tops_vs (vs_retireP (Shape.slice PosS) (x := m12) (i := 1) rfl (rel_sl (i := 2) rfl)) ?_
         refine Tops_vs (vs_add (Fact.fn Try.prog (fun (x : Int) => [vI x]) (fun (x : build_packed) => .agg #[vU64 x.Packed.Addr, vU32 x.Packed.Len, vU16 x.Packed.ID, vU16 x.Packed.Flags, vI x.id, vB x.wrap]) (.func (.func 40) #[] #[(.pointer (some ⟨b2, 0, none⟩)), (.pointer (some ⟨b12, 0, none⟩))]) (fun x => build_Packed_1 x m11 m12)) (fun R hF => ⟨rfl, fun x r hx => ⟨40, [(.pointer (some ⟨b2, 0, none⟩)), (.pointer (some ⟨b12, 0, none⟩))], [Fact.pt iS (.pointer (some ⟨b2, 0, none⟩)) m11, Fact.pt (Shape.slice PosS) (.pointer (some ⟨b12, 0, none⟩)) m12], rfl, callee40, (fal_cons (mem_at (i := 1) rfl hF) (fal_cons (mem_at (i := 3) rfl hF) fal_nil)), w_build_Packed_1 hx⟩⟩)) ?_
         obtain ⟨packed4, hx24, h⟩ := ob_e h
         refine Tops_exP rfl (OpT_call (w_build_chain_buildpacked hx24) [] [0, 4] rfl rfl rfl rfl rfl callee39 rfl rfl rfl rfl) ?_
         rintro _ ⟨v40, _, _, ⟨_, rfl, rfl, rfl⟩, rfl⟩
         refine Tops_step rfl (OpT_lenO rfl rfl rfl rfl Try.underlying84 (i := 3) rfl) ?_
         refine Tops_step rfl (OpT_move rfl rfl rfl rfl) ?_
         refine Tops_nil (Tk_wkS (fr' := [(11, some (.pointer (some ⟨b12, 0, none⟩))), (12, some (.slice none 0 0)), (59, some (v40)), (60, some (vI (len packed4))), (61, some (vI (0 : Int)))]) (own' := [some (rowS build_packedS v40 packed4)]) (shr' := [Fact.pt (Shape.slice PosS) (.pointer (some ⟨b12, 0, none⟩)) m12]) [11, 12, 59, 60, 61] [3] [3] rfl rfl rfl rfl ?_)
         refine Tk_block (Tk_nilrow PutPackedS ?_)
         refine Tk_loopS (σ := (List PutPacked) × (List build_packed) × Int × Value × Value) [11, 12, 59, 60, 61] [1, 0] [0] (fun s => ⟨[(11, some (.pointer (some ⟨b12, 0, none⟩))), (12, some (s.2.2.2.1)), (59, some (s.2.2.2.2)), (60, some (vI (len packed4))), (61, some (vI s.2.2.1))], [some (rowS PutPackedS s.2.2.2.1 s.1), some (rowS build_packedS s.2.2.2.2 s.2.1)], [Fact.pt (Shape.slice PosS) (.pointer (some ⟨b12, 0, none⟩)) m12]⟩) (fun nf8 s => build_PackedL8 m12 packed4 nf8 s.1 s.2.1 s.2.2.1 = some r) fuel ([], packed4, (0 : Int), (.slice none 0 0), v40) h rfl rfl rfl rfl rfl (fun s h => by cases h) ?_
         rintro nf8 ⟨out4, l4, x8, v41, v42⟩ h
         replace h : build_PackedL8B m12 packed4 (build_PackedL8 m12 packed4 nf8) out4 l4 x8 = some r := h
         unfold build_PackedL8B at h
         refine Tk_seq (Tk_region (Tops_step rfl (OpT_bin rfl rfl rfl rfl rfl (bin_lss_i (a := x8) (b := len packed4))) ?_))
         refine Tops_nil (Tk_seq ?_)
         rcases Bool.eq_false_or_eq_true (decide (x8 < (len packed4))) with hg15 | hg15
         ·replace h := br_t hg15 h
          refine Tk_condT (congrArg (fun b => some (Value.bool b)) hg15) ?_
          refine Tk_skip (Tk_seq (Tk_block (Tk_seq (Tk_region (Tops_step rfl (OpT_move rfl rfl rfl rfl) ?_)))))
          obtain ⟨b13, hx25, h⟩ := ob_e h
          refine Tops_step rfl (OpT_idxO rfl rfl rfl rfl rfl slF84 (i := 1) rfl hx25) ?_
          refine Tops_step rfl (OpT_loadOA (S := build_packedS) (vs := [vU64 b13.Packed.Addr, vU32 b13.Packed.Len, vU16 b13.Packed.ID, vU16 b13.Packed.Flags, vI b13.id, vB b13.wrap]) rfl rfl rfl rfl rfl tyF87 (i := 1) rfl hx25 rfl) ?_
          refine Tops_ex rfl (OpT_alloc rfl rfl rfl tyZ87) fun b14 => ?_
          refine Tops_step rfl (OpT_assign rfl rfl rfl rfl) ?_
          refine Tops_step rfl (OpT_storeC (cs' := [vU64 b13.Packed.Addr, vU32 b13.Packed.Len, vU16 b13.Packed.ID, vU16 b13.Packed.Flags, vI b13.id, vB b13.wrap]) rfl rfl rfl rfl tyF87 (i := 2) rfl rfl rfl (one_of rfl) rfl) ?_
          refine Tops_nil (Tk_wkS (fr' := [(11, some (.pointer (some ⟨b12, 0, none⟩))), (12, some (v41)), (59, some (v42)), (60, some (vI (len packed4))), (61, some (vI x8)), (14, some (.pointer (some ⟨b14, 0, none⟩))), (13, some (vI x8))]) (own' := [some (rowS PutPackedS v41 out4), some (rowS build_packedS v42 l4), some (cellsR b14 87 [vU64 b13.Packed.Addr, vU32 b13.Packed.Len, vU16 b13.Packed.ID, vU16 b13.Packed.Flags, vI b13.id, vB b13.wrap])]) (shr' := [Fact.pt (Shape.slice PosS) (.pointer (some ⟨b12, 0, none⟩)) m12]) [11, 12, 59, 60, 61, 14, 13] [0, 1, 2] [0] rfl rfl rfl rfl ?_)
          refine Tk_drawT (by kernel_rfl) ?_
          refine TA_tb [0, 0, 0, 6, 14, 30, 0, 64, 254, 510, 1023, 2047] (by kernel_rfl) fun htb => ?_
          obtain ⟨p10, hx26, h⟩ := ob_e h
          refine TA_seg (lo := 0) (hi := 10) htb rfl rfl (by kernel_rfl) (fun c L a w => ∃ (v43 : Value), ∃ (p11 : Value), ∃ (p12 : Value), ∃ (v44 : Value), Sat c ⟨[(11, some (.pointer (some ⟨b12, 0, none⟩))), (12, some (v41)), (59, some (v42)), (60, some (vI (len packed4))), (61, some (vI x8)), (14, some (.pointer (some ⟨b14, 0, none⟩))), (13, some (vI x8)), (66, bif L 0 then some (v41) else none), (67, bif L 1 then some (v43) else none), (68, bif L 2 then some (vI x8) else none), (69, bif L 3 then some (p11) else none), (70, bif L 4 then some (p12) else none), (71, bif L 5 then some (vI p10.At) else none), (72, bif L 6 then some (.pointer (some ⟨b14, 0, none⟩)) else none), (73, bif L 7 then some (.agg #[vU64 b13.Packed.Addr, vU32 b13.Packed.Len, vU16 b13.Packed.ID, vU16 b13.Packed.Flags]) else none), (74, bif L 8 then some (.agg #[vI p10.At, vU64 b13.Packed.Addr, vU32 b13.Packed.Len, vU16 b13.Packed.ID, vU16 b13.Packed.Flags]) else none), (75, bif L 9 then some (v44) else none)], [(some (rowS PutPackedS v41 out4) : Option Res), (some (rowS build_packedS v42 l4) : Option Res), (some (cellsR b14 87 [vU64 b13.Packed.Addr, vU32 b13.Packed.Len, vU16 b13.Packed.ID, vU16 b13.Packed.Flags, vI b13.id, vB b13.wrap]) : Option Res), (bif L 9 then some (rowS PutPackedS v44 [(PutPacked.mk p10.At b13.Packed)]) else none : Option Res)], [Fact.pt (Shape.slice PosS) (.pointer (some ⟨b12, 0, none⟩)) m12, (bif L 1 then Fact.sl PosS v43 m12 else Fact.tt), (bif L 3 then Fact.pt PosS p11 p10 else Fact.tt), (bif L 4 then Fact.pt iS p12 p10.At else Fact.tt)]⟩ a w) [([], []), ([], [3, 4, 5, 8, 9]), ([], [3, 4, 5, 8, 9]), ([1, 2], [4, 5, 8, 9]), ([1, 2, 3], [5, 8, 9]), ([1, 2, 3, 4], [8, 9]), ([], [7, 8, 9]), ([6], [8, 9]), ([1, 2, 3, 4, 5, 6, 7], [9]), ([1, 2, 3, 4, 5, 6, 7, 8], [])] rfl (by kernel_rfl) ?_ (steps_cons ?_ (steps_cons ?_ (steps_cons ?_ (steps_cons ?_ (steps_cons ?_ (steps_cons ?_ (steps_cons ?_ (steps_cons ?_ (steps_cons ?_ (steps_cons ?_ (steps_nil))))))))))) ?_
          ·intro a w hs
           exact ⟨undef, undef, undef, undef, hs.startF [66, 67, 68, 69, 70, 71, 72, 73, 74, 75] [0, 1, 2, 3] [0, 1, 2, 3] rfl rfl rfl rfl⟩
          ·intro L a w hv K Q hK
           obtain ⟨v43, p11, p12, v44, hs⟩ := hv
           refine wpOp_go rfl rfl hs (OpT_move rfl rfl rfl rfl) ?_
           rintro _ rfl a' w' hs'
           exact hK a' w' ⟨v43, p11, p12, v44, hs'.putF (i := 7) rfl [0, 1, 2, 3] [0, 1, 2, 3] rfl rfl rfl rfl⟩
          ·intro L a w hv K Q hK
           obtain ⟨v43, p11, p12, v44, hs⟩ := hv
           refine wpOp_go rfl rfl hs (OpT_loadPS rfl rfl rfl rfl tyF81 (i := 0) rfl) ?_
           rintro _ ⟨v43', rfl⟩ a' w' hs'
           exact hK a' w' ⟨v43', p11, p12, v44, hs'.putF (i := 8) rfl [0, 1, 2, 3] [0, 4, 2, 3] rfl rfl rfl rfl⟩
          ·intro L a w hv K Q hK
           obtain ⟨v43, p11, p12, v44, hs⟩ := hv
           refine wpOp_go rfl rfl hs (OpT_move rfl rfl rfl rfl) ?_
           rintro _ rfl a' w' hs'
           exact hK a' w' ⟨v43, p11, p12, v44, hs'.putF (i := 9) rfl [0, 1, 2, 3] [0, 1, 2, 3] rfl rfl rfl rfl⟩
          ·intro L a w hv K Q hK
           obtain ⟨v43, p11, p12, v44, hs⟩ := hv
           refine wpOp_go rfl rfl hs (OpT_idxS rfl rfl rfl rfl rfl slF81 (i := 1) rfl hx26) ?_
           rintro _ ⟨p11', rfl⟩ a' w' hs'
           exact hK a' w' ⟨v43, p11', p12, v44, hs'.putF (i := 10) rfl [0, 1, 2, 3] [0, 1, 4, 3] rfl rfl rfl rfl⟩
          ·intro L a w hv K Q hK
           obtain ⟨v43, p11, p12, v44, hs⟩ := hv
           refine wpOp_go rfl rfl hs (OpT_fieldP (S' := iS) (y := p10.At) rfl rfl rfl rfl fldF33x0 (i := 2) rfl (by intro h cs hr; subst hr; rfl)) ?_
           rintro _ ⟨p12', rfl⟩ a' w' hs'
           exact hK a' w' ⟨v43, p11, p12', v44, hs'.putF (i := 11) rfl [0, 1, 2, 3] [0, 1, 2, 4] rfl rfl rfl rfl⟩
          ·intro L a w hv K Q hK
           obtain ⟨v43, p11, p12, v44, hs⟩ := hv
           refine wpOp_go rfl rfl hs (OpT_loadP rfl rfl rfl rfl tyF3 (i := 3) rfl rfl) ?_
           rintro _ rfl a' w' hs'
           exact hK a' w' ⟨v43, p11, p12, v44, hs'.putF (i := 12) rfl [0, 1, 2, 3] [0, 1, 2, 3] rfl rfl rfl rfl⟩
          ·intro L a w hv K Q hK
           obtain ⟨v43, p11, p12, v44, hs⟩ := hv
           refine wpOp_go rfl rfl hs (OpT_fieldC rfl rfl rfl rfl fldF87x0) ?_
           rintro _ rfl a' w' hs'
           exact hK a' w' ⟨v43, p11, p12, v44, hs'.putF (i := 13) rfl [0, 1, 2, 3] [0, 1, 2, 3] rfl rfl rfl rfl⟩
          ·intro L a w hv K Q hK
           obtain ⟨v43, p11, p12, v44, hs⟩ := hv
           refine wpOp_go rfl rfl hs (OpT_loadCA (vs := [vU64 b13.Packed.Addr, vU32 b13.Packed.Len, vU16 b13.Packed.ID, vU16 b13.Packed.Flags]) rfl rfl rfl rfl tyF44 (i := 2) rfl rfl rfl) ?_
           rintro _ rfl a' w' hs'
           exact hK a' w' ⟨v43, p11, p12, v44, hs'.putF (i := 14) rfl [0, 1, 2, 3] [0, 1, 2, 3] rfl rfl rfl rfl⟩
          ·intro L a w hv K Q hK
           obtain ⟨v43, p11, p12, v44, hs⟩ := hv
           refine wpOp_go rfl rfl hs (OpT_build (v := .agg #[vI p10.At, vU64 b13.Packed.Addr, vU32 b13.Packed.Len, vU16 b13.Packed.ID, vU16 b13.Packed.Flags]) rfl rfl rfl rfl (bldV (by kernel_rfl))) ?_
           rintro _ rfl a' w' hs'
           exact hK a' w' ⟨v43, p11, p12, v44, hs'.putF (i := 15) rfl [0, 1, 2, 3] [0, 1, 2, 3] rfl rfl rfl rfl⟩
          ·intro L a w hv K Q hK
           obtain ⟨v43, p11, p12, v44, hs⟩ := hv
           refine wpOp_go rfl rfl hs (OpT_buildSlice (S := PutPackedS) (xs := [(PutPacked.mk p10.At b13.Packed)]) (css := [[vI p10.At, vU64 b13.Packed.Addr, vU32 b13.Packed.Len, vU16 b13.Packed.ID, vU16 b13.Packed.Flags]]) (cs := [vI p10.At, vU64 b13.Packed.Addr, vU32 b13.Packed.Len, vU16 b13.Packed.ID, vU16 b13.Packed.Flags]) (e := 46) rfl rfl rfl rfl (bldF slF29 (by decide) (by kernel_rfl)) rfl rfl rfl rfl (rel_plainD (S := PutPackedS) (xs := [(PutPacked.mk p10.At b13.Packed)]) (css := [[vI p10.At, vU64 b13.Packed.Addr, vU32 b13.Packed.Len, vU16 b13.Packed.ID, vU16 b13.Packed.Flags]]) rfl rfl)) ?_
           rintro _ ⟨v44', rfl⟩ a' w' hs'
           exact hK a' w' ⟨v43, p11, p12, v44', hs'.putF (i := 16) rfl [0, 1, 2, 4] [0, 1, 2, 3] rfl rfl rfl rfl⟩
          ·intro L a w hL hv
           rw [allTrue hL] at hv
           obtain ⟨v43, p11, p12, v44, hs⟩ := hv
           refine (show TA _ _ _ 10 ⟨[(11, some (.pointer (some ⟨b12, 0, none⟩))), (59, some (v42)), (60, some (vI (len packed4))), (61, some (vI x8)), (66, some (v41)), (75, some (v44))], [some (rowS PutPackedS v41 out4), some (rowS build_packedS v42 l4), some (rowS PutPackedS v44 [(PutPacked.mk p10.At b13.Packed)])], [Fact.pt (Shape.slice PosS) (.pointer (some ⟨b12, 0, none⟩)) m12]⟩ from ?_) a w (hs.wkS [11, 59, 60, 61, 66, 75] [0, 1, 3] [0] rfl rfl rfl rfl)
           clear hs hL
           obtain ⟨hc8, h⟩ := chk_e h
           refine TA_ex htb (by kernel_rfl) rfl rfl (OpT_appendB (S := PutPackedS) rfl rfl rfl rfl rfl rfl slF29 (i := 0) (j := 2) rfl rfl hc8) fun v45 => ?_
           refine TA_step htb (by kernel_rfl) rfl rfl (OpT_assign rfl rfl rfl rfl) ?_
           refine TA_end rfl ?_
           refine Tk_wkS (fr' := [(11, some (.pointer (some ⟨b12, 0, none⟩))), (59, some (v42)), (60, some (vI (len packed4))), (61, some (vI x8)), (12, some (v45))]) (own' := [some (rowS PutPackedS v45 (out4 ++ [(PutPacked.mk p10.At b13.Packed)])), some (rowS build_packedS v42 l4)]) (shr' := [Fact.pt (Shape.slice PosS) (.pointer (some ⟨b12, 0, none⟩)) m12]) [11, 59, 60, 61, 12] [0, 1] [0] rfl rfl rfl rfl ?_
           refine Tk_blk (Tk_region (Tops_step rfl (OpT_bin rfl rfl rfl rfl rfl (bin_add_i (a := x8) (b := (1 : Int)))) ?_))
           refine Tops_step rfl (OpT_move rfl rfl rfl rfl) ?_
           refine Tops_nil (Tk_wkS (fr' := [(11, some (.pointer (some ⟨b12, 0, none⟩))), (59, some (v42)), (60, some (vI (len packed4))), (61, some (vI (wi (x8 + (1 : Int))))), (12, some (v45))]) (own' := [some (rowS PutPackedS v45 (out4 ++ [(PutPacked.mk p10.At b13.Packed)])), some (rowS build_packedS v42 l4)]) (shr' := [Fact.pt (Shape.slice PosS) (.pointer (some ⟨b12, 0, none⟩)) m12]) [11, 59, 60, 61, 12] [0, 1] [0] rfl rfl rfl rfl ?_)
           exact Tk_backS (out4 ++ [(PutPacked.mk p10.At b13.Packed)], l4, wi (x8 + (1 : Int)), v45, v42) h [11, 12, 59, 60, 61] [0, 1] [0] rfl rfl rfl rfl rfl
         ·replace h := br_f hg15 h
          refine Tk_condF (congrArg (fun b => some (Value.bool b)) hg15) ?_
          refine Tk_exit _ rfl ?_
          refine Tk_seq (Tk_region (Tops_step rfl (OpT_move rfl rfl rfl rfl) ?_))
          refine Tops_step rfl (OpT_assign rfl rfl rfl rfl) ?_
          refine Tops_step rfl (OpT_assign rfl rfl rfl rfl) ?_
          refine Tops_nil (Tk_wkS (fr' := [(8, some (v41)), (9, some (vI (0 : Int)))]) (own' := [some (rowS PutPackedS v41 out4)]) (shr' := []) [8, 9] [0] [] rfl rfl rfl rfl ?_)
          obtain rfl := Option.some.inj h
          exact Tk_retV rfl rfl (resA (vs := [v41, vI (0 : Int)]) rfl ⟨rfl, rfl, trivial⟩) [0] [] rfl rfl rfl ⟨v41, rfl, rfl, rfl⟩
end Go.Proofs.Ytihcimjfabdafaa
