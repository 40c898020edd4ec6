/- The functions do what the plain words say: each is walked once. No statement of the seat is proved here; no condition. -/
import Derived.Test.YtdaijemhibbgeaaMo1
import Derived.Test.YtdaijemhibbgeaaFc
namespace Go.Proofs.Ytdaijemhibbgeaa
attribute [local irreducible] sub
set_option maxRecDepth 100000 in
set_option maxHeartbeats 4000000 in
theorem w_law25zrooms {l : List Int} {vl1 : Value} {r : (List (List Seg))} (h : law25zrooms l = some r) :
  Ctr Try.prog 10 #[vl1] [] [Fact.sl iS vl1 l]
   (fun rv own shr => ∃ (w1 : Value), rv = w1 ∧ own = [(rowS (Shape.slice SegS) w1 r)] ∧ shr = []) := by
 unfold law25zrooms at h
 refine Ctr.mk (args := [vl1]) Try.func10 rfl rfl (fun R0 w0 B => ?_)
 refine Tk_seq (Tk_region (Tops_step rfl (OpT_assign rfl rfl rfl rfl) ?_))
 refine Tops_nil (Tk_wkS (fr' := [(0, some (vl1))]) (own' := []) (shr' := [Fact.sl iS vl1 l]) [0] [] [0] rfl rfl rfl rfl ?_)
 refine Tk_seq (Tk_region (Tops_step rfl (OpT_assign rfl rfl rfl rfl) ?_))
 refine Tops_nil (Tk_seq (Tk_region (Tops_step rfl (OpT_assign rfl rfl rfl rfl) ?_)))
 refine Tops_nil (Tk_seq (Tk_seq (Tk_region (Tops_step rfl (OpT_assign rfl rfl rfl rfl) ?_))))
 refine Tops_nil (Tk_block (Tk_nilrow (Shape.slice SegS) ?_))
 refine Tk_loopS (σ := UInt64 × (List (List Seg)) × Int × Value) [0, 3, 4, 5] [0] [0] (fun s => ⟨[(0, some (vl1)), (3, some (vU64 s.1)), (4, some (s.2.2.2)), (5, some (vI s.2.2.1))], [some (rowS (Shape.slice SegS) s.2.2.2 s.2.1)], [Fact.sl iS vl1 l]⟩) (fun nf1 s => law25zroomsL1 l nf1 s.1 s.2.1 s.2.2.1 = some r) fuel ((100 : UInt64), [], (0 : Int), (.slice none 0 0)) h rfl rfl rfl rfl rfl (fun s h => by cases h) ?_
 rintro nf1 ⟨at1, out1, i1, v1⟩ h
 replace h : law25zroomsL1B l (law25zroomsL1 l nf1) at1 out1 i1 = some r := h
 unfold law25zroomsL1B at h
 refine Tk_seq (Tk_seq (Tk_region (Tops_step rfl (OpT_move rfl rfl rfl rfl) ?_)))
 refine Tops_step rfl (OpT_move rfl rfl rfl rfl) ?_
 refine Tops_step rfl (OpT_lenS rfl rfl rfl rfl Try.underlying27 (i := 0) rfl) ?_
 refine Tops_step rfl (OpT_bin rfl rfl rfl rfl rfl (bin_lss_i (a := i1) (b := len l))) ?_
 refine Tops_nil (Tk_wkS (fr' := [(0, some (vl1)), (3, some (vU64 at1)), (4, some (v1)), (5, some (vI i1)), (9, some (vB (decide (i1 < (len l)))))]) (own' := [some (rowS (Shape.slice SegS) v1 out1)]) (shr' := [Fact.sl iS vl1 l]) [0, 3, 4, 5, 9] [0] [0] rfl rfl rfl rfl ?_)
 rcases Bool.eq_false_or_eq_true (decide (i1 < (len l))) with hg1 | hg1
 ·replace h := br_t hg1 h
  refine Tk_condT (congrArg (fun b => some (Value.bool b)) hg1) ?_
  refine Tk_skip (Tk_seq (Tk_block (Tk_seq (Tk_region (Tops_step rfl (OpT_move rfl rfl rfl rfl) ?_)))))
  refine Tops_step rfl (OpT_move rfl rfl rfl rfl) ?_
  refine Tops_step rfl (OpT_move rfl rfl rfl rfl) ?_
  refine Tops_step rfl (OpT_move rfl rfl rfl rfl) ?_
  obtain ⟨y1, hx1, h⟩ := ob_e h
  refine Tops_ex rfl (OpT_idxS rfl rfl rfl rfl rfl slF27 (i := 0) rfl hx1) fun p1 => ?_
  refine Tops_step rfl (OpT_loadP rfl rfl rfl rfl tyF3 (i := 1) rfl rfl) ?_
  refine Tops_step rfl (OpT_cnv rfl rfl rfl rfl (cnv_i_u32 (n := y1) Try.underlying3 Try.underlying48)) ?_
  refine Tops_step rfl (OpT_build (v := .agg #[vU64 at1, vU32 (u32 y1), vB true]) rfl rfl rfl rfl (bldV (by kernel_rfl))) ?_
  refine Tops_ex rfl (OpT_buildSlice (S := SegS) (xs := [(Seg.mk at1 (u32 y1) true)]) (css := [[vU64 at1, vU32 (u32 y1), vB true]]) (cs := [vU64 at1, vU32 (u32 y1), vB true]) (e := 57) rfl rfl rfl rfl (bldF slF58 (by decide) (by kernel_rfl)) rfl rfl rfl rfl (rel_plainD (S := SegS) (xs := [(Seg.mk at1 (u32 y1) true)]) (css := [[vU64 at1, vU32 (u32 y1), vB true]]) rfl rfl)) fun v2 => ?_
  refine Tops_retire (i := 1) rfl ?_
  refine Tops_ex rfl (OpT_buildSl (Shape.slice SegS) (vs := [v2]) (xs := [[(Seg.mk at1 (u32 y1) true)]]) rfl rfl rfl rfl rfl slF33 (isl_cons (is_sl (i := 2) rfl) isl_nil) rfl rfl rfl (rel_cons (rel_sl (i := 2) rfl) (rel_nil rfl))) fun v3 => ?_
  refine Tops_retire (i := 2) rfl ?_
  obtain ⟨hc1, h⟩ := chk_e h
  refine Tops_ex rfl (OpT_append rfl rfl rfl rfl rfl slF33 (i := 0) (j := 3) rfl rfl hc1) fun v4 => ?_
  refine Tops_step rfl (OpT_assign rfl rfl rfl rfl) ?_
  refine Tops_nil (Tk_wkS (fr' := [(0, some (vl1)), (3, some (vU64 at1)), (4, some (v4)), (5, some (vI i1))]) (own' := [some (rowS (Shape.slice SegS) v4 (out1 ++ [[(Seg.mk at1 (u32 y1) true)]]))]) (shr' := [Fact.sl iS vl1 l]) [0, 3, 4, 5] [0] [0] rfl rfl rfl rfl ?_)
  refine Tk_region (Tops_step rfl (OpT_move rfl rfl rfl rfl) ?_)
  refine Tops_step rfl (OpT_move rfl rfl rfl rfl) ?_
  refine Tops_step rfl (OpT_move rfl rfl rfl rfl) ?_
  obtain ⟨y2, hx2, h⟩ := ob_e h
  refine Tops_ex rfl (OpT_idxS rfl rfl rfl rfl rfl slF27 (i := 0) rfl hx2) fun p2 => ?_
  refine Tops_step rfl (OpT_loadP rfl rfl rfl rfl tyF3 (i := 1) rfl rfl) ?_
  refine Tops_step rfl (OpT_cnv rfl rfl rfl rfl (cnv_i_u64 (n := y2) Try.underlying3 Try.underlying28)) ?_
  refine Tops_step rfl (OpT_bin rfl rfl rfl rfl rfl (bin_add_u64 (a := at1) (b := u64 y2))) ?_
  refine Tops_step rfl (OpT_assign rfl rfl rfl rfl) ?_
  refine Tops_nil (Tk_wkS (fr' := [(0, some (vl1)), (3, some (vU64 (at1 + (u64 y2)))), (4, some (v4)), (5, some (vI i1))]) (own' := [some (rowS (Shape.slice SegS) v4 (out1 ++ [[(Seg.mk at1 (u32 y1) true)]]))]) (shr' := [Fact.sl iS vl1 l]) [0, 3, 4, 5] [0] [0] rfl rfl rfl rfl ?_)
  refine Tk_blk (Tk_region (Tops_step rfl (OpT_move rfl rfl rfl rfl) ?_))
  refine Tops_step rfl (OpT_bin rfl rfl rfl rfl rfl (bin_add_i (a := i1) (b := (1 : Int)))) ?_
  refine Tops_step rfl (OpT_assign rfl rfl rfl rfl) ?_
  refine Tops_nil (Tk_wkS (fr' := [(0, some (vl1)), (3, some (vU64 (at1 + (u64 y2)))), (4, some (v4)), (5, some (vI (wi (i1 + (1 : Int)))))]) (own' := [some (rowS (Shape.slice SegS) v4 (out1 ++ [[(Seg.mk at1 (u32 y1) true)]]))]) (shr' := [Fact.sl iS vl1 l]) [0, 3, 4, 5] [0] [0] rfl rfl rfl rfl ?_)
  exact Tk_backS (at1 + (u64 y2), out1 ++ [[(Seg.mk at1 (u32 y1) true)]], wi (i1 + (1 : Int)), v4) h [0, 3, 4, 5] [0] [0] rfl rfl rfl rfl rfl
 ·replace h := br_f hg1 h
  refine Tk_condF (congrArg (fun b => some (Value.bool b)) hg1) ?_
  refine Tk_exit _ rfl ?_
  refine Tk_seq (Tk_region (Tops_step rfl (OpT_move rfl rfl rfl rfl) ?_))
  refine Tops_step rfl (OpT_assign rfl rfl rfl rfl) ?_
  refine Tops_nil (Tk_wkS (fr' := [(2, some (v1))]) (own' := [some (rowS (Shape.slice SegS) v1 out1)]) (shr' := []) [2] [0] [] rfl rfl rfl rfl ?_)
  obtain rfl := Option.some.inj h
  exact Tk_retV rfl rfl (resA (vs := [v1]) rfl ⟨rfl, trivial⟩) [0] [] rfl rfl rfl ⟨v1, rfl, rfl, rfl⟩

set_option maxRecDepth 100000 in
set_option maxHeartbeats 4000000 in
theorem w_gmem_Check {l : List Region} {vl1 : Value} {r : Int} (h : gmem_Check l = some r) :
  Ctr Try.prog 29 #[vl1] [] [Fact.sl RegionS vl1 l]
   (fun rv own shr => rv = vI r ∧ own = [] ∧ shr = []) := by
 unfold gmem_Check at h
 refine Ctr.mk (args := [vl1]) Try.func29 rfl rfl (fun R0 w0 B => ?_)
 refine Tk_seq (Tk_region (Tops_step rfl (OpT_assign rfl rfl rfl rfl) ?_))
 refine Tops_nil (Tk_wkS (fr' := [(0, some (vl1))]) (own' := []) (shr' := [Fact.sl RegionS vl1 l]) [0] [] [0] rfl rfl rfl rfl ?_)
 refine Tk_seq (Tk_seq (Tk_region (Tops_step rfl (OpT_move rfl rfl rfl rfl) ?_)))
 refine Tops_step rfl (OpT_lenS rfl rfl rfl rfl Try.underlying38 (i := 0) rfl) ?_
 refine Tops_step rfl (OpT_bin rfl rfl rfl rfl rfl (bin_gtr_i (a := len l) (b := (16 : Int)))) ?_
 refine Tops_nil (Tk_wkS (fr' := [(0, some (vl1)), (9, some (vB (decide ((len l) > (16 : Int)))))]) (own' := []) (shr' := [Fact.sl RegionS vl1 l]) [0, 9] [] [0] rfl rfl rfl rfl ?_)
 rcases Bool.eq_false_or_eq_true (decide ((len l) > (16 : Int))) with hg1 | hg1
 ·replace h := br_t hg1 h
  refine Tk_condT (congrArg (fun b => some (Value.bool b)) hg1) ?_
  refine Tk_seq (Tk_region (Tops_step rfl (OpT_assign rfl rfl rfl rfl) ?_))
  refine Tops_nil (Tk_wkS (fr' := [(2, some (vI (2 : Int)))]) (own' := []) (shr' := []) [2] [] [] rfl rfl rfl rfl ?_)
  obtain rfl := Option.some.inj h
  exact Tk_retV rfl rfl (resA (vs := [vI (2 : Int)]) rfl ⟨rfl, trivial⟩) [] [] rfl rfl rfl ⟨rfl, rfl, rfl⟩
 ·replace h := br_f hg1 h
  refine Tk_condF (congrArg (fun b => some (Value.bool b)) hg1) ?_
  refine Tk_skip (Tk_seq (Tk_region (Tops_step rfl (OpT_assign rfl rfl rfl rfl) ?_)))
  refine Tops_nil (Tk_wkS (fr' := [(0, some (vl1)), (3, some (vU64 (1048576 : UInt64)))]) (own' := []) (shr' := [Fact.sl RegionS vl1 l]) [0, 3] [] [0] rfl rfl rfl rfl ?_)
  refine Tk_seq (Tk_seq (Tk_region (Tops_step rfl (OpT_move rfl rfl rfl rfl) ?_)))
  refine Tops_step rfl (OpT_lenS rfl rfl rfl rfl Try.underlying38 (i := 0) rfl) ?_
  refine Tops_step rfl (OpT_move rfl rfl rfl rfl) ?_
  refine Tops_nil (Tk_block (Tk_loopS (σ := UInt64 × Int) [0, 3, 10, 11, 12] [] [0] (fun s => ⟨[(0, some (vl1)), (3, some (vU64 s.1)), (10, some (vl1)), (11, some (vI (len l))), (12, some (vI s.2))], [], [Fact.sl RegionS vl1 l]⟩) (fun nf1 s => gmem_CheckL1 l nf1 s.1 s.2 = some r) fuel ((1048576 : UInt64), (0 : Int)) h rfl rfl rfl rfl rfl (fun s h => by cases h) ?_))
  rintro nf1 ⟨room1, x1⟩ h
  replace h : gmem_CheckL1B l (gmem_CheckL1 l nf1) room1 x1 = some r := h
  unfold gmem_CheckL1B at h
  refine Tk_seq (Tk_region (Tops_step rfl (OpT_bin rfl rfl rfl rfl rfl (bin_lss_i (a := x1) (b := len l))) ?_))
  refine Tops_nil (Tk_seq ?_)
  rcases Bool.eq_false_or_eq_true (decide (x1 < (len l))) with hg2 | hg2
  ·replace h := br_t hg2 h
   refine Tk_condT (congrArg (fun b => some (Value.bool b)) hg2) ?_
   refine Tk_skip (Tk_seq (Tk_block (Tk_seq (Tk_region (Tops_step rfl (OpT_move rfl rfl rfl rfl) ?_)))))
   obtain ⟨r1, hx1, h⟩ := ob_e h
   refine Tops_ex rfl (OpT_idxS rfl rfl rfl rfl rfl slF38 (i := 0) rfl hx1) fun p1 => ?_
   refine Tops_step rfl (OpT_loadPA (vs := [vU64 r1.At, vU64 r1.Len]) rfl rfl rfl rfl tyF75 (i := 1) rfl rfl) ?_
   refine Tops_ex rfl (OpT_alloc rfl rfl rfl tyZ75) fun b1 => ?_
   refine Tops_step rfl (OpT_assign rfl rfl rfl rfl) ?_
   refine Tops_step rfl (OpT_storeC (cs' := [vU64 r1.At, vU64 r1.Len]) rfl rfl rfl rfl tyF75 (i := 0) rfl rfl rfl (one_of rfl) rfl) ?_
   refine Tops_nil (Tk_wkS (fr' := [(0, some (vl1)), (3, some (vU64 room1)), (10, some (vl1)), (11, some (vI (len l))), (12, some (vI x1)), (5, some (.pointer (some ⟨b1, 0, none⟩))), (4, some (vI x1))]) (own' := [some (cellsR b1 75 [vU64 r1.At, vU64 r1.Len])]) (shr' := [Fact.sl RegionS vl1 l]) [0, 3, 10, 11, 12, 5, 4] [0] [0] rfl rfl rfl rfl ?_)
   refine Tk_seq (Tk_seq (Tk_region (Tops_step rfl (OpT_fieldC rfl rfl rfl rfl fldF75x1) ?_)))
   refine Tops_step rfl (OpT_loadC rfl rfl rfl rfl tyF28 (i := 0) rfl rfl) ?_
   refine Tops_step rfl (OpT_bin rfl rfl rfl rfl rfl (bin_lss_u64 (a := r1.Len) (b := (1 : UInt64)))) ?_
   refine Tops_step rfl (OpT_move rfl rfl rfl rfl) ?_
   rcases Bool.eq_false_or_eq_true (decide (r1.Len < (1 : UInt64))) with hg3 | hg3
   ·replace h := br_t hg3 h
    refine Tops_no rfl rfl (congrArg (fun b => some (Value.bool b)) hg3) rfl rfl ?_
    refine Tops_no rfl rfl (congrArg (fun b => some (Value.bool b)) hg3) rfl rfl ?_
    refine Tops_no rfl rfl (congrArg (fun b => some (Value.bool b)) hg3) rfl rfl ?_
    refine Tops_no rfl rfl (congrArg (fun b => some (Value.bool b)) hg3) rfl rfl ?_
    refine Tops_step rfl (OpT_pickT rfl rfl rfl (congrArg (fun b => some (Value.bool b)) hg3) rfl) ?_
    refine Tops_step rfl (OpT_move rfl rfl rfl rfl) ?_
    refine Tops_no rfl rfl rfl rfl rfl ?_
    refine Tops_no rfl rfl rfl rfl rfl ?_
    refine Tops_no rfl rfl rfl rfl rfl ?_
    refine Tops_no rfl rfl rfl rfl rfl ?_
    refine Tops_no rfl rfl rfl rfl rfl ?_
    refine Tops_no rfl rfl rfl rfl rfl ?_
    refine Tops_no rfl rfl rfl rfl rfl ?_
    refine Tops_step rfl (OpT_pickT rfl rfl rfl rfl rfl) ?_
    refine Tops_nil (Tk_wkS (fr' := [(0, some (vl1)), (3, some (vU64 room1)), (10, some (vl1)), (11, some (vI (len l))), (12, some (vI x1)), (5, some (.pointer (some ⟨b1, 0, none⟩))), (4, some (vI x1)), (34, some (vB true))]) (own' := [some (cellsR b1 75 [vU64 r1.At, vU64 r1.Len])]) (shr' := [Fact.sl RegionS vl1 l]) [0, 3, 10, 11, 12, 5, 4, 34] [0] [0] rfl rfl rfl rfl ?_)
    refine Tk_condT rfl ?_
    refine Tk_seq (Tk_region (Tops_step rfl (OpT_assign rfl rfl rfl rfl) ?_))
    refine Tops_nil (Tk_wkS (fr' := [(2, some (vI (2 : Int)))]) (own' := []) (shr' := []) [2] [] [] rfl rfl rfl rfl ?_)
    obtain rfl := Option.some.inj h
    exact Tk_retV rfl rfl (resA (vs := [vI (2 : Int)]) rfl ⟨rfl, trivial⟩) [] [] rfl rfl rfl ⟨rfl, rfl, rfl⟩
   ·replace h := br_f hg3 h
    refine Tops_yes rfl rfl (congrArg (fun b => some (Value.bool b)) hg3) (OpT_fieldC rfl rfl rfl rfl fldF75x1) ?_
    rintro _ rfl
    refine Tops_yes rfl rfl (congrArg (fun b => some (Value.bool b)) hg3) (OpT_loadC rfl rfl rfl rfl tyF28 (i := 0) rfl rfl) ?_
    rintro _ rfl
    refine Tops_yes rfl rfl (congrArg (fun b => some (Value.bool b)) hg3) (OpT_move rfl rfl rfl rfl) ?_
    rintro _ rfl
    refine Tops_yes rfl rfl (congrArg (fun b => some (Value.bool b)) hg3) (OpT_bin rfl rfl rfl rfl rfl (bin_gtr_u64 (a := r1.Len) (b := room1))) ?_
    rintro _ rfl
    refine Tops_step rfl (OpT_pickF rfl rfl rfl (congrArg (fun b => some (Value.bool b)) hg3) rfl) ?_
    refine Tops_step rfl (OpT_move rfl rfl rfl rfl) ?_
    rcases Bool.eq_false_or_eq_true (decide (r1.Len > room1)) with hg4 | hg4
    ·replace h := br_t hg4 h
     refine Tops_no rfl rfl (congrArg (fun b => some (Value.bool b)) hg4) rfl rfl ?_
     refine Tops_no rfl rfl (congrArg (fun b => some (Value.bool b)) hg4) rfl rfl ?_
     refine Tops_no rfl rfl (congrArg (fun b => some (Value.bool b)) hg4) rfl rfl ?_
     refine Tops_no rfl rfl (congrArg (fun b => some (Value.bool b)) hg4) rfl rfl ?_
     refine Tops_no rfl rfl (congrArg (fun b => some (Value.bool b)) hg4) rfl rfl ?_
     refine Tops_no rfl rfl (congrArg (fun b => some (Value.bool b)) hg4) rfl rfl ?_
     refine Tops_no rfl rfl (congrArg (fun b => some (Value.bool b)) hg4) rfl rfl ?_
     refine Tops_step rfl (OpT_pickT rfl rfl rfl (congrArg (fun b => some (Value.bool b)) hg4) rfl) ?_
     refine Tops_nil (Tk_wkS (fr' := [(0, some (vl1)), (3, some (vU64 room1)), (10, some (vl1)), (11, some (vI (len l))), (12, some (vI x1)), (5, some (.pointer (some ⟨b1, 0, none⟩))), (4, some (vI x1)), (34, some (vB true))]) (own' := [some (cellsR b1 75 [vU64 r1.At, vU64 r1.Len])]) (shr' := [Fact.sl RegionS vl1 l]) [0, 3, 10, 11, 12, 5, 4, 34] [0] [0] rfl rfl rfl rfl ?_)
     refine Tk_condT rfl ?_
     refine Tk_seq (Tk_region (Tops_step rfl (OpT_assign rfl rfl rfl rfl) ?_))
     refine Tops_nil (Tk_wkS (fr' := [(2, some (vI (2 : Int)))]) (own' := []) (shr' := []) [2] [] [] rfl rfl rfl rfl ?_)
     obtain rfl := Option.some.inj h
     exact Tk_retV rfl rfl (resA (vs := [vI (2 : Int)]) rfl ⟨rfl, trivial⟩) [] [] rfl rfl rfl ⟨rfl, rfl, rfl⟩
    ·replace h := br_f hg4 h
     refine Tops_yes rfl rfl (congrArg (fun b => some (Value.bool b)) hg4) (OpT_fieldC rfl rfl rfl rfl fldF75x1) ?_
     rintro _ rfl
     refine Tops_yes rfl rfl (congrArg (fun b => some (Value.bool b)) hg4) (OpT_loadC rfl rfl rfl rfl tyF28 (i := 0) rfl rfl) ?_
     rintro _ rfl
     refine Tops_yes rfl rfl (congrArg (fun b => some (Value.bool b)) hg4) (OpT_bin rfl rfl rfl rfl rfl (bin_sub_u64 (a := r1.Len) (b := (1 : UInt64)))) ?_
     rintro _ rfl
     refine Tops_yes rfl rfl (congrArg (fun b => some (Value.bool b)) hg4) (OpT_fieldC rfl rfl rfl rfl fldF75x0) ?_
     rintro _ rfl
     refine Tops_yes rfl rfl (congrArg (fun b => some (Value.bool b)) hg4) (OpT_loadC rfl rfl rfl rfl tyF28 (i := 0) rfl rfl) ?_
     rintro _ rfl
     refine Tops_yes rfl rfl (congrArg (fun b => some (Value.bool b)) hg4) (OpT_bin rfl rfl rfl rfl rfl (bin_sub_u64 (a := (18446744073709551615 : UInt64)) (b := r1.At))) ?_
     rintro _ rfl
     refine Tops_yes rfl rfl (congrArg (fun b => some (Value.bool b)) hg4) (OpT_bin rfl rfl rfl rfl rfl (bin_gtr_u64 (a := r1.Len - (1 : UInt64)) (b := (18446744073709551615 : UInt64) - r1.At))) ?_
     rintro _ rfl
     refine Tops_step rfl (OpT_pickF rfl rfl rfl (congrArg (fun b => some (Value.bool b)) hg4) rfl) ?_
     refine Tops_nil (Tk_wkS (fr' := [(0, some (vl1)), (3, some (vU64 room1)), (10, some (vl1)), (11, some (vI (len l))), (12, some (vI x1)), (5, some (.pointer (some ⟨b1, 0, none⟩))), (4, some (vI x1)), (34, some (vB (decide ((r1.Len - (1 : UInt64)) > ((18446744073709551615 : UInt64) - r1.At)))))]) (own' := [some (cellsR b1 75 [vU64 r1.At, vU64 r1.Len])]) (shr' := [Fact.sl RegionS vl1 l]) [0, 3, 10, 11, 12, 5, 4, 34] [0] [0] rfl rfl rfl rfl ?_)
     rcases Bool.eq_false_or_eq_true (decide ((r1.Len - (1 : UInt64)) > ((18446744073709551615 : UInt64) - r1.At))) with hg5 | hg5
     ·replace h := br_t hg5 h
      refine Tk_condT (congrArg (fun b => some (Value.bool b)) hg5) ?_
      refine Tk_seq (Tk_region (Tops_step rfl (OpT_assign rfl rfl rfl rfl) ?_))
      refine Tops_nil (Tk_wkS (fr' := [(2, some (vI (2 : Int)))]) (own' := []) (shr' := []) [2] [] [] rfl rfl rfl rfl ?_)
      obtain rfl := Option.some.inj h
      exact Tk_retV rfl rfl (resA (vs := [vI (2 : Int)]) rfl ⟨rfl, trivial⟩) [] [] rfl rfl rfl ⟨rfl, rfl, rfl⟩
     ·replace h := br_f hg5 h
      refine Tk_condF (congrArg (fun b => some (Value.bool b)) hg5) ?_
      refine Tk_skip (Tk_seq (Tk_region (Tops_step rfl (OpT_move rfl rfl rfl rfl) ?_)))
      refine Tops_step rfl (OpT_fieldC rfl rfl rfl rfl fldF75x1) ?_
      refine Tops_step rfl (OpT_loadC rfl rfl rfl rfl tyF28 (i := 0) rfl rfl) ?_
      refine Tops_step rfl (OpT_bin rfl rfl rfl rfl rfl (bin_sub_u64 (a := room1) (b := r1.Len))) ?_
      refine Tops_step rfl (OpT_assign rfl rfl rfl rfl) ?_
      refine Tops_nil (Tk_wkS (fr' := [(0, some (vl1)), (3, some (vU64 (room1 - r1.Len))), (10, some (vl1)), (11, some (vI (len l))), (12, some (vI x1)), (5, some (.pointer (some ⟨b1, 0, none⟩))), (4, some (vI x1))]) (own' := [some (cellsR b1 75 [vU64 r1.At, vU64 r1.Len])]) (shr' := [Fact.sl RegionS vl1 l]) [0, 3, 10, 11, 12, 5, 4] [0] [0] rfl rfl rfl rfl ?_)
      refine Tk_seq (Tk_region (Tops_step rfl (OpT_move rfl rfl rfl rfl) ?_))
      refine Tops_step rfl (OpT_bin rfl rfl rfl rfl rfl (bin_gtr_i (a := x1) (b := (0 : Int)))) ?_
      refine Tops_nil (Tk_wkS (fr' := [(0, some (vl1)), (3, some (vU64 (room1 - r1.Len))), (10, some (vl1)), (11, some (vI (len l))), (12, some (vI x1)), (5, some (.pointer (some ⟨b1, 0, none⟩))), (4, some (vI x1)), (40, some (vB (decide (x1 > (0 : Int)))))]) (own' := [some (cellsR b1 75 [vU64 r1.At, vU64 r1.Len])]) (shr' := [Fact.sl RegionS vl1 l]) [0, 3, 10, 11, 12, 5, 4, 40] [0] [0] rfl rfl rfl rfl ?_)
      rcases Bool.eq_false_or_eq_true (decide (x1 > (0 : Int))) with hg6 | hg6
      ·replace h := br_t hg6 h
       refine Tk_condT (congrArg (fun b => some (Value.bool b)) hg6) ?_
       refine Tk_seq (Tk_region (Tops_step rfl (OpT_move rfl rfl rfl rfl) ?_))
       refine Tops_step rfl (OpT_move rfl rfl rfl rfl) ?_
       refine Tops_step rfl (OpT_bin rfl rfl rfl rfl rfl (bin_sub_i (a := x1) (b := (1 : Int)))) ?_
       obtain ⟨r2, hx2, h⟩ := ob_e h
       refine Tops_ex rfl (OpT_idxS rfl rfl rfl rfl rfl slF38 (i := 0) rfl hx2) fun p2 => ?_
       refine Tops_step rfl (OpT_loadPA (vs := [vU64 r2.At, vU64 r2.Len]) rfl rfl rfl rfl tyF75 (i := 1) rfl rfl) ?_
       refine Tops_ex rfl (OpT_alloc rfl rfl rfl tyZ75) fun b2 => ?_
       refine Tops_step rfl (OpT_storeC (cs' := [vU64 r2.At, vU64 r2.Len]) rfl rfl rfl rfl tyF75 (i := 1) rfl rfl rfl (one_of rfl) rfl) ?_
       refine Tops_nil (Tk_wkS (fr' := [(0, some (vl1)), (3, some (vU64 (room1 - r1.Len))), (10, some (vl1)), (11, some (vI (len l))), (12, some (vI x1)), (5, some (.pointer (some ⟨b1, 0, none⟩))), (6, some (.pointer (some ⟨b2, 0, none⟩)))]) (own' := [some (cellsR b1 75 [vU64 r1.At, vU64 r1.Len]), some (cellsR b2 75 [vU64 r2.At, vU64 r2.Len])]) (shr' := [Fact.sl RegionS vl1 l]) [0, 3, 10, 11, 12, 5, 6] [0, 1] [0] rfl rfl rfl rfl ?_)
       refine Tk_seq (Tk_region (Tops_step rfl (OpT_fieldC rfl rfl rfl rfl fldF75x0) ?_))
       refine Tops_step rfl (OpT_loadC rfl rfl rfl rfl tyF28 (i := 0) rfl rfl) ?_
       refine Tops_step rfl (OpT_fieldC rfl rfl rfl rfl fldF75x0) ?_
       refine Tops_step rfl (OpT_loadC rfl rfl rfl rfl tyF28 (i := 1) rfl rfl) ?_
       refine Tops_step rfl (OpT_bin rfl rfl rfl rfl rfl (bin_leq_u64 (a := r1.At) (b := r2.At))) ?_
       refine Tops_step rfl (OpT_move rfl rfl rfl rfl) ?_
       rcases Bool.eq_false_or_eq_true (decide (r1.At ≤ r2.At)) with hg7 | hg7
       ·replace h := br_t hg7 h
        refine Tops_no rfl rfl (congrArg (fun b => some (Value.bool b)) hg7) rfl rfl ?_
        refine Tops_no rfl rfl (congrArg (fun b => some (Value.bool b)) hg7) rfl rfl ?_
        refine Tops_no rfl rfl (congrArg (fun b => some (Value.bool b)) hg7) rfl rfl ?_
        refine Tops_no rfl rfl (congrArg (fun b => some (Value.bool b)) hg7) rfl rfl ?_
        refine Tops_no rfl rfl (congrArg (fun b => some (Value.bool b)) hg7) rfl rfl ?_
        refine Tops_no rfl rfl (congrArg (fun b => some (Value.bool b)) hg7) rfl rfl ?_
        refine Tops_no rfl rfl (congrArg (fun b => some (Value.bool b)) hg7) rfl rfl ?_
        refine Tops_no rfl rfl (congrArg (fun b => some (Value.bool b)) hg7) rfl rfl ?_
        refine Tops_step rfl (OpT_pickT rfl rfl rfl (congrArg (fun b => some (Value.bool b)) hg7) rfl) ?_
        refine Tops_nil (Tk_wkS (fr' := [(0, some (vl1)), (3, some (vU64 (room1 - r1.Len))), (10, some (vl1)), (11, some (vI (len l))), (12, some (vI x1)), (60, some (vB true))]) (own' := []) (shr' := [Fact.sl RegionS vl1 l]) [0, 3, 10, 11, 12, 60] [] [0] rfl rfl rfl rfl ?_)
        refine Tk_condT rfl ?_
        refine Tk_seq (Tk_region (Tops_step rfl (OpT_assign rfl rfl rfl rfl) ?_))
        refine Tops_nil (Tk_wkS (fr' := [(2, some (vI (2 : Int)))]) (own' := []) (shr' := []) [2] [] [] rfl rfl rfl rfl ?_)
        obtain rfl := Option.some.inj h
        exact Tk_retV rfl rfl (resA (vs := [vI (2 : Int)]) rfl ⟨rfl, trivial⟩) [] [] rfl rfl rfl ⟨rfl, rfl, rfl⟩
       ·replace h := br_f hg7 h
        refine Tops_yes rfl rfl (congrArg (fun b => some (Value.bool b)) hg7) (OpT_fieldC rfl rfl rfl rfl fldF75x0) ?_
        rintro _ rfl
        refine Tops_yes rfl rfl (congrArg (fun b => some (Value.bool b)) hg7) (OpT_loadC rfl rfl rfl rfl tyF28 (i := 0) rfl rfl) ?_
        rintro _ rfl
        refine Tops_yes rfl rfl (congrArg (fun b => some (Value.bool b)) hg7) (OpT_fieldC rfl rfl rfl rfl fldF75x0) ?_
        rintro _ rfl
        refine Tops_yes rfl rfl (congrArg (fun b => some (Value.bool b)) hg7) (OpT_loadC rfl rfl rfl rfl tyF28 (i := 1) rfl rfl) ?_
        rintro _ rfl
        refine Tops_yes rfl rfl (congrArg (fun b => some (Value.bool b)) hg7) (OpT_bin rfl rfl rfl rfl rfl (bin_sub_u64 (a := r1.At) (b := r2.At))) ?_
        rintro _ rfl
        refine Tops_yes rfl rfl (congrArg (fun b => some (Value.bool b)) hg7) (OpT_fieldC rfl rfl rfl rfl fldF75x1) ?_
        rintro _ rfl
        refine Tops_yes rfl rfl (congrArg (fun b => some (Value.bool b)) hg7) (OpT_loadC rfl rfl rfl rfl tyF28 (i := 1) rfl rfl) ?_
        rintro _ rfl
        refine Tops_yes rfl rfl (congrArg (fun b => some (Value.bool b)) hg7) (OpT_bin rfl rfl rfl rfl rfl (bin_lss_u64 (a := r1.At - r2.At) (b := r2.Len))) ?_
        rintro _ rfl
        refine Tops_step rfl (OpT_pickF rfl rfl rfl (congrArg (fun b => some (Value.bool b)) hg7) rfl) ?_
        refine Tops_nil (Tk_wkS (fr' := [(0, some (vl1)), (3, some (vU64 (room1 - r1.Len))), (10, some (vl1)), (11, some (vI (len l))), (12, some (vI x1)), (60, some (vB (decide ((r1.At - r2.At) < r2.Len))))]) (own' := []) (shr' := [Fact.sl RegionS vl1 l]) [0, 3, 10, 11, 12, 60] [] [0] rfl rfl rfl rfl ?_)
        rcases Bool.eq_false_or_eq_true (decide ((r1.At - r2.At) < r2.Len)) with hg8 | hg8
        ·replace h := br_t hg8 h
         refine Tk_condT (congrArg (fun b => some (Value.bool b)) hg8) ?_
         refine Tk_seq (Tk_region (Tops_step rfl (OpT_assign rfl rfl rfl rfl) ?_))
         refine Tops_nil (Tk_wkS (fr' := [(2, some (vI (2 : Int)))]) (own' := []) (shr' := []) [2] [] [] rfl rfl rfl rfl ?_)
         obtain rfl := Option.some.inj h
         exact Tk_retV rfl rfl (resA (vs := [vI (2 : Int)]) rfl ⟨rfl, trivial⟩) [] [] rfl rfl rfl ⟨rfl, rfl, rfl⟩
        ·replace h := br_f hg8 h
         refine Tk_condF (congrArg (fun b => some (Value.bool b)) hg8) ?_
         refine Tk_skip (Tk_blk (Tk_region (Tops_step rfl (OpT_bin rfl rfl rfl rfl rfl (bin_add_i (a := x1) (b := (1 : Int)))) ?_)))
         refine Tops_step rfl (OpT_move rfl rfl rfl rfl) ?_
         refine Tops_nil (Tk_wkS (fr' := [(0, some (vl1)), (3, some (vU64 (room1 - r1.Len))), (10, some (vl1)), (11, some (vI (len l))), (12, some (vI (wi (x1 + (1 : Int)))))]) (own' := []) (shr' := [Fact.sl RegionS vl1 l]) [0, 3, 10, 11, 12] [] [0] rfl rfl rfl rfl ?_)
         exact Tk_backS (room1 - r1.Len, wi (x1 + (1 : Int))) h [0, 3, 10, 11, 12] [] [0] rfl rfl rfl rfl rfl
      ·replace h := br_f hg6 h
       refine Tk_condF (congrArg (fun b => some (Value.bool b)) hg6) ?_
       refine Tk_skip (Tk_blk (Tk_region (Tops_step rfl (OpT_bin rfl rfl rfl rfl rfl (bin_add_i (a := x1) (b := (1 : Int)))) ?_)))
       refine Tops_step rfl (OpT_move rfl rfl rfl rfl) ?_
       refine Tops_nil (Tk_wkS (fr' := [(0, some (vl1)), (3, some (vU64 (room1 - r1.Len))), (10, some (vl1)), (11, some (vI (len l))), (12, some (vI (wi (x1 + (1 : Int)))))]) (own' := []) (shr' := [Fact.sl RegionS vl1 l]) [0, 3, 10, 11, 12] [] [0] rfl rfl rfl rfl ?_)
       exact Tk_backS (room1 - r1.Len, wi (x1 + (1 : Int))) h [0, 3, 10, 11, 12] [] [0] rfl rfl rfl rfl rfl
  ·replace h := br_f hg2 h
   refine Tk_condF (congrArg (fun b => some (Value.bool b)) hg2) ?_
   refine Tk_exit _ rfl ?_
   refine Tk_seq (Tk_region (Tops_step rfl (OpT_assign rfl rfl rfl rfl) ?_))
   refine Tops_nil (Tk_wkS (fr' := [(2, some (vI (0 : Int)))]) (own' := []) (shr' := []) [2] [] [] rfl rfl rfl rfl ?_)
   obtain rfl := Option.some.inj h
   exact Tk_retV rfl rfl (resA (vs := [vI (0 : Int)]) rfl ⟨rfl, trivial⟩) [] [] rfl rfl rfl ⟨rfl, rfl, rfl⟩

set_option maxRecDepth 100000 in
set_option maxHeartbeats 4000000 in
theorem w_slices_Clone_apiRegionapiRegion {sp0 : List Region} {vsp01 : Value} {r : (List Region)} (h : slices_Clone_apiRegionapiRegion sp0 = some r) :
  Ctr Try.prog 30 #[vsp01] [] [Fact.sl RegionS vsp01 sp0]
   (fun rv own shr => ∃ (w1 : Value), rv = w1 ∧ own = [(rowS RegionS w1 r)] ∧ shr = []) := by
 unfold slices_Clone_apiRegionapiRegion at h
 refine Ctr.mk (args := [vsp01]) Try.func30 rfl rfl (fun R0 w0 B => ?_)
 refine Tk_seq (Tk_region (Tops_step rfl (OpT_assign rfl rfl rfl rfl) ?_))
 refine Tops_nil (Tk_wkS (fr' := [(0, some (vsp01))]) (own' := []) (shr' := [Fact.sl RegionS vsp01 sp0]) [0] [] [0] rfl rfl rfl rfl ?_)
 refine Tk_seq (Tk_seq (Tk_region (Tops_step rfl (OpT_move rfl rfl rfl rfl) ?_)))
 refine Tops_exP rfl (OpT_eqNil rfl rfl rfl (.inl rfl) rfl rfl Try.underlying38 (i := 0) rfl) ?_
 rintro _ ⟨q1, hq1, rfl⟩
 refine Tops_nil (Tk_wkS (fr' := [(0, some (vsp01)), (4, some (vB q1))]) (own' := []) (shr' := [Fact.sl RegionS vsp01 sp0]) [0, 4] [] [0] rfl rfl rfl rfl ?_)
 rcases Bool.eq_false_or_eq_true q1 with hg1 | hg1
 ·obtain rfl := hq1 hg1
  replace h : some ([] : List Region) = some r := h
  refine Tk_condT (congrArg (fun b => some (Value.bool b)) hg1) ?_
  refine Tk_seq (Tk_region (Tops_step rfl (OpT_assign rfl rfl rfl rfl) ?_))
  refine Tops_nil (Tk_wkS (fr' := [(2, some (.slice none 0 0))]) (own' := []) (shr' := []) [2] [] [] rfl rfl rfl rfl ?_)
  refine Tk_nilrow RegionS ?_
  obtain rfl := Option.some.inj h
  exact Tk_retV rfl rfl (resA (vs := [.slice none 0 0]) rfl ⟨rfl, trivial⟩) [0] [] rfl rfl rfl ⟨(.slice none 0 0), rfl, rfl, rfl⟩
 ·refine Tk_condF (congrArg (fun b => some (Value.bool b)) hg1) ?_
  refine Tk_skip (Tk_seq (Tk_region (Tops_ex rfl (OpT_buildSlice (S := RegionS) (xs := ([] : List Region)) (css := []) (cs := []) (e := 75) rfl rfl rfl rfl (bldF slF38 (by decide) (by kernel_rfl)) rfl rfl rfl rfl (rel_plainD (S := RegionS) (xs := ([] : List Region)) (css := []) rfl rfl)) fun v1 => ?_)))
  refine Tops_step rfl (OpT_move rfl rfl rfl rfl) ?_
  obtain ⟨hc1, h⟩ := chk_e h
  refine Tops_ex rfl (OpT_append rfl rfl rfl rfl rfl slF38 (i := 0) (j := 0) rfl rfl hc1) fun v2 => ?_
  refine Tops_step rfl (OpT_assign rfl rfl rfl rfl) ?_
  refine Tops_nil (Tk_wkS (fr' := [(2, some (v2))]) (own' := [some (rowS RegionS v2 sp0)]) (shr' := []) [2] [0] [] rfl rfl rfl rfl ?_)
  obtain rfl := Option.some.inj h
  exact Tk_retV rfl rfl (resA (vs := [v2]) rfl ⟨rfl, trivial⟩) [0] [] rfl rfl rfl ⟨v2, rfl, rfl, rfl⟩

theorem ws_slices_Clone_apiRegionapiRegion {sp0 : List Region} {vsp01 : Value} {r : (List Region)} (h : slices_Clone_apiRegionapiRegion sp0 = some r) :
  Ctr Try.prog 30 #[vsp01] [] [Fact.sl RegionS vsp01 sp0]
   (fun rv own shr => ∃ (w1 : Value), rv = w1 ∧ own = [] ∧ shr = [Fact.sl RegionS w1 r]) :=
 Ctr.sh (w_slices_Clone_apiRegionapiRegion h) (by rintro w1 _ _ ⟨_, rfl, rfl, rfl⟩; exact ⟨[], _, _, _, _, rfl, w1, rfl, rfl, rfl⟩)

set_option maxRecDepth 100000 in
set_option maxHeartbeats 4000000 in
theorem w_gmem_New {l : List Region} {vl1 : Value} {r : ((Option gmem_Mem) × Int)} (h : gmem_New l = some r) :
  Ctr Try.prog 11 #[vl1] [] [Fact.sl RegionS vl1 l]
   (fun rv own shr => ∃ (w1 : Value), rv = .tuple #[w1, vI r.2] ∧ own = [(optR 78 RegionS u8S true gmem_Mem.l gmem_Mem.b w1 r.1)] ∧ shr = []) := by
 unfold gmem_New at h
 refine Ctr.mk (args := [vl1]) Try.func11 rfl rfl (fun R0 w0 B => ?_)
 refine Tk_seq (Tk_region (Tops_step rfl (OpT_assign rfl rfl rfl rfl) ?_))
 refine Tops_step rfl (OpT_assign rfl rfl rfl rfl) ?_
 refine Tops_nil (Tk_wkS (fr' := [(0, some (vl1))]) (own' := []) (shr' := [Fact.sl RegionS vl1 l]) [0] [] [0] rfl rfl rfl rfl ?_)
 refine Tk_seq (Tk_seq (Tk_region (Tops_step rfl (OpT_move rfl rfl rfl rfl) ?_)))
 obtain ⟨check1, hx1, h⟩ := ob_e h
 refine Tops_exP rfl (OpT_call (w_gmem_Check hx1) [] [0] rfl rfl rfl rfl rfl callee29 rfl rfl rfl rfl) ?_
 rintro _ ⟨_, _, _, ⟨rfl, rfl, rfl⟩, rfl⟩
 refine Tops_step rfl (OpT_assign rfl rfl rfl rfl) ?_
 refine Tops_nil (Tk_wkS (fr' := [(0, some (vl1)), (4, some (vI check1))]) (own' := []) (shr' := [Fact.sl RegionS vl1 l]) [0, 4] [] [0] rfl rfl rfl rfl ?_)
 refine Tk_seq (Tk_region (Tops_step rfl (OpT_move rfl rfl rfl rfl) ?_))
 refine Tops_step rfl (OpT_bin rfl rfl rfl rfl rfl (bin_neq_i (a := check1) (b := (0 : Int)))) ?_
 refine Tops_nil (Tk_wkS (fr' := [(0, some (vl1)), (4, some (vI check1)), (11, some (vB (check1 != (0 : Int))))]) (own' := []) (shr' := [Fact.sl RegionS vl1 l]) [0, 4, 11] [] [0] rfl rfl rfl rfl ?_)
 rcases Bool.eq_false_or_eq_true (check1 != (0 : Int)) with hg1 | hg1
 ·replace h := br_t hg1 h
  refine Tk_condT (congrArg (fun b => some (Value.bool b)) hg1) ?_
  refine Tk_seq (Tk_region (Tops_step rfl (OpT_move rfl rfl rfl rfl) ?_))
  refine Tops_step rfl (OpT_assign rfl rfl rfl rfl) ?_
  refine Tops_step rfl (OpT_assign rfl rfl rfl rfl) ?_
  refine Tops_nil (Tk_wkS (fr' := [(2, some (.pointer none)), (3, some (vI check1))]) (own' := []) (shr' := []) [2, 3] [] [] rfl rfl rfl rfl ?_)
  refine Tk_nilopt 78 RegionS u8S true gmem_Mem.l gmem_Mem.b ?_
  obtain rfl := Option.some.inj h
  exact Tk_retV rfl rfl (resA (vs := [.pointer none, vI check1]) rfl ⟨rfl, rfl, trivial⟩) [0] [] rfl rfl rfl ⟨(.pointer none), rfl, rfl, rfl⟩
 ·replace h := br_f hg1 h
  refine Tk_condF (congrArg (fun b => some (Value.bool b)) hg1) ?_
  refine Tk_skip (Tk_seq (Tk_drawT (by kernel_rfl) ?_))
  refine TA_tb [0, 1, 0, 4, 0, 16, 48, 124, 255, 511, 1023] (by kernel_rfl) fun htb => ?_
  refine TA_wkS (fr' := [(0, some (vl1))]) (own' := []) (shr' := [Fact.sl RegionS vl1 l]) [0] [] [0] rfl rfl rfl rfl ?_
  obtain ⟨region1, hx2, h⟩ := ob_e h
  obtain ⟨hc1, h⟩ := chk_e h
  refine TA_seg (lo := 0) (hi := 8) htb rfl rfl (by kernel_rfl) (fun c L a w => ∃ (v1 : Value), ∃ (v2 : Value), ∃ (vs1 : List Value), Sat c ⟨[(0, some (vl1)), (13, bif L 0 then some (vl1) else none), (14, bif L 1 then some (v1) else none), (15, bif L 2 then some (vl1) else none), (16, bif L 3 then some (vI (len l)) else none), (17, bif L 4 then some (vl1) else none), (18, bif L 5 then some (vI (len l)) else none), (19, bif L 6 then some (vI (wi ((len l) + (1 : Int)))) else none), (20, bif L 7 then some (v2) else none)], [(bif L 7 then some (rowsX u8S true v2 vs1 (List.replicate (Int.toNat (len l)) [] : List (List UInt8)) none) else none : Option Res)], [Fact.sl RegionS vl1 l, (bif L 1 then Fact.sl RegionS v1 region1 else Fact.tt)]⟩ a w) [([], [1]), ([0], []), ([], [3, 7]), ([2], [7]), ([], [5, 6, 7]), ([4], [6, 7]), ([4, 5], [7]), ([2, 3, 4, 5, 6], [])] rfl (by kernel_rfl) ?_ (steps_cons ?_ (steps_cons ?_ (steps_cons ?_ (steps_cons ?_ (steps_cons ?_ (steps_cons ?_ (steps_cons ?_ (steps_cons ?_ (steps_nil))))))))) ?_
  ·intro a w hs
   exact ⟨undef, undef, [], hs.startF [13, 14, 15, 16, 17, 18, 19, 20] [0] [0, 1] rfl rfl rfl rfl⟩
  ·intro L a w hv K Q hK
   obtain ⟨v1, v2, vs1, hs⟩ := hv
   refine wpOp_go rfl rfl hs (OpT_move rfl rfl rfl rfl) ?_
   rintro _ rfl a' w' hs'
   exact hK a' w' ⟨v1, v2, vs1, hs'.putF (i := 1) rfl [0] [0, 1] rfl rfl rfl rfl⟩
  ·intro L a w hv K Q hK
   obtain ⟨v1, v2, vs1, hs⟩ := hv
   refine wpOp_go rfl rfl hs (OpT_call (ws_slices_Clone_apiRegionapiRegion hx2) [] [0] rfl rfl rfl rfl rfl callee30 rfl rfl rfl rfl) ?_
   rintro _ ⟨v1', _, _, ⟨_, rfl, rfl, rfl⟩, rfl⟩ a' w' hs'
   exact hK a' w' ⟨v1', v2, vs1, hs'.putF (i := 2) rfl [0] [0, 2] rfl rfl rfl rfl⟩
  ·intro L a w hv K Q hK
   obtain ⟨v1, v2, vs1, hs⟩ := hv
   refine wpOp_go rfl rfl hs (OpT_move rfl rfl rfl rfl) ?_
   rintro _ rfl a' w' hs'
   exact hK a' w' ⟨v1, v2, vs1, hs'.putF (i := 3) rfl [0] [0, 1] rfl rfl rfl rfl⟩
  ·intro L a w hv K Q hK
   obtain ⟨v1, v2, vs1, hs⟩ := hv
   refine wpOp_go rfl rfl hs (OpT_lenS rfl rfl rfl rfl Try.underlying38 (i := 0) rfl) ?_
   rintro _ rfl a' w' hs'
   exact hK a' w' ⟨v1, v2, vs1, hs'.putF (i := 4) rfl [0] [0, 1] rfl rfl rfl rfl⟩
  ·intro L a w hv K Q hK
   obtain ⟨v1, v2, vs1, hs⟩ := hv
   refine wpOp_go rfl rfl hs (OpT_move rfl rfl rfl rfl) ?_
   rintro _ rfl a' w' hs'
   exact hK a' w' ⟨v1, v2, vs1, hs'.putF (i := 5) rfl [0] [0, 1] rfl rfl rfl rfl⟩
  ·intro L a w hv K Q hK
   obtain ⟨v1, v2, vs1, hs⟩ := hv
   refine wpOp_go rfl rfl hs (OpT_lenS rfl rfl rfl rfl Try.underlying38 (i := 0) rfl) ?_
   rintro _ rfl a' w' hs'
   exact hK a' w' ⟨v1, v2, vs1, hs'.putF (i := 6) rfl [0] [0, 1] rfl rfl rfl rfl⟩
  ·intro L a w hv K Q hK
   obtain ⟨v1, v2, vs1, hs⟩ := hv
   refine wpOp_go rfl rfl hs (OpT_bin rfl rfl rfl rfl rfl (bin_add_i (a := len l) (b := (1 : Int)))) ?_
   rintro _ rfl a' w' hs'
   exact hK a' w' ⟨v1, v2, vs1, hs'.putF (i := 7) rfl [0] [0, 1] rfl rfl rfl rfl⟩
  ·intro L a w hv K Q hK
   obtain ⟨v1, v2, vs1, hs⟩ := hv
   refine wpOp_go rfl rfl hs (OpT_makeRows u8S rfl rfl rfl rfl rfl slF76 hc1) ?_
   rintro _ ⟨v2', vs1', rfl⟩ a' w' hs'
   exact hK a' w' ⟨v1, v2', vs1', hs'.putF (i := 8) rfl [1] [0, 1] rfl rfl rfl rfl⟩
  ·intro L a w hL hv
   rw [allTrue hL] at hv
   obtain ⟨v1, v2, vs1, hs⟩ := hv
   refine (show TA _ _ _ 8 ⟨[(0, some (vl1)), (14, some (v1)), (20, some (v2))], [some (rowsX u8S true v2 vs1 (List.replicate (Int.toNat (len l)) [] : List (List UInt8)) none)], [Fact.sl RegionS vl1 l, Fact.sl RegionS v1 region1]⟩ from ?_) a w (hs.wkS [0, 14, 20] [0] [0, 1] rfl rfl rfl rfl)
   clear hs hL
   refine TA_step htb (by kernel_rfl) rfl rfl (OpT_build2 (fun z0 z1 => [(0, z0), (1, z1)]) (fun z0 z1 => [z0, z1]) rfl rfl rfl rfl (is_sl (i := 1) rfl) (is_rows (i := 0) rfl) (by intros; kernel_rfl)) ?_
   refine TA_ex htb (by kernel_rfl) rfl rfl (OpT_box rfl rfl rfl rfl) fun b1 => ?_
   refine TA_step htb (by kernel_rfl) rfl rfl (OpT_assign rfl rfl rfl rfl) ?_
   refine TA_end rfl ?_
   refine Tk_wkS (fr' := [(0, some (vl1)), (5, some (.pointer (some ⟨b1, 0, none⟩)))]) (own' := [some (rowsX u8S true v2 vs1 (List.replicate (Int.toNat (len l)) [] : List (List UInt8)) none), some (cellsR b1 78 [v1, v2])]) (shr' := [Fact.sl RegionS vl1 l, Fact.sl RegionS v1 region1]) [0, 5] [0, 1] [0, 1] rfl rfl rfl rfl ?_
   refine Tk_seq (Tk_seq (Tk_region (Tops_step rfl (OpT_move rfl rfl rfl rfl) ?_)))
   refine Tops_step rfl (OpT_lenS rfl rfl rfl rfl Try.underlying38 (i := 0) rfl) ?_
   refine Tops_step rfl (OpT_move rfl rfl rfl rfl) ?_
   refine Tops_nil (Tk_wkS (fr' := [(5, some (.pointer (some ⟨b1, 0, none⟩))), (23, some (vl1)), (24, some (vI (len l))), (25, some (vI (0 : Int)))]) (own' := [some (rowsX u8S true v2 vs1 (List.replicate (Int.toNat (len l)) [] : List (List UInt8)) none), some (cellsR b1 78 [v1, v2])]) (shr' := [Fact.sl RegionS vl1 l, Fact.sl RegionS v1 region1]) [5, 23, 24, 25] [0, 1] [0, 1] rfl rfl rfl rfl ?_)
   refine Tk_block (Tk_loopS (σ := (List (List UInt8)) × Int × Value × (List Value)) [5, 23, 24, 25] [1, 0] [1, 0] (fun s => ⟨[(5, some (.pointer (some ⟨b1, 0, none⟩))), (23, some (vl1)), (24, some (vI (len l))), (25, some (vI s.2.1))], [some (cellsR b1 78 [v1, s.2.2.1]), some (rowsX u8S true s.2.2.1 s.2.2.2 s.1 none)], [Fact.sl RegionS v1 region1, Fact.sl RegionS vl1 l]⟩) (fun nf1 s => gmem_NewL1 l region1 nf1 s.1 s.2.1 = some r) fuel ((List.replicate (Int.toNat (len l)) [] : List (List UInt8)), (0 : Int), v2, vs1) h rfl rfl rfl rfl rfl (fun s h => by cases h) ?_)
   rintro nf1 ⟨rows1, x1, v3, vs2⟩ h
   replace h : gmem_NewL1B l region1 (gmem_NewL1 l region1 nf1) rows1 x1 = some r := h
   unfold gmem_NewL1B at h
   refine Tk_seq (Tk_region (Tops_step rfl (OpT_bin rfl rfl rfl rfl rfl (bin_lss_i (a := x1) (b := len l))) ?_))
   refine Tops_nil (Tk_seq ?_)
   rcases Bool.eq_false_or_eq_true (decide (x1 < (len l))) with hg2 | hg2
   ·replace h := br_t hg2 h
    refine Tk_condT (congrArg (fun b => some (Value.bool b)) hg2) ?_
    refine Tk_skip (Tk_seq (Tk_block (Tk_seq (Tk_region (Tops_step rfl (OpT_move rfl rfl rfl rfl) ?_)))))
    obtain ⟨r1, hx3, h⟩ := ob_e h
    refine Tops_ex rfl (OpT_idxS rfl rfl rfl rfl rfl slF38 (i := 1) rfl hx3) fun p1 => ?_
    refine Tops_step rfl (OpT_loadPA (vs := [vU64 r1.At, vU64 r1.Len]) rfl rfl rfl rfl tyF75 (i := 2) rfl rfl) ?_
    refine Tops_ex rfl (OpT_alloc rfl rfl rfl tyZ75) fun b2 => ?_
    refine Tops_step rfl (OpT_assign rfl rfl rfl rfl) ?_
    refine Tops_step rfl (OpT_storeC (cs' := [vU64 r1.At, vU64 r1.Len]) rfl rfl rfl rfl tyF75 (i := 2) rfl rfl rfl (one_of rfl) rfl) ?_
    refine Tops_nil (Tk_wkS (fr' := [(5, some (.pointer (some ⟨b1, 0, none⟩))), (23, some (vl1)), (24, some (vI (len l))), (25, some (vI x1)), (7, some (.pointer (some ⟨b2, 0, none⟩))), (6, some (vI x1))]) (own' := [some (cellsR b1 78 [v1, v3]), some (rowsX u8S true v3 vs2 rows1 none), some (cellsR b2 75 [vU64 r1.At, vU64 r1.Len])]) (shr' := [Fact.sl RegionS v1 region1, Fact.sl RegionS vl1 l]) [5, 23, 24, 25, 7, 6] [0, 1, 2] [0, 1] rfl rfl rfl rfl ?_)
    refine Tk_drawT (by kernel_rfl) ?_
    refine TA_tb [0, 1, 3, 7, 0, 0, 32, 96, 255, 511] (by kernel_rfl) fun htb => ?_
    obtain ⟨hc2, h⟩ := chk_e h
    refine TA_seg (lo := 0) (hi := 8) htb rfl rfl (by kernel_rfl) (fun c L a w => ∃ (v4 : Value), Sat c ⟨[(5, some (.pointer (some ⟨b1, 0, none⟩))), (23, some (vl1)), (24, some (vI (len l))), (25, some (vI x1)), (7, some (.pointer (some ⟨b2, 0, none⟩))), (6, some (vI x1)), (30, bif L 0 then some (.pointer (some ⟨b1, 0, none⟩)) else none), (31, bif L 1 then some (.pointer (some ⟨b1, 0, none⟩)) else none), (32, bif L 2 then some (.pointer (some ⟨b1, 1, none⟩)) else none), (33, bif L 3 then some (v3) else none), (34, bif L 4 then some (vI x1) else none), (35, bif L 5 then some (.pointer (some ⟨b2, 1, none⟩)) else none), (36, bif L 6 then some (vU64 r1.Len) else none), (37, bif L 7 then some (v4) else none)], [(some (cellsR b1 78 [v1, v3]) : Option Res), (some (rowsX u8S true v3 vs2 rows1 none) : Option Res), (some (cellsR b2 75 [vU64 r1.At, vU64 r1.Len]) : Option Res), (bif L 7 then some (rowS u8S v4 (List.replicate (Int.toNat (r1.Len.toNat : Int)) (0 : UInt8))) else none : Option Res)], [Fact.sl RegionS v1 region1, Fact.sl RegionS vl1 l]⟩ a w) [([], [1, 2, 3]), ([0], [2, 3]), ([0, 1], [3]), ([0, 1, 2], []), ([], []), ([], [6, 7]), ([5], [7]), ([5, 6], [])] rfl (by kernel_rfl) ?_ (steps_cons ?_ (steps_cons ?_ (steps_cons ?_ (steps_cons ?_ (steps_cons ?_ (steps_cons ?_ (steps_cons ?_ (steps_cons ?_ (steps_nil))))))))) ?_
    ·intro a w hs
     exact ⟨undef, hs.startF [30, 31, 32, 33, 34, 35, 36, 37] [0, 1, 2, 3] [0, 1] rfl rfl rfl rfl⟩
    ·intro L a w hv K Q hK
     obtain ⟨v4, hs⟩ := hv
     refine wpOp_go rfl rfl hs (OpT_move rfl rfl rfl rfl) ?_
     rintro _ rfl a' w' hs'
     exact hK a' w' ⟨v4, hs'.putF (i := 6) rfl [0, 1, 2, 3] [0, 1] rfl rfl rfl rfl⟩
    ·intro L a w hv K Q hK
     obtain ⟨v4, hs⟩ := hv
     refine wpOp_go rfl rfl hs (OpT_nilCheckP rfl rfl rfl rfl) ?_
     rintro _ rfl a' w' hs'
     exact hK a' w' ⟨v4, hs'.putF (i := 7) rfl [0, 1, 2, 3] [0, 1] rfl rfl rfl rfl⟩
    ·intro L a w hv K Q hK
     obtain ⟨v4, hs⟩ := hv
     refine wpOp_go rfl rfl hs (OpT_fieldC rfl rfl rfl rfl fldF78x1) ?_
     rintro _ rfl a' w' hs'
     exact hK a' w' ⟨v4, hs'.putF (i := 8) rfl [0, 1, 2, 3] [0, 1] rfl rfl rfl rfl⟩
    ·intro L a w hv K Q hK
     obtain ⟨v4, hs⟩ := hv
     refine wpOp_go rfl rfl hs (OpT_loadC rfl rfl rfl rfl tyF76 (i := 0) rfl rfl) ?_
     rintro _ rfl a' w' hs'
     exact hK a' w' ⟨v4, hs'.putF (i := 9) rfl [0, 1, 2, 3] [0, 1] rfl rfl rfl rfl⟩
    ·intro L a w hv K Q hK
     obtain ⟨v4, hs⟩ := hv
     refine wpOp_go rfl rfl hs (OpT_move rfl rfl rfl rfl) ?_
     rintro _ rfl a' w' hs'
     exact hK a' w' ⟨v4, hs'.putF (i := 10) rfl [0, 1, 2, 3] [0, 1] rfl rfl rfl rfl⟩
    ·intro L a w hv K Q hK
     obtain ⟨v4, hs⟩ := hv
     refine wpOp_go rfl rfl hs (OpT_fieldC rfl rfl rfl rfl fldF75x1) ?_
     rintro _ rfl a' w' hs'
     exact hK a' w' ⟨v4, hs'.putF (i := 11) rfl [0, 1, 2, 3] [0, 1] rfl rfl rfl rfl⟩
    ·intro L a w hv K Q hK
     obtain ⟨v4, hs⟩ := hv
     refine wpOp_go rfl rfl hs (OpT_loadC rfl rfl rfl rfl tyF28 (i := 2) rfl rfl) ?_
     rintro _ rfl a' w' hs'
     exact hK a' w' ⟨v4, hs'.putF (i := 12) rfl [0, 1, 2, 3] [0, 1] rfl rfl rfl rfl⟩
    ·intro L a w hv K Q hK
     obtain ⟨v4, hs⟩ := hv
     refine wpOp_go rfl rfl hs (OpT_makeK u8S rfl (u := (0 : UInt8)) rfl rfl rfl rfl rfl slF24 rfl hc2) ?_
     rintro _ ⟨v4', rfl⟩ a' w' hs'
     exact hK a' w' ⟨v4', hs'.putF (i := 13) rfl [0, 1, 2, 4] [0, 1] rfl rfl rfl rfl⟩
    ·intro L a w hL hv
     rw [allTrue hL] at hv
     obtain ⟨v4, hs⟩ := hv
     refine (show TA _ _ _ 8 ⟨[(5, some (.pointer (some ⟨b1, 0, none⟩))), (23, some (vl1)), (24, some (vI (len l))), (25, some (vI x1)), (33, some (v3)), (34, some (vI x1)), (37, some (v4))], [some (cellsR b1 78 [v1, v3]), some (rowsX u8S true v3 vs2 rows1 none), some (rowS u8S v4 (List.replicate (Int.toNat (r1.Len.toNat : Int)) (0 : UInt8)))], [Fact.sl RegionS v1 region1, Fact.sl RegionS vl1 l]⟩ from ?_) a w (hs.wkS [5, 23, 24, 25, 33, 34, 37] [0, 1, 3] [0, 1] rfl rfl rfl rfl)
     clear hs hL
     obtain ⟨row1, hx4, h⟩ := ob_e h
     refine TA_step htb (by kernel_rfl) rfl rfl (OpT_idxRows rfl rfl rfl rfl rfl slF76 (i := 1) rfl hx4) ?_
     refine TA_ex htb (by kernel_rfl) rfl rfl (OpT_storeRow (m := x1) rfl rfl rfl rfl tyF24 (i := 1) (q := 2) rfl rfl rfl hx4) fun vs3 => ?_
     refine TA_end rfl ?_
     refine Tk_wkS (fr' := [(5, some (.pointer (some ⟨b1, 0, none⟩))), (23, some (vl1)), (24, some (vI (len l))), (25, some (vI x1))]) (own' := [some (cellsR b1 78 [v1, v3]), some (rowsX u8S true v3 vs3 (rows1.set (Int.toNat x1) (List.replicate (Int.toNat (r1.Len.toNat : Int)) (0 : UInt8))) none)]) (shr' := [Fact.sl RegionS v1 region1, Fact.sl RegionS vl1 l]) [5, 23, 24, 25] [0, 1] [0, 1] rfl rfl rfl rfl ?_
     refine Tk_blk (Tk_region (Tops_step rfl (OpT_bin rfl rfl rfl rfl rfl (bin_add_i (a := x1) (b := (1 : Int)))) ?_))
     refine Tops_step rfl (OpT_move rfl rfl rfl rfl) ?_
     refine Tops_nil (Tk_wkS (fr' := [(5, some (.pointer (some ⟨b1, 0, none⟩))), (23, some (vl1)), (24, some (vI (len l))), (25, some (vI (wi (x1 + (1 : Int)))))]) (own' := [some (cellsR b1 78 [v1, v3]), some (rowsX u8S true v3 vs3 (rows1.set (Int.toNat x1) (List.replicate (Int.toNat (r1.Len.toNat : Int)) (0 : UInt8))) none)]) (shr' := [Fact.sl RegionS v1 region1, Fact.sl RegionS vl1 l]) [5, 23, 24, 25] [0, 1] [0, 1] rfl rfl rfl rfl ?_)
     exact Tk_backS (rows1.set (Int.toNat x1) (List.replicate (Int.toNat (r1.Len.toNat : Int)) (0 : UInt8)), wi (x1 + (1 : Int)), v3, vs3) h [5, 23, 24, 25] [0, 1] [0, 1] rfl rfl rfl rfl rfl
   ·replace h := br_f hg2 h
    refine Tk_condF (congrArg (fun b => some (Value.bool b)) hg2) ?_
    refine Tk_exit _ rfl ?_
    refine Tk_seq (Tk_region (Tops_step rfl (OpT_move rfl rfl rfl rfl) ?_))
    refine Tops_step rfl (OpT_assign rfl rfl rfl rfl) ?_
    refine Tops_step rfl (OpT_assign rfl rfl rfl rfl) ?_
    refine Tops_nil (Tk_wkS (fr' := [(2, some (.pointer (some ⟨b1, 0, none⟩))), (3, some (vI (0 : Int)))]) (own' := [some (cellsR b1 78 [v1, v3]), some (rowsX u8S true v3 vs2 rows1 none)]) (shr' := [Fact.sl RegionS v1 region1]) [2, 3] [0, 1] [0] rfl rfl rfl rfl ?_)
    refine Tk_vs (vs_fold (fl := gmem_Mem.l) (fb := gmem_Mem.b) (gmem_Mem.mk region1 rows1) (i := 0) (j := 1) rfl rfl rfl (q := 0) rfl rfl rfl) ?_
    obtain rfl := Option.some.inj h
    exact Tk_retV rfl rfl (resA (vs := [.pointer (some ⟨b1, 0, none⟩), vI (0 : Int)]) rfl ⟨rfl, rfl, trivial⟩) [0] [] rfl rfl rfl ⟨(.pointer (some ⟨b1, 0, none⟩)), rfl, rfl, rfl⟩

set_option maxRecDepth 100000 in
set_option maxHeartbeats 4000000 in
theorem w_gmem_Mem_made {m : gmem_Mem} {b_m : Nat} {vm1 : Value} {vm2 : Value} {vsm1 : List Value} {r : Bool} (h : gmem_Mem_made m = some r) :
  Ctr Try.prog 31 #[.pointer (some ⟨b_m, 0, none⟩)] [(cellsR b_m 78 [vm1, vm2]), (rowsX u8S true vm2 vsm1 m.b none)] [Fact.sl RegionS vm1 m.l]
   (fun rv own shr => rv = vB r ∧ own = [(cellsR b_m 78 [vm1, vm2]), (rowsX u8S true vm2 vsm1 m.b none)] ∧ shr = []) := by
 unfold gmem_Mem_made at h
 refine Ctr.mk (args := [.pointer (some ⟨b_m, 0, none⟩)]) Try.func31 rfl rfl (fun R0 w0 B => ?_)
 refine Tk_seq (Tk_region (Tops_step rfl (OpT_assign rfl rfl rfl rfl) ?_))
 refine Tops_nil (Tk_wkS (fr' := [(0, some (.pointer (some ⟨b_m, 0, none⟩)))]) (own' := [some (cellsR b_m 78 [vm1, vm2]), some (rowsX u8S true vm2 vsm1 m.b none)]) (shr' := [Fact.sl RegionS vm1 m.l]) [0] [0, 1] [0] rfl rfl rfl rfl ?_)
 refine Tk_seq (Tk_region (Tops_step rfl (OpT_move rfl rfl rfl rfl) ?_))
 refine Tops_step rfl (OpT_ptrNil rfl rfl rfl (.inr rfl) rfl rfl ptrF35) ?_
 refine Tops_step rfl (OpT_move rfl rfl rfl rfl) ?_
 refine Tops_yes rfl rfl rfl (OpT_move rfl rfl rfl rfl) ?_
 rintro _ rfl
 refine Tops_yes rfl rfl rfl (OpT_nilCheckP rfl rfl rfl rfl) ?_
 rintro _ rfl
 refine Tops_yes rfl rfl rfl (OpT_fieldC rfl rfl rfl rfl fldF78x1) ?_
 rintro _ rfl
 refine Tops_yes rfl rfl rfl (OpT_loadC rfl rfl rfl rfl tyF76 (i := 0) rfl rfl) ?_
 rintro _ rfl
 refine Tops_yes rfl rfl rfl (OpT_eqRows rfl rfl rfl (.inr rfl) rfl rfl Try.underlying76 (i := 1) rfl) ?_
 rintro _ rfl
 refine Tops_step rfl (OpT_pickT rfl rfl rfl rfl rfl) ?_
 refine Tops_step rfl (OpT_assign rfl rfl rfl rfl) ?_
 refine Tops_nil (Tk_wkS (fr' := [(2, some (vB true))]) (own' := [some (cellsR b_m 78 [vm1, vm2]), some (rowsX u8S true vm2 vsm1 m.b none)]) (shr' := [Fact.sl RegionS vm1 m.l]) [2] [0, 1] [0] rfl rfl rfl rfl ?_)
 obtain rfl := Option.some.inj h
 exact Tk_retV rfl rfl (resA (vs := [vB true]) rfl ⟨rfl, trivial⟩) [0, 1] [] rfl rfl rfl ⟨rfl, rfl, rfl⟩

set_option maxRecDepth 100000 in
set_option maxHeartbeats 4000000 in
theorem w_gmem_Mem_bytes_1 {ip0 : Int} {arg1 : gmem_Mem} {arg2 : UInt64} {b_arg1 : Nat} {varg11 : Value} {varg12 : Value} {vsarg11 : List Value} {bb_arg1 : Nat} {b_arg2 : Nat} {r : Bool} (h : gmem_Mem_bytes_1 ip0 arg1 arg2 = some r) :
  Ctr Try.prog 46 #[vI ip0, .pointer (some ⟨bb_arg1, 0, none⟩), .pointer (some ⟨b_arg2, 0, none⟩)] [(cellsR bb_arg1 35 [.pointer (some ⟨b_arg1, 0, none⟩)]), (cellsR b_arg1 78 [varg11, varg12]), (rowsX u8S true varg12 vsarg11 arg1.b none), (cellsR b_arg2 28 [vU64 arg2])] [Fact.sl RegionS varg11 arg1.l]
   (fun rv own shr => rv = vB r ∧ own = [(cellsR bb_arg1 35 [.pointer (some ⟨b_arg1, 0, none⟩)]), (cellsR b_arg1 78 [varg11, varg12]), (rowsX u8S true varg12 vsarg11 arg1.b none), (cellsR b_arg2 28 [vU64 arg2])] ∧ shr = []) := by
 unfold gmem_Mem_bytes_1 at h
 refine Ctr.mk (args := [vI ip0, .pointer (some ⟨bb_arg1, 0, none⟩), .pointer (some ⟨b_arg2, 0, none⟩)]) Try.func46 rfl rfl (fun R0 w0 B => ?_)
 refine Tk_seq (Tk_region (Tops_step rfl (OpT_assign rfl rfl rfl rfl) ?_))
 refine Tops_nil (Tk_wkS (fr' := [(0, some (vI ip0)), (1, some (.pointer (some ⟨bb_arg1, 0, none⟩))), (2, some (.pointer (some ⟨b_arg2, 0, none⟩)))]) (own' := [some (cellsR bb_arg1 35 [.pointer (some ⟨b_arg1, 0, none⟩)]), some (cellsR b_arg1 78 [varg11, varg12]), some (rowsX u8S true varg12 vsarg11 arg1.b none), some (cellsR b_arg2 28 [vU64 arg2])]) (shr' := [Fact.sl RegionS varg11 arg1.l]) [0, 1, 2] [0, 1, 2, 3] [0] rfl rfl rfl rfl ?_)
 refine Tk_seq (Tk_drawT (by kernel_rfl) ?_)
 refine TA_tb [0, 1, 3, 7, 0, 31, 63, 127, 255, 0, 512, 1536, 3584, 0, 15872, 32256, 65024, 131071, 0, 524287, 1048575] (by kernel_rfl) fun htb => ?_
 obtain ⟨r1, hx1, h⟩ := ob_e h
 obtain ⟨r2, hx2, h⟩ := ob_e h
 refine TA_seg (lo := 0) (hi := 19) htb rfl rfl (by kernel_rfl) (fun c L a w => ∃ (p1 : Value), ∃ (p2 : Value), ∃ (p3 : Value), ∃ (p4 : Value), Sat c ⟨[(0, some (vI ip0)), (1, some (.pointer (some ⟨bb_arg1, 0, none⟩))), (2, some (.pointer (some ⟨b_arg2, 0, none⟩))), (5, bif L 0 then some (.pointer (some ⟨b_arg1, 0, none⟩)) else none), (6, bif L 1 then some (.pointer (some ⟨b_arg1, 0, none⟩)) else none), (7, bif L 2 then some (.pointer (some ⟨b_arg1, 0, none⟩)) else none), (8, bif L 3 then some (varg11) else none), (9, bif L 4 then some (vI ip0) else none), (10, bif L 5 then some (p1) else none), (11, bif L 6 then some (p2) else none), (12, bif L 7 then some (vU64 r1.Len) else none), (13, bif L 8 then some (vU64 (r1.Len - (1 : UInt64))) else none), (14, bif L 9 then some (.pointer (some ⟨b_arg1, 0, none⟩)) else none), (15, bif L 10 then some (.pointer (some ⟨b_arg1, 0, none⟩)) else none), (16, bif L 11 then some (.pointer (some ⟨b_arg1, 0, none⟩)) else none), (17, bif L 12 then some (varg11) else none), (18, bif L 13 then some (vI ip0) else none), (19, bif L 14 then some (p3) else none), (20, bif L 15 then some (p4) else none), (21, bif L 16 then some (vU64 r2.At) else none), (22, bif L 17 then some (vU64 ((r1.Len - (1 : UInt64)) + r2.At)) else none), (23, bif L 18 then some (vU64 arg2) else none)], [(some (cellsR bb_arg1 35 [.pointer (some ⟨b_arg1, 0, none⟩)]) : Option Res), (some (cellsR b_arg1 78 [varg11, varg12]) : Option Res), (some (rowsX u8S true varg12 vsarg11 arg1.b none) : Option Res), (some (cellsR b_arg2 28 [vU64 arg2]) : Option Res)], [Fact.sl RegionS varg11 arg1.l, (bif L 5 then Fact.pt RegionS p1 r1 else Fact.tt), (bif L 6 then Fact.pt u64S p2 r1.Len else Fact.tt), (bif L 14 then Fact.pt RegionS p3 r2 else Fact.tt), (bif L 15 then Fact.pt u64S p4 r2.At else Fact.tt)]⟩ a w) [([], [1, 2, 3, 5, 6, 7, 8, 17]), ([0], [2, 3, 5, 6, 7, 8, 17]), ([0, 1], [3, 5, 6, 7, 8, 17]), ([0, 1, 2], [5, 6, 7, 8, 17]), ([], [5, 6, 7, 8, 17]), ([0, 1, 2, 3, 4], [6, 7, 8, 17]), ([0, 1, 2, 3, 4, 5], [7, 8, 17]), ([0, 1, 2, 3, 4, 5, 6], [8, 17]), ([0, 1, 2, 3, 4, 5, 6, 7], [17]), ([], [10, 11, 12, 14, 15, 16, 17]), ([9], [11, 12, 14, 15, 16, 17]), ([9, 10], [12, 14, 15, 16, 17]), ([9, 10, 11], [14, 15, 16, 17]), ([], [14, 15, 16, 17]), ([9, 10, 11, 12, 13], [15, 16, 17]), ([9, 10, 11, 12, 13, 14], [16, 17]), ([9, 10, 11, 12, 13, 14, 15], [17]), ([0, 1, 2, 3, 4, 5, 6, 7, 8, 9, 10, 11, 12, 13, 14, 15, 16], []), ([], [])] rfl (by kernel_rfl) ?_ (steps_cons ?_ (steps_cons ?_ (steps_cons ?_ (steps_cons ?_ (steps_cons ?_ (steps_cons ?_ (steps_cons ?_ (steps_cons ?_ (steps_cons ?_ (steps_cons ?_ (steps_cons ?_ (steps_cons ?_ (steps_cons ?_ (steps_cons ?_ (steps_cons ?_ (steps_cons ?_ (steps_cons ?_ (steps_cons ?_ (steps_cons ?_ (steps_nil)))))))))))))))))))) ?_
 ·intro a w hs
  exact ⟨undef, undef, undef, undef, hs.startF [5, 6, 7, 8, 9, 10, 11, 12, 13, 14, 15, 16, 17, 18, 19, 20, 21, 22, 23] [0, 1, 2, 3] [0, 1, 2, 3, 4] rfl rfl rfl rfl⟩
 ·intro L a w hv K Q hK
  obtain ⟨p1, p2, p3, p4, hs⟩ := hv
  refine wpOp_go rfl rfl hs (OpT_loadC rfl rfl rfl rfl tyF35 (i := 0) rfl rfl) ?_
  rintro _ rfl a' w' hs'
  exact hK a' w' ⟨p1, p2, p3, p4, hs'.putF (i := 3) rfl [0, 1, 2, 3] [0, 1, 2, 3, 4] rfl rfl rfl rfl⟩
 ·intro L a w hv K Q hK
  obtain ⟨p1, p2, p3, p4, hs⟩ := hv
  refine wpOp_go rfl rfl hs (OpT_nilCheckP rfl rfl rfl rfl) ?_
  rintro _ rfl a' w' hs'
  exact hK a' w' ⟨p1, p2, p3, p4, hs'.putF (i := 4) rfl [0, 1, 2, 3] [0, 1, 2, 3, 4] rfl rfl rfl rfl⟩
 ·intro L a w hv K Q hK
  obtain ⟨p1, p2, p3, p4, hs⟩ := hv
  refine wpOp_go rfl rfl hs (OpT_fieldC rfl rfl rfl rfl fldF78x0) ?_
  rintro _ rfl a' w' hs'
  exact hK a' w' ⟨p1, p2, p3, p4, hs'.putF (i := 5) rfl [0, 1, 2, 3] [0, 1, 2, 3, 4] rfl rfl rfl rfl⟩
 ·intro L a w hv K Q hK
  obtain ⟨p1, p2, p3, p4, hs⟩ := hv
  refine wpOp_go rfl rfl hs (OpT_loadC rfl rfl rfl rfl tyF38 (i := 1) rfl rfl) ?_
  rintro _ rfl a' w' hs'
  exact hK a' w' ⟨p1, p2, p3, p4, hs'.putF (i := 6) rfl [0, 1, 2, 3] [0, 1, 2, 3, 4] rfl rfl rfl rfl⟩
 ·intro L a w hv K Q hK
  obtain ⟨p1, p2, p3, p4, hs⟩ := hv
  refine wpOp_go rfl rfl hs (OpT_move rfl rfl rfl rfl) ?_
  rintro _ rfl a' w' hs'
  exact hK a' w' ⟨p1, p2, p3, p4, hs'.putF (i := 7) rfl [0, 1, 2, 3] [0, 1, 2, 3, 4] rfl rfl rfl rfl⟩
 ·intro L a w hv K Q hK
  obtain ⟨p1, p2, p3, p4, hs⟩ := hv
  refine wpOp_go rfl rfl hs (OpT_idxS rfl rfl rfl rfl rfl slF38 (i := 0) rfl hx1) ?_
  rintro _ ⟨p1', rfl⟩ a' w' hs'
  exact hK a' w' ⟨p1', p2, p3, p4, hs'.putF (i := 8) rfl [0, 1, 2, 3] [0, 5, 2, 3, 4] rfl rfl rfl rfl⟩
 ·intro L a w hv K Q hK
  obtain ⟨p1, p2, p3, p4, hs⟩ := hv
  refine wpOp_go rfl rfl hs (OpT_fieldP (S' := u64S) (y := r1.Len) rfl rfl rfl rfl fldF75x1 (i := 1) rfl (by intro h cs hr; subst hr; rfl)) ?_
  rintro _ ⟨p2', rfl⟩ a' w' hs'
  exact hK a' w' ⟨p1, p2', p3, p4, hs'.putF (i := 9) rfl [0, 1, 2, 3] [0, 1, 5, 3, 4] rfl rfl rfl rfl⟩
 ·intro L a w hv K Q hK
  obtain ⟨p1, p2, p3, p4, hs⟩ := hv
  refine wpOp_go rfl rfl hs (OpT_loadP rfl rfl rfl rfl tyF28 (i := 2) rfl rfl) ?_
  rintro _ rfl a' w' hs'
  exact hK a' w' ⟨p1, p2, p3, p4, hs'.putF (i := 10) rfl [0, 1, 2, 3] [0, 1, 2, 3, 4] rfl rfl rfl rfl⟩
 ·intro L a w hv K Q hK
  obtain ⟨p1, p2, p3, p4, hs⟩ := hv
  refine wpOp_go rfl rfl hs (OpT_bin rfl rfl rfl rfl rfl (bin_sub_u64 (a := r1.Len) (b := (1 : UInt64)))) ?_
  rintro _ rfl a' w' hs'
  exact hK a' w' ⟨p1, p2, p3, p4, hs'.putF (i := 11) rfl [0, 1, 2, 3] [0, 1, 2, 3, 4] rfl rfl rfl rfl⟩
 ·intro L a w hv K Q hK
  obtain ⟨p1, p2, p3, p4, hs⟩ := hv
  refine wpOp_go rfl rfl hs (OpT_loadC rfl rfl rfl rfl tyF35 (i := 0) rfl rfl) ?_
  rintro _ rfl a' w' hs'
  exact hK a' w' ⟨p1, p2, p3, p4, hs'.putF (i := 12) rfl [0, 1, 2, 3] [0, 1, 2, 3, 4] rfl rfl rfl rfl⟩
 ·intro L a w hv K Q hK
  obtain ⟨p1, p2, p3, p4, hs⟩ := hv
  refine wpOp_go rfl rfl hs (OpT_nilCheckP rfl rfl rfl rfl) ?_
  rintro _ rfl a' w' hs'
  exact hK a' w' ⟨p1, p2, p3, p4, hs'.putF (i := 13) rfl [0, 1, 2, 3] [0, 1, 2, 3, 4] rfl rfl rfl rfl⟩
 ·intro L a w hv K Q hK
  obtain ⟨p1, p2, p3, p4, hs⟩ := hv
  refine wpOp_go rfl rfl hs (OpT_fieldC rfl rfl rfl rfl fldF78x0) ?_
  rintro _ rfl a' w' hs'
  exact hK a' w' ⟨p1, p2, p3, p4, hs'.putF (i := 14) rfl [0, 1, 2, 3] [0, 1, 2, 3, 4] rfl rfl rfl rfl⟩
 ·intro L a w hv K Q hK
  obtain ⟨p1, p2, p3, p4, hs⟩ := hv
  refine wpOp_go rfl rfl hs (OpT_loadC rfl rfl rfl rfl tyF38 (i := 1) rfl rfl) ?_
  rintro _ rfl a' w' hs'
  exact hK a' w' ⟨p1, p2, p3, p4, hs'.putF (i := 15) rfl [0, 1, 2, 3] [0, 1, 2, 3, 4] rfl rfl rfl rfl⟩
 ·intro L a w hv K Q hK
  obtain ⟨p1, p2, p3, p4, hs⟩ := hv
  refine wpOp_go rfl rfl hs (OpT_move rfl rfl rfl rfl) ?_
  rintro _ rfl a' w' hs'
  exact hK a' w' ⟨p1, p2, p3, p4, hs'.putF (i := 16) rfl [0, 1, 2, 3] [0, 1, 2, 3, 4] rfl rfl rfl rfl⟩
 ·intro L a w hv K Q hK
  obtain ⟨p1, p2, p3, p4, hs⟩ := hv
  refine wpOp_go rfl rfl hs (OpT_idxS rfl rfl rfl rfl rfl slF38 (i := 0) rfl hx2) ?_
  rintro _ ⟨p3', rfl⟩ a' w' hs'
  exact hK a' w' ⟨p1, p2, p3', p4, hs'.putF (i := 17) rfl [0, 1, 2, 3] [0, 1, 2, 5, 4] rfl rfl rfl rfl⟩
 ·intro L a w hv K Q hK
  obtain ⟨p1, p2, p3, p4, hs⟩ := hv
  refine wpOp_go rfl rfl hs (OpT_fieldP (S' := u64S) (y := r2.At) rfl rfl rfl rfl fldF75x0 (i := 3) rfl (by intro h cs hr; subst hr; rfl)) ?_
  rintro _ ⟨p4', rfl⟩ a' w' hs'
  exact hK a' w' ⟨p1, p2, p3, p4', hs'.putF (i := 18) rfl [0, 1, 2, 3] [0, 1, 2, 3, 5] rfl rfl rfl rfl⟩
 ·intro L a w hv K Q hK
  obtain ⟨p1, p2, p3, p4, hs⟩ := hv
  refine wpOp_go rfl rfl hs (OpT_loadP rfl rfl rfl rfl tyF28 (i := 4) rfl rfl) ?_
  rintro _ rfl a' w' hs'
  exact hK a' w' ⟨p1, p2, p3, p4, hs'.putF (i := 19) rfl [0, 1, 2, 3] [0, 1, 2, 3, 4] rfl rfl rfl rfl⟩
 ·intro L a w hv K Q hK
  obtain ⟨p1, p2, p3, p4, hs⟩ := hv
  refine wpOp_go rfl rfl hs (OpT_bin rfl rfl rfl rfl rfl (bin_add_u64 (a := r1.Len - (1 : UInt64)) (b := r2.At))) ?_
  rintro _ rfl a' w' hs'
  exact hK a' w' ⟨p1, p2, p3, p4, hs'.putF (i := 20) rfl [0, 1, 2, 3] [0, 1, 2, 3, 4] rfl rfl rfl rfl⟩
 ·intro L a w hv K Q hK
  obtain ⟨p1, p2, p3, p4, hs⟩ := hv
  refine wpOp_go rfl rfl hs (OpT_loadC rfl rfl rfl rfl tyF28 (i := 3) rfl rfl) ?_
  rintro _ rfl a' w' hs'
  exact hK a' w' ⟨p1, p2, p3, p4, hs'.putF (i := 21) rfl [0, 1, 2, 3] [0, 1, 2, 3, 4] rfl rfl rfl rfl⟩
 ·intro L a w hL hv
  rw [allTrue hL] at hv
  obtain ⟨p1, p2, p3, p4, hs⟩ := hv
  refine (show TA _ _ _ 19 ⟨[(22, some (vU64 ((r1.Len - (1 : UInt64)) + r2.At))), (23, some (vU64 arg2))], [some (cellsR bb_arg1 35 [.pointer (some ⟨b_arg1, 0, none⟩)]), some (cellsR b_arg1 78 [varg11, varg12]), some (rowsX u8S true varg12 vsarg11 arg1.b none), some (cellsR b_arg2 28 [vU64 arg2])], [Fact.sl RegionS varg11 arg1.l]⟩ from ?_) a w (hs.wkS [22, 23] [0, 1, 2, 3] [0] rfl rfl rfl rfl)
  clear hs hL
  refine TA_step htb (by kernel_rfl) rfl rfl (OpT_bin rfl rfl rfl rfl rfl (bin_geq_u64 (a := (r1.Len - (1 : UInt64)) + r2.At) (b := arg2))) ?_
  refine TA_step htb (by kernel_rfl) rfl rfl (OpT_assign rfl rfl rfl rfl) ?_
  refine TA_end rfl ?_
  refine Tk_wkS (fr' := [(4, some (vB (decide (((r1.Len - (1 : UInt64)) + r2.At) ≥ arg2))))]) (own' := [some (cellsR bb_arg1 35 [.pointer (some ⟨b_arg1, 0, none⟩)]), some (cellsR b_arg1 78 [varg11, varg12]), some (rowsX u8S true varg12 vsarg11 arg1.b none), some (cellsR b_arg2 28 [vU64 arg2])]) (shr' := [Fact.sl RegionS varg11 arg1.l]) [4] [0, 1, 2, 3] [0] rfl rfl rfl rfl ?_
  obtain rfl := Option.some.inj h
  exact Tk_retV rfl rfl (resA (vs := [vB (decide (((r1.Len - (1 : UInt64)) + r2.At) ≥ arg2))]) rfl ⟨rfl, trivial⟩) [0, 1, 2, 3] [] rfl rfl rfl ⟨rfl, rfl, rfl⟩

set_option maxRecDepth 100000 in
set_option maxHeartbeats 4000000 in
theorem w_sort_SearchFgmem_Mem_bytes_1 {np0 : Int} {fc0 : gmem_Mem} {fc1 : UInt64} {b_fc0 : Nat} {vfc01 : Value} {vfc02 : Value} {vsfc01 : List Value} {bb_fc0 : Nat} {b_fc1 : Nat} {r : Int} (h : sort_SearchFgmem_Mem_bytes_1 np0 fc0 fc1 = some r) :
  Ctr Try.prog 45 #[vI np0, .func (.func 46) #[] #[.pointer (some ⟨bb_fc0, 0, none⟩), .pointer (some ⟨b_fc1, 0, none⟩)]] [(cellsR bb_fc0 35 [.pointer (some ⟨b_fc0, 0, none⟩)]), (cellsR b_fc0 78 [vfc01, vfc02]), (rowsX u8S true vfc02 vsfc01 fc0.b none), (cellsR b_fc1 28 [vU64 fc1])] [Fact.sl RegionS vfc01 fc0.l]
   (fun rv own shr => rv = vI r ∧ own = [(cellsR bb_fc0 35 [.pointer (some ⟨b_fc0, 0, none⟩)]), (cellsR b_fc0 78 [vfc01, vfc02]), (rowsX u8S true vfc02 vsfc01 fc0.b none), (cellsR b_fc1 28 [vU64 fc1])] ∧ shr = []) := by
 unfold sort_SearchFgmem_Mem_bytes_1 at h
 refine Ctr.mk (args := [vI np0, .func (.func 46) #[] #[.pointer (some ⟨bb_fc0, 0, none⟩), .pointer (some ⟨b_fc1, 0, none⟩)]]) Try.func45 rfl rfl (fun R0 w0 B => ?_)
 refine Tk_seq (Tk_region (Tops_step rfl (OpT_assign rfl rfl rfl rfl) ?_))
 refine Tops_nil (Tk_wkS (fr' := [(0, some (vI np0)), (1, some (.func (.func 46) #[] #[.pointer (some ⟨bb_fc0, 0, none⟩), .pointer (some ⟨b_fc1, 0, none⟩)]))]) (own' := [some (cellsR bb_fc0 35 [.pointer (some ⟨b_fc0, 0, none⟩)]), some (cellsR b_fc0 78 [vfc01, vfc02]), some (rowsX u8S true vfc02 vsfc01 fc0.b none), some (cellsR b_fc1 28 [vU64 fc1])]) (shr' := [Fact.sl RegionS vfc01 fc0.l]) [0, 1] [0, 1, 2, 3] [0] rfl rfl rfl rfl ?_)
 refine Tk_seq (Tk_region (Tops_step rfl (OpT_move rfl rfl rfl rfl) ?_))
 refine Tops_step rfl (OpT_assign rfl rfl rfl rfl) ?_
 refine Tops_step rfl (OpT_assign rfl rfl rfl rfl) ?_
 refine Tops_nil (Tk_wkS (fr' := [(1, some (.func (.func 46) #[] #[.pointer (some ⟨bb_fc0, 0, none⟩), .pointer (some ⟨b_fc1, 0, none⟩)])), (5, some (vI (0 : Int))), (6, some (vI np0))]) (own' := [some (cellsR bb_fc0 35 [.pointer (some ⟨b_fc0, 0, none⟩)]), some (cellsR b_fc0 78 [vfc01, vfc02]), some (rowsX u8S true vfc02 vsfc01 fc0.b none), some (cellsR b_fc1 28 [vU64 fc1])]) (shr' := [Fact.sl RegionS vfc01 fc0.l]) [1, 5, 6] [0, 1, 2, 3] [0] rfl rfl rfl rfl ?_)
 refine Tk_seq (Tk_block (Tk_loopS (σ := Int × Int) [1, 5, 6] [0, 1, 2, 3] [0] (fun s => ⟨[(1, some (.func (.func 46) #[] #[.pointer (some ⟨bb_fc0, 0, none⟩), .pointer (some ⟨b_fc1, 0, none⟩)])), (5, some (vI s.1)), (6, some (vI s.2))], [some (cellsR bb_fc0 35 [.pointer (some ⟨b_fc0, 0, none⟩)]), some (cellsR b_fc0 78 [vfc01, vfc02]), some (rowsX u8S true vfc02 vsfc01 fc0.b none), some (cellsR b_fc1 28 [vU64 fc1])], [Fact.sl RegionS vfc01 fc0.l]⟩) (fun nf1 s => sort_SearchFgmem_Mem_bytes_1L1 fc0 fc1 nf1 s.1 s.2 = some r) fuel ((0 : Int), np0) h rfl rfl rfl rfl rfl (fun s h => by cases h) ?_))
 rintro nf1 ⟨i1, j1⟩ h
 replace h : sort_SearchFgmem_Mem_bytes_1L1B fc0 fc1 (sort_SearchFgmem_Mem_bytes_1L1 fc0 fc1 nf1) i1 j1 = some r := h
 unfold sort_SearchFgmem_Mem_bytes_1L1B at h
 refine Tk_seq (Tk_seq (Tk_region (Tops_step rfl (OpT_move rfl rfl rfl rfl) ?_)))
 refine Tops_step rfl (OpT_move rfl rfl rfl rfl) ?_
 refine Tops_step rfl (OpT_bin rfl rfl rfl rfl rfl (bin_lss_i (a := i1) (b := j1))) ?_
 refine Tops_nil (Tk_wkS (fr' := [(1, some (.func (.func 46) #[] #[.pointer (some ⟨bb_fc0, 0, none⟩), .pointer (some ⟨b_fc1, 0, none⟩)])), (5, some (vI i1)), (6, some (vI j1)), (11, some (vB (decide (i1 < j1))))]) (own' := [some (cellsR bb_fc0 35 [.pointer (some ⟨b_fc0, 0, none⟩)]), some (cellsR b_fc0 78 [vfc01, vfc02]), some (rowsX u8S true vfc02 vsfc01 fc0.b none), some (cellsR b_fc1 28 [vU64 fc1])]) (shr' := [Fact.sl RegionS vfc01 fc0.l]) [1, 5, 6, 11] [0, 1, 2, 3] [0] rfl rfl rfl rfl ?_)
 rcases Bool.eq_false_or_eq_true (decide (i1 < j1)) with hg1 | hg1
 ·replace h := br_t hg1 h
  refine Tk_condT (congrArg (fun b => some (Value.bool b)) hg1) ?_
  refine Tk_skip (Tk_block (Tk_seq (Tk_region (Tops_step rfl (OpT_move rfl rfl rfl rfl) ?_))))
  refine Tops_step rfl (OpT_move rfl rfl rfl rfl) ?_
  refine Tops_step rfl (OpT_bin rfl rfl rfl rfl rfl (bin_add_i (a := i1) (b := j1))) ?_
  refine Tops_step rfl (OpT_cnv rfl rfl rfl rfl (cnv_i_u64 (n := wi (i1 + j1)) Try.underlying3 Try.underlying47)) ?_
  refine Tops_step rfl (OpT_bin rfl rfl rfl rfl rfl (bin_shr_u64_u64 (a := u64 (wi (i1 + j1))) (n := (1 : UInt64)))) ?_
  refine Tops_step rfl (OpT_cnv rfl rfl rfl rfl (cnv_u64_i (n := shr64 (u64 (wi (i1 + j1))) ((1 : UInt64).toNat)) Try.underlying47 Try.underlying3)) ?_
  refine Tops_step rfl (OpT_assign rfl rfl rfl rfl) ?_
  refine Tops_nil (Tk_wkS (fr' := [(1, some (.func (.func 46) #[] #[.pointer (some ⟨bb_fc0, 0, none⟩), .pointer (some ⟨b_fc1, 0, none⟩)])), (5, some (vI i1)), (6, some (vI j1)), (7, some (vI (i64 (shr64 (u64 (wi (i1 + j1))) ((1 : UInt64).toNat)))))]) (own' := [some (cellsR bb_fc0 35 [.pointer (some ⟨b_fc0, 0, none⟩)]), some (cellsR b_fc0 78 [vfc01, vfc02]), some (rowsX u8S true vfc02 vsfc01 fc0.b none), some (cellsR b_fc1 28 [vU64 fc1])]) (shr' := [Fact.sl RegionS vfc01 fc0.l]) [1, 5, 6, 7] [0, 1, 2, 3] [0] rfl rfl rfl rfl ?_)
  refine Tk_seq (Tk_region (Tops_step rfl (OpT_move rfl rfl rfl rfl) ?_))
  refine Tops_step rfl (OpT_move rfl rfl rfl rfl) ?_
  obtain ⟨bytes1, hx1, h⟩ := ob_e h
  refine Tops_exP rfl (OpT_callP [4, 5, 6, 7] (w_gmem_Mem_bytes_1 hx1) [0, 1, 2, 3] [0] rfl rfl rfl rfl rfl callee46 rfl rfl rfl rfl rfl) ?_
  rintro _ ⟨_, _, _, ⟨rfl, rfl, rfl⟩, rfl⟩
  refine Tops_step rfl (OpT_not rfl rfl rfl rfl) ?_
  refine Tops_nil (Tk_wkS (fr' := [(1, some (.func (.func 46) #[] #[.pointer (some ⟨bb_fc0, 0, none⟩), .pointer (some ⟨b_fc1, 0, none⟩)])), (5, some (vI i1)), (6, some (vI j1)), (7, some (vI (i64 (shr64 (u64 (wi (i1 + j1))) ((1 : UInt64).toNat))))), (21, some (vB (!bytes1)))]) (own' := [some (cellsR bb_fc0 35 [.pointer (some ⟨b_fc0, 0, none⟩)]), some (cellsR b_fc0 78 [vfc01, vfc02]), some (rowsX u8S true vfc02 vsfc01 fc0.b none), some (cellsR b_fc1 28 [vU64 fc1])]) (shr' := [Fact.sl RegionS vfc01 fc0.l]) [1, 5, 6, 7, 21] [0, 1, 2, 3] [0] rfl rfl rfl rfl ?_)
  rcases Bool.eq_false_or_eq_true ((!bytes1)) with hg2 | hg2
  ·replace h := br_t hg2 h
   refine Tk_condT (congrArg (fun b => some (Value.bool b)) hg2) ?_
   refine Tk_region (Tops_step rfl (OpT_move rfl rfl rfl rfl) ?_)
   refine Tops_step rfl (OpT_bin rfl rfl rfl rfl rfl (bin_add_i (a := i64 (shr64 (u64 (wi (i1 + j1))) ((1 : UInt64).toNat))) (b := (1 : Int)))) ?_
   refine Tops_step rfl (OpT_assign rfl rfl rfl rfl) ?_
   refine Tops_nil (Tk_wkS (fr' := [(1, some (.func (.func 46) #[] #[.pointer (some ⟨bb_fc0, 0, none⟩), .pointer (some ⟨b_fc1, 0, none⟩)])), (5, some (vI (wi ((i64 (shr64 (u64 (wi (i1 + j1))) ((1 : UInt64).toNat))) + (1 : Int))))), (6, some (vI j1))]) (own' := [some (cellsR bb_fc0 35 [.pointer (some ⟨b_fc0, 0, none⟩)]), some (cellsR b_fc0 78 [vfc01, vfc02]), some (rowsX u8S true vfc02 vsfc01 fc0.b none), some (cellsR b_fc1 28 [vU64 fc1])]) (shr' := [Fact.sl RegionS vfc01 fc0.l]) [1, 5, 6] [0, 1, 2, 3] [0] rfl rfl rfl rfl ?_)
   refine Tk_blk ?_
   exact Tk_backS (wi ((i64 (shr64 (u64 (wi (i1 + j1))) ((1 : UInt64).toNat))) + (1 : Int)), j1) h [1, 5, 6] [0, 1, 2, 3] [0] rfl rfl rfl rfl rfl
  ·replace h := br_f hg2 h
   refine Tk_condF (congrArg (fun b => some (Value.bool b)) hg2) ?_
   refine Tk_region (Tops_step rfl (OpT_move rfl rfl rfl rfl) ?_)
   refine Tops_step rfl (OpT_assign rfl rfl rfl rfl) ?_
   refine Tops_nil (Tk_wkS (fr' := [(1, some (.func (.func 46) #[] #[.pointer (some ⟨bb_fc0, 0, none⟩), .pointer (some ⟨b_fc1, 0, none⟩)])), (5, some (vI i1)), (6, some (vI (i64 (shr64 (u64 (wi (i1 + j1))) ((1 : UInt64).toNat)))))]) (own' := [some (cellsR bb_fc0 35 [.pointer (some ⟨b_fc0, 0, none⟩)]), some (cellsR b_fc0 78 [vfc01, vfc02]), some (rowsX u8S true vfc02 vsfc01 fc0.b none), some (cellsR b_fc1 28 [vU64 fc1])]) (shr' := [Fact.sl RegionS vfc01 fc0.l]) [1, 5, 6] [0, 1, 2, 3] [0] rfl rfl rfl rfl ?_)
   refine Tk_blk ?_
   exact Tk_backS (i1, i64 (shr64 (u64 (wi (i1 + j1))) ((1 : UInt64).toNat))) h [1, 5, 6] [0, 1, 2, 3] [0] rfl rfl rfl rfl rfl
 ·replace h := br_f hg1 h
  refine Tk_condF (congrArg (fun b => some (Value.bool b)) hg1) ?_
  refine Tk_exit _ rfl ?_
  refine Tk_seq (Tk_region (Tops_step rfl (OpT_move rfl rfl rfl rfl) ?_))
  refine Tops_step rfl (OpT_assign rfl rfl rfl rfl) ?_
  refine Tops_nil (Tk_wkS (fr' := [(4, some (vI i1))]) (own' := [some (cellsR bb_fc0 35 [.pointer (some ⟨b_fc0, 0, none⟩)]), some (cellsR b_fc0 78 [vfc01, vfc02]), some (rowsX u8S true vfc02 vsfc01 fc0.b none), some (cellsR b_fc1 28 [vU64 fc1])]) (shr' := [Fact.sl RegionS vfc01 fc0.l]) [4] [0, 1, 2, 3] [0] rfl rfl rfl rfl ?_)
  obtain rfl := Option.some.inj h
  exact Tk_retV rfl rfl (resA (vs := [vI i1]) rfl ⟨rfl, trivial⟩) [0, 1, 2, 3] [] rfl rfl rfl ⟨rfl, rfl, rfl⟩

set_option maxRecDepth 100000 in
set_option maxHeartbeats 4000000 in
theorem w_gmem_Mem_bytes {m : gmem_Mem} {atp1 : UInt64} {np2 : UInt64} {b_m : Nat} {vm1 : Value} {vm2 : Value} {vsm1 : List Value} {r : (Option (Int × Int × Int))} (h : gmem_Mem_bytes m atp1 np2 = some r) :
  Ctr Try.prog 32 #[.pointer (some ⟨b_m, 0, none⟩), vU64 atp1, vU64 np2] [(cellsR b_m 78 [vm1, vm2]), (rowsX u8S true vm2 vsm1 m.b none)] [Fact.sl RegionS vm1 m.l]
   (fun rv own shr => rv = winV 1 vsm1 r ∧ own = [(cellsR b_m 78 [vm1, vm2]), (rowsX u8S true vm2 vsm1 m.b none)] ∧ shr = []) := by
 unfold gmem_Mem_bytes at h
 refine Ctr.mk (args := [.pointer (some ⟨b_m, 0, none⟩), vU64 atp1, vU64 np2]) Try.func32 rfl rfl (fun R0 w0 B => ?_)
 refine Tk_seq (Tk_region (Tops_ex rfl (OpT_box rfl rfl rfl rfl) fun b1 => ?_))
 refine Tops_ex rfl (OpT_box rfl rfl rfl rfl) fun b2 => ?_
 refine Tops_step rfl (OpT_assign rfl rfl rfl rfl) ?_
 refine Tops_nil (Tk_wkS (fr' := [(2, some (vU64 np2)), (3, some (.pointer (some ⟨b1, 0, none⟩))), (4, some (.pointer (some ⟨b2, 0, none⟩)))]) (own' := [some (cellsR b_m 78 [vm1, vm2]), some (rowsX u8S true vm2 vsm1 m.b none), some (cellsR b1 35 [.pointer (some ⟨b_m, 0, none⟩)]), some (cellsR b2 28 [vU64 atp1])]) (shr' := [Fact.sl RegionS vm1 m.l]) [2, 3, 4] [0, 1, 2, 3] [0] rfl rfl rfl rfl ?_)
 refine Tk_seq (Tk_seq (Tk_region (Tops_step rfl (OpT_move rfl rfl rfl rfl) ?_)))
 refine Tops_step rfl (OpT_bin rfl rfl rfl rfl rfl (bin_lss_u64 (a := np2) (b := (1 : UInt64)))) ?_
 refine Tops_nil (Tk_wkS (fr' := [(2, some (vU64 np2)), (3, some (.pointer (some ⟨b1, 0, none⟩))), (4, some (.pointer (some ⟨b2, 0, none⟩))), (10, some (vB (decide (np2 < (1 : UInt64)))))]) (own' := [some (cellsR b_m 78 [vm1, vm2]), some (rowsX u8S true vm2 vsm1 m.b none), some (cellsR b1 35 [.pointer (some ⟨b_m, 0, none⟩)]), some (cellsR b2 28 [vU64 atp1])]) (shr' := [Fact.sl RegionS vm1 m.l]) [2, 3, 4, 10] [0, 1, 2, 3] [0] rfl rfl rfl rfl ?_)
 rcases Bool.eq_false_or_eq_true (decide (np2 < (1 : UInt64))) with hg1 | hg1
 ·replace h := br_t hg1 h
  refine Tk_condT (congrArg (fun b => some (Value.bool b)) hg1) ?_
  refine Tk_seq (Tk_region (Tops_step rfl (OpT_assign rfl rfl rfl rfl) ?_))
  refine Tops_nil (Tk_wkS (fr' := [(6, some (.slice none 0 0))]) (own' := [some (cellsR b_m 78 [vm1, vm2]), some (rowsX u8S true vm2 vsm1 m.b none)]) (shr' := [Fact.sl RegionS vm1 m.l]) [6] [0, 1] [0] rfl rfl rfl rfl ?_)
  obtain rfl := Option.some.inj h
  exact Tk_retV rfl rfl (resA (vs := [.slice none 0 0]) rfl ⟨rfl, trivial⟩) [0, 1] [] rfl rfl rfl ⟨rfl, rfl, rfl⟩
 ·replace h := br_f hg1 h
  refine Tk_condF (congrArg (fun b => some (Value.bool b)) hg1) ?_
  refine Tk_skip (Tk_seq (Tk_region (Tops_step rfl (OpT_loadC rfl rfl rfl rfl tyF35 (i := 2) rfl rfl) ?_)))
  refine Tops_step rfl (OpT_nilCheckP rfl rfl rfl rfl) ?_
  refine Tops_step rfl (OpT_fieldC rfl rfl rfl rfl fldF78x0) ?_
  refine Tops_step rfl (OpT_loadC rfl rfl rfl rfl tyF38 (i := 0) rfl rfl) ?_
  refine Tops_step rfl (OpT_lenS rfl rfl rfl rfl Try.underlying38 (i := 0) rfl) ?_
  refine Tops_step rfl (OpT_makeFunc (vs := [.pointer (some ⟨b1, 0, none⟩), .pointer (some ⟨b2, 0, none⟩)]) rfl rfl rfl rfl) ?_
  obtain ⟨search1, hx1, h⟩ := ob_e h
  refine Tops_exP rfl (OpT_callP [5, 6, 4, 7] (w_sort_SearchFgmem_Mem_bytes_1 hx1) [2, 0, 1, 3] [0] rfl rfl rfl rfl rfl callee45 rfl rfl rfl rfl rfl) ?_
  rintro _ ⟨_, _, _, ⟨rfl, rfl, rfl⟩, rfl⟩
  refine Tops_step rfl (OpT_assign rfl rfl rfl rfl) ?_
  refine Tops_nil (Tk_wkS (fr' := [(2, some (vU64 np2)), (3, some (.pointer (some ⟨b1, 0, none⟩))), (4, some (.pointer (some ⟨b2, 0, none⟩))), (7, some (vI search1))]) (own' := [some (cellsR b_m 78 [vm1, vm2]), some (rowsX u8S true vm2 vsm1 m.b none), some (cellsR b1 35 [.pointer (some ⟨b_m, 0, none⟩)]), some (cellsR b2 28 [vU64 atp1])]) (shr' := [Fact.sl RegionS vm1 m.l]) [2, 3, 4, 7] [0, 1, 2, 3] [0] rfl rfl rfl rfl ?_)
  refine Tk_seq (Tk_seq (Tk_drawT (by kernel_rfl) ?_))
  refine TA_tb [0, 0, 2, 6, 14, 30, 63, 127, 255, 255, 767, 1791, 3839, 255, 16127, 32511, 65279, 131071, 262143] (by kernel_rfl) fun htb => ?_
  refine TA_seg (lo := 0) (hi := 6) htb rfl rfl (by kernel_rfl) (fun c L a w => Sat c ⟨[(2, some (vU64 np2)), (3, some (.pointer (some ⟨b1, 0, none⟩))), (4, some (.pointer (some ⟨b2, 0, none⟩))), (7, some (vI search1)), (18, bif L 0 then some (vI search1) else none), (19, bif L 1 then some (.pointer (some ⟨b_m, 0, none⟩)) else none), (20, bif L 2 then some (.pointer (some ⟨b_m, 0, none⟩)) else none), (21, bif L 3 then some (.pointer (some ⟨b_m, 0, none⟩)) else none), (22, bif L 4 then some (vm1) else none), (23, bif L 5 then some (vI (len m.l)) else none)], [(some (cellsR b_m 78 [vm1, vm2]) : Option Res), (some (rowsX u8S true vm2 vsm1 m.b none) : Option Res), (some (cellsR b1 35 [.pointer (some ⟨b_m, 0, none⟩)]) : Option Res), (some (cellsR b2 28 [vU64 atp1]) : Option Res)], [Fact.sl RegionS vm1 m.l]⟩ a w) [([], []), ([], [2, 3, 4, 5]), ([1], [3, 4, 5]), ([1, 2], [4, 5]), ([1, 2, 3], [5]), ([1, 2, 3, 4], [])] rfl (by kernel_rfl) ?_ (steps_cons ?_ (steps_cons ?_ (steps_cons ?_ (steps_cons ?_ (steps_cons ?_ (steps_cons ?_ (steps_nil))))))) ?_
  ·intro a w hs
   exact hs.startF [18, 19, 20, 21, 22, 23] [0, 1, 2, 3] [0] rfl rfl rfl rfl
  ·intro L a w hv K Q hK
   have hs := hv
   refine wpOp_go rfl rfl hs (OpT_move rfl rfl rfl rfl) ?_
   rintro _ rfl a' w' hs'
   exact hK a' w' (hs'.putF (i := 4) rfl [0, 1, 2, 3] [0] rfl rfl rfl rfl)
  ·intro L a w hv K Q hK
   have hs := hv
   refine wpOp_go rfl rfl hs (OpT_loadC rfl rfl rfl rfl tyF35 (i := 2) rfl rfl) ?_
   rintro _ rfl a' w' hs'
   exact hK a' w' (hs'.putF (i := 5) rfl [0, 1, 2, 3] [0] rfl rfl rfl rfl)
  ·intro L a w hv K Q hK
   have hs := hv
   refine wpOp_go rfl rfl hs (OpT_nilCheckP rfl rfl rfl rfl) ?_
   rintro _ rfl a' w' hs'
   exact hK a' w' (hs'.putF (i := 6) rfl [0, 1, 2, 3] [0] rfl rfl rfl rfl)
  ·intro L a w hv K Q hK
   have hs := hv
   refine wpOp_go rfl rfl hs (OpT_fieldC rfl rfl rfl rfl fldF78x0) ?_
   rintro _ rfl a' w' hs'
   exact hK a' w' (hs'.putF (i := 7) rfl [0, 1, 2, 3] [0] rfl rfl rfl rfl)
  ·intro L a w hv K Q hK
   have hs := hv
   refine wpOp_go rfl rfl hs (OpT_loadC rfl rfl rfl rfl tyF38 (i := 0) rfl rfl) ?_
   rintro _ rfl a' w' hs'
   exact hK a' w' (hs'.putF (i := 8) rfl [0, 1, 2, 3] [0] rfl rfl rfl rfl)
  ·intro L a w hv K Q hK
   have hs := hv
   refine wpOp_go rfl rfl hs (OpT_lenS rfl rfl rfl rfl Try.underlying38 (i := 0) rfl) ?_
   rintro _ rfl a' w' hs'
   exact hK a' w' (hs'.putF (i := 9) rfl [0, 1, 2, 3] [0] rfl rfl rfl rfl)
  ·intro L a w hL hv
   rw [allTrue hL] at hv
   have hs := hv
   refine (show TA _ _ _ 6 ⟨[(2, some (vU64 np2)), (3, some (.pointer (some ⟨b1, 0, none⟩))), (4, some (.pointer (some ⟨b2, 0, none⟩))), (7, some (vI search1)), (18, some (vI search1)), (23, some (vI (len m.l)))], [some (cellsR b_m 78 [vm1, vm2]), some (rowsX u8S true vm2 vsm1 m.b none), some (cellsR b1 35 [.pointer (some ⟨b_m, 0, none⟩)]), some (cellsR b2 28 [vU64 atp1])], [Fact.sl RegionS vm1 m.l]⟩ from ?_) a w (hs.wkS [2, 3, 4, 7, 18, 23] [0, 1, 2, 3] [0] rfl rfl rfl rfl)
   clear hs hL
   refine TA_step htb (by kernel_rfl) rfl rfl (OpT_bin rfl rfl rfl rfl rfl (bin_eql_i (a := search1) (b := len m.l))) ?_
   refine TA_step htb (by kernel_rfl) rfl rfl (OpT_move rfl rfl rfl rfl) ?_
   refine TA_wkS (fr' := [(2, some (vU64 np2)), (3, some (.pointer (some ⟨b1, 0, none⟩))), (4, some (.pointer (some ⟨b2, 0, none⟩))), (7, some (vI search1)), (25, some (vB (search1 == (len m.l))))]) (own' := [some (cellsR b_m 78 [vm1, vm2]), some (rowsX u8S true vm2 vsm1 m.b none), some (cellsR b1 35 [.pointer (some ⟨b_m, 0, none⟩)]), some (cellsR b2 28 [vU64 atp1])]) (shr' := [Fact.sl RegionS vm1 m.l]) [2, 3, 4, 7, 25] [0, 1, 2, 3] [0] rfl rfl rfl rfl ?_
   rcases Bool.eq_false_or_eq_true (search1 == (len m.l)) with hg2 | hg2
   ·replace h := br_t hg2 h
    refine TA_seg (lo := 8) (hi := 17) htb rfl rfl (by kernel_rfl) (fun c L a w => Sat c ⟨[(2, some (vU64 np2)), (3, some (.pointer (some ⟨b1, 0, none⟩))), (4, some (.pointer (some ⟨b2, 0, none⟩))), (7, some (vI search1)), (25, some (vB (search1 == (len m.l)))), (26, bif L 8 then some (undef) else none), (27, bif L 9 then some (undef) else none), (28, bif L 10 then some (undef) else none), (29, bif L 11 then some (undef) else none), (30, bif L 12 then some (undef) else none), (31, bif L 13 then some (undef) else none), (32, bif L 14 then some (undef) else none), (33, bif L 15 then some (undef) else none), (34, bif L 16 then some (undef) else none)], [(some (cellsR b_m 78 [vm1, vm2]) : Option Res), (some (rowsX u8S true vm2 vsm1 m.b none) : Option Res), (some (cellsR b1 35 [.pointer (some ⟨b_m, 0, none⟩)]) : Option Res), (some (cellsR b2 28 [vU64 atp1]) : Option Res)], [Fact.sl RegionS vm1 m.l]⟩ a w) [([], []), ([], [10, 11, 12, 14, 15, 16]), ([9], [11, 12, 14, 15, 16]), ([9, 10], [12, 14, 15, 16]), ([9, 10, 11], [14, 15, 16]), ([], [14, 15, 16]), ([9, 10, 11, 12, 13], [15, 16]), ([9, 10, 11, 12, 13, 14], [16]), ([9, 10, 11, 12, 13, 14, 15], [])] rfl (by kernel_rfl) ?_ (steps_cons ?_ (steps_cons ?_ (steps_cons ?_ (steps_cons ?_ (steps_cons ?_ (steps_cons ?_ (steps_cons ?_ (steps_cons ?_ (steps_cons ?_ (steps_nil)))))))))) ?_
    ·intro a w hs
     exact hs.startF [26, 27, 28, 29, 30, 31, 32, 33, 34] [0, 1, 2, 3] [0] rfl rfl rfl rfl
    ·intro L a w hv K Q hK
     have hs := hv
     refine wpOp_no rfl rfl rfl hs (congrArg (fun b => some (Value.bool b)) hg2) rfl rfl ?_
     intro a' w' hs'
     exact hK a' w' (hs'.putF (i := 5) rfl [0, 1, 2, 3] [0] rfl rfl rfl rfl)
    ·intro L a w hv K Q hK
     have hs := hv
     refine wpOp_no rfl rfl rfl hs (congrArg (fun b => some (Value.bool b)) hg2) rfl rfl ?_
     intro a' w' hs'
     exact hK a' w' (hs'.putF (i := 6) rfl [0, 1, 2, 3] [0] rfl rfl rfl rfl)
    ·intro L a w hv K Q hK
     have hs := hv
     refine wpOp_no rfl rfl rfl hs (congrArg (fun b => some (Value.bool b)) hg2) rfl rfl ?_
     intro a' w' hs'
     exact hK a' w' (hs'.putF (i := 7) rfl [0, 1, 2, 3] [0] rfl rfl rfl rfl)
    ·intro L a w hv K Q hK
     have hs := hv
     refine wpOp_no rfl rfl rfl hs (congrArg (fun b => some (Value.bool b)) hg2) rfl rfl ?_
     intro a' w' hs'
     exact hK a' w' (hs'.putF (i := 8) rfl [0, 1, 2, 3] [0] rfl rfl rfl rfl)
    ·intro L a w hv K Q hK
     have hs := hv
     refine wpOp_no rfl rfl rfl hs (congrArg (fun b => some (Value.bool b)) hg2) rfl rfl ?_
     intro a' w' hs'
     exact hK a' w' (hs'.putF (i := 9) rfl [0, 1, 2, 3] [0] rfl rfl rfl rfl)
    ·intro L a w hv K Q hK
     have hs := hv
     refine wpOp_no rfl rfl rfl hs (congrArg (fun b => some (Value.bool b)) hg2) rfl rfl ?_
     intro a' w' hs'
     exact hK a' w' (hs'.putF (i := 10) rfl [0, 1, 2, 3] [0] rfl rfl rfl rfl)
    ·intro L a w hv K Q hK
     have hs := hv
     refine wpOp_no rfl rfl rfl hs (congrArg (fun b => some (Value.bool b)) hg2) rfl rfl ?_
     intro a' w' hs'
     exact hK a' w' (hs'.putF (i := 11) rfl [0, 1, 2, 3] [0] rfl rfl rfl rfl)
    ·intro L a w hv K Q hK
     have hs := hv
     refine wpOp_no rfl rfl rfl hs (congrArg (fun b => some (Value.bool b)) hg2) rfl rfl ?_
     intro a' w' hs'
     exact hK a' w' (hs'.putF (i := 12) rfl [0, 1, 2, 3] [0] rfl rfl rfl rfl)
    ·intro L a w hv K Q hK
     have hs := hv
     refine wpOp_no rfl rfl rfl hs (congrArg (fun b => some (Value.bool b)) hg2) rfl rfl ?_
     intro a' w' hs'
     exact hK a' w' (hs'.putF (i := 13) rfl [0, 1, 2, 3] [0] rfl rfl rfl rfl)
    ·intro L a w hL hv
     rw [allTrue hL] at hv
     have hs := hv
     refine (show TA _ _ _ 17 ⟨[(2, some (vU64 np2)), (3, some (.pointer (some ⟨b1, 0, none⟩))), (4, some (.pointer (some ⟨b2, 0, none⟩))), (7, some (vI search1)), (25, some (vB (search1 == (len m.l)))), (26, some (undef)), (34, some (undef))], [some (cellsR b_m 78 [vm1, vm2]), some (rowsX u8S true vm2 vsm1 m.b none), some (cellsR b1 35 [.pointer (some ⟨b_m, 0, none⟩)]), some (cellsR b2 28 [vU64 atp1])], [Fact.sl RegionS vm1 m.l]⟩ from ?_) a w (hs.wkS [2, 3, 4, 7, 25, 26, 34] [0, 1, 2, 3] [0] rfl rfl rfl rfl)
     clear hs hL
     refine TA_no htb (by kernel_rfl) rfl rfl rfl (congrArg (fun b => some (Value.bool b)) hg2) rfl rfl ?_
     refine TA_step htb (by kernel_rfl) rfl rfl (OpT_pickT rfl rfl rfl (congrArg (fun b => some (Value.bool b)) hg2) rfl) ?_
     refine TA_end rfl ?_
     refine Tk_wkS (fr' := [(2, some (vU64 np2)), (3, some (.pointer (some ⟨b1, 0, none⟩))), (4, some (.pointer (some ⟨b2, 0, none⟩))), (7, some (vI search1)), (36, some (vB true))]) (own' := [some (cellsR b_m 78 [vm1, vm2]), some (rowsX u8S true vm2 vsm1 m.b none), some (cellsR b1 35 [.pointer (some ⟨b_m, 0, none⟩)]), some (cellsR b2 28 [vU64 atp1])]) (shr' := [Fact.sl RegionS vm1 m.l]) [2, 3, 4, 7, 36] [0, 1, 2, 3] [0] rfl rfl rfl rfl ?_
     refine Tk_condT rfl ?_
     refine Tk_seq (Tk_region (Tops_step rfl (OpT_assign rfl rfl rfl rfl) ?_))
     refine Tops_nil (Tk_wkS (fr' := [(6, some (.slice none 0 0))]) (own' := [some (cellsR b_m 78 [vm1, vm2]), some (rowsX u8S true vm2 vsm1 m.b none)]) (shr' := [Fact.sl RegionS vm1 m.l]) [6] [0, 1] [0] rfl rfl rfl rfl ?_)
     obtain rfl := Option.some.inj h
     exact Tk_retV rfl rfl (resA (vs := [.slice none 0 0]) rfl ⟨rfl, trivial⟩) [0, 1] [] rfl rfl rfl ⟨rfl, rfl, rfl⟩
   ·replace h := br_f hg2 h
    obtain ⟨r1, hx2, h⟩ := ob_e h
    refine TA_seg (lo := 8) (hi := 17) htb rfl rfl (by kernel_rfl) (fun c L a w => ∃ (p1 : Value), ∃ (p2 : Value), Sat c ⟨[(2, some (vU64 np2)), (3, some (.pointer (some ⟨b1, 0, none⟩))), (4, some (.pointer (some ⟨b2, 0, none⟩))), (7, some (vI search1)), (25, some (vB (search1 == (len m.l)))), (26, bif L 8 then some (vU64 atp1) else none), (27, bif L 9 then some (.pointer (some ⟨b_m, 0, none⟩)) else none), (28, bif L 10 then some (.pointer (some ⟨b_m, 0, none⟩)) else none), (29, bif L 11 then some (.pointer (some ⟨b_m, 0, none⟩)) else none), (30, bif L 12 then some (vm1) else none), (31, bif L 13 then some (vI search1) else none), (32, bif L 14 then some (p1) else none), (33, bif L 15 then some (p2) else none), (34, bif L 16 then some (vU64 r1.At) else none)], [(some (cellsR b_m 78 [vm1, vm2]) : Option Res), (some (rowsX u8S true vm2 vsm1 m.b none) : Option Res), (some (cellsR b1 35 [.pointer (some ⟨b_m, 0, none⟩)]) : Option Res), (some (cellsR b2 28 [vU64 atp1]) : Option Res)], [Fact.sl RegionS vm1 m.l, (bif L 14 then Fact.pt RegionS p1 r1 else Fact.tt), (bif L 15 then Fact.pt u64S p2 r1.At else Fact.tt)]⟩ a w) [([], []), ([], [10, 11, 12, 14, 15, 16]), ([9], [11, 12, 14, 15, 16]), ([9, 10], [12, 14, 15, 16]), ([9, 10, 11], [14, 15, 16]), ([], [14, 15, 16]), ([9, 10, 11, 12, 13], [15, 16]), ([9, 10, 11, 12, 13, 14], [16]), ([9, 10, 11, 12, 13, 14, 15], [])] rfl (by kernel_rfl) ?_ (steps_cons ?_ (steps_cons ?_ (steps_cons ?_ (steps_cons ?_ (steps_cons ?_ (steps_cons ?_ (steps_cons ?_ (steps_cons ?_ (steps_cons ?_ (steps_nil)))))))))) ?_
    ·intro a w hs
     exact ⟨undef, undef, hs.startF [26, 27, 28, 29, 30, 31, 32, 33, 34] [0, 1, 2, 3] [0, 1, 2] rfl rfl rfl rfl⟩
    ·intro L a w hv K Q hK
     obtain ⟨p1, p2, hs⟩ := hv
     refine wpOp_yes rfl rfl rfl hs (congrArg (fun b => some (Value.bool b)) hg2) (OpT_loadC rfl rfl rfl rfl tyF28 (i := 3) rfl rfl) ?_
     rintro _ rfl a' w' hs'
     exact hK a' w' ⟨p1, p2, hs'.putF (i := 5) rfl [0, 1, 2, 3] [0, 1, 2] rfl rfl rfl rfl⟩
    ·intro L a w hv K Q hK
     obtain ⟨p1, p2, hs⟩ := hv
     refine wpOp_yes rfl rfl rfl hs (congrArg (fun b => some (Value.bool b)) hg2) (OpT_loadC rfl rfl rfl rfl tyF35 (i := 2) rfl rfl) ?_
     rintro _ rfl a' w' hs'
     exact hK a' w' ⟨p1, p2, hs'.putF (i := 6) rfl [0, 1, 2, 3] [0, 1, 2] rfl rfl rfl rfl⟩
    ·intro L a w hv K Q hK
     obtain ⟨p1, p2, hs⟩ := hv
     refine wpOp_yes rfl rfl rfl hs (congrArg (fun b => some (Value.bool b)) hg2) (OpT_nilCheckP rfl rfl rfl rfl) ?_
     rintro _ rfl a' w' hs'
     exact hK a' w' ⟨p1, p2, hs'.putF (i := 7) rfl [0, 1, 2, 3] [0, 1, 2] rfl rfl rfl rfl⟩
    ·intro L a w hv K Q hK
     obtain ⟨p1, p2, hs⟩ := hv
     refine wpOp_yes rfl rfl rfl hs (congrArg (fun b => some (Value.bool b)) hg2) (OpT_fieldC rfl rfl rfl rfl fldF78x0) ?_
     rintro _ rfl a' w' hs'
     exact hK a' w' ⟨p1, p2, hs'.putF (i := 8) rfl [0, 1, 2, 3] [0, 1, 2] rfl rfl rfl rfl⟩
    ·intro L a w hv K Q hK
     obtain ⟨p1, p2, hs⟩ := hv
     refine wpOp_yes rfl rfl rfl hs (congrArg (fun b => some (Value.bool b)) hg2) (OpT_loadC rfl rfl rfl rfl tyF38 (i := 0) rfl rfl) ?_
     rintro _ rfl a' w' hs'
     exact hK a' w' ⟨p1, p2, hs'.putF (i := 9) rfl [0, 1, 2, 3] [0, 1, 2] rfl rfl rfl rfl⟩
    ·intro L a w hv K Q hK
     obtain ⟨p1, p2, hs⟩ := hv
     refine wpOp_yes rfl rfl rfl hs (congrArg (fun b => some (Value.bool b)) hg2) (OpT_move rfl rfl rfl rfl) ?_
     rintro _ rfl a' w' hs'
     exact hK a' w' ⟨p1, p2, hs'.putF (i := 10) rfl [0, 1, 2, 3] [0, 1, 2] rfl rfl rfl rfl⟩
    ·intro L a w hv K Q hK
     obtain ⟨p1, p2, hs⟩ := hv
     refine wpOp_yes rfl rfl rfl hs (congrArg (fun b => some (Value.bool b)) hg2) (OpT_idxS rfl rfl rfl rfl rfl slF38 (i := 0) rfl hx2) ?_
     rintro _ ⟨p1', rfl⟩ a' w' hs'
     exact hK a' w' ⟨p1', p2, hs'.putF (i := 11) rfl [0, 1, 2, 3] [0, 3, 2] rfl rfl rfl rfl⟩
    ·intro L a w hv K Q hK
     obtain ⟨p1, p2, hs⟩ := hv
     refine wpOp_yes rfl rfl rfl hs (congrArg (fun b => some (Value.bool b)) hg2) (OpT_fieldP (S' := u64S) (y := r1.At) rfl rfl rfl rfl fldF75x0 (i := 1) rfl (by intro h cs hr; subst hr; rfl)) ?_
     rintro _ ⟨p2', rfl⟩ a' w' hs'
     exact hK a' w' ⟨p1, p2', hs'.putF (i := 12) rfl [0, 1, 2, 3] [0, 1, 3] rfl rfl rfl rfl⟩
    ·intro L a w hv K Q hK
     obtain ⟨p1, p2, hs⟩ := hv
     refine wpOp_yes rfl rfl rfl hs (congrArg (fun b => some (Value.bool b)) hg2) (OpT_loadP rfl rfl rfl rfl tyF28 (i := 2) rfl rfl) ?_
     rintro _ rfl a' w' hs'
     exact hK a' w' ⟨p1, p2, hs'.putF (i := 13) rfl [0, 1, 2, 3] [0, 1, 2] rfl rfl rfl rfl⟩
    ·intro L a w hL hv
     rw [allTrue hL] at hv
     obtain ⟨p1, p2, hs⟩ := hv
     refine (show TA _ _ _ 17 ⟨[(2, some (vU64 np2)), (3, some (.pointer (some ⟨b1, 0, none⟩))), (4, some (.pointer (some ⟨b2, 0, none⟩))), (7, some (vI search1)), (25, some (vB (search1 == (len m.l)))), (26, some (vU64 atp1)), (34, some (vU64 r1.At))], [some (cellsR b_m 78 [vm1, vm2]), some (rowsX u8S true vm2 vsm1 m.b none), some (cellsR b1 35 [.pointer (some ⟨b_m, 0, none⟩)]), some (cellsR b2 28 [vU64 atp1])], [Fact.sl RegionS vm1 m.l]⟩ from ?_) a w (hs.wkS [2, 3, 4, 7, 25, 26, 34] [0, 1, 2, 3] [0] rfl rfl rfl rfl)
     clear hs hL
     refine TA_yes htb (by kernel_rfl) rfl rfl rfl (congrArg (fun b => some (Value.bool b)) hg2) (OpT_bin rfl rfl rfl rfl rfl (bin_lss_u64 (a := atp1) (b := r1.At))) ?_
     rintro _ rfl
     refine TA_step htb (by kernel_rfl) rfl rfl (OpT_pickF rfl rfl rfl (congrArg (fun b => some (Value.bool b)) hg2) rfl) ?_
     refine TA_end rfl ?_
     refine Tk_wkS (fr' := [(2, some (vU64 np2)), (3, some (.pointer (some ⟨b1, 0, none⟩))), (4, some (.pointer (some ⟨b2, 0, none⟩))), (7, some (vI search1)), (36, some (vB (decide (atp1 < r1.At))))]) (own' := [some (cellsR b_m 78 [vm1, vm2]), some (rowsX u8S true vm2 vsm1 m.b none), some (cellsR b1 35 [.pointer (some ⟨b_m, 0, none⟩)]), some (cellsR b2 28 [vU64 atp1])]) (shr' := [Fact.sl RegionS vm1 m.l]) [2, 3, 4, 7, 36] [0, 1, 2, 3] [0] rfl rfl rfl rfl ?_
     rcases Bool.eq_false_or_eq_true (decide (atp1 < r1.At)) with hg3 | hg3
     ·replace h := br_t hg3 h
      refine Tk_condT (congrArg (fun b => some (Value.bool b)) hg3) ?_
      refine Tk_seq (Tk_region (Tops_step rfl (OpT_assign rfl rfl rfl rfl) ?_))
      refine Tops_nil (Tk_wkS (fr' := [(6, some (.slice none 0 0))]) (own' := [some (cellsR b_m 78 [vm1, vm2]), some (rowsX u8S true vm2 vsm1 m.b none)]) (shr' := [Fact.sl RegionS vm1 m.l]) [6] [0, 1] [0] rfl rfl rfl rfl ?_)
      obtain rfl := Option.some.inj h
      exact Tk_retV rfl rfl (resA (vs := [.slice none 0 0]) rfl ⟨rfl, trivial⟩) [0, 1] [] rfl rfl rfl ⟨rfl, rfl, rfl⟩
     ·replace h := br_f hg3 h
      refine Tk_condF (congrArg (fun b => some (Value.bool b)) hg3) ?_
      refine Tk_skip (Tk_seq (Tk_drawT (by kernel_rfl) ?_))
      refine TA_tb [0, 0, 2, 6, 14, 0, 62, 126, 254, 511, 1023] (by kernel_rfl) fun htb => ?_
      refine TA_wkS (fr' := [(2, some (vU64 np2)), (3, some (.pointer (some ⟨b1, 0, none⟩))), (4, some (.pointer (some ⟨b2, 0, none⟩))), (7, some (vI search1))]) (own' := [some (cellsR b_m 78 [vm1, vm2]), some (rowsX u8S true vm2 vsm1 m.b none), some (cellsR b1 35 [.pointer (some ⟨b_m, 0, none⟩)]), some (cellsR b2 28 [vU64 atp1])]) (shr' := [Fact.sl RegionS vm1 m.l]) [2, 3, 4, 7] [0, 1, 2, 3] [0] rfl rfl rfl rfl ?_
      obtain ⟨r2, hx3, h⟩ := ob_e h
      refine TA_seg (lo := 0) (hi := 9) htb rfl rfl (by kernel_rfl) (fun c L a w => ∃ (p3 : Value), ∃ (p4 : Value), Sat c ⟨[(2, some (vU64 np2)), (3, some (.pointer (some ⟨b1, 0, none⟩))), (4, some (.pointer (some ⟨b2, 0, none⟩))), (7, some (vI search1)), (37, bif L 0 then some (vU64 atp1) else none), (38, bif L 1 then some (.pointer (some ⟨b_m, 0, none⟩)) else none), (39, bif L 2 then some (.pointer (some ⟨b_m, 0, none⟩)) else none), (40, bif L 3 then some (.pointer (some ⟨b_m, 0, none⟩)) else none), (41, bif L 4 then some (vm1) else none), (42, bif L 5 then some (vI search1) else none), (43, bif L 6 then some (p3) else none), (44, bif L 7 then some (p4) else none), (45, bif L 8 then some (vU64 r2.At) else none)], [(some (cellsR b_m 78 [vm1, vm2]) : Option Res), (some (rowsX u8S true vm2 vsm1 m.b none) : Option Res), (some (cellsR b1 35 [.pointer (some ⟨b_m, 0, none⟩)]) : Option Res), (some (cellsR b2 28 [vU64 atp1]) : Option Res)], [Fact.sl RegionS vm1 m.l, (bif L 6 then Fact.pt RegionS p3 r2 else Fact.tt), (bif L 7 then Fact.pt u64S p4 r2.At else Fact.tt)]⟩ a w) [([], []), ([], [2, 3, 4, 6, 7, 8]), ([1], [3, 4, 6, 7, 8]), ([1, 2], [4, 6, 7, 8]), ([1, 2, 3], [6, 7, 8]), ([], [6, 7, 8]), ([1, 2, 3, 4, 5], [7, 8]), ([1, 2, 3, 4, 5, 6], [8]), ([1, 2, 3, 4, 5, 6, 7], [])] rfl (by kernel_rfl) ?_ (steps_cons ?_ (steps_cons ?_ (steps_cons ?_ (steps_cons ?_ (steps_cons ?_ (steps_cons ?_ (steps_cons ?_ (steps_cons ?_ (steps_cons ?_ (steps_nil)))))))))) ?_
      ·intro a w hs
       exact ⟨undef, undef, hs.startF [37, 38, 39, 40, 41, 42, 43, 44, 45] [0, 1, 2, 3] [0, 1, 2] rfl rfl rfl rfl⟩
      ·intro L a w hv K Q hK
       obtain ⟨p3, p4, hs⟩ := hv
       refine wpOp_go rfl rfl hs (OpT_loadC rfl rfl rfl rfl tyF28 (i := 3) rfl rfl) ?_
       rintro _ rfl a' w' hs'
       exact hK a' w' ⟨p3, p4, hs'.putF (i := 4) rfl [0, 1, 2, 3] [0, 1, 2] rfl rfl rfl rfl⟩
      ·intro L a w hv K Q hK
       obtain ⟨p3, p4, hs⟩ := hv
       refine wpOp_go rfl rfl hs (OpT_loadC rfl rfl rfl rfl tyF35 (i := 2) rfl rfl) ?_
       rintro _ rfl a' w' hs'
       exact hK a' w' ⟨p3, p4, hs'.putF (i := 5) rfl [0, 1, 2, 3] [0, 1, 2] rfl rfl rfl rfl⟩
      ·intro L a w hv K Q hK
       obtain ⟨p3, p4, hs⟩ := hv
       refine wpOp_go rfl rfl hs (OpT_nilCheckP rfl rfl rfl rfl) ?_
       rintro _ rfl a' w' hs'
       exact hK a' w' ⟨p3, p4, hs'.putF (i := 6) rfl [0, 1, 2, 3] [0, 1, 2] rfl rfl rfl rfl⟩
      ·intro L a w hv K Q hK
       obtain ⟨p3, p4, hs⟩ := hv
       refine wpOp_go rfl rfl hs (OpT_fieldC rfl rfl rfl rfl fldF78x0) ?_
       rintro _ rfl a' w' hs'
       exact hK a' w' ⟨p3, p4, hs'.putF (i := 7) rfl [0, 1, 2, 3] [0, 1, 2] rfl rfl rfl rfl⟩
      ·intro L a w hv K Q hK
       obtain ⟨p3, p4, hs⟩ := hv
       refine wpOp_go rfl rfl hs (OpT_loadC rfl rfl rfl rfl tyF38 (i := 0) rfl rfl) ?_
       rintro _ rfl a' w' hs'
       exact hK a' w' ⟨p3, p4, hs'.putF (i := 8) rfl [0, 1, 2, 3] [0, 1, 2] rfl rfl rfl rfl⟩
      ·intro L a w hv K Q hK
       obtain ⟨p3, p4, hs⟩ := hv
       refine wpOp_go rfl rfl hs (OpT_move rfl rfl rfl rfl) ?_
       rintro _ rfl a' w' hs'
       exact hK a' w' ⟨p3, p4, hs'.putF (i := 9) rfl [0, 1, 2, 3] [0, 1, 2] rfl rfl rfl rfl⟩
      ·intro L a w hv K Q hK
       obtain ⟨p3, p4, hs⟩ := hv
       refine wpOp_go rfl rfl hs (OpT_idxS rfl rfl rfl rfl rfl slF38 (i := 0) rfl hx3) ?_
       rintro _ ⟨p3', rfl⟩ a' w' hs'
       exact hK a' w' ⟨p3', p4, hs'.putF (i := 10) rfl [0, 1, 2, 3] [0, 3, 2] rfl rfl rfl rfl⟩
      ·intro L a w hv K Q hK
       obtain ⟨p3, p4, hs⟩ := hv
       refine wpOp_go rfl rfl hs (OpT_fieldP (S' := u64S) (y := r2.At) rfl rfl rfl rfl fldF75x0 (i := 1) rfl (by intro h cs hr; subst hr; rfl)) ?_
       rintro _ ⟨p4', rfl⟩ a' w' hs'
       exact hK a' w' ⟨p3, p4', hs'.putF (i := 11) rfl [0, 1, 2, 3] [0, 1, 3] rfl rfl rfl rfl⟩
      ·intro L a w hv K Q hK
       obtain ⟨p3, p4, hs⟩ := hv
       refine wpOp_go rfl rfl hs (OpT_loadP rfl rfl rfl rfl tyF28 (i := 2) rfl rfl) ?_
       rintro _ rfl a' w' hs'
       exact hK a' w' ⟨p3, p4, hs'.putF (i := 12) rfl [0, 1, 2, 3] [0, 1, 2] rfl rfl rfl rfl⟩
      ·intro L a w hL hv
       rw [allTrue hL] at hv
       obtain ⟨p3, p4, hs⟩ := hv
       refine (show TA _ _ _ 9 ⟨[(2, some (vU64 np2)), (3, some (.pointer (some ⟨b1, 0, none⟩))), (7, some (vI search1)), (37, some (vU64 atp1)), (45, some (vU64 r2.At))], [some (cellsR b_m 78 [vm1, vm2]), some (rowsX u8S true vm2 vsm1 m.b none), some (cellsR b1 35 [.pointer (some ⟨b_m, 0, none⟩)])], [Fact.sl RegionS vm1 m.l]⟩ from ?_) a w (hs.wkS [2, 3, 7, 37, 45] [0, 1, 2] [0] rfl rfl rfl rfl)
       clear hs hL
       refine TA_step htb (by kernel_rfl) rfl rfl (OpT_bin rfl rfl rfl rfl rfl (bin_sub_u64 (a := atp1) (b := r2.At))) ?_
       refine TA_step htb (by kernel_rfl) rfl rfl (OpT_assign rfl rfl rfl rfl) ?_
       refine TA_end rfl ?_
       refine Tk_wkS (fr' := [(2, some (vU64 np2)), (3, some (.pointer (some ⟨b1, 0, none⟩))), (7, some (vI search1)), (8, some (vU64 (atp1 - r2.At)))]) (own' := [some (cellsR b_m 78 [vm1, vm2]), some (rowsX u8S true vm2 vsm1 m.b none), some (cellsR b1 35 [.pointer (some ⟨b_m, 0, none⟩)])]) (shr' := [Fact.sl RegionS vm1 m.l]) [2, 3, 7, 8] [0, 1, 2] [0] rfl rfl rfl rfl ?_
       refine Tk_seq (Tk_seq (Tk_region (Tops_step rfl (OpT_move rfl rfl rfl rfl) ?_)))
       refine Tops_step rfl (OpT_loadC rfl rfl rfl rfl tyF35 (i := 2) rfl rfl) ?_
       refine Tops_step rfl (OpT_nilCheckP rfl rfl rfl rfl) ?_
       refine Tops_step rfl (OpT_fieldC rfl rfl rfl rfl fldF78x0) ?_
       refine Tops_step rfl (OpT_loadC rfl rfl rfl rfl tyF38 (i := 0) rfl rfl) ?_
       refine Tops_step rfl (OpT_move rfl rfl rfl rfl) ?_
       obtain ⟨r3, hx4, h⟩ := ob_e h
       refine Tops_ex rfl (OpT_idxS rfl rfl rfl rfl rfl slF38 (i := 0) rfl hx4) fun p5 => ?_
       refine Tops_ex rfl (OpT_fieldP (S' := u64S) (y := r3.Len) rfl rfl rfl rfl fldF75x1 (i := 1) rfl (by intro h cs hr; subst hr; rfl)) fun p6 => ?_
       refine Tops_step rfl (OpT_loadP rfl rfl rfl rfl tyF28 (i := 2) rfl rfl) ?_
       refine Tops_step rfl (OpT_move rfl rfl rfl rfl) ?_
       refine Tops_step rfl (OpT_bin rfl rfl rfl rfl rfl (bin_sub_u64 (a := r3.Len) (b := atp1 - r2.At))) ?_
       refine Tops_step rfl (OpT_bin rfl rfl rfl rfl rfl (bin_gtr_u64 (a := np2) (b := r3.Len - (atp1 - r2.At)))) ?_
       refine Tops_nil (Tk_wkS (fr' := [(2, some (vU64 np2)), (3, some (.pointer (some ⟨b1, 0, none⟩))), (7, some (vI search1)), (8, some (vU64 (atp1 - r2.At))), (58, some (vB (decide (np2 > (r3.Len - (atp1 - r2.At))))))]) (own' := [some (cellsR b_m 78 [vm1, vm2]), some (rowsX u8S true vm2 vsm1 m.b none), some (cellsR b1 35 [.pointer (some ⟨b_m, 0, none⟩)])]) (shr' := [Fact.sl RegionS vm1 m.l]) [2, 3, 7, 8, 58] [0, 1, 2] [0] rfl rfl rfl rfl ?_)
       rcases Bool.eq_false_or_eq_true (decide (np2 > (r3.Len - (atp1 - r2.At)))) with hg4 | hg4
       ·replace h := br_t hg4 h
        refine Tk_condT (congrArg (fun b => some (Value.bool b)) hg4) ?_
        refine Tk_seq (Tk_region (Tops_step rfl (OpT_assign rfl rfl rfl rfl) ?_))
        refine Tops_nil (Tk_wkS (fr' := [(6, some (.slice none 0 0))]) (own' := [some (cellsR b_m 78 [vm1, vm2]), some (rowsX u8S true vm2 vsm1 m.b none)]) (shr' := [Fact.sl RegionS vm1 m.l]) [6] [0, 1] [0] rfl rfl rfl rfl ?_)
        obtain rfl := Option.some.inj h
        exact Tk_retV rfl rfl (resA (vs := [.slice none 0 0]) rfl ⟨rfl, trivial⟩) [0, 1] [] rfl rfl rfl ⟨rfl, rfl, rfl⟩
       ·replace h := br_f hg4 h
        refine Tk_condF (congrArg (fun b => some (Value.bool b)) hg4) ?_
        refine Tk_skip (Tk_seq (Tk_region (Tops_step rfl (OpT_loadC rfl rfl rfl rfl tyF35 (i := 2) rfl rfl) ?_)))
        refine Tops_step rfl (OpT_nilCheckP rfl rfl rfl rfl) ?_
        refine Tops_step rfl (OpT_fieldC rfl rfl rfl rfl fldF78x1) ?_
        refine Tops_step rfl (OpT_loadC rfl rfl rfl rfl tyF76 (i := 0) rfl rfl) ?_
        refine Tops_step rfl (OpT_move rfl rfl rfl rfl) ?_
        obtain ⟨row1, hx5, h⟩ := ob_e h
        refine Tops_step rfl (OpT_idxRows rfl rfl rfl rfl rfl slF76 (i := 1) rfl hx5) ?_
        refine Tops_vs (vs_focus (i := 1) (j := search1) rfl hx5) ?_
        refine Tops_step rfl (OpT_loadRow (m := search1) rfl rfl rfl rfl tyF24 (i := 1) rfl) ?_
        refine Tops_step rfl (OpT_move rfl rfl rfl rfl) ?_
        refine Tops_step rfl (OpT_move rfl rfl rfl rfl) ?_
        refine Tops_step rfl (OpT_move rfl rfl rfl rfl) ?_
        refine Tops_step rfl (OpT_bin rfl rfl rfl rfl rfl (bin_add_u64 (a := atp1 - r2.At) (b := np2))) ?_
        obtain ⟨hc1, h⟩ := chk_e h
        refine Tops_step rfl (OpT_subLH (S := u8S) (l := ((atp1 - r2.At).toNat : Int)) (m := (((atp1 - r2.At) + np2).toNat : Int)) rfl rfl rfl rfl rfl rfl slF24 (i := 3) rfl hc1) ?_
        refine Tops_step rfl (OpT_assign rfl rfl rfl rfl) ?_
        refine Tops_nil (Tk_wkS (fr' := [(6, some (subV (vsAt vsm1 (Int.toNat search1)) 1 (Int.toNat ((atp1 - r2.At).toNat : Int)) (Int.toNat (((atp1 - r2.At) + np2).toNat : Int))))]) (own' := [some (cellsR b_m 78 [vm1, vm2]), some (rowsX u8S true vm2 vsm1 m.b (some (Int.toNat search1, vsAt vsm1 (Int.toNat search1)))), some (rowS u8S (vsAt vsm1 (Int.toNat search1)) row1)]) (shr' := [Fact.sl RegionS vm1 m.l]) [6] [0, 1, 3] [0] rfl rfl rfl rfl ?_)
        refine Tk_vs (vs_unfocus0 (i := 1) (q := 2) rfl rfl rfl hx5) ?_
        obtain rfl := Option.some.inj h
        exact Tk_retV rfl rfl (resA (vs := [subV (vsAt vsm1 (Int.toNat search1)) 1 (Int.toNat ((atp1 - r2.At).toNat : Int)) (Int.toNat (((atp1 - r2.At) + np2).toNat : Int))]) rfl ⟨rfl, trivial⟩) [0, 1] [] rfl rfl rfl ⟨rfl, rfl, rfl⟩

set_option maxRecDepth 100000 in
set_option maxHeartbeats 4000000 in
theorem w_gmem_Mem_Write {m : gmem_Mem} {atp1 : UInt64} {arg2 : List UInt8} {b_m : Nat} {vm1 : Value} {vm2 : Value} {vsm1 : List Value} {varg21 : Value} {r : (Int × (List (List UInt8)))} (h : gmem_Mem_Write m atp1 arg2 = some r) :
  Ctr Try.prog 13 #[.pointer (some ⟨b_m, 0, none⟩), vU64 atp1, varg21] [(cellsR b_m 78 [vm1, vm2]), (rowsX u8S true vm2 vsm1 m.b none)] [Fact.sl RegionS vm1 m.l, Fact.sl u8S varg21 arg2]
   (fun rv own shr => rv = vI r.1 ∧ own = [(cellsR b_m 78 [vm1, vm2]), (rowsX u8S true vm2 vsm1 r.2 none)] ∧ shr = []) := by
 unfold gmem_Mem_Write at h
 refine Ctr.mk (args := [.pointer (some ⟨b_m, 0, none⟩), vU64 atp1, varg21]) Try.func13 rfl rfl (fun R0 w0 B => ?_)
 refine Tk_seq (Tk_region (Tops_step rfl (OpT_assign rfl rfl rfl rfl) ?_))
 refine Tops_nil (Tk_wkS (fr' := [(0, some (.pointer (some ⟨b_m, 0, none⟩))), (1, some (vU64 atp1)), (2, some (varg21))]) (own' := [some (cellsR b_m 78 [vm1, vm2]), some (rowsX u8S true vm2 vsm1 m.b none)]) (shr' := [Fact.sl RegionS vm1 m.l, Fact.sl u8S varg21 arg2]) [0, 1, 2] [0, 1] [0, 1] rfl rfl rfl rfl ?_)
 refine Tk_seq (Tk_seq (Tk_region (Tops_step rfl (OpT_move rfl rfl rfl rfl) ?_)))
 obtain ⟨made1, hx1, h⟩ := ob_e h
 refine Tops_exP rfl (OpT_callP [2, 3] (w_gmem_Mem_made hx1) [0, 1] [0] rfl rfl rfl rfl rfl callee31 rfl rfl rfl rfl rfl) ?_
 rintro _ ⟨_, _, _, ⟨rfl, rfl, rfl⟩, rfl⟩
 refine Tops_step rfl (OpT_not rfl rfl rfl rfl) ?_
 refine Tops_nil (Tk_wkS (fr' := [(0, some (.pointer (some ⟨b_m, 0, none⟩))), (1, some (vU64 atp1)), (2, some (varg21)), (10, some (vB (!made1)))]) (own' := [some (cellsR b_m 78 [vm1, vm2]), some (rowsX u8S true vm2 vsm1 m.b none)]) (shr' := [Fact.sl RegionS vm1 m.l, Fact.sl u8S varg21 arg2]) [0, 1, 2, 10] [0, 1] [0, 1] rfl rfl rfl rfl ?_)
 refine Tk_condF (congrArg (fun b => some (Value.bool b)) (congrArg (!·) (Option.some.inj (show some true = some made1 from hx1)).symm)) ?_
 refine Tk_skip (Tk_seq (Tk_seq (Tk_region (Tops_step rfl (OpT_move rfl rfl rfl rfl) ?_))))
 refine Tops_step rfl (OpT_lenS rfl rfl rfl rfl Try.underlying24 (i := 1) rfl) ?_
 refine Tops_step rfl (OpT_bin rfl rfl rfl rfl rfl (bin_eql_i (a := len arg2) (b := (0 : Int)))) ?_
 refine Tops_nil (Tk_wkS (fr' := [(0, some (.pointer (some ⟨b_m, 0, none⟩))), (1, some (vU64 atp1)), (2, some (varg21)), (13, some (vB ((len arg2) == (0 : Int))))]) (own' := [some (cellsR b_m 78 [vm1, vm2]), some (rowsX u8S true vm2 vsm1 m.b none)]) (shr' := [Fact.sl RegionS vm1 m.l, Fact.sl u8S varg21 arg2]) [0, 1, 2, 13] [0, 1] [0, 1] rfl rfl rfl rfl ?_)
 rcases Bool.eq_false_or_eq_true ((len arg2) == (0 : Int)) with hg1 | hg1
 ·replace h := br_t hg1 h
  refine Tk_condT (congrArg (fun b => some (Value.bool b)) hg1) ?_
  refine Tk_seq (Tk_region (Tops_step rfl (OpT_assign rfl rfl rfl rfl) ?_))
  refine Tops_nil (Tk_wkS (fr' := [(6, some (vI (0 : Int)))]) (own' := [some (cellsR b_m 78 [vm1, vm2]), some (rowsX u8S true vm2 vsm1 m.b none)]) (shr' := [Fact.sl RegionS vm1 m.l]) [6] [0, 1] [0] rfl rfl rfl rfl ?_)
  obtain rfl := Option.some.inj h
  exact Tk_retV rfl rfl (resA (vs := [vI (0 : Int)]) rfl ⟨rfl, trivial⟩) [0, 1] [] rfl rfl rfl ⟨rfl, rfl, rfl⟩
 ·replace h := br_f hg1 h
  refine Tk_condF (congrArg (fun b => some (Value.bool b)) hg1) ?_
  refine Tk_skip (Tk_seq (Tk_region (Tops_step rfl (OpT_move rfl rfl rfl rfl) ?_)))
  refine Tops_step rfl (OpT_move rfl rfl rfl rfl) ?_
  refine Tops_step rfl (OpT_move rfl rfl rfl rfl) ?_
  refine Tops_step rfl (OpT_lenS rfl rfl rfl rfl Try.underlying24 (i := 1) rfl) ?_
  refine Tops_step rfl (OpT_cnv rfl rfl rfl rfl (cnv_i_u64 (n := len arg2) Try.underlying3 Try.underlying28)) ?_
  obtain ⟨bytes1, hx2, h⟩ := ob_e h
  refine Tops_exP rfl (OpT_callP [2, 3] (w_gmem_Mem_bytes hx2) [0, 1] [0] rfl rfl rfl rfl rfl callee32 rfl rfl rfl rfl rfl) ?_
  rintro _ ⟨_, _, _, ⟨rfl, rfl, rfl⟩, rfl⟩
  refine Tops_step rfl (OpT_assign rfl rfl rfl rfl) ?_
  refine Tops_nil (Tk_wkS (fr' := [(2, some (varg21)), (7, some (winV 1 vsm1 bytes1))]) (own' := [some (cellsR b_m 78 [vm1, vm2]), some (rowsX u8S true vm2 vsm1 m.b none)]) (shr' := [Fact.sl RegionS vm1 m.l, Fact.sl u8S varg21 arg2]) [2, 7] [0, 1] [0, 1] rfl rfl rfl rfl ?_)
  rcases onO_cases h with ⟨ho1, h⟩ | ⟨w1, ho1, h⟩
  ·refine Tk_eqv (x := winV 1 vsm1 bytes1) (y := .slice none 0 0) (by rw [ho1]; rfl) (fun z => ⟨[(2, some (varg21)), (7, some (z))], [some (cellsR b_m 78 [vm1, vm2]), some (rowsX u8S true vm2 vsm1 m.b none)], [Fact.sl RegionS vm1 m.l, Fact.sl u8S varg21 arg2]⟩) ?_
   refine Tk_seq (Tk_seq (Tk_region (Tops_step rfl (OpT_move rfl rfl rfl rfl) ?_)))
   refine Tops_step rfl (OpT_eqNilN rfl rfl rfl (.inl rfl) rfl rfl Try.underlying24) ?_
   refine Tops_nil (Tk_wkS (fr' := [(2, some (varg21)), (7, some (.slice none 0 0)), (21, some (vB true))]) (own' := [some (cellsR b_m 78 [vm1, vm2]), some (rowsX u8S true vm2 vsm1 m.b none)]) (shr' := [Fact.sl RegionS vm1 m.l, Fact.sl u8S varg21 arg2]) [2, 7, 21] [0, 1] [0, 1] rfl rfl rfl rfl ?_)
   refine Tk_condT rfl ?_
   refine Tk_seq (Tk_region (Tops_step rfl (OpT_assign rfl rfl rfl rfl) ?_))
   refine Tops_nil (Tk_wkS (fr' := [(6, some (vI (5 : Int)))]) (own' := [some (cellsR b_m 78 [vm1, vm2]), some (rowsX u8S true vm2 vsm1 m.b none)]) (shr' := [Fact.sl RegionS vm1 m.l]) [6] [0, 1] [0] rfl rfl rfl rfl ?_)
   obtain rfl := Option.some.inj h
   exact Tk_retV rfl rfl (resA (vs := [vI (5 : Int)]) rfl ⟨rfl, trivial⟩) [0, 1] [] rfl rfl rfl ⟨rfl, rfl, rfl⟩
  ·refine Tk_eqv (x := winV 1 vsm1 bytes1) (y := subV (vsAt vsm1 (Int.toNat w1.1)) 1 (Int.toNat w1.2.1) (Int.toNat w1.2.2)) (by rw [ho1]; rfl) (fun z => ⟨[(2, some (varg21)), (7, some (z))], [some (cellsR b_m 78 [vm1, vm2]), some (rowsX u8S true vm2 vsm1 m.b none)], [Fact.sl RegionS vm1 m.l, Fact.sl u8S varg21 arg2]⟩) ?_
   obtain ⟨row1, hx3, h⟩ := ob_e h
   refine Tk_vs (vs_focus (i := 1) (j := w1.1) rfl hx3) ?_
   obtain ⟨hc1, h⟩ := chk_e h
   refine Tk_seq (Tk_seq (Tk_region (Tops_step rfl (OpT_move rfl rfl rfl rfl) ?_)))
   obtain ⟨hc2, h⟩ := chk_e h
   refine Tops_step rfl (OpT_eqSub (S := u8S) (l := w1.2.1) (m := w1.2.2) rfl rfl rfl (.inl rfl) rfl rfl Try.underlying24 (i := 2) rfl hc1 hc2) ?_
   refine Tops_nil (Tk_wkS (fr' := [(2, some (varg21)), (7, some (subV (vsAt vsm1 (Int.toNat w1.1)) 1 (Int.toNat w1.2.1) (Int.toNat w1.2.2))), (21, some (vB false))]) (own' := [some (cellsR b_m 78 [vm1, vm2]), some (rowsX u8S true vm2 vsm1 m.b (some (Int.toNat w1.1, vsAt vsm1 (Int.toNat w1.1)))), some (rowS u8S (vsAt vsm1 (Int.toNat w1.1)) row1)]) (shr' := [Fact.sl RegionS vm1 m.l, Fact.sl u8S varg21 arg2]) [2, 7, 21] [0, 1, 2] [0, 1] rfl rfl rfl rfl ?_)
   refine Tk_condF rfl ?_
   refine Tk_skip (Tk_seq (Tk_region (Tops_step rfl (OpT_move rfl rfl rfl rfl) ?_)))
   refine Tops_step rfl (OpT_move rfl rfl rfl rfl) ?_
   refine Tops_step rfl (OpT_copyS (S := u8S) (l := w1.2.1) (m := w1.2.2) rfl rfl rfl rfl rfl rfl slF24 (i := 2) (j := 1) rfl rfl hc1) ?_
   refine Tops_nil (Tk_wkS (fr' := []) (own' := [some (cellsR b_m 78 [vm1, vm2]), some (rowsX u8S true vm2 vsm1 m.b (some (Int.toNat w1.1, vsAt vsm1 (Int.toNat w1.1)))), some (rowS u8S (vsAt vsm1 (Int.toNat w1.1)) (copyAt row1 w1.2.1 w1.2.2 arg2))]) (shr' := [Fact.sl RegionS vm1 m.l]) [] [0, 1, 2] [0] rfl rfl rfl rfl ?_)
   refine Tk_vs (vs_unfocus (i := 1) (q := 2) rfl rfl rfl) ?_
   refine Tk_seq (Tk_region (Tops_step rfl (OpT_assign rfl rfl rfl rfl) ?_))
   refine Tops_nil (Tk_wkS (fr' := [(6, some (vI (0 : Int)))]) (own' := [some (cellsR b_m 78 [vm1, vm2]), some (rowsX u8S true vm2 vsm1 (m.b.set (Int.toNat w1.1) (copyAt row1 w1.2.1 w1.2.2 arg2)) none)]) (shr' := [Fact.sl RegionS vm1 m.l]) [6] [0, 1] [0] rfl rfl rfl rfl ?_)
   obtain rfl := Option.some.inj h
   exact Tk_retV rfl rfl (resA (vs := [vI (0 : Int)]) rfl ⟨rfl, trivial⟩) [0, 1] [] rfl rfl rfl ⟨rfl, rfl, rfl⟩

set_option maxRecDepth 100000 in
set_option maxHeartbeats 4000000 in
theorem wb_seg_Check_1 {arg0 : Int} {arg1 : UInt64} {b_arg0 : Nat} {b_arg1 : Nat} {r : Int} (h : seg_Check_1 arg0 arg1 = some r) :
  BodyOk Try.prog 57 [.pointer (some ⟨b_arg0, 0, none⟩), .pointer (some ⟨b_arg1, 0, none⟩)] [(cellsR b_arg0 30 [vI arg0]), (cellsR b_arg1 28 [vU64 arg1])] []
   (fun rv own shr => rv = .tuple #[] ∧ own = [(cellsR b_arg0 30 [vI r]), (cellsR b_arg1 28 [vU64 arg1])] ∧ shr = []) := by
 unfold seg_Check_1 at h
 refine BodyOk.mk Try.func57 rfl rfl (fun R0 w0 B => ?_)
 refine Tk_seq (Tk_region (Tops_step rfl (OpT_loadC rfl rfl rfl rfl tyF30 (i := 0) rfl rfl) ?_))
 refine Tops_step rfl (OpT_bin rfl rfl rfl rfl rfl (bin_eql_i (a := arg0) (b := (0 : Int)))) ?_
 refine Tops_step rfl (OpT_move rfl rfl rfl rfl) ?_
 rcases Bool.eq_false_or_eq_true (arg0 == (0 : Int)) with hg1 | hg1
 ·replace h := br_t hg1 h
  refine Tops_yes rfl rfl (congrArg (fun b => some (Value.bool b)) hg1) (OpT_loadC rfl rfl rfl rfl tyF28 (i := 1) rfl rfl) ?_
  rintro _ rfl
  refine Tops_yes rfl rfl (congrArg (fun b => some (Value.bool b)) hg1) (OpT_bin rfl rfl rfl rfl rfl (bin_geq_u64 (a := arg1) (b := (4294967296 : UInt64)))) ?_
  rintro _ rfl
  refine Tops_step rfl (OpT_pickT rfl rfl rfl (congrArg (fun b => some (Value.bool b)) hg1) rfl) ?_
  refine Tops_nil (Tk_wkS (fr' := [(0, some (.pointer (some ⟨b_arg0, 0, none⟩))), (7, some (vB (decide (arg1 ≥ (4294967296 : UInt64)))))]) (own' := [some (cellsR b_arg0 30 [vI arg0]), some (cellsR b_arg1 28 [vU64 arg1])]) (shr' := []) [0, 7] [0, 1] [] rfl rfl rfl rfl ?_)
  rcases Bool.eq_false_or_eq_true (decide (arg1 ≥ (4294967296 : UInt64))) with hg2 | hg2
  ·replace h := br_t hg2 h
   refine Tk_condT (congrArg (fun b => some (Value.bool b)) hg2) ?_
   refine Tk_region (Tops_step rfl (OpT_storeC (cs' := [vI (2 : Int)]) rfl rfl rfl rfl tyF30 (i := 0) rfl rfl rfl (one_of rfl) rfl) ?_)
   refine Tops_nil ?_
   obtain rfl := Option.some.inj h
   exact Tk_endV rfl rfl (resA (vs := []) rfl trivial) [0, 1] [] rfl rfl rfl ⟨rfl, rfl, rfl⟩
  ·replace h := br_f hg2 h
   refine Tk_condF (congrArg (fun b => some (Value.bool b)) hg2) ?_
   refine Tk_skip ?_
   obtain rfl := Option.some.inj h
   exact Tk_endV rfl rfl (resA (vs := []) rfl trivial) [0, 1] [] rfl rfl rfl ⟨rfl, rfl, rfl⟩
 ·replace h := br_f hg1 h
  refine Tops_no rfl rfl (congrArg (fun b => some (Value.bool b)) hg1) rfl rfl ?_
  refine Tops_no rfl rfl (congrArg (fun b => some (Value.bool b)) hg1) rfl rfl ?_
  refine Tops_step rfl (OpT_pickF rfl rfl rfl (congrArg (fun b => some (Value.bool b)) hg1) rfl) ?_
  refine Tops_nil (Tk_wkS (fr' := [(0, some (.pointer (some ⟨b_arg0, 0, none⟩))), (7, some (vB false))]) (own' := [some (cellsR b_arg0 30 [vI arg0]), some (cellsR b_arg1 28 [vU64 arg1])]) (shr' := []) [0, 7] [0, 1] [] rfl rfl rfl rfl ?_)
  refine Tk_condF rfl ?_
  refine Tk_skip ?_
  obtain rfl := Option.some.inj h
  exact Tk_endV rfl rfl (resA (vs := []) rfl trivial) [0, 1] [] rfl rfl rfl ⟨rfl, rfl, rfl⟩

set_option maxRecDepth 100000 in
set_option maxHeartbeats 4000000 in
theorem w_seg_Check {l : List Seg} {vl1 : Value} {r : Int} (h : seg_Check l = some r) :
  Ctr Try.prog 48 #[vl1] [] [Fact.sl SegS vl1 l]
   (fun rv own shr => rv = vI r ∧ own = [] ∧ shr = []) := by
 unfold seg_Check at h
 refine Ctr.mkD (args := [vl1]) Try.func48 rfl rfl (fun R0 w0 B => ?_)
 refine Tk_seq (Tk_region (Tops_ex rfl (OpT_alloc rfl rfl rfl tyZ30) fun b1 => ?_))
 refine Tops_nil (Tk_seq (Tk_seq (Tk_region (Tops_step rfl (OpT_move rfl rfl rfl rfl) ?_))))
 refine Tops_step rfl (OpT_lenS rfl rfl rfl rfl Try.underlying58 (i := 0) rfl) ?_
 refine Tops_step rfl (OpT_bin rfl rfl rfl rfl rfl (bin_gtr_i (a := len l) (b := (64 : Int)))) ?_
 refine Tops_nil (Tk_wkS (fr' := [(0, some (vl1)), (2, some (.pointer (some ⟨b1, 0, none⟩))), (8, some (vB (decide ((len l) > (64 : Int)))))]) (own' := [some (cellsR b1 30 [vI (0 : Int)])]) (shr' := [Fact.sl SegS vl1 l]) [0, 2, 8] [0] [0] rfl rfl rfl rfl ?_)
 rcases Bool.eq_false_or_eq_true (decide ((len l) > (64 : Int))) with hg1 | hg1
 ·replace h := br_t hg1 h
  refine Tk_condT (congrArg (fun b => some (Value.bool b)) hg1) ?_
  refine Tk_seq (Tk_region (Tops_step rfl (OpT_storeC (cs' := [vI (3 : Int)]) rfl rfl rfl rfl tyF30 (i := 0) rfl rfl rfl (one_of rfl) rfl) ?_))
  refine Tops_nil (Tk_wkS (fr' := [(2, some (.pointer (some ⟨b1, 0, none⟩)))]) (own' := [some (cellsR b1 30 [vI (3 : Int)])]) (shr' := []) [2] [0] [] rfl rfl rfl rfl ?_)
  obtain rfl := Option.some.inj h
  refine Tk_retE rfl rfl ?_
  exact Tleave_mk (resA (vs := [vI (3 : Int)]) rfl ⟨⟨_, 0, _, _, _, rfl, rfl, .inr ⟨tyF30, rfl⟩⟩, trivial⟩) [] [] rfl rfl rfl ⟨rfl, rfl, rfl⟩
 ·replace h := br_f hg1 h
  refine Tk_condF (congrArg (fun b => some (Value.bool b)) hg1) ?_
  refine Tk_skip (Tk_seq (Tk_region (Tops_ex rfl (OpT_alloc rfl rfl rfl tyZ28) fun b2 => ?_)))
  refine Tops_step rfl (OpT_storeC (cs' := [vU64 (0 : UInt64)]) rfl rfl rfl rfl tyF28 (i := 1) rfl rfl rfl (one_of rfl) rfl) ?_
  refine Tops_nil (Tk_wkS (fr' := [(0, some (vl1)), (2, some (.pointer (some ⟨b1, 0, none⟩))), (3, some (.pointer (some ⟨b2, 0, none⟩)))]) (own' := [some (cellsR b1 30 [vI (0 : Int)]), some (cellsR b2 28 [vU64 (0 : UInt64)])]) (shr' := [Fact.sl SegS vl1 l]) [0, 2, 3] [0, 1] [0] rfl rfl rfl rfl ?_)
  refine Tk_seq (Tk_region (Tops_step rfl (OpT_makeFunc (vs := [.pointer (some ⟨b1, 0, none⟩), .pointer (some ⟨b2, 0, none⟩)]) rfl rfl rfl rfl) ?_))
  refine Tops_defer (f := 57) (cp := [.pointer (some ⟨b1, 0, none⟩), .pointer (some ⟨b2, 0, none⟩)]) rfl rfl rfl rfl ?_
  refine Tops_nil (Tk_wkS (fr' := [(0, some (vl1)), (2, some (.pointer (some ⟨b1, 0, none⟩))), (3, some (.pointer (some ⟨b2, 0, none⟩)))]) (own' := [some (cellsR b1 30 [vI (0 : Int)]), some (cellsR b2 28 [vU64 (0 : UInt64)])]) (shr' := [Fact.sl SegS vl1 l]) [0, 2, 3] [0, 1] [0] rfl rfl rfl rfl ?_)
  refine Tk_seq (Tk_seq (Tk_region (Tops_step rfl (OpT_move rfl rfl rfl rfl) ?_)))
  refine Tops_step rfl (OpT_lenS rfl rfl rfl rfl Try.underlying58 (i := 0) rfl) ?_
  refine Tops_step rfl (OpT_move rfl rfl rfl rfl) ?_
  refine Tops_nil (Tk_block (Tk_loopS (σ := Int × UInt64 × Int) [0, 2, 3, 10, 11, 12] [0, 1] [0] (fun s => ⟨[(0, some (vl1)), (2, some (.pointer (some ⟨b1, 0, none⟩))), (3, some (.pointer (some ⟨b2, 0, none⟩))), (10, some (vl1)), (11, some (vI (len l))), (12, some (vI s.2.2))], [some (cellsR b1 30 [vI s.1]), some (cellsR b2 28 [vU64 s.2.1])], [Fact.sl SegS vl1 l]⟩) (fun nf1 s => seg_CheckL1 l nf1 s.1 s.2.1 s.2.2 = some r) fuel ((0 : Int), (0 : UInt64), (0 : Int)) h rfl rfl rfl rfl rfl (fun s h => by cases h) ?_))
  rintro nf1 ⟨m1, m2, x1⟩ h
  replace h : seg_CheckL1B l (seg_CheckL1 l nf1) m1 m2 x1 = some r := h
  unfold seg_CheckL1B at h
  refine Tk_seq (Tk_region (Tops_step rfl (OpT_bin rfl rfl rfl rfl rfl (bin_lss_i (a := x1) (b := len l))) ?_))
  refine Tops_nil (Tk_seq ?_)
  rcases Bool.eq_false_or_eq_true (decide (x1 < (len l))) with hg2 | hg2
  ·replace h := br_t hg2 h
   refine Tk_condT (congrArg (fun b => some (Value.bool b)) hg2) ?_
   refine Tk_skip (Tk_seq (Tk_block (Tk_seq (Tk_region (Tops_step rfl (OpT_move rfl rfl rfl rfl) ?_)))))
   obtain ⟨s1, hx1, h⟩ := ob_e h
   refine Tops_ex rfl (OpT_idxS rfl rfl rfl rfl rfl slF58 (i := 0) rfl hx1) fun p1 => ?_
   refine Tops_step rfl (OpT_loadPA (vs := [vU64 s1.At, vU32 s1.Len, vB s1.Write]) rfl rfl rfl rfl tyF57 (i := 1) rfl rfl) ?_
   refine Tops_ex rfl (OpT_alloc rfl rfl rfl tyZ57) fun b3 => ?_
   refine Tops_step rfl (OpT_assign rfl rfl rfl rfl) ?_
   refine Tops_step rfl (OpT_storeC (cs' := [vU64 s1.At, vU32 s1.Len, vB s1.Write]) rfl rfl rfl rfl tyF57 (i := 2) rfl rfl rfl (one_of rfl) rfl) ?_
   refine Tops_nil (Tk_wkS (fr' := [(0, some (vl1)), (2, some (.pointer (some ⟨b1, 0, none⟩))), (3, some (.pointer (some ⟨b2, 0, none⟩))), (10, some (vl1)), (11, some (vI (len l))), (12, some (vI x1)), (5, some (.pointer (some ⟨b3, 0, none⟩))), (4, some (vI x1))]) (own' := [some (cellsR b1 30 [vI m1]), some (cellsR b2 28 [vU64 m2]), some (cellsR b3 57 [vU64 s1.At, vU32 s1.Len, vB s1.Write])]) (shr' := [Fact.sl SegS vl1 l]) [0, 2, 3, 10, 11, 12, 5, 4] [0, 1, 2] [0] rfl rfl rfl rfl ?_)
   refine Tk_seq (Tk_seq (Tk_region (Tops_step rfl (OpT_fieldC rfl rfl rfl rfl fldF57x1) ?_)))
   refine Tops_step rfl (OpT_loadC rfl rfl rfl rfl tyF48 (i := 2) rfl rfl) ?_
   refine Tops_step rfl (OpT_bin rfl rfl rfl rfl rfl (bin_lss_u32 (a := s1.Len) (b := (1 : UInt32)))) ?_
   refine Tops_step rfl (OpT_move rfl rfl rfl rfl) ?_
   rcases Bool.eq_false_or_eq_true (decide (s1.Len < (1 : UInt32))) with hg3 | hg3
   ·replace h := br_t hg3 h
    refine Tops_no rfl rfl (congrArg (fun b => some (Value.bool b)) hg3) rfl rfl ?_
    refine Tops_no rfl rfl (congrArg (fun b => some (Value.bool b)) hg3) rfl rfl ?_
    refine Tops_no rfl rfl (congrArg (fun b => some (Value.bool b)) hg3) rfl rfl ?_
    refine Tops_no rfl rfl (congrArg (fun b => some (Value.bool b)) hg3) rfl rfl ?_
    refine Tops_no rfl rfl (congrArg (fun b => some (Value.bool b)) hg3) rfl rfl ?_
    refine Tops_no rfl rfl (congrArg (fun b => some (Value.bool b)) hg3) rfl rfl ?_
    refine Tops_no rfl rfl (congrArg (fun b => some (Value.bool b)) hg3) rfl rfl ?_
    refine Tops_no rfl rfl (congrArg (fun b => some (Value.bool b)) hg3) rfl rfl ?_
    refine Tops_step rfl (OpT_pickT rfl rfl rfl (congrArg (fun b => some (Value.bool b)) hg3) rfl) ?_
    refine Tops_step rfl (OpT_move rfl rfl rfl rfl) ?_
    refine Tops_no rfl rfl rfl rfl rfl ?_
    refine Tops_no rfl rfl rfl rfl rfl ?_
    refine Tops_no rfl rfl rfl rfl rfl ?_
    refine Tops_noU rfl rfl rfl rfl rfl ?_
    refine Tops_noU rfl rfl rfl rfl rfl ?_
    refine Tops_noU rfl rfl rfl rfl rfl ?_
    refine Tops_noU rfl rfl rfl rfl rfl ?_
    refine Tops_noU rfl rfl rfl rfl rfl ?_
    refine Tops_noU rfl rfl rfl rfl rfl ?_
    refine Tops_no rfl rfl rfl rfl rfl ?_
    refine Tops_no rfl rfl rfl rfl rfl ?_
    refine Tops_noU rfl rfl rfl rfl rfl ?_
    refine Tops_noU rfl rfl rfl rfl rfl ?_
    refine Tops_noU rfl rfl rfl rfl rfl ?_
    refine Tops_no rfl rfl rfl rfl rfl ?_
    refine Tops_step rfl (OpT_pickT rfl rfl rfl rfl rfl) ?_
    refine Tops_nil (Tk_wkS (fr' := [(0, some (vl1)), (2, some (.pointer (some ⟨b1, 0, none⟩))), (3, some (.pointer (some ⟨b2, 0, none⟩))), (10, some (vl1)), (11, some (vI (len l))), (12, some (vI x1)), (5, some (.pointer (some ⟨b3, 0, none⟩))), (46, some (vB true))]) (own' := [some (cellsR b1 30 [vI m1]), some (cellsR b2 28 [vU64 m2]), some (cellsR b3 57 [vU64 s1.At, vU32 s1.Len, vB s1.Write])]) (shr' := [Fact.sl SegS vl1 l]) [0, 2, 3, 10, 11, 12, 5, 46] [0, 1, 2] [0] rfl rfl rfl rfl ?_)
    refine Tk_condT rfl ?_
    refine Tk_seq (Tk_region (Tops_step rfl (OpT_storeC (cs' := [vI (2 : Int)]) rfl rfl rfl rfl tyF30 (i := 0) rfl rfl rfl (one_of rfl) rfl) ?_))
    refine Tops_nil (Tk_wkS (fr' := [(2, some (.pointer (some ⟨b1, 0, none⟩)))]) (own' := [some (cellsR b1 30 [vI (2 : Int)]), some (cellsR b2 28 [vU64 m2])]) (shr' := []) [2] [0, 1] [] rfl rfl rfl rfl ?_)
    obtain ⟨check1, hx2, h⟩ := ob_e h
    obtain rfl := Option.some.inj h
    refine Tk_retD rfl (f := 57) (cp := [.pointer (some ⟨b1, 0, none⟩), .pointer (some ⟨b2, 0, none⟩)]) rfl callee57 (wb_seg_Check_1 hx2).ctrD [0, 1] [] rfl rfl rfl ?_
    rintro _ _ _ ⟨rfl, rfl, rfl⟩
    exact Tleave_mk (resA (vs := [vI check1]) rfl ⟨⟨_, 2, _, _, _, rfl, rfl, .inr ⟨tyF30, rfl⟩⟩, trivial⟩) [] [] rfl rfl rfl ⟨rfl, rfl, rfl⟩
   ·replace h := br_f hg3 h
    refine Tops_yes rfl rfl (congrArg (fun b => some (Value.bool b)) hg3) (OpT_fieldC rfl rfl rfl rfl fldF57x1) ?_
    rintro _ rfl
    refine Tops_yes rfl rfl (congrArg (fun b => some (Value.bool b)) hg3) (OpT_loadC rfl rfl rfl rfl tyF48 (i := 2) rfl rfl) ?_
    rintro _ rfl
    refine Tops_yes rfl rfl (congrArg (fun b => some (Value.bool b)) hg3) (OpT_cnv rfl rfl rfl rfl (cnv_u32_u64 (n := s1.Len) Try.underlying48 Try.underlying28)) ?_
    rintro _ rfl
    refine Tops_yes rfl rfl (congrArg (fun b => some (Value.bool b)) hg3) (OpT_bin rfl rfl rfl rfl rfl (bin_sub_u64 (a := s1.Len.toUInt64) (b := (1 : UInt64)))) ?_
    rintro _ rfl
    refine Tops_yes rfl rfl (congrArg (fun b => some (Value.bool b)) hg3) (OpT_fieldC rfl rfl rfl rfl fldF57x0) ?_
    rintro _ rfl
    refine Tops_yes rfl rfl (congrArg (fun b => some (Value.bool b)) hg3) (OpT_loadC rfl rfl rfl rfl tyF28 (i := 2) rfl rfl) ?_
    rintro _ rfl
    refine Tops_yes rfl rfl (congrArg (fun b => some (Value.bool b)) hg3) (OpT_bin rfl rfl rfl rfl rfl (bin_sub_u64 (a := (18446744073709551615 : UInt64)) (b := s1.At))) ?_
    rintro _ rfl
    refine Tops_yes rfl rfl (congrArg (fun b => some (Value.bool b)) hg3) (OpT_bin rfl rfl rfl rfl rfl (bin_gtr_u64 (a := s1.Len.toUInt64 - (1 : UInt64)) (b := (18446744073709551615 : UInt64) - s1.At))) ?_
    rintro _ rfl
    refine Tops_step rfl (OpT_pickF rfl rfl rfl (congrArg (fun b => some (Value.bool b)) hg3) rfl) ?_
    refine Tops_step rfl (OpT_move rfl rfl rfl rfl) ?_
    rcases Bool.eq_false_or_eq_true (decide ((s1.Len.toUInt64 - (1 : UInt64)) > ((18446744073709551615 : UInt64) - s1.At))) with hg4 | hg4
    ·replace h := br_t hg4 h
     refine Tops_no rfl rfl (congrArg (fun b => some (Value.bool b)) hg4) rfl rfl ?_
     refine Tops_no rfl rfl (congrArg (fun b => some (Value.bool b)) hg4) rfl rfl ?_
     refine Tops_no rfl rfl (congrArg (fun b => some (Value.bool b)) hg4) rfl rfl ?_
     refine Tops_noU rfl rfl rfl rfl rfl ?_
     refine Tops_noU rfl rfl rfl rfl rfl ?_
     refine Tops_noU rfl rfl rfl rfl rfl ?_
     refine Tops_noU rfl rfl rfl rfl rfl ?_
     refine Tops_noU rfl rfl rfl rfl rfl ?_
     refine Tops_noU rfl rfl rfl rfl rfl ?_
     refine Tops_no rfl rfl (congrArg (fun b => some (Value.bool b)) hg4) rfl rfl ?_
     refine Tops_no rfl rfl (congrArg (fun b => some (Value.bool b)) hg4) rfl rfl ?_
     refine Tops_noU rfl rfl rfl rfl rfl ?_
     refine Tops_noU rfl rfl rfl rfl rfl ?_
     refine Tops_noU rfl rfl rfl rfl rfl ?_
     refine Tops_no rfl rfl (congrArg (fun b => some (Value.bool b)) hg4) rfl rfl ?_
     refine Tops_step rfl (OpT_pickT rfl rfl rfl (congrArg (fun b => some (Value.bool b)) hg4) rfl) ?_
     refine Tops_nil (Tk_wkS (fr' := [(0, some (vl1)), (2, some (.pointer (some ⟨b1, 0, none⟩))), (3, some (.pointer (some ⟨b2, 0, none⟩))), (10, some (vl1)), (11, some (vI (len l))), (12, some (vI x1)), (5, some (.pointer (some ⟨b3, 0, none⟩))), (46, some (vB true))]) (own' := [some (cellsR b1 30 [vI m1]), some (cellsR b2 28 [vU64 m2]), some (cellsR b3 57 [vU64 s1.At, vU32 s1.Len, vB s1.Write])]) (shr' := [Fact.sl SegS vl1 l]) [0, 2, 3, 10, 11, 12, 5, 46] [0, 1, 2] [0] rfl rfl rfl rfl ?_)
     refine Tk_condT rfl ?_
     refine Tk_seq (Tk_region (Tops_step rfl (OpT_storeC (cs' := [vI (2 : Int)]) rfl rfl rfl rfl tyF30 (i := 0) rfl rfl rfl (one_of rfl) rfl) ?_))
     refine Tops_nil (Tk_wkS (fr' := [(2, some (.pointer (some ⟨b1, 0, none⟩)))]) (own' := [some (cellsR b1 30 [vI (2 : Int)]), some (cellsR b2 28 [vU64 m2])]) (shr' := []) [2] [0, 1] [] rfl rfl rfl rfl ?_)
     obtain ⟨check2, hx3, h⟩ := ob_e h
     obtain rfl := Option.some.inj h
     refine Tk_retD rfl (f := 57) (cp := [.pointer (some ⟨b1, 0, none⟩), .pointer (some ⟨b2, 0, none⟩)]) rfl callee57 (wb_seg_Check_1 hx3).ctrD [0, 1] [] rfl rfl rfl ?_
     rintro _ _ _ ⟨rfl, rfl, rfl⟩
     exact Tleave_mk (resA (vs := [vI check2]) rfl ⟨⟨_, 2, _, _, _, rfl, rfl, .inr ⟨tyF30, rfl⟩⟩, trivial⟩) [] [] rfl rfl rfl ⟨rfl, rfl, rfl⟩
    ·replace h := br_f hg4 h
     refine Tops_yes rfl rfl (congrArg (fun b => some (Value.bool b)) hg4) (OpT_move rfl rfl rfl rfl) ?_
     rintro _ rfl
     refine Tops_yes rfl rfl (congrArg (fun b => some (Value.bool b)) hg4) (OpT_bin rfl rfl rfl rfl rfl (bin_gtr_i (a := x1) (b := (0 : Int)))) ?_
     rintro _ rfl
     refine Tops_yes rfl rfl (congrArg (fun b => some (Value.bool b)) hg4) (OpT_move rfl rfl rfl rfl) ?_
     rintro _ rfl
     rcases Bool.eq_false_or_eq_true (decide (x1 > (0 : Int))) with hg5 | hg5
     ·replace h := br_t hg5 h
      refine Tops_yes rfl rfl (congrArg (fun b => some (Value.bool b)) hg5) (OpT_move rfl rfl rfl rfl) ?_
      rintro _ rfl
      refine Tops_yes rfl rfl (congrArg (fun b => some (Value.bool b)) hg5) (OpT_move rfl rfl rfl rfl) ?_
      rintro _ rfl
      refine Tops_yes rfl rfl (congrArg (fun b => some (Value.bool b)) hg5) (OpT_bin rfl rfl rfl rfl rfl (bin_sub_i (a := x1) (b := (1 : Int)))) ?_
      rintro _ rfl
      obtain ⟨s2, hx4, h⟩ := ob_e h
      refine Tops_yes rfl rfl (congrArg (fun b => some (Value.bool b)) hg5) (OpT_idxS rfl rfl rfl rfl rfl slF58 (i := 0) rfl hx4) ?_
      rintro _ ⟨p2, rfl⟩
      refine Tops_yes rfl rfl (congrArg (fun b => some (Value.bool b)) hg5) (OpT_fieldP (S' := bS) (y := s2.Write) rfl rfl rfl rfl fldF57x2 (i := 1) rfl (by intro h cs hr; subst hr; rfl)) ?_
      rintro _ ⟨p3, rfl⟩
      refine Tops_yes rfl rfl (congrArg (fun b => some (Value.bool b)) hg5) (OpT_loadP rfl rfl rfl rfl tyF4 (i := 2) rfl rfl) ?_
      rintro _ rfl
      refine Tops_yes rfl rfl (congrArg (fun b => some (Value.bool b)) hg4) (OpT_pickT rfl rfl rfl (congrArg (fun b => some (Value.bool b)) hg5) rfl) ?_
      rintro _ rfl
      refine Tops_yes rfl rfl (congrArg (fun b => some (Value.bool b)) hg4) (OpT_move rfl rfl rfl rfl) ?_
      rintro _ rfl
      rcases Bool.eq_false_or_eq_true (s2.Write) with hg6 | hg6
      ·replace h := br_t hg6 h
       refine Tops_yes rfl rfl (congrArg (fun b => some (Value.bool b)) hg6) (OpT_fieldC rfl rfl rfl rfl fldF57x2) ?_
       rintro _ rfl
       refine Tops_yes rfl rfl (congrArg (fun b => some (Value.bool b)) hg6) (OpT_loadC rfl rfl rfl rfl tyF4 (i := 2) rfl rfl) ?_
       rintro _ rfl
       refine Tops_yes rfl rfl (congrArg (fun b => some (Value.bool b)) hg6) (OpT_not rfl rfl rfl rfl) ?_
       rintro _ rfl
       refine Tops_yes rfl rfl (congrArg (fun b => some (Value.bool b)) hg4) (OpT_pickT rfl rfl rfl (congrArg (fun b => some (Value.bool b)) hg6) rfl) ?_
       rintro _ rfl
       refine Tops_step rfl (OpT_pickF rfl rfl rfl (congrArg (fun b => some (Value.bool b)) hg4) rfl) ?_
       refine Tops_nil (Tk_wkS (fr' := [(0, some (vl1)), (2, some (.pointer (some ⟨b1, 0, none⟩))), (3, some (.pointer (some ⟨b2, 0, none⟩))), (10, some (vl1)), (11, some (vI (len l))), (12, some (vI x1)), (5, some (.pointer (some ⟨b3, 0, none⟩))), (46, some (vB (!s1.Write)))]) (own' := [some (cellsR b1 30 [vI m1]), some (cellsR b2 28 [vU64 m2]), some (cellsR b3 57 [vU64 s1.At, vU32 s1.Len, vB s1.Write])]) (shr' := [Fact.sl SegS vl1 l]) [0, 2, 3, 10, 11, 12, 5, 46] [0, 1, 2] [0] rfl rfl rfl rfl ?_)
       rcases Bool.eq_false_or_eq_true ((!s1.Write)) with hg7 | hg7
       ·replace h := br_t hg7 h
        refine Tk_condT (congrArg (fun b => some (Value.bool b)) hg7) ?_
        refine Tk_seq (Tk_region (Tops_step rfl (OpT_storeC (cs' := [vI (2 : Int)]) rfl rfl rfl rfl tyF30 (i := 0) rfl rfl rfl (one_of rfl) rfl) ?_))
        refine Tops_nil (Tk_wkS (fr' := [(2, some (.pointer (some ⟨b1, 0, none⟩)))]) (own' := [some (cellsR b1 30 [vI (2 : Int)]), some (cellsR b2 28 [vU64 m2])]) (shr' := []) [2] [0, 1] [] rfl rfl rfl rfl ?_)
        obtain ⟨check3, hx5, h⟩ := ob_e h
        obtain rfl := Option.some.inj h
        refine Tk_retD rfl (f := 57) (cp := [.pointer (some ⟨b1, 0, none⟩), .pointer (some ⟨b2, 0, none⟩)]) rfl callee57 (wb_seg_Check_1 hx5).ctrD [0, 1] [] rfl rfl rfl ?_
        rintro _ _ _ ⟨rfl, rfl, rfl⟩
        exact Tleave_mk (resA (vs := [vI check3]) rfl ⟨⟨_, 2, _, _, _, rfl, rfl, .inr ⟨tyF30, rfl⟩⟩, trivial⟩) [] [] rfl rfl rfl ⟨rfl, rfl, rfl⟩
       ·replace h := br_f hg7 h
        refine Tk_condF (congrArg (fun b => some (Value.bool b)) hg7) ?_
        refine Tk_skip (Tk_region (Tops_step rfl (OpT_loadC rfl rfl rfl rfl tyF28 (i := 1) rfl rfl) ?_))
        refine Tops_step rfl (OpT_fieldC rfl rfl rfl rfl fldF57x1) ?_
        refine Tops_step rfl (OpT_loadC rfl rfl rfl rfl tyF48 (i := 2) rfl rfl) ?_
        refine Tops_step rfl (OpT_cnv rfl rfl rfl rfl (cnv_u32_u64 (n := s1.Len) Try.underlying48 Try.underlying28)) ?_
        refine Tops_step rfl (OpT_bin rfl rfl rfl rfl rfl (bin_add_u64 (a := m2) (b := s1.Len.toUInt64))) ?_
        refine Tops_step rfl (OpT_storeC (cs' := [vU64 (m2 + s1.Len.toUInt64)]) rfl rfl rfl rfl tyF28 (i := 1) rfl rfl rfl (one_of rfl) rfl) ?_
        refine Tops_nil (Tk_wkS (fr' := [(0, some (vl1)), (2, some (.pointer (some ⟨b1, 0, none⟩))), (3, some (.pointer (some ⟨b2, 0, none⟩))), (10, some (vl1)), (11, some (vI (len l))), (12, some (vI x1))]) (own' := [some (cellsR b1 30 [vI m1]), some (cellsR b2 28 [vU64 (m2 + s1.Len.toUInt64)])]) (shr' := [Fact.sl SegS vl1 l]) [0, 2, 3, 10, 11, 12] [0, 1] [0] rfl rfl rfl rfl ?_)
        refine Tk_blk (Tk_region (Tops_step rfl (OpT_bin rfl rfl rfl rfl rfl (bin_add_i (a := x1) (b := (1 : Int)))) ?_))
        refine Tops_step rfl (OpT_move rfl rfl rfl rfl) ?_
        refine Tops_nil (Tk_wkS (fr' := [(0, some (vl1)), (2, some (.pointer (some ⟨b1, 0, none⟩))), (3, some (.pointer (some ⟨b2, 0, none⟩))), (10, some (vl1)), (11, some (vI (len l))), (12, some (vI (wi (x1 + (1 : Int)))))]) (own' := [some (cellsR b1 30 [vI m1]), some (cellsR b2 28 [vU64 (m2 + s1.Len.toUInt64)])]) (shr' := [Fact.sl SegS vl1 l]) [0, 2, 3, 10, 11, 12] [0, 1] [0] rfl rfl rfl rfl ?_)
        exact Tk_backS (m1, m2 + s1.Len.toUInt64, wi (x1 + (1 : Int))) h [0, 2, 3, 10, 11, 12] [0, 1] [0] rfl rfl rfl rfl rfl
      ·replace h := br_f hg6 h
       refine Tops_no rfl rfl (congrArg (fun b => some (Value.bool b)) hg6) rfl rfl ?_
       refine Tops_no rfl rfl (congrArg (fun b => some (Value.bool b)) hg6) rfl rfl ?_
       refine Tops_no rfl rfl (congrArg (fun b => some (Value.bool b)) hg6) rfl rfl ?_
       refine Tops_yes rfl rfl (congrArg (fun b => some (Value.bool b)) hg4) (OpT_pickF rfl rfl rfl (congrArg (fun b => some (Value.bool b)) hg6) rfl) ?_
       rintro _ rfl
       refine Tops_step rfl (OpT_pickF rfl rfl rfl (congrArg (fun b => some (Value.bool b)) hg4) rfl) ?_
       refine Tops_nil (Tk_wkS (fr' := [(0, some (vl1)), (2, some (.pointer (some ⟨b1, 0, none⟩))), (3, some (.pointer (some ⟨b2, 0, none⟩))), (10, some (vl1)), (11, some (vI (len l))), (12, some (vI x1)), (5, some (.pointer (some ⟨b3, 0, none⟩))), (46, some (vB false))]) (own' := [some (cellsR b1 30 [vI m1]), some (cellsR b2 28 [vU64 m2]), some (cellsR b3 57 [vU64 s1.At, vU32 s1.Len, vB s1.Write])]) (shr' := [Fact.sl SegS vl1 l]) [0, 2, 3, 10, 11, 12, 5, 46] [0, 1, 2] [0] rfl rfl rfl rfl ?_)
       refine Tk_condF rfl ?_
       refine Tk_skip (Tk_region (Tops_step rfl (OpT_loadC rfl rfl rfl rfl tyF28 (i := 1) rfl rfl) ?_))
       refine Tops_step rfl (OpT_fieldC rfl rfl rfl rfl fldF57x1) ?_
       refine Tops_step rfl (OpT_loadC rfl rfl rfl rfl tyF48 (i := 2) rfl rfl) ?_
       refine Tops_step rfl (OpT_cnv rfl rfl rfl rfl (cnv_u32_u64 (n := s1.Len) Try.underlying48 Try.underlying28)) ?_
       refine Tops_step rfl (OpT_bin rfl rfl rfl rfl rfl (bin_add_u64 (a := m2) (b := s1.Len.toUInt64))) ?_
       refine Tops_step rfl (OpT_storeC (cs' := [vU64 (m2 + s1.Len.toUInt64)]) rfl rfl rfl rfl tyF28 (i := 1) rfl rfl rfl (one_of rfl) rfl) ?_
       refine Tops_nil (Tk_wkS (fr' := [(0, some (vl1)), (2, some (.pointer (some ⟨b1, 0, none⟩))), (3, some (.pointer (some ⟨b2, 0, none⟩))), (10, some (vl1)), (11, some (vI (len l))), (12, some (vI x1))]) (own' := [some (cellsR b1 30 [vI m1]), some (cellsR b2 28 [vU64 (m2 + s1.Len.toUInt64)])]) (shr' := [Fact.sl SegS vl1 l]) [0, 2, 3, 10, 11, 12] [0, 1] [0] rfl rfl rfl rfl ?_)
       refine Tk_blk (Tk_region (Tops_step rfl (OpT_bin rfl rfl rfl rfl rfl (bin_add_i (a := x1) (b := (1 : Int)))) ?_))
       refine Tops_step rfl (OpT_move rfl rfl rfl rfl) ?_
       refine Tops_nil (Tk_wkS (fr' := [(0, some (vl1)), (2, some (.pointer (some ⟨b1, 0, none⟩))), (3, some (.pointer (some ⟨b2, 0, none⟩))), (10, some (vl1)), (11, some (vI (len l))), (12, some (vI (wi (x1 + (1 : Int)))))]) (own' := [some (cellsR b1 30 [vI m1]), some (cellsR b2 28 [vU64 (m2 + s1.Len.toUInt64)])]) (shr' := [Fact.sl SegS vl1 l]) [0, 2, 3, 10, 11, 12] [0, 1] [0] rfl rfl rfl rfl ?_)
       exact Tk_backS (m1, m2 + s1.Len.toUInt64, wi (x1 + (1 : Int))) h [0, 2, 3, 10, 11, 12] [0, 1] [0] rfl rfl rfl rfl rfl
     ·replace h := br_f hg5 h
      refine Tops_no rfl rfl (congrArg (fun b => some (Value.bool b)) hg5) rfl rfl ?_
      refine Tops_no rfl rfl (congrArg (fun b => some (Value.bool b)) hg5) rfl rfl ?_
      refine Tops_no rfl rfl (congrArg (fun b => some (Value.bool b)) hg5) rfl rfl ?_
      refine Tops_no rfl rfl (congrArg (fun b => some (Value.bool b)) hg5) rfl rfl ?_
      refine Tops_no rfl rfl (congrArg (fun b => some (Value.bool b)) hg5) rfl rfl ?_
      refine Tops_no rfl rfl (congrArg (fun b => some (Value.bool b)) hg5) rfl rfl ?_
      refine Tops_yes rfl rfl (congrArg (fun b => some (Value.bool b)) hg4) (OpT_pickF rfl rfl rfl (congrArg (fun b => some (Value.bool b)) hg5) rfl) ?_
      rintro _ rfl
      refine Tops_yes rfl rfl (congrArg (fun b => some (Value.bool b)) hg4) (OpT_move rfl rfl rfl rfl) ?_
      rintro _ rfl
      refine Tops_no rfl rfl rfl rfl rfl ?_
      refine Tops_no rfl rfl rfl rfl rfl ?_
      refine Tops_no rfl rfl rfl rfl rfl ?_
      refine Tops_yes rfl rfl (congrArg (fun b => some (Value.bool b)) hg4) (OpT_pickF rfl rfl rfl rfl rfl) ?_
      rintro _ rfl
      refine Tops_step rfl (OpT_pickF rfl rfl rfl (congrArg (fun b => some (Value.bool b)) hg4) rfl) ?_
      refine Tops_nil (Tk_wkS (fr' := [(0, some (vl1)), (2, some (.pointer (some ⟨b1, 0, none⟩))), (3, some (.pointer (some ⟨b2, 0, none⟩))), (10, some (vl1)), (11, some (vI (len l))), (12, some (vI x1)), (5, some (.pointer (some ⟨b3, 0, none⟩))), (46, some (vB false))]) (own' := [some (cellsR b1 30 [vI m1]), some (cellsR b2 28 [vU64 m2]), some (cellsR b3 57 [vU64 s1.At, vU32 s1.Len, vB s1.Write])]) (shr' := [Fact.sl SegS vl1 l]) [0, 2, 3, 10, 11, 12, 5, 46] [0, 1, 2] [0] rfl rfl rfl rfl ?_)
      refine Tk_condF rfl ?_
      refine Tk_skip (Tk_region (Tops_step rfl (OpT_loadC rfl rfl rfl rfl tyF28 (i := 1) rfl rfl) ?_))
      refine Tops_step rfl (OpT_fieldC rfl rfl rfl rfl fldF57x1) ?_
      refine Tops_step rfl (OpT_loadC rfl rfl rfl rfl tyF48 (i := 2) rfl rfl) ?_
      refine Tops_step rfl (OpT_cnv rfl rfl rfl rfl (cnv_u32_u64 (n := s1.Len) Try.underlying48 Try.underlying28)) ?_
      refine Tops_step rfl (OpT_bin rfl rfl rfl rfl rfl (bin_add_u64 (a := m2) (b := s1.Len.toUInt64))) ?_
      refine Tops_step rfl (OpT_storeC (cs' := [vU64 (m2 + s1.Len.toUInt64)]) rfl rfl rfl rfl tyF28 (i := 1) rfl rfl rfl (one_of rfl) rfl) ?_
      refine Tops_nil (Tk_wkS (fr' := [(0, some (vl1)), (2, some (.pointer (some ⟨b1, 0, none⟩))), (3, some (.pointer (some ⟨b2, 0, none⟩))), (10, some (vl1)), (11, some (vI (len l))), (12, some (vI x1))]) (own' := [some (cellsR b1 30 [vI m1]), some (cellsR b2 28 [vU64 (m2 + s1.Len.toUInt64)])]) (shr' := [Fact.sl SegS vl1 l]) [0, 2, 3, 10, 11, 12] [0, 1] [0] rfl rfl rfl rfl ?_)
      refine Tk_blk (Tk_region (Tops_step rfl (OpT_bin rfl rfl rfl rfl rfl (bin_add_i (a := x1) (b := (1 : Int)))) ?_))
      refine Tops_step rfl (OpT_move rfl rfl rfl rfl) ?_
      refine Tops_nil (Tk_wkS (fr' := [(0, some (vl1)), (2, some (.pointer (some ⟨b1, 0, none⟩))), (3, some (.pointer (some ⟨b2, 0, none⟩))), (10, some (vl1)), (11, some (vI (len l))), (12, some (vI (wi (x1 + (1 : Int)))))]) (own' := [some (cellsR b1 30 [vI m1]), some (cellsR b2 28 [vU64 (m2 + s1.Len.toUInt64)])]) (shr' := [Fact.sl SegS vl1 l]) [0, 2, 3, 10, 11, 12] [0, 1] [0] rfl rfl rfl rfl ?_)
      exact Tk_backS (m1, m2 + s1.Len.toUInt64, wi (x1 + (1 : Int))) h [0, 2, 3, 10, 11, 12] [0, 1] [0] rfl rfl rfl rfl rfl
  ·replace h := br_f hg2 h
   refine Tk_condF (congrArg (fun b => some (Value.bool b)) hg2) ?_
   refine Tk_exit _ rfl ?_
   refine Tk_seq (Tk_region (Tops_step rfl (OpT_storeC (cs' := [vI (0 : Int)]) rfl rfl rfl rfl tyF30 (i := 0) rfl rfl rfl (one_of rfl) rfl) ?_))
   refine Tops_nil (Tk_wkS (fr' := [(2, some (.pointer (some ⟨b1, 0, none⟩)))]) (own' := [some (cellsR b1 30 [vI (0 : Int)]), some (cellsR b2 28 [vU64 m2])]) (shr' := []) [2] [0, 1] [] rfl rfl rfl rfl ?_)
   obtain ⟨check4, hx6, h⟩ := ob_e h
   obtain rfl := Option.some.inj h
   refine Tk_retD rfl (f := 57) (cp := [.pointer (some ⟨b1, 0, none⟩), .pointer (some ⟨b2, 0, none⟩)]) rfl callee57 (wb_seg_Check_1 hx6).ctrD [0, 1] [] rfl rfl rfl ?_
   rintro _ _ _ ⟨rfl, rfl, rfl⟩
   exact Tleave_mk (resA (vs := [vI check4]) rfl ⟨⟨_, 2, _, _, _, rfl, rfl, .inr ⟨tyF30, rfl⟩⟩, trivial⟩) [] [] rfl rfl rfl ⟨rfl, rfl, rfl⟩

set_option maxRecDepth 100000 in
set_option maxHeartbeats 4000000 in
theorem w_seg_Total {l : List Seg} {vl1 : Value} {r : (UInt64 × UInt64)} (h : seg_Total l = some r) :
  Ctr Try.prog 50 #[vl1] [] [Fact.sl SegS vl1 l]
   (fun rv own shr => rv = .tuple #[vU64 r.1, vU64 r.2] ∧ own = [] ∧ shr = []) := by
 unfold seg_Total at h
 refine Ctr.mk (args := [vl1]) Try.func50 rfl rfl (fun R0 w0 B => ?_)
 refine Tk_seq (Tk_region (Tops_step rfl (OpT_assign rfl rfl rfl rfl) ?_))
 refine Tops_step rfl (OpT_assign rfl rfl rfl rfl) ?_
 refine Tops_nil (Tk_seq (Tk_seq (Tk_region (Tops_step rfl (OpT_move rfl rfl rfl rfl) ?_))))
 obtain ⟨check1, hx1, h⟩ := ob_e h
 refine Tops_exP rfl (OpT_call (w_seg_Check hx1) [] [0] rfl rfl rfl rfl rfl callee48 rfl rfl rfl rfl) ?_
 rintro _ ⟨_, _, _, ⟨rfl, rfl, rfl⟩, rfl⟩
 refine Tops_step rfl (OpT_bin rfl rfl rfl rfl rfl (bin_neq_i (a := check1) (b := (0 : Int)))) ?_
 refine Tops_nil (Tk_wkS (fr' := [(0, some (vl1)), (2, some (vU64 (0 : UInt64))), (3, some (vU64 (0 : UInt64))), (8, some (vB (check1 != (0 : Int))))]) (own' := []) (shr' := [Fact.sl SegS vl1 l]) [0, 2, 3, 8] [] [0] rfl rfl rfl rfl ?_)
 rcases Bool.eq_false_or_eq_true (check1 != (0 : Int)) with hg1 | hg1
 ·replace h := br_t hg1 h
  refine Tk_condT (congrArg (fun b => some (Value.bool b)) hg1) ?_
  refine Tk_seq (Tk_region (Tops_step rfl (OpT_assign rfl rfl rfl rfl) ?_))
  refine Tops_step rfl (OpT_assign rfl rfl rfl rfl) ?_
  refine Tops_nil (Tk_wkS (fr' := [(2, some (vU64 (0 : UInt64))), (3, some (vU64 (0 : UInt64)))]) (own' := []) (shr' := []) [2, 3] [] [] rfl rfl rfl rfl ?_)
  obtain rfl := Option.some.inj h
  exact Tk_retV rfl rfl (resA (vs := [vU64 (0 : UInt64), vU64 (0 : UInt64)]) rfl ⟨rfl, rfl, trivial⟩) [] [] rfl rfl rfl ⟨rfl, rfl, rfl⟩
 ·replace h := br_f hg1 h
  refine Tk_condF (congrArg (fun b => some (Value.bool b)) hg1) ?_
  refine Tk_skip (Tk_seq (Tk_seq (Tk_region (Tops_step rfl (OpT_move rfl rfl rfl rfl) ?_))))
  refine Tops_step rfl (OpT_lenS rfl rfl rfl rfl Try.underlying58 (i := 0) rfl) ?_
  refine Tops_step rfl (OpT_move rfl rfl rfl rfl) ?_
  refine Tops_nil (Tk_wkS (fr' := [(2, some (vU64 (0 : UInt64))), (3, some (vU64 (0 : UInt64))), (9, some (vl1)), (10, some (vI (len l))), (11, some (vI (0 : Int)))]) (own' := []) (shr' := [Fact.sl SegS vl1 l]) [2, 3, 9, 10, 11] [] [0] rfl rfl rfl rfl ?_)
  refine Tk_block (Tk_loopS (σ := UInt64 × UInt64 × Int) [2, 3, 9, 10, 11] [] [0] (fun s => ⟨[(2, some (vU64 s.1)), (3, some (vU64 s.2.1)), (9, some (vl1)), (10, some (vI (len l))), (11, some (vI s.2.2))], [], [Fact.sl SegS vl1 l]⟩) (fun nf1 s => seg_TotalL1 l nf1 s.1 s.2.1 s.2.2 = some r) fuel ((0 : UInt64), (0 : UInt64), (0 : Int)) h rfl rfl rfl rfl rfl (fun s h => by cases h) ?_)
  rintro nf1 ⟨read1, write1, x1⟩ h
  replace h : seg_TotalL1B l (seg_TotalL1 l nf1) read1 write1 x1 = some r := h
  unfold seg_TotalL1B at h
  refine Tk_seq (Tk_region (Tops_step rfl (OpT_bin rfl rfl rfl rfl rfl (bin_lss_i (a := x1) (b := len l))) ?_))
  refine Tops_nil (Tk_seq ?_)
  rcases Bool.eq_false_or_eq_true (decide (x1 < (len l))) with hg2 | hg2
  ·replace h := br_t hg2 h
   refine Tk_condT (congrArg (fun b => some (Value.bool b)) hg2) ?_
   refine Tk_skip (Tk_seq (Tk_join (α := UInt64 × UInt64) (fun s => ⟨[(2, some (vU64 s.1)), (3, some (vU64 s.2)), (9, some (vl1)), (10, some (vI (len l))), (11, some (vI x1))], [], [Fact.sl SegS vl1 l]⟩) (fun s => seg_TotalJ2 x1 (seg_TotalL1 l nf1) s.1 s.2 = some r) ?_ ?_))
   ·rintro ⟨read2, write2⟩ h
    replace h : seg_TotalJ2 x1 (seg_TotalL1 l nf1) read2 write2 = some r := h
    unfold seg_TotalJ2 at h
    refine Tk_region (Tops_step rfl (OpT_bin rfl rfl rfl rfl rfl (bin_add_i (a := x1) (b := (1 : Int)))) ?_)
    refine Tops_step rfl (OpT_move rfl rfl rfl rfl) ?_
    refine Tops_nil (Tk_wkS (fr' := [(2, some (vU64 read2)), (3, some (vU64 write2)), (9, some (vl1)), (10, some (vI (len l))), (11, some (vI (wi (x1 + (1 : Int)))))]) (own' := []) (shr' := [Fact.sl SegS vl1 l]) [2, 3, 9, 10, 11] [] [0] rfl rfl rfl rfl ?_)
    exact Tk_backS (read2, write2, wi (x1 + (1 : Int))) h [2, 3, 9, 10, 11] [] [0] rfl rfl rfl rfl rfl
   ·intro HJ1
    refine Tk_block (Tk_seq (Tk_region ?_))
    obtain ⟨s1, hx2, h⟩ := ob_e h
    refine Tops_ex rfl (OpT_idxS rfl rfl rfl rfl rfl slF58 (i := 0) rfl hx2) fun p1 => ?_
    refine Tops_step rfl (OpT_loadPA (vs := [vU64 s1.At, vU32 s1.Len, vB s1.Write]) rfl rfl rfl rfl tyF57 (i := 1) rfl rfl) ?_
    refine Tops_ex rfl (OpT_alloc rfl rfl rfl tyZ57) fun b1 => ?_
    refine Tops_step rfl (OpT_storeC (cs' := [vU64 s1.At, vU32 s1.Len, vB s1.Write]) rfl rfl rfl rfl tyF57 (i := 0) rfl rfl rfl (one_of rfl) rfl) ?_
    refine Tops_nil (Tk_wkS (fr' := [(2, some (vU64 read1)), (3, some (vU64 write1)), (9, some (vl1)), (10, some (vI (len l))), (11, some (vI x1)), (5, some (.pointer (some ⟨b1, 0, none⟩)))]) (own' := [some (cellsR b1 57 [vU64 s1.At, vU32 s1.Len, vB s1.Write])]) (shr' := [Fact.sl SegS vl1 l]) [2, 3, 9, 10, 11, 5] [0] [0] rfl rfl rfl rfl ?_)
    refine Tk_seq (Tk_region (Tops_step rfl (OpT_fieldC rfl rfl rfl rfl fldF57x2) ?_))
    refine Tops_step rfl (OpT_loadC rfl rfl rfl rfl tyF4 (i := 0) rfl rfl) ?_
    refine Tops_nil (Tk_wkS (fr' := [(2, some (vU64 read1)), (3, some (vU64 write1)), (9, some (vl1)), (10, some (vI (len l))), (11, some (vI x1)), (5, some (.pointer (some ⟨b1, 0, none⟩))), (16, some (vB s1.Write))]) (own' := [some (cellsR b1 57 [vU64 s1.At, vU32 s1.Len, vB s1.Write])]) (shr' := [Fact.sl SegS vl1 l]) [2, 3, 9, 10, 11, 5, 16] [0] [0] rfl rfl rfl rfl ?_)
    refine Tk_join (α := UInt64 × UInt64) (fun s => ⟨[(2, some (vU64 s.1)), (3, some (vU64 s.2)), (9, some (vl1)), (10, some (vI (len l))), (11, some (vI x1))], [], [Fact.sl SegS vl1 l]⟩) (fun s => seg_TotalJ3 x1 (seg_TotalL1 l nf1) s.1 s.2 = some r) ?_ ?_
    ·rintro ⟨read3, write3⟩ h
     replace h : seg_TotalJ3 x1 (seg_TotalL1 l nf1) read3 write3 = some r := h
     unfold seg_TotalJ3 at h
     refine Tk_blk ?_
     exact Tk_jmpS (HJ1 (read3, write3) h) [2, 3, 9, 10, 11] [] [0] rfl rfl rfl rfl
    ·intro HJ2
     rcases Bool.eq_false_or_eq_true (s1.Write) with hg3 | hg3
     ·replace h := br_t hg3 h
      refine Tk_condT (congrArg (fun b => some (Value.bool b)) hg3) ?_
      refine Tk_region (Tops_step rfl (OpT_move rfl rfl rfl rfl) ?_)
      refine Tops_step rfl (OpT_fieldC rfl rfl rfl rfl fldF57x1) ?_
      refine Tops_step rfl (OpT_loadC rfl rfl rfl rfl tyF48 (i := 0) rfl rfl) ?_
      refine Tops_step rfl (OpT_cnv rfl rfl rfl rfl (cnv_u32_u64 (n := s1.Len) Try.underlying48 Try.underlying28)) ?_
      refine Tops_step rfl (OpT_bin rfl rfl rfl rfl rfl (bin_add_u64 (a := write1) (b := s1.Len.toUInt64))) ?_
      refine Tops_step rfl (OpT_assign rfl rfl rfl rfl) ?_
      refine Tops_nil (Tk_wkS (fr' := [(2, some (vU64 read1)), (3, some (vU64 (write1 + s1.Len.toUInt64))), (9, some (vl1)), (10, some (vI (len l))), (11, some (vI x1))]) (own' := []) (shr' := [Fact.sl SegS vl1 l]) [2, 3, 9, 10, 11] [] [0] rfl rfl rfl rfl ?_)
      exact Tk_jmpS (HJ2 (read1, write1 + s1.Len.toUInt64) h) [2, 3, 9, 10, 11] [] [0] rfl rfl rfl rfl
     ·replace h := br_f hg3 h
      refine Tk_condF (congrArg (fun b => some (Value.bool b)) hg3) ?_
      refine Tk_region (Tops_step rfl (OpT_move rfl rfl rfl rfl) ?_)
      refine Tops_step rfl (OpT_fieldC rfl rfl rfl rfl fldF57x1) ?_
      refine Tops_step rfl (OpT_loadC rfl rfl rfl rfl tyF48 (i := 0) rfl rfl) ?_
      refine Tops_step rfl (OpT_cnv rfl rfl rfl rfl (cnv_u32_u64 (n := s1.Len) Try.underlying48 Try.underlying28)) ?_
      refine Tops_step rfl (OpT_bin rfl rfl rfl rfl rfl (bin_add_u64 (a := read1) (b := s1.Len.toUInt64))) ?_
      refine Tops_step rfl (OpT_assign rfl rfl rfl rfl) ?_
      refine Tops_nil (Tk_wkS (fr' := [(2, some (vU64 (read1 + s1.Len.toUInt64))), (3, some (vU64 write1)), (9, some (vl1)), (10, some (vI (len l))), (11, some (vI x1))]) (own' := []) (shr' := [Fact.sl SegS vl1 l]) [2, 3, 9, 10, 11] [] [0] rfl rfl rfl rfl ?_)
      exact Tk_jmpS (HJ2 (read1 + s1.Len.toUInt64, write1) h) [2, 3, 9, 10, 11] [] [0] rfl rfl rfl rfl
  ·replace h := br_f hg2 h
   refine Tk_condF (congrArg (fun b => some (Value.bool b)) hg2) ?_
   refine Tk_exit _ rfl ?_
   refine Tk_seq (Tk_region (Tops_step rfl (OpT_move rfl rfl rfl rfl) ?_))
   refine Tops_step rfl (OpT_move rfl rfl rfl rfl) ?_
   refine Tops_step rfl (OpT_assign rfl rfl rfl rfl) ?_
   refine Tops_step rfl (OpT_assign rfl rfl rfl rfl) ?_
   refine Tops_nil (Tk_wkS (fr' := [(2, some (vU64 read1)), (3, some (vU64 write1))]) (own' := []) (shr' := []) [2, 3] [] [] rfl rfl rfl rfl ?_)
   obtain rfl := Option.some.inj h
   exact Tk_retV rfl rfl (resA (vs := [vU64 read1, vU64 write1]) rfl ⟨rfl, rfl, trivial⟩) [] [] rfl rfl rfl ⟨rfl, rfl, rfl⟩

set_option maxRecDepth 100000 in
set_option maxHeartbeats 4000000 in
theorem w_net_room {l : List Seg} {vl1 : Value} {r : UInt64} (h : net_room l = some r) :
  Ctr Try.prog 37 #[vl1] [] [Fact.sl SegS vl1 l]
   (fun rv own shr => rv = vU64 r ∧ own = [] ∧ shr = []) := by
 unfold net_room at h
 refine Ctr.mk (args := [vl1]) Try.func37 rfl rfl (fun R0 w0 B => ?_)
 refine Tk_seq (Tk_region (Tops_step rfl (OpT_assign rfl rfl rfl rfl) ?_))
 refine Tops_nil (Tk_wkS (fr' := [(0, some (vl1))]) (own' := []) (shr' := [Fact.sl SegS vl1 l]) [0] [] [0] rfl rfl rfl rfl ?_)
 refine Tk_seq (Tk_region (Tops_step rfl (OpT_move rfl rfl rfl rfl) ?_))
 obtain ⟨total1, hx1, h⟩ := ob_e h
 refine Tops_exP rfl (OpT_call (w_seg_Total hx1) [] [0] rfl rfl rfl rfl rfl callee50 rfl rfl rfl rfl) ?_
 rintro _ ⟨_, _, _, ⟨rfl, rfl, rfl⟩, rfl⟩
 refine Tops_step rfl (OpT_move rfl rfl rfl rfl) ?_
 refine Tops_step rfl (OpT_extract rfl rfl rfl rfl rfl) ?_
 refine Tops_step rfl (OpT_extract rfl rfl rfl rfl rfl) ?_
 refine Tops_step rfl (OpT_assign rfl rfl rfl rfl) ?_
 refine Tops_step rfl (OpT_assign rfl rfl rfl rfl) ?_
 refine Tops_nil (Tk_wkS (fr' := [(4, some (vU64 total1.2))]) (own' := []) (shr' := []) [4] [] [] rfl rfl rfl rfl ?_)
 refine Tk_seq (Tk_region (Tops_step rfl (OpT_move rfl rfl rfl rfl) ?_))
 refine Tops_step rfl (OpT_assign rfl rfl rfl rfl) ?_
 refine Tops_nil (Tk_wkS (fr' := [(2, some (vU64 total1.2))]) (own' := []) (shr' := []) [2] [] [] rfl rfl rfl rfl ?_)
 obtain rfl := Option.some.inj h
 exact Tk_retV rfl rfl (resA (vs := [vU64 total1.2]) rfl ⟨rfl, trivial⟩) [] [] rfl rfl rfl ⟨rfl, rfl, rfl⟩

set_option maxRecDepth 100000 in
set_option maxHeartbeats 4000000 in
theorem w_feat_Has {set : UInt64} {bit : Int} {r : Bool} (h : feat_Has set bit = some r) :
  Ctr Try.prog 35 #[vU64 set, vI bit] [] []
   (fun rv own shr => rv = vB r ∧ own = [] ∧ shr = []) := by
 unfold feat_Has at h
 refine Ctr.mk (args := [vU64 set, vI bit]) Try.func35 rfl rfl (fun R0 w0 B => ?_)
 refine Tk_seq (Tk_region (Tops_step rfl (OpT_assign rfl rfl rfl rfl) ?_))
 refine Tops_nil (Tk_wkS (fr' := [(0, some (vU64 set)), (1, some (vI bit))]) (own' := []) (shr' := []) [0, 1] [] [] rfl rfl rfl rfl ?_)
 refine Tk_seq (Tk_region (Tops_step rfl (OpT_move rfl rfl rfl rfl) ?_))
 refine Tops_step rfl (OpT_bin rfl rfl rfl rfl rfl (bin_geq_i (a := bit) (b := (0 : Int)))) ?_
 refine Tops_step rfl (OpT_move rfl rfl rfl rfl) ?_
 rcases Bool.eq_false_or_eq_true (decide (bit ≥ (0 : Int))) with hg1 | hg1
 ·replace h := br_t hg1 h
  refine Tops_yes rfl rfl (congrArg (fun b => some (Value.bool b)) hg1) (OpT_move rfl rfl rfl rfl) ?_
  rintro _ rfl
  refine Tops_yes rfl rfl (congrArg (fun b => some (Value.bool b)) hg1) (OpT_bin rfl rfl rfl rfl rfl (bin_leq_i (a := bit) (b := (63 : Int)))) ?_
  rintro _ rfl
  refine Tops_step rfl (OpT_pickT rfl rfl rfl (congrArg (fun b => some (Value.bool b)) hg1) rfl) ?_
  refine Tops_step rfl (OpT_move rfl rfl rfl rfl) ?_
  rcases Bool.eq_false_or_eq_true (decide (bit ≤ (63 : Int))) with hg2 | hg2
  ·replace h := br_t hg2 h
   refine Tops_yes rfl rfl (congrArg (fun b => some (Value.bool b)) hg2) (OpT_move rfl rfl rfl rfl) ?_
   rintro _ rfl
   refine Tops_yes rfl rfl (congrArg (fun b => some (Value.bool b)) hg2) (OpT_move rfl rfl rfl rfl) ?_
   rintro _ rfl
   obtain ⟨hc1, h⟩ := chk_e h
   refine Tops_yes rfl rfl (congrArg (fun b => some (Value.bool b)) hg2) (OpT_bin rfl rfl rfl rfl rfl (bin_shr_u64_i64 (a := set) (n := bit) hc1)) ?_
   rintro _ rfl
   refine Tops_yes rfl rfl (congrArg (fun b => some (Value.bool b)) hg2) (OpT_bin rfl rfl rfl rfl rfl (bin_and_u64 (a := shr64 set bit.toNat) (b := (1 : UInt64)))) ?_
   rintro _ rfl
   refine Tops_yes rfl rfl (congrArg (fun b => some (Value.bool b)) hg2) (OpT_bin rfl rfl rfl rfl rfl (bin_eql_u64 (a := (shr64 set bit.toNat) &&& (1 : UInt64)) (b := (1 : UInt64)))) ?_
   rintro _ rfl
   refine Tops_step rfl (OpT_pickT rfl rfl rfl (congrArg (fun b => some (Value.bool b)) hg2) rfl) ?_
   refine Tops_step rfl (OpT_assign rfl rfl rfl rfl) ?_
   refine Tops_nil (Tk_wkS (fr' := [(4, some (vB (((shr64 set bit.toNat) &&& (1 : UInt64)) == (1 : UInt64))))]) (own' := []) (shr' := []) [4] [] [] rfl rfl rfl rfl ?_)
   obtain rfl := Option.some.inj h
   exact Tk_retV rfl rfl (resA (vs := [vB (((shr64 set bit.toNat) &&& (1 : UInt64)) == (1 : UInt64))]) rfl ⟨rfl, trivial⟩) [] [] rfl rfl rfl ⟨rfl, rfl, rfl⟩
  ·replace h := br_f hg2 h
   refine Tops_no rfl rfl (congrArg (fun b => some (Value.bool b)) hg2) rfl rfl ?_
   refine Tops_no rfl rfl (congrArg (fun b => some (Value.bool b)) hg2) rfl rfl ?_
   refine Tops_no rfl rfl (congrArg (fun b => some (Value.bool b)) hg2) rfl rfl ?_
   refine Tops_no rfl rfl (congrArg (fun b => some (Value.bool b)) hg2) rfl rfl ?_
   refine Tops_no rfl rfl (congrArg (fun b => some (Value.bool b)) hg2) rfl rfl ?_
   refine Tops_step rfl (OpT_pickF rfl rfl rfl (congrArg (fun b => some (Value.bool b)) hg2) rfl) ?_
   refine Tops_step rfl (OpT_assign rfl rfl rfl rfl) ?_
   refine Tops_nil (Tk_wkS (fr' := [(4, some (vB false))]) (own' := []) (shr' := []) [4] [] [] rfl rfl rfl rfl ?_)
   obtain rfl := Option.some.inj h
   exact Tk_retV rfl rfl (resA (vs := [vB false]) rfl ⟨rfl, trivial⟩) [] [] rfl rfl rfl ⟨rfl, rfl, rfl⟩
 ·replace h := br_f hg1 h
  refine Tops_no rfl rfl (congrArg (fun b => some (Value.bool b)) hg1) rfl rfl ?_
  refine Tops_no rfl rfl (congrArg (fun b => some (Value.bool b)) hg1) rfl rfl ?_
  refine Tops_step rfl (OpT_pickF rfl rfl rfl (congrArg (fun b => some (Value.bool b)) hg1) rfl) ?_
  refine Tops_step rfl (OpT_move rfl rfl rfl rfl) ?_
  refine Tops_no rfl rfl rfl rfl rfl ?_
  refine Tops_no rfl rfl rfl rfl rfl ?_
  refine Tops_no rfl rfl rfl rfl rfl ?_
  refine Tops_no rfl rfl rfl rfl rfl ?_
  refine Tops_no rfl rfl rfl rfl rfl ?_
  refine Tops_step rfl (OpT_pickF rfl rfl rfl rfl rfl) ?_
  refine Tops_step rfl (OpT_assign rfl rfl rfl rfl) ?_
  refine Tops_nil (Tk_wkS (fr' := [(4, some (vB false))]) (own' := []) (shr' := []) [4] [] [] rfl rfl rfl rfl ?_)
  obtain rfl := Option.some.inj h
  exact Tk_retV rfl rfl (resA (vs := [vB false]) rfl ⟨rfl, trivial⟩) [] [] rfl rfl rfl ⟨rfl, rfl, rfl⟩

set_option maxRecDepth 100000 in
set_option maxHeartbeats 4000000 in
theorem w_net_Needs {feats : UInt64} {bufs : List (List Seg)} {np2 : Int} {vbufs1 : Value} {r : (Int × Bool)} (h : net_Needs feats bufs np2 = some r) :
  Ctr Try.prog 28 #[vU64 feats, vbufs1, vI np2] [] [Fact.sl (Shape.slice SegS) vbufs1 bufs]
   (fun rv own shr => rv = .tuple #[vI r.1, vB r.2] ∧ own = [] ∧ shr = []) := by
 unfold net_Needs at h
 refine Ctr.mk (args := [vU64 feats, vbufs1, vI np2]) Try.func28 rfl rfl (fun R0 w0 B => ?_)
 refine Tk_seq (Tk_region (Tops_step rfl (OpT_assign rfl rfl rfl rfl) ?_))
 refine Tops_step rfl (OpT_assign rfl rfl rfl rfl) ?_
 refine Tops_nil (Tk_wkS (fr' := [(0, some (vU64 feats)), (1, some (vbufs1)), (2, some (vI np2))]) (own' := []) (shr' := [Fact.sl (Shape.slice SegS) vbufs1 bufs]) [0, 1, 2] [] [0] rfl rfl rfl rfl ?_)
 refine Tk_scope ?_
 refine Tk_seq (Tk_region (Tops_step rfl (OpT_move rfl rfl rfl rfl) ?_))
 refine Tops_step rfl (OpT_max_i (u := np2) (v := (12 : Int)) rfl rfl rfl rfl rfl) ?_
 refine Tops_step rfl (OpT_cnv rfl rfl rfl rfl (cnv_i_u64 (n := maxi np2 (12 : Int)) Try.underlying3 Try.underlying28)) ?_
 refine Tops_step rfl (OpT_assign rfl rfl rfl rfl) ?_
 refine Tops_nil (Tk_wkS (fr' := [(0, some (vU64 feats)), (1, some (vbufs1)), (8, some (vU64 (u64 (maxi np2 (12 : Int)))))]) (own' := []) (shr' := [Fact.sl (Shape.slice SegS) vbufs1 bufs]) [0, 1, 8] [] [0] rfl rfl rfl rfl ?_)
 refine Tk_seq (Tk_region (Tops_step rfl (OpT_move rfl rfl rfl rfl) ?_))
 obtain ⟨has1, hx1, h⟩ := ob_e h
 refine Tops_exP rfl (OpT_call (w_feat_Has hx1) [] [] rfl rfl rfl rfl rfl callee35 rfl rfl rfl rfl) ?_
 rintro _ ⟨_, _, _, ⟨rfl, rfl, rfl⟩, rfl⟩
 refine Tops_step rfl (OpT_assign rfl rfl rfl rfl) ?_
 refine Tops_nil (Tk_wkS (fr' := [(1, some (vbufs1)), (8, some (vU64 (u64 (maxi np2 (12 : Int))))), (9, some (vB has1))]) (own' := []) (shr' := [Fact.sl (Shape.slice SegS) vbufs1 bufs]) [1, 8, 9] [] [0] rfl rfl rfl rfl ?_)
 refine Tk_seq (Tk_region (Tops_step rfl (OpT_assign rfl rfl rfl rfl) ?_))
 refine Tops_step rfl (OpT_assign rfl rfl rfl rfl) ?_
 refine Tops_nil (Tk_wkS (fr' := [(1, some (vbufs1)), (8, some (vU64 (u64 (maxi np2 (12 : Int))))), (9, some (vB has1)), (10, some (vU64 (0 : UInt64)))]) (own' := []) (shr' := [Fact.sl (Shape.slice SegS) vbufs1 bufs]) [1, 8, 9, 10] [] [0] rfl rfl rfl rfl ?_)
 refine Tk_seq (Tk_label ?_)
 refine Tk_seq (Tk_seq (Tk_region (Tops_step rfl (OpT_move rfl rfl rfl rfl) ?_)))
 refine Tops_step rfl (OpT_lenS rfl rfl rfl rfl Try.underlying33 (i := 0) rfl) ?_
 refine Tops_step rfl (OpT_move rfl rfl rfl rfl) ?_
 refine Tops_nil (Tk_wkS (fr' := [(8, some (vU64 (u64 (maxi np2 (12 : Int))))), (9, some (vB has1)), (10, some (vU64 (0 : UInt64))), (20, some (vbufs1)), (21, some (vI (len bufs))), (22, some (vI (0 : Int)))]) (own' := []) (shr' := [Fact.sl (Shape.slice SegS) vbufs1 bufs]) [8, 9, 10, 20, 21, 22] [] [0] rfl rfl rfl rfl ?_)
 refine Tk_block (Tk_loopS (σ := UInt64 × Int) [8, 9, 10, 20, 21, 22] [] [0] (fun s => ⟨[(8, some (vU64 (u64 (maxi np2 (12 : Int))))), (9, some (vB has1)), (10, some (vU64 s.1)), (20, some (vbufs1)), (21, some (vI (len bufs))), (22, some (vI s.2))], [], [Fact.sl (Shape.slice SegS) vbufs1 bufs]⟩) (fun nf1 s => net_NeedsL1 bufs np2 has1 nf1 s.1 s.2 = some r) fuel ((0 : UInt64), (0 : Int)) h rfl rfl rfl rfl rfl (fun s h => by cases h) ?_)
 rintro nf1 ⟨sum1, x1⟩ h
 replace h : net_NeedsL1B bufs np2 has1 (net_NeedsL1 bufs np2 has1 nf1) sum1 x1 = some r := h
 unfold net_NeedsL1B at h
 refine Tk_seq (Tk_region (Tops_step rfl (OpT_bin rfl rfl rfl rfl rfl (bin_lss_i (a := x1) (b := len bufs))) ?_))
 refine Tops_nil (Tk_seq ?_)
 rcases Bool.eq_false_or_eq_true (decide (x1 < (len bufs))) with hg1 | hg1
 ·replace h := br_t hg1 h
  refine Tk_condT (congrArg (fun b => some (Value.bool b)) hg1) ?_
  refine Tk_skip (Tk_seq (Tk_block (Tk_seq (Tk_region (Tops_step rfl (OpT_move rfl rfl rfl rfl) ?_)))))
  obtain ⟨y1, hx2, h⟩ := ob_e h
  refine Tops_ex rfl (OpT_idxS rfl rfl rfl rfl rfl slF33 (i := 0) rfl hx2) fun p1 => ?_
  refine Tops_ex rfl (OpT_loadPS rfl rfl rfl rfl tyF58 (i := 1) rfl) fun v1 => ?_
  refine Tops_step rfl (OpT_assign rfl rfl rfl rfl) ?_
  refine Tops_step rfl (OpT_assign rfl rfl rfl rfl) ?_
  refine Tops_nil (Tk_wkS (fr' := [(8, some (vU64 (u64 (maxi np2 (12 : Int))))), (9, some (vB has1)), (10, some (vU64 sum1)), (20, some (vbufs1)), (21, some (vI (len bufs))), (22, some (vI x1)), (12, some (vI x1)), (13, some (v1))]) (own' := []) (shr' := [Fact.sl (Shape.slice SegS) vbufs1 bufs, Fact.sl SegS v1 y1]) [8, 9, 10, 20, 21, 22, 12, 13] [] [0, 2] rfl rfl rfl rfl ?_)
  refine Tk_seq (Tk_region (Tops_step rfl (OpT_move rfl rfl rfl rfl) ?_))
  obtain ⟨room1, hx3, h⟩ := ob_e h
  refine Tops_exP rfl (OpT_call (w_net_room hx3) [] [1] rfl rfl rfl rfl rfl callee37 rfl rfl rfl rfl) ?_
  rintro _ ⟨_, _, _, ⟨rfl, rfl, rfl⟩, rfl⟩
  refine Tops_step rfl (OpT_assign rfl rfl rfl rfl) ?_
  refine Tops_nil (Tk_wkS (fr' := [(8, some (vU64 (u64 (maxi np2 (12 : Int))))), (9, some (vB has1)), (10, some (vU64 sum1)), (20, some (vbufs1)), (21, some (vI (len bufs))), (22, some (vI x1)), (12, some (vI x1)), (14, some (vU64 room1))]) (own' := []) (shr' := [Fact.sl (Shape.slice SegS) vbufs1 bufs]) [8, 9, 10, 20, 21, 22, 12, 14] [] [0] rfl rfl rfl rfl ?_)
  refine Tk_seq (Tk_region (Tops_step rfl (OpT_move rfl rfl rfl rfl) ?_))
  refine Tops_step rfl (OpT_move rfl rfl rfl rfl) ?_
  refine Tops_step rfl (OpT_bin rfl rfl rfl rfl rfl (bin_add_u64 (a := sum1) (b := room1))) ?_
  refine Tops_step rfl (OpT_assign rfl rfl rfl rfl) ?_
  refine Tops_nil (Tk_wkS (fr' := [(8, some (vU64 (u64 (maxi np2 (12 : Int))))), (9, some (vB has1)), (10, some (vU64 (sum1 + room1))), (20, some (vbufs1)), (21, some (vI (len bufs))), (22, some (vI x1)), (12, some (vI x1)), (14, some (vU64 room1))]) (own' := []) (shr' := [Fact.sl (Shape.slice SegS) vbufs1 bufs]) [8, 9, 10, 20, 21, 22, 12, 14] [] [0] rfl rfl rfl rfl ?_)
  refine Tk_seq (Tk_block (Tk_seq (Tk_seq (Tk_region (Tops_step rfl (OpT_move rfl rfl rfl rfl) ?_)))))
  refine Tops_step rfl (OpT_bin rfl rfl rfl rfl rfl (bin_eql_u64 (a := room1) (b := (0 : UInt64)))) ?_
  refine Tops_step rfl (OpT_assign rfl rfl rfl rfl) ?_
  refine Tops_nil (Tk_wkS (fr' := [(8, some (vU64 (u64 (maxi np2 (12 : Int))))), (9, some (vB has1)), (10, some (vU64 (sum1 + room1))), (20, some (vbufs1)), (21, some (vI (len bufs))), (22, some (vI x1)), (12, some (vI x1)), (14, some (vU64 room1)), (32, some (vB (room1 == (0 : UInt64))))]) (own' := []) (shr' := [Fact.sl (Shape.slice SegS) vbufs1 bufs]) [8, 9, 10, 20, 21, 22, 12, 14, 32] [] [0] rfl rfl rfl rfl ?_)
  refine Tk_join (α := Bool) (fun s => ⟨[(8, some (vU64 (u64 (maxi np2 (12 : Int))))), (9, some (vB has1)), (10, some (vU64 (sum1 + room1))), (20, some (vbufs1)), (21, some (vI (len bufs))), (22, some (vI x1)), (12, some (vI x1)), (32, some (vB s))], [], [Fact.sl (Shape.slice SegS) vbufs1 bufs]⟩) (fun s => net_NeedsJ2 np2 sum1 x1 (net_NeedsL1 bufs np2 has1 nf1) room1 s = some r) ?_ ?_
  ·rintro x2 h
   replace h : net_NeedsJ2 np2 sum1 x1 (net_NeedsL1 bufs np2 has1 nf1) room1 x2 = some r := h
   unfold net_NeedsJ2 at h
   rcases Bool.eq_false_or_eq_true (x2) with hg2 | hg2
   ·replace h := br_t hg2 h
    refine Tk_condT (congrArg (fun b => some (Value.bool b)) hg2) ?_
    refine Tk_exit _ rfl ?_
    refine Tk_seq (Tk_region (Tops_step rfl (OpT_assign rfl rfl rfl rfl) ?_))
    refine Tops_step rfl (OpT_assign rfl rfl rfl rfl) ?_
    refine Tops_nil (Tk_wkS (fr' := [(6, some (vI (0 : Int))), (7, some (vB false))]) (own' := []) (shr' := []) [6, 7] [] [] rfl rfl rfl rfl ?_)
    obtain rfl := Option.some.inj h
    exact Tk_retV rfl rfl (resA (vs := [vI (0 : Int), vB false]) rfl ⟨rfl, rfl, trivial⟩) [] [] rfl rfl rfl ⟨rfl, rfl, rfl⟩
   ·replace h := br_f hg2 h
    refine Tk_condF (congrArg (fun b => some (Value.bool b)) hg2) ?_
    refine Tk_skip (Tk_blk (Tk_seq (Tk_region (Tops_step rfl (OpT_move rfl rfl rfl rfl) ?_))))
    refine Tops_step rfl (OpT_bin rfl rfl rfl rfl rfl (bin_add_i (a := x1) (b := (1 : Int)))) ?_
    refine Tops_step rfl (OpT_assign rfl rfl rfl rfl) ?_
    refine Tops_nil (Tk_wkS (fr' := [(8, some (vU64 (u64 (maxi np2 (12 : Int))))), (9, some (vB has1)), (10, some (vU64 (sum1 + room1))), (20, some (vbufs1)), (21, some (vI (len bufs))), (22, some (vI x1)), (11, some (vI (wi (x1 + (1 : Int)))))]) (own' := []) (shr' := [Fact.sl (Shape.slice SegS) vbufs1 bufs]) [8, 9, 10, 20, 21, 22, 11] [] [0] rfl rfl rfl rfl ?_)
    refine Tk_seq (Tk_region (Tops_step rfl (OpT_move rfl rfl rfl rfl) ?_))
    refine Tops_step rfl (OpT_move rfl rfl rfl rfl) ?_
    refine Tops_step rfl (OpT_bin rfl rfl rfl rfl rfl (bin_geq_u64 (a := sum1 + room1) (b := u64 (maxi np2 (12 : Int))))) ?_
    refine Tops_nil (Tk_wkS (fr' := [(8, some (vU64 (u64 (maxi np2 (12 : Int))))), (9, some (vB has1)), (10, some (vU64 (sum1 + room1))), (20, some (vbufs1)), (21, some (vI (len bufs))), (22, some (vI x1)), (11, some (vI (wi (x1 + (1 : Int))))), (51, some (vB (decide ((sum1 + room1) ≥ (u64 (maxi np2 (12 : Int)))))))]) (own' := []) (shr' := [Fact.sl (Shape.slice SegS) vbufs1 bufs]) [8, 9, 10, 20, 21, 22, 11, 51] [] [0] rfl rfl rfl rfl ?_)
    rcases Bool.eq_false_or_eq_true (decide ((sum1 + room1) ≥ (u64 (maxi np2 (12 : Int))))) with hg3 | hg3
    ·replace h := br_t hg3 h
     refine Tk_condT (congrArg (fun b => some (Value.bool b)) hg3) ?_
     refine Tk_seq (Tk_region (Tops_step rfl (OpT_move rfl rfl rfl rfl) ?_))
     refine Tops_step rfl (OpT_assign rfl rfl rfl rfl) ?_
     refine Tops_step rfl (OpT_assign rfl rfl rfl rfl) ?_
     refine Tops_nil (Tk_wkS (fr' := [(6, some (vI (wi (x1 + (1 : Int))))), (7, some (vB true))]) (own' := []) (shr' := []) [6, 7] [] [] rfl rfl rfl rfl ?_)
     obtain rfl := Option.some.inj h
     exact Tk_retV rfl rfl (resA (vs := [vI (wi (x1 + (1 : Int))), vB true]) rfl ⟨rfl, rfl, trivial⟩) [] [] rfl rfl rfl ⟨rfl, rfl, rfl⟩
    ·replace h := br_f hg3 h
     refine Tk_condF (congrArg (fun b => some (Value.bool b)) hg3) ?_
     refine Tk_skip (Tk_blk (Tk_region (Tops_step rfl (OpT_bin rfl rfl rfl rfl rfl (bin_add_i (a := x1) (b := (1 : Int)))) ?_)))
     refine Tops_step rfl (OpT_move rfl rfl rfl rfl) ?_
     refine Tops_nil (Tk_wkS (fr' := [(8, some (vU64 (u64 (maxi np2 (12 : Int))))), (9, some (vB has1)), (10, some (vU64 (sum1 + room1))), (20, some (vbufs1)), (21, some (vI (len bufs))), (22, some (vI (wi (x1 + (1 : Int)))))]) (own' := []) (shr' := [Fact.sl (Shape.slice SegS) vbufs1 bufs]) [8, 9, 10, 20, 21, 22] [] [0] rfl rfl rfl rfl ?_)
     exact Tk_backS (sum1 + room1, wi (x1 + (1 : Int))) h [8, 9, 10, 20, 21, 22] [] [0] rfl rfl rfl rfl rfl
  ·intro HJ1
   rcases Bool.eq_false_or_eq_true (room1 == (0 : UInt64)) with hg4 | hg4
   ·replace h := br_t hg4 h
    refine Tk_condT (congrArg (fun b => some (Value.bool b)) hg4) ?_
    refine Tk_skip ?_
    exact Tk_jmpS (HJ1 (room1 == (0 : UInt64)) h) [8, 9, 10, 20, 21, 22, 12, 32] [] [0] rfl rfl rfl rfl
   ·replace h := br_f hg4 h
    refine Tk_condF (congrArg (fun b => some (Value.bool b)) hg4) ?_
    refine Tk_seq (Tk_region (Tops_step rfl (OpT_move rfl rfl rfl rfl) ?_))
    refine Tops_step rfl (OpT_bin rfl rfl rfl rfl rfl (bin_eql_i (a := x1) (b := (0 : Int)))) ?_
    refine Tops_step rfl (OpT_move rfl rfl rfl rfl) ?_
    rcases Bool.eq_false_or_eq_true (x1 == (0 : Int)) with hg5 | hg5
    ·replace h := br_t hg5 h
     refine Tops_yes rfl rfl (congrArg (fun b => some (Value.bool b)) hg5) (OpT_move rfl rfl rfl rfl) ?_
     rintro _ rfl
     refine Tops_yes rfl rfl (congrArg (fun b => some (Value.bool b)) hg5) (OpT_bin rfl rfl rfl rfl rfl (bin_lss_u64 (a := room1) (b := (12 : UInt64)))) ?_
     rintro _ rfl
     refine Tops_step rfl (OpT_pickT rfl rfl rfl (congrArg (fun b => some (Value.bool b)) hg5) rfl) ?_
     refine Tops_step rfl (OpT_assign rfl rfl rfl rfl) ?_
     refine Tops_nil (Tk_wkS (fr' := [(8, some (vU64 (u64 (maxi np2 (12 : Int))))), (9, some (vB has1)), (10, some (vU64 (sum1 + room1))), (20, some (vbufs1)), (21, some (vI (len bufs))), (22, some (vI x1)), (12, some (vI x1)), (32, some (vB (decide (room1 < (12 : UInt64)))))]) (own' := []) (shr' := [Fact.sl (Shape.slice SegS) vbufs1 bufs]) [8, 9, 10, 20, 21, 22, 12, 32] [] [0] rfl rfl rfl rfl ?_)
     rcases Bool.eq_false_or_eq_true (decide (room1 < (12 : UInt64))) with hg6 | hg6
     ·replace h := br_t hg6 h
      refine Tk_condT (congrArg (fun b => some (Value.bool b)) hg6) ?_
      refine Tk_skip ?_
      exact Tk_jmpS (HJ1 (decide (room1 < (12 : UInt64))) h) [8, 9, 10, 20, 21, 22, 12, 32] [] [0] rfl rfl rfl rfl
     ·replace h := br_f hg6 h
      refine Tk_condF (congrArg (fun b => some (Value.bool b)) hg6) ?_
      refine Tk_region (Tops_step rfl (OpT_move rfl rfl rfl rfl) ?_)
      refine Tops_step rfl (OpT_bin rfl rfl rfl rfl rfl (bin_gtr_i (a := x1) (b := (0 : Int)))) ?_
      refine Tops_step rfl (OpT_move rfl rfl rfl rfl) ?_
      rcases Bool.eq_false_or_eq_true (decide (x1 > (0 : Int))) with hg7 | hg7
      ·replace h := br_t hg7 h
       refine Tops_yes rfl rfl (congrArg (fun b => some (Value.bool b)) hg7) (OpT_move rfl rfl rfl rfl) ?_
       rintro _ rfl
       refine Tops_yes rfl rfl (congrArg (fun b => some (Value.bool b)) hg7) (OpT_not rfl rfl rfl rfl) ?_
       rintro _ rfl
       refine Tops_step rfl (OpT_pickT rfl rfl rfl (congrArg (fun b => some (Value.bool b)) hg7) rfl) ?_
       refine Tops_step rfl (OpT_assign rfl rfl rfl rfl) ?_
       refine Tops_nil (Tk_wkS (fr' := [(8, some (vU64 (u64 (maxi np2 (12 : Int))))), (9, some (vB has1)), (10, some (vU64 (sum1 + room1))), (20, some (vbufs1)), (21, some (vI (len bufs))), (22, some (vI x1)), (12, some (vI x1)), (32, some (vB (!has1)))]) (own' := []) (shr' := [Fact.sl (Shape.slice SegS) vbufs1 bufs]) [8, 9, 10, 20, 21, 22, 12, 32] [] [0] rfl rfl rfl rfl ?_)
       exact Tk_jmpS (HJ1 (!has1) h) [8, 9, 10, 20, 21, 22, 12, 32] [] [0] rfl rfl rfl rfl
      ·replace h := br_f hg7 h
       refine Tops_no rfl rfl (congrArg (fun b => some (Value.bool b)) hg7) rfl rfl ?_
       refine Tops_no rfl rfl (congrArg (fun b => some (Value.bool b)) hg7) rfl rfl ?_
       refine Tops_step rfl (OpT_pickF rfl rfl rfl (congrArg (fun b => some (Value.bool b)) hg7) rfl) ?_
       refine Tops_step rfl (OpT_assign rfl rfl rfl rfl) ?_
       refine Tops_nil (Tk_wkS (fr' := [(8, some (vU64 (u64 (maxi np2 (12 : Int))))), (9, some (vB has1)), (10, some (vU64 (sum1 + room1))), (20, some (vbufs1)), (21, some (vI (len bufs))), (22, some (vI x1)), (12, some (vI x1)), (32, some (vB false))]) (own' := []) (shr' := [Fact.sl (Shape.slice SegS) vbufs1 bufs]) [8, 9, 10, 20, 21, 22, 12, 32] [] [0] rfl rfl rfl rfl ?_)
       exact Tk_jmpS (HJ1 false h) [8, 9, 10, 20, 21, 22, 12, 32] [] [0] rfl rfl rfl rfl
    ·replace h := br_f hg5 h
     refine Tops_no rfl rfl (congrArg (fun b => some (Value.bool b)) hg5) rfl rfl ?_
     refine Tops_no rfl rfl (congrArg (fun b => some (Value.bool b)) hg5) rfl rfl ?_
     refine Tops_step rfl (OpT_pickF rfl rfl rfl (congrArg (fun b => some (Value.bool b)) hg5) rfl) ?_
     refine Tops_step rfl (OpT_assign rfl rfl rfl rfl) ?_
     refine Tops_nil (Tk_wkS (fr' := [(8, some (vU64 (u64 (maxi np2 (12 : Int))))), (9, some (vB has1)), (10, some (vU64 (sum1 + room1))), (20, some (vbufs1)), (21, some (vI (len bufs))), (22, some (vI x1)), (12, some (vI x1)), (32, some (vB false))]) (own' := []) (shr' := [Fact.sl (Shape.slice SegS) vbufs1 bufs]) [8, 9, 10, 20, 21, 22, 12, 32] [] [0] rfl rfl rfl rfl ?_)
     refine Tk_condF rfl ?_
     refine Tk_region (Tops_step rfl (OpT_move rfl rfl rfl rfl) ?_)
     refine Tops_step rfl (OpT_bin rfl rfl rfl rfl rfl (bin_gtr_i (a := x1) (b := (0 : Int)))) ?_
     refine Tops_step rfl (OpT_move rfl rfl rfl rfl) ?_
     rcases Bool.eq_false_or_eq_true (decide (x1 > (0 : Int))) with hg8 | hg8
     ·replace h := br_t hg8 h
      refine Tops_yes rfl rfl (congrArg (fun b => some (Value.bool b)) hg8) (OpT_move rfl rfl rfl rfl) ?_
      rintro _ rfl
      refine Tops_yes rfl rfl (congrArg (fun b => some (Value.bool b)) hg8) (OpT_not rfl rfl rfl rfl) ?_
      rintro _ rfl
      refine Tops_step rfl (OpT_pickT rfl rfl rfl (congrArg (fun b => some (Value.bool b)) hg8) rfl) ?_
      refine Tops_step rfl (OpT_assign rfl rfl rfl rfl) ?_
      refine Tops_nil (Tk_wkS (fr' := [(8, some (vU64 (u64 (maxi np2 (12 : Int))))), (9, some (vB has1)), (10, some (vU64 (sum1 + room1))), (20, some (vbufs1)), (21, some (vI (len bufs))), (22, some (vI x1)), (12, some (vI x1)), (32, some (vB (!has1)))]) (own' := []) (shr' := [Fact.sl (Shape.slice SegS) vbufs1 bufs]) [8, 9, 10, 20, 21, 22, 12, 32] [] [0] rfl rfl rfl rfl ?_)
      exact Tk_jmpS (HJ1 (!has1) h) [8, 9, 10, 20, 21, 22, 12, 32] [] [0] rfl rfl rfl rfl
     ·replace h := br_f hg8 h
      refine Tops_no rfl rfl (congrArg (fun b => some (Value.bool b)) hg8) rfl rfl ?_
      refine Tops_no rfl rfl (congrArg (fun b => some (Value.bool b)) hg8) rfl rfl ?_
      refine Tops_step rfl (OpT_pickF rfl rfl rfl (congrArg (fun b => some (Value.bool b)) hg8) rfl) ?_
      refine Tops_step rfl (OpT_assign rfl rfl rfl rfl) ?_
      refine Tops_nil (Tk_wkS (fr' := [(8, some (vU64 (u64 (maxi np2 (12 : Int))))), (9, some (vB has1)), (10, some (vU64 (sum1 + room1))), (20, some (vbufs1)), (21, some (vI (len bufs))), (22, some (vI x1)), (12, some (vI x1)), (32, some (vB false))]) (own' := []) (shr' := [Fact.sl (Shape.slice SegS) vbufs1 bufs]) [8, 9, 10, 20, 21, 22, 12, 32] [] [0] rfl rfl rfl rfl ?_)
      exact Tk_jmpS (HJ1 false h) [8, 9, 10, 20, 21, 22, 12, 32] [] [0] rfl rfl rfl rfl
 ·replace h := br_f hg1 h
  refine Tk_condF (congrArg (fun b => some (Value.bool b)) hg1) ?_
  refine Tk_exit _ rfl ?_
  refine Tk_seq (Tk_region (Tops_step rfl (OpT_assign rfl rfl rfl rfl) ?_))
  refine Tops_step rfl (OpT_assign rfl rfl rfl rfl) ?_
  refine Tops_nil (Tk_wkS (fr' := [(6, some (vI (0 : Int))), (7, some (vB false))]) (own' := []) (shr' := []) [6, 7] [] [] rfl rfl rfl rfl ?_)
  obtain rfl := Option.some.inj h
  exact Tk_retV rfl rfl (resA (vs := [vI (0 : Int), vB false]) rfl ⟨rfl, rfl, trivial⟩) [] [] rfl rfl rfl ⟨rfl, rfl, rfl⟩

set_option maxRecDepth 100000 in
set_option maxHeartbeats 4000000 in
theorem w_slices_Clone_bytebyte {sp0 : List UInt8} {vsp01 : Value} {r : (List UInt8)} (h : slices_Clone_bytebyte sp0 = some r) :
  Ctr Try.prog 44 #[vsp01] [] [Fact.sl u8S vsp01 sp0]
   (fun rv own shr => ∃ (w1 : Value), rv = w1 ∧ own = [(rowS u8S w1 r)] ∧ shr = []) := by
 unfold slices_Clone_bytebyte at h
 refine Ctr.mk (args := [vsp01]) Try.func44 rfl rfl (fun R0 w0 B => ?_)
 refine Tk_seq (Tk_region (Tops_step rfl (OpT_assign rfl rfl rfl rfl) ?_))
 refine Tops_nil (Tk_wkS (fr' := [(0, some (vsp01))]) (own' := []) (shr' := [Fact.sl u8S vsp01 sp0]) [0] [] [0] rfl rfl rfl rfl ?_)
 refine Tk_seq (Tk_seq (Tk_region (Tops_step rfl (OpT_move rfl rfl rfl rfl) ?_)))
 refine Tops_exP rfl (OpT_eqNil rfl rfl rfl (.inl rfl) rfl rfl Try.underlying24 (i := 0) rfl) ?_
 rintro _ ⟨q1, hq1, rfl⟩
 refine Tops_nil (Tk_wkS (fr' := [(0, some (vsp01)), (4, some (vB q1))]) (own' := []) (shr' := [Fact.sl u8S vsp01 sp0]) [0, 4] [] [0] rfl rfl rfl rfl ?_)
 rcases Bool.eq_false_or_eq_true q1 with hg1 | hg1
 ·obtain rfl := hq1 hg1
  replace h : some ([] : List UInt8) = some r := h
  refine Tk_condT (congrArg (fun b => some (Value.bool b)) hg1) ?_
  refine Tk_seq (Tk_region (Tops_step rfl (OpT_assign rfl rfl rfl rfl) ?_))
  refine Tops_nil (Tk_wkS (fr' := [(2, some (.slice none 0 0))]) (own' := []) (shr' := []) [2] [] [] rfl rfl rfl rfl ?_)
  refine Tk_nilrow u8S ?_
  obtain rfl := Option.some.inj h
  exact Tk_retV rfl rfl (resA (vs := [.slice none 0 0]) rfl ⟨rfl, trivial⟩) [0] [] rfl rfl rfl ⟨(.slice none 0 0), rfl, rfl, rfl⟩
 ·refine Tk_condF (congrArg (fun b => some (Value.bool b)) hg1) ?_
  refine Tk_skip (Tk_seq (Tk_region (Tops_ex rfl (OpT_buildSlice (S := u8S) (xs := ([] : List UInt8)) (css := []) (cs := []) (e := 5) rfl rfl rfl rfl (bldF slF24 (by decide) (by kernel_rfl)) rfl rfl rfl rfl (rel_plainD (S := u8S) (xs := ([] : List UInt8)) (css := []) rfl rfl)) fun v1 => ?_)))
  refine Tops_step rfl (OpT_move rfl rfl rfl rfl) ?_
  obtain ⟨hc1, h⟩ := chk_e h
  refine Tops_ex rfl (OpT_append rfl rfl rfl rfl rfl slF24 (i := 0) (j := 0) rfl rfl hc1) fun v2 => ?_
  refine Tops_step rfl (OpT_assign rfl rfl rfl rfl) ?_
  refine Tops_nil (Tk_wkS (fr' := [(2, some (v2))]) (own' := [some (rowS u8S v2 sp0)]) (shr' := []) [2] [0] [] rfl rfl rfl rfl ?_)
  obtain rfl := Option.some.inj h
  exact Tk_retV rfl rfl (resA (vs := [v2]) rfl ⟨rfl, trivial⟩) [0] [] rfl rfl rfl ⟨v2, rfl, rfl, rfl⟩

set_option maxRecDepth 100000 in
set_option maxHeartbeats 4000000 in
theorem w_gmem_Mem_Read {m : gmem_Mem} {atp1 : UInt64} {np2 : Int} {b_m : Nat} {vm1 : Value} {vm2 : Value} {vsm1 : List Value} {r : ((List UInt8) × Int)} (h : gmem_Mem_Read m atp1 np2 = some r) :
  Ctr Try.prog 26 #[.pointer (some ⟨b_m, 0, none⟩), vU64 atp1, vI np2] [(cellsR b_m 78 [vm1, vm2]), (rowsX u8S true vm2 vsm1 m.b none)] [Fact.sl RegionS vm1 m.l]
   (fun rv own shr => ∃ (w1 : Value), rv = .tuple #[w1, vI r.2] ∧ own = [(cellsR b_m 78 [vm1, vm2]), (rowsX u8S true vm2 vsm1 m.b none), (rowS u8S w1 r.1)] ∧ shr = []) := by
 unfold gmem_Mem_Read at h
 refine Ctr.mk (args := [.pointer (some ⟨b_m, 0, none⟩), vU64 atp1, vI np2]) Try.func26 rfl rfl (fun R0 w0 B => ?_)
 refine Tk_seq (Tk_region (Tops_step rfl (OpT_assign rfl rfl rfl rfl) ?_))
 refine Tops_step rfl (OpT_assign rfl rfl rfl rfl) ?_
 refine Tops_nil (Tk_wkS (fr' := [(0, some (.pointer (some ⟨b_m, 0, none⟩))), (1, some (vU64 atp1)), (2, some (vI np2))]) (own' := [some (cellsR b_m 78 [vm1, vm2]), some (rowsX u8S true vm2 vsm1 m.b none)]) (shr' := [Fact.sl RegionS vm1 m.l]) [0, 1, 2] [0, 1] [0] rfl rfl rfl rfl ?_)
 refine Tk_seq (Tk_seq (Tk_region (Tops_step rfl (OpT_move rfl rfl rfl rfl) ?_)))
 obtain ⟨made1, hx1, h⟩ := ob_e h
 refine Tops_exP rfl (OpT_callP [2, 3] (w_gmem_Mem_made hx1) [0, 1] [0] rfl rfl rfl rfl rfl callee31 rfl rfl rfl rfl rfl) ?_
 rintro _ ⟨_, _, _, ⟨rfl, rfl, rfl⟩, rfl⟩
 refine Tops_step rfl (OpT_not rfl rfl rfl rfl) ?_
 refine Tops_nil (Tk_wkS (fr' := [(0, some (.pointer (some ⟨b_m, 0, none⟩))), (1, some (vU64 atp1)), (2, some (vI np2)), (11, some (vB (!made1)))]) (own' := [some (cellsR b_m 78 [vm1, vm2]), some (rowsX u8S true vm2 vsm1 m.b none)]) (shr' := [Fact.sl RegionS vm1 m.l]) [0, 1, 2, 11] [0, 1] [0] rfl rfl rfl rfl ?_)
 refine Tk_condF (congrArg (fun b => some (Value.bool b)) (congrArg (!·) (Option.some.inj (show some true = some made1 from hx1)).symm)) ?_
 refine Tk_skip (Tk_seq (Tk_block (Tk_seq (Tk_region (Tops_step rfl (OpT_move rfl rfl rfl rfl) ?_)))))
 refine Tops_step rfl (OpT_bin rfl rfl rfl rfl rfl (bin_lss_i (a := np2) (b := (0 : Int)))) ?_
 refine Tops_step rfl (OpT_assign rfl rfl rfl rfl) ?_
 refine Tops_nil (Tk_wkS (fr' := [(0, some (.pointer (some ⟨b_m, 0, none⟩))), (1, some (vU64 atp1)), (2, some (vI np2)), (12, some (vB (decide (np2 < (0 : Int)))))]) (own' := [some (cellsR b_m 78 [vm1, vm2]), some (rowsX u8S true vm2 vsm1 m.b none)]) (shr' := [Fact.sl RegionS vm1 m.l]) [0, 1, 2, 12] [0, 1] [0] rfl rfl rfl rfl ?_)
 rcases Bool.eq_false_or_eq_true (decide (np2 < (0 : Int))) with hg1 | hg1
 ·replace h := br_t hg1 h
  refine Tk_condT (congrArg (fun b => some (Value.bool b)) hg1) ?_
  refine Tk_seq (Tk_region (Tops_step rfl (OpT_assign rfl rfl rfl rfl) ?_))
  refine Tops_step rfl (OpT_assign rfl rfl rfl rfl) ?_
  refine Tops_nil (Tk_wkS (fr' := [(6, some (.slice none 0 0)), (7, some (vI (2 : Int)))]) (own' := [some (cellsR b_m 78 [vm1, vm2]), some (rowsX u8S true vm2 vsm1 m.b none)]) (shr' := [Fact.sl RegionS vm1 m.l]) [6, 7] [0, 1] [0] rfl rfl rfl rfl ?_)
  refine Tk_nilrow u8S ?_
  obtain rfl := Option.some.inj h
  exact Tk_retV rfl rfl (resA (vs := [.slice none 0 0, vI (2 : Int)]) rfl ⟨rfl, rfl, trivial⟩) [0, 1, 2] [] rfl rfl rfl ⟨(.slice none 0 0), rfl, rfl, rfl⟩
 ·replace h := br_f hg1 h
  refine Tk_condF (congrArg (fun b => some (Value.bool b)) hg1) ?_
  refine Tk_seq (Tk_region (Tops_step rfl (OpT_move rfl rfl rfl rfl) ?_))
  refine Tops_step rfl (OpT_bin rfl rfl rfl rfl rfl (bin_eql_i (a := np2) (b := (0 : Int)))) ?_
  refine Tops_step rfl (OpT_assign rfl rfl rfl rfl) ?_
  refine Tops_nil (Tk_wkS (fr' := [(0, some (.pointer (some ⟨b_m, 0, none⟩))), (1, some (vU64 atp1)), (2, some (vI np2)), (15, some (vB (np2 == (0 : Int))))]) (own' := [some (cellsR b_m 78 [vm1, vm2]), some (rowsX u8S true vm2 vsm1 m.b none)]) (shr' := [Fact.sl RegionS vm1 m.l]) [0, 1, 2, 15] [0, 1] [0] rfl rfl rfl rfl ?_)
  rcases Bool.eq_false_or_eq_true (np2 == (0 : Int)) with hg2 | hg2
  ·replace h := br_t hg2 h
   refine Tk_condT (congrArg (fun b => some (Value.bool b)) hg2) ?_
   refine Tk_seq (Tk_region (Tops_step rfl (OpT_assign rfl rfl rfl rfl) ?_))
   refine Tops_step rfl (OpT_assign rfl rfl rfl rfl) ?_
   refine Tops_nil (Tk_wkS (fr' := [(6, some (.slice none 0 0)), (7, some (vI (0 : Int)))]) (own' := [some (cellsR b_m 78 [vm1, vm2]), some (rowsX u8S true vm2 vsm1 m.b none)]) (shr' := [Fact.sl RegionS vm1 m.l]) [6, 7] [0, 1] [0] rfl rfl rfl rfl ?_)
   refine Tk_nilrow u8S ?_
   obtain rfl := Option.some.inj h
   exact Tk_retV rfl rfl (resA (vs := [.slice none 0 0, vI (0 : Int)]) rfl ⟨rfl, rfl, trivial⟩) [0, 1, 2] [] rfl rfl rfl ⟨(.slice none 0 0), rfl, rfl, rfl⟩
  ·replace h := br_f hg2 h
   refine Tk_condF (congrArg (fun b => some (Value.bool b)) hg2) ?_
   refine Tk_skip (Tk_blk (Tk_seq (Tk_region (Tops_step rfl (OpT_move rfl rfl rfl rfl) ?_))))
   refine Tops_step rfl (OpT_move rfl rfl rfl rfl) ?_
   refine Tops_step rfl (OpT_move rfl rfl rfl rfl) ?_
   refine Tops_step rfl (OpT_cnv rfl rfl rfl rfl (cnv_i_u64 (n := np2) Try.underlying3 Try.underlying28)) ?_
   obtain ⟨bytes1, hx2, h⟩ := ob_e h
   refine Tops_exP rfl (OpT_callP [2, 3] (w_gmem_Mem_bytes hx2) [0, 1] [0] rfl rfl rfl rfl rfl callee32 rfl rfl rfl rfl rfl) ?_
   rintro _ ⟨_, _, _, ⟨rfl, rfl, rfl⟩, rfl⟩
   refine Tops_step rfl (OpT_assign rfl rfl rfl rfl) ?_
   refine Tops_nil (Tk_wkS (fr' := [(8, some (winV 1 vsm1 bytes1))]) (own' := [some (cellsR b_m 78 [vm1, vm2]), some (rowsX u8S true vm2 vsm1 m.b none)]) (shr' := [Fact.sl RegionS vm1 m.l]) [8] [0, 1] [0] rfl rfl rfl rfl ?_)
   rcases onO_cases h with ⟨ho1, h⟩ | ⟨w1, ho1, h⟩
   ·refine Tk_eqv (x := winV 1 vsm1 bytes1) (y := .slice none 0 0) (by rw [ho1]; rfl) (fun z => ⟨[(8, some (z))], [some (cellsR b_m 78 [vm1, vm2]), some (rowsX u8S true vm2 vsm1 m.b none)], [Fact.sl RegionS vm1 m.l]⟩) ?_
    refine Tk_seq (Tk_seq (Tk_region (Tops_step rfl (OpT_move rfl rfl rfl rfl) ?_)))
    refine Tops_step rfl (OpT_eqNilN rfl rfl rfl (.inl rfl) rfl rfl Try.underlying24) ?_
    refine Tops_nil (Tk_wkS (fr' := [(8, some (.slice none 0 0)), (24, some (vB true))]) (own' := [some (cellsR b_m 78 [vm1, vm2]), some (rowsX u8S true vm2 vsm1 m.b none)]) (shr' := [Fact.sl RegionS vm1 m.l]) [8, 24] [0, 1] [0] rfl rfl rfl rfl ?_)
    refine Tk_condT rfl ?_
    refine Tk_seq (Tk_region (Tops_step rfl (OpT_assign rfl rfl rfl rfl) ?_))
    refine Tops_step rfl (OpT_assign rfl rfl rfl rfl) ?_
    refine Tops_nil (Tk_wkS (fr' := [(6, some (.slice none 0 0)), (7, some (vI (5 : Int)))]) (own' := [some (cellsR b_m 78 [vm1, vm2]), some (rowsX u8S true vm2 vsm1 m.b none)]) (shr' := [Fact.sl RegionS vm1 m.l]) [6, 7] [0, 1] [0] rfl rfl rfl rfl ?_)
    refine Tk_nilrow u8S ?_
    obtain rfl := Option.some.inj h
    exact Tk_retV rfl rfl (resA (vs := [.slice none 0 0, vI (5 : Int)]) rfl ⟨rfl, rfl, trivial⟩) [0, 1, 2] [] rfl rfl rfl ⟨(.slice none 0 0), rfl, rfl, rfl⟩
   ·refine Tk_eqv (x := winV 1 vsm1 bytes1) (y := subV (vsAt vsm1 (Int.toNat w1.1)) 1 (Int.toNat w1.2.1) (Int.toNat w1.2.2)) (by rw [ho1]; rfl) (fun z => ⟨[(8, some (z))], [some (cellsR b_m 78 [vm1, vm2]), some (rowsX u8S true vm2 vsm1 m.b none)], [Fact.sl RegionS vm1 m.l]⟩) ?_
    obtain ⟨row1, hx3, h⟩ := ob_e h
    refine Tk_vs (vs_focus (i := 1) (j := w1.1) rfl hx3) ?_
    obtain ⟨hc1, h⟩ := chk_e h
    refine Tk_seq (Tk_seq (Tk_region (Tops_step rfl (OpT_move rfl rfl rfl rfl) ?_)))
    obtain ⟨hc2, h⟩ := chk_e h
    refine Tops_step rfl (OpT_eqSub (S := u8S) (l := w1.2.1) (m := w1.2.2) rfl rfl rfl (.inl rfl) rfl rfl Try.underlying24 (i := 2) rfl hc1 hc2) ?_
    refine Tops_nil (Tk_wkS (fr' := [(8, some (subV (vsAt vsm1 (Int.toNat w1.1)) 1 (Int.toNat w1.2.1) (Int.toNat w1.2.2))), (24, some (vB false))]) (own' := [some (cellsR b_m 78 [vm1, vm2]), some (rowsX u8S true vm2 vsm1 m.b (some (Int.toNat w1.1, vsAt vsm1 (Int.toNat w1.1)))), some (rowS u8S (vsAt vsm1 (Int.toNat w1.1)) row1)]) (shr' := [Fact.sl RegionS vm1 m.l]) [8, 24] [0, 1, 2] [0] rfl rfl rfl rfl ?_)
    refine Tk_condF rfl ?_
    refine Tk_skip (Tk_seq (Tk_region (Tops_step rfl (OpT_move rfl rfl rfl rfl) ?_)))
    obtain ⟨cloneb1, hx4, h⟩ := ob_e h
    refine Tops_exP rfl (OpT_callB [2] [0, 1, 2, 3] (w_slices_Clone_bytebyte hx4) [] rfl rfl rfl rfl rfl callee44 rfl rfl rfl rfl rfl rfl (bor_cons (bor_sub (S := u8S) (l := w1.2.1) (m := w1.2.2) 2 rfl rfl hc1) bor_nil) (by rintro _ _ _ ⟨_, rfl, rfl, rfl⟩; exact ⟨rfl, (ri_cons (ri_row (S := u8S) rfl _ _) ri_nil)⟩)) ?_
    rintro _ ⟨v1, _, _, ⟨_, rfl, rfl, rfl⟩, rfl⟩
    refine Tops_step rfl (OpT_assign rfl rfl rfl rfl) ?_
    refine Tops_step rfl (OpT_assign rfl rfl rfl rfl) ?_
    refine Tops_nil (Tk_wkS (fr' := [(6, some (v1)), (7, some (vI (0 : Int)))]) (own' := [some (cellsR b_m 78 [vm1, vm2]), some (rowsX u8S true vm2 vsm1 m.b (some (Int.toNat w1.1, vsAt vsm1 (Int.toNat w1.1)))), some (rowS u8S (vsAt vsm1 (Int.toNat w1.1)) row1), some (rowS u8S v1 cloneb1)]) (shr' := [Fact.sl RegionS vm1 m.l]) [6, 7] [0, 1, 2, 3] [0] rfl rfl rfl rfl ?_)
    refine Tk_vs (vs_unfocus0 (i := 1) (q := 2) rfl rfl rfl hx3) ?_
    obtain rfl := Option.some.inj h
    exact Tk_retV rfl rfl (resA (vs := [v1, vI (0 : Int)]) rfl ⟨rfl, rfl, trivial⟩) [0, 1, 3] [] rfl rfl rfl ⟨v1, rfl, rfl, rfl⟩

set_option maxRecDepth 100000 in
set_option maxHeartbeats 4000000 in
theorem w_gmem_Mem_Has {m : gmem_Mem} {atp1 : UInt64} {np2 : UInt64} {b_m : Nat} {vm1 : Value} {vm2 : Value} {vsm1 : List Value} {r : Bool} (h : gmem_Mem_Has m atp1 np2 = some r) :
  Ctr Try.prog 49 #[.pointer (some ⟨b_m, 0, none⟩), vU64 atp1, vU64 np2] [(cellsR b_m 78 [vm1, vm2]), (rowsX u8S true vm2 vsm1 m.b none)] [Fact.sl RegionS vm1 m.l]
   (fun rv own shr => rv = vB r ∧ own = [(cellsR b_m 78 [vm1, vm2]), (rowsX u8S true vm2 vsm1 m.b none)] ∧ shr = []) := by
 unfold gmem_Mem_Has at h
 refine Ctr.mk (args := [.pointer (some ⟨b_m, 0, none⟩), vU64 atp1, vU64 np2]) Try.func49 rfl rfl (fun R0 w0 B => ?_)
 refine Tk_seq (Tk_region (Tops_step rfl (OpT_assign rfl rfl rfl rfl) ?_))
 refine Tops_nil (Tk_wkS (fr' := [(0, some (.pointer (some ⟨b_m, 0, none⟩))), (1, some (vU64 atp1)), (2, some (vU64 np2))]) (own' := [some (cellsR b_m 78 [vm1, vm2]), some (rowsX u8S true vm2 vsm1 m.b none)]) (shr' := [Fact.sl RegionS vm1 m.l]) [0, 1, 2] [0, 1] [0] rfl rfl rfl rfl ?_)
 refine Tk_seq (Tk_region (Tops_step rfl (OpT_move rfl rfl rfl rfl) ?_))
 obtain ⟨made1, hx1, h⟩ := ob_e h
 refine Tops_exP rfl (OpT_callP [2, 3] (w_gmem_Mem_made hx1) [0, 1] [0] rfl rfl rfl rfl rfl callee31 rfl rfl rfl rfl rfl) ?_
 rintro _ ⟨_, _, _, ⟨rfl, rfl, rfl⟩, rfl⟩
 refine Tops_step rfl (OpT_move rfl rfl rfl rfl) ?_
 refine Tops_yes rfl rfl (congrArg (fun b => some (Value.bool b)) (Option.some.inj (show some true = some made1 from hx1)).symm) (OpT_move rfl rfl rfl rfl) ?_
 rintro _ rfl
 refine Tops_yes rfl rfl (congrArg (fun b => some (Value.bool b)) (Option.some.inj (show some true = some made1 from hx1)).symm) (OpT_move rfl rfl rfl rfl) ?_
 rintro _ rfl
 refine Tops_yes rfl rfl (congrArg (fun b => some (Value.bool b)) (Option.some.inj (show some true = some made1 from hx1)).symm) (OpT_move rfl rfl rfl rfl) ?_
 rintro _ rfl
 obtain ⟨bytes1, hx2, h⟩ := ob_e h
 refine Tops_yes rfl rfl (congrArg (fun b => some (Value.bool b)) (Option.some.inj (show some true = some made1 from hx1)).symm) (OpT_callP [2, 3] (w_gmem_Mem_bytes hx2) [0, 1] [0] rfl rfl rfl rfl rfl callee32 rfl rfl rfl rfl rfl) ?_
 rintro _ ⟨_, _, _, ⟨rfl, rfl, rfl⟩, rfl⟩
 rcases onO_cases h with ⟨ho1, h⟩ | ⟨w1, ho1, h⟩
 ·rw [show (winV 1 vsm1 bytes1 : Value) = .slice none 0 0 from by rw [ho1]; rfl]
  refine Tops_yes rfl rfl (congrArg (fun b => some (Value.bool b)) (Option.some.inj (show some true = some made1 from hx1)).symm) (OpT_eqNilN rfl rfl rfl (.inr rfl) rfl rfl Try.underlying24) ?_
  rintro _ rfl
  refine Tops_step rfl (OpT_pickT rfl rfl rfl (congrArg (fun b => some (Value.bool b)) (Option.some.inj (show some true = some made1 from hx1)).symm) rfl) ?_
  refine Tops_step rfl (OpT_assign rfl rfl rfl rfl) ?_
  refine Tops_nil (Tk_wkS (fr' := [(6, some (vB false))]) (own' := [some (cellsR b_m 78 [vm1, vm2]), some (rowsX u8S true vm2 vsm1 m.b none)]) (shr' := [Fact.sl RegionS vm1 m.l]) [6] [0, 1] [0] rfl rfl rfl rfl ?_)
  obtain rfl := Option.some.inj h
  exact Tk_retV rfl rfl (resA (vs := [vB false]) rfl ⟨rfl, trivial⟩) [0, 1] [] rfl rfl rfl ⟨rfl, rfl, rfl⟩
 ·rw [show (winV 1 vsm1 bytes1 : Value) = subV (vsAt vsm1 (Int.toNat w1.1)) 1 (Int.toNat w1.2.1) (Int.toNat w1.2.2) from by rw [ho1]; rfl]
  obtain ⟨row1, hx3, h⟩ := ob_e h
  refine Tops_vs (vs_focus (i := 1) (j := w1.1) rfl hx3) ?_
  obtain ⟨hc1, h⟩ := chk_e h
  obtain ⟨hc2, h⟩ := chk_e h
  refine Tops_yes rfl rfl (congrArg (fun b => some (Value.bool b)) (Option.some.inj (show some true = some made1 from hx1)).symm) (OpT_eqSub (S := u8S) (l := w1.2.1) (m := w1.2.2) rfl rfl rfl (.inr rfl) rfl rfl Try.underlying24 (i := 2) rfl hc1 hc2) ?_
  rintro _ rfl
  refine Tops_step rfl (OpT_pickT rfl rfl rfl (congrArg (fun b => some (Value.bool b)) (Option.some.inj (show some true = some made1 from hx1)).symm) rfl) ?_
  refine Tops_step rfl (OpT_assign rfl rfl rfl rfl) ?_
  refine Tops_nil (Tk_wkS (fr' := [(6, some (vB true))]) (own' := [some (cellsR b_m 78 [vm1, vm2]), some (rowsX u8S true vm2 vsm1 m.b (some (Int.toNat w1.1, vsAt vsm1 (Int.toNat w1.1)))), some (rowS u8S (vsAt vsm1 (Int.toNat w1.1)) row1)]) (shr' := [Fact.sl RegionS vm1 m.l]) [6] [0, 1, 2] [0] rfl rfl rfl rfl ?_)
  refine Tk_vs (vs_unfocus0 (i := 1) (q := 2) rfl rfl rfl hx3) ?_
  obtain rfl := Option.some.inj h
  exact Tk_retV rfl rfl (resA (vs := [vB true]) rfl ⟨rfl, trivial⟩) [0, 1] [] rfl rfl rfl ⟨rfl, rfl, rfl⟩

set_option maxRecDepth 100000 in
set_option maxHeartbeats 4000000 in
theorem w_seg_In {m : gmem_Mem} {l : List Seg} {b_m : Nat} {vm1 : Value} {vm2 : Value} {vsm1 : List Value} {vl1 : Value} {r : Int} (h : seg_In m l = some r) :
  Ctr Try.prog 34 #[.pointer (some ⟨b_m, 0, none⟩), vl1] [(cellsR b_m 78 [vm1, vm2]), (rowsX u8S true vm2 vsm1 m.b none)] [Fact.sl RegionS vm1 m.l, Fact.sl SegS vl1 l]
   (fun rv own shr => rv = vI r ∧ own = [(cellsR b_m 78 [vm1, vm2]), (rowsX u8S true vm2 vsm1 m.b none)] ∧ shr = []) := by
 unfold seg_In at h
 refine Ctr.mk (args := [.pointer (some ⟨b_m, 0, none⟩), vl1]) Try.func34 rfl rfl (fun R0 w0 B => ?_)
 refine Tk_seq (Tk_region (Tops_step rfl (OpT_assign rfl rfl rfl rfl) ?_))
 refine Tops_nil (Tk_wkS (fr' := [(0, some (.pointer (some ⟨b_m, 0, none⟩))), (1, some (vl1))]) (own' := [some (cellsR b_m 78 [vm1, vm2]), some (rowsX u8S true vm2 vsm1 m.b none)]) (shr' := [Fact.sl RegionS vm1 m.l, Fact.sl SegS vl1 l]) [0, 1] [0, 1] [0, 1] rfl rfl rfl rfl ?_)
 refine Tk_seq (Tk_seq (Tk_region (Tops_step rfl (OpT_move rfl rfl rfl rfl) ?_)))
 obtain ⟨read1, hx1, h⟩ := ob_e h
 refine Tops_exP rfl (OpT_callP [2, 3, 4] (w_gmem_Mem_Read hx1) [0, 1] [0] rfl rfl rfl rfl rfl callee26 rfl rfl rfl rfl rfl) ?_
 rintro _ ⟨_, _, _, ⟨v1, rfl, rfl, rfl⟩, rfl⟩
 refine Tops_step rfl (OpT_move rfl rfl rfl rfl) ?_
 refine Tops_step rfl (OpT_extract rfl rfl rfl rfl rfl) ?_
 refine Tops_step rfl (OpT_extract rfl rfl rfl rfl rfl) ?_
 refine Tops_step rfl (OpT_assign rfl rfl rfl rfl) ?_
 refine Tops_step rfl (OpT_assign rfl rfl rfl rfl) ?_
 refine Tops_nil (Tk_wkS (fr' := [(0, some (.pointer (some ⟨b_m, 0, none⟩))), (1, some (vl1)), (6, some (vI read1.2))]) (own' := [some (cellsR b_m 78 [vm1, vm2]), some (rowsX u8S true vm2 vsm1 m.b none)]) (shr' := [Fact.sl RegionS vm1 m.l, Fact.sl SegS vl1 l]) [0, 1, 6] [0, 1] [0, 1] rfl rfl rfl rfl ?_)
 refine Tk_seq (Tk_region (Tops_step rfl (OpT_move rfl rfl rfl rfl) ?_))
 refine Tops_step rfl (OpT_bin rfl rfl rfl rfl rfl (bin_neq_i (a := read1.2) (b := (0 : Int)))) ?_
 refine Tops_nil (Tk_wkS (fr' := [(0, some (.pointer (some ⟨b_m, 0, none⟩))), (1, some (vl1)), (6, some (vI read1.2)), (16, some (vB (read1.2 != (0 : Int))))]) (own' := [some (cellsR b_m 78 [vm1, vm2]), some (rowsX u8S true vm2 vsm1 m.b none)]) (shr' := [Fact.sl RegionS vm1 m.l, Fact.sl SegS vl1 l]) [0, 1, 6, 16] [0, 1] [0, 1] rfl rfl rfl rfl ?_)
 rcases Bool.eq_false_or_eq_true (read1.2 != (0 : Int)) with hg1 | hg1
 ·replace h := br_t hg1 h
  refine Tk_condT (congrArg (fun b => some (Value.bool b)) hg1) ?_
  refine Tk_seq (Tk_region (Tops_step rfl (OpT_move rfl rfl rfl rfl) ?_))
  refine Tops_step rfl (OpT_assign rfl rfl rfl rfl) ?_
  refine Tops_nil (Tk_wkS (fr' := [(4, some (vI read1.2))]) (own' := [some (cellsR b_m 78 [vm1, vm2]), some (rowsX u8S true vm2 vsm1 m.b none)]) (shr' := [Fact.sl RegionS vm1 m.l]) [4] [0, 1] [0] rfl rfl rfl rfl ?_)
  obtain rfl := Option.some.inj h
  exact Tk_retV rfl rfl (resA (vs := [vI read1.2]) rfl ⟨rfl, trivial⟩) [0, 1] [] rfl rfl rfl ⟨rfl, rfl, rfl⟩
 ·replace h := br_f hg1 h
  refine Tk_condF (congrArg (fun b => some (Value.bool b)) hg1) ?_
  refine Tk_skip (Tk_seq (Tk_seq (Tk_region (Tops_step rfl (OpT_move rfl rfl rfl rfl) ?_))))
  obtain ⟨check1, hx2, h⟩ := ob_e h
  refine Tops_exP rfl (OpT_call (w_seg_Check hx2) [] [1] rfl rfl rfl rfl rfl callee48 rfl rfl rfl rfl) ?_
  rintro _ ⟨_, _, _, ⟨rfl, rfl, rfl⟩, rfl⟩
  refine Tops_step rfl (OpT_assign rfl rfl rfl rfl) ?_
  refine Tops_nil (Tk_wkS (fr' := [(0, some (.pointer (some ⟨b_m, 0, none⟩))), (1, some (vl1)), (7, some (vI check1))]) (own' := [some (cellsR b_m 78 [vm1, vm2]), some (rowsX u8S true vm2 vsm1 m.b none)]) (shr' := [Fact.sl RegionS vm1 m.l, Fact.sl SegS vl1 l]) [0, 1, 7] [0, 1] [0, 1] rfl rfl rfl rfl ?_)
  refine Tk_seq (Tk_region (Tops_step rfl (OpT_move rfl rfl rfl rfl) ?_))
  refine Tops_step rfl (OpT_bin rfl rfl rfl rfl rfl (bin_neq_i (a := check1) (b := (0 : Int)))) ?_
  refine Tops_nil (Tk_wkS (fr' := [(0, some (.pointer (some ⟨b_m, 0, none⟩))), (1, some (vl1)), (7, some (vI check1)), (21, some (vB (check1 != (0 : Int))))]) (own' := [some (cellsR b_m 78 [vm1, vm2]), some (rowsX u8S true vm2 vsm1 m.b none)]) (shr' := [Fact.sl RegionS vm1 m.l, Fact.sl SegS vl1 l]) [0, 1, 7, 21] [0, 1] [0, 1] rfl rfl rfl rfl ?_)
  rcases Bool.eq_false_or_eq_true (check1 != (0 : Int)) with hg2 | hg2
  ·replace h := br_t hg2 h
   refine Tk_condT (congrArg (fun b => some (Value.bool b)) hg2) ?_
   refine Tk_seq (Tk_region (Tops_step rfl (OpT_move rfl rfl rfl rfl) ?_))
   refine Tops_step rfl (OpT_assign rfl rfl rfl rfl) ?_
   refine Tops_nil (Tk_wkS (fr' := [(4, some (vI check1))]) (own' := [some (cellsR b_m 78 [vm1, vm2]), some (rowsX u8S true vm2 vsm1 m.b none)]) (shr' := [Fact.sl RegionS vm1 m.l]) [4] [0, 1] [0] rfl rfl rfl rfl ?_)
   obtain rfl := Option.some.inj h
   exact Tk_retV rfl rfl (resA (vs := [vI check1]) rfl ⟨rfl, trivial⟩) [0, 1] [] rfl rfl rfl ⟨rfl, rfl, rfl⟩
  ·replace h := br_f hg2 h
   refine Tk_condF (congrArg (fun b => some (Value.bool b)) hg2) ?_
   refine Tk_skip (Tk_seq (Tk_seq (Tk_region (Tops_step rfl (OpT_move rfl rfl rfl rfl) ?_))))
   refine Tops_step rfl (OpT_lenS rfl rfl rfl rfl Try.underlying58 (i := 1) rfl) ?_
   refine Tops_step rfl (OpT_move rfl rfl rfl rfl) ?_
   refine Tops_nil (Tk_wkS (fr' := [(0, some (.pointer (some ⟨b_m, 0, none⟩))), (23, some (vl1)), (24, some (vI (len l))), (25, some (vI (0 : Int)))]) (own' := [some (cellsR b_m 78 [vm1, vm2]), some (rowsX u8S true vm2 vsm1 m.b none)]) (shr' := [Fact.sl RegionS vm1 m.l, Fact.sl SegS vl1 l]) [0, 23, 24, 25] [0, 1] [0, 1] rfl rfl rfl rfl ?_)
   refine Tk_block (Tk_loopS (σ := Int) [0, 23, 24, 25] [0, 1] [0, 1] (fun s => ⟨[(0, some (.pointer (some ⟨b_m, 0, none⟩))), (23, some (vl1)), (24, some (vI (len l))), (25, some (vI s))], [some (cellsR b_m 78 [vm1, vm2]), some (rowsX u8S true vm2 vsm1 m.b none)], [Fact.sl RegionS vm1 m.l, Fact.sl SegS vl1 l]⟩) (fun nf1 s => seg_InL1 m l nf1 s = some r) fuel (0 : Int) h rfl rfl rfl rfl rfl (fun s h => by cases h) ?_)
   rintro nf1 x1 h
   replace h : seg_InL1B m l (seg_InL1 m l nf1) x1 = some r := h
   unfold seg_InL1B at h
   refine Tk_seq (Tk_region (Tops_step rfl (OpT_bin rfl rfl rfl rfl rfl (bin_lss_i (a := x1) (b := len l))) ?_))
   refine Tops_nil (Tk_seq ?_)
   rcases Bool.eq_false_or_eq_true (decide (x1 < (len l))) with hg3 | hg3
   ·replace h := br_t hg3 h
    refine Tk_condT (congrArg (fun b => some (Value.bool b)) hg3) ?_
    refine Tk_skip (Tk_seq (Tk_block (Tk_seq (Tk_region ?_))))
    obtain ⟨s1, hx3, h⟩ := ob_e h
    refine Tops_ex rfl (OpT_idxS rfl rfl rfl rfl rfl slF58 (i := 1) rfl hx3) fun p1 => ?_
    refine Tops_step rfl (OpT_loadPA (vs := [vU64 s1.At, vU32 s1.Len, vB s1.Write]) rfl rfl rfl rfl tyF57 (i := 2) rfl rfl) ?_
    refine Tops_ex rfl (OpT_alloc rfl rfl rfl tyZ57) fun b1 => ?_
    refine Tops_step rfl (OpT_storeC (cs' := [vU64 s1.At, vU32 s1.Len, vB s1.Write]) rfl rfl rfl rfl tyF57 (i := 2) rfl rfl rfl (one_of rfl) rfl) ?_
    refine Tops_nil (Tk_wkS (fr' := [(0, some (.pointer (some ⟨b_m, 0, none⟩))), (23, some (vl1)), (24, some (vI (len l))), (25, some (vI x1)), (9, some (.pointer (some ⟨b1, 0, none⟩)))]) (own' := [some (cellsR b_m 78 [vm1, vm2]), some (rowsX u8S true vm2 vsm1 m.b none), some (cellsR b1 57 [vU64 s1.At, vU32 s1.Len, vB s1.Write])]) (shr' := [Fact.sl RegionS vm1 m.l, Fact.sl SegS vl1 l]) [0, 23, 24, 25, 9] [0, 1, 2] [0, 1] rfl rfl rfl rfl ?_)
    refine Tk_seq (Tk_region (Tops_step rfl (OpT_move rfl rfl rfl rfl) ?_))
    refine Tops_step rfl (OpT_fieldC rfl rfl rfl rfl fldF57x0) ?_
    refine Tops_step rfl (OpT_loadC rfl rfl rfl rfl tyF28 (i := 2) rfl rfl) ?_
    refine Tops_step rfl (OpT_fieldC rfl rfl rfl rfl fldF57x1) ?_
    refine Tops_step rfl (OpT_loadC rfl rfl rfl rfl tyF48 (i := 2) rfl rfl) ?_
    refine Tops_step rfl (OpT_cnv rfl rfl rfl rfl (cnv_u32_u64 (n := s1.Len) Try.underlying48 Try.underlying28)) ?_
    obtain ⟨has1, hx4, h⟩ := ob_e h
    refine Tops_exP rfl (OpT_callP [3, 4, 2] (w_gmem_Mem_Has hx4) [0, 1] [0] rfl rfl rfl rfl rfl callee49 rfl rfl rfl rfl rfl) ?_
    rintro _ ⟨_, _, _, ⟨rfl, rfl, rfl⟩, rfl⟩
    refine Tops_step rfl (OpT_not rfl rfl rfl rfl) ?_
    refine Tops_nil (Tk_wkS (fr' := [(0, some (.pointer (some ⟨b_m, 0, none⟩))), (23, some (vl1)), (24, some (vI (len l))), (25, some (vI x1)), (36, some (vB (!has1)))]) (own' := [some (cellsR b_m 78 [vm1, vm2]), some (rowsX u8S true vm2 vsm1 m.b none)]) (shr' := [Fact.sl RegionS vm1 m.l, Fact.sl SegS vl1 l]) [0, 23, 24, 25, 36] [0, 1] [0, 1] rfl rfl rfl rfl ?_)
    rcases Bool.eq_false_or_eq_true ((!has1)) with hg4 | hg4
    ·replace h := br_t hg4 h
     refine Tk_condT (congrArg (fun b => some (Value.bool b)) hg4) ?_
     refine Tk_seq (Tk_region (Tops_step rfl (OpT_assign rfl rfl rfl rfl) ?_))
     refine Tops_nil (Tk_wkS (fr' := [(4, some (vI (5 : Int)))]) (own' := [some (cellsR b_m 78 [vm1, vm2]), some (rowsX u8S true vm2 vsm1 m.b none)]) (shr' := [Fact.sl RegionS vm1 m.l]) [4] [0, 1] [0] rfl rfl rfl rfl ?_)
     obtain rfl := Option.some.inj h
     exact Tk_retV rfl rfl (resA (vs := [vI (5 : Int)]) rfl ⟨rfl, trivial⟩) [0, 1] [] rfl rfl rfl ⟨rfl, rfl, rfl⟩
    ·replace h := br_f hg4 h
     refine Tk_condF (congrArg (fun b => some (Value.bool b)) hg4) ?_
     refine Tk_skip (Tk_blk (Tk_region (Tops_step rfl (OpT_bin rfl rfl rfl rfl rfl (bin_add_i (a := x1) (b := (1 : Int)))) ?_)))
     refine Tops_step rfl (OpT_move rfl rfl rfl rfl) ?_
     refine Tops_nil (Tk_wkS (fr' := [(0, some (.pointer (some ⟨b_m, 0, none⟩))), (23, some (vl1)), (24, some (vI (len l))), (25, some (vI (wi (x1 + (1 : Int)))))]) (own' := [some (cellsR b_m 78 [vm1, vm2]), some (rowsX u8S true vm2 vsm1 m.b none)]) (shr' := [Fact.sl RegionS vm1 m.l, Fact.sl SegS vl1 l]) [0, 23, 24, 25] [0, 1] [0, 1] rfl rfl rfl rfl ?_)
     exact Tk_backS (wi (x1 + (1 : Int))) h [0, 23, 24, 25] [0, 1] [0, 1] rfl rfl rfl rfl rfl
   ·replace h := br_f hg3 h
    refine Tk_condF (congrArg (fun b => some (Value.bool b)) hg3) ?_
    refine Tk_exit _ rfl ?_
    refine Tk_seq (Tk_region (Tops_step rfl (OpT_assign rfl rfl rfl rfl) ?_))
    refine Tops_nil (Tk_wkS (fr' := [(4, some (vI (0 : Int)))]) (own' := [some (cellsR b_m 78 [vm1, vm2]), some (rowsX u8S true vm2 vsm1 m.b none)]) (shr' := [Fact.sl RegionS vm1 m.l]) [4] [0, 1] [0] rfl rfl rfl rfl ?_)
    obtain rfl := Option.some.inj h
    exact Tk_retV rfl rfl (resA (vs := [vI (0 : Int)]) rfl ⟨rfl, trivial⟩) [0, 1] [] rfl rfl rfl ⟨rfl, rfl, rfl⟩
end Go.Proofs.Ytdaijemhibbgeaa
