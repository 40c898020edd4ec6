/- The functions do what the plain words say: each is walked once. No statement of the seat is proved here; no condition. -/
import Derived.Test.YtecmlfmbmligeaaMo1
import Derived.Test.YtecmlfmbmligeaaFc
namespace Go.Proofs.Ytecmlfmbmligeaa

set_option maxRecDepth 100000 in
set_option maxHeartbeats 4000000 in
theorem w_law02ztwo  {r : (List Region)} (h : law02ztwo = some r) :
  Ctr Try.prog 32 #[] [] []
   (fun rv own shr => ∃ (w1 : Value), rv = w1 ∧ own = [(rowS RegionS w1 r)] ∧ shr = []) := by
 unfold law02ztwo at h
 refine Ctr.mk (args := []) Try.func32 rfl rfl (fun R0 w0 B => ?_)
 refine Tk_seq (Tk_region (Tops_step rfl (OpT_assign rfl rfl rfl rfl) ?_))
 refine Tops_nil (Tk_wkS (fr' := []) (own' := []) (shr' := []) [] [] [] rfl rfl rfl rfl ?_)
 refine Tk_seq (Tk_region (Tops_step rfl (OpT_build (v := .agg #[vU64 (100 : UInt64), vU64 (8 : UInt64)]) rfl rfl rfl rfl (bldV (by kernel_rfl))) ?_))
 refine Tops_step rfl (OpT_build (v := .agg #[vU64 (108 : UInt64), vU64 (4 : UInt64)]) rfl rfl rfl rfl (bldV (by kernel_rfl))) ?_
 refine Tops_ex rfl (OpT_buildSlice (S := RegionS) (xs := [(Region.mk (100 : UInt64) (8 : UInt64)), (Region.mk (108 : UInt64) (4 : UInt64))]) (css := [[vU64 (100 : UInt64), vU64 (8 : UInt64)], [vU64 (108 : UInt64), vU64 (4 : UInt64)]]) (cs := [vU64 (100 : UInt64), vU64 (8 : UInt64), vU64 (108 : UInt64), vU64 (4 : UInt64)]) (e := 36) rfl rfl rfl rfl (bldF slF22 (by decide) (by kernel_rfl)) rfl rfl rfl rfl (rel_plainD (S := RegionS) (xs := [(Region.mk (100 : UInt64) (8 : UInt64)), (Region.mk (108 : UInt64) (4 : UInt64))]) (css := [[vU64 (100 : UInt64), vU64 (8 : UInt64)], [vU64 (108 : UInt64), vU64 (4 : UInt64)]]) rfl rfl)) fun v1 => ?_
 refine Tops_step rfl (OpT_assign rfl rfl rfl rfl) ?_
 refine Tops_nil (Tk_wkS (fr' := [(0, some (v1))]) (own' := [some (rowS RegionS v1 [(Region.mk (100 : UInt64) (8 : UInt64)), (Region.mk (108 : UInt64) (4 : UInt64))])]) (shr' := []) [0] [0] [] rfl rfl rfl rfl ?_)
 obtain rfl := Option.some.inj h
 exact Tk_retV rfl rfl (resA (vs := [v1]) rfl ⟨rfl, trivial⟩) [0] [] rfl rfl rfl ⟨v1, rfl, rfl, rfl⟩

set_option maxRecDepth 100000 in
set_option maxHeartbeats 4000000 in
theorem w_gmem_Check {l : List Region} {vl1 : Value} {r : Int} (h : gmem_Check l = some r) :
  Ctr Try.prog 11 #[vl1] [] [Fact.sl RegionS vl1 l]
   (fun rv own shr => rv = vI r ∧ own = [] ∧ shr = []) := by
 unfold gmem_Check at h
 refine Ctr.mk (args := [vl1]) Try.func11 rfl rfl (fun R0 w0 B => ?_)
 refine Tk_seq (Tk_region (Tops_step rfl (OpT_assign rfl rfl rfl rfl) ?_))
 refine Tops_nil (Tk_wkS (fr' := [(0, some (vl1))]) (own' := []) (shr' := [Fact.sl RegionS vl1 l]) [0] [] [0] rfl rfl rfl rfl ?_)
 refine Tk_seq (Tk_seq (Tk_region (Tops_step rfl (OpT_move rfl rfl rfl rfl) ?_)))
 refine Tops_step rfl (OpT_lenS rfl rfl rfl rfl Try.underlying22 (i := 0) rfl) ?_
 refine Tops_step rfl (OpT_bin rfl rfl rfl rfl rfl (bin_gtr_i (a := len l) (b := (16 : Int)))) ?_
 refine Tops_nil (Tk_wkS (fr' := [(0, some (vl1)), (9, some (vB (decide ((len l) > (16 : Int)))))]) (own' := []) (shr' := [Fact.sl RegionS vl1 l]) [0, 9] [] [0] rfl rfl rfl rfl ?_)
 rcases Bool.eq_false_or_eq_true (decide ((len l) > (16 : Int))) with hg1 | hg1
 ·replace h := br_t hg1 h
  refine Tk_condT (congrArg (fun b => some (Value.bool b)) hg1) ?_
  refine Tk_seq (Tk_region (Tops_step rfl (OpT_assign rfl rfl rfl rfl) ?_))
  refine Tops_nil (Tk_wkS (fr' := [(2, some (vI (2 : Int)))]) (own' := []) (shr' := []) [2] [] [] rfl rfl rfl rfl ?_)
  obtain rfl := Option.some.inj h
  exact Tk_retV rfl rfl (resA (vs := [vI (2 : Int)]) rfl ⟨rfl, trivial⟩) [] [] rfl rfl rfl ⟨rfl, rfl, rfl⟩
 ·replace h := br_f hg1 h
  refine Tk_condF (congrArg (fun b => some (Value.bool b)) hg1) ?_
  refine Tk_skip (Tk_seq (Tk_region (Tops_step rfl (OpT_assign rfl rfl rfl rfl) ?_)))
  refine Tops_nil (Tk_wkS (fr' := [(0, some (vl1)), (3, some (vU64 (1048576 : UInt64)))]) (own' := []) (shr' := [Fact.sl RegionS vl1 l]) [0, 3] [] [0] rfl rfl rfl rfl ?_)
  refine Tk_seq (Tk_seq (Tk_region (Tops_step rfl (OpT_move rfl rfl rfl rfl) ?_)))
  refine Tops_step rfl (OpT_lenS rfl rfl rfl rfl Try.underlying22 (i := 0) rfl) ?_
  refine Tops_step rfl (OpT_move rfl rfl rfl rfl) ?_
  refine Tops_nil (Tk_block (Tk_loopS (σ := UInt64 × Int) [0, 3, 10, 11, 12] [] [0] (fun s => ⟨[(0, some (vl1)), (3, some (vU64 s.1)), (10, some (vl1)), (11, some (vI (len l))), (12, some (vI s.2))], [], [Fact.sl RegionS vl1 l]⟩) (fun nf1 s => gmem_CheckL1 l nf1 s.1 s.2 = some r) fuel ((1048576 : UInt64), (0 : Int)) h rfl rfl rfl rfl rfl (fun s h => by cases h) ?_))
  rintro nf1 ⟨room1, x1⟩ h
  replace h : gmem_CheckL1B l (gmem_CheckL1 l nf1) room1 x1 = some r := h
  unfold gmem_CheckL1B at h
  refine Tk_seq (Tk_region (Tops_step rfl (OpT_bin rfl rfl rfl rfl rfl (bin_lss_i (a := x1) (b := len l))) ?_))
  refine Tops_nil (Tk_seq ?_)
  rcases Bool.eq_false_or_eq_true (decide (x1 < (len l))) with hg2 | hg2
  ·replace h := br_t hg2 h
   refine Tk_condT (congrArg (fun b => some (Value.bool b)) hg2) ?_
   refine Tk_skip (Tk_seq (Tk_block (Tk_seq (Tk_region (Tops_step rfl (OpT_move rfl rfl rfl rfl) ?_)))))
   obtain ⟨r1, hx1, h⟩ := ob_e h
   refine Tops_ex rfl (OpT_idxS rfl rfl rfl rfl rfl slF22 (i := 0) rfl hx1) fun p1 => ?_
   refine Tops_step rfl (OpT_loadPA (vs := [vU64 r1.At, vU64 r1.Len]) rfl rfl rfl rfl tyF36 (i := 1) rfl rfl) ?_
   refine Tops_ex rfl (OpT_alloc rfl rfl rfl tyZ36) fun b1 => ?_
   refine Tops_step rfl (OpT_assign rfl rfl rfl rfl) ?_
   refine Tops_step rfl (OpT_storeC (cs' := [vU64 r1.At, vU64 r1.Len]) rfl rfl rfl rfl tyF36 (i := 0) rfl rfl rfl (one_of rfl) rfl) ?_
   refine Tops_nil (Tk_wkS (fr' := [(0, some (vl1)), (3, some (vU64 room1)), (10, some (vl1)), (11, some (vI (len l))), (12, some (vI x1)), (5, some (.pointer (some ⟨b1, 0, none⟩))), (4, some (vI x1))]) (own' := [some (cellsR b1 36 [vU64 r1.At, vU64 r1.Len])]) (shr' := [Fact.sl RegionS vl1 l]) [0, 3, 10, 11, 12, 5, 4] [0] [0] rfl rfl rfl rfl ?_)
   refine Tk_seq (Tk_seq (Tk_region (Tops_step rfl (OpT_fieldC rfl rfl rfl rfl fldF36x1) ?_)))
   refine Tops_step rfl (OpT_loadC rfl rfl rfl rfl tyF26 (i := 0) rfl rfl) ?_
   refine Tops_step rfl (OpT_bin rfl rfl rfl rfl rfl (bin_lss_u64 (a := r1.Len) (b := (1 : UInt64)))) ?_
   refine Tops_step rfl (OpT_move rfl rfl rfl rfl) ?_
   rcases Bool.eq_false_or_eq_true (decide (r1.Len < (1 : UInt64))) with hg3 | hg3
   ·replace h := br_t hg3 h
    refine Tops_no rfl rfl (congrArg (fun b => some (Value.bool b)) hg3) rfl rfl ?_
    refine Tops_no rfl rfl (congrArg (fun b => some (Value.bool b)) hg3) rfl rfl ?_
    refine Tops_no rfl rfl (congrArg (fun b => some (Value.bool b)) hg3) rfl rfl ?_
    refine Tops_no rfl rfl (congrArg (fun b => some (Value.bool b)) hg3) rfl rfl ?_
    refine Tops_step rfl (OpT_pickT rfl rfl rfl (congrArg (fun b => some (Value.bool b)) hg3) rfl) ?_
    refine Tops_step rfl (OpT_move rfl rfl rfl rfl) ?_
    refine Tops_no rfl rfl rfl rfl rfl ?_
    refine Tops_no rfl rfl rfl rfl rfl ?_
    refine Tops_no rfl rfl rfl rfl rfl ?_
    refine Tops_no rfl rfl rfl rfl rfl ?_
    refine Tops_no rfl rfl rfl rfl rfl ?_
    refine Tops_no rfl rfl rfl rfl rfl ?_
    refine Tops_no rfl rfl rfl rfl rfl ?_
    refine Tops_step rfl (OpT_pickT rfl rfl rfl rfl rfl) ?_
    refine Tops_nil (Tk_wkS (fr' := [(0, some (vl1)), (3, some (vU64 room1)), (10, some (vl1)), (11, some (vI (len l))), (12, some (vI x1)), (5, some (.pointer (some ⟨b1, 0, none⟩))), (4, some (vI x1)), (34, some (vB true))]) (own' := [some (cellsR b1 36 [vU64 r1.At, vU64 r1.Len])]) (shr' := [Fact.sl RegionS vl1 l]) [0, 3, 10, 11, 12, 5, 4, 34] [0] [0] rfl rfl rfl rfl ?_)
    refine Tk_condT rfl ?_
    refine Tk_seq (Tk_region (Tops_step rfl (OpT_assign rfl rfl rfl rfl) ?_))
    refine Tops_nil (Tk_wkS (fr' := [(2, some (vI (2 : Int)))]) (own' := []) (shr' := []) [2] [] [] rfl rfl rfl rfl ?_)
    obtain rfl := Option.some.inj h
    exact Tk_retV rfl rfl (resA (vs := [vI (2 : Int)]) rfl ⟨rfl, trivial⟩) [] [] rfl rfl rfl ⟨rfl, rfl, rfl⟩
   ·replace h := br_f hg3 h
    refine Tops_yes rfl rfl (congrArg (fun b => some (Value.bool b)) hg3) (OpT_fieldC rfl rfl rfl rfl fldF36x1) ?_
    rintro _ rfl
    refine Tops_yes rfl rfl (congrArg (fun b => some (Value.bool b)) hg3) (OpT_loadC rfl rfl rfl rfl tyF26 (i := 0) rfl rfl) ?_
    rintro _ rfl
    refine Tops_yes rfl rfl (congrArg (fun b => some (Value.bool b)) hg3) (OpT_move rfl rfl rfl rfl) ?_
    rintro _ rfl
    refine Tops_yes rfl rfl (congrArg (fun b => some (Value.bool b)) hg3) (OpT_bin rfl rfl rfl rfl rfl (bin_gtr_u64 (a := r1.Len) (b := room1))) ?_
    rintro _ rfl
    refine Tops_step rfl (OpT_pickF rfl rfl rfl (congrArg (fun b => some (Value.bool b)) hg3) rfl) ?_
    refine Tops_step rfl (OpT_move rfl rfl rfl rfl) ?_
    rcases Bool.eq_false_or_eq_true (decide (r1.Len > room1)) with hg4 | hg4
    ·replace h := br_t hg4 h
     refine Tops_no rfl rfl (congrArg (fun b => some (Value.bool b)) hg4) rfl rfl ?_
     refine Tops_no rfl rfl (congrArg (fun b => some (Value.bool b)) hg4) rfl rfl ?_
     refine Tops_no rfl rfl (congrArg (fun b => some (Value.bool b)) hg4) rfl rfl ?_
     refine Tops_no rfl rfl (congrArg (fun b => some (Value.bool b)) hg4) rfl rfl ?_
     refine Tops_no rfl rfl (congrArg (fun b => some (Value.bool b)) hg4) rfl rfl ?_
     refine Tops_no rfl rfl (congrArg (fun b => some (Value.bool b)) hg4) rfl rfl ?_
     refine Tops_no rfl rfl (congrArg (fun b => some (Value.bool b)) hg4) rfl rfl ?_
     refine Tops_step rfl (OpT_pickT rfl rfl rfl (congrArg (fun b => some (Value.bool b)) hg4) rfl) ?_
     refine Tops_nil (Tk_wkS (fr' := [(0, some (vl1)), (3, some (vU64 room1)), (10, some (vl1)), (11, some (vI (len l))), (12, some (vI x1)), (5, some (.pointer (some ⟨b1, 0, none⟩))), (4, some (vI x1)), (34, some (vB true))]) (own' := [some (cellsR b1 36 [vU64 r1.At, vU64 r1.Len])]) (shr' := [Fact.sl RegionS vl1 l]) [0, 3, 10, 11, 12, 5, 4, 34] [0] [0] rfl rfl rfl rfl ?_)
     refine Tk_condT rfl ?_
     refine Tk_seq (Tk_region (Tops_step rfl (OpT_assign rfl rfl rfl rfl) ?_))
     refine Tops_nil (Tk_wkS (fr' := [(2, some (vI (2 : Int)))]) (own' := []) (shr' := []) [2] [] [] rfl rfl rfl rfl ?_)
     obtain rfl := Option.some.inj h
     exact Tk_retV rfl rfl (resA (vs := [vI (2 : Int)]) rfl ⟨rfl, trivial⟩) [] [] rfl rfl rfl ⟨rfl, rfl, rfl⟩
    ·replace h := br_f hg4 h
     refine Tops_yes rfl rfl (congrArg (fun b => some (Value.bool b)) hg4) (OpT_fieldC rfl rfl rfl rfl fldF36x1) ?_
     rintro _ rfl
     refine Tops_yes rfl rfl (congrArg (fun b => some (Value.bool b)) hg4) (OpT_loadC rfl rfl rfl rfl tyF26 (i := 0) rfl rfl) ?_
     rintro _ rfl
     refine Tops_yes rfl rfl (congrArg (fun b => some (Value.bool b)) hg4) (OpT_bin rfl rfl rfl rfl rfl (bin_sub_u64 (a := r1.Len) (b := (1 : UInt64)))) ?_
     rintro _ rfl
     refine Tops_yes rfl rfl (congrArg (fun b => some (Value.bool b)) hg4) (OpT_fieldC rfl rfl rfl rfl fldF36x0) ?_
     rintro _ rfl
     refine Tops_yes rfl rfl (congrArg (fun b => some (Value.bool b)) hg4) (OpT_loadC rfl rfl rfl rfl tyF26 (i := 0) rfl rfl) ?_
     rintro _ rfl
     refine Tops_yes rfl rfl (congrArg (fun b => some (Value.bool b)) hg4) (OpT_bin rfl rfl rfl rfl rfl (bin_sub_u64 (a := (18446744073709551615 : UInt64)) (b := r1.At))) ?_
     rintro _ rfl
     refine Tops_yes rfl rfl (congrArg (fun b => some (Value.bool b)) hg4) (OpT_bin rfl rfl rfl rfl rfl (bin_gtr_u64 (a := r1.Len - (1 : UInt64)) (b := (18446744073709551615 : UInt64) - r1.At))) ?_
     rintro _ rfl
     refine Tops_step rfl (OpT_pickF rfl rfl rfl (congrArg (fun b => some (Value.bool b)) hg4) rfl) ?_
     refine Tops_nil (Tk_wkS (fr' := [(0, some (vl1)), (3, some (vU64 room1)), (10, some (vl1)), (11, some (vI (len l))), (12, some (vI x1)), (5, some (.pointer (some ⟨b1, 0, none⟩))), (4, some (vI x1)), (34, some (vB (decide ((r1.Len - (1 : UInt64)) > ((18446744073709551615 : UInt64) - r1.At)))))]) (own' := [some (cellsR b1 36 [vU64 r1.At, vU64 r1.Len])]) (shr' := [Fact.sl RegionS vl1 l]) [0, 3, 10, 11, 12, 5, 4, 34] [0] [0] rfl rfl rfl rfl ?_)
     rcases Bool.eq_false_or_eq_true (decide ((r1.Len - (1 : UInt64)) > ((18446744073709551615 : UInt64) - r1.At))) with hg5 | hg5
     ·replace h := br_t hg5 h
      refine Tk_condT (congrArg (fun b => some (Value.bool b)) hg5) ?_
      refine Tk_seq (Tk_region (Tops_step rfl (OpT_assign rfl rfl rfl rfl) ?_))
      refine Tops_nil (Tk_wkS (fr' := [(2, some (vI (2 : Int)))]) (own' := []) (shr' := []) [2] [] [] rfl rfl rfl rfl ?_)
      obtain rfl := Option.some.inj h
      exact Tk_retV rfl rfl (resA (vs := [vI (2 : Int)]) rfl ⟨rfl, trivial⟩) [] [] rfl rfl rfl ⟨rfl, rfl, rfl⟩
     ·replace h := br_f hg5 h
      refine Tk_condF (congrArg (fun b => some (Value.bool b)) hg5) ?_
      refine Tk_skip (Tk_seq (Tk_region (Tops_step rfl (OpT_move rfl rfl rfl rfl) ?_)))
      refine Tops_step rfl (OpT_fieldC rfl rfl rfl rfl fldF36x1) ?_
      refine Tops_step rfl (OpT_loadC rfl rfl rfl rfl tyF26 (i := 0) rfl rfl) ?_
      refine Tops_step rfl (OpT_bin rfl rfl rfl rfl rfl (bin_sub_u64 (a := room1) (b := r1.Len))) ?_
      refine Tops_step rfl (OpT_assign rfl rfl rfl rfl) ?_
      refine Tops_nil (Tk_wkS (fr' := [(0, some (vl1)), (3, some (vU64 (room1 - r1.Len))), (10, some (vl1)), (11, some (vI (len l))), (12, some (vI x1)), (5, some (.pointer (some ⟨b1, 0, none⟩))), (4, some (vI x1))]) (own' := [some (cellsR b1 36 [vU64 r1.At, vU64 r1.Len])]) (shr' := [Fact.sl RegionS vl1 l]) [0, 3, 10, 11, 12, 5, 4] [0] [0] rfl rfl rfl rfl ?_)
      refine Tk_seq (Tk_region (Tops_step rfl (OpT_move rfl rfl rfl rfl) ?_))
      refine Tops_step rfl (OpT_bin rfl rfl rfl rfl rfl (bin_gtr_i (a := x1) (b := (0 : Int)))) ?_
      refine Tops_nil (Tk_wkS (fr' := [(0, some (vl1)), (3, some (vU64 (room1 - r1.Len))), (10, some (vl1)), (11, some (vI (len l))), (12, some (vI x1)), (5, some (.pointer (some ⟨b1, 0, none⟩))), (4, some (vI x1)), (40, some (vB (decide (x1 > (0 : Int)))))]) (own' := [some (cellsR b1 36 [vU64 r1.At, vU64 r1.Len])]) (shr' := [Fact.sl RegionS vl1 l]) [0, 3, 10, 11, 12, 5, 4, 40] [0] [0] rfl rfl rfl rfl ?_)
      rcases Bool.eq_false_or_eq_true (decide (x1 > (0 : Int))) with hg6 | hg6
      ·replace h := br_t hg6 h
       refine Tk_condT (congrArg (fun b => some (Value.bool b)) hg6) ?_
       refine Tk_seq (Tk_region (Tops_step rfl (OpT_move rfl rfl rfl rfl) ?_))
       refine Tops_step rfl (OpT_move rfl rfl rfl rfl) ?_
       refine Tops_step rfl (OpT_bin rfl rfl rfl rfl rfl (bin_sub_i (a := x1) (b := (1 : Int)))) ?_
       obtain ⟨r2, hx2, h⟩ := ob_e h
       refine Tops_ex rfl (OpT_idxS rfl rfl rfl rfl rfl slF22 (i := 0) rfl hx2) fun p2 => ?_
       refine Tops_step rfl (OpT_loadPA (vs := [vU64 r2.At, vU64 r2.Len]) rfl rfl rfl rfl tyF36 (i := 1) rfl rfl) ?_
       refine Tops_ex rfl (OpT_alloc rfl rfl rfl tyZ36) fun b2 => ?_
       refine Tops_step rfl (OpT_storeC (cs' := [vU64 r2.At, vU64 r2.Len]) rfl rfl rfl rfl tyF36 (i := 1) rfl rfl rfl (one_of rfl) rfl) ?_
       refine Tops_nil (Tk_wkS (fr' := [(0, some (vl1)), (3, some (vU64 (room1 - r1.Len))), (10, some (vl1)), (11, some (vI (len l))), (12, some (vI x1)), (5, some (.pointer (some ⟨b1, 0, none⟩))), (6, some (.pointer (some ⟨b2, 0, none⟩)))]) (own' := [some (cellsR b1 36 [vU64 r1.At, vU64 r1.Len]), some (cellsR b2 36 [vU64 r2.At, vU64 r2.Len])]) (shr' := [Fact.sl RegionS vl1 l]) [0, 3, 10, 11, 12, 5, 6] [0, 1] [0] rfl rfl rfl rfl ?_)
       refine Tk_seq (Tk_region (Tops_step rfl (OpT_fieldC rfl rfl rfl rfl fldF36x0) ?_))
       refine Tops_step rfl (OpT_loadC rfl rfl rfl rfl tyF26 (i := 0) rfl rfl) ?_
       refine Tops_step rfl (OpT_fieldC rfl rfl rfl rfl fldF36x0) ?_
       refine Tops_step rfl (OpT_loadC rfl rfl rfl rfl tyF26 (i := 1) rfl rfl) ?_
       refine Tops_step rfl (OpT_bin rfl rfl rfl rfl rfl (bin_leq_u64 (a := r1.At) (b := r2.At))) ?_
       refine Tops_step rfl (OpT_move rfl rfl rfl rfl) ?_
       rcases Bool.eq_false_or_eq_true (decide (r1.At ≤ r2.At)) with hg7 | hg7
       ·replace h := br_t hg7 h
        refine Tops_no rfl rfl (congrArg (fun b => some (Value.bool b)) hg7) rfl rfl ?_
        refine Tops_no rfl rfl (congrArg (fun b => some (Value.bool b)) hg7) rfl rfl ?_
        refine Tops_no rfl rfl (congrArg (fun b => some (Value.bool b)) hg7) rfl rfl ?_
        refine Tops_no rfl rfl (congrArg (fun b => some (Value.bool b)) hg7) rfl rfl ?_
        refine Tops_no rfl rfl (congrArg (fun b => some (Value.bool b)) hg7) rfl rfl ?_
        refine Tops_no rfl rfl (congrArg (fun b => some (Value.bool b)) hg7) rfl rfl ?_
        refine Tops_no rfl rfl (congrArg (fun b => some (Value.bool b)) hg7) rfl rfl ?_
        refine Tops_no rfl rfl (congrArg (fun b => some (Value.bool b)) hg7) rfl rfl ?_
        refine Tops_step rfl (OpT_pickT rfl rfl rfl (congrArg (fun b => some (Value.bool b)) hg7) rfl) ?_
        refine Tops_nil (Tk_wkS (fr' := [(0, some (vl1)), (3, some (vU64 (room1 - r1.Len))), (10, some (vl1)), (11, some (vI (len l))), (12, some (vI x1)), (60, some (vB true))]) (own' := []) (shr' := [Fact.sl RegionS vl1 l]) [0, 3, 10, 11, 12, 60] [] [0] rfl rfl rfl rfl ?_)
        refine Tk_condT rfl ?_
        refine Tk_seq (Tk_region (Tops_step rfl (OpT_assign rfl rfl rfl rfl) ?_))
        refine Tops_nil (Tk_wkS (fr' := [(2, some (vI (2 : Int)))]) (own' := []) (shr' := []) [2] [] [] rfl rfl rfl rfl ?_)
        obtain rfl := Option.some.inj h
        exact Tk_retV rfl rfl (resA (vs := [vI (2 : Int)]) rfl ⟨rfl, trivial⟩) [] [] rfl rfl rfl ⟨rfl, rfl, rfl⟩
       ·replace h := br_f hg7 h
        refine Tops_yes rfl rfl (congrArg (fun b => some (Value.bool b)) hg7) (OpT_fieldC rfl rfl rfl rfl fldF36x0) ?_
        rintro _ rfl
        refine Tops_yes rfl rfl (congrArg (fun b => some (Value.bool b)) hg7) (OpT_loadC rfl rfl rfl rfl tyF26 (i := 0) rfl rfl) ?_
        rintro _ rfl
        refine Tops_yes rfl rfl (congrArg (fun b => some (Value.bool b)) hg7) (OpT_fieldC rfl rfl rfl rfl fldF36x0) ?_
        rintro _ rfl
        refine Tops_yes rfl rfl (congrArg (fun b => some (Value.bool b)) hg7) (OpT_loadC rfl rfl rfl rfl tyF26 (i := 1) rfl rfl) ?_
        rintro _ rfl
        refine Tops_yes rfl rfl (congrArg (fun b => some (Value.bool b)) hg7) (OpT_bin rfl rfl rfl rfl rfl (bin_sub_u64 (a := r1.At) (b := r2.At))) ?_
        rintro _ rfl
        refine Tops_yes rfl rfl (congrArg (fun b => some (Value.bool b)) hg7) (OpT_fieldC rfl rfl rfl rfl fldF36x1) ?_
        rintro _ rfl
        refine Tops_yes rfl rfl (congrArg (fun b => some (Value.bool b)) hg7) (OpT_loadC rfl rfl rfl rfl tyF26 (i := 1) rfl rfl) ?_
        rintro _ rfl
        refine Tops_yes rfl rfl (congrArg (fun b => some (Value.bool b)) hg7) (OpT_bin rfl rfl rfl rfl rfl (bin_lss_u64 (a := r1.At - r2.At) (b := r2.Len))) ?_
        rintro _ rfl
        refine Tops_step rfl (OpT_pickF rfl rfl rfl (congrArg (fun b => some (Value.bool b)) hg7) rfl) ?_
        refine Tops_nil (Tk_wkS (fr' := [(0, some (vl1)), (3, some (vU64 (room1 - r1.Len))), (10, some (vl1)), (11, some (vI (len l))), (12, some (vI x1)), (60, some (vB (decide ((r1.At - r2.At) < r2.Len))))]) (own' := []) (shr' := [Fact.sl RegionS vl1 l]) [0, 3, 10, 11, 12, 60] [] [0] rfl rfl rfl rfl ?_)
        rcases Bool.eq_false_or_eq_true (decide ((r1.At - r2.At) < r2.Len)) with hg8 | hg8
        ·replace h := br_t hg8 h
         refine Tk_condT (congrArg (fun b => some (Value.bool b)) hg8) ?_
         refine Tk_seq (Tk_region (Tops_step rfl (OpT_assign rfl rfl rfl rfl) ?_))
         refine Tops_nil (Tk_wkS (fr' := [(2, some (vI (2 : Int)))]) (own' := []) (shr' := []) [2] [] [] rfl rfl rfl rfl ?_)
         obtain rfl := Option.some.inj h
         exact Tk_retV rfl rfl (resA (vs := [vI (2 : Int)]) rfl ⟨rfl, trivial⟩) [] [] rfl rfl rfl ⟨rfl, rfl, rfl⟩
        ·replace h := br_f hg8 h
         refine Tk_condF (congrArg (fun b => some (Value.bool b)) hg8) ?_
         refine Tk_skip (Tk_blk (Tk_region (Tops_step rfl (OpT_bin rfl rfl rfl rfl rfl (bin_add_i (a := x1) (b := (1 : Int)))) ?_)))
         refine Tops_step rfl (OpT_move rfl rfl rfl rfl) ?_
         refine Tops_nil (Tk_wkS (fr' := [(0, some (vl1)), (3, some (vU64 (room1 - r1.Len))), (10, some (vl1)), (11, some (vI (len l))), (12, some (vI (wi (x1 + (1 : Int)))))]) (own' := []) (shr' := [Fact.sl RegionS vl1 l]) [0, 3, 10, 11, 12] [] [0] rfl rfl rfl rfl ?_)
         exact Tk_backS (room1 - r1.Len, wi (x1 + (1 : Int))) h [0, 3, 10, 11, 12] [] [0] rfl rfl rfl rfl rfl
      ·replace h := br_f hg6 h
       refine Tk_condF (congrArg (fun b => some (Value.bool b)) hg6) ?_
       refine Tk_skip (Tk_blk (Tk_region (Tops_step rfl (OpT_bin rfl rfl rfl rfl rfl (bin_add_i (a := x1) (b := (1 : Int)))) ?_)))
       refine Tops_step rfl (OpT_move rfl rfl rfl rfl) ?_
       refine Tops_nil (Tk_wkS (fr' := [(0, some (vl1)), (3, some (vU64 (room1 - r1.Len))), (10, some (vl1)), (11, some (vI (len l))), (12, some (vI (wi (x1 + (1 : Int)))))]) (own' := []) (shr' := [Fact.sl RegionS vl1 l]) [0, 3, 10, 11, 12] [] [0] rfl rfl rfl rfl ?_)
       exact Tk_backS (room1 - r1.Len, wi (x1 + (1 : Int))) h [0, 3, 10, 11, 12] [] [0] rfl rfl rfl rfl rfl
  ·replace h := br_f hg2 h
   refine Tk_condF (congrArg (fun b => some (Value.bool b)) hg2) ?_
   refine Tk_exit _ rfl ?_
   refine Tk_seq (Tk_region (Tops_step rfl (OpT_assign rfl rfl rfl rfl) ?_))
   refine Tops_nil (Tk_wkS (fr' := [(2, some (vI (0 : Int)))]) (own' := []) (shr' := []) [2] [] [] rfl rfl rfl rfl ?_)
   obtain rfl := Option.some.inj h
   exact Tk_retV rfl rfl (resA (vs := [vI (0 : Int)]) rfl ⟨rfl, trivial⟩) [] [] rfl rfl rfl ⟨rfl, rfl, rfl⟩

set_option maxRecDepth 100000 in
set_option maxHeartbeats 4000000 in
theorem w_slices_Clone_apiRegionapiRegion {sp0 : List Region} {vsp01 : Value} {r : (List Region)} (h : slices_Clone_apiRegionapiRegion sp0 = some r) :
  Ctr Try.prog 33 #[vsp01] [] [Fact.sl RegionS vsp01 sp0]
   (fun rv own shr => ∃ (w1 : Value), rv = w1 ∧ own = [(rowS RegionS w1 r)] ∧ shr = []) := by
 unfold slices_Clone_apiRegionapiRegion at h
 refine Ctr.mk (args := [vsp01]) Try.func33 rfl rfl (fun R0 w0 B => ?_)
 refine Tk_seq (Tk_region (Tops_step rfl (OpT_assign rfl rfl rfl rfl) ?_))
 refine Tops_nil (Tk_wkS (fr' := [(0, some (vsp01))]) (own' := []) (shr' := [Fact.sl RegionS vsp01 sp0]) [0] [] [0] rfl rfl rfl rfl ?_)
 refine Tk_seq (Tk_seq (Tk_region (Tops_step rfl (OpT_move rfl rfl rfl rfl) ?_)))
 refine Tops_exP rfl (OpT_eqNil rfl rfl rfl (.inl rfl) rfl rfl Try.underlying22 (i := 0) rfl) ?_
 rintro _ ⟨q1, hq1, rfl⟩
 refine Tops_nil (Tk_wkS (fr' := [(0, some (vsp01)), (4, some (vB q1))]) (own' := []) (shr' := [Fact.sl RegionS vsp01 sp0]) [0, 4] [] [0] rfl rfl rfl rfl ?_)
 rcases Bool.eq_false_or_eq_true q1 with hg1 | hg1
 ·obtain rfl := hq1 hg1
  replace h : some ([] : List Region) = some r := h
  refine Tk_condT (congrArg (fun b => some (Value.bool b)) hg1) ?_
  refine Tk_seq (Tk_region (Tops_step rfl (OpT_assign rfl rfl rfl rfl) ?_))
  refine Tops_nil (Tk_wkS (fr' := [(2, some (.slice none 0 0))]) (own' := []) (shr' := []) [2] [] [] rfl rfl rfl rfl ?_)
  refine Tk_nilrow RegionS ?_
  obtain rfl := Option.some.inj h
  exact Tk_retV rfl rfl (resA (vs := [.slice none 0 0]) rfl ⟨rfl, trivial⟩) [0] [] rfl rfl rfl ⟨(.slice none 0 0), rfl, rfl, rfl⟩
 ·refine Tk_condF (congrArg (fun b => some (Value.bool b)) hg1) ?_
  refine Tk_skip (Tk_seq (Tk_region (Tops_ex rfl (OpT_buildSlice (S := RegionS) (xs := ([] : List Region)) (css := []) (cs := []) (e := 36) rfl rfl rfl rfl (bldF slF22 (by decide) (by kernel_rfl)) rfl rfl rfl rfl (rel_plainD (S := RegionS) (xs := ([] : List Region)) (css := []) rfl rfl)) fun v1 => ?_)))
  refine Tops_step rfl (OpT_move rfl rfl rfl rfl) ?_
  obtain ⟨hc1, h⟩ := chk_e h
  refine Tops_ex rfl (OpT_append rfl rfl rfl rfl rfl slF22 (i := 0) (j := 0) rfl rfl hc1) fun v2 => ?_
  refine Tops_step rfl (OpT_assign rfl rfl rfl rfl) ?_
  refine Tops_nil (Tk_wkS (fr' := [(2, some (v2))]) (own' := [some (rowS RegionS v2 sp0)]) (shr' := []) [2] [0] [] rfl rfl rfl rfl ?_)
  obtain rfl := Option.some.inj h
  exact Tk_retV rfl rfl (resA (vs := [v2]) rfl ⟨rfl, trivial⟩) [0] [] rfl rfl rfl ⟨v2, rfl, rfl, rfl⟩

theorem ws_slices_Clone_apiRegionapiRegion {sp0 : List Region} {vsp01 : Value} {r : (List Region)} (h : slices_Clone_apiRegionapiRegion sp0 = some r) :
  Ctr Try.prog 33 #[vsp01] [] [Fact.sl RegionS vsp01 sp0]
   (fun rv own shr => ∃ (w1 : Value), rv = w1 ∧ own = [] ∧ shr = [Fact.sl RegionS w1 r]) :=
 Ctr.sh (w_slices_Clone_apiRegionapiRegion h) (by rintro w1 _ _ ⟨_, rfl, rfl, rfl⟩; exact ⟨[], _, _, _, _, rfl, w1, rfl, rfl, rfl⟩)

set_option maxRecDepth 100000 in
set_option maxHeartbeats 4000000 in
theorem w_gmem_New {l : List Region} {vl1 : Value} {r : ((Option gmem_Mem) × Int)} (h : gmem_New l = some r) :
  Ctr Try.prog 12 #[vl1] [] [Fact.sl RegionS vl1 l]
   (fun rv own shr => ∃ (w1 : Value), rv = .tuple #[w1, vI r.2] ∧ own = [(optR 62 RegionS u8S true gmem_Mem.l gmem_Mem.b w1 r.1)] ∧ shr = []) := by
 unfold gmem_New at h
 refine Ctr.mk (args := [vl1]) Try.func12 rfl rfl (fun R0 w0 B => ?_)
 refine Tk_seq (Tk_region (Tops_step rfl (OpT_assign rfl rfl rfl rfl) ?_))
 refine Tops_step rfl (OpT_assign rfl rfl rfl rfl) ?_
 refine Tops_nil (Tk_wkS (fr' := [(0, some (vl1))]) (own' := []) (shr' := [Fact.sl RegionS vl1 l]) [0] [] [0] rfl rfl rfl rfl ?_)
 refine Tk_seq (Tk_seq (Tk_region (Tops_step rfl (OpT_move rfl rfl rfl rfl) ?_)))
 obtain ⟨check1, hx1, h⟩ := ob_e h
 refine Tops_exP rfl (OpT_call (w_gmem_Check hx1) [] [0] rfl rfl rfl rfl rfl callee11 rfl rfl rfl rfl) ?_
 rintro _ ⟨_, _, _, ⟨rfl, rfl, rfl⟩, rfl⟩
 refine Tops_step rfl (OpT_assign rfl rfl rfl rfl) ?_
 refine Tops_nil (Tk_wkS (fr' := [(0, some (vl1)), (4, some (vI check1))]) (own' := []) (shr' := [Fact.sl RegionS vl1 l]) [0, 4] [] [0] rfl rfl rfl rfl ?_)
 refine Tk_seq (Tk_region (Tops_step rfl (OpT_move rfl rfl rfl rfl) ?_))
 refine Tops_step rfl (OpT_bin rfl rfl rfl rfl rfl (bin_neq_i (a := check1) (b := (0 : Int)))) ?_
 refine Tops_nil (Tk_wkS (fr' := [(0, some (vl1)), (4, some (vI check1)), (11, some (vB (check1 != (0 : Int))))]) (own' := []) (shr' := [Fact.sl RegionS vl1 l]) [0, 4, 11] [] [0] rfl rfl rfl rfl ?_)
 rcases Bool.eq_false_or_eq_true (check1 != (0 : Int)) with hg1 | hg1
 ·replace h := br_t hg1 h
  refine Tk_condT (congrArg (fun b => some (Value.bool b)) hg1) ?_
  refine Tk_seq (Tk_region (Tops_step rfl (OpT_move rfl rfl rfl rfl) ?_))
  refine Tops_step rfl (OpT_assign rfl rfl rfl rfl) ?_
  refine Tops_step rfl (OpT_assign rfl rfl rfl rfl) ?_
  refine Tops_nil (Tk_wkS (fr' := [(2, some (.pointer none)), (3, some (vI check1))]) (own' := []) (shr' := []) [2, 3] [] [] rfl rfl rfl rfl ?_)
  refine Tk_nilopt 62 RegionS u8S true gmem_Mem.l gmem_Mem.b ?_
  obtain rfl := Option.some.inj h
  exact Tk_retV rfl rfl (resA (vs := [.pointer none, vI check1]) rfl ⟨rfl, rfl, trivial⟩) [0] [] rfl rfl rfl ⟨(.pointer none), rfl, rfl, rfl⟩
 ·replace h := br_f hg1 h
  refine Tk_condF (congrArg (fun b => some (Value.bool b)) hg1) ?_
  refine Tk_skip (Tk_seq (Tk_drawT (by kernel_rfl) ?_))
  refine TA_tb [0, 1, 0, 4, 0, 16, 48, 124, 255, 511, 1023] (by kernel_rfl) fun htb => ?_
  refine TA_wkS (fr' := [(0, some (vl1))]) (own' := []) (shr' := [Fact.sl RegionS vl1 l]) [0] [] [0] rfl rfl rfl rfl ?_
  obtain ⟨region1, hx2, h⟩ := ob_e h
  obtain ⟨hc1, h⟩ := chk_e h
  refine TA_seg (lo := 0) (hi := 8) htb rfl rfl (by kernel_rfl) (fun c L a w => ∃ (v1 : Value), ∃ (v2 : Value), ∃ (vs1 : List Value), Sat c ⟨[(0, some (vl1)), (13, bif L 0 then some (vl1) else none), (14, bif L 1 then some (v1) else none), (15, bif L 2 then some (vl1) else none), (16, bif L 3 then some (vI (len l)) else none), (17, bif L 4 then some (vl1) else none), (18, bif L 5 then some (vI (len l)) else none), (19, bif L 6 then some (vI (wi ((len l) + (1 : Int)))) else none), (20, bif L 7 then some (v2) else none)], [(bif L 7 then some (rowsX u8S true v2 vs1 (List.replicate (Int.toNat (len l)) [] : List (List UInt8)) none) else none : Option Res)], [Fact.sl RegionS vl1 l, (bif L 1 then Fact.sl RegionS v1 region1 else Fact.tt)]⟩ a w) [([], [1]), ([0], []), ([], [3, 7]), ([2], [7]), ([], [5, 6, 7]), ([4], [6, 7]), ([4, 5], [7]), ([2, 3, 4, 5, 6], [])] rfl (by kernel_rfl) ?_ (steps_cons ?_ (steps_cons ?_ (steps_cons ?_ (steps_cons ?_ (steps_cons ?_ (steps_cons ?_ (steps_cons ?_ (steps_cons ?_ (steps_nil))))))))) ?_
  ·intro a w hs
   exact ⟨undef, undef, [], hs.startF [13, 14, 15, 16, 17, 18, 19, 20] [0] [0, 1] rfl rfl rfl rfl⟩
  ·intro L a w hv K Q hK
   obtain ⟨v1, v2, vs1, hs⟩ := hv
   refine wpOp_go rfl rfl hs (OpT_move rfl rfl rfl rfl) ?_
   rintro _ rfl a' w' hs'
   exact hK a' w' ⟨v1, v2, vs1, hs'.putF (i := 1) rfl [0] [0, 1] rfl rfl rfl rfl⟩
  ·intro L a w hv K Q hK
   obtain ⟨v1, v2, vs1, hs⟩ := hv
   refine wpOp_go rfl rfl hs (OpT_call (ws_slices_Clone_apiRegionapiRegion hx2) [] [0] rfl rfl rfl rfl rfl callee33 rfl rfl rfl rfl) ?_
   rintro _ ⟨v1', _, _, ⟨_, rfl, rfl, rfl⟩, rfl⟩ a' w' hs'
   exact hK a' w' ⟨v1', v2, vs1, hs'.putF (i := 2) rfl [0] [0, 2] rfl rfl rfl rfl⟩
  ·intro L a w hv K Q hK
   obtain ⟨v1, v2, vs1, hs⟩ := hv
   refine wpOp_go rfl rfl hs (OpT_move rfl rfl rfl rfl) ?_
   rintro _ rfl a' w' hs'
   exact hK a' w' ⟨v1, v2, vs1, hs'.putF (i := 3) rfl [0] [0, 1] rfl rfl rfl rfl⟩
  ·intro L a w hv K Q hK
   obtain ⟨v1, v2, vs1, hs⟩ := hv
   refine wpOp_go rfl rfl hs (OpT_lenS rfl rfl rfl rfl Try.underlying22 (i := 0) rfl) ?_
   rintro _ rfl a' w' hs'
   exact hK a' w' ⟨v1, v2, vs1, hs'.putF (i := 4) rfl [0] [0, 1] rfl rfl rfl rfl⟩
  ·intro L a w hv K Q hK
   obtain ⟨v1, v2, vs1, hs⟩ := hv
   refine wpOp_go rfl rfl hs (OpT_move rfl rfl rfl rfl) ?_
   rintro _ rfl a' w' hs'
   exact hK a' w' ⟨v1, v2, vs1, hs'.putF (i := 5) rfl [0] [0, 1] rfl rfl rfl rfl⟩
  ·intro L a w hv K Q hK
   obtain ⟨v1, v2, vs1, hs⟩ := hv
   refine wpOp_go rfl rfl hs (OpT_lenS rfl rfl rfl rfl Try.underlying22 (i := 0) rfl) ?_
   rintro _ rfl a' w' hs'
   exact hK a' w' ⟨v1, v2, vs1, hs'.putF (i := 6) rfl [0] [0, 1] rfl rfl rfl rfl⟩
  ·intro L a w hv K Q hK
   obtain ⟨v1, v2, vs1, hs⟩ := hv
   refine wpOp_go rfl rfl hs (OpT_bin rfl rfl rfl rfl rfl (bin_add_i (a := len l) (b := (1 : Int)))) ?_
   rintro _ rfl a' w' hs'
   exact hK a' w' ⟨v1, v2, vs1, hs'.putF (i := 7) rfl [0] [0, 1] rfl rfl rfl rfl⟩
  ·intro L a w hv K Q hK
   obtain ⟨v1, v2, vs1, hs⟩ := hv
   refine wpOp_go rfl rfl hs (OpT_makeRows u8S rfl rfl rfl rfl rfl slF60 hc1) ?_
   rintro _ ⟨v2', vs1', rfl⟩ a' w' hs'
   exact hK a' w' ⟨v1, v2', vs1', hs'.putF (i := 8) rfl [1] [0, 1] rfl rfl rfl rfl⟩
  ·intro L a w hL hv
   rw [allTrue hL] at hv
   obtain ⟨v1, v2, vs1, hs⟩ := hv
   refine (show TA _ _ _ 8 ⟨[(0, some (vl1)), (14, some (v1)), (20, some (v2))], [some (rowsX u8S true v2 vs1 (List.replicate (Int.toNat (len l)) [] : List (List UInt8)) none)], [Fact.sl RegionS vl1 l, Fact.sl RegionS v1 region1]⟩ from ?_) a w (hs.wkS [0, 14, 20] [0] [0, 1] rfl rfl rfl rfl)
   clear hs hL
   refine TA_step htb (by kernel_rfl) rfl rfl (OpT_build2 (fun z0 z1 => [(0, z0), (1, z1)]) (fun z0 z1 => [z0, z1]) rfl rfl rfl rfl (is_sl (i := 1) rfl) (is_rows (i := 0) rfl) (by intros; kernel_rfl)) ?_
   refine TA_ex htb (by kernel_rfl) rfl rfl (OpT_box rfl rfl rfl rfl) fun b1 => ?_
   refine TA_step htb (by kernel_rfl) rfl rfl (OpT_assign rfl rfl rfl rfl) ?_
   refine TA_end rfl ?_
   refine Tk_wkS (fr' := [(0, some (vl1)), (5, some (.pointer (some ⟨b1, 0, none⟩)))]) (own' := [some (rowsX u8S true v2 vs1 (List.replicate (Int.toNat (len l)) [] : List (List UInt8)) none), some (cellsR b1 62 [v1, v2])]) (shr' := [Fact.sl RegionS vl1 l, Fact.sl RegionS v1 region1]) [0, 5] [0, 1] [0, 1] rfl rfl rfl rfl ?_
   refine Tk_seq (Tk_seq (Tk_region (Tops_step rfl (OpT_move rfl rfl rfl rfl) ?_)))
   refine Tops_step rfl (OpT_lenS rfl rfl rfl rfl Try.underlying22 (i := 0) rfl) ?_
   refine Tops_step rfl (OpT_move rfl rfl rfl rfl) ?_
   refine Tops_nil (Tk_wkS (fr' := [(5, some (.pointer (some ⟨b1, 0, none⟩))), (23, some (vl1)), (24, some (vI (len l))), (25, some (vI (0 : Int)))]) (own' := [some (rowsX u8S true v2 vs1 (List.replicate (Int.toNat (len l)) [] : List (List UInt8)) none), some (cellsR b1 62 [v1, v2])]) (shr' := [Fact.sl RegionS vl1 l, Fact.sl RegionS v1 region1]) [5, 23, 24, 25] [0, 1] [0, 1] rfl rfl rfl rfl ?_)
   refine Tk_block (Tk_loopS (σ := (List (List UInt8)) × Int × Value × (List Value)) [5, 23, 24, 25] [1, 0] [1, 0] (fun s => ⟨[(5, some (.pointer (some ⟨b1, 0, none⟩))), (23, some (vl1)), (24, some (vI (len l))), (25, some (vI s.2.1))], [some (cellsR b1 62 [v1, s.2.2.1]), some (rowsX u8S true s.2.2.1 s.2.2.2 s.1 none)], [Fact.sl RegionS v1 region1, Fact.sl RegionS vl1 l]⟩) (fun nf1 s => gmem_NewL1 l region1 nf1 s.1 s.2.1 = some r) fuel ((List.replicate (Int.toNat (len l)) [] : List (List UInt8)), (0 : Int), v2, vs1) h rfl rfl rfl rfl rfl (fun s h => by cases h) ?_)
   rintro nf1 ⟨rows1, x1, v3, vs2⟩ h
   replace h : gmem_NewL1B l region1 (gmem_NewL1 l region1 nf1) rows1 x1 = some r := h
   unfold gmem_NewL1B at h
   refine Tk_seq (Tk_region (Tops_step rfl (OpT_bin rfl rfl rfl rfl rfl (bin_lss_i (a := x1) (b := len l))) ?_))
   refine Tops_nil (Tk_seq ?_)
   rcases Bool.eq_false_or_eq_true (decide (x1 < (len l))) with hg2 | hg2
   ·replace h := br_t hg2 h
    refine Tk_condT (congrArg (fun b => some (Value.bool b)) hg2) ?_
    refine Tk_skip (Tk_seq (Tk_block (Tk_seq (Tk_region (Tops_step rfl (OpT_move rfl rfl rfl rfl) ?_)))))
    obtain ⟨r1, hx3, h⟩ := ob_e h
    refine Tops_ex rfl (OpT_idxS rfl rfl rfl rfl rfl slF22 (i := 1) rfl hx3) fun p1 => ?_
    refine Tops_step rfl (OpT_loadPA (vs := [vU64 r1.At, vU64 r1.Len]) rfl rfl rfl rfl tyF36 (i := 2) rfl rfl) ?_
    refine Tops_ex rfl (OpT_alloc rfl rfl rfl tyZ36) fun b2 => ?_
    refine Tops_step rfl (OpT_assign rfl rfl rfl rfl) ?_
    refine Tops_step rfl (OpT_storeC (cs' := [vU64 r1.At, vU64 r1.Len]) rfl rfl rfl rfl tyF36 (i := 2) rfl rfl rfl (one_of rfl) rfl) ?_
    refine Tops_nil (Tk_wkS (fr' := [(5, some (.pointer (some ⟨b1, 0, none⟩))), (23, some (vl1)), (24, some (vI (len l))), (25, some (vI x1)), (7, some (.pointer (some ⟨b2, 0, none⟩))), (6, some (vI x1))]) (own' := [some (cellsR b1 62 [v1, v3]), some (rowsX u8S true v3 vs2 rows1 none), some (cellsR b2 36 [vU64 r1.At, vU64 r1.Len])]) (shr' := [Fact.sl RegionS v1 region1, Fact.sl RegionS vl1 l]) [5, 23, 24, 25, 7, 6] [0, 1, 2] [0, 1] rfl rfl rfl rfl ?_)
    refine Tk_drawT (by kernel_rfl) ?_
    refine TA_tb [0, 1, 3, 7, 0, 0, 32, 96, 255, 511] (by kernel_rfl) fun htb => ?_
    obtain ⟨hc2, h⟩ := chk_e h
    refine TA_seg (lo := 0) (hi := 8) htb rfl rfl (by kernel_rfl) (fun c L a w => ∃ (v4 : Value), Sat c ⟨[(5, some (.pointer (some ⟨b1, 0, none⟩))), (23, some (vl1)), (24, some (vI (len l))), (25, some (vI x1)), (7, some (.pointer (some ⟨b2, 0, none⟩))), (6, some (vI x1)), (30, bif L 0 then some (.pointer (some ⟨b1, 0, none⟩)) else none), (31, bif L 1 then some (.pointer (some ⟨b1, 0, none⟩)) else none), (32, bif L 2 then some (.pointer (some ⟨b1, 1, none⟩)) else none), (33, bif L 3 then some (v3) else none), (34, bif L 4 then some (vI x1) else none), (35, bif L 5 then some (.pointer (some ⟨b2, 1, none⟩)) else none), (36, bif L 6 then some (vU64 r1.Len) else none), (37, bif L 7 then some (v4) else none)], [(some (cellsR b1 62 [v1, v3]) : Option Res), (some (rowsX u8S true v3 vs2 rows1 none) : Option Res), (some (cellsR b2 36 [vU64 r1.At, vU64 r1.Len]) : Option Res), (bif L 7 then some (rowS u8S v4 (List.replicate (Int.toNat (r1.Len.toNat : Int)) (0 : UInt8))) else none : Option Res)], [Fact.sl RegionS v1 region1, Fact.sl RegionS vl1 l]⟩ a w) [([], [1, 2, 3]), ([0], [2, 3]), ([0, 1], [3]), ([0, 1, 2], []), ([], []), ([], [6, 7]), ([5], [7]), ([5, 6], [])] rfl (by kernel_rfl) ?_ (steps_cons ?_ (steps_cons ?_ (steps_cons ?_ (steps_cons ?_ (steps_cons ?_ (steps_cons ?_ (steps_cons ?_ (steps_cons ?_ (steps_nil))))))))) ?_
    ·intro a w hs
     exact ⟨undef, hs.startF [30, 31, 32, 33, 34, 35, 36, 37] [0, 1, 2, 3] [0, 1] rfl rfl rfl rfl⟩
    ·intro L a w hv K Q hK
     obtain ⟨v4, hs⟩ := hv
     refine wpOp_go rfl rfl hs (OpT_move rfl rfl rfl rfl) ?_
     rintro _ rfl a' w' hs'
     exact hK a' w' ⟨v4, hs'.putF (i := 6) rfl [0, 1, 2, 3] [0, 1] rfl rfl rfl rfl⟩
    ·intro L a w hv K Q hK
     obtain ⟨v4, hs⟩ := hv
     refine wpOp_go rfl rfl hs (OpT_nilCheckP rfl rfl rfl rfl) ?_
     rintro _ rfl a' w' hs'
     exact hK a' w' ⟨v4, hs'.putF (i := 7) rfl [0, 1, 2, 3] [0, 1] rfl rfl rfl rfl⟩
    ·intro L a w hv K Q hK
     obtain ⟨v4, hs⟩ := hv
     refine wpOp_go rfl rfl hs (OpT_fieldC rfl rfl rfl rfl fldF62x1) ?_
     rintro _ rfl a' w' hs'
     exact hK a' w' ⟨v4, hs'.putF (i := 8) rfl [0, 1, 2, 3] [0, 1] rfl rfl rfl rfl⟩
    ·intro L a w hv K Q hK
     obtain ⟨v4, hs⟩ := hv
     refine wpOp_go rfl rfl hs (OpT_loadC rfl rfl rfl rfl tyF60 (i := 0) rfl rfl) ?_
     rintro _ rfl a' w' hs'
     exact hK a' w' ⟨v4, hs'.putF (i := 9) rfl [0, 1, 2, 3] [0, 1] rfl rfl rfl rfl⟩
    ·intro L a w hv K Q hK
     obtain ⟨v4, hs⟩ := hv
     refine wpOp_go rfl rfl hs (OpT_move rfl rfl rfl rfl) ?_
     rintro _ rfl a' w' hs'
     exact hK a' w' ⟨v4, hs'.putF (i := 10) rfl [0, 1, 2, 3] [0, 1] rfl rfl rfl rfl⟩
    ·intro L a w hv K Q hK
     obtain ⟨v4, hs⟩ := hv
     refine wpOp_go rfl rfl hs (OpT_fieldC rfl rfl rfl rfl fldF36x1) ?_
     rintro _ rfl a' w' hs'
     exact hK a' w' ⟨v4, hs'.putF (i := 11) rfl [0, 1, 2, 3] [0, 1] rfl rfl rfl rfl⟩
    ·intro L a w hv K Q hK
     obtain ⟨v4, hs⟩ := hv
     refine wpOp_go rfl rfl hs (OpT_loadC rfl rfl rfl rfl tyF26 (i := 2) rfl rfl) ?_
     rintro _ rfl a' w' hs'
     exact hK a' w' ⟨v4, hs'.putF (i := 12) rfl [0, 1, 2, 3] [0, 1] rfl rfl rfl rfl⟩
    ·intro L a w hv K Q hK
     obtain ⟨v4, hs⟩ := hv
     refine wpOp_go rfl rfl hs (OpT_makeK u8S rfl (u := (0 : UInt8)) rfl rfl rfl rfl rfl slF38 rfl hc2) ?_
     rintro _ ⟨v4', rfl⟩ a' w' hs'
     exact hK a' w' ⟨v4', hs'.putF (i := 13) rfl [0, 1, 2, 4] [0, 1] rfl rfl rfl rfl⟩
    ·intro L a w hL hv
     rw [allTrue hL] at hv
     obtain ⟨v4, hs⟩ := hv
     refine (show TA _ _ _ 8 ⟨[(5, some (.pointer (some ⟨b1, 0, none⟩))), (23, some (vl1)), (24, some (vI (len l))), (25, some (vI x1)), (33, some (v3)), (34, some (vI x1)), (37, some (v4))], [some (cellsR b1 62 [v1, v3]), some (rowsX u8S true v3 vs2 rows1 none), some (rowS u8S v4 (List.replicate (Int.toNat (r1.Len.toNat : Int)) (0 : UInt8)))], [Fact.sl RegionS v1 region1, Fact.sl RegionS vl1 l]⟩ from ?_) a w (hs.wkS [5, 23, 24, 25, 33, 34, 37] [0, 1, 3] [0, 1] rfl rfl rfl rfl)
     clear hs hL
     obtain ⟨row1, hx4, h⟩ := ob_e h
     refine TA_step htb (by kernel_rfl) rfl rfl (OpT_idxRows rfl rfl rfl rfl rfl slF60 (i := 1) rfl hx4) ?_
     refine TA_ex htb (by kernel_rfl) rfl rfl (OpT_storeRow (m := x1) rfl rfl rfl rfl tyF38 (i := 1) (q := 2) rfl rfl rfl hx4) fun vs3 => ?_
     refine TA_end rfl ?_
     refine Tk_wkS (fr' := [(5, some (.pointer (some ⟨b1, 0, none⟩))), (23, some (vl1)), (24, some (vI (len l))), (25, some (vI x1))]) (own' := [some (cellsR b1 62 [v1, v3]), some (rowsX u8S true v3 vs3 (rows1.set (Int.toNat x1) (List.replicate (Int.toNat (r1.Len.toNat : Int)) (0 : UInt8))) none)]) (shr' := [Fact.sl RegionS v1 region1, Fact.sl RegionS vl1 l]) [5, 23, 24, 25] [0, 1] [0, 1] rfl rfl rfl rfl ?_
     refine Tk_blk (Tk_region (Tops_step rfl (OpT_bin rfl rfl rfl rfl rfl (bin_add_i (a := x1) (b := (1 : Int)))) ?_))
     refine Tops_step rfl (OpT_move rfl rfl rfl rfl) ?_
     refine Tops_nil (Tk_wkS (fr' := [(5, some (.pointer (some ⟨b1, 0, none⟩))), (23, some (vl1)), (24, some (vI (len l))), (25, some (vI (wi (x1 + (1 : Int)))))]) (own' := [some (cellsR b1 62 [v1, v3]), some (rowsX u8S true v3 vs3 (rows1.set (Int.toNat x1) (List.replicate (Int.toNat (r1.Len.toNat : Int)) (0 : UInt8))) none)]) (shr' := [Fact.sl RegionS v1 region1, Fact.sl RegionS vl1 l]) [5, 23, 24, 25] [0, 1] [0, 1] rfl rfl rfl rfl ?_)
     exact Tk_backS (rows1.set (Int.toNat x1) (List.replicate (Int.toNat (r1.Len.toNat : Int)) (0 : UInt8)), wi (x1 + (1 : Int)), v3, vs3) h [5, 23, 24, 25] [0, 1] [0, 1] rfl rfl rfl rfl rfl
   ·replace h := br_f hg2 h
    refine Tk_condF (congrArg (fun b => some (Value.bool b)) hg2) ?_
    refine Tk_exit _ rfl ?_
    refine Tk_seq (Tk_region (Tops_step rfl (OpT_move rfl rfl rfl rfl) ?_))
    refine Tops_step rfl (OpT_assign rfl rfl rfl rfl) ?_
    refine Tops_step rfl (OpT_assign rfl rfl rfl rfl) ?_
    refine Tops_nil (Tk_wkS (fr' := [(2, some (.pointer (some ⟨b1, 0, none⟩))), (3, some (vI (0 : Int)))]) (own' := [some (cellsR b1 62 [v1, v3]), some (rowsX u8S true v3 vs2 rows1 none)]) (shr' := [Fact.sl RegionS v1 region1]) [2, 3] [0, 1] [0] rfl rfl rfl rfl ?_)
    refine Tk_vs (vs_fold (fl := gmem_Mem.l) (fb := gmem_Mem.b) (gmem_Mem.mk region1 rows1) (i := 0) (j := 1) rfl rfl rfl (q := 0) rfl rfl rfl) ?_
    obtain rfl := Option.some.inj h
    exact Tk_retV rfl rfl (resA (vs := [.pointer (some ⟨b1, 0, none⟩), vI (0 : Int)]) rfl ⟨rfl, rfl, trivial⟩) [0] [] rfl rfl rfl ⟨(.pointer (some ⟨b1, 0, none⟩)), rfl, rfl, rfl⟩

set_option maxRecDepth 100000 in
set_option maxHeartbeats 4000000 in
theorem w_gmem_Mem_made {m : gmem_Mem} {b_m : Nat} {vm1 : Value} {vm2 : Value} {vsm1 : List Value} {r : Bool} (h : gmem_Mem_made m = some r) :
  Ctr Try.prog 34 #[.pointer (some ⟨b_m, 0, none⟩)] [(cellsR b_m 62 [vm1, vm2]), (rowsX u8S true vm2 vsm1 m.b none)] [Fact.sl RegionS vm1 m.l]
   (fun rv own shr => rv = vB r ∧ own = [(cellsR b_m 62 [vm1, vm2]), (rowsX u8S true vm2 vsm1 m.b none)] ∧ shr = []) := by
 unfold gmem_Mem_made at h
 refine Ctr.mk (args := [.pointer (some ⟨b_m, 0, none⟩)]) Try.func34 rfl rfl (fun R0 w0 B => ?_)
 refine Tk_seq (Tk_region (Tops_step rfl (OpT_assign rfl rfl rfl rfl) ?_))
 refine Tops_nil (Tk_wkS (fr' := [(0, some (.pointer (some ⟨b_m, 0, none⟩)))]) (own' := [some (cellsR b_m 62 [vm1, vm2]), some (rowsX u8S true vm2 vsm1 m.b none)]) (shr' := [Fact.sl RegionS vm1 m.l]) [0] [0, 1] [0] rfl rfl rfl rfl ?_)
 refine Tk_seq (Tk_region (Tops_step rfl (OpT_move rfl rfl rfl rfl) ?_))
 refine Tops_step rfl (OpT_ptrNil rfl rfl rfl (.inr rfl) rfl rfl ptrF30) ?_
 refine Tops_step rfl (OpT_move rfl rfl rfl rfl) ?_
 refine Tops_yes rfl rfl rfl (OpT_move rfl rfl rfl rfl) ?_
 rintro _ rfl
 refine Tops_yes rfl rfl rfl (OpT_nilCheckP rfl rfl rfl rfl) ?_
 rintro _ rfl
 refine Tops_yes rfl rfl rfl (OpT_fieldC rfl rfl rfl rfl fldF62x1) ?_
 rintro _ rfl
 refine Tops_yes rfl rfl rfl (OpT_loadC rfl rfl rfl rfl tyF60 (i := 0) rfl rfl) ?_
 rintro _ rfl
 refine Tops_yes rfl rfl rfl (OpT_eqRows rfl rfl rfl (.inr rfl) rfl rfl Try.underlying60 (i := 1) rfl) ?_
 rintro _ rfl
 refine Tops_step rfl (OpT_pickT rfl rfl rfl rfl rfl) ?_
 refine Tops_step rfl (OpT_assign rfl rfl rfl rfl) ?_
 refine Tops_nil (Tk_wkS (fr' := [(2, some (vB true))]) (own' := [some (cellsR b_m 62 [vm1, vm2]), some (rowsX u8S true vm2 vsm1 m.b none)]) (shr' := [Fact.sl RegionS vm1 m.l]) [2] [0, 1] [0] rfl rfl rfl rfl ?_)
 obtain rfl := Option.some.inj h
 exact Tk_retV rfl rfl (resA (vs := [vB true]) rfl ⟨rfl, trivial⟩) [0, 1] [] rfl rfl rfl ⟨rfl, rfl, rfl⟩

set_option maxRecDepth 100000 in
set_option maxHeartbeats 4000000 in
theorem w_gmem_isWord {np0 : Int} {r : Bool} (h : gmem_isWord np0 = some r) :
  Ctr Try.prog 35 #[vI np0] [] []
   (fun rv own shr => rv = vB r ∧ own = [] ∧ shr = []) := by
 unfold gmem_isWord at h
 refine Ctr.mk (args := [vI np0]) Try.func35 rfl rfl (fun R0 w0 B => ?_)
 refine Tk_seq (Tk_region (Tops_step rfl (OpT_assign rfl rfl rfl rfl) ?_))
 refine Tops_nil (Tk_wkS (fr' := [(0, some (vI np0))]) (own' := []) (shr' := []) [0] [] [] rfl rfl rfl rfl ?_)
 refine Tk_seq (Tk_region (Tops_step rfl (OpT_move rfl rfl rfl rfl) ?_))
 refine Tops_step rfl (OpT_bin rfl rfl rfl rfl rfl (bin_eql_i (a := np0) (b := (1 : Int)))) ?_
 refine Tops_step rfl (OpT_move rfl rfl rfl rfl) ?_
 rcases Bool.eq_false_or_eq_true (np0 == (1 : Int)) with hg1 | hg1
 ·replace h := br_t hg1 h
  refine Tops_no rfl rfl (congrArg (fun b => some (Value.bool b)) hg1) rfl rfl ?_
  refine Tops_no rfl rfl (congrArg (fun b => some (Value.bool b)) hg1) rfl rfl ?_
  refine Tops_step rfl (OpT_pickT rfl rfl rfl (congrArg (fun b => some (Value.bool b)) hg1) rfl) ?_
  refine Tops_step rfl (OpT_move rfl rfl rfl rfl) ?_
  refine Tops_no rfl rfl rfl rfl rfl ?_
  refine Tops_no rfl rfl rfl rfl rfl ?_
  refine Tops_step rfl (OpT_pickT rfl rfl rfl rfl rfl) ?_
  refine Tops_step rfl (OpT_move rfl rfl rfl rfl) ?_
  refine Tops_no rfl rfl rfl rfl rfl ?_
  refine Tops_no rfl rfl rfl rfl rfl ?_
  refine Tops_step rfl (OpT_pickT rfl rfl rfl rfl rfl) ?_
  refine Tops_step rfl (OpT_assign rfl rfl rfl rfl) ?_
  refine Tops_nil (Tk_wkS (fr' := [(2, some (vB true))]) (own' := []) (shr' := []) [2] [] [] rfl rfl rfl rfl ?_)
  obtain rfl := Option.some.inj h
  exact Tk_retV rfl rfl (resA (vs := [vB true]) rfl ⟨rfl, trivial⟩) [] [] rfl rfl rfl ⟨rfl, rfl, rfl⟩
 ·replace h := br_f hg1 h
  refine Tops_yes rfl rfl (congrArg (fun b => some (Value.bool b)) hg1) (OpT_move rfl rfl rfl rfl) ?_
  rintro _ rfl
  refine Tops_yes rfl rfl (congrArg (fun b => some (Value.bool b)) hg1) (OpT_bin rfl rfl rfl rfl rfl (bin_eql_i (a := np0) (b := (2 : Int)))) ?_
  rintro _ rfl
  refine Tops_step rfl (OpT_pickF rfl rfl rfl (congrArg (fun b => some (Value.bool b)) hg1) rfl) ?_
  refine Tops_step rfl (OpT_move rfl rfl rfl rfl) ?_
  rcases Bool.eq_false_or_eq_true (np0 == (2 : Int)) with hg2 | hg2
  ·replace h := br_t hg2 h
   refine Tops_no rfl rfl (congrArg (fun b => some (Value.bool b)) hg2) rfl rfl ?_
   refine Tops_no rfl rfl (congrArg (fun b => some (Value.bool b)) hg2) rfl rfl ?_
   refine Tops_step rfl (OpT_pickT rfl rfl rfl (congrArg (fun b => some (Value.bool b)) hg2) rfl) ?_
   refine Tops_step rfl (OpT_move rfl rfl rfl rfl) ?_
   refine Tops_no rfl rfl rfl rfl rfl ?_
   refine Tops_no rfl rfl rfl rfl rfl ?_
   refine Tops_step rfl (OpT_pickT rfl rfl rfl rfl rfl) ?_
   refine Tops_step rfl (OpT_assign rfl rfl rfl rfl) ?_
   refine Tops_nil (Tk_wkS (fr' := [(2, some (vB true))]) (own' := []) (shr' := []) [2] [] [] rfl rfl rfl rfl ?_)
   obtain rfl := Option.some.inj h
   exact Tk_retV rfl rfl (resA (vs := [vB true]) rfl ⟨rfl, trivial⟩) [] [] rfl rfl rfl ⟨rfl, rfl, rfl⟩
  ·replace h := br_f hg2 h
   refine Tops_yes rfl rfl (congrArg (fun b => some (Value.bool b)) hg2) (OpT_move rfl rfl rfl rfl) ?_
   rintro _ rfl
   refine Tops_yes rfl rfl (congrArg (fun b => some (Value.bool b)) hg2) (OpT_bin rfl rfl rfl rfl rfl (bin_eql_i (a := np0) (b := (4 : Int)))) ?_
   rintro _ rfl
   refine Tops_step rfl (OpT_pickF rfl rfl rfl (congrArg (fun b => some (Value.bool b)) hg2) rfl) ?_
   refine Tops_step rfl (OpT_move rfl rfl rfl rfl) ?_
   rcases Bool.eq_false_or_eq_true (np0 == (4 : Int)) with hg3 | hg3
   ·replace h := br_t hg3 h
    refine Tops_no rfl rfl (congrArg (fun b => some (Value.bool b)) hg3) rfl rfl ?_
    refine Tops_no rfl rfl (congrArg (fun b => some (Value.bool b)) hg3) rfl rfl ?_
    refine Tops_step rfl (OpT_pickT rfl rfl rfl (congrArg (fun b => some (Value.bool b)) hg3) rfl) ?_
    refine Tops_step rfl (OpT_assign rfl rfl rfl rfl) ?_
    refine Tops_nil (Tk_wkS (fr' := [(2, some (vB true))]) (own' := []) (shr' := []) [2] [] [] rfl rfl rfl rfl ?_)
    obtain rfl := Option.some.inj h
    exact Tk_retV rfl rfl (resA (vs := [vB true]) rfl ⟨rfl, trivial⟩) [] [] rfl rfl rfl ⟨rfl, rfl, rfl⟩
   ·replace h := br_f hg3 h
    refine Tops_yes rfl rfl (congrArg (fun b => some (Value.bool b)) hg3) (OpT_move rfl rfl rfl rfl) ?_
    rintro _ rfl
    refine Tops_yes rfl rfl (congrArg (fun b => some (Value.bool b)) hg3) (OpT_bin rfl rfl rfl rfl rfl (bin_eql_i (a := np0) (b := (8 : Int)))) ?_
    rintro _ rfl
    refine Tops_step rfl (OpT_pickF rfl rfl rfl (congrArg (fun b => some (Value.bool b)) hg3) rfl) ?_
    refine Tops_step rfl (OpT_assign rfl rfl rfl rfl) ?_
    refine Tops_nil (Tk_wkS (fr' := [(2, some (vB (np0 == (8 : Int))))]) (own' := []) (shr' := []) [2] [] [] rfl rfl rfl rfl ?_)
    obtain rfl := Option.some.inj h
    exact Tk_retV rfl rfl (resA (vs := [vB (np0 == (8 : Int))]) rfl ⟨rfl, trivial⟩) [] [] rfl rfl rfl ⟨rfl, rfl, rfl⟩

set_option maxRecDepth 100000 in
set_option maxHeartbeats 4000000 in
theorem w_gmem_Mem_bytes_1 {ip0 : Int} {arg1 : gmem_Mem} {arg2 : UInt64} {b_arg1 : Nat} {varg11 : Value} {varg12 : Value} {vsarg11 : List Value} {bb_arg1 : Nat} {b_arg2 : Nat} {r : Bool} (h : gmem_Mem_bytes_1 ip0 arg1 arg2 = some r) :
  Ctr Try.prog 42 #[vI ip0, .pointer (some ⟨bb_arg1, 0, none⟩), .pointer (some ⟨b_arg2, 0, none⟩)] [(cellsR bb_arg1 30 [.pointer (some ⟨b_arg1, 0, none⟩)]), (cellsR b_arg1 62 [varg11, varg12]), (rowsX u8S true varg12 vsarg11 arg1.b none), (cellsR b_arg2 26 [vU64 arg2])] [Fact.sl RegionS varg11 arg1.l]
   (fun rv own shr => rv = vB r ∧ own = [(cellsR bb_arg1 30 [.pointer (some ⟨b_arg1, 0, none⟩)]), (cellsR b_arg1 62 [varg11, varg12]), (rowsX u8S true varg12 vsarg11 arg1.b none), (cellsR b_arg2 26 [vU64 arg2])] ∧ shr = []) := by
 unfold gmem_Mem_bytes_1 at h
 refine Ctr.mk (args := [vI ip0, .pointer (some ⟨bb_arg1, 0, none⟩), .pointer (some ⟨b_arg2, 0, none⟩)]) Try.func42 rfl rfl (fun R0 w0 B => ?_)
 refine Tk_seq (Tk_region (Tops_step rfl (OpT_assign rfl rfl rfl rfl) ?_))
 refine Tops_nil (Tk_wkS (fr' := [(0, some (vI ip0)), (1, some (.pointer (some ⟨bb_arg1, 0, none⟩))), (2, some (.pointer (some ⟨b_arg2, 0, none⟩)))]) (own' := [some (cellsR bb_arg1 30 [.pointer (some ⟨b_arg1, 0, none⟩)]), some (cellsR b_arg1 62 [varg11, varg12]), some (rowsX u8S true varg12 vsarg11 arg1.b none), some (cellsR b_arg2 26 [vU64 arg2])]) (shr' := [Fact.sl RegionS varg11 arg1.l]) [0, 1, 2] [0, 1, 2, 3] [0] rfl rfl rfl rfl ?_)
 refine Tk_seq (Tk_drawT (by kernel_rfl) ?_)
 refine TA_tb [0, 1, 3, 7, 0, 31, 63, 127, 255, 0, 512, 1536, 3584, 0, 15872, 32256, 65024, 131071, 0, 524287, 1048575] (by kernel_rfl) fun htb => ?_
 obtain ⟨r1, hx1, h⟩ := ob_e h
 obtain ⟨r2, hx2, h⟩ := ob_e h
 refine TA_seg (lo := 0) (hi := 19) htb rfl rfl (by kernel_rfl) (fun c L a w => ∃ (p1 : Value), ∃ (p2 : Value), ∃ (p3 : Value), ∃ (p4 : Value), Sat c ⟨[(0, some (vI ip0)), (1, some (.pointer (some ⟨bb_arg1, 0, none⟩))), (2, some (.pointer (some ⟨b_arg2, 0, none⟩))), (5, bif L 0 then some (.pointer (some ⟨b_arg1, 0, none⟩)) else none), (6, bif L 1 then some (.pointer (some ⟨b_arg1, 0, none⟩)) else none), (7, bif L 2 then some (.pointer (some ⟨b_arg1, 0, none⟩)) else none), (8, bif L 3 then some (varg11) else none), (9, bif L 4 then some (vI ip0) else none), (10, bif L 5 then some (p1) else none), (11, bif L 6 then some (p2) else none), (12, bif L 7 then some (vU64 r1.Len) else none), (13, bif L 8 then some (vU64 (r1.Len - (1 : UInt64))) else none), (14, bif L 9 then some (.pointer (some ⟨b_arg1, 0, none⟩)) else none), (15, bif L 10 then some (.pointer (some ⟨b_arg1, 0, none⟩)) else none), (16, bif L 11 then some (.pointer (some ⟨b_arg1, 0, none⟩)) else none), (17, bif L 12 then some (varg11) else none), (18, bif L 13 then some (vI ip0) else none), (19, bif L 14 then some (p3) else none), (20, bif L 15 then some (p4) else none), (21, bif L 16 then some (vU64 r2.At) else none), (22, bif L 17 then some (vU64 ((r1.Len - (1 : UInt64)) + r2.At)) else none), (23, bif L 18 then some (vU64 arg2) else none)], [(some (cellsR bb_arg1 30 [.pointer (some ⟨b_arg1, 0, none⟩)]) : Option Res), (some (cellsR b_arg1 62 [varg11, varg12]) : Option Res), (some (rowsX u8S true varg12 vsarg11 arg1.b none) : Option Res), (some (cellsR b_arg2 26 [vU64 arg2]) : Option Res)], [Fact.sl RegionS varg11 arg1.l, (bif L 5 then Fact.pt RegionS p1 r1 else Fact.tt), (bif L 6 then Fact.pt u64S p2 r1.Len else Fact.tt), (bif L 14 then Fact.pt RegionS p3 r2 else Fact.tt), (bif L 15 then Fact.pt u64S p4 r2.At else Fact.tt)]⟩ a w) [([], [1, 2, 3, 5, 6, 7, 8, 17]), ([0], [2, 3, 5, 6, 7, 8, 17]), ([0, 1], [3, 5, 6, 7, 8, 17]), ([0, 1, 2], [5, 6, 7, 8, 17]), ([], [5, 6, 7, 8, 17]), ([0, 1, 2, 3, 4], [6, 7, 8, 17]), ([0, 1, 2, 3, 4, 5], [7, 8, 17]), ([0, 1, 2, 3, 4, 5, 6], [8, 17]), ([0, 1, 2, 3, 4, 5, 6, 7], [17]), ([], [10, 11, 12, 14, 15, 16, 17]), ([9], [11, 12, 14, 15, 16, 17]), ([9, 10], [12, 14, 15, 16, 17]), ([9, 10, 11], [14, 15, 16, 17]), ([], [14, 15, 16, 17]), ([9, 10, 11, 12, 13], [15, 16, 17]), ([9, 10, 11, 12, 13, 14], [16, 17]), ([9, 10, 11, 12, 13, 14, 15], [17]), ([0, 1, 2, 3, 4, 5, 6, 7, 8, 9, 10, 11, 12, 13, 14, 15, 16], []), ([], [])] rfl (by kernel_rfl) ?_ (steps_cons ?_ (steps_cons ?_ (steps_cons ?_ (steps_cons ?_ (steps_cons ?_ (steps_cons ?_ (steps_cons ?_ (steps_cons ?_ (steps_cons ?_ (steps_cons ?_ (steps_cons ?_ (steps_cons ?_ (steps_cons ?_ (steps_cons ?_ (steps_cons ?_ (steps_cons ?_ (steps_cons ?_ (steps_cons ?_ (steps_cons ?_ (steps_nil)))))))))))))))))))) ?_
 ·intro a w hs
  exact ⟨undef, undef, undef, undef, hs.startF [5, 6, 7, 8, 9, 10, 11, 12, 13, 14, 15, 16, 17, 18, 19, 20, 21, 22, 23] [0, 1, 2, 3] [0, 1, 2, 3, 4] rfl rfl rfl rfl⟩
 ·intro L a w hv K Q hK
  obtain ⟨p1, p2, p3, p4, hs⟩ := hv
  refine wpOp_go rfl rfl hs (OpT_loadC rfl rfl rfl rfl tyF30 (i := 0) rfl rfl) ?_
  rintro _ rfl a' w' hs'
  exact hK a' w' ⟨p1, p2, p3, p4, hs'.putF (i := 3) rfl [0, 1, 2, 3] [0, 1, 2, 3, 4] rfl rfl rfl rfl⟩
 ·intro L a w hv K Q hK
  obtain ⟨p1, p2, p3, p4, hs⟩ := hv
  refine wpOp_go rfl rfl hs (OpT_nilCheckP rfl rfl rfl rfl) ?_
  rintro _ rfl a' w' hs'
  exact hK a' w' ⟨p1, p2, p3, p4, hs'.putF (i := 4) rfl [0, 1, 2, 3] [0, 1, 2, 3, 4] rfl rfl rfl rfl⟩
 ·intro L a w hv K Q hK
  obtain ⟨p1, p2, p3, p4, hs⟩ := hv
  refine wpOp_go rfl rfl hs (OpT_fieldC rfl rfl rfl rfl fldF62x0) ?_
  rintro _ rfl a' w' hs'
  exact hK a' w' ⟨p1, p2, p3, p4, hs'.putF (i := 5) rfl [0, 1, 2, 3] [0, 1, 2, 3, 4] rfl rfl rfl rfl⟩
 ·intro L a w hv K Q hK
  obtain ⟨p1, p2, p3, p4, hs⟩ := hv
  refine wpOp_go rfl rfl hs (OpT_loadC rfl rfl rfl rfl tyF22 (i := 1) rfl rfl) ?_
  rintro _ rfl a' w' hs'
  exact hK a' w' ⟨p1, p2, p3, p4, hs'.putF (i := 6) rfl [0, 1, 2, 3] [0, 1, 2, 3, 4] rfl rfl rfl rfl⟩
 ·intro L a w hv K Q hK
  obtain ⟨p1, p2, p3, p4, hs⟩ := hv
  refine wpOp_go rfl rfl hs (OpT_move rfl rfl rfl rfl) ?_
  rintro _ rfl a' w' hs'
  exact hK a' w' ⟨p1, p2, p3, p4, hs'.putF (i := 7) rfl [0, 1, 2, 3] [0, 1, 2, 3, 4] rfl rfl rfl rfl⟩
 ·intro L a w hv K Q hK
  obtain ⟨p1, p2, p3, p4, hs⟩ := hv
  refine wpOp_go rfl rfl hs (OpT_idxS rfl rfl rfl rfl rfl slF22 (i := 0) rfl hx1) ?_
  rintro _ ⟨p1', rfl⟩ a' w' hs'
  exact hK a' w' ⟨p1', p2, p3, p4, hs'.putF (i := 8) rfl [0, 1, 2, 3] [0, 5, 2, 3, 4] rfl rfl rfl rfl⟩
 ·intro L a w hv K Q hK
  obtain ⟨p1, p2, p3, p4, hs⟩ := hv
  refine wpOp_go rfl rfl hs (OpT_fieldP (S' := u64S) (y := r1.Len) rfl rfl rfl rfl fldF36x1 (i := 1) rfl (by intro h cs hr; subst hr; rfl)) ?_
  rintro _ ⟨p2', rfl⟩ a' w' hs'
  exact hK a' w' ⟨p1, p2', p3, p4, hs'.putF (i := 9) rfl [0, 1, 2, 3] [0, 1, 5, 3, 4] rfl rfl rfl rfl⟩
 ·intro L a w hv K Q hK
  obtain ⟨p1, p2, p3, p4, hs⟩ := hv
  refine wpOp_go rfl rfl hs (OpT_loadP rfl rfl rfl rfl tyF26 (i := 2) rfl rfl) ?_
  rintro _ rfl a' w' hs'
  exact hK a' w' ⟨p1, p2, p3, p4, hs'.putF (i := 10) rfl [0, 1, 2, 3] [0, 1, 2, 3, 4] rfl rfl rfl rfl⟩
 ·intro L a w hv K Q hK
  obtain ⟨p1, p2, p3, p4, hs⟩ := hv
  refine wpOp_go rfl rfl hs (OpT_bin rfl rfl rfl rfl rfl (bin_sub_u64 (a := r1.Len) (b := (1 : UInt64)))) ?_
  rintro _ rfl a' w' hs'
  exact hK a' w' ⟨p1, p2, p3, p4, hs'.putF (i := 11) rfl [0, 1, 2, 3] [0, 1, 2, 3, 4] rfl rfl rfl rfl⟩
 ·intro L a w hv K Q hK
  obtain ⟨p1, p2, p3, p4, hs⟩ := hv
  refine wpOp_go rfl rfl hs (OpT_loadC rfl rfl rfl rfl tyF30 (i := 0) rfl rfl) ?_
  rintro _ rfl a' w' hs'
  exact hK a' w' ⟨p1, p2, p3, p4, hs'.putF (i := 12) rfl [0, 1, 2, 3] [0, 1, 2, 3, 4] rfl rfl rfl rfl⟩
 ·intro L a w hv K Q hK
  obtain ⟨p1, p2, p3, p4, hs⟩ := hv
  refine wpOp_go rfl rfl hs (OpT_nilCheckP rfl rfl rfl rfl) ?_
  rintro _ rfl a' w' hs'
  exact hK a' w' ⟨p1, p2, p3, p4, hs'.putF (i := 13) rfl [0, 1, 2, 3] [0, 1, 2, 3, 4] rfl rfl rfl rfl⟩
 ·intro L a w hv K Q hK
  obtain ⟨p1, p2, p3, p4, hs⟩ := hv
  refine wpOp_go rfl rfl hs (OpT_fieldC rfl rfl rfl rfl fldF62x0) ?_
  rintro _ rfl a' w' hs'
  exact hK a' w' ⟨p1, p2, p3, p4, hs'.putF (i := 14) rfl [0, 1, 2, 3] [0, 1, 2, 3, 4] rfl rfl rfl rfl⟩
 ·intro L a w hv K Q hK
  obtain ⟨p1, p2, p3, p4, hs⟩ := hv
  refine wpOp_go rfl rfl hs (OpT_loadC rfl rfl rfl rfl tyF22 (i := 1) rfl rfl) ?_
  rintro _ rfl a' w' hs'
  exact hK a' w' ⟨p1, p2, p3, p4, hs'.putF (i := 15) rfl [0, 1, 2, 3] [0, 1, 2, 3, 4] rfl rfl rfl rfl⟩
 ·intro L a w hv K Q hK
  obtain ⟨p1, p2, p3, p4, hs⟩ := hv
  refine wpOp_go rfl rfl hs (OpT_move rfl rfl rfl rfl) ?_
  rintro _ rfl a' w' hs'
  exact hK a' w' ⟨p1, p2, p3, p4, hs'.putF (i := 16) rfl [0, 1, 2, 3] [0, 1, 2, 3, 4] rfl rfl rfl rfl⟩
 ·intro L a w hv K Q hK
  obtain ⟨p1, p2, p3, p4, hs⟩ := hv
  refine wpOp_go rfl rfl hs (OpT_idxS rfl rfl rfl rfl rfl slF22 (i := 0) rfl hx2) ?_
  rintro _ ⟨p3', rfl⟩ a' w' hs'
  exact hK a' w' ⟨p1, p2, p3', p4, hs'.putF (i := 17) rfl [0, 1, 2, 3] [0, 1, 2, 5, 4] rfl rfl rfl rfl⟩
 ·intro L a w hv K Q hK
  obtain ⟨p1, p2, p3, p4, hs⟩ := hv
  refine wpOp_go rfl rfl hs (OpT_fieldP (S' := u64S) (y := r2.At) rfl rfl rfl rfl fldF36x0 (i := 3) rfl (by intro h cs hr; subst hr; rfl)) ?_
  rintro _ ⟨p4', rfl⟩ a' w' hs'
  exact hK a' w' ⟨p1, p2, p3, p4', hs'.putF (i := 18) rfl [0, 1, 2, 3] [0, 1, 2, 3, 5] rfl rfl rfl rfl⟩
 ·intro L a w hv K Q hK
  obtain ⟨p1, p2, p3, p4, hs⟩ := hv
  refine wpOp_go rfl rfl hs (OpT_loadP rfl rfl rfl rfl tyF26 (i := 4) rfl rfl) ?_
  rintro _ rfl a' w' hs'
  exact hK a' w' ⟨p1, p2, p3, p4, hs'.putF (i := 19) rfl [0, 1, 2, 3] [0, 1, 2, 3, 4] rfl rfl rfl rfl⟩
 ·intro L a w hv K Q hK
  obtain ⟨p1, p2, p3, p4, hs⟩ := hv
  refine wpOp_go rfl rfl hs (OpT_bin rfl rfl rfl rfl rfl (bin_add_u64 (a := r1.Len - (1 : UInt64)) (b := r2.At))) ?_
  rintro _ rfl a' w' hs'
  exact hK a' w' ⟨p1, p2, p3, p4, hs'.putF (i := 20) rfl [0, 1, 2, 3] [0, 1, 2, 3, 4] rfl rfl rfl rfl⟩
 ·intro L a w hv K Q hK
  obtain ⟨p1, p2, p3, p4, hs⟩ := hv
  refine wpOp_go rfl rfl hs (OpT_loadC rfl rfl rfl rfl tyF26 (i := 3) rfl rfl) ?_
  rintro _ rfl a' w' hs'
  exact hK a' w' ⟨p1, p2, p3, p4, hs'.putF (i := 21) rfl [0, 1, 2, 3] [0, 1, 2, 3, 4] rfl rfl rfl rfl⟩
 ·intro L a w hL hv
  rw [allTrue hL] at hv
  obtain ⟨p1, p2, p3, p4, hs⟩ := hv
  refine (show TA _ _ _ 19 ⟨[(22, some (vU64 ((r1.Len - (1 : UInt64)) + r2.At))), (23, some (vU64 arg2))], [some (cellsR bb_arg1 30 [.pointer (some ⟨b_arg1, 0, none⟩)]), some (cellsR b_arg1 62 [varg11, varg12]), some (rowsX u8S true varg12 vsarg11 arg1.b none), some (cellsR b_arg2 26 [vU64 arg2])], [Fact.sl RegionS varg11 arg1.l]⟩ from ?_) a w (hs.wkS [22, 23] [0, 1, 2, 3] [0] rfl rfl rfl rfl)
  clear hs hL
  refine TA_step htb (by kernel_rfl) rfl rfl (OpT_bin rfl rfl rfl rfl rfl (bin_geq_u64 (a := (r1.Len - (1 : UInt64)) + r2.At) (b := arg2))) ?_
  refine TA_step htb (by kernel_rfl) rfl rfl (OpT_assign rfl rfl rfl rfl) ?_
  refine TA_end rfl ?_
  refine Tk_wkS (fr' := [(4, some (vB (decide (((r1.Len - (1 : UInt64)) + r2.At) ≥ arg2))))]) (own' := [some (cellsR bb_arg1 30 [.pointer (some ⟨b_arg1, 0, none⟩)]), some (cellsR b_arg1 62 [varg11, varg12]), some (rowsX u8S true varg12 vsarg11 arg1.b none), some (cellsR b_arg2 26 [vU64 arg2])]) (shr' := [Fact.sl RegionS varg11 arg1.l]) [4] [0, 1, 2, 3] [0] rfl rfl rfl rfl ?_
  obtain rfl := Option.some.inj h
  exact Tk_retV rfl rfl (resA (vs := [vB (decide (((r1.Len - (1 : UInt64)) + r2.At) ≥ arg2))]) rfl ⟨rfl, trivial⟩) [0, 1, 2, 3] [] rfl rfl rfl ⟨rfl, rfl, rfl⟩

set_option maxRecDepth 100000 in
set_option maxHeartbeats 4000000 in
theorem w_sort_SearchFgmem_Mem_bytes_1 {np0 : Int} {fc0 : gmem_Mem} {fc1 : UInt64} {b_fc0 : Nat} {vfc01 : Value} {vfc02 : Value} {vsfc01 : List Value} {bb_fc0 : Nat} {b_fc1 : Nat} {r : Int} (h : sort_SearchFgmem_Mem_bytes_1 np0 fc0 fc1 = some r) :
  Ctr Try.prog 41 #[vI np0, .func (.func 42) #[] #[.pointer (some ⟨bb_fc0, 0, none⟩), .pointer (some ⟨b_fc1, 0, none⟩)]] [(cellsR bb_fc0 30 [.pointer (some ⟨b_fc0, 0, none⟩)]), (cellsR b_fc0 62 [vfc01, vfc02]), (rowsX u8S true vfc02 vsfc01 fc0.b none), (cellsR b_fc1 26 [vU64 fc1])] [Fact.sl RegionS vfc01 fc0.l]
   (fun rv own shr => rv = vI r ∧ own = [(cellsR bb_fc0 30 [.pointer (some ⟨b_fc0, 0, none⟩)]), (cellsR b_fc0 62 [vfc01, vfc02]), (rowsX u8S true vfc02 vsfc01 fc0.b none), (cellsR b_fc1 26 [vU64 fc1])] ∧ shr = []) := by
 unfold sort_SearchFgmem_Mem_bytes_1 at h
 refine Ctr.mk (args := [vI np0, .func (.func 42) #[] #[.pointer (some ⟨bb_fc0, 0, none⟩), .pointer (some ⟨b_fc1, 0, none⟩)]]) Try.func41 rfl rfl (fun R0 w0 B => ?_)
 refine Tk_seq (Tk_region (Tops_step rfl (OpT_assign rfl rfl rfl rfl) ?_))
 refine Tops_nil (Tk_wkS (fr' := [(0, some (vI np0)), (1, some (.func (.func 42) #[] #[.pointer (some ⟨bb_fc0, 0, none⟩), .pointer (some ⟨b_fc1, 0, none⟩)]))]) (own' := [some (cellsR bb_fc0 30 [.pointer (some ⟨b_fc0, 0, none⟩)]), some (cellsR b_fc0 62 [vfc01, vfc02]), some (rowsX u8S true vfc02 vsfc01 fc0.b none), some (cellsR b_fc1 26 [vU64 fc1])]) (shr' := [Fact.sl RegionS vfc01 fc0.l]) [0, 1] [0, 1, 2, 3] [0] rfl rfl rfl rfl ?_)
 refine Tk_seq (Tk_region (Tops_step rfl (OpT_move rfl rfl rfl rfl) ?_))
 refine Tops_step rfl (OpT_assign rfl rfl rfl rfl) ?_
 refine Tops_step rfl (OpT_assign rfl rfl rfl rfl) ?_
 refine Tops_nil (Tk_wkS (fr' := [(1, some (.func (.func 42) #[] #[.pointer (some ⟨bb_fc0, 0, none⟩), .pointer (some ⟨b_fc1, 0, none⟩)])), (5, some (vI (0 : Int))), (6, some (vI np0))]) (own' := [some (cellsR bb_fc0 30 [.pointer (some ⟨b_fc0, 0, none⟩)]), some (cellsR b_fc0 62 [vfc01, vfc02]), some (rowsX u8S true vfc02 vsfc01 fc0.b none), some (cellsR b_fc1 26 [vU64 fc1])]) (shr' := [Fact.sl RegionS vfc01 fc0.l]) [1, 5, 6] [0, 1, 2, 3] [0] rfl rfl rfl rfl ?_)
 refine Tk_seq (Tk_block (Tk_loopS (σ := Int × Int) [1, 5, 6] [0, 1, 2, 3] [0] (fun s => ⟨[(1, some (.func (.func 42) #[] #[.pointer (some ⟨bb_fc0, 0, none⟩), .pointer (some ⟨b_fc1, 0, none⟩)])), (5, some (vI s.1)), (6, some (vI s.2))], [some (cellsR bb_fc0 30 [.pointer (some ⟨b_fc0, 0, none⟩)]), some (cellsR b_fc0 62 [vfc01, vfc02]), some (rowsX u8S true vfc02 vsfc01 fc0.b none), some (cellsR b_fc1 26 [vU64 fc1])], [Fact.sl RegionS vfc01 fc0.l]⟩) (fun nf1 s => sort_SearchFgmem_Mem_bytes_1L1 fc0 fc1 nf1 s.1 s.2 = some r) fuel ((0 : Int), np0) h rfl rfl rfl rfl rfl (fun s h => by cases h) ?_))
 rintro nf1 ⟨i1, j1⟩ h
 replace h : sort_SearchFgmem_Mem_bytes_1L1B fc0 fc1 (sort_SearchFgmem_Mem_bytes_1L1 fc0 fc1 nf1) i1 j1 = some r := h
 unfold sort_SearchFgmem_Mem_bytes_1L1B at h
 refine Tk_seq (Tk_seq (Tk_region (Tops_step rfl (OpT_move rfl rfl rfl rfl) ?_)))
 refine Tops_step rfl (OpT_move rfl rfl rfl rfl) ?_
 refine Tops_step rfl (OpT_bin rfl rfl rfl rfl rfl (bin_lss_i (a := i1) (b := j1))) ?_
 refine Tops_nil (Tk_wkS (fr' := [(1, some (.func (.func 42) #[] #[.pointer (some ⟨bb_fc0, 0, none⟩), .pointer (some ⟨b_fc1, 0, none⟩)])), (5, some (vI i1)), (6, some (vI j1)), (11, some (vB (decide (i1 < j1))))]) (own' := [some (cellsR bb_fc0 30 [.pointer (some ⟨b_fc0, 0, none⟩)]), some (cellsR b_fc0 62 [vfc01, vfc02]), some (rowsX u8S true vfc02 vsfc01 fc0.b none), some (cellsR b_fc1 26 [vU64 fc1])]) (shr' := [Fact.sl RegionS vfc01 fc0.l]) [1, 5, 6, 11] [0, 1, 2, 3] [0] rfl rfl rfl rfl ?_)
 rcases Bool.eq_false_or_eq_true (decide (i1 < j1)) with hg1 | hg1
 ·replace h := br_t hg1 h
  refine Tk_condT (congrArg (fun b => some (Value.bool b)) hg1) ?_
  refine Tk_skip (Tk_block (Tk_seq (Tk_region (Tops_step rfl (OpT_move rfl rfl rfl rfl) ?_))))
  refine Tops_step rfl (OpT_move rfl rfl rfl rfl) ?_
  refine Tops_step rfl (OpT_bin rfl rfl rfl rfl rfl (bin_add_i (a := i1) (b := j1))) ?_
  refine Tops_step rfl (OpT_cnv rfl rfl rfl rfl (cnv_i_u64 (n := wi (i1 + j1)) Try.underlying3 Try.underlying46)) ?_
  refine Tops_step rfl (OpT_bin rfl rfl rfl rfl rfl (bin_shr_u64_u64 (a := u64 (wi (i1 + j1))) (n := (1 : UInt64)))) ?_
  refine Tops_step rfl (OpT_cnv rfl rfl rfl rfl (cnv_u64_i (n := shr64 (u64 (wi (i1 + j1))) ((1 : UInt64).toNat)) Try.underlying46 Try.underlying3)) ?_
  refine Tops_step rfl (OpT_assign rfl rfl rfl rfl) ?_
  refine Tops_nil (Tk_wkS (fr' := [(1, some (.func (.func 42) #[] #[.pointer (some ⟨bb_fc0, 0, none⟩), .pointer (some ⟨b_fc1, 0, none⟩)])), (5, some (vI i1)), (6, some (vI j1)), (7, some (vI (i64 (shr64 (u64 (wi (i1 + j1))) ((1 : UInt64).toNat)))))]) (own' := [some (cellsR bb_fc0 30 [.pointer (some ⟨b_fc0, 0, none⟩)]), some (cellsR b_fc0 62 [vfc01, vfc02]), some (rowsX u8S true vfc02 vsfc01 fc0.b none), some (cellsR b_fc1 26 [vU64 fc1])]) (shr' := [Fact.sl RegionS vfc01 fc0.l]) [1, 5, 6, 7] [0, 1, 2, 3] [0] rfl rfl rfl rfl ?_)
  refine Tk_seq (Tk_region (Tops_step rfl (OpT_move rfl rfl rfl rfl) ?_))
  refine Tops_step rfl (OpT_move rfl rfl rfl rfl) ?_
  obtain ⟨bytes1, hx1, h⟩ := ob_e h
  refine Tops_exP rfl (OpT_callP [4, 5, 6, 7] (w_gmem_Mem_bytes_1 hx1) [0, 1, 2, 3] [0] rfl rfl rfl rfl rfl callee42 rfl rfl rfl rfl rfl) ?_
  rintro _ ⟨_, _, _, ⟨rfl, rfl, rfl⟩, rfl⟩
  refine Tops_step rfl (OpT_not rfl rfl rfl rfl) ?_
  refine Tops_nil (Tk_wkS (fr' := [(1, some (.func (.func 42) #[] #[.pointer (some ⟨bb_fc0, 0, none⟩), .pointer (some ⟨b_fc1, 0, none⟩)])), (5, some (vI i1)), (6, some (vI j1)), (7, some (vI (i64 (shr64 (u64 (wi (i1 + j1))) ((1 : UInt64).toNat))))), (21, some (vB (!bytes1)))]) (own' := [some (cellsR bb_fc0 30 [.pointer (some ⟨b_fc0, 0, none⟩)]), some (cellsR b_fc0 62 [vfc01, vfc02]), some (rowsX u8S true vfc02 vsfc01 fc0.b none), some (cellsR b_fc1 26 [vU64 fc1])]) (shr' := [Fact.sl RegionS vfc01 fc0.l]) [1, 5, 6, 7, 21] [0, 1, 2, 3] [0] rfl rfl rfl rfl ?_)
  rcases Bool.eq_false_or_eq_true ((!bytes1)) with hg2 | hg2
  ·replace h := br_t hg2 h
   refine Tk_condT (congrArg (fun b => some (Value.bool b)) hg2) ?_
   refine Tk_region (Tops_step rfl (OpT_move rfl rfl rfl rfl) ?_)
   refine Tops_step rfl (OpT_bin rfl rfl rfl rfl rfl (bin_add_i (a := i64 (shr64 (u64 (wi (i1 + j1))) ((1 : UInt64).toNat))) (b := (1 : Int)))) ?_
   refine Tops_step rfl (OpT_assign rfl rfl rfl rfl) ?_
   refine Tops_nil (Tk_wkS (fr' := [(1, some (.func (.func 42) #[] #[.pointer (some ⟨bb_fc0, 0, none⟩), .pointer (some ⟨b_fc1, 0, none⟩)])), (5, some (vI (wi ((i64 (shr64 (u64 (wi (i1 + j1))) ((1 : UInt64).toNat))) + (1 : Int))))), (6, some (vI j1))]) (own' := [some (cellsR bb_fc0 30 [.pointer (some ⟨b_fc0, 0, none⟩)]), some (cellsR b_fc0 62 [vfc01, vfc02]), some (rowsX u8S true vfc02 vsfc01 fc0.b none), some (cellsR b_fc1 26 [vU64 fc1])]) (shr' := [Fact.sl RegionS vfc01 fc0.l]) [1, 5, 6] [0, 1, 2, 3] [0] rfl rfl rfl rfl ?_)
   refine Tk_blk ?_
   exact Tk_backS (wi ((i64 (shr64 (u64 (wi (i1 + j1))) ((1 : UInt64).toNat))) + (1 : Int)), j1) h [1, 5, 6] [0, 1, 2, 3] [0] rfl rfl rfl rfl rfl
  ·replace h := br_f hg2 h
   refine Tk_condF (congrArg (fun b => some (Value.bool b)) hg2) ?_
   refine Tk_region (Tops_step rfl (OpT_move rfl rfl rfl rfl) ?_)
   refine Tops_step rfl (OpT_assign rfl rfl rfl rfl) ?_
   refine Tops_nil (Tk_wkS (fr' := [(1, some (.func (.func 42) #[] #[.pointer (some ⟨bb_fc0, 0, none⟩), .pointer (some ⟨b_fc1, 0, none⟩)])), (5, some (vI i1)), (6, some (vI (i64 (shr64 (u64 (wi (i1 + j1))) ((1 : UInt64).toNat)))))]) (own' := [some (cellsR bb_fc0 30 [.pointer (some ⟨b_fc0, 0, none⟩)]), some (cellsR b_fc0 62 [vfc01, vfc02]), some (rowsX u8S true vfc02 vsfc01 fc0.b none), some (cellsR b_fc1 26 [vU64 fc1])]) (shr' := [Fact.sl RegionS vfc01 fc0.l]) [1, 5, 6] [0, 1, 2, 3] [0] rfl rfl rfl rfl ?_)
   refine Tk_blk ?_
   exact Tk_backS (i1, i64 (shr64 (u64 (wi (i1 + j1))) ((1 : UInt64).toNat))) h [1, 5, 6] [0, 1, 2, 3] [0] rfl rfl rfl rfl rfl
 ·replace h := br_f hg1 h
  refine Tk_condF (congrArg (fun b => some (Value.bool b)) hg1) ?_
  refine Tk_exit _ rfl ?_
  refine Tk_seq (Tk_region (Tops_step rfl (OpT_move rfl rfl rfl rfl) ?_))
  refine Tops_step rfl (OpT_assign rfl rfl rfl rfl) ?_
  refine Tops_nil (Tk_wkS (fr' := [(4, some (vI i1))]) (own' := [some (cellsR bb_fc0 30 [.pointer (some ⟨b_fc0, 0, none⟩)]), some (cellsR b_fc0 62 [vfc01, vfc02]), some (rowsX u8S true vfc02 vsfc01 fc0.b none), some (cellsR b_fc1 26 [vU64 fc1])]) (shr' := [Fact.sl RegionS vfc01 fc0.l]) [4] [0, 1, 2, 3] [0] rfl rfl rfl rfl ?_)
  obtain rfl := Option.some.inj h
  exact Tk_retV rfl rfl (resA (vs := [vI i1]) rfl ⟨rfl, trivial⟩) [0, 1, 2, 3] [] rfl rfl rfl ⟨rfl, rfl, rfl⟩

set_option maxRecDepth 100000 in
set_option maxHeartbeats 4000000 in
theorem w_gmem_Mem_bytes {m : gmem_Mem} {atp1 : UInt64} {np2 : UInt64} {b_m : Nat} {vm1 : Value} {vm2 : Value} {vsm1 : List Value} {r : (Option (Int × Int × Int))} (h : gmem_Mem_bytes m atp1 np2 = some r) :
  Ctr Try.prog 36 #[.pointer (some ⟨b_m, 0, none⟩), vU64 atp1, vU64 np2] [(cellsR b_m 62 [vm1, vm2]), (rowsX u8S true vm2 vsm1 m.b none)] [Fact.sl RegionS vm1 m.l]
   (fun rv own shr => rv = winV 1 vsm1 r ∧ own = [(cellsR b_m 62 [vm1, vm2]), (rowsX u8S true vm2 vsm1 m.b none)] ∧ shr = []) := by
 unfold gmem_Mem_bytes at h
 refine Ctr.mk (args := [.pointer (some ⟨b_m, 0, none⟩), vU64 atp1, vU64 np2]) Try.func36 rfl rfl (fun R0 w0 B => ?_)
 refine Tk_seq (Tk_region (Tops_ex rfl (OpT_box rfl rfl rfl rfl) fun b1 => ?_))
 refine Tops_ex rfl (OpT_box rfl rfl rfl rfl) fun b2 => ?_
 refine Tops_step rfl (OpT_assign rfl rfl rfl rfl) ?_
 refine Tops_nil (Tk_wkS (fr' := [(2, some (vU64 np2)), (3, some (.pointer (some ⟨b1, 0, none⟩))), (4, some (.pointer (some ⟨b2, 0, none⟩)))]) (own' := [some (cellsR b_m 62 [vm1, vm2]), some (rowsX u8S true vm2 vsm1 m.b none), some (cellsR b1 30 [.pointer (some ⟨b_m, 0, none⟩)]), some (cellsR b2 26 [vU64 atp1])]) (shr' := [Fact.sl RegionS vm1 m.l]) [2, 3, 4] [0, 1, 2, 3] [0] rfl rfl rfl rfl ?_)
 refine Tk_seq (Tk_seq (Tk_region (Tops_step rfl (OpT_move rfl rfl rfl rfl) ?_)))
 refine Tops_step rfl (OpT_bin rfl rfl rfl rfl rfl (bin_lss_u64 (a := np2) (b := (1 : UInt64)))) ?_
 refine Tops_nil (Tk_wkS (fr' := [(2, some (vU64 np2)), (3, some (.pointer (some ⟨b1, 0, none⟩))), (4, some (.pointer (some ⟨b2, 0, none⟩))), (10, some (vB (decide (np2 < (1 : UInt64)))))]) (own' := [some (cellsR b_m 62 [vm1, vm2]), some (rowsX u8S true vm2 vsm1 m.b none), some (cellsR b1 30 [.pointer (some ⟨b_m, 0, none⟩)]), some (cellsR b2 26 [vU64 atp1])]) (shr' := [Fact.sl RegionS vm1 m.l]) [2, 3, 4, 10] [0, 1, 2, 3] [0] rfl rfl rfl rfl ?_)
 rcases Bool.eq_false_or_eq_true (decide (np2 < (1 : UInt64))) with hg1 | hg1
 ·replace h := br_t hg1 h
  refine Tk_condT (congrArg (fun b => some (Value.bool b)) hg1) ?_
  refine Tk_seq (Tk_region (Tops_step rfl (OpT_assign rfl rfl rfl rfl) ?_))
  refine Tops_nil (Tk_wkS (fr' := [(6, some (.slice none 0 0))]) (own' := [some (cellsR b_m 62 [vm1, vm2]), some (rowsX u8S true vm2 vsm1 m.b none)]) (shr' := [Fact.sl RegionS vm1 m.l]) [6] [0, 1] [0] rfl rfl rfl rfl ?_)
  obtain rfl := Option.some.inj h
  exact Tk_retV rfl rfl (resA (vs := [.slice none 0 0]) rfl ⟨rfl, trivial⟩) [0, 1] [] rfl rfl rfl ⟨rfl, rfl, rfl⟩
 ·replace h := br_f hg1 h
  refine Tk_condF (congrArg (fun b => some (Value.bool b)) hg1) ?_
  refine Tk_skip (Tk_seq (Tk_region (Tops_step rfl (OpT_loadC rfl rfl rfl rfl tyF30 (i := 2) rfl rfl) ?_)))
  refine Tops_step rfl (OpT_nilCheckP rfl rfl rfl rfl) ?_
  refine Tops_step rfl (OpT_fieldC rfl rfl rfl rfl fldF62x0) ?_
  refine Tops_step rfl (OpT_loadC rfl rfl rfl rfl tyF22 (i := 0) rfl rfl) ?_
  refine Tops_step rfl (OpT_lenS rfl rfl rfl rfl Try.underlying22 (i := 0) rfl) ?_
  refine Tops_step rfl (OpT_makeFunc (vs := [.pointer (some ⟨b1, 0, none⟩), .pointer (some ⟨b2, 0, none⟩)]) rfl rfl rfl rfl) ?_
  obtain ⟨search1, hx1, h⟩ := ob_e h
  refine Tops_exP rfl (OpT_callP [5, 6, 4, 7] (w_sort_SearchFgmem_Mem_bytes_1 hx1) [2, 0, 1, 3] [0] rfl rfl rfl rfl rfl callee41 rfl rfl rfl rfl rfl) ?_
  rintro _ ⟨_, _, _, ⟨rfl, rfl, rfl⟩, rfl⟩
  refine Tops_step rfl (OpT_assign rfl rfl rfl rfl) ?_
  refine Tops_nil (Tk_wkS (fr' := [(2, some (vU64 np2)), (3, some (.pointer (some ⟨b1, 0, none⟩))), (4, some (.pointer (some ⟨b2, 0, none⟩))), (7, some (vI search1))]) (own' := [some (cellsR b_m 62 [vm1, vm2]), some (rowsX u8S true vm2 vsm1 m.b none), some (cellsR b1 30 [.pointer (some ⟨b_m, 0, none⟩)]), some (cellsR b2 26 [vU64 atp1])]) (shr' := [Fact.sl RegionS vm1 m.l]) [2, 3, 4, 7] [0, 1, 2, 3] [0] rfl rfl rfl rfl ?_)
  refine Tk_seq (Tk_seq (Tk_drawT (by kernel_rfl) ?_))
  refine TA_tb [0, 0, 2, 6, 14, 30, 63, 127, 255, 255, 767, 1791, 3839, 255, 16127, 32511, 65279, 131071, 262143] (by kernel_rfl) fun htb => ?_
  refine TA_seg (lo := 0) (hi := 6) htb rfl rfl (by kernel_rfl) (fun c L a w => Sat c ⟨[(2, some (vU64 np2)), (3, some (.pointer (some ⟨b1, 0, none⟩))), (4, some (.pointer (some ⟨b2, 0, none⟩))), (7, some (vI search1)), (18, bif L 0 then some (vI search1) else none), (19, bif L 1 then some (.pointer (some ⟨b_m, 0, none⟩)) else none), (20, bif L 2 then some (.pointer (some ⟨b_m, 0, none⟩)) else none), (21, bif L 3 then some (.pointer (some ⟨b_m, 0, none⟩)) else none), (22, bif L 4 then some (vm1) else none), (23, bif L 5 then some (vI (len m.l)) else none)], [(some (cellsR b_m 62 [vm1, vm2]) : Option Res), (some (rowsX u8S true vm2 vsm1 m.b none) : Option Res), (some (cellsR b1 30 [.pointer (some ⟨b_m, 0, none⟩)]) : Option Res), (some (cellsR b2 26 [vU64 atp1]) : Option Res)], [Fact.sl RegionS vm1 m.l]⟩ a w) [([], []), ([], [2, 3, 4, 5]), ([1], [3, 4, 5]), ([1, 2], [4, 5]), ([1, 2, 3], [5]), ([1, 2, 3, 4], [])] rfl (by kernel_rfl) ?_ (steps_cons ?_ (steps_cons ?_ (steps_cons ?_ (steps_cons ?_ (steps_cons ?_ (steps_cons ?_ (steps_nil))))))) ?_
  ·intro a w hs
   exact hs.startF [18, 19, 20, 21, 22, 23] [0, 1, 2, 3] [0] rfl rfl rfl rfl
  ·intro L a w hv K Q hK
   have hs := hv
   refine wpOp_go rfl rfl hs (OpT_move rfl rfl rfl rfl) ?_
   rintro _ rfl a' w' hs'
   exact hK a' w' (hs'.putF (i := 4) rfl [0, 1, 2, 3] [0] rfl rfl rfl rfl)
  ·intro L a w hv K Q hK
   have hs := hv
   refine wpOp_go rfl rfl hs (OpT_loadC rfl rfl rfl rfl tyF30 (i := 2) rfl rfl) ?_
   rintro _ rfl a' w' hs'
   exact hK a' w' (hs'.putF (i := 5) rfl [0, 1, 2, 3] [0] rfl rfl rfl rfl)
  ·intro L a w hv K Q hK
   have hs := hv
   refine wpOp_go rfl rfl hs (OpT_nilCheckP rfl rfl rfl rfl) ?_
   rintro _ rfl a' w' hs'
   exact hK a' w' (hs'.putF (i := 6) rfl [0, 1, 2, 3] [0] rfl rfl rfl rfl)
  ·intro L a w hv K Q hK
   have hs := hv
   refine wpOp_go rfl rfl hs (OpT_fieldC rfl rfl rfl rfl fldF62x0) ?_
   rintro _ rfl a' w' hs'
   exact hK a' w' (hs'.putF (i := 7) rfl [0, 1, 2, 3] [0] rfl rfl rfl rfl)
  ·intro L a w hv K Q hK
   have hs := hv
   refine wpOp_go rfl rfl hs (OpT_loadC rfl rfl rfl rfl tyF22 (i := 0) rfl rfl) ?_
   rintro _ rfl a' w' hs'
   exact hK a' w' (hs'.putF (i := 8) rfl [0, 1, 2, 3] [0] rfl rfl rfl rfl)
  ·intro L a w hv K Q hK
   have hs := hv
   refine wpOp_go rfl rfl hs (OpT_lenS rfl rfl rfl rfl Try.underlying22 (i := 0) rfl) ?_
   rintro _ rfl a' w' hs'
   exact hK a' w' (hs'.putF (i := 9) rfl [0, 1, 2, 3] [0] rfl rfl rfl rfl)
  ·intro L a w hL hv
   rw [allTrue hL] at hv
   have hs := hv
   refine (show TA _ _ _ 6 ⟨[(2, some (vU64 np2)), (3, some (.pointer (some ⟨b1, 0, none⟩))), (4, some (.pointer (some ⟨b2, 0, none⟩))), (7, some (vI search1)), (18, some (vI search1)), (23, some (vI (len m.l)))], [some (cellsR b_m 62 [vm1, vm2]), some (rowsX u8S true vm2 vsm1 m.b none), some (cellsR b1 30 [.pointer (some ⟨b_m, 0, none⟩)]), some (cellsR b2 26 [vU64 atp1])], [Fact.sl RegionS vm1 m.l]⟩ from ?_) a w (hs.wkS [2, 3, 4, 7, 18, 23] [0, 1, 2, 3] [0] rfl rfl rfl rfl)
   clear hs hL
   refine TA_step htb (by kernel_rfl) rfl rfl (OpT_bin rfl rfl rfl rfl rfl (bin_eql_i (a := search1) (b := len m.l))) ?_
   refine TA_step htb (by kernel_rfl) rfl rfl (OpT_move rfl rfl rfl rfl) ?_
   refine TA_wkS (fr' := [(2, some (vU64 np2)), (3, some (.pointer (some ⟨b1, 0, none⟩))), (4, some (.pointer (some ⟨b2, 0, none⟩))), (7, some (vI search1)), (25, some (vB (search1 == (len m.l))))]) (own' := [some (cellsR b_m 62 [vm1, vm2]), some (rowsX u8S true vm2 vsm1 m.b none), some (cellsR b1 30 [.pointer (some ⟨b_m, 0, none⟩)]), some (cellsR b2 26 [vU64 atp1])]) (shr' := [Fact.sl RegionS vm1 m.l]) [2, 3, 4, 7, 25] [0, 1, 2, 3] [0] rfl rfl rfl rfl ?_
   rcases Bool.eq_false_or_eq_true (search1 == (len m.l)) with hg2 | hg2
   ·replace h := br_t hg2 h
    refine TA_seg (lo := 8) (hi := 17) htb rfl rfl (by kernel_rfl) (fun c L a w => Sat c ⟨[(2, some (vU64 np2)), (3, some (.pointer (some ⟨b1, 0, none⟩))), (4, some (.pointer (some ⟨b2, 0, none⟩))), (7, some (vI search1)), (25, some (vB (search1 == (len m.l)))), (26, bif L 8 then some (undef) else none), (27, bif L 9 then some (undef) else none), (28, bif L 10 then some (undef) else none), (29, bif L 11 then some (undef) else none), (30, bif L 12 then some (undef) else none), (31, bif L 13 then some (undef) else none), (32, bif L 14 then some (undef) else none), (33, bif L 15 then some (undef) else none), (34, bif L 16 then some (undef) else none)], [(some (cellsR b_m 62 [vm1, vm2]) : Option Res), (some (rowsX u8S true vm2 vsm1 m.b none) : Option Res), (some (cellsR b1 30 [.pointer (some ⟨b_m, 0, none⟩)]) : Option Res), (some (cellsR b2 26 [vU64 atp1]) : Option Res)], [Fact.sl RegionS vm1 m.l]⟩ a w) [([], []), ([], [10, 11, 12, 14, 15, 16]), ([9], [11, 12, 14, 15, 16]), ([9, 10], [12, 14, 15, 16]), ([9, 10, 11], [14, 15, 16]), ([], [14, 15, 16]), ([9, 10, 11, 12, 13], [15, 16]), ([9, 10, 11, 12, 13, 14], [16]), ([9, 10, 11, 12, 13, 14, 15], [])] rfl (by kernel_rfl) ?_ (steps_cons ?_ (steps_cons ?_ (steps_cons ?_ (steps_cons ?_ (steps_cons ?_ (steps_cons ?_ (steps_cons ?_ (steps_cons ?_ (steps_cons ?_ (steps_nil)))))))))) ?_
    ·intro a w hs
     exact hs.startF [26, 27, 28, 29, 30, 31, 32, 33, 34] [0, 1, 2, 3] [0] rfl rfl rfl rfl
    ·intro L a w hv K Q hK
     have hs := hv
     refine wpOp_no rfl rfl rfl hs (congrArg (fun b => some (Value.bool b)) hg2) rfl rfl ?_
     intro a' w' hs'
     exact hK a' w' (hs'.putF (i := 5) rfl [0, 1, 2, 3] [0] rfl rfl rfl rfl)
    ·intro L a w hv K Q hK
     have hs := hv
     refine wpOp_no rfl rfl rfl hs (congrArg (fun b => some (Value.bool b)) hg2) rfl rfl ?_
     intro a' w' hs'
     exact hK a' w' (hs'.putF (i := 6) rfl [0, 1, 2, 3] [0] rfl rfl rfl rfl)
    ·intro L a w hv K Q hK
     have hs := hv
     refine wpOp_no rfl rfl rfl hs (congrArg (fun b => some (Value.bool b)) hg2) rfl rfl ?_
     intro a' w' hs'
     exact hK a' w' (hs'.putF (i := 7) rfl [0, 1, 2, 3] [0] rfl rfl rfl rfl)
    ·intro L a w hv K Q hK
     have hs := hv
     refine wpOp_no rfl rfl rfl hs (congrArg (fun b => some (Value.bool b)) hg2) rfl rfl ?_
     intro a' w' hs'
     exact hK a' w' (hs'.putF (i := 8) rfl [0, 1, 2, 3] [0] rfl rfl rfl rfl)
    ·intro L a w hv K Q hK
     have hs := hv
     refine wpOp_no rfl rfl rfl hs (congrArg (fun b => some (Value.bool b)) hg2) rfl rfl ?_
     intro a' w' hs'
     exact hK a' w' (hs'.putF (i := 9) rfl [0, 1, 2, 3] [0] rfl rfl rfl rfl)
    ·intro L a w hv K Q hK
     have hs := hv
     refine wpOp_no rfl rfl rfl hs (congrArg (fun b => some (Value.bool b)) hg2) rfl rfl ?_
     intro a' w' hs'
     exact hK a' w' (hs'.putF (i := 10) rfl [0, 1, 2, 3] [0] rfl rfl rfl rfl)
    ·intro L a w hv K Q hK
     have hs := hv
     refine wpOp_no rfl rfl rfl hs (congrArg (fun b => some (Value.bool b)) hg2) rfl rfl ?_
     intro a' w' hs'
     exact hK a' w' (hs'.putF (i := 11) rfl [0, 1, 2, 3] [0] rfl rfl rfl rfl)
    ·intro L a w hv K Q hK
     have hs := hv
     refine wpOp_no rfl rfl rfl hs (congrArg (fun b => some (Value.bool b)) hg2) rfl rfl ?_
     intro a' w' hs'
     exact hK a' w' (hs'.putF (i := 12) rfl [0, 1, 2, 3] [0] rfl rfl rfl rfl)
    ·intro L a w hv K Q hK
     have hs := hv
     refine wpOp_no rfl rfl rfl hs (congrArg (fun b => some (Value.bool b)) hg2) rfl rfl ?_
     intro a' w' hs'
     exact hK a' w' (hs'.putF (i := 13) rfl [0, 1, 2, 3] [0] rfl rfl rfl rfl)
    ·intro L a w hL hv
     rw [allTrue hL] at hv
     have hs := hv
     refine (show TA _ _ _ 17 ⟨[(2, some (vU64 np2)), (3, some (.pointer (some ⟨b1, 0, none⟩))), (4, some (.pointer (some ⟨b2, 0, none⟩))), (7, some (vI search1)), (25, some (vB (search1 == (len m.l)))), (26, some (undef)), (34, some (undef))], [some (cellsR b_m 62 [vm1, vm2]), some (rowsX u8S true vm2 vsm1 m.b none), some (cellsR b1 30 [.pointer (some ⟨b_m, 0, none⟩)]), some (cellsR b2 26 [vU64 atp1])], [Fact.sl RegionS vm1 m.l]⟩ from ?_) a w (hs.wkS [2, 3, 4, 7, 25, 26, 34] [0, 1, 2, 3] [0] rfl rfl rfl rfl)
     clear hs hL
     refine TA_no htb (by kernel_rfl) rfl rfl rfl (congrArg (fun b => some (Value.bool b)) hg2) rfl rfl ?_
     refine TA_step htb (by kernel_rfl) rfl rfl (OpT_pickT rfl rfl rfl (congrArg (fun b => some (Value.bool b)) hg2) rfl) ?_
     refine TA_end rfl ?_
     refine Tk_wkS (fr' := [(2, some (vU64 np2)), (3, some (.pointer (some ⟨b1, 0, none⟩))), (4, some (.pointer (some ⟨b2, 0, none⟩))), (7, some (vI search1)), (36, some (vB true))]) (own' := [some (cellsR b_m 62 [vm1, vm2]), some (rowsX u8S true vm2 vsm1 m.b none), some (cellsR b1 30 [.pointer (some ⟨b_m, 0, none⟩)]), some (cellsR b2 26 [vU64 atp1])]) (shr' := [Fact.sl RegionS vm1 m.l]) [2, 3, 4, 7, 36] [0, 1, 2, 3] [0] rfl rfl rfl rfl ?_
     refine Tk_condT rfl ?_
     refine Tk_seq (Tk_region (Tops_step rfl (OpT_assign rfl rfl rfl rfl) ?_))
     refine Tops_nil (Tk_wkS (fr' := [(6, some (.slice none 0 0))]) (own' := [some (cellsR b_m 62 [vm1, vm2]), some (rowsX u8S true vm2 vsm1 m.b none)]) (shr' := [Fact.sl RegionS vm1 m.l]) [6] [0, 1] [0] rfl rfl rfl rfl ?_)
     obtain rfl := Option.some.inj h
     exact Tk_retV rfl rfl (resA (vs := [.slice none 0 0]) rfl ⟨rfl, trivial⟩) [0, 1] [] rfl rfl rfl ⟨rfl, rfl, rfl⟩
   ·replace h := br_f hg2 h
    obtain ⟨r1, hx2, h⟩ := ob_e h
    refine TA_seg (lo := 8) (hi := 17) htb rfl rfl (by kernel_rfl) (fun c L a w => ∃ (p1 : Value), ∃ (p2 : Value), Sat c ⟨[(2, some (vU64 np2)), (3, some (.pointer (some ⟨b1, 0, none⟩))), (4, some (.pointer (some ⟨b2, 0, none⟩))), (7, some (vI search1)), (25, some (vB (search1 == (len m.l)))), (26, bif L 8 then some (vU64 atp1) else none), (27, bif L 9 then some (.pointer (some ⟨b_m, 0, none⟩)) else none), (28, bif L 10 then some (.pointer (some ⟨b_m, 0, none⟩)) else none), (29, bif L 11 then some (.pointer (some ⟨b_m, 0, none⟩)) else none), (30, bif L 12 then some (vm1) else none), (31, bif L 13 then some (vI search1) else none), (32, bif L 14 then some (p1) else none), (33, bif L 15 then some (p2) else none), (34, bif L 16 then some (vU64 r1.At) else none)], [(some (cellsR b_m 62 [vm1, vm2]) : Option Res), (some (rowsX u8S true vm2 vsm1 m.b none) : Option Res), (some (cellsR b1 30 [.pointer (some ⟨b_m, 0, none⟩)]) : Option Res), (some (cellsR b2 26 [vU64 atp1]) : Option Res)], [Fact.sl RegionS vm1 m.l, (bif L 14 then Fact.pt RegionS p1 r1 else Fact.tt), (bif L 15 then Fact.pt u64S p2 r1.At else Fact.tt)]⟩ a w) [([], []), ([], [10, 11, 12, 14, 15, 16]), ([9], [11, 12, 14, 15, 16]), ([9, 10], [12, 14, 15, 16]), ([9, 10, 11], [14, 15, 16]), ([], [14, 15, 16]), ([9, 10, 11, 12, 13], [15, 16]), ([9, 10, 11, 12, 13, 14], [16]), ([9, 10, 11, 12, 13, 14, 15], [])] rfl (by kernel_rfl) ?_ (steps_cons ?_ (steps_cons ?_ (steps_cons ?_ (steps_cons ?_ (steps_cons ?_ (steps_cons ?_ (steps_cons ?_ (steps_cons ?_ (steps_cons ?_ (steps_nil)))))))))) ?_
    ·intro a w hs
     exact ⟨undef, undef, hs.startF [26, 27, 28, 29, 30, 31, 32, 33, 34] [0, 1, 2, 3] [0, 1, 2] rfl rfl rfl rfl⟩
    ·intro L a w hv K Q hK
     obtain ⟨p1, p2, hs⟩ := hv
     refine wpOp_yes rfl rfl rfl hs (congrArg (fun b => some (Value.bool b)) hg2) (OpT_loadC rfl rfl rfl rfl tyF26 (i := 3) rfl rfl) ?_
     rintro _ rfl a' w' hs'
     exact hK a' w' ⟨p1, p2, hs'.putF (i := 5) rfl [0, 1, 2, 3] [0, 1, 2] rfl rfl rfl rfl⟩
    ·intro L a w hv K Q hK
     obtain ⟨p1, p2, hs⟩ := hv
     refine wpOp_yes rfl rfl rfl hs (congrArg (fun b => some (Value.bool b)) hg2) (OpT_loadC rfl rfl rfl rfl tyF30 (i := 2) rfl rfl) ?_
     rintro _ rfl a' w' hs'
     exact hK a' w' ⟨p1, p2, hs'.putF (i := 6) rfl [0, 1, 2, 3] [0, 1, 2] rfl rfl rfl rfl⟩
    ·intro L a w hv K Q hK
     obtain ⟨p1, p2, hs⟩ := hv
     refine wpOp_yes rfl rfl rfl hs (congrArg (fun b => some (Value.bool b)) hg2) (OpT_nilCheckP rfl rfl rfl rfl) ?_
     rintro _ rfl a' w' hs'
     exact hK a' w' ⟨p1, p2, hs'.putF (i := 7) rfl [0, 1, 2, 3] [0, 1, 2] rfl rfl rfl rfl⟩
    ·intro L a w hv K Q hK
     obtain ⟨p1, p2, hs⟩ := hv
     refine wpOp_yes rfl rfl rfl hs (congrArg (fun b => some (Value.bool b)) hg2) (OpT_fieldC rfl rfl rfl rfl fldF62x0) ?_
     rintro _ rfl a' w' hs'
     exact hK a' w' ⟨p1, p2, hs'.putF (i := 8) rfl [0, 1, 2, 3] [0, 1, 2] rfl rfl rfl rfl⟩
    ·intro L a w hv K Q hK
     obtain ⟨p1, p2, hs⟩ := hv
     refine wpOp_yes rfl rfl rfl hs (congrArg (fun b => some (Value.bool b)) hg2) (OpT_loadC rfl rfl rfl rfl tyF22 (i := 0) rfl rfl) ?_
     rintro _ rfl a' w' hs'
     exact hK a' w' ⟨p1, p2, hs'.putF (i := 9) rfl [0, 1, 2, 3] [0, 1, 2] rfl rfl rfl rfl⟩
    ·intro L a w hv K Q hK
     obtain ⟨p1, p2, hs⟩ := hv
     refine wpOp_yes rfl rfl rfl hs (congrArg (fun b => some (Value.bool b)) hg2) (OpT_move rfl rfl rfl rfl) ?_
     rintro _ rfl a' w' hs'
     exact hK a' w' ⟨p1, p2, hs'.putF (i := 10) rfl [0, 1, 2, 3] [0, 1, 2] rfl rfl rfl rfl⟩
    ·intro L a w hv K Q hK
     obtain ⟨p1, p2, hs⟩ := hv
     refine wpOp_yes rfl rfl rfl hs (congrArg (fun b => some (Value.bool b)) hg2) (OpT_idxS rfl rfl rfl rfl rfl slF22 (i := 0) rfl hx2) ?_
     rintro _ ⟨p1', rfl⟩ a' w' hs'
     exact hK a' w' ⟨p1', p2, hs'.putF (i := 11) rfl [0, 1, 2, 3] [0, 3, 2] rfl rfl rfl rfl⟩
    ·intro L a w hv K Q hK
     obtain ⟨p1, p2, hs⟩ := hv
     refine wpOp_yes rfl rfl rfl hs (congrArg (fun b => some (Value.bool b)) hg2) (OpT_fieldP (S' := u64S) (y := r1.At) rfl rfl rfl rfl fldF36x0 (i := 1) rfl (by intro h cs hr; subst hr; rfl)) ?_
     rintro _ ⟨p2', rfl⟩ a' w' hs'
     exact hK a' w' ⟨p1, p2', hs'.putF (i := 12) rfl [0, 1, 2, 3] [0, 1, 3] rfl rfl rfl rfl⟩
    ·intro L a w hv K Q hK
     obtain ⟨p1, p2, hs⟩ := hv
     refine wpOp_yes rfl rfl rfl hs (congrArg (fun b => some (Value.bool b)) hg2) (OpT_loadP rfl rfl rfl rfl tyF26 (i := 2) rfl rfl) ?_
     rintro _ rfl a' w' hs'
     exact hK a' w' ⟨p1, p2, hs'.putF (i := 13) rfl [0, 1, 2, 3] [0, 1, 2] rfl rfl rfl rfl⟩
    ·intro L a w hL hv
     rw [allTrue hL] at hv
     obtain ⟨p1, p2, hs⟩ := hv
     refine (show TA _ _ _ 17 ⟨[(2, some (vU64 np2)), (3, some (.pointer (some ⟨b1, 0, none⟩))), (4, some (.pointer (some ⟨b2, 0, none⟩))), (7, some (vI search1)), (25, some (vB (search1 == (len m.l)))), (26, some (vU64 atp1)), (34, some (vU64 r1.At))], [some (cellsR b_m 62 [vm1, vm2]), some (rowsX u8S true vm2 vsm1 m.b none), some (cellsR b1 30 [.pointer (some ⟨b_m, 0, none⟩)]), some (cellsR b2 26 [vU64 atp1])], [Fact.sl RegionS vm1 m.l]⟩ from ?_) a w (hs.wkS [2, 3, 4, 7, 25, 26, 34] [0, 1, 2, 3] [0] rfl rfl rfl rfl)
     clear hs hL
     refine TA_yes htb (by kernel_rfl) rfl rfl rfl (congrArg (fun b => some (Value.bool b)) hg2) (OpT_bin rfl rfl rfl rfl rfl (bin_lss_u64 (a := atp1) (b := r1.At))) ?_
     rintro _ rfl
     refine TA_step htb (by kernel_rfl) rfl rfl (OpT_pickF rfl rfl rfl (congrArg (fun b => some (Value.bool b)) hg2) rfl) ?_
     refine TA_end rfl ?_
     refine Tk_wkS (fr' := [(2, some (vU64 np2)), (3, some (.pointer (some ⟨b1, 0, none⟩))), (4, some (.pointer (some ⟨b2, 0, none⟩))), (7, some (vI search1)), (36, some (vB (decide (atp1 < r1.At))))]) (own' := [some (cellsR b_m 62 [vm1, vm2]), some (rowsX u8S true vm2 vsm1 m.b none), some (cellsR b1 30 [.pointer (some ⟨b_m, 0, none⟩)]), some (cellsR b2 26 [vU64 atp1])]) (shr' := [Fact.sl RegionS vm1 m.l]) [2, 3, 4, 7, 36] [0, 1, 2, 3] [0] rfl rfl rfl rfl ?_
     rcases Bool.eq_false_or_eq_true (decide (atp1 < r1.At)) with hg3 | hg3
     ·replace h := br_t hg3 h
      refine Tk_condT (congrArg (fun b => some (Value.bool b)) hg3) ?_
      refine Tk_seq (Tk_region (Tops_step rfl (OpT_assign rfl rfl rfl rfl) ?_))
      refine Tops_nil (Tk_wkS (fr' := [(6, some (.slice none 0 0))]) (own' := [some (cellsR b_m 62 [vm1, vm2]), some (rowsX u8S true vm2 vsm1 m.b none)]) (shr' := [Fact.sl RegionS vm1 m.l]) [6] [0, 1] [0] rfl rfl rfl rfl ?_)
      obtain rfl := Option.some.inj h
      exact Tk_retV rfl rfl (resA (vs := [.slice none 0 0]) rfl ⟨rfl, trivial⟩) [0, 1] [] rfl rfl rfl ⟨rfl, rfl, rfl⟩
     ·replace h := br_f hg3 h
      refine Tk_condF (congrArg (fun b => some (Value.bool b)) hg3) ?_
      refine Tk_skip (Tk_seq (Tk_drawT (by kernel_rfl) ?_))
      refine TA_tb [0, 0, 2, 6, 14, 0, 62, 126, 254, 511, 1023] (by kernel_rfl) fun htb => ?_
      refine TA_wkS (fr' := [(2, some (vU64 np2)), (3, some (.pointer (some ⟨b1, 0, none⟩))), (4, some (.pointer (some ⟨b2, 0, none⟩))), (7, some (vI search1))]) (own' := [some (cellsR b_m 62 [vm1, vm2]), some (rowsX u8S true vm2 vsm1 m.b none), some (cellsR b1 30 [.pointer (some ⟨b_m, 0, none⟩)]), some (cellsR b2 26 [vU64 atp1])]) (shr' := [Fact.sl RegionS vm1 m.l]) [2, 3, 4, 7] [0, 1, 2, 3] [0] rfl rfl rfl rfl ?_
      obtain ⟨r2, hx3, h⟩ := ob_e h
      refine TA_seg (lo := 0) (hi := 9) htb rfl rfl (by kernel_rfl) (fun c L a w => ∃ (p3 : Value), ∃ (p4 : Value), Sat c ⟨[(2, some (vU64 np2)), (3, some (.pointer (some ⟨b1, 0, none⟩))), (4, some (.pointer (some ⟨b2, 0, none⟩))), (7, some (vI search1)), (37, bif L 0 then some (vU64 atp1) else none), (38, bif L 1 then some (.pointer (some ⟨b_m, 0, none⟩)) else none), (39, bif L 2 then some (.pointer (some ⟨b_m, 0, none⟩)) else none), (40, bif L 3 then some (.pointer (some ⟨b_m, 0, none⟩)) else none), (41, bif L 4 then some (vm1) else none), (42, bif L 5 then some (vI search1) else none), (43, bif L 6 then some (p3) else none), (44, bif L 7 then some (p4) else none), (45, bif L 8 then some (vU64 r2.At) else none)], [(some (cellsR b_m 62 [vm1, vm2]) : Option Res), (some (rowsX u8S true vm2 vsm1 m.b none) : Option Res), (some (cellsR b1 30 [.pointer (some ⟨b_m, 0, none⟩)]) : Option Res), (some (cellsR b2 26 [vU64 atp1]) : Option Res)], [Fact.sl RegionS vm1 m.l, (bif L 6 then Fact.pt RegionS p3 r2 else Fact.tt), (bif L 7 then Fact.pt u64S p4 r2.At else Fact.tt)]⟩ a w) [([], []), ([], [2, 3, 4, 6, 7, 8]), ([1], [3, 4, 6, 7, 8]), ([1, 2], [4, 6, 7, 8]), ([1, 2, 3], [6, 7, 8]), ([], [6, 7, 8]), ([1, 2, 3, 4, 5], [7, 8]), ([1, 2, 3, 4, 5, 6], [8]), ([1, 2, 3, 4, 5, 6, 7], [])] rfl (by kernel_rfl) ?_ (steps_cons ?_ (steps_cons ?_ (steps_cons ?_ (steps_cons ?_ (steps_cons ?_ (steps_cons ?_ (steps_cons ?_ (steps_cons ?_ (steps_cons ?_ (steps_nil)))))))))) ?_
      ·intro a w hs
       exact ⟨undef, undef, hs.startF [37, 38, 39, 40, 41, 42, 43, 44, 45] [0, 1, 2, 3] [0, 1, 2] rfl rfl rfl rfl⟩
      ·intro L a w hv K Q hK
       obtain ⟨p3, p4, hs⟩ := hv
       refine wpOp_go rfl rfl hs (OpT_loadC rfl rfl rfl rfl tyF26 (i := 3) rfl rfl) ?_
       rintro _ rfl a' w' hs'
       exact hK a' w' ⟨p3, p4, hs'.putF (i := 4) rfl [0, 1, 2, 3] [0, 1, 2] rfl rfl rfl rfl⟩
      ·intro L a w hv K Q hK
       obtain ⟨p3, p4, hs⟩ := hv
       refine wpOp_go rfl rfl hs (OpT_loadC rfl rfl rfl rfl tyF30 (i := 2) rfl rfl) ?_
       rintro _ rfl a' w' hs'
       exact hK a' w' ⟨p3, p4, hs'.putF (i := 5) rfl [0, 1, 2, 3] [0, 1, 2] rfl rfl rfl rfl⟩
      ·intro L a w hv K Q hK
       obtain ⟨p3, p4, hs⟩ := hv
       refine wpOp_go rfl rfl hs (OpT_nilCheckP rfl rfl rfl rfl) ?_
       rintro _ rfl a' w' hs'
       exact hK a' w' ⟨p3, p4, hs'.putF (i := 6) rfl [0, 1, 2, 3] [0, 1, 2] rfl rfl rfl rfl⟩
      ·intro L a w hv K Q hK
       obtain ⟨p3, p4, hs⟩ := hv
       refine wpOp_go rfl rfl hs (OpT_fieldC rfl rfl rfl rfl fldF62x0) ?_
       rintro _ rfl a' w' hs'
       exact hK a' w' ⟨p3, p4, hs'.putF (i := 7) rfl [0, 1, 2, 3] [0, 1, 2] rfl rfl rfl rfl⟩
      ·intro L a w hv K Q hK
       obtain ⟨p3, p4, hs⟩ := hv
       refine wpOp_go rfl rfl hs (OpT_loadC rfl rfl rfl rfl tyF22 (i := 0) rfl rfl) ?_
       rintro _ rfl a' w' hs'
       exact hK a' w' ⟨p3, p4, hs'.putF (i := 8) rfl [0, 1, 2, 3] [0, 1, 2] rfl rfl rfl rfl⟩
      ·intro L a w hv K Q hK
       obtain ⟨p3, p4, hs⟩ := hv
       refine wpOp_go rfl rfl hs (OpT_move rfl rfl rfl rfl) ?_
       rintro _ rfl a' w' hs'
       exact hK a' w' ⟨p3, p4, hs'.putF (i := 9) rfl [0, 1, 2, 3] [0, 1, 2] rfl rfl rfl rfl⟩
      ·intro L a w hv K Q hK
       obtain ⟨p3, p4, hs⟩ := hv
       refine wpOp_go rfl rfl hs (OpT_idxS rfl rfl rfl rfl rfl slF22 (i := 0) rfl hx3) ?_
       rintro _ ⟨p3', rfl⟩ a' w' hs'
       exact hK a' w' ⟨p3', p4, hs'.putF (i := 10) rfl [0, 1, 2, 3] [0, 3, 2] rfl rfl rfl rfl⟩
      ·intro L a w hv K Q hK
       obtain ⟨p3, p4, hs⟩ := hv
       refine wpOp_go rfl rfl hs (OpT_fieldP (S' := u64S) (y := r2.At) rfl rfl rfl rfl fldF36x0 (i := 1) rfl (by intro h cs hr; subst hr; rfl)) ?_
       rintro _ ⟨p4', rfl⟩ a' w' hs'
       exact hK a' w' ⟨p3, p4', hs'.putF (i := 11) rfl [0, 1, 2, 3] [0, 1, 3] rfl rfl rfl rfl⟩
      ·intro L a w hv K Q hK
       obtain ⟨p3, p4, hs⟩ := hv
       refine wpOp_go rfl rfl hs (OpT_loadP rfl rfl rfl rfl tyF26 (i := 2) rfl rfl) ?_
       rintro _ rfl a' w' hs'
       exact hK a' w' ⟨p3, p4, hs'.putF (i := 12) rfl [0, 1, 2, 3] [0, 1, 2] rfl rfl rfl rfl⟩
      ·intro L a w hL hv
       rw [allTrue hL] at hv
       obtain ⟨p3, p4, hs⟩ := hv
       refine (show TA _ _ _ 9 ⟨[(2, some (vU64 np2)), (3, some (.pointer (some ⟨b1, 0, none⟩))), (7, some (vI search1)), (37, some (vU64 atp1)), (45, some (vU64 r2.At))], [some (cellsR b_m 62 [vm1, vm2]), some (rowsX u8S true vm2 vsm1 m.b none), some (cellsR b1 30 [.pointer (some ⟨b_m, 0, none⟩)])], [Fact.sl RegionS vm1 m.l]⟩ from ?_) a w (hs.wkS [2, 3, 7, 37, 45] [0, 1, 2] [0] rfl rfl rfl rfl)
       clear hs hL
       refine TA_step htb (by kernel_rfl) rfl rfl (OpT_bin rfl rfl rfl rfl rfl (bin_sub_u64 (a := atp1) (b := r2.At))) ?_
       refine TA_step htb (by kernel_rfl) rfl rfl (OpT_assign rfl rfl rfl rfl) ?_
       refine TA_end rfl ?_
       refine Tk_wkS (fr' := [(2, some (vU64 np2)), (3, some (.pointer (some ⟨b1, 0, none⟩))), (7, some (vI search1)), (8, some (vU64 (atp1 - r2.At)))]) (own' := [some (cellsR b_m 62 [vm1, vm2]), some (rowsX u8S true vm2 vsm1 m.b none), some (cellsR b1 30 [.pointer (some ⟨b_m, 0, none⟩)])]) (shr' := [Fact.sl RegionS vm1 m.l]) [2, 3, 7, 8] [0, 1, 2] [0] rfl rfl rfl rfl ?_
       refine Tk_seq (Tk_seq (Tk_region (Tops_step rfl (OpT_move rfl rfl rfl rfl) ?_)))
       refine Tops_step rfl (OpT_loadC rfl rfl rfl rfl tyF30 (i := 2) rfl rfl) ?_
       refine Tops_step rfl (OpT_nilCheckP rfl rfl rfl rfl) ?_
       refine Tops_step rfl (OpT_fieldC rfl rfl rfl rfl fldF62x0) ?_
       refine Tops_step rfl (OpT_loadC rfl rfl rfl rfl tyF22 (i := 0) rfl rfl) ?_
       refine Tops_step rfl (OpT_move rfl rfl rfl rfl) ?_
       obtain ⟨r3, hx4, h⟩ := ob_e h
       refine Tops_ex rfl (OpT_idxS rfl rfl rfl rfl rfl slF22 (i := 0) rfl hx4) fun p5 => ?_
       refine Tops_ex rfl (OpT_fieldP (S' := u64S) (y := r3.Len) rfl rfl rfl rfl fldF36x1 (i := 1) rfl (by intro h cs hr; subst hr; rfl)) fun p6 => ?_
       refine Tops_step rfl (OpT_loadP rfl rfl rfl rfl tyF26 (i := 2) rfl rfl) ?_
       refine Tops_step rfl (OpT_move rfl rfl rfl rfl) ?_
       refine Tops_step rfl (OpT_bin rfl rfl rfl rfl rfl (bin_sub_u64 (a := r3.Len) (b := atp1 - r2.At))) ?_
       refine Tops_step rfl (OpT_bin rfl rfl rfl rfl rfl (bin_gtr_u64 (a := np2) (b := r3.Len - (atp1 - r2.At)))) ?_
       refine Tops_nil (Tk_wkS (fr' := [(2, some (vU64 np2)), (3, some (.pointer (some ⟨b1, 0, none⟩))), (7, some (vI search1)), (8, some (vU64 (atp1 - r2.At))), (58, some (vB (decide (np2 > (r3.Len - (atp1 - r2.At))))))]) (own' := [some (cellsR b_m 62 [vm1, vm2]), some (rowsX u8S true vm2 vsm1 m.b none), some (cellsR b1 30 [.pointer (some ⟨b_m, 0, none⟩)])]) (shr' := [Fact.sl RegionS vm1 m.l]) [2, 3, 7, 8, 58] [0, 1, 2] [0] rfl rfl rfl rfl ?_)
       rcases Bool.eq_false_or_eq_true (decide (np2 > (r3.Len - (atp1 - r2.At)))) with hg4 | hg4
       ·replace h := br_t hg4 h
        refine Tk_condT (congrArg (fun b => some (Value.bool b)) hg4) ?_
        refine Tk_seq (Tk_region (Tops_step rfl (OpT_assign rfl rfl rfl rfl) ?_))
        refine Tops_nil (Tk_wkS (fr' := [(6, some (.slice none 0 0))]) (own' := [some (cellsR b_m 62 [vm1, vm2]), some (rowsX u8S true vm2 vsm1 m.b none)]) (shr' := [Fact.sl RegionS vm1 m.l]) [6] [0, 1] [0] rfl rfl rfl rfl ?_)
        obtain rfl := Option.some.inj h
        exact Tk_retV rfl rfl (resA (vs := [.slice none 0 0]) rfl ⟨rfl, trivial⟩) [0, 1] [] rfl rfl rfl ⟨rfl, rfl, rfl⟩
       ·replace h := br_f hg4 h
        refine Tk_condF (congrArg (fun b => some (Value.bool b)) hg4) ?_
        refine Tk_skip (Tk_seq (Tk_region (Tops_step rfl (OpT_loadC rfl rfl rfl rfl tyF30 (i := 2) rfl rfl) ?_)))
        refine Tops_step rfl (OpT_nilCheckP rfl rfl rfl rfl) ?_
        refine Tops_step rfl (OpT_fieldC rfl rfl rfl rfl fldF62x1) ?_
        refine Tops_step rfl (OpT_loadC rfl rfl rfl rfl tyF60 (i := 0) rfl rfl) ?_
        refine Tops_step rfl (OpT_move rfl rfl rfl rfl) ?_
        obtain ⟨row1, hx5, h⟩ := ob_e h
        refine Tops_step rfl (OpT_idxRows rfl rfl rfl rfl rfl slF60 (i := 1) rfl hx5) ?_
        refine Tops_vs (vs_focus (i := 1) (j := search1) rfl hx5) ?_
        refine Tops_step rfl (OpT_loadRow (m := search1) rfl rfl rfl rfl tyF38 (i := 1) rfl) ?_
        refine Tops_step rfl (OpT_move rfl rfl rfl rfl) ?_
        refine Tops_step rfl (OpT_move rfl rfl rfl rfl) ?_
        refine Tops_step rfl (OpT_move rfl rfl rfl rfl) ?_
        refine Tops_step rfl (OpT_bin rfl rfl rfl rfl rfl (bin_add_u64 (a := atp1 - r2.At) (b := np2))) ?_
        obtain ⟨hc1, h⟩ := chk_e h
        refine Tops_step rfl (OpT_subLH (S := u8S) (l := ((atp1 - r2.At).toNat : Int)) (m := (((atp1 - r2.At) + np2).toNat : Int)) rfl rfl rfl rfl rfl rfl slF38 (i := 3) rfl hc1) ?_
        refine Tops_step rfl (OpT_assign rfl rfl rfl rfl) ?_
        refine Tops_nil (Tk_wkS (fr' := [(6, some (subV (vsAt vsm1 (Int.toNat search1)) 1 (Int.toNat ((atp1 - r2.At).toNat : Int)) (Int.toNat (((atp1 - r2.At) + np2).toNat : Int))))]) (own' := [some (cellsR b_m 62 [vm1, vm2]), some (rowsX u8S true vm2 vsm1 m.b (some (Int.toNat search1, vsAt vsm1 (Int.toNat search1)))), some (rowS u8S (vsAt vsm1 (Int.toNat search1)) row1)]) (shr' := [Fact.sl RegionS vm1 m.l]) [6] [0, 1, 3] [0] rfl rfl rfl rfl ?_)
        refine Tk_vs (vs_unfocus0 (i := 1) (q := 2) rfl rfl rfl hx5) ?_
        obtain rfl := Option.some.inj h
        exact Tk_retV rfl rfl (resA (vs := [subV (vsAt vsm1 (Int.toNat search1)) 1 (Int.toNat ((atp1 - r2.At).toNat : Int)) (Int.toNat (((atp1 - r2.At) + np2).toNat : Int))]) rfl ⟨rfl, trivial⟩) [0, 1] [] rfl rfl rfl ⟨rfl, rfl, rfl⟩

set_option maxRecDepth 100000 in
set_option maxHeartbeats 4000000 in
theorem w_gmem_Mem_Store {m : gmem_Mem} {atp1 : UInt64} {bytes : Int} {vp3 : UInt64} {b_m : Nat} {vm1 : Value} {vm2 : Value} {vsm1 : List Value} {r : (Int × (List (List UInt8)))} (h : gmem_Mem_Store m atp1 bytes vp3 = some r) :
  Ctr Try.prog 17 #[.pointer (some ⟨b_m, 0, none⟩), vU64 atp1, vI bytes, vU64 vp3] [(cellsR b_m 62 [vm1, vm2]), (rowsX u8S true vm2 vsm1 m.b none)] [Fact.sl RegionS vm1 m.l]
   (fun rv own shr => rv = vI r.1 ∧ own = [(cellsR b_m 62 [vm1, vm2]), (rowsX u8S true vm2 vsm1 r.2 none)] ∧ shr = []) := by
 unfold gmem_Mem_Store at h
 refine Ctr.mk (args := [.pointer (some ⟨b_m, 0, none⟩), vU64 atp1, vI bytes, vU64 vp3]) Try.func17 rfl rfl (fun R0 w0 B => ?_)
 refine Tk_seq (Tk_region (Tops_step rfl (OpT_assign rfl rfl rfl rfl) ?_))
 refine Tops_nil (Tk_wkS (fr' := [(0, some (.pointer (some ⟨b_m, 0, none⟩))), (1, some (vU64 atp1)), (2, some (vI bytes)), (3, some (vU64 vp3))]) (own' := [some (cellsR b_m 62 [vm1, vm2]), some (rowsX u8S true vm2 vsm1 m.b none)]) (shr' := [Fact.sl RegionS vm1 m.l]) [0, 1, 2, 3] [0, 1] [0] rfl rfl rfl rfl ?_)
 refine Tk_seq (Tk_seq (Tk_region (Tops_step rfl (OpT_move rfl rfl rfl rfl) ?_)))
 obtain ⟨made1, hx1, h⟩ := ob_e h
 refine Tops_exP rfl (OpT_callP [2, 3] (w_gmem_Mem_made hx1) [0, 1] [0] rfl rfl rfl rfl rfl callee34 rfl rfl rfl rfl rfl) ?_
 rintro _ ⟨_, _, _, ⟨rfl, rfl, rfl⟩, rfl⟩
 refine Tops_step rfl (OpT_not rfl rfl rfl rfl) ?_
 refine Tops_nil (Tk_wkS (fr' := [(0, some (.pointer (some ⟨b_m, 0, none⟩))), (1, some (vU64 atp1)), (2, some (vI bytes)), (3, some (vU64 vp3)), (13, some (vB (!made1)))]) (own' := [some (cellsR b_m 62 [vm1, vm2]), some (rowsX u8S true vm2 vsm1 m.b none)]) (shr' := [Fact.sl RegionS vm1 m.l]) [0, 1, 2, 3, 13] [0, 1] [0] rfl rfl rfl rfl ?_)
 refine Tk_condF (congrArg (fun b => some (Value.bool b)) (congrArg (!·) (Option.some.inj (show some true = some made1 from hx1)).symm)) ?_
 refine Tk_skip (Tk_seq (Tk_seq (Tk_region (Tops_step rfl (OpT_move rfl rfl rfl rfl) ?_))))
 obtain ⟨isword1, hx2, h⟩ := ob_e h
 refine Tops_exP rfl (OpT_call (w_gmem_isWord hx2) [] [] rfl rfl rfl rfl rfl callee35 rfl rfl rfl rfl) ?_
 rintro _ ⟨_, _, _, ⟨rfl, rfl, rfl⟩, rfl⟩
 refine Tops_step rfl (OpT_not rfl rfl rfl rfl) ?_
 refine Tops_nil (Tk_wkS (fr' := [(0, some (.pointer (some ⟨b_m, 0, none⟩))), (1, some (vU64 atp1)), (2, some (vI bytes)), (3, some (vU64 vp3)), (16, some (vB (!isword1)))]) (own' := [some (cellsR b_m 62 [vm1, vm2]), some (rowsX u8S true vm2 vsm1 m.b none)]) (shr' := [Fact.sl RegionS vm1 m.l]) [0, 1, 2, 3, 16] [0, 1] [0] rfl rfl rfl rfl ?_)
 rcases Bool.eq_false_or_eq_true ((!isword1)) with hg1 | hg1
 ·replace h := br_t hg1 h
  refine Tk_condT (congrArg (fun b => some (Value.bool b)) hg1) ?_
  refine Tk_seq (Tk_region (Tops_step rfl (OpT_assign rfl rfl rfl rfl) ?_))
  refine Tops_nil (Tk_wkS (fr' := [(8, some (vI (2 : Int)))]) (own' := [some (cellsR b_m 62 [vm1, vm2]), some (rowsX u8S true vm2 vsm1 m.b none)]) (shr' := [Fact.sl RegionS vm1 m.l]) [8] [0, 1] [0] rfl rfl rfl rfl ?_)
  obtain rfl := Option.some.inj h
  exact Tk_retV rfl rfl (resA (vs := [vI (2 : Int)]) rfl ⟨rfl, trivial⟩) [0, 1] [] rfl rfl rfl ⟨rfl, rfl, rfl⟩
 ·replace h := br_f hg1 h
  refine Tk_condF (congrArg (fun b => some (Value.bool b)) hg1) ?_
  refine Tk_skip (Tk_seq (Tk_region (Tops_step rfl (OpT_move rfl rfl rfl rfl) ?_)))
  refine Tops_step rfl (OpT_move rfl rfl rfl rfl) ?_
  refine Tops_step rfl (OpT_move rfl rfl rfl rfl) ?_
  refine Tops_step rfl (OpT_cnv rfl rfl rfl rfl (cnv_i_u64 (n := bytes) Try.underlying3 Try.underlying26)) ?_
  obtain ⟨bytes1, hx3, h⟩ := ob_e h
  refine Tops_exP rfl (OpT_callP [2, 3] (w_gmem_Mem_bytes hx3) [0, 1] [0] rfl rfl rfl rfl rfl callee36 rfl rfl rfl rfl rfl) ?_
  rintro _ ⟨_, _, _, ⟨rfl, rfl, rfl⟩, rfl⟩
  refine Tops_step rfl (OpT_assign rfl rfl rfl rfl) ?_
  refine Tops_nil (Tk_wkS (fr' := [(2, some (vI bytes)), (3, some (vU64 vp3)), (9, some (winV 1 vsm1 bytes1))]) (own' := [some (cellsR b_m 62 [vm1, vm2]), some (rowsX u8S true vm2 vsm1 m.b none)]) (shr' := [Fact.sl RegionS vm1 m.l]) [2, 3, 9] [0, 1] [0] rfl rfl rfl rfl ?_)
  rcases onO_cases h with ⟨ho1, h⟩ | ⟨w1, ho1, h⟩
  ·refine Tk_eqv (x := winV 1 vsm1 bytes1) (y := .slice none 0 0) (by rw [ho1]; rfl) (fun z => ⟨[(2, some (vI bytes)), (3, some (vU64 vp3)), (9, some (z))], [some (cellsR b_m 62 [vm1, vm2]), some (rowsX u8S true vm2 vsm1 m.b none)], [Fact.sl RegionS vm1 m.l]⟩) ?_
   refine Tk_seq (Tk_seq (Tk_region (Tops_step rfl (OpT_move rfl rfl rfl rfl) ?_)))
   refine Tops_step rfl (OpT_eqNilN rfl rfl rfl (.inl rfl) rfl rfl Try.underlying38) ?_
   refine Tops_nil (Tk_wkS (fr' := [(2, some (vI bytes)), (3, some (vU64 vp3)), (9, some (.slice none 0 0)), (23, some (vB true))]) (own' := [some (cellsR b_m 62 [vm1, vm2]), some (rowsX u8S true vm2 vsm1 m.b none)]) (shr' := [Fact.sl RegionS vm1 m.l]) [2, 3, 9, 23] [0, 1] [0] rfl rfl rfl rfl ?_)
   refine Tk_condT rfl ?_
   refine Tk_seq (Tk_region (Tops_step rfl (OpT_assign rfl rfl rfl rfl) ?_))
   refine Tops_nil (Tk_wkS (fr' := [(8, some (vI (5 : Int)))]) (own' := [some (cellsR b_m 62 [vm1, vm2]), some (rowsX u8S true vm2 vsm1 m.b none)]) (shr' := [Fact.sl RegionS vm1 m.l]) [8] [0, 1] [0] rfl rfl rfl rfl ?_)
   obtain rfl := Option.some.inj h
   exact Tk_retV rfl rfl (resA (vs := [vI (5 : Int)]) rfl ⟨rfl, trivial⟩) [0, 1] [] rfl rfl rfl ⟨rfl, rfl, rfl⟩
  ·refine Tk_eqv (x := winV 1 vsm1 bytes1) (y := subV (vsAt vsm1 (Int.toNat w1.1)) 1 (Int.toNat w1.2.1) (Int.toNat w1.2.2)) (by rw [ho1]; rfl) (fun z => ⟨[(2, some (vI bytes)), (3, some (vU64 vp3)), (9, some (z))], [some (cellsR b_m 62 [vm1, vm2]), some (rowsX u8S true vm2 vsm1 m.b none)], [Fact.sl RegionS vm1 m.l]⟩) ?_
   obtain ⟨row1, hx4, h⟩ := ob_e h
   refine Tk_vs (vs_focus (i := 1) (j := w1.1) rfl hx4) ?_
   obtain ⟨hc1, h⟩ := chk_e h
   refine Tk_seq (Tk_seq (Tk_region (Tops_step rfl (OpT_move rfl rfl rfl rfl) ?_)))
   obtain ⟨hc2, h⟩ := chk_e h
   refine Tops_step rfl (OpT_eqSub (S := u8S) (l := w1.2.1) (m := w1.2.2) rfl rfl rfl (.inl rfl) rfl rfl Try.underlying38 (i := 2) rfl hc1 hc2) ?_
   refine Tops_nil (Tk_wkS (fr' := [(2, some (vI bytes)), (3, some (vU64 vp3)), (9, some (subV (vsAt vsm1 (Int.toNat w1.1)) 1 (Int.toNat w1.2.1) (Int.toNat w1.2.2))), (23, some (vB false))]) (own' := [some (cellsR b_m 62 [vm1, vm2]), some (rowsX u8S true vm2 vsm1 m.b (some (Int.toNat w1.1, vsAt vsm1 (Int.toNat w1.1)))), some (rowS u8S (vsAt vsm1 (Int.toNat w1.1)) row1)]) (shr' := [Fact.sl RegionS vm1 m.l]) [2, 3, 9, 23] [0, 1, 2] [0] rfl rfl rfl rfl ?_)
   refine Tk_condF rfl ?_
   refine Tk_skip (Tk_seq (Tk_seq (Tk_region (Tops_step rfl (OpT_move rfl rfl rfl rfl) ?_))))
   refine Tops_step rfl (OpT_move rfl rfl rfl rfl) ?_
   refine Tops_nil (Tk_wkS (fr' := [(3, some (vU64 vp3)), (9, some (subV (vsAt vsm1 (Int.toNat w1.1)) 1 (Int.toNat w1.2.1) (Int.toNat w1.2.2))), (24, some (vI bytes)), (25, some (vI (0 : Int)))]) (own' := [some (cellsR b_m 62 [vm1, vm2]), some (rowsX u8S true vm2 vsm1 m.b (some (Int.toNat w1.1, vsAt vsm1 (Int.toNat w1.1)))), some (rowS u8S (vsAt vsm1 (Int.toNat w1.1)) row1)]) (shr' := [Fact.sl RegionS vm1 m.l]) [3, 9, 24, 25] [0, 1, 2] [0] rfl rfl rfl rfl ?_)
   refine Tk_block (Tk_loopS (σ := (List UInt8) × Int) [3, 9, 24, 25] [2, 0, 1] [0] (fun s => ⟨[(3, some (vU64 vp3)), (9, some (subV (vsAt vsm1 (Int.toNat w1.1)) 1 (Int.toNat w1.2.1) (Int.toNat w1.2.2))), (24, some (vI bytes)), (25, some (vI s.2))], [some (rowS u8S (vsAt vsm1 (Int.toNat w1.1)) s.1), some (cellsR b_m 62 [vm1, vm2]), some (rowsX u8S true vm2 vsm1 m.b (some (Int.toNat w1.1, vsAt vsm1 (Int.toNat w1.1))))], [Fact.sl RegionS vm1 m.l]⟩) (fun nf1 s => gmem_Mem_StoreL1 m bytes vp3 w1 nf1 s.1 s.2 = some r) fuel (row1, (0 : Int)) h rfl rfl rfl rfl rfl (fun s h => by cases h) ?_)
   rintro nf1 ⟨row2, x1⟩ h
   replace h : gmem_Mem_StoreL1B m bytes vp3 w1 (gmem_Mem_StoreL1 m bytes vp3 w1 nf1) row2 x1 = some r := h
   unfold gmem_Mem_StoreL1B at h
   obtain ⟨hc3, h⟩ := chk_e h
   refine Tk_seq (Tk_region (Tops_step rfl (OpT_bin rfl rfl rfl rfl rfl (bin_lss_i (a := x1) (b := bytes))) ?_))
   refine Tops_nil (Tk_seq ?_)
   rcases Bool.eq_false_or_eq_true (decide (x1 < bytes)) with hg2 | hg2
   ·replace h := br_t hg2 h
    refine Tk_condT (congrArg (fun b => some (Value.bool b)) hg2) ?_
    refine Tk_skip (Tk_seq (Tk_block (Tk_seq (Tk_region (Tops_step rfl (OpT_move rfl rfl rfl rfl) ?_)))))
    refine Tops_step rfl (OpT_assign rfl rfl rfl rfl) ?_
    refine Tops_nil (Tk_wkS (fr' := [(3, some (vU64 vp3)), (9, some (subV (vsAt vsm1 (Int.toNat w1.1)) 1 (Int.toNat w1.2.1) (Int.toNat w1.2.2))), (24, some (vI bytes)), (25, some (vI x1)), (10, some (vI x1))]) (own' := [some (rowS u8S (vsAt vsm1 (Int.toNat w1.1)) row2), some (cellsR b_m 62 [vm1, vm2]), some (rowsX u8S true vm2 vsm1 m.b (some (Int.toNat w1.1, vsAt vsm1 (Int.toNat w1.1))))]) (shr' := [Fact.sl RegionS vm1 m.l]) [3, 9, 24, 25, 10] [0, 1, 2] [0] rfl rfl rfl rfl ?_)
    refine Tk_region (Tops_step rfl (OpT_move rfl rfl rfl rfl) ?_)
    refine Tops_step rfl (OpT_move rfl rfl rfl rfl) ?_
    refine Tops_step rfl (OpT_move rfl rfl rfl rfl) ?_
    refine Tops_step rfl (OpT_move rfl rfl rfl rfl) ?_
    refine Tops_step rfl (OpT_bin rfl rfl rfl rfl rfl (bin_mul_i (a := (8 : Int)) (b := x1))) ?_
    obtain ⟨hc4, h⟩ := chk_e h
    refine Tops_step rfl (OpT_bin rfl rfl rfl rfl rfl (bin_shr_u64_i64 (a := vp3) (n := wi ((8 : Int) * x1)) hc4)) ?_
    refine Tops_step rfl (OpT_cnv rfl rfl rfl rfl (cnv_u64_u8 (n := shr64 vp3 ((wi ((8 : Int) * x1)).toNat)) Try.underlying26 Try.underlying5)) ?_
    obtain ⟨y1, hx5, h⟩ := ob_e h
    refine Tops_step rfl (OpT_idxSub (S := u8S) (l := w1.2.1) (m := w1.2.2) rfl rfl rfl rfl rfl slF38 (i := 0) rfl hc3 hx5) ?_
    refine Tops_step rfl (OpT_storeO (S := u8S) (u := (shr64 vp3 ((wi ((8 : Int) * x1)).toNat)).toUInt8) rfl rfl rfl rfl rfl tyF5 (i := 0) rfl (ix_sub hc3 hx5) rfl) ?_
    refine Tops_nil (Tk_wkS (fr' := [(3, some (vU64 vp3)), (9, some (subV (vsAt vsm1 (Int.toNat w1.1)) 1 (Int.toNat w1.2.1) (Int.toNat w1.2.2))), (24, some (vI bytes)), (25, some (vI x1))]) (own' := [some (rowS u8S (vsAt vsm1 (Int.toNat w1.1)) (row2.set (w1.2.1 + x1).toNat ((shr64 vp3 ((wi ((8 : Int) * x1)).toNat)).toUInt8))), some (cellsR b_m 62 [vm1, vm2]), some (rowsX u8S true vm2 vsm1 m.b (some (Int.toNat w1.1, vsAt vsm1 (Int.toNat w1.1))))]) (shr' := [Fact.sl RegionS vm1 m.l]) [3, 9, 24, 25] [0, 1, 2] [0] rfl rfl rfl rfl ?_)
    refine Tk_blk (Tk_region (Tops_step rfl (OpT_bin rfl rfl rfl rfl rfl (bin_add_i (a := x1) (b := (1 : Int)))) ?_))
    refine Tops_step rfl (OpT_move rfl rfl rfl rfl) ?_
    refine Tops_nil (Tk_wkS (fr' := [(3, some (vU64 vp3)), (9, some (subV (vsAt vsm1 (Int.toNat w1.1)) 1 (Int.toNat w1.2.1) (Int.toNat w1.2.2))), (24, some (vI bytes)), (25, some (vI (wi (x1 + (1 : Int)))))]) (own' := [some (rowS u8S (vsAt vsm1 (Int.toNat w1.1)) (row2.set (w1.2.1 + x1).toNat ((shr64 vp3 ((wi ((8 : Int) * x1)).toNat)).toUInt8))), some (cellsR b_m 62 [vm1, vm2]), some (rowsX u8S true vm2 vsm1 m.b (some (Int.toNat w1.1, vsAt vsm1 (Int.toNat w1.1))))]) (shr' := [Fact.sl RegionS vm1 m.l]) [3, 9, 24, 25] [0, 1, 2] [0] rfl rfl rfl rfl ?_)
    exact Tk_backS (row2.set (w1.2.1 + x1).toNat ((shr64 vp3 ((wi ((8 : Int) * x1)).toNat)).toUInt8), wi (x1 + (1 : Int))) h [3, 9, 24, 25] [0, 1, 2] [0] rfl rfl rfl rfl rfl
   ·replace h := br_f hg2 h
    refine Tk_condF (congrArg (fun b => some (Value.bool b)) hg2) ?_
    refine Tk_exit _ rfl ?_
    refine Tk_seq (Tk_region (Tops_step rfl (OpT_assign rfl rfl rfl rfl) ?_))
    refine Tops_nil (Tk_wkS (fr' := [(8, some (vI (0 : Int)))]) (own' := [some (rowS u8S (vsAt vsm1 (Int.toNat w1.1)) row2), some (cellsR b_m 62 [vm1, vm2]), some (rowsX u8S true vm2 vsm1 m.b (some (Int.toNat w1.1, vsAt vsm1 (Int.toNat w1.1))))]) (shr' := [Fact.sl RegionS vm1 m.l]) [8] [0, 1, 2] [0] rfl rfl rfl rfl ?_)
    refine Tk_vs (vs_unfocus (i := 2) (q := 0) rfl rfl rfl) ?_
    obtain rfl := Option.some.inj h
    exact Tk_retV rfl rfl (resA (vs := [vI (0 : Int)]) rfl ⟨rfl, trivial⟩) [1, 2] [] rfl rfl rfl ⟨rfl, rfl, rfl⟩

set_option maxRecDepth 100000 in
set_option maxHeartbeats 4000000 in
theorem w_gmem_Mem_Load {m : gmem_Mem} {atp1 : UInt64} {bytes : Int} {b_m : Nat} {vm1 : Value} {vm2 : Value} {vsm1 : List Value} {r : (UInt64 × Int)} (h : gmem_Mem_Load m atp1 bytes = some r) :
  Ctr Try.prog 16 #[.pointer (some ⟨b_m, 0, none⟩), vU64 atp1, vI bytes] [(cellsR b_m 62 [vm1, vm2]), (rowsX u8S true vm2 vsm1 m.b none)] [Fact.sl RegionS vm1 m.l]
   (fun rv own shr => rv = .tuple #[vU64 r.1, vI r.2] ∧ own = [(cellsR b_m 62 [vm1, vm2]), (rowsX u8S true vm2 vsm1 m.b none)] ∧ shr = []) := by
 unfold gmem_Mem_Load at h
 refine Ctr.mk (args := [.pointer (some ⟨b_m, 0, none⟩), vU64 atp1, vI bytes]) Try.func16 rfl rfl (fun R0 w0 B => ?_)
 refine Tk_seq (Tk_region (Tops_step rfl (OpT_assign rfl rfl rfl rfl) ?_))
 refine Tops_step rfl (OpT_assign rfl rfl rfl rfl) ?_
 refine Tops_nil (Tk_wkS (fr' := [(0, some (.pointer (some ⟨b_m, 0, none⟩))), (1, some (vU64 atp1)), (2, some (vI bytes))]) (own' := [some (cellsR b_m 62 [vm1, vm2]), some (rowsX u8S true vm2 vsm1 m.b none)]) (shr' := [Fact.sl RegionS vm1 m.l]) [0, 1, 2] [0, 1] [0] rfl rfl rfl rfl ?_)
 refine Tk_seq (Tk_seq (Tk_region (Tops_step rfl (OpT_move rfl rfl rfl rfl) ?_)))
 obtain ⟨made1, hx1, h⟩ := ob_e h
 refine Tops_exP rfl (OpT_callP [2, 3] (w_gmem_Mem_made hx1) [0, 1] [0] rfl rfl rfl rfl rfl callee34 rfl rfl rfl rfl rfl) ?_
 rintro _ ⟨_, _, _, ⟨rfl, rfl, rfl⟩, rfl⟩
 refine Tops_step rfl (OpT_not rfl rfl rfl rfl) ?_
 refine Tops_nil (Tk_wkS (fr' := [(0, some (.pointer (some ⟨b_m, 0, none⟩))), (1, some (vU64 atp1)), (2, some (vI bytes)), (13, some (vB (!made1)))]) (own' := [some (cellsR b_m 62 [vm1, vm2]), some (rowsX u8S true vm2 vsm1 m.b none)]) (shr' := [Fact.sl RegionS vm1 m.l]) [0, 1, 2, 13] [0, 1] [0] rfl rfl rfl rfl ?_)
 refine Tk_condF (congrArg (fun b => some (Value.bool b)) (congrArg (!·) (Option.some.inj (show some true = some made1 from hx1)).symm)) ?_
 refine Tk_skip (Tk_seq (Tk_seq (Tk_region (Tops_step rfl (OpT_move rfl rfl rfl rfl) ?_))))
 obtain ⟨isword1, hx2, h⟩ := ob_e h
 refine Tops_exP rfl (OpT_call (w_gmem_isWord hx2) [] [] rfl rfl rfl rfl rfl callee35 rfl rfl rfl rfl) ?_
 rintro _ ⟨_, _, _, ⟨rfl, rfl, rfl⟩, rfl⟩
 refine Tops_step rfl (OpT_not rfl rfl rfl rfl) ?_
 refine Tops_nil (Tk_wkS (fr' := [(0, some (.pointer (some ⟨b_m, 0, none⟩))), (1, some (vU64 atp1)), (2, some (vI bytes)), (16, some (vB (!isword1)))]) (own' := [some (cellsR b_m 62 [vm1, vm2]), some (rowsX u8S true vm2 vsm1 m.b none)]) (shr' := [Fact.sl RegionS vm1 m.l]) [0, 1, 2, 16] [0, 1] [0] rfl rfl rfl rfl ?_)
 rcases Bool.eq_false_or_eq_true ((!isword1)) with hg1 | hg1
 ·replace h := br_t hg1 h
  refine Tk_condT (congrArg (fun b => some (Value.bool b)) hg1) ?_
  refine Tk_seq (Tk_region (Tops_step rfl (OpT_assign rfl rfl rfl rfl) ?_))
  refine Tops_step rfl (OpT_assign rfl rfl rfl rfl) ?_
  refine Tops_nil (Tk_wkS (fr' := [(6, some (vU64 (0 : UInt64))), (7, some (vI (2 : Int)))]) (own' := [some (cellsR b_m 62 [vm1, vm2]), some (rowsX u8S true vm2 vsm1 m.b none)]) (shr' := [Fact.sl RegionS vm1 m.l]) [6, 7] [0, 1] [0] rfl rfl rfl rfl ?_)
  obtain rfl := Option.some.inj h
  exact Tk_retV rfl rfl (resA (vs := [vU64 (0 : UInt64), vI (2 : Int)]) rfl ⟨rfl, rfl, trivial⟩) [0, 1] [] rfl rfl rfl ⟨rfl, rfl, rfl⟩
 ·replace h := br_f hg1 h
  refine Tk_condF (congrArg (fun b => some (Value.bool b)) hg1) ?_
  refine Tk_skip (Tk_seq (Tk_region (Tops_step rfl (OpT_move rfl rfl rfl rfl) ?_)))
  refine Tops_step rfl (OpT_move rfl rfl rfl rfl) ?_
  refine Tops_step rfl (OpT_move rfl rfl rfl rfl) ?_
  refine Tops_step rfl (OpT_cnv rfl rfl rfl rfl (cnv_i_u64 (n := bytes) Try.underlying3 Try.underlying26)) ?_
  obtain ⟨bytes1, hx3, h⟩ := ob_e h
  refine Tops_exP rfl (OpT_callP [2, 3] (w_gmem_Mem_bytes hx3) [0, 1] [0] rfl rfl rfl rfl rfl callee36 rfl rfl rfl rfl rfl) ?_
  rintro _ ⟨_, _, _, ⟨rfl, rfl, rfl⟩, rfl⟩
  refine Tops_step rfl (OpT_assign rfl rfl rfl rfl) ?_
  refine Tops_nil (Tk_wkS (fr' := [(2, some (vI bytes)), (8, some (winV 1 vsm1 bytes1))]) (own' := [some (cellsR b_m 62 [vm1, vm2]), some (rowsX u8S true vm2 vsm1 m.b none)]) (shr' := [Fact.sl RegionS vm1 m.l]) [2, 8] [0, 1] [0] rfl rfl rfl rfl ?_)
  rcases onO_cases h with ⟨ho1, h⟩ | ⟨w1, ho1, h⟩
  ·refine Tk_eqv (x := winV 1 vsm1 bytes1) (y := .slice none 0 0) (by rw [ho1]; rfl) (fun z => ⟨[(2, some (vI bytes)), (8, some (z))], [some (cellsR b_m 62 [vm1, vm2]), some (rowsX u8S true vm2 vsm1 m.b none)], [Fact.sl RegionS vm1 m.l]⟩) ?_
   refine Tk_seq (Tk_seq (Tk_region (Tops_step rfl (OpT_move rfl rfl rfl rfl) ?_)))
   refine Tops_step rfl (OpT_eqNilN rfl rfl rfl (.inl rfl) rfl rfl Try.underlying38) ?_
   refine Tops_nil (Tk_wkS (fr' := [(2, some (vI bytes)), (8, some (.slice none 0 0)), (23, some (vB true))]) (own' := [some (cellsR b_m 62 [vm1, vm2]), some (rowsX u8S true vm2 vsm1 m.b none)]) (shr' := [Fact.sl RegionS vm1 m.l]) [2, 8, 23] [0, 1] [0] rfl rfl rfl rfl ?_)
   refine Tk_condT rfl ?_
   refine Tk_seq (Tk_region (Tops_step rfl (OpT_assign rfl rfl rfl rfl) ?_))
   refine Tops_step rfl (OpT_assign rfl rfl rfl rfl) ?_
   refine Tops_nil (Tk_wkS (fr' := [(6, some (vU64 (0 : UInt64))), (7, some (vI (5 : Int)))]) (own' := [some (cellsR b_m 62 [vm1, vm2]), some (rowsX u8S true vm2 vsm1 m.b none)]) (shr' := [Fact.sl RegionS vm1 m.l]) [6, 7] [0, 1] [0] rfl rfl rfl rfl ?_)
   obtain rfl := Option.some.inj h
   exact Tk_retV rfl rfl (resA (vs := [vU64 (0 : UInt64), vI (5 : Int)]) rfl ⟨rfl, rfl, trivial⟩) [0, 1] [] rfl rfl rfl ⟨rfl, rfl, rfl⟩
  ·refine Tk_eqv (x := winV 1 vsm1 bytes1) (y := subV (vsAt vsm1 (Int.toNat w1.1)) 1 (Int.toNat w1.2.1) (Int.toNat w1.2.2)) (by rw [ho1]; rfl) (fun z => ⟨[(2, some (vI bytes)), (8, some (z))], [some (cellsR b_m 62 [vm1, vm2]), some (rowsX u8S true vm2 vsm1 m.b none)], [Fact.sl RegionS vm1 m.l]⟩) ?_
   obtain ⟨row1, hx4, h⟩ := ob_e h
   refine Tk_vs (vs_focus (i := 1) (j := w1.1) rfl hx4) ?_
   obtain ⟨hc1, h⟩ := chk_e h
   refine Tk_seq (Tk_seq (Tk_region (Tops_step rfl (OpT_move rfl rfl rfl rfl) ?_)))
   obtain ⟨hc2, h⟩ := chk_e h
   refine Tops_step rfl (OpT_eqSub (S := u8S) (l := w1.2.1) (m := w1.2.2) rfl rfl rfl (.inl rfl) rfl rfl Try.underlying38 (i := 2) rfl hc1 hc2) ?_
   refine Tops_nil (Tk_wkS (fr' := [(2, some (vI bytes)), (8, some (subV (vsAt vsm1 (Int.toNat w1.1)) 1 (Int.toNat w1.2.1) (Int.toNat w1.2.2))), (23, some (vB false))]) (own' := [some (cellsR b_m 62 [vm1, vm2]), some (rowsX u8S true vm2 vsm1 m.b (some (Int.toNat w1.1, vsAt vsm1 (Int.toNat w1.1)))), some (rowS u8S (vsAt vsm1 (Int.toNat w1.1)) row1)]) (shr' := [Fact.sl RegionS vm1 m.l]) [2, 8, 23] [0, 1, 2] [0] rfl rfl rfl rfl ?_)
   refine Tk_condF rfl ?_
   refine Tk_skip (Tk_seq (Tk_region (Tops_step rfl (OpT_assign rfl rfl rfl rfl) ?_)))
   refine Tops_nil (Tk_wkS (fr' := [(2, some (vI bytes)), (8, some (subV (vsAt vsm1 (Int.toNat w1.1)) 1 (Int.toNat w1.2.1) (Int.toNat w1.2.2))), (9, some (vU64 (0 : UInt64)))]) (own' := [some (cellsR b_m 62 [vm1, vm2]), some (rowsX u8S true vm2 vsm1 m.b (some (Int.toNat w1.1, vsAt vsm1 (Int.toNat w1.1)))), some (rowS u8S (vsAt vsm1 (Int.toNat w1.1)) row1)]) (shr' := [Fact.sl RegionS vm1 m.l]) [2, 8, 9] [0, 1, 2] [0] rfl rfl rfl rfl ?_)
   refine Tk_seq (Tk_seq (Tk_region (Tops_step rfl (OpT_move rfl rfl rfl rfl) ?_)))
   refine Tops_step rfl (OpT_move rfl rfl rfl rfl) ?_
   refine Tops_nil (Tk_wkS (fr' := [(8, some (subV (vsAt vsm1 (Int.toNat w1.1)) 1 (Int.toNat w1.2.1) (Int.toNat w1.2.2))), (9, some (vU64 (0 : UInt64))), (24, some (vI bytes)), (25, some (vI (0 : Int)))]) (own' := [some (cellsR b_m 62 [vm1, vm2]), some (rowsX u8S true vm2 vsm1 m.b (some (Int.toNat w1.1, vsAt vsm1 (Int.toNat w1.1)))), some (rowS u8S (vsAt vsm1 (Int.toNat w1.1)) row1)]) (shr' := [Fact.sl RegionS vm1 m.l]) [8, 9, 24, 25] [0, 1, 2] [0] rfl rfl rfl rfl ?_)
   refine Tk_block (Tk_loopS (σ := UInt64 × Int) [8, 9, 24, 25] [2, 0, 1] [0] (fun s => ⟨[(8, some (subV (vsAt vsm1 (Int.toNat w1.1)) 1 (Int.toNat w1.2.1) (Int.toNat w1.2.2))), (9, some (vU64 s.1)), (24, some (vI bytes)), (25, some (vI s.2))], [some (rowS u8S (vsAt vsm1 (Int.toNat w1.1)) row1), some (cellsR b_m 62 [vm1, vm2]), some (rowsX u8S true vm2 vsm1 m.b (some (Int.toNat w1.1, vsAt vsm1 (Int.toNat w1.1))))], [Fact.sl RegionS vm1 m.l]⟩) (fun nf1 s => gmem_Mem_LoadL1 bytes w1 row1 nf1 s.1 s.2 = some r) fuel ((0 : UInt64), (0 : Int)) h rfl rfl rfl rfl rfl (fun s h => by cases h) ?_)
   rintro nf1 ⟨v1, x1⟩ h
   replace h : gmem_Mem_LoadL1B bytes w1 row1 (gmem_Mem_LoadL1 bytes w1 row1 nf1) v1 x1 = some r := h
   unfold gmem_Mem_LoadL1B at h
   refine Tk_seq (Tk_region (Tops_step rfl (OpT_bin rfl rfl rfl rfl rfl (bin_lss_i (a := x1) (b := bytes))) ?_))
   refine Tops_nil (Tk_seq ?_)
   rcases Bool.eq_false_or_eq_true (decide (x1 < bytes)) with hg2 | hg2
   ·replace h := br_t hg2 h
    refine Tk_condT (congrArg (fun b => some (Value.bool b)) hg2) ?_
    refine Tk_skip (Tk_seq (Tk_block (Tk_seq (Tk_region (Tops_step rfl (OpT_move rfl rfl rfl rfl) ?_)))))
    refine Tops_step rfl (OpT_assign rfl rfl rfl rfl) ?_
    refine Tops_nil (Tk_wkS (fr' := [(8, some (subV (vsAt vsm1 (Int.toNat w1.1)) 1 (Int.toNat w1.2.1) (Int.toNat w1.2.2))), (9, some (vU64 v1)), (24, some (vI bytes)), (25, some (vI x1)), (10, some (vI x1))]) (own' := [some (rowS u8S (vsAt vsm1 (Int.toNat w1.1)) row1), some (cellsR b_m 62 [vm1, vm2]), some (rowsX u8S true vm2 vsm1 m.b (some (Int.toNat w1.1, vsAt vsm1 (Int.toNat w1.1))))]) (shr' := [Fact.sl RegionS vm1 m.l]) [8, 9, 24, 25, 10] [0, 1, 2] [0] rfl rfl rfl rfl ?_)
    refine Tk_region (Tops_step rfl (OpT_move rfl rfl rfl rfl) ?_)
    refine Tops_step rfl (OpT_move rfl rfl rfl rfl) ?_
    refine Tops_step rfl (OpT_move rfl rfl rfl rfl) ?_
    obtain ⟨y1, hx5, h⟩ := ob_e h
    refine Tops_step rfl (OpT_idxSub (S := u8S) (l := w1.2.1) (m := w1.2.2) rfl rfl rfl rfl rfl slF38 (i := 0) rfl hc1 hx5) ?_
    refine Tops_step rfl (OpT_loadO (S := u8S) rfl rfl rfl rfl rfl tyF5 (i := 0) rfl (ix_sub hc1 hx5) rfl rfl) ?_
    refine Tops_step rfl (OpT_cnv rfl rfl rfl rfl (cnv_u8_u64 (n := y1) Try.underlying5 Try.underlying26)) ?_
    refine Tops_step rfl (OpT_move rfl rfl rfl rfl) ?_
    refine Tops_step rfl (OpT_bin rfl rfl rfl rfl rfl (bin_mul_i (a := (8 : Int)) (b := x1))) ?_
    obtain ⟨hc3, h⟩ := chk_e h
    refine Tops_step rfl (OpT_bin rfl rfl rfl rfl rfl (bin_shl_u64_i64 (a := y1.toUInt64) (n := wi ((8 : Int) * x1)) hc3)) ?_
    refine Tops_step rfl (OpT_bin rfl rfl rfl rfl rfl (bin_or_u64 (a := v1) (b := shl64 y1.toUInt64 ((wi ((8 : Int) * x1)).toNat)))) ?_
    refine Tops_step rfl (OpT_assign rfl rfl rfl rfl) ?_
    refine Tops_nil (Tk_wkS (fr' := [(8, some (subV (vsAt vsm1 (Int.toNat w1.1)) 1 (Int.toNat w1.2.1) (Int.toNat w1.2.2))), (9, some (vU64 (v1 ||| (shl64 y1.toUInt64 ((wi ((8 : Int) * x1)).toNat))))), (24, some (vI bytes)), (25, some (vI x1))]) (own' := [some (rowS u8S (vsAt vsm1 (Int.toNat w1.1)) row1), some (cellsR b_m 62 [vm1, vm2]), some (rowsX u8S true vm2 vsm1 m.b (some (Int.toNat w1.1, vsAt vsm1 (Int.toNat w1.1))))]) (shr' := [Fact.sl RegionS vm1 m.l]) [8, 9, 24, 25] [0, 1, 2] [0] rfl rfl rfl rfl ?_)
    refine Tk_blk (Tk_region (Tops_step rfl (OpT_bin rfl rfl rfl rfl rfl (bin_add_i (a := x1) (b := (1 : Int)))) ?_))
    refine Tops_step rfl (OpT_move rfl rfl rfl rfl) ?_
    refine Tops_nil (Tk_wkS (fr' := [(8, some (subV (vsAt vsm1 (Int.toNat w1.1)) 1 (Int.toNat w1.2.1) (Int.toNat w1.2.2))), (9, some (vU64 (v1 ||| (shl64 y1.toUInt64 ((wi ((8 : Int) * x1)).toNat))))), (24, some (vI bytes)), (25, some (vI (wi (x1 + (1 : Int)))))]) (own' := [some (rowS u8S (vsAt vsm1 (Int.toNat w1.1)) row1), some (cellsR b_m 62 [vm1, vm2]), some (rowsX u8S true vm2 vsm1 m.b (some (Int.toNat w1.1, vsAt vsm1 (Int.toNat w1.1))))]) (shr' := [Fact.sl RegionS vm1 m.l]) [8, 9, 24, 25] [0, 1, 2] [0] rfl rfl rfl rfl ?_)
    exact Tk_backS (v1 ||| (shl64 y1.toUInt64 ((wi ((8 : Int) * x1)).toNat)), wi (x1 + (1 : Int))) h [8, 9, 24, 25] [0, 1, 2] [0] rfl rfl rfl rfl rfl
   ·replace h := br_f hg2 h
    refine Tk_condF (congrArg (fun b => some (Value.bool b)) hg2) ?_
    refine Tk_exit _ rfl ?_
    refine Tk_seq (Tk_region (Tops_step rfl (OpT_move rfl rfl rfl rfl) ?_))
    refine Tops_step rfl (OpT_assign rfl rfl rfl rfl) ?_
    refine Tops_step rfl (OpT_assign rfl rfl rfl rfl) ?_
    refine Tops_nil (Tk_wkS (fr' := [(6, some (vU64 v1)), (7, some (vI (0 : Int)))]) (own' := [some (rowS u8S (vsAt vsm1 (Int.toNat w1.1)) row1), some (cellsR b_m 62 [vm1, vm2]), some (rowsX u8S true vm2 vsm1 m.b (some (Int.toNat w1.1, vsAt vsm1 (Int.toNat w1.1))))]) (shr' := [Fact.sl RegionS vm1 m.l]) [6, 7] [0, 1, 2] [0] rfl rfl rfl rfl ?_)
    refine Tk_vs (vs_unfocus0 (i := 2) (q := 0) rfl rfl rfl hx4) ?_
    obtain rfl := Option.some.inj h
    exact Tk_retV rfl rfl (resA (vs := [vU64 v1, vI (0 : Int)]) rfl ⟨rfl, rfl, trivial⟩) [1, 2] [] rfl rfl rfl ⟨rfl, rfl, rfl⟩

set_option maxRecDepth 100000 in
set_option maxHeartbeats 4000000 in
theorem w_gmem_Mem_Has {m : gmem_Mem} {atp1 : UInt64} {np2 : UInt64} {b_m : Nat} {vm1 : Value} {vm2 : Value} {vsm1 : List Value} {r : Bool} (h : gmem_Mem_Has m atp1 np2 = some r) :
  Ctr Try.prog 20 #[.pointer (some ⟨b_m, 0, none⟩), vU64 atp1, vU64 np2] [(cellsR b_m 62 [vm1, vm2]), (rowsX u8S true vm2 vsm1 m.b none)] [Fact.sl RegionS vm1 m.l]
   (fun rv own shr => rv = vB r ∧ own = [(cellsR b_m 62 [vm1, vm2]), (rowsX u8S true vm2 vsm1 m.b none)] ∧ shr = []) := by
 unfold gmem_Mem_Has at h
 refine Ctr.mk (args := [.pointer (some ⟨b_m, 0, none⟩), vU64 atp1, vU64 np2]) Try.func20 rfl rfl (fun R0 w0 B => ?_)
 refine Tk_seq (Tk_region (Tops_step rfl (OpT_assign rfl rfl rfl rfl) ?_))
 refine Tops_nil (Tk_wkS (fr' := [(0, some (.pointer (some ⟨b_m, 0, none⟩))), (1, some (vU64 atp1)), (2, some (vU64 np2))]) (own' := [some (cellsR b_m 62 [vm1, vm2]), some (rowsX u8S true vm2 vsm1 m.b none)]) (shr' := [Fact.sl RegionS vm1 m.l]) [0, 1, 2] [0, 1] [0] rfl rfl rfl rfl ?_)
 refine Tk_seq (Tk_region (Tops_step rfl (OpT_move rfl rfl rfl rfl) ?_))
 obtain ⟨made1, hx1, h⟩ := ob_e h
 refine Tops_exP rfl (OpT_callP [2, 3] (w_gmem_Mem_made hx1) [0, 1] [0] rfl rfl rfl rfl rfl callee34 rfl rfl rfl rfl rfl) ?_
 rintro _ ⟨_, _, _, ⟨rfl, rfl, rfl⟩, rfl⟩
 refine Tops_step rfl (OpT_move rfl rfl rfl rfl) ?_
 refine Tops_yes rfl rfl (congrArg (fun b => some (Value.bool b)) (Option.some.inj (show some true = some made1 from hx1)).symm) (OpT_move rfl rfl rfl rfl) ?_
 rintro _ rfl
 refine Tops_yes rfl rfl (congrArg (fun b => some (Value.bool b)) (Option.some.inj (show some true = some made1 from hx1)).symm) (OpT_move rfl rfl rfl rfl) ?_
 rintro _ rfl
 refine Tops_yes rfl rfl (congrArg (fun b => some (Value.bool b)) (Option.some.inj (show some true = some made1 from hx1)).symm) (OpT_move rfl rfl rfl rfl) ?_
 rintro _ rfl
 obtain ⟨bytes1, hx2, h⟩ := ob_e h
 refine Tops_yes rfl rfl (congrArg (fun b => some (Value.bool b)) (Option.some.inj (show some true = some made1 from hx1)).symm) (OpT_callP [2, 3] (w_gmem_Mem_bytes hx2) [0, 1] [0] rfl rfl rfl rfl rfl callee36 rfl rfl rfl rfl rfl) ?_
 rintro _ ⟨_, _, _, ⟨rfl, rfl, rfl⟩, rfl⟩
 rcases onO_cases h with ⟨ho1, h⟩ | ⟨w1, ho1, h⟩
 ·rw [show (winV 1 vsm1 bytes1 : Value) = .slice none 0 0 from by rw [ho1]; rfl]
  refine Tops_yes rfl rfl (congrArg (fun b => some (Value.bool b)) (Option.some.inj (show some true = some made1 from hx1)).symm) (OpT_eqNilN rfl rfl rfl (.inr rfl) rfl rfl Try.underlying38) ?_
  rintro _ rfl
  refine Tops_step rfl (OpT_pickT rfl rfl rfl (congrArg (fun b => some (Value.bool b)) (Option.some.inj (show some true = some made1 from hx1)).symm) rfl) ?_
  refine Tops_step rfl (OpT_assign rfl rfl rfl rfl) ?_
  refine Tops_nil (Tk_wkS (fr' := [(6, some (vB false))]) (own' := [some (cellsR b_m 62 [vm1, vm2]), some (rowsX u8S true vm2 vsm1 m.b none)]) (shr' := [Fact.sl RegionS vm1 m.l]) [6] [0, 1] [0] rfl rfl rfl rfl ?_)
  obtain rfl := Option.some.inj h
  exact Tk_retV rfl rfl (resA (vs := [vB false]) rfl ⟨rfl, trivial⟩) [0, 1] [] rfl rfl rfl ⟨rfl, rfl, rfl⟩
 ·rw [show (winV 1 vsm1 bytes1 : Value) = subV (vsAt vsm1 (Int.toNat w1.1)) 1 (Int.toNat w1.2.1) (Int.toNat w1.2.2) from by rw [ho1]; rfl]
  obtain ⟨row1, hx3, h⟩ := ob_e h
  refine Tops_vs (vs_focus (i := 1) (j := w1.1) rfl hx3) ?_
  obtain ⟨hc1, h⟩ := chk_e h
  obtain ⟨hc2, h⟩ := chk_e h
  refine Tops_yes rfl rfl (congrArg (fun b => some (Value.bool b)) (Option.some.inj (show some true = some made1 from hx1)).symm) (OpT_eqSub (S := u8S) (l := w1.2.1) (m := w1.2.2) rfl rfl rfl (.inr rfl) rfl rfl Try.underlying38 (i := 2) rfl hc1 hc2) ?_
  rintro _ rfl
  refine Tops_step rfl (OpT_pickT rfl rfl rfl (congrArg (fun b => some (Value.bool b)) (Option.some.inj (show some true = some made1 from hx1)).symm) rfl) ?_
  refine Tops_step rfl (OpT_assign rfl rfl rfl rfl) ?_
  refine Tops_nil (Tk_wkS (fr' := [(6, some (vB true))]) (own' := [some (cellsR b_m 62 [vm1, vm2]), some (rowsX u8S true vm2 vsm1 m.b (some (Int.toNat w1.1, vsAt vsm1 (Int.toNat w1.1)))), some (rowS u8S (vsAt vsm1 (Int.toNat w1.1)) row1)]) (shr' := [Fact.sl RegionS vm1 m.l]) [6] [0, 1, 2] [0] rfl rfl rfl rfl ?_)
  refine Tk_vs (vs_unfocus0 (i := 1) (q := 2) rfl rfl rfl hx3) ?_
  obtain rfl := Option.some.inj h
  exact Tk_retV rfl rfl (resA (vs := [vB true]) rfl ⟨rfl, trivial⟩) [0, 1] [] rfl rfl rfl ⟨rfl, rfl, rfl⟩

set_option maxRecDepth 100000 in
set_option maxHeartbeats 4000000 in
theorem w_law02zlives  {r : Bool} (h : law02zlives = some r) :
  Ctr Try.prog 8 #[] [] []
   (fun rv own shr => rv = vB r ∧ own = [] ∧ shr = []) := by
 unfold law02zlives at h
 refine Ctr.mk (args := []) Try.func8 rfl rfl (fun R0 w0 B => ?_)
 refine Tk_seq (Tk_region (Tops_step rfl (OpT_assign rfl rfl rfl rfl) ?_))
 refine Tops_nil (Tk_wkS (fr' := []) (own' := []) (shr' := []) [] [] [] rfl rfl rfl rfl ?_)
 refine Tk_seq (Tk_region ?_)
 obtain ⟨two1, hx1, h⟩ := ob_e h
 refine Tops_exP rfl (OpT_call (w_law02ztwo hx1) [] [] rfl rfl rfl rfl rfl callee32 rfl rfl rfl rfl) ?_
 rintro _ ⟨v1, _, _, ⟨_, rfl, rfl, rfl⟩, rfl⟩
 refine Tops_retire (i := 0) rfl ?_
 obtain ⟨new1, hx2, h⟩ := ob_e h
 refine Tops_exP rfl (OpT_call (w_gmem_New hx2) [] [0] rfl rfl rfl rfl rfl callee12 rfl rfl rfl rfl) ?_
 rintro _ ⟨_, _, _, ⟨v2, rfl, rfl, rfl⟩, rfl⟩
 refine Tops_step rfl (OpT_move rfl rfl rfl rfl) ?_
 refine Tops_step rfl (OpT_extract rfl rfl rfl rfl rfl) ?_
 refine Tops_step rfl (OpT_extract rfl rfl rfl rfl rfl) ?_
 refine Tops_step rfl (OpT_assign rfl rfl rfl rfl) ?_
 refine Tops_step rfl (OpT_assign rfl rfl rfl rfl) ?_
 refine Tops_nil (Tk_wkS (fr' := [(1, some (v2)), (2, some (vI new1.2))]) (own' := [some (optR 62 RegionS u8S true gmem_Mem.l gmem_Mem.b v2 new1.1)]) (shr' := []) [1, 2] [1] [] rfl rfl rfl rfl ?_)
 rcases onO_cases h with ⟨ho1, h⟩ | ⟨mem1, ho1, h⟩
 ·cases h
 ·refine Tk_optS (i := 0) rfl ho1 ?_
  rintro b1 v3 v4 vs1 rfl
  refine Tk_seq (Tk_seq (Tk_region (Tops_step rfl (OpT_move rfl rfl rfl rfl) ?_)))
  refine Tops_step rfl (OpT_bin rfl rfl rfl rfl rfl (bin_neq_i (a := new1.2) (b := (0 : Int)))) ?_
  refine Tops_step rfl (OpT_move rfl rfl rfl rfl) ?_
  rcases Bool.eq_false_or_eq_true (new1.2 != (0 : Int)) with hg1 | hg1
  ·replace h := br_t hg1 h
   refine Tops_no rfl rfl (congrArg (fun b => some (Value.bool b)) hg1) rfl rfl ?_
   refine Tops_no rfl rfl (congrArg (fun b => some (Value.bool b)) hg1) rfl rfl ?_
   refine Tops_step rfl (OpT_pickT rfl rfl rfl (congrArg (fun b => some (Value.bool b)) hg1) rfl) ?_
   refine Tops_step rfl (OpT_move rfl rfl rfl rfl) ?_
   refine Tops_no rfl rfl rfl rfl rfl ?_
   refine Tops_no rfl rfl rfl rfl rfl ?_
   refine Tops_no rfl rfl rfl rfl rfl ?_
   refine Tops_step rfl (OpT_pickT rfl rfl rfl rfl rfl) ?_
   refine Tops_nil (Tk_wkS (fr' := [(1, some (.pointer (some ⟨b1, 0, none⟩))), (22, some (vB true))]) (own' := [some (cellsR b1 62 [v3, v4]), some (rowsX u8S true v4 vs1 mem1.b none)]) (shr' := [Fact.sl RegionS v3 mem1.l]) [1, 22] [0, 1] [0] rfl rfl rfl rfl ?_)
   refine Tk_condT rfl ?_
   refine Tk_seq (Tk_region (Tops_step rfl (OpT_assign rfl rfl rfl rfl) ?_))
   refine Tops_nil (Tk_wkS (fr' := [(0, some (vB false))]) (own' := []) (shr' := []) [0] [] [] rfl rfl rfl rfl ?_)
   obtain rfl := Option.some.inj h
   exact Tk_retV rfl rfl (resA (vs := [vB false]) rfl ⟨rfl, trivial⟩) [] [] rfl rfl rfl ⟨rfl, rfl, rfl⟩
  ·replace h := br_f hg1 h
   refine Tops_yes rfl rfl (congrArg (fun b => some (Value.bool b)) hg1) (OpT_move rfl rfl rfl rfl) ?_
   rintro _ rfl
   refine Tops_yes rfl rfl (congrArg (fun b => some (Value.bool b)) hg1) (OpT_ptrNil rfl rfl rfl (.inl rfl) rfl rfl ptrF30) ?_
   rintro _ rfl
   refine Tops_step rfl (OpT_pickF rfl rfl rfl (congrArg (fun b => some (Value.bool b)) hg1) rfl) ?_
   refine Tops_step rfl (OpT_move rfl rfl rfl rfl) ?_
   refine Tops_yes rfl rfl rfl (OpT_move rfl rfl rfl rfl) ?_
   rintro _ rfl
   obtain ⟨store1, hx3, h⟩ := ob_e h
   refine Tops_yes rfl rfl rfl (OpT_callP [2, 3] (w_gmem_Mem_Store hx3) [0, 1] [0] rfl rfl rfl rfl rfl callee17 rfl rfl rfl rfl rfl) ?_
   rintro _ ⟨_, _, _, ⟨rfl, rfl, rfl⟩, rfl⟩
   refine Tops_yes rfl rfl rfl (OpT_bin rfl rfl rfl rfl rfl (bin_neq_i (a := store1.1) (b := (0 : Int)))) ?_
   rintro _ rfl
   refine Tops_step rfl (OpT_pickF rfl rfl rfl rfl rfl) ?_
   refine Tops_nil (Tk_wkS (fr' := [(1, some (.pointer (some ⟨b1, 0, none⟩))), (22, some (vB (store1.1 != (0 : Int))))]) (own' := [some (cellsR b1 62 [v3, v4]), some (rowsX u8S true v4 vs1 store1.2 none)]) (shr' := [Fact.sl RegionS v3 mem1.l]) [1, 22] [0, 1] [0] rfl rfl rfl rfl ?_)
   rcases Bool.eq_false_or_eq_true (store1.1 != (0 : Int)) with hg2 | hg2
   ·replace h := br_t hg2 h
    refine Tk_condT (congrArg (fun b => some (Value.bool b)) hg2) ?_
    refine Tk_seq (Tk_region (Tops_step rfl (OpT_assign rfl rfl rfl rfl) ?_))
    refine Tops_nil (Tk_wkS (fr' := [(0, some (vB false))]) (own' := []) (shr' := []) [0] [] [] rfl rfl rfl rfl ?_)
    obtain rfl := Option.some.inj h
    exact Tk_retV rfl rfl (resA (vs := [vB false]) rfl ⟨rfl, trivial⟩) [] [] rfl rfl rfl ⟨rfl, rfl, rfl⟩
   ·replace h := br_f hg2 h
    refine Tk_condF (congrArg (fun b => some (Value.bool b)) hg2) ?_
    refine Tk_skip (Tk_seq (Tk_region (Tops_step rfl (OpT_move rfl rfl rfl rfl) ?_)))
    obtain ⟨load1, hx4, h⟩ := ob_e h
    refine Tops_exP rfl (OpT_callP [2, 3] (w_gmem_Mem_Load hx4) [0, 1] [0] rfl rfl rfl rfl rfl callee16 rfl rfl rfl rfl rfl) ?_
    rintro _ ⟨_, _, _, ⟨rfl, rfl, rfl⟩, rfl⟩
    refine Tops_step rfl (OpT_move rfl rfl rfl rfl) ?_
    refine Tops_step rfl (OpT_extract rfl rfl rfl rfl rfl) ?_
    refine Tops_step rfl (OpT_extract rfl rfl rfl rfl rfl) ?_
    refine Tops_step rfl (OpT_assign rfl rfl rfl rfl) ?_
    refine Tops_step rfl (OpT_assign rfl rfl rfl rfl) ?_
    refine Tops_nil (Tk_wkS (fr' := [(1, some (.pointer (some ⟨b1, 0, none⟩))), (3, some (vU64 load1.1)), (4, some (vI load1.2))]) (own' := [some (cellsR b1 62 [v3, v4]), some (rowsX u8S true v4 vs1 store1.2 none)]) (shr' := [Fact.sl RegionS v3 mem1.l]) [1, 3, 4] [0, 1] [0] rfl rfl rfl rfl ?_)
    refine Tk_seq (Tk_region (Tops_step rfl (OpT_move rfl rfl rfl rfl) ?_))
    obtain ⟨load2, hx5, h⟩ := ob_e h
    refine Tops_exP rfl (OpT_callP [2, 3] (w_gmem_Mem_Load hx5) [0, 1] [0] rfl rfl rfl rfl rfl callee16 rfl rfl rfl rfl rfl) ?_
    rintro _ ⟨_, _, _, ⟨rfl, rfl, rfl⟩, rfl⟩
    refine Tops_step rfl (OpT_move rfl rfl rfl rfl) ?_
    refine Tops_step rfl (OpT_extract rfl rfl rfl rfl rfl) ?_
    refine Tops_step rfl (OpT_extract rfl rfl rfl rfl rfl) ?_
    refine Tops_step rfl (OpT_assign rfl rfl rfl rfl) ?_
    refine Tops_step rfl (OpT_assign rfl rfl rfl rfl) ?_
    refine Tops_nil (Tk_wkS (fr' := [(1, some (.pointer (some ⟨b1, 0, none⟩))), (3, some (vU64 load1.1)), (4, some (vI load1.2)), (6, some (vI load2.2))]) (own' := [some (cellsR b1 62 [v3, v4]), some (rowsX u8S true v4 vs1 store1.2 none)]) (shr' := [Fact.sl RegionS v3 mem1.l]) [1, 3, 4, 6] [0, 1] [0] rfl rfl rfl rfl ?_)
    refine Tk_seq (Tk_region (Tops_step rfl (OpT_move rfl rfl rfl rfl) ?_))
    refine Tops_step rfl (OpT_bin rfl rfl rfl rfl rfl (bin_eql_i (a := load1.2) (b := (0 : Int)))) ?_
    refine Tops_step rfl (OpT_move rfl rfl rfl rfl) ?_
    rcases Bool.eq_false_or_eq_true (load1.2 == (0 : Int)) with hg3 | hg3
    ·replace h := br_t hg3 h
     refine Tops_yes rfl rfl (congrArg (fun b => some (Value.bool b)) hg3) (OpT_move rfl rfl rfl rfl) ?_
     rintro _ rfl
     refine Tops_yes rfl rfl (congrArg (fun b => some (Value.bool b)) hg3) (OpT_bin rfl rfl rfl rfl rfl (bin_eql_u64 (a := load1.1) (b := (1 : UInt64)))) ?_
     rintro _ rfl
     refine Tops_step rfl (OpT_pickT rfl rfl rfl (congrArg (fun b => some (Value.bool b)) hg3) rfl) ?_
     refine Tops_step rfl (OpT_move rfl rfl rfl rfl) ?_
     rcases Bool.eq_false_or_eq_true (load1.1 == (1 : UInt64)) with hg4 | hg4
     ·replace h := br_t hg4 h
      refine Tops_yes rfl rfl (congrArg (fun b => some (Value.bool b)) hg4) (OpT_move rfl rfl rfl rfl) ?_
      rintro _ rfl
      refine Tops_yes rfl rfl (congrArg (fun b => some (Value.bool b)) hg4) (OpT_bin rfl rfl rfl rfl rfl (bin_eql_i (a := load2.2) (b := (5 : Int)))) ?_
      rintro _ rfl
      refine Tops_step rfl (OpT_pickT rfl rfl rfl (congrArg (fun b => some (Value.bool b)) hg4) rfl) ?_
      refine Tops_step rfl (OpT_move rfl rfl rfl rfl) ?_
      rcases Bool.eq_false_or_eq_true (load2.2 == (5 : Int)) with hg5 | hg5
      ·replace h := br_t hg5 h
       refine Tops_yes rfl rfl (congrArg (fun b => some (Value.bool b)) hg5) (OpT_move rfl rfl rfl rfl) ?_
       rintro _ rfl
       obtain ⟨has1, hx6, h⟩ := ob_e h
       refine Tops_yes rfl rfl (congrArg (fun b => some (Value.bool b)) hg5) (OpT_callP [2, 3] (w_gmem_Mem_Has hx6) [0, 1] [0] rfl rfl rfl rfl rfl callee20 rfl rfl rfl rfl rfl) ?_
       rintro _ ⟨_, _, _, ⟨rfl, rfl, rfl⟩, rfl⟩
       refine Tops_yes rfl rfl (congrArg (fun b => some (Value.bool b)) hg5) (OpT_not rfl rfl rfl rfl) ?_
       rintro _ rfl
       refine Tops_step rfl (OpT_pickT rfl rfl rfl (congrArg (fun b => some (Value.bool b)) hg5) rfl) ?_
       refine Tops_step rfl (OpT_assign rfl rfl rfl rfl) ?_
       refine Tops_nil (Tk_wkS (fr' := [(0, some (vB (!has1)))]) (own' := []) (shr' := []) [0] [] [] rfl rfl rfl rfl ?_)
       obtain rfl := Option.some.inj h
       exact Tk_retV rfl rfl (resA (vs := [vB (!has1)]) rfl ⟨rfl, trivial⟩) [] [] rfl rfl rfl ⟨rfl, rfl, rfl⟩
      ·replace h := br_f hg5 h
       refine Tops_no rfl rfl (congrArg (fun b => some (Value.bool b)) hg5) rfl rfl ?_
       refine Tops_no rfl rfl (congrArg (fun b => some (Value.bool b)) hg5) rfl rfl ?_
       refine Tops_no rfl rfl (congrArg (fun b => some (Value.bool b)) hg5) rfl rfl ?_
       refine Tops_step rfl (OpT_pickF rfl rfl rfl (congrArg (fun b => some (Value.bool b)) hg5) rfl) ?_
       refine Tops_step rfl (OpT_assign rfl rfl rfl rfl) ?_
       refine Tops_nil (Tk_wkS (fr' := [(0, some (vB false))]) (own' := []) (shr' := []) [0] [] [] rfl rfl rfl rfl ?_)
       obtain rfl := Option.some.inj h
       exact Tk_retV rfl rfl (resA (vs := [vB false]) rfl ⟨rfl, trivial⟩) [] [] rfl rfl rfl ⟨rfl, rfl, rfl⟩
     ·replace h := br_f hg4 h
      refine Tops_no rfl rfl (congrArg (fun b => some (Value.bool b)) hg4) rfl rfl ?_
      refine Tops_no rfl rfl (congrArg (fun b => some (Value.bool b)) hg4) rfl rfl ?_
      refine Tops_step rfl (OpT_pickF rfl rfl rfl (congrArg (fun b => some (Value.bool b)) hg4) rfl) ?_
      refine Tops_step rfl (OpT_move rfl rfl rfl rfl) ?_
      refine Tops_no rfl rfl rfl rfl rfl ?_
      refine Tops_no rfl rfl rfl rfl rfl ?_
      refine Tops_no rfl rfl rfl rfl rfl ?_
      refine Tops_step rfl (OpT_pickF rfl rfl rfl rfl rfl) ?_
      refine Tops_step rfl (OpT_assign rfl rfl rfl rfl) ?_
      refine Tops_nil (Tk_wkS (fr' := [(0, some (vB false))]) (own' := []) (shr' := []) [0] [] [] rfl rfl rfl rfl ?_)
      obtain rfl := Option.some.inj h
      exact Tk_retV rfl rfl (resA (vs := [vB false]) rfl ⟨rfl, trivial⟩) [] [] rfl rfl rfl ⟨rfl, rfl, rfl⟩
    ·replace h := br_f hg3 h
     refine Tops_no rfl rfl (congrArg (fun b => some (Value.bool b)) hg3) rfl rfl ?_
     refine Tops_no rfl rfl (congrArg (fun b => some (Value.bool b)) hg3) rfl rfl ?_
     refine Tops_step rfl (OpT_pickF rfl rfl rfl (congrArg (fun b => some (Value.bool b)) hg3) rfl) ?_
     refine Tops_step rfl (OpT_move rfl rfl rfl rfl) ?_
     refine Tops_no rfl rfl rfl rfl rfl ?_
     refine Tops_no rfl rfl rfl rfl rfl ?_
     refine Tops_step rfl (OpT_pickF rfl rfl rfl rfl rfl) ?_
     refine Tops_step rfl (OpT_move rfl rfl rfl rfl) ?_
     refine Tops_no rfl rfl rfl rfl rfl ?_
     refine Tops_no rfl rfl rfl rfl rfl ?_
     refine Tops_no rfl rfl rfl rfl rfl ?_
     refine Tops_step rfl (OpT_pickF rfl rfl rfl rfl rfl) ?_
     refine Tops_step rfl (OpT_assign rfl rfl rfl rfl) ?_
     refine Tops_nil (Tk_wkS (fr' := [(0, some (vB false))]) (own' := []) (shr' := []) [0] [] [] rfl rfl rfl rfl ?_)
     obtain rfl := Option.some.inj h
     exact Tk_retV rfl rfl (resA (vs := [vB false]) rfl ⟨rfl, trivial⟩) [] [] rfl rfl rfl ⟨rfl, rfl, rfl⟩

set_option maxRecDepth 100000 in
set_option maxHeartbeats 4000000 in
theorem w_kit_Pick {np0 : Int} {m : Int} {r : Int} (h : kit_Pick np0 m = some r) :
  Ctr Try.prog 15 #[vI np0, vI m] [] []
   (fun rv own shr => rv = vI r ∧ own = [] ∧ shr = []) := by
 unfold kit_Pick at h
 refine Ctr.mk (args := [vI np0, vI m]) Try.func15 rfl rfl (fun R0 w0 B => ?_)
 refine Tk_seq (Tk_region (Tops_step rfl (OpT_assign rfl rfl rfl rfl) ?_))
 refine Tops_nil (Tk_wkS (fr' := [(0, some (vI np0)), (1, some (vI m))]) (own' := []) (shr' := []) [0, 1] [] [] rfl rfl rfl rfl ?_)
 refine Tk_seq (Tk_seq (Tk_region (Tops_step rfl (OpT_move rfl rfl rfl rfl) ?_)))
 refine Tops_step rfl (OpT_bin rfl rfl rfl rfl rfl (bin_lss_i (a := m) (b := (1 : Int)))) ?_
 refine Tops_nil (Tk_wkS (fr' := [(0, some (vI np0)), (1, some (vI m)), (6, some (vB (decide (m < (1 : Int)))))]) (own' := []) (shr' := []) [0, 1, 6] [] [] rfl rfl rfl rfl ?_)
 rcases Bool.eq_false_or_eq_true (decide (m < (1 : Int))) with hg1 | hg1
 ·replace h := br_t hg1 h
  refine Tk_condT (congrArg (fun b => some (Value.bool b)) hg1) ?_
  refine Tk_seq (Tk_region (Tops_step rfl (OpT_assign rfl rfl rfl rfl) ?_))
  refine Tops_nil (Tk_wkS (fr' := [(4, some (vI (0 : Int)))]) (own' := []) (shr' := []) [4] [] [] rfl rfl rfl rfl ?_)
  obtain rfl := Option.some.inj h
  exact Tk_retV rfl rfl (resA (vs := [vI (0 : Int)]) rfl ⟨rfl, trivial⟩) [] [] rfl rfl rfl ⟨rfl, rfl, rfl⟩
 ·replace h := br_f hg1 h
  refine Tk_condF (congrArg (fun b => some (Value.bool b)) hg1) ?_
  refine Tk_skip (Tk_seq (Tk_region (Tops_step rfl (OpT_move rfl rfl rfl rfl) ?_)))
  refine Tops_step rfl (OpT_move rfl rfl rfl rfl) ?_
  obtain ⟨hc1, h⟩ := chk_e h
  refine Tops_step rfl (OpT_bin rfl rfl rfl rfl rfl (bin_rem_i (a := np0) (b := m) (not_t hc1))) ?_
  refine Tops_step rfl (OpT_assign rfl rfl rfl rfl) ?_
  refine Tops_nil (Tk_wkS (fr' := [(0, some (vI (remi np0 m))), (1, some (vI m))]) (own' := []) (shr' := []) [0, 1] [] [] rfl rfl rfl rfl ?_)
  refine Tk_seq (Tk_seq (Tk_region (Tops_step rfl (OpT_move rfl rfl rfl rfl) ?_)))
  refine Tops_step rfl (OpT_bin rfl rfl rfl rfl rfl (bin_lss_i (a := remi np0 m) (b := (0 : Int)))) ?_
  refine Tops_nil (Tk_wkS (fr' := [(0, some (vI (remi np0 m))), (1, some (vI m)), (11, some (vB (decide ((remi np0 m) < (0 : Int)))))]) (own' := []) (shr' := []) [0, 1, 11] [] [] rfl rfl rfl rfl ?_)
  rcases Bool.eq_false_or_eq_true (decide ((remi np0 m) < (0 : Int))) with hg2 | hg2
  ·replace h := br_t hg2 h
   refine Tk_condT (congrArg (fun b => some (Value.bool b)) hg2) ?_
   refine Tk_region (Tops_step rfl (OpT_move rfl rfl rfl rfl) ?_)
   refine Tops_step rfl (OpT_move rfl rfl rfl rfl) ?_
   refine Tops_step rfl (OpT_bin rfl rfl rfl rfl rfl (bin_add_i (a := remi np0 m) (b := m))) ?_
   refine Tops_step rfl (OpT_assign rfl rfl rfl rfl) ?_
   refine Tops_nil (Tk_wkS (fr' := [(0, some (vI (wi ((remi np0 m) + m))))]) (own' := []) (shr' := []) [0] [] [] rfl rfl rfl rfl ?_)
   refine Tk_seq (Tk_region (Tops_step rfl (OpT_move rfl rfl rfl rfl) ?_))
   refine Tops_step rfl (OpT_assign rfl rfl rfl rfl) ?_
   refine Tops_nil (Tk_wkS (fr' := [(4, some (vI (wi ((remi np0 m) + m))))]) (own' := []) (shr' := []) [4] [] [] rfl rfl rfl rfl ?_)
   obtain rfl := Option.some.inj h
   exact Tk_retV rfl rfl (resA (vs := [vI (wi ((remi np0 m) + m))]) rfl ⟨rfl, trivial⟩) [] [] rfl rfl rfl ⟨rfl, rfl, rfl⟩
  ·replace h := br_f hg2 h
   refine Tk_condF (congrArg (fun b => some (Value.bool b)) hg2) ?_
   refine Tk_skip (Tk_seq (Tk_region (Tops_step rfl (OpT_move rfl rfl rfl rfl) ?_)))
   refine Tops_step rfl (OpT_assign rfl rfl rfl rfl) ?_
   refine Tops_nil (Tk_wkS (fr' := [(4, some (vI (remi np0 m)))]) (own' := []) (shr' := []) [4] [] [] rfl rfl rfl rfl ?_)
   obtain rfl := Option.some.inj h
   exact Tk_retV rfl rfl (resA (vs := [vI (remi np0 m)]) rfl ⟨rfl, trivial⟩) [] [] rfl rfl rfl ⟨rfl, rfl, rfl⟩

set_option maxRecDepth 100000 in
set_option maxHeartbeats 4000000 in
theorem w_gmem_Mem_Write {m : gmem_Mem} {atp1 : UInt64} {arg2 : List UInt8} {b_m : Nat} {vm1 : Value} {vm2 : Value} {vsm1 : List Value} {varg21 : Value} {r : (Int × (List (List UInt8)))} (h : gmem_Mem_Write m atp1 arg2 = some r) :
  Ctr Try.prog 18 #[.pointer (some ⟨b_m, 0, none⟩), vU64 atp1, varg21] [(cellsR b_m 62 [vm1, vm2]), (rowsX u8S true vm2 vsm1 m.b none)] [Fact.sl RegionS vm1 m.l, Fact.sl u8S varg21 arg2]
   (fun rv own shr => rv = vI r.1 ∧ own = [(cellsR b_m 62 [vm1, vm2]), (rowsX u8S true vm2 vsm1 r.2 none)] ∧ shr = []) := by
 unfold gmem_Mem_Write at h
 refine Ctr.mk (args := [.pointer (some ⟨b_m, 0, none⟩), vU64 atp1, varg21]) Try.func18 rfl rfl (fun R0 w0 B => ?_)
 refine Tk_seq (Tk_region (Tops_step rfl (OpT_assign rfl rfl rfl rfl) ?_))
 refine Tops_nil (Tk_wkS (fr' := [(0, some (.pointer (some ⟨b_m, 0, none⟩))), (1, some (vU64 atp1)), (2, some (varg21))]) (own' := [some (cellsR b_m 62 [vm1, vm2]), some (rowsX u8S true vm2 vsm1 m.b none)]) (shr' := [Fact.sl RegionS vm1 m.l, Fact.sl u8S varg21 arg2]) [0, 1, 2] [0, 1] [0, 1] rfl rfl rfl rfl ?_)
 refine Tk_seq (Tk_seq (Tk_region (Tops_step rfl (OpT_move rfl rfl rfl rfl) ?_)))
 obtain ⟨made1, hx1, h⟩ := ob_e h
 refine Tops_exP rfl (OpT_callP [2, 3] (w_gmem_Mem_made hx1) [0, 1] [0] rfl rfl rfl rfl rfl callee34 rfl rfl rfl rfl rfl) ?_
 rintro _ ⟨_, _, _, ⟨rfl, rfl, rfl⟩, rfl⟩
 refine Tops_step rfl (OpT_not rfl rfl rfl rfl) ?_
 refine Tops_nil (Tk_wkS (fr' := [(0, some (.pointer (some ⟨b_m, 0, none⟩))), (1, some (vU64 atp1)), (2, some (varg21)), (10, some (vB (!made1)))]) (own' := [some (cellsR b_m 62 [vm1, vm2]), some (rowsX u8S true vm2 vsm1 m.b none)]) (shr' := [Fact.sl RegionS vm1 m.l, Fact.sl u8S varg21 arg2]) [0, 1, 2, 10] [0, 1] [0, 1] rfl rfl rfl rfl ?_)
 refine Tk_condF (congrArg (fun b => some (Value.bool b)) (congrArg (!·) (Option.some.inj (show some true = some made1 from hx1)).symm)) ?_
 refine Tk_skip (Tk_seq (Tk_seq (Tk_region (Tops_step rfl (OpT_move rfl rfl rfl rfl) ?_))))
 refine Tops_step rfl (OpT_lenS rfl rfl rfl rfl Try.underlying38 (i := 1) rfl) ?_
 refine Tops_step rfl (OpT_bin rfl rfl rfl rfl rfl (bin_eql_i (a := len arg2) (b := (0 : Int)))) ?_
 refine Tops_nil (Tk_wkS (fr' := [(0, some (.pointer (some ⟨b_m, 0, none⟩))), (1, some (vU64 atp1)), (2, some (varg21)), (13, some (vB ((len arg2) == (0 : Int))))]) (own' := [some (cellsR b_m 62 [vm1, vm2]), some (rowsX u8S true vm2 vsm1 m.b none)]) (shr' := [Fact.sl RegionS vm1 m.l, Fact.sl u8S varg21 arg2]) [0, 1, 2, 13] [0, 1] [0, 1] rfl rfl rfl rfl ?_)
 rcases Bool.eq_false_or_eq_true ((len arg2) == (0 : Int)) with hg1 | hg1
 ·replace h := br_t hg1 h
  refine Tk_condT (congrArg (fun b => some (Value.bool b)) hg1) ?_
  refine Tk_seq (Tk_region (Tops_step rfl (OpT_assign rfl rfl rfl rfl) ?_))
  refine Tops_nil (Tk_wkS (fr' := [(6, some (vI (0 : Int)))]) (own' := [some (cellsR b_m 62 [vm1, vm2]), some (rowsX u8S true vm2 vsm1 m.b none)]) (shr' := [Fact.sl RegionS vm1 m.l]) [6] [0, 1] [0] rfl rfl rfl rfl ?_)
  obtain rfl := Option.some.inj h
  exact Tk_retV rfl rfl (resA (vs := [vI (0 : Int)]) rfl ⟨rfl, trivial⟩) [0, 1] [] rfl rfl rfl ⟨rfl, rfl, rfl⟩
 ·replace h := br_f hg1 h
  refine Tk_condF (congrArg (fun b => some (Value.bool b)) hg1) ?_
  refine Tk_skip (Tk_seq (Tk_region (Tops_step rfl (OpT_move rfl rfl rfl rfl) ?_)))
  refine Tops_step rfl (OpT_move rfl rfl rfl rfl) ?_
  refine Tops_step rfl (OpT_move rfl rfl rfl rfl) ?_
  refine Tops_step rfl (OpT_lenS rfl rfl rfl rfl Try.underlying38 (i := 1) rfl) ?_
  refine Tops_step rfl (OpT_cnv rfl rfl rfl rfl (cnv_i_u64 (n := len arg2) Try.underlying3 Try.underlying26)) ?_
  obtain ⟨bytes1, hx2, h⟩ := ob_e h
  refine Tops_exP rfl (OpT_callP [2, 3] (w_gmem_Mem_bytes hx2) [0, 1] [0] rfl rfl rfl rfl rfl callee36 rfl rfl rfl rfl rfl) ?_
  rintro _ ⟨_, _, _, ⟨rfl, rfl, rfl⟩, rfl⟩
  refine Tops_step rfl (OpT_assign rfl rfl rfl rfl) ?_
  refine Tops_nil (Tk_wkS (fr' := [(2, some (varg21)), (7, some (winV 1 vsm1 bytes1))]) (own' := [some (cellsR b_m 62 [vm1, vm2]), some (rowsX u8S true vm2 vsm1 m.b none)]) (shr' := [Fact.sl RegionS vm1 m.l, Fact.sl u8S varg21 arg2]) [2, 7] [0, 1] [0, 1] rfl rfl rfl rfl ?_)
  rcases onO_cases h with ⟨ho1, h⟩ | ⟨w1, ho1, h⟩
  ·refine Tk_eqv (x := winV 1 vsm1 bytes1) (y := .slice none 0 0) (by rw [ho1]; rfl) (fun z => ⟨[(2, some (varg21)), (7, some (z))], [some (cellsR b_m 62 [vm1, vm2]), some (rowsX u8S true vm2 vsm1 m.b none)], [Fact.sl RegionS vm1 m.l, Fact.sl u8S varg21 arg2]⟩) ?_
   refine Tk_seq (Tk_seq (Tk_region (Tops_step rfl (OpT_move rfl rfl rfl rfl) ?_)))
   refine Tops_step rfl (OpT_eqNilN rfl rfl rfl (.inl rfl) rfl rfl Try.underlying38) ?_
   refine Tops_nil (Tk_wkS (fr' := [(2, some (varg21)), (7, some (.slice none 0 0)), (21, some (vB true))]) (own' := [some (cellsR b_m 62 [vm1, vm2]), some (rowsX u8S true vm2 vsm1 m.b none)]) (shr' := [Fact.sl RegionS vm1 m.l, Fact.sl u8S varg21 arg2]) [2, 7, 21] [0, 1] [0, 1] rfl rfl rfl rfl ?_)
   refine Tk_condT rfl ?_
   refine Tk_seq (Tk_region (Tops_step rfl (OpT_assign rfl rfl rfl rfl) ?_))
   refine Tops_nil (Tk_wkS (fr' := [(6, some (vI (5 : Int)))]) (own' := [some (cellsR b_m 62 [vm1, vm2]), some (rowsX u8S true vm2 vsm1 m.b none)]) (shr' := [Fact.sl RegionS vm1 m.l]) [6] [0, 1] [0] rfl rfl rfl rfl ?_)
   obtain rfl := Option.some.inj h
   exact Tk_retV rfl rfl (resA (vs := [vI (5 : Int)]) rfl ⟨rfl, trivial⟩) [0, 1] [] rfl rfl rfl ⟨rfl, rfl, rfl⟩
  ·refine Tk_eqv (x := winV 1 vsm1 bytes1) (y := subV (vsAt vsm1 (Int.toNat w1.1)) 1 (Int.toNat w1.2.1) (Int.toNat w1.2.2)) (by rw [ho1]; rfl) (fun z => ⟨[(2, some (varg21)), (7, some (z))], [some (cellsR b_m 62 [vm1, vm2]), some (rowsX u8S true vm2 vsm1 m.b none)], [Fact.sl RegionS vm1 m.l, Fact.sl u8S varg21 arg2]⟩) ?_
   obtain ⟨row1, hx3, h⟩ := ob_e h
   refine Tk_vs (vs_focus (i := 1) (j := w1.1) rfl hx3) ?_
   obtain ⟨hc1, h⟩ := chk_e h
   refine Tk_seq (Tk_seq (Tk_region (Tops_step rfl (OpT_move rfl rfl rfl rfl) ?_)))
   obtain ⟨hc2, h⟩ := chk_e h
   refine Tops_step rfl (OpT_eqSub (S := u8S) (l := w1.2.1) (m := w1.2.2) rfl rfl rfl (.inl rfl) rfl rfl Try.underlying38 (i := 2) rfl hc1 hc2) ?_
   refine Tops_nil (Tk_wkS (fr' := [(2, some (varg21)), (7, some (subV (vsAt vsm1 (Int.toNat w1.1)) 1 (Int.toNat w1.2.1) (Int.toNat w1.2.2))), (21, some (vB false))]) (own' := [some (cellsR b_m 62 [vm1, vm2]), some (rowsX u8S true vm2 vsm1 m.b (some (Int.toNat w1.1, vsAt vsm1 (Int.toNat w1.1)))), some (rowS u8S (vsAt vsm1 (Int.toNat w1.1)) row1)]) (shr' := [Fact.sl RegionS vm1 m.l, Fact.sl u8S varg21 arg2]) [2, 7, 21] [0, 1, 2] [0, 1] rfl rfl rfl rfl ?_)
   refine Tk_condF rfl ?_
   refine Tk_skip (Tk_seq (Tk_region (Tops_step rfl (OpT_move rfl rfl rfl rfl) ?_)))
   refine Tops_step rfl (OpT_move rfl rfl rfl rfl) ?_
   refine Tops_step rfl (OpT_copyS (S := u8S) (l := w1.2.1) (m := w1.2.2) rfl rfl rfl rfl rfl rfl slF38 (i := 2) (j := 1) rfl rfl hc1) ?_
   refine Tops_nil (Tk_wkS (fr' := []) (own' := [some (cellsR b_m 62 [vm1, vm2]), some (rowsX u8S true vm2 vsm1 m.b (some (Int.toNat w1.1, vsAt vsm1 (Int.toNat w1.1)))), some (rowS u8S (vsAt vsm1 (Int.toNat w1.1)) (copyAt row1 w1.2.1 w1.2.2 arg2))]) (shr' := [Fact.sl RegionS vm1 m.l]) [] [0, 1, 2] [0] rfl rfl rfl rfl ?_)
   refine Tk_vs (vs_unfocus (i := 1) (q := 2) rfl rfl rfl) ?_
   refine Tk_seq (Tk_region (Tops_step rfl (OpT_assign rfl rfl rfl rfl) ?_))
   refine Tops_nil (Tk_wkS (fr' := [(6, some (vI (0 : Int)))]) (own' := [some (cellsR b_m 62 [vm1, vm2]), some (rowsX u8S true vm2 vsm1 (m.b.set (Int.toNat w1.1) (copyAt row1 w1.2.1 w1.2.2 arg2)) none)]) (shr' := [Fact.sl RegionS vm1 m.l]) [6] [0, 1] [0] rfl rfl rfl rfl ?_)
   obtain rfl := Option.some.inj h
   exact Tk_retV rfl rfl (resA (vs := [vI (0 : Int)]) rfl ⟨rfl, trivial⟩) [0, 1] [] rfl rfl rfl ⟨rfl, rfl, rfl⟩

set_option maxRecDepth 100000 in
set_option maxHeartbeats 4000000 in
theorem w_slices_Clone_bytebyte {sp0 : List UInt8} {vsp01 : Value} {r : (List UInt8)} (h : slices_Clone_bytebyte sp0 = some r) :
  Ctr Try.prog 38 #[vsp01] [] [Fact.sl u8S vsp01 sp0]
   (fun rv own shr => ∃ (w1 : Value), rv = w1 ∧ own = [(rowS u8S w1 r)] ∧ shr = []) := by
 unfold slices_Clone_bytebyte at h
 refine Ctr.mk (args := [vsp01]) Try.func38 rfl rfl (fun R0 w0 B => ?_)
 refine Tk_seq (Tk_region (Tops_step rfl (OpT_assign rfl rfl rfl rfl) ?_))
 refine Tops_nil (Tk_wkS (fr' := [(0, some (vsp01))]) (own' := []) (shr' := [Fact.sl u8S vsp01 sp0]) [0] [] [0] rfl rfl rfl rfl ?_)
 refine Tk_seq (Tk_seq (Tk_region (Tops_step rfl (OpT_move rfl rfl rfl rfl) ?_)))
 refine Tops_exP rfl (OpT_eqNil rfl rfl rfl (.inl rfl) rfl rfl Try.underlying38 (i := 0) rfl) ?_
 rintro _ ⟨q1, hq1, rfl⟩
 refine Tops_nil (Tk_wkS (fr' := [(0, some (vsp01)), (4, some (vB q1))]) (own' := []) (shr' := [Fact.sl u8S vsp01 sp0]) [0, 4] [] [0] rfl rfl rfl rfl ?_)
 rcases Bool.eq_false_or_eq_true q1 with hg1 | hg1
 ·obtain rfl := hq1 hg1
  replace h : some ([] : List UInt8) = some r := h
  refine Tk_condT (congrArg (fun b => some (Value.bool b)) hg1) ?_
  refine Tk_seq (Tk_region (Tops_step rfl (OpT_assign rfl rfl rfl rfl) ?_))
  refine Tops_nil (Tk_wkS (fr' := [(2, some (.slice none 0 0))]) (own' := []) (shr' := []) [2] [] [] rfl rfl rfl rfl ?_)
  refine Tk_nilrow u8S ?_
  obtain rfl := Option.some.inj h
  exact Tk_retV rfl rfl (resA (vs := [.slice none 0 0]) rfl ⟨rfl, trivial⟩) [0] [] rfl rfl rfl ⟨(.slice none 0 0), rfl, rfl, rfl⟩
 ·refine Tk_condF (congrArg (fun b => some (Value.bool b)) hg1) ?_
  refine Tk_skip (Tk_seq (Tk_region (Tops_ex rfl (OpT_buildSlice (S := u8S) (xs := ([] : List UInt8)) (css := []) (cs := []) (e := 5) rfl rfl rfl rfl (bldF slF38 (by decide) (by kernel_rfl)) rfl rfl rfl rfl (rel_plainD (S := u8S) (xs := ([] : List UInt8)) (css := []) rfl rfl)) fun v1 => ?_)))
  refine Tops_step rfl (OpT_move rfl rfl rfl rfl) ?_
  obtain ⟨hc1, h⟩ := chk_e h
  refine Tops_ex rfl (OpT_append rfl rfl rfl rfl rfl slF38 (i := 0) (j := 0) rfl rfl hc1) fun v2 => ?_
  refine Tops_step rfl (OpT_assign rfl rfl rfl rfl) ?_
  refine Tops_nil (Tk_wkS (fr' := [(2, some (v2))]) (own' := [some (rowS u8S v2 sp0)]) (shr' := []) [2] [0] [] rfl rfl rfl rfl ?_)
  obtain rfl := Option.some.inj h
  exact Tk_retV rfl rfl (resA (vs := [v2]) rfl ⟨rfl, trivial⟩) [0] [] rfl rfl rfl ⟨v2, rfl, rfl, rfl⟩

set_option maxRecDepth 100000 in
set_option maxHeartbeats 4000000 in
theorem w_gmem_Mem_Read {m : gmem_Mem} {atp1 : UInt64} {np2 : Int} {b_m : Nat} {vm1 : Value} {vm2 : Value} {vsm1 : List Value} {r : ((List UInt8) × Int)} (h : gmem_Mem_Read m atp1 np2 = some r) :
  Ctr Try.prog 22 #[.pointer (some ⟨b_m, 0, none⟩), vU64 atp1, vI np2] [(cellsR b_m 62 [vm1, vm2]), (rowsX u8S true vm2 vsm1 m.b none)] [Fact.sl RegionS vm1 m.l]
   (fun rv own shr => ∃ (w1 : Value), rv = .tuple #[w1, vI r.2] ∧ own = [(cellsR b_m 62 [vm1, vm2]), (rowsX u8S true vm2 vsm1 m.b none), (rowS u8S w1 r.1)] ∧ shr = []) := by
 unfold gmem_Mem_Read at h
 refine Ctr.mk (args := [.pointer (some ⟨b_m, 0, none⟩), vU64 atp1, vI np2]) Try.func22 rfl rfl (fun R0 w0 B => ?_)
 refine Tk_seq (Tk_region (Tops_step rfl (OpT_assign rfl rfl rfl rfl) ?_))
 refine Tops_step rfl (OpT_assign rfl rfl rfl rfl) ?_
 refine Tops_nil (Tk_wkS (fr' := [(0, some (.pointer (some ⟨b_m, 0, none⟩))), (1, some (vU64 atp1)), (2, some (vI np2))]) (own' := [some (cellsR b_m 62 [vm1, vm2]), some (rowsX u8S true vm2 vsm1 m.b none)]) (shr' := [Fact.sl RegionS vm1 m.l]) [0, 1, 2] [0, 1] [0] rfl rfl rfl rfl ?_)
 refine Tk_seq (Tk_seq (Tk_region (Tops_step rfl (OpT_move rfl rfl rfl rfl) ?_)))
 obtain ⟨made1, hx1, h⟩ := ob_e h
 refine Tops_exP rfl (OpT_callP [2, 3] (w_gmem_Mem_made hx1) [0, 1] [0] rfl rfl rfl rfl rfl callee34 rfl rfl rfl rfl rfl) ?_
 rintro _ ⟨_, _, _, ⟨rfl, rfl, rfl⟩, rfl⟩
 refine Tops_step rfl (OpT_not rfl rfl rfl rfl) ?_
 refine Tops_nil (Tk_wkS (fr' := [(0, some (.pointer (some ⟨b_m, 0, none⟩))), (1, some (vU64 atp1)), (2, some (vI np2)), (11, some (vB (!made1)))]) (own' := [some (cellsR b_m 62 [vm1, vm2]), some (rowsX u8S true vm2 vsm1 m.b none)]) (shr' := [Fact.sl RegionS vm1 m.l]) [0, 1, 2, 11] [0, 1] [0] rfl rfl rfl rfl ?_)
 refine Tk_condF (congrArg (fun b => some (Value.bool b)) (congrArg (!·) (Option.some.inj (show some true = some made1 from hx1)).symm)) ?_
 refine Tk_skip (Tk_seq (Tk_block (Tk_seq (Tk_region (Tops_step rfl (OpT_move rfl rfl rfl rfl) ?_)))))
 refine Tops_step rfl (OpT_bin rfl rfl rfl rfl rfl (bin_lss_i (a := np2) (b := (0 : Int)))) ?_
 refine Tops_step rfl (OpT_assign rfl rfl rfl rfl) ?_
 refine Tops_nil (Tk_wkS (fr' := [(0, some (.pointer (some ⟨b_m, 0, none⟩))), (1, some (vU64 atp1)), (2, some (vI np2)), (12, some (vB (decide (np2 < (0 : Int)))))]) (own' := [some (cellsR b_m 62 [vm1, vm2]), some (rowsX u8S true vm2 vsm1 m.b none)]) (shr' := [Fact.sl RegionS vm1 m.l]) [0, 1, 2, 12] [0, 1] [0] rfl rfl rfl rfl ?_)
 rcases Bool.eq_false_or_eq_true (decide (np2 < (0 : Int))) with hg1 | hg1
 ·replace h := br_t hg1 h
  refine Tk_condT (congrArg (fun b => some (Value.bool b)) hg1) ?_
  refine Tk_seq (Tk_region (Tops_step rfl (OpT_assign rfl rfl rfl rfl) ?_))
  refine Tops_step rfl (OpT_assign rfl rfl rfl rfl) ?_
  refine Tops_nil (Tk_wkS (fr' := [(6, some (.slice none 0 0)), (7, some (vI (2 : Int)))]) (own' := [some (cellsR b_m 62 [vm1, vm2]), some (rowsX u8S true vm2 vsm1 m.b none)]) (shr' := [Fact.sl RegionS vm1 m.l]) [6, 7] [0, 1] [0] rfl rfl rfl rfl ?_)
  refine Tk_nilrow u8S ?_
  obtain rfl := Option.some.inj h
  exact Tk_retV rfl rfl (resA (vs := [.slice none 0 0, vI (2 : Int)]) rfl ⟨rfl, rfl, trivial⟩) [0, 1, 2] [] rfl rfl rfl ⟨(.slice none 0 0), rfl, rfl, rfl⟩
 ·replace h := br_f hg1 h
  refine Tk_condF (congrArg (fun b => some (Value.bool b)) hg1) ?_
  refine Tk_seq (Tk_region (Tops_step rfl (OpT_move rfl rfl rfl rfl) ?_))
  refine Tops_step rfl (OpT_bin rfl rfl rfl rfl rfl (bin_eql_i (a := np2) (b := (0 : Int)))) ?_
  refine Tops_step rfl (OpT_assign rfl rfl rfl rfl) ?_
  refine Tops_nil (Tk_wkS (fr' := [(0, some (.pointer (some ⟨b_m, 0, none⟩))), (1, some (vU64 atp1)), (2, some (vI np2)), (15, some (vB (np2 == (0 : Int))))]) (own' := [some (cellsR b_m 62 [vm1, vm2]), some (rowsX u8S true vm2 vsm1 m.b none)]) (shr' := [Fact.sl RegionS vm1 m.l]) [0, 1, 2, 15] [0, 1] [0] rfl rfl rfl rfl ?_)
  rcases Bool.eq_false_or_eq_true (np2 == (0 : Int)) with hg2 | hg2
  ·replace h := br_t hg2 h
   refine Tk_condT (congrArg (fun b => some (Value.bool b)) hg2) ?_
   refine Tk_seq (Tk_region (Tops_step rfl (OpT_assign rfl rfl rfl rfl) ?_))
   refine Tops_step rfl (OpT_assign rfl rfl rfl rfl) ?_
   refine Tops_nil (Tk_wkS (fr' := [(6, some (.slice none 0 0)), (7, some (vI (0 : Int)))]) (own' := [some (cellsR b_m 62 [vm1, vm2]), some (rowsX u8S true vm2 vsm1 m.b none)]) (shr' := [Fact.sl RegionS vm1 m.l]) [6, 7] [0, 1] [0] rfl rfl rfl rfl ?_)
   refine Tk_nilrow u8S ?_
   obtain rfl := Option.some.inj h
   exact Tk_retV rfl rfl (resA (vs := [.slice none 0 0, vI (0 : Int)]) rfl ⟨rfl, rfl, trivial⟩) [0, 1, 2] [] rfl rfl rfl ⟨(.slice none 0 0), rfl, rfl, rfl⟩
  ·replace h := br_f hg2 h
   refine Tk_condF (congrArg (fun b => some (Value.bool b)) hg2) ?_
   refine Tk_skip (Tk_blk (Tk_seq (Tk_region (Tops_step rfl (OpT_move rfl rfl rfl rfl) ?_))))
   refine Tops_step rfl (OpT_move rfl rfl rfl rfl) ?_
   refine Tops_step rfl (OpT_move rfl rfl rfl rfl) ?_
   refine Tops_step rfl (OpT_cnv rfl rfl rfl rfl (cnv_i_u64 (n := np2) Try.underlying3 Try.underlying26)) ?_
   obtain ⟨bytes1, hx2, h⟩ := ob_e h
   refine Tops_exP rfl (OpT_callP [2, 3] (w_gmem_Mem_bytes hx2) [0, 1] [0] rfl rfl rfl rfl rfl callee36 rfl rfl rfl rfl rfl) ?_
   rintro _ ⟨_, _, _, ⟨rfl, rfl, rfl⟩, rfl⟩
   refine Tops_step rfl (OpT_assign rfl rfl rfl rfl) ?_
   refine Tops_nil (Tk_wkS (fr' := [(8, some (winV 1 vsm1 bytes1))]) (own' := [some (cellsR b_m 62 [vm1, vm2]), some (rowsX u8S true vm2 vsm1 m.b none)]) (shr' := [Fact.sl RegionS vm1 m.l]) [8] [0, 1] [0] rfl rfl rfl rfl ?_)
   rcases onO_cases h with ⟨ho1, h⟩ | ⟨w1, ho1, h⟩
   ·refine Tk_eqv (x := winV 1 vsm1 bytes1) (y := .slice none 0 0) (by rw [ho1]; rfl) (fun z => ⟨[(8, some (z))], [some (cellsR b_m 62 [vm1, vm2]), some (rowsX u8S true vm2 vsm1 m.b none)], [Fact.sl RegionS vm1 m.l]⟩) ?_
    refine Tk_seq (Tk_seq (Tk_region (Tops_step rfl (OpT_move rfl rfl rfl rfl) ?_)))
    refine Tops_step rfl (OpT_eqNilN rfl rfl rfl (.inl rfl) rfl rfl Try.underlying38) ?_
    refine Tops_nil (Tk_wkS (fr' := [(8, some (.slice none 0 0)), (24, some (vB true))]) (own' := [some (cellsR b_m 62 [vm1, vm2]), some (rowsX u8S true vm2 vsm1 m.b none)]) (shr' := [Fact.sl RegionS vm1 m.l]) [8, 24] [0, 1] [0] rfl rfl rfl rfl ?_)
    refine Tk_condT rfl ?_
    refine Tk_seq (Tk_region (Tops_step rfl (OpT_assign rfl rfl rfl rfl) ?_))
    refine Tops_step rfl (OpT_assign rfl rfl rfl rfl) ?_
    refine Tops_nil (Tk_wkS (fr' := [(6, some (.slice none 0 0)), (7, some (vI (5 : Int)))]) (own' := [some (cellsR b_m 62 [vm1, vm2]), some (rowsX u8S true vm2 vsm1 m.b none)]) (shr' := [Fact.sl RegionS vm1 m.l]) [6, 7] [0, 1] [0] rfl rfl rfl rfl ?_)
    refine Tk_nilrow u8S ?_
    obtain rfl := Option.some.inj h
    exact Tk_retV rfl rfl (resA (vs := [.slice none 0 0, vI (5 : Int)]) rfl ⟨rfl, rfl, trivial⟩) [0, 1, 2] [] rfl rfl rfl ⟨(.slice none 0 0), rfl, rfl, rfl⟩
   ·refine Tk_eqv (x := winV 1 vsm1 bytes1) (y := subV (vsAt vsm1 (Int.toNat w1.1)) 1 (Int.toNat w1.2.1) (Int.toNat w1.2.2)) (by rw [ho1]; rfl) (fun z => ⟨[(8, some (z))], [some (cellsR b_m 62 [vm1, vm2]), some (rowsX u8S true vm2 vsm1 m.b none)], [Fact.sl RegionS vm1 m.l]⟩) ?_
    obtain ⟨row1, hx3, h⟩ := ob_e h
    refine Tk_vs (vs_focus (i := 1) (j := w1.1) rfl hx3) ?_
    obtain ⟨hc1, h⟩ := chk_e h
    refine Tk_seq (Tk_seq (Tk_region (Tops_step rfl (OpT_move rfl rfl rfl rfl) ?_)))
    obtain ⟨hc2, h⟩ := chk_e h
    refine Tops_step rfl (OpT_eqSub (S := u8S) (l := w1.2.1) (m := w1.2.2) rfl rfl rfl (.inl rfl) rfl rfl Try.underlying38 (i := 2) rfl hc1 hc2) ?_
    refine Tops_nil (Tk_wkS (fr' := [(8, some (subV (vsAt vsm1 (Int.toNat w1.1)) 1 (Int.toNat w1.2.1) (Int.toNat w1.2.2))), (24, some (vB false))]) (own' := [some (cellsR b_m 62 [vm1, vm2]), some (rowsX u8S true vm2 vsm1 m.b (some (Int.toNat w1.1, vsAt vsm1 (Int.toNat w1.1)))), some (rowS u8S (vsAt vsm1 (Int.toNat w1.1)) row1)]) (shr' := [Fact.sl RegionS vm1 m.l]) [8, 24] [0, 1, 2] [0] rfl rfl rfl rfl ?_)
    refine Tk_condF rfl ?_
    refine Tk_skip (Tk_seq (Tk_region (Tops_step rfl (OpT_move rfl rfl rfl rfl) ?_)))
    obtain ⟨cloneb1, hx4, h⟩ := ob_e h
    refine Tops_exP rfl (OpT_callB [2] [0, 1, 2, 3] (w_slices_Clone_bytebyte hx4) [] rfl rfl rfl rfl rfl callee38 rfl rfl rfl rfl rfl rfl (bor_cons (bor_sub (S := u8S) (l := w1.2.1) (m := w1.2.2) 2 rfl rfl hc1) bor_nil) (by rintro _ _ _ ⟨_, rfl, rfl, rfl⟩; exact ⟨rfl, (ri_cons (ri_row (S := u8S) rfl _ _) ri_nil)⟩)) ?_
    rintro _ ⟨v1, _, _, ⟨_, rfl, rfl, rfl⟩, rfl⟩
    refine Tops_step rfl (OpT_assign rfl rfl rfl rfl) ?_
    refine Tops_step rfl (OpT_assign rfl rfl rfl rfl) ?_
    refine Tops_nil (Tk_wkS (fr' := [(6, some (v1)), (7, some (vI (0 : Int)))]) (own' := [some (cellsR b_m 62 [vm1, vm2]), some (rowsX u8S true vm2 vsm1 m.b (some (Int.toNat w1.1, vsAt vsm1 (Int.toNat w1.1)))), some (rowS u8S (vsAt vsm1 (Int.toNat w1.1)) row1), some (rowS u8S v1 cloneb1)]) (shr' := [Fact.sl RegionS vm1 m.l]) [6, 7] [0, 1, 2, 3] [0] rfl rfl rfl rfl ?_)
    refine Tk_vs (vs_unfocus0 (i := 1) (q := 2) rfl rfl rfl hx3) ?_
    obtain rfl := Option.some.inj h
    exact Tk_retV rfl rfl (resA (vs := [v1, vI (0 : Int)]) rfl ⟨rfl, rfl, trivial⟩) [0, 1, 3] [] rfl rfl rfl ⟨v1, rfl, rfl, rfl⟩

set_option maxRecDepth 100000 in
set_option maxHeartbeats 4000000 in
theorem w_slices_Grow_bytebyten0 {np1 : Int} {r : (List UInt8)} (h : slices_Grow_bytebyten0 np1 = some r) :
  Ctr Try.prog 43 #[.slice none 0 0, vI np1] [] []
   (fun rv own shr => ∃ (w1 : Value), rv = w1 ∧ own = [(rowS u8S w1 r)] ∧ shr = []) := by
 unfold slices_Grow_bytebyten0 at h
 refine Ctr.mk (args := [.slice none 0 0, vI np1]) Try.func43 rfl rfl (fun R0 w0 B => ?_)
 refine Tk_seq (Tk_region (Tops_step rfl (OpT_assign rfl rfl rfl rfl) ?_))
 refine Tops_nil (Tk_wkS (fr' := [(0, some (.slice none 0 0)), (1, some (vI np1))]) (own' := []) (shr' := []) [0, 1] [] [] rfl rfl rfl rfl ?_)
 refine Tk_seq (Tk_seq (Tk_region (Tops_step rfl (OpT_move rfl rfl rfl rfl) ?_)))
 refine Tops_step rfl (OpT_bin rfl rfl rfl rfl rfl (bin_lss_i (a := np1) (b := (0 : Int)))) ?_
 refine Tops_nil (Tk_wkS (fr' := [(0, some (.slice none 0 0)), (1, some (vI np1)), (6, some (vB (decide (np1 < (0 : Int)))))]) (own' := []) (shr' := []) [0, 1, 6] [] [] rfl rfl rfl rfl ?_)
 refine Tk_join (α := Unit) (fun s => ⟨[(0, some (.slice none 0 0)), (1, some (vI np1))], [], []⟩) (fun s => slices_Grow_bytebyten0J1 np1 = some r) ?_ ?_
 ·rintro _ h
  replace h : slices_Grow_bytebyten0J1 np1 = some r := h
  unfold slices_Grow_bytebyten0J1 at h
  refine Tk_seq (Tk_seq (Tk_region (Tops_step rfl (OpT_move rfl rfl rfl rfl) ?_)))
  refine Tops_step rfl (OpT_move rfl rfl rfl rfl) ?_
  refine Tops_step rfl (OpT_capN rfl rfl rfl rfl Try.underlying38) ?_
  refine Tops_step rfl (OpT_move rfl rfl rfl rfl) ?_
  refine Tops_step rfl (OpT_lenE rfl rfl rfl rfl Try.underlying38) ?_
  refine Tops_step rfl (OpT_bin rfl rfl rfl rfl rfl (bin_sub_i (a := (0 : Int)) (b := (0 : Int)))) ?_
  refine Tops_step rfl (OpT_bin rfl rfl rfl rfl rfl (bin_sub_i (a := np1) (b := wi ((0 : Int) - (0 : Int))))) ?_
  refine Tops_step rfl (OpT_assign rfl rfl rfl rfl) ?_
  refine Tops_nil (Tk_wkS (fr' := [(0, some (.slice none 0 0)), (1, some (vI (wi (np1 - (wi ((0 : Int) - (0 : Int)))))))]) (own' := []) (shr' := []) [0, 1] [] [] rfl rfl rfl rfl ?_)
  refine Tk_seq (Tk_region (Tops_step rfl (OpT_move rfl rfl rfl rfl) ?_))
  refine Tops_step rfl (OpT_bin rfl rfl rfl rfl rfl (bin_gtr_i (a := wi (np1 - (wi ((0 : Int) - (0 : Int))))) (b := (0 : Int)))) ?_
  refine Tops_nil (Tk_wkS (fr' := [(0, some (.slice none 0 0)), (1, some (vI (wi (np1 - (wi ((0 : Int) - (0 : Int))))))), (16, some (vB (decide ((wi (np1 - (wi ((0 : Int) - (0 : Int))))) > (0 : Int)))))]) (own' := []) (shr' := []) [0, 1, 16] [] [] rfl rfl rfl rfl ?_)
  rcases Bool.eq_false_or_eq_true (decide ((wi (np1 - (wi ((0 : Int) - (0 : Int))))) > (0 : Int))) with hg1 | hg1
  ·replace h := br_t hg1 h
   refine Tk_condT (congrArg (fun b => some (Value.bool b)) hg1) ?_
   refine Tk_region (Tops_step rfl (OpT_move rfl rfl rfl rfl) ?_)
   refine Tops_step rfl (OpT_move rfl rfl rfl rfl) ?_
   refine Tops_step rfl (OpT_capN rfl rfl rfl rfl Try.underlying38) ?_
   refine Tops_step rfl (OpT_sliceN rfl rfl rfl rfl rfl Try.underlying38 ⟨_, (slF38).sz⟩) ?_
   refine Tops_step rfl (OpT_move rfl rfl rfl rfl) ?_
   obtain ⟨hc1, h⟩ := chk_e h
   refine Tops_ex rfl (OpT_appendZ u8S rfl (l := wi (np1 - (wi ((0 : Int) - (0 : Int))))) (u := (0 : UInt8)) rfl rfl rfl rfl rfl slF38 Try.underlying3 rfl hc1) fun v1 => ?_
   refine Tops_step rfl (OpT_move rfl rfl rfl rfl) ?_
   refine Tops_step rfl (OpT_lenE rfl rfl rfl rfl Try.underlying38) ?_
   obtain ⟨hc2, h⟩ := chk_e h
   refine Tops_ex rfl (OpT_sliceO (m := (0 : Int)) rfl rfl rfl rfl rfl slF38 (i := 0) rfl hc2) fun v2 => ?_
   refine Tops_step rfl (OpT_assign rfl rfl rfl rfl) ?_
   refine Tops_nil (Tk_wkS (fr' := [(0, some (v2))]) (own' := [some (rowS u8S v2 ((List.replicate (wi (np1 - (wi ((0 : Int) - (0 : Int))))).toNat (0 : UInt8)).take (0 : Int).toNat))]) (shr' := []) [0] [0] [] rfl rfl rfl rfl ?_)
   refine Tk_seq (Tk_region (Tops_step rfl (OpT_move rfl rfl rfl rfl) ?_))
   refine Tops_step rfl (OpT_assign rfl rfl rfl rfl) ?_
   refine Tops_nil (Tk_wkS (fr' := [(4, some (v2))]) (own' := [some (rowS u8S v2 ((List.replicate (wi (np1 - (wi ((0 : Int) - (0 : Int))))).toNat (0 : UInt8)).take (0 : Int).toNat))]) (shr' := []) [4] [0] [] rfl rfl rfl rfl ?_)
   obtain rfl := Option.some.inj h
   exact Tk_retV rfl rfl (resA (vs := [v2]) rfl ⟨rfl, trivial⟩) [0] [] rfl rfl rfl ⟨v2, rfl, rfl, rfl⟩
  ·replace h := br_f hg1 h
   refine Tk_condF (congrArg (fun b => some (Value.bool b)) hg1) ?_
   refine Tk_skip (Tk_seq (Tk_region (Tops_step rfl (OpT_move rfl rfl rfl rfl) ?_)))
   refine Tops_step rfl (OpT_assign rfl rfl rfl rfl) ?_
   refine Tops_nil (Tk_wkS (fr' := [(4, some (.slice none 0 0))]) (own' := []) (shr' := []) [4] [] [] rfl rfl rfl rfl ?_)
   refine Tk_nilrow u8S ?_
   obtain rfl := Option.some.inj h
   exact Tk_retV rfl rfl (resA (vs := [.slice none 0 0]) rfl ⟨rfl, trivial⟩) [0] [] rfl rfl rfl ⟨(.slice none 0 0), rfl, rfl, rfl⟩
 ·intro HJ1
  obtain ⟨hg2, h⟩ := chk_e h
  replace hg2 := not_t hg2
  refine Tk_condF (congrArg (fun b => some (Value.bool b)) hg2) ?_
  refine Tk_skip ?_
  exact Tk_jmpS (HJ1 () h) [0, 1] [] [] rfl rfl rfl rfl

set_option maxRecDepth 100000 in
set_option maxHeartbeats 4000000 in
theorem w_slices_Concat_bytebyte {slices : List (List UInt8)} {vslices1 : Value} {r : (List UInt8)} (h : slices_Concat_bytebyte slices = some r) :
  Ctr Try.prog 37 #[vslices1] [] [Fact.sl (Shape.slice u8S) vslices1 slices]
   (fun rv own shr => ∃ (w1 : Value), rv = w1 ∧ own = [(rowS u8S w1 r)] ∧ shr = []) := by
 unfold slices_Concat_bytebyte at h
 refine Ctr.mk (args := [vslices1]) Try.func37 rfl rfl (fun R0 w0 B => ?_)
 refine Tk_seq (Tk_region (Tops_step rfl (OpT_assign rfl rfl rfl rfl) ?_))
 refine Tops_nil (Tk_wkS (fr' := [(0, some (vslices1))]) (own' := []) (shr' := [Fact.sl (Shape.slice u8S) vslices1 slices]) [0] [] [0] rfl rfl rfl rfl ?_)
 refine Tk_seq (Tk_region (Tops_step rfl (OpT_assign rfl rfl rfl rfl) ?_))
 refine Tops_nil (Tk_seq (Tk_seq (Tk_region (Tops_step rfl (OpT_move rfl rfl rfl rfl) ?_))))
 refine Tops_step rfl (OpT_lenS rfl rfl rfl rfl Try.underlying60 (i := 0) rfl) ?_
 refine Tops_step rfl (OpT_move rfl rfl rfl rfl) ?_
 refine Tops_nil (Tk_block (Tk_loopS (σ := Int × Int) [0, 3, 9, 10, 11] [] [0] (fun s => ⟨[(0, some (vslices1)), (3, some (vI s.1)), (9, some (vslices1)), (10, some (vI (len slices))), (11, some (vI s.2))], [], [Fact.sl (Shape.slice u8S) vslices1 slices]⟩) (fun nf1 s => slices_Concat_bytebyteL1 slices nf1 s.1 s.2 = some r) fuel ((0 : Int), (0 : Int)) h rfl rfl rfl rfl rfl (fun s h => by cases h) ?_))
 rintro nf1 ⟨size1, x1⟩ h
 replace h : slices_Concat_bytebyteL1B slices (slices_Concat_bytebyteL1 slices nf1) size1 x1 = some r := h
 unfold slices_Concat_bytebyteL1B at h
 refine Tk_seq (Tk_region (Tops_step rfl (OpT_bin rfl rfl rfl rfl rfl (bin_lss_i (a := x1) (b := len slices))) ?_))
 refine Tops_nil (Tk_seq ?_)
 rcases Bool.eq_false_or_eq_true (decide (x1 < (len slices))) with hg1 | hg1
 ·replace h := br_t hg1 h
  refine Tk_condT (congrArg (fun b => some (Value.bool b)) hg1) ?_
  refine Tk_skip (Tk_seq (Tk_join (α := Int) (fun s => ⟨[(0, some (vslices1)), (3, some (vI s)), (9, some (vslices1)), (10, some (vI (len slices))), (11, some (vI x1))], [], [Fact.sl (Shape.slice u8S) vslices1 slices]⟩) (fun s => slices_Concat_bytebyteJ2 x1 (slices_Concat_bytebyteL1 slices nf1) s = some r) ?_ ?_))
  ·rintro size2 h
   replace h : slices_Concat_bytebyteJ2 x1 (slices_Concat_bytebyteL1 slices nf1) size2 = some r := h
   unfold slices_Concat_bytebyteJ2 at h
   refine Tk_region (Tops_step rfl (OpT_bin rfl rfl rfl rfl rfl (bin_add_i (a := x1) (b := (1 : Int)))) ?_)
   refine Tops_step rfl (OpT_move rfl rfl rfl rfl) ?_
   refine Tops_nil (Tk_wkS (fr' := [(0, some (vslices1)), (3, some (vI size2)), (9, some (vslices1)), (10, some (vI (len slices))), (11, some (vI (wi (x1 + (1 : Int)))))]) (own' := []) (shr' := [Fact.sl (Shape.slice u8S) vslices1 slices]) [0, 3, 9, 10, 11] [] [0] rfl rfl rfl rfl ?_)
   exact Tk_backS (size2, wi (x1 + (1 : Int))) h [0, 3, 9, 10, 11] [] [0] rfl rfl rfl rfl rfl
  ·intro HJ1
   refine Tk_block (Tk_seq (Tk_region ?_))
   obtain ⟨y1, hx1, h⟩ := ob_e h
   refine Tops_ex rfl (OpT_idxS rfl rfl rfl rfl rfl slF60 (i := 0) rfl hx1) fun p1 => ?_
   refine Tops_ex rfl (OpT_loadPS rfl rfl rfl rfl tyF38 (i := 1) rfl) fun v1 => ?_
   refine Tops_step rfl (OpT_assign rfl rfl rfl rfl) ?_
   refine Tops_nil (Tk_wkS (fr' := [(0, some (vslices1)), (3, some (vI size1)), (9, some (vslices1)), (10, some (vI (len slices))), (11, some (vI x1)), (5, some (v1))]) (own' := []) (shr' := [Fact.sl (Shape.slice u8S) vslices1 slices, Fact.sl u8S v1 y1]) [0, 3, 9, 10, 11, 5] [] [0, 2] rfl rfl rfl rfl ?_)
   refine Tk_seq (Tk_region (Tops_step rfl (OpT_move rfl rfl rfl rfl) ?_))
   refine Tops_step rfl (OpT_move rfl rfl rfl rfl) ?_
   refine Tops_step rfl (OpT_lenS rfl rfl rfl rfl Try.underlying38 (i := 1) rfl) ?_
   refine Tops_step rfl (OpT_bin rfl rfl rfl rfl rfl (bin_add_i (a := size1) (b := len y1))) ?_
   refine Tops_step rfl (OpT_assign rfl rfl rfl rfl) ?_
   refine Tops_nil (Tk_wkS (fr' := [(0, some (vslices1)), (3, some (vI (wi (size1 + (len y1))))), (9, some (vslices1)), (10, some (vI (len slices))), (11, some (vI x1))]) (own' := []) (shr' := [Fact.sl (Shape.slice u8S) vslices1 slices]) [0, 3, 9, 10, 11] [] [0] rfl rfl rfl rfl ?_)
   refine Tk_seq (Tk_region (Tops_step rfl (OpT_move rfl rfl rfl rfl) ?_))
   refine Tops_step rfl (OpT_bin rfl rfl rfl rfl rfl (bin_lss_i (a := wi (size1 + (len y1))) (b := (0 : Int)))) ?_
   refine Tops_nil (Tk_wkS (fr' := [(0, some (vslices1)), (3, some (vI (wi (size1 + (len y1))))), (9, some (vslices1)), (10, some (vI (len slices))), (11, some (vI x1)), (20, some (vB (decide ((wi (size1 + (len y1))) < (0 : Int)))))]) (own' := []) (shr' := [Fact.sl (Shape.slice u8S) vslices1 slices]) [0, 3, 9, 10, 11, 20] [] [0] rfl rfl rfl rfl ?_)
   refine Tk_join (α := Unit) (fun s => ⟨[(0, some (vslices1)), (3, some (vI (wi (size1 + (len y1))))), (9, some (vslices1)), (10, some (vI (len slices))), (11, some (vI x1))], [], [Fact.sl (Shape.slice u8S) vslices1 slices]⟩) (fun s => slices_Concat_bytebyteJ3 size1 x1 (slices_Concat_bytebyteL1 slices nf1) y1 = some r) ?_ ?_
   ·rintro _ h
    replace h : slices_Concat_bytebyteJ3 size1 x1 (slices_Concat_bytebyteL1 slices nf1) y1 = some r := h
    unfold slices_Concat_bytebyteJ3 at h
    refine Tk_blk ?_
    exact Tk_jmpS (HJ1 (wi (size1 + (len y1))) h) [0, 3, 9, 10, 11] [] [0] rfl rfl rfl rfl
   ·intro HJ2
    obtain ⟨hg2, h⟩ := chk_e h
    replace hg2 := not_t hg2
    refine Tk_condF (congrArg (fun b => some (Value.bool b)) hg2) ?_
    refine Tk_skip ?_
    exact Tk_jmpS (HJ2 () h) [0, 3, 9, 10, 11] [] [0] rfl rfl rfl rfl
 ·replace h := br_f hg1 h
  refine Tk_condF (congrArg (fun b => some (Value.bool b)) hg1) ?_
  refine Tk_exit _ rfl ?_
  refine Tk_seq (Tk_region (Tops_step rfl (OpT_move rfl rfl rfl rfl) ?_))
  obtain ⟨growby1, hx2, h⟩ := ob_e h
  refine Tops_exP rfl (OpT_call (w_slices_Grow_bytebyten0 hx2) [] [] rfl rfl rfl rfl rfl callee43 rfl rfl rfl rfl) ?_
  rintro _ ⟨v2, _, _, ⟨_, rfl, rfl, rfl⟩, rfl⟩
  refine Tops_step rfl (OpT_assign rfl rfl rfl rfl) ?_
  refine Tops_nil (Tk_wkS (fr' := [(0, some (vslices1)), (6, some (v2))]) (own' := [some (rowS u8S v2 growby1)]) (shr' := [Fact.sl (Shape.slice u8S) vslices1 slices]) [0, 6] [0] [0] rfl rfl rfl rfl ?_)
  refine Tk_seq (Tk_seq (Tk_region (Tops_step rfl (OpT_move rfl rfl rfl rfl) ?_)))
  refine Tops_step rfl (OpT_lenS rfl rfl rfl rfl Try.underlying60 (i := 0) rfl) ?_
  refine Tops_step rfl (OpT_move rfl rfl rfl rfl) ?_
  refine Tops_nil (Tk_wkS (fr' := [(6, some (v2)), (25, some (vslices1)), (26, some (vI (len slices))), (27, some (vI (0 : Int)))]) (own' := [some (rowS u8S v2 growby1)]) (shr' := [Fact.sl (Shape.slice u8S) vslices1 slices]) [6, 25, 26, 27] [0] [0] rfl rfl rfl rfl ?_)
  refine Tk_block (Tk_loopS (σ := (List UInt8) × Int × Value) [6, 25, 26, 27] [0] [0] (fun s => ⟨[(6, some (s.2.2)), (25, some (vslices1)), (26, some (vI (len slices))), (27, some (vI s.2.1))], [some (rowS u8S s.2.2 s.1)], [Fact.sl (Shape.slice u8S) vslices1 slices]⟩) (fun nf4 s => slices_Concat_bytebyteL4 slices nf4 s.1 s.2.1 = some r) fuel (growby1, (0 : Int), v2) h rfl rfl rfl rfl rfl (fun s h => by cases h) ?_)
  rintro nf4 ⟨newslice1, x2, v3⟩ h
  replace h : slices_Concat_bytebyteL4B slices (slices_Concat_bytebyteL4 slices nf4) newslice1 x2 = some r := h
  unfold slices_Concat_bytebyteL4B at h
  refine Tk_seq (Tk_region (Tops_step rfl (OpT_bin rfl rfl rfl rfl rfl (bin_lss_i (a := x2) (b := len slices))) ?_))
  refine Tops_nil (Tk_seq ?_)
  rcases Bool.eq_false_or_eq_true (decide (x2 < (len slices))) with hg3 | hg3
  ·replace h := br_t hg3 h
   refine Tk_condT (congrArg (fun b => some (Value.bool b)) hg3) ?_
   refine Tk_skip (Tk_seq (Tk_block (Tk_seq (Tk_region ?_))))
   obtain ⟨y2, hx3, h⟩ := ob_e h
   refine Tops_ex rfl (OpT_idxS rfl rfl rfl rfl rfl slF60 (i := 0) rfl hx3) fun p2 => ?_
   refine Tops_ex rfl (OpT_loadPS rfl rfl rfl rfl tyF38 (i := 1) rfl) fun v4 => ?_
   refine Tops_step rfl (OpT_assign rfl rfl rfl rfl) ?_
   refine Tops_nil (Tk_wkS (fr' := [(6, some (v3)), (25, some (vslices1)), (26, some (vI (len slices))), (27, some (vI x2)), (8, some (v4))]) (own' := [some (rowS u8S v3 newslice1)]) (shr' := [Fact.sl (Shape.slice u8S) vslices1 slices, Fact.sl u8S v4 y2]) [6, 25, 26, 27, 8] [0] [0, 2] rfl rfl rfl rfl ?_)
   refine Tk_region (Tops_step rfl (OpT_move rfl rfl rfl rfl) ?_)
   refine Tops_step rfl (OpT_move rfl rfl rfl rfl) ?_
   obtain ⟨hc1, h⟩ := chk_e h
   refine Tops_ex rfl (OpT_append rfl rfl rfl rfl rfl slF38 (i := 0) (j := 1) rfl rfl hc1) fun v5 => ?_
   refine Tops_step rfl (OpT_assign rfl rfl rfl rfl) ?_
   refine Tops_nil (Tk_wkS (fr' := [(6, some (v5)), (25, some (vslices1)), (26, some (vI (len slices))), (27, some (vI x2))]) (own' := [some (rowS u8S v5 (newslice1 ++ y2))]) (shr' := [Fact.sl (Shape.slice u8S) vslices1 slices]) [6, 25, 26, 27] [0] [0] rfl rfl rfl rfl ?_)
   refine Tk_blk (Tk_region (Tops_step rfl (OpT_bin rfl rfl rfl rfl rfl (bin_add_i (a := x2) (b := (1 : Int)))) ?_))
   refine Tops_step rfl (OpT_move rfl rfl rfl rfl) ?_
   refine Tops_nil (Tk_wkS (fr' := [(6, some (v5)), (25, some (vslices1)), (26, some (vI (len slices))), (27, some (vI (wi (x2 + (1 : Int)))))]) (own' := [some (rowS u8S v5 (newslice1 ++ y2))]) (shr' := [Fact.sl (Shape.slice u8S) vslices1 slices]) [6, 25, 26, 27] [0] [0] rfl rfl rfl rfl ?_)
   exact Tk_backS (newslice1 ++ y2, wi (x2 + (1 : Int)), v5) h [6, 25, 26, 27] [0] [0] rfl rfl rfl rfl rfl
  ·replace h := br_f hg3 h
   refine Tk_condF (congrArg (fun b => some (Value.bool b)) hg3) ?_
   refine Tk_exit _ rfl ?_
   refine Tk_seq (Tk_region (Tops_step rfl (OpT_move rfl rfl rfl rfl) ?_))
   refine Tops_step rfl (OpT_assign rfl rfl rfl rfl) ?_
   refine Tops_nil (Tk_wkS (fr' := [(2, some (v3))]) (own' := [some (rowS u8S v3 newslice1)]) (shr' := []) [2] [0] [] rfl rfl rfl rfl ?_)
   obtain rfl := Option.some.inj h
   exact Tk_retV rfl rfl (resA (vs := [v3]) rfl ⟨rfl, trivial⟩) [0] [] rfl rfl rfl ⟨v3, rfl, rfl, rfl⟩

set_option maxRecDepth 100000 in
set_option maxHeartbeats 4000000 in
theorem w_gmem_Mem_Image {m : gmem_Mem} {b_m : Nat} {vm1 : Value} {vm2 : Value} {vsm1 : List Value} {r : (List UInt8)} (h : gmem_Mem_Image m = some r) :
  Ctr Try.prog 21 #[.pointer (some ⟨b_m, 0, none⟩)] [(cellsR b_m 62 [vm1, vm2]), (rowsX u8S true vm2 vsm1 m.b none)] [Fact.sl RegionS vm1 m.l]
   (fun rv own shr => ∃ (w1 : Value), rv = w1 ∧ own = [(cellsR b_m 62 [vm1, vm2]), (rowsX u8S true vm2 vsm1 m.b none), (rowS u8S w1 r)] ∧ shr = []) := by
 unfold gmem_Mem_Image at h
 refine Ctr.mk (args := [.pointer (some ⟨b_m, 0, none⟩)]) Try.func21 rfl rfl (fun R0 w0 B => ?_)
 refine Tk_seq (Tk_region (Tops_step rfl (OpT_assign rfl rfl rfl rfl) ?_))
 refine Tops_nil (Tk_wkS (fr' := [(0, some (.pointer (some ⟨b_m, 0, none⟩)))]) (own' := [some (cellsR b_m 62 [vm1, vm2]), some (rowsX u8S true vm2 vsm1 m.b none)]) (shr' := [Fact.sl RegionS vm1 m.l]) [0] [0, 1] [0] rfl rfl rfl rfl ?_)
 refine Tk_seq (Tk_seq (Tk_region (Tops_step rfl (OpT_move rfl rfl rfl rfl) ?_)))
 obtain ⟨made1, hx1, h⟩ := ob_e h
 refine Tops_exP rfl (OpT_callP [2, 3] (w_gmem_Mem_made hx1) [0, 1] [0] rfl rfl rfl rfl rfl callee34 rfl rfl rfl rfl rfl) ?_
 rintro _ ⟨_, _, _, ⟨rfl, rfl, rfl⟩, rfl⟩
 refine Tops_step rfl (OpT_not rfl rfl rfl rfl) ?_
 refine Tops_nil (Tk_wkS (fr' := [(0, some (.pointer (some ⟨b_m, 0, none⟩))), (5, some (vB (!made1)))]) (own' := [some (cellsR b_m 62 [vm1, vm2]), some (rowsX u8S true vm2 vsm1 m.b none)]) (shr' := [Fact.sl RegionS vm1 m.l]) [0, 5] [0, 1] [0] rfl rfl rfl rfl ?_)
 refine Tk_condF (congrArg (fun b => some (Value.bool b)) (congrArg (!·) (Option.some.inj (show some true = some made1 from hx1)).symm)) ?_
 refine Tk_skip (Tk_seq (Tk_region (Tops_step rfl (OpT_move rfl rfl rfl rfl) ?_)))
 refine Tops_step rfl (OpT_nilCheckP rfl rfl rfl rfl) ?_
 refine Tops_step rfl (OpT_fieldC rfl rfl rfl rfl fldF62x1) ?_
 refine Tops_step rfl (OpT_loadC rfl rfl rfl rfl tyF60 (i := 0) rfl rfl) ?_
 obtain ⟨concat1, hx2, h⟩ := ob_e h
 refine Tops_exP rfl (OpT_callB [1] [0, 1, 2] (w_slices_Concat_bytebyte hx2) [] rfl rfl rfl rfl rfl callee37 rfl rfl rfl rfl rfl rfl (bor_cons (bor_rows 1 rfl rfl) bor_nil) (by rintro _ _ _ ⟨_, rfl, rfl, rfl⟩; exact ⟨rfl, (ri_cons (ri_row (S := u8S) rfl _ _) ri_nil)⟩)) ?_
 rintro _ ⟨v1, _, _, ⟨_, rfl, rfl, rfl⟩, rfl⟩
 refine Tops_step rfl (OpT_assign rfl rfl rfl rfl) ?_
 refine Tops_nil (Tk_wkS (fr' := [(2, some (v1))]) (own' := [some (cellsR b_m 62 [vm1, vm2]), some (rowsX u8S true vm2 vsm1 m.b none), some (rowS u8S v1 concat1)]) (shr' := [Fact.sl RegionS vm1 m.l]) [2] [0, 1, 2] [0] rfl rfl rfl rfl ?_)
 obtain rfl := Option.some.inj h
 exact Tk_retV rfl rfl (resA (vs := [v1]) rfl ⟨rfl, trivial⟩) [0, 1, 2] [] rfl rfl rfl ⟨v1, rfl, rfl, rfl⟩

theorem ws_gmem_Mem_Image {m : gmem_Mem} {b_m : Nat} {vm1 : Value} {vm2 : Value} {vsm1 : List Value} {r : (List UInt8)} (h : gmem_Mem_Image m = some r) :
  Ctr Try.prog 21 #[.pointer (some ⟨b_m, 0, none⟩)] [(cellsR b_m 62 [vm1, vm2]), (rowsX u8S true vm2 vsm1 m.b none)] [Fact.sl RegionS vm1 m.l]
   (fun rv own shr => ∃ (w1 : Value), rv = w1 ∧ own = [(cellsR b_m 62 [vm1, vm2]), (rowsX u8S true vm2 vsm1 m.b none)] ∧ shr = [Fact.sl u8S w1 r]) :=
 Ctr.sh (w_gmem_Mem_Image h) (by rintro w1 _ _ ⟨_, rfl, rfl, rfl⟩; exact ⟨[(cellsR b_m 62 [vm1, vm2]), (rowsX u8S true vm2 vsm1 m.b none)], _, _, _, _, rfl, w1, rfl, rfl, rfl⟩)
end Go.Proofs.Ytecmlfmbmligeaa
