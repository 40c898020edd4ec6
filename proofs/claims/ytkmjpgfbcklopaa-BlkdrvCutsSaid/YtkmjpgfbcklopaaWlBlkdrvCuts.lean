/- The law BlkdrvCuts is walked: it returns what its plain words say. No condition. -/
import Derived.Test.YtkmjpgfbcklopaaWa5
namespace Go.Proofs.Ytkmjpgfbcklopaa
attribute [local irreducible] sub

set_option maxRecDepth 100000 in
set_option maxHeartbeats 4000000 in
theorem w_law22zBlkdrvCuts {l : List Seg} {cuts : List Int} {vl1 : Value} {vcuts1 : Value}  (h : law22zBlkdrvCuts l cuts = some true) :
  Ctr Try.prog 3 #[vl1, vcuts1] [] [Fact.sl SegS vl1 l, Fact.sl iS vcuts1 cuts]
   (fun rv own shr => rv = .bool true ∧ own = [] ∧ shr = []) := by
 unfold law22zBlkdrvCuts at h
 refine Ctr.mk (args := [vl1, vcuts1]) Try.func3 rfl rfl (fun R0 w0 B => ?_)
 refine Tk_seq (Tk_region (Tops_step rfl (OpT_assign rfl rfl rfl rfl) ?_))
 refine Tops_nil (Tk_wkS (fr' := [(0, some (vl1)), (1, some (vcuts1))]) (own' := []) (shr' := [Fact.sl SegS vl1 l, Fact.sl iS vcuts1 cuts]) [0, 1] [] [0, 1] rfl rfl rfl rfl ?_)
 refine Tk_seq (Tk_seq (Tk_region ?_))
 obtain ⟨lives1, hx1, h⟩ := ob_e h
 refine Tops_exP rfl (OpT_call (w_law22zlives hx1) [] [] rfl rfl rfl rfl rfl callee8 rfl rfl rfl rfl) ?_
 rintro _ ⟨_, _, _, ⟨rfl, rfl, rfl⟩, rfl⟩
 refine Tops_step rfl (OpT_not rfl rfl rfl rfl) ?_
 refine Tops_nil (Tk_wkS (fr' := [(0, some (vl1)), (1, some (vcuts1)), (12, some (vB (!lives1)))]) (own' := []) (shr' := [Fact.sl SegS vl1 l, Fact.sl iS vcuts1 cuts]) [0, 1, 12] [] [0, 1] rfl rfl rfl rfl ?_)
 obtain ⟨hg1, h⟩ := chk_e h
 replace hg1 := not_t hg1
 refine Tk_condF (congrArg (fun b => some (Value.bool b)) hg1) ?_
 refine Tk_skip (Tk_seq (Tk_seq (Tk_region (Tops_step rfl (OpT_move rfl rfl rfl rfl) ?_))))
 refine Tops_step rfl (OpT_lenS rfl rfl rfl rfl Try.underlying22 (i := 0) rfl) ?_
 refine Tops_step rfl (OpT_bin rfl rfl rfl rfl rfl (bin_gtr_i (a := len l) (b := (70 : Int)))) ?_
 refine Tops_step rfl (OpT_move rfl rfl rfl rfl) ?_
 rcases Bool.eq_false_or_eq_true (decide ((len l) > (70 : Int))) with hg2 | hg2
 ·replace h := br_t hg2 h
  refine Tops_no rfl rfl (congrArg (fun b => some (Value.bool b)) hg2) rfl rfl ?_
  refine Tops_no rfl rfl (congrArg (fun b => some (Value.bool b)) hg2) rfl rfl ?_
  refine Tops_no rfl rfl (congrArg (fun b => some (Value.bool b)) hg2) rfl rfl ?_
  refine Tops_step rfl (OpT_pickT rfl rfl rfl (congrArg (fun b => some (Value.bool b)) hg2) rfl) ?_
  refine Tops_nil (Tk_wkS (fr' := [(0, some (vl1)), (1, some (vcuts1)), (20, some (vB true))]) (own' := []) (shr' := [Fact.sl SegS vl1 l, Fact.sl iS vcuts1 cuts]) [0, 1, 20] [] [0, 1] rfl rfl rfl rfl ?_)
  refine Tk_condT rfl ?_
  refine Tk_seq (Tk_region (Tops_step rfl (OpT_assign rfl rfl rfl rfl) ?_))
  refine Tops_nil (Tk_wkS (fr' := [(4, some (vB true))]) (own' := []) (shr' := []) [4] [] [] rfl rfl rfl rfl ?_)
  exact Tk_retV rfl rfl (resA (vs := [.bool true]) rfl ⟨rfl, trivial⟩) [] [] rfl rfl rfl ⟨rfl, rfl, rfl⟩
 ·replace h := br_f hg2 h
  refine Tops_yes rfl rfl (congrArg (fun b => some (Value.bool b)) hg2) (OpT_move rfl rfl rfl rfl) ?_
  rintro _ rfl
  refine Tops_yes rfl rfl (congrArg (fun b => some (Value.bool b)) hg2) (OpT_lenS rfl rfl rfl rfl Try.underlying23 (i := 1) rfl) ?_
  rintro _ rfl
  refine Tops_yes rfl rfl (congrArg (fun b => some (Value.bool b)) hg2) (OpT_bin rfl rfl rfl rfl rfl (bin_gtr_i (a := len cuts) (b := (70 : Int)))) ?_
  rintro _ rfl
  refine Tops_step rfl (OpT_pickF rfl rfl rfl (congrArg (fun b => some (Value.bool b)) hg2) rfl) ?_
  refine Tops_nil (Tk_wkS (fr' := [(0, some (vl1)), (1, some (vcuts1)), (20, some (vB (decide ((len cuts) > (70 : Int)))))]) (own' := []) (shr' := [Fact.sl SegS vl1 l, Fact.sl iS vcuts1 cuts]) [0, 1, 20] [] [0, 1] rfl rfl rfl rfl ?_)
  rcases Bool.eq_false_or_eq_true (decide ((len cuts) > (70 : Int))) with hg3 | hg3
  ·replace h := br_t hg3 h
   refine Tk_condT (congrArg (fun b => some (Value.bool b)) hg3) ?_
   refine Tk_seq (Tk_region (Tops_step rfl (OpT_assign rfl rfl rfl rfl) ?_))
   refine Tops_nil (Tk_wkS (fr' := [(4, some (vB true))]) (own' := []) (shr' := []) [4] [] [] rfl rfl rfl rfl ?_)
   exact Tk_retV rfl rfl (resA (vs := [.bool true]) rfl ⟨rfl, trivial⟩) [] [] rfl rfl rfl ⟨rfl, rfl, rfl⟩
  ·replace h := br_f hg3 h
   refine Tk_condF (congrArg (fun b => some (Value.bool b)) hg3) ?_
   refine Tk_skip (Tk_seq (Tk_region (Tops_step rfl (OpT_move rfl rfl rfl rfl) ?_)))
   obtain ⟨segs1, hx2, h⟩ := ob_e h
   refine Tops_exP rfl (OpT_call (w_kit_Segs hx2) [] [0] rfl rfl rfl rfl rfl callee10 rfl rfl rfl rfl) ?_
   rintro _ ⟨v1, _, _, ⟨_, rfl, rfl, rfl⟩, rfl⟩
   refine Tops_step rfl (OpT_move rfl rfl rfl rfl) ?_
   obtain ⟨cut1, hx3, h⟩ := ob_e h
   refine Tops_exP rfl (OpT_callB [0] [0, 1] (w_blkdrv_Cut hx3) [] rfl rfl rfl rfl rfl callee9 rfl rfl rfl rfl rfl rfl (bor_cons (bor_row 0 rfl rfl) (bor_cons (bor_shr 1 rfl) bor_nil)) (by rintro _ _ _ ⟨_, rfl, rfl, rfl⟩; exact ⟨rfl, (ri_cons (ri_row (S := SegS) rfl _ _) ri_nil)⟩)) ?_
   rintro _ ⟨v2, _, _, ⟨_, rfl, rfl, rfl⟩, rfl⟩
   refine Tops_step rfl (OpT_assign rfl rfl rfl rfl) ?_
   refine Tops_nil (Tk_wkS (fr' := [(0, some (vl1)), (5, some (v2))]) (own' := [some (rowS SegS v2 cut1)]) (shr' := [Fact.sl SegS vl1 l]) [0, 5] [1] [0] rfl rfl rfl rfl ?_)
   refine Tk_seq (Tk_seq (Tk_region (Tops_step rfl (OpT_move rfl rfl rfl rfl) ?_)))
   obtain ⟨check1, hx4, h⟩ := ob_e h
   refine Tops_exP rfl (OpT_call (w_ref_Check05 hx4) [] [0] rfl rfl rfl rfl rfl callee11 rfl rfl rfl rfl) ?_
   rintro _ ⟨_, _, _, ⟨rfl, rfl, rfl⟩, rfl⟩
   refine Tops_step rfl (OpT_bin rfl rfl rfl rfl rfl (bin_neq_i (a := check1) (b := (0 : Int)))) ?_
   refine Tops_nil (Tk_wkS (fr' := [(0, some (vl1)), (5, some (v2)), (27, some (vB (check1 != (0 : Int))))]) (own' := [some (rowS SegS v2 cut1)]) (shr' := [Fact.sl SegS vl1 l]) [0, 5, 27] [0] [0] rfl rfl rfl rfl ?_)
   rcases Bool.eq_false_or_eq_true (check1 != (0 : Int)) with hg4 | hg4
   ·replace h := br_t hg4 h
    refine Tk_condT (congrArg (fun b => some (Value.bool b)) hg4) ?_
    refine Tk_seq (Tk_region (Tops_step rfl (OpT_move rfl rfl rfl rfl) ?_))
    refine Tops_step rfl (OpT_lenO rfl rfl rfl rfl Try.underlying22 (i := 0) rfl) ?_
    refine Tops_step rfl (OpT_bin rfl rfl rfl rfl rfl (bin_eql_i (a := len cut1) (b := (0 : Int)))) ?_
    refine Tops_step rfl (OpT_assign rfl rfl rfl rfl) ?_
    refine Tops_nil (Tk_wkS (fr' := [(4, some (vB ((len cut1) == (0 : Int))))]) (own' := []) (shr' := []) [4] [] [] rfl rfl rfl rfl ?_)
    obtain ⟨hg5, h⟩ := chk_e h
    exact Tk_retV rfl rfl (resA (vs := [.bool true]) rfl ⟨(congrArg (fun b => some (Value.bool b)) hg5), trivial⟩) [] [] rfl rfl rfl ⟨rfl, rfl, rfl⟩
   ·replace h := br_f hg4 h
    refine Tk_condF (congrArg (fun b => some (Value.bool b)) hg4) ?_
    refine Tk_skip (Tk_seq (Tk_seq (Tk_region (Tops_step rfl (OpT_move rfl rfl rfl rfl) ?_))))
    obtain ⟨check2, hx5, h⟩ := ob_e h
    refine Tops_exP rfl (OpT_callB [0] [0] (w_ref_Check05 hx5) [] rfl rfl rfl rfl rfl callee11 rfl rfl rfl rfl rfl rfl (bor_cons (bor_row 0 rfl rfl) bor_nil) (by rintro _ _ _ ⟨rfl, rfl, rfl⟩; exact ⟨rfl, ri_nil⟩)) ?_
    rintro _ ⟨_, _, _, ⟨rfl, rfl, rfl⟩, rfl⟩
    refine Tops_step rfl (OpT_bin rfl rfl rfl rfl rfl (bin_neq_i (a := check2) (b := (0 : Int)))) ?_
    refine Tops_step rfl (OpT_move rfl rfl rfl rfl) ?_
    obtain ⟨hg6, h⟩ := chk_e h
    replace hg6 := not_t hg6
    refine Tops_yes rfl rfl (congrArg (fun b => some (Value.bool b)) hg6) (OpT_move rfl rfl rfl rfl) ?_
    rintro _ rfl
    refine Tops_yes rfl rfl (congrArg (fun b => some (Value.bool b)) hg6) (OpT_lenO rfl rfl rfl rfl Try.underlying22 (i := 0) rfl) ?_
    rintro _ rfl
    refine Tops_yes rfl rfl (congrArg (fun b => some (Value.bool b)) hg6) (OpT_move rfl rfl rfl rfl) ?_
    rintro _ rfl
    refine Tops_yes rfl rfl (congrArg (fun b => some (Value.bool b)) hg6) (OpT_lenS rfl rfl rfl rfl Try.underlying22 (i := 0) rfl) ?_
    rintro _ rfl
    refine Tops_yes rfl rfl (congrArg (fun b => some (Value.bool b)) hg6) (OpT_bin rfl rfl rfl rfl rfl (bin_lss_i (a := len cut1) (b := len l))) ?_
    rintro _ rfl
    refine Tops_step rfl (OpT_pickF rfl rfl rfl (congrArg (fun b => some (Value.bool b)) hg6) rfl) ?_
    refine Tops_step rfl (OpT_move rfl rfl rfl rfl) ?_
    obtain ⟨hg7, h⟩ := chk_e h
    replace hg7 := not_t hg7
    refine Tops_yes rfl rfl (congrArg (fun b => some (Value.bool b)) hg7) (OpT_move rfl rfl rfl rfl) ?_
    rintro _ rfl
    refine Tops_yes rfl rfl (congrArg (fun b => some (Value.bool b)) hg7) (OpT_lenO rfl rfl rfl rfl Try.underlying22 (i := 0) rfl) ?_
    rintro _ rfl
    refine Tops_yes rfl rfl (congrArg (fun b => some (Value.bool b)) hg7) (OpT_bin rfl rfl rfl rfl rfl (bin_gtr_i (a := len cut1) (b := (64 : Int)))) ?_
    rintro _ rfl
    refine Tops_step rfl (OpT_pickF rfl rfl rfl (congrArg (fun b => some (Value.bool b)) hg7) rfl) ?_
    refine Tops_nil (Tk_wkS (fr' := [(0, some (vl1)), (5, some (v2)), (45, some (vB (decide ((len cut1) > (64 : Int)))))]) (own' := [some (rowS SegS v2 cut1)]) (shr' := [Fact.sl SegS vl1 l]) [0, 5, 45] [0] [0] rfl rfl rfl rfl ?_)
    obtain ⟨hg8, h⟩ := chk_e h
    replace hg8 := not_t hg8
    refine Tk_condF (congrArg (fun b => some (Value.bool b)) hg8) ?_
    refine Tk_skip (Tk_seq (Tk_region (Tops_step rfl (OpT_assign rfl rfl rfl rfl) ?_)))
    refine Tops_step rfl (OpT_assign rfl rfl rfl rfl) ?_
    refine Tops_step rfl (OpT_assign rfl rfl rfl rfl) ?_
    refine Tops_nil (Tk_wkS (fr' := [(0, some (vl1)), (5, some (v2)), (6, some (vI (0 : Int))), (7, some (vU64 (0 : UInt64))), (8, some (vU64 (0 : UInt64)))]) (own' := [some (rowS SegS v2 cut1)]) (shr' := [Fact.sl SegS vl1 l]) [0, 5, 6, 7, 8] [0] [0] rfl rfl rfl rfl ?_)
    refine Tk_seq (Tk_seq (Tk_region (Tops_step rfl (OpT_assign rfl rfl rfl rfl) ?_)))
    refine Tops_nil (Tk_block (Tk_loopS (σ := Int × UInt64 × UInt64 × Int) [0, 5, 6, 7, 8, 9] [0] [0] (fun s => ⟨[(0, some (vl1)), (5, some (v2)), (6, some (vI s.1)), (7, some (vU64 s.2.1)), (8, some (vU64 s.2.2.1)), (9, some (vI s.2.2.2))], [some (rowS SegS v2 cut1)], [Fact.sl SegS vl1 l]⟩) (fun nf1 s => law22zBlkdrvCutsL1 l cut1 nf1 s.1 s.2.1 s.2.2.1 s.2.2.2 = some true) fuel ((0 : Int), (0 : UInt64), (0 : UInt64), (0 : Int)) h rfl rfl rfl rfl rfl (fun s h => by cases h) ?_))
    rintro nf1 ⟨i1, left1, at1, k1⟩ h
    replace h : law22zBlkdrvCutsL1B l cut1 (law22zBlkdrvCutsL1 l cut1 nf1) i1 left1 at1 k1 = some true := h
    unfold law22zBlkdrvCutsL1B at h
    refine Tk_seq (Tk_seq (Tk_region (Tops_step rfl (OpT_move rfl rfl rfl rfl) ?_)))
    refine Tops_step rfl (OpT_move rfl rfl rfl rfl) ?_
    refine Tops_step rfl (OpT_lenO rfl rfl rfl rfl Try.underlying22 (i := 0) rfl) ?_
    refine Tops_step rfl (OpT_bin rfl rfl rfl rfl rfl (bin_lss_i (a := k1) (b := len cut1))) ?_
    refine Tops_nil (Tk_wkS (fr' := [(0, some (vl1)), (5, some (v2)), (6, some (vI i1)), (7, some (vU64 left1)), (8, some (vU64 at1)), (9, some (vI k1)), (49, some (vB (decide (k1 < (len cut1)))))]) (own' := [some (rowS SegS v2 cut1)]) (shr' := [Fact.sl SegS vl1 l]) [0, 5, 6, 7, 8, 9, 49] [0] [0] rfl rfl rfl rfl ?_)
    rcases Bool.eq_false_or_eq_true (decide (k1 < (len cut1))) with hg9 | hg9
    ·replace h := br_t hg9 h
     refine Tk_condT (congrArg (fun b => some (Value.bool b)) hg9) ?_
     refine Tk_skip (Tk_seq (Tk_block (Tk_seq (Tk_seq (Tk_region (Tops_step rfl (OpT_move rfl rfl rfl rfl) ?_))))))
     refine Tops_step rfl (OpT_bin rfl rfl rfl rfl rfl (bin_eql_u64 (a := left1) (b := (0 : UInt64)))) ?_
     refine Tops_nil (Tk_wkS (fr' := [(0, some (vl1)), (5, some (v2)), (6, some (vI i1)), (7, some (vU64 left1)), (8, some (vU64 at1)), (9, some (vI k1)), (53, some (vB (left1 == (0 : UInt64))))]) (own' := [some (rowS SegS v2 cut1)]) (shr' := [Fact.sl SegS vl1 l]) [0, 5, 6, 7, 8, 9, 53] [0] [0] rfl rfl rfl rfl ?_)
     refine Tk_join (α := Int × UInt64 × UInt64) (fun s => ⟨[(0, some (vl1)), (5, some (v2)), (6, some (vI s.1)), (7, some (vU64 s.2.1)), (8, some (vU64 s.2.2)), (9, some (vI k1))], [some (rowS SegS v2 cut1)], [Fact.sl SegS vl1 l]⟩) (fun s => law22zBlkdrvCutsJ2 l cut1 k1 (law22zBlkdrvCutsL1 l cut1 nf1) s.1 s.2.1 s.2.2 = some true) ?_ ?_
     ·rintro ⟨i2, left2, at2⟩ h
      replace h : law22zBlkdrvCutsJ2 l cut1 k1 (law22zBlkdrvCutsL1 l cut1 nf1) i2 left2 at2 = some true := h
      unfold law22zBlkdrvCutsJ2 at h
      refine Tk_seq (Tk_seq (Tk_drawT (by kernel_rfl) ?_))
      refine TA_tb [0, 0, 3, 7, 15, 0, 63, 127, 255, 255, 1023, 2047, 4095, 8191, 255, 32767, 65535, 131071, 262143, 262143, 1048575, 2097151, 4194303, 262143, 262143, 17039359, 58982399, 126091263, 260308991, 536870911, 1073741823] (by kernel_rfl) fun htb => ?_
      obtain ⟨s1, hx6, h⟩ := ob_e h
      refine TA_seg (lo := 0) (hi := 6) htb rfl rfl (by kernel_rfl) (fun c L a w => Sat c ⟨[(0, some (vl1)), (5, some (v2)), (6, some (vI i2)), (7, some (vU64 left2)), (8, some (vU64 at2)), (9, some (vI k1)), (71, bif L 0 then some (v2) else none), (72, bif L 1 then some (vI k1) else none), (73, bif L 2 then some (rowPtr v2 (Int.toNat k1 * 3)) else none), (74, bif L 3 then some (rowPtr v2 (Int.toNat k1 * 3 + 0)) else none), (75, bif L 4 then some (vU64 s1.At) else none), (76, bif L 5 then some (vU64 at2) else none)], [(some (rowS SegS v2 cut1) : Option Res)], [Fact.sl SegS vl1 l]⟩ a w) [([], [2, 3, 4]), ([], [2, 3, 4]), ([0, 1], [3, 4]), ([0, 1, 2], [4]), ([0, 1, 2, 3], []), ([], [])] rfl (by kernel_rfl) ?_ (steps_cons ?_ (steps_cons ?_ (steps_cons ?_ (steps_cons ?_ (steps_cons ?_ (steps_cons ?_ (steps_nil))))))) ?_
      ·intro a w hs
       exact hs.startF [71, 72, 73, 74, 75, 76] [0] [0] rfl rfl rfl rfl
      ·intro L a w hv K Q hK
       have hs := hv
       refine wpOp_go rfl rfl hs (OpT_move rfl rfl rfl rfl) ?_
       rintro _ rfl a' w' hs'
       exact hK a' w' (hs'.putF (i := 6) rfl [0] [0] rfl rfl rfl rfl)
      ·intro L a w hv K Q hK
       have hs := hv
       refine wpOp_go rfl rfl hs (OpT_move rfl rfl rfl rfl) ?_
       rintro _ rfl a' w' hs'
       exact hK a' w' (hs'.putF (i := 7) rfl [0] [0] rfl rfl rfl rfl)
      ·intro L a w hv K Q hK
       have hs := hv
       refine wpOp_go rfl rfl hs (OpT_idxO rfl rfl rfl rfl rfl slF22 (i := 0) rfl hx6) ?_
       rintro _ rfl a' w' hs'
       exact hK a' w' (hs'.putF (i := 8) rfl [0] [0] rfl rfl rfl rfl)
      ·intro L a w hv K Q hK
       have hs := hv
       refine wpOp_go rfl rfl hs (OpT_fieldR (S := SegS) rfl rfl rfl rfl fldF32x0 (i := 0) rfl hx6) ?_
       rintro _ rfl a' w' hs'
       exact hK a' w' (hs'.putF (i := 9) rfl [0] [0] rfl rfl rfl rfl)
      ·intro L a w hv K Q hK
       have hs := hv
       refine wpOp_go rfl rfl hs (OpT_loadOF (S := SegS) rfl rfl rfl rfl rfl tyF29 (i := 0) rfl hx6 rfl rfl) ?_
       rintro _ rfl a' w' hs'
       exact hK a' w' (hs'.putF (i := 10) rfl [0] [0] rfl rfl rfl rfl)
      ·intro L a w hv K Q hK
       have hs := hv
       refine wpOp_go rfl rfl hs (OpT_move rfl rfl rfl rfl) ?_
       rintro _ rfl a' w' hs'
       exact hK a' w' (hs'.putF (i := 11) rfl [0] [0] rfl rfl rfl rfl)
      ·intro L a w hL hv
       rw [allTrue hL] at hv
       have hs := hv
       refine (show TA _ _ _ 6 ⟨[(0, some (vl1)), (5, some (v2)), (6, some (vI i2)), (7, some (vU64 left2)), (8, some (vU64 at2)), (9, some (vI k1)), (75, some (vU64 s1.At)), (76, some (vU64 at2))], [some (rowS SegS v2 cut1)], [Fact.sl SegS vl1 l]⟩ from ?_) a w (hs.wkS [0, 5, 6, 7, 8, 9, 75, 76] [0] [0] rfl rfl rfl rfl)
       clear hs hL
       refine TA_step htb (by kernel_rfl) rfl rfl (OpT_bin rfl rfl rfl rfl rfl (bin_neq_u64 (a := s1.At) (b := at2))) ?_
       refine TA_step htb (by kernel_rfl) rfl rfl (OpT_move rfl rfl rfl rfl) ?_
       refine TA_wkS (fr' := [(0, some (vl1)), (5, some (v2)), (6, some (vI i2)), (7, some (vU64 left2)), (8, some (vU64 at2)), (9, some (vI k1)), (78, some (vB (s1.At != at2)))]) (own' := [some (rowS SegS v2 cut1)]) (shr' := [Fact.sl SegS vl1 l]) [0, 5, 6, 7, 8, 9, 78] [0] [0] rfl rfl rfl rfl ?_
       obtain ⟨hg10, h⟩ := chk_e h
       replace hg10 := not_t hg10
       obtain ⟨s2, hx7, h⟩ := ob_e h
       refine TA_seg (lo := 8) (hi := 15) htb rfl rfl (by kernel_rfl) (fun c L a w => Sat c ⟨[(0, some (vl1)), (5, some (v2)), (6, some (vI i2)), (7, some (vU64 left2)), (8, some (vU64 at2)), (9, some (vI k1)), (78, some (vB (s1.At != at2))), (79, bif L 8 then some (v2) else none), (80, bif L 9 then some (vI k1) else none), (81, bif L 10 then some (rowPtr v2 (Int.toNat k1 * 3)) else none), (82, bif L 11 then some (rowPtr v2 (Int.toNat k1 * 3 + 1)) else none), (83, bif L 12 then some (vU32 s2.Len) else none), (84, bif L 13 then some (vU64 s2.Len.toUInt64) else none), (85, bif L 14 then some (vU64 left2) else none)], [(some (rowS SegS v2 cut1) : Option Res)], [Fact.sl SegS vl1 l]⟩ a w) [([], [10, 11, 12, 13]), ([], [10, 11, 12, 13]), ([8, 9], [11, 12, 13]), ([8, 9, 10], [12, 13]), ([8, 9, 10, 11], [13]), ([8, 9, 10, 11, 12], []), ([], [])] rfl (by kernel_rfl) ?_ (steps_cons ?_ (steps_cons ?_ (steps_cons ?_ (steps_cons ?_ (steps_cons ?_ (steps_cons ?_ (steps_cons ?_ (steps_nil)))))))) ?_
       ·intro a w hs
        exact hs.startF [79, 80, 81, 82, 83, 84, 85] [0] [0] rfl rfl rfl rfl
       ·intro L a w hv K Q hK
        have hs := hv
        refine wpOp_yes rfl rfl rfl hs (congrArg (fun b => some (Value.bool b)) hg10) (OpT_move rfl rfl rfl rfl) ?_
        rintro _ rfl a' w' hs'
        exact hK a' w' (hs'.putF (i := 7) rfl [0] [0] rfl rfl rfl rfl)
       ·intro L a w hv K Q hK
        have hs := hv
        refine wpOp_yes rfl rfl rfl hs (congrArg (fun b => some (Value.bool b)) hg10) (OpT_move rfl rfl rfl rfl) ?_
        rintro _ rfl a' w' hs'
        exact hK a' w' (hs'.putF (i := 8) rfl [0] [0] rfl rfl rfl rfl)
       ·intro L a w hv K Q hK
        have hs := hv
        refine wpOp_yes rfl rfl rfl hs (congrArg (fun b => some (Value.bool b)) hg10) (OpT_idxO rfl rfl rfl rfl rfl slF22 (i := 0) rfl hx7) ?_
        rintro _ rfl a' w' hs'
        exact hK a' w' (hs'.putF (i := 9) rfl [0] [0] rfl rfl rfl rfl)
       ·intro L a w hv K Q hK
        have hs := hv
        refine wpOp_yes rfl rfl rfl hs (congrArg (fun b => some (Value.bool b)) hg10) (OpT_fieldR (S := SegS) rfl rfl rfl rfl fldF32x1 (i := 0) rfl hx7) ?_
        rintro _ rfl a' w' hs'
        exact hK a' w' (hs'.putF (i := 10) rfl [0] [0] rfl rfl rfl rfl)
       ·intro L a w hv K Q hK
        have hs := hv
        refine wpOp_yes rfl rfl rfl hs (congrArg (fun b => some (Value.bool b)) hg10) (OpT_loadOF (S := SegS) rfl rfl rfl rfl rfl tyF30 (i := 0) rfl hx7 rfl rfl) ?_
        rintro _ rfl a' w' hs'
        exact hK a' w' (hs'.putF (i := 11) rfl [0] [0] rfl rfl rfl rfl)
       ·intro L a w hv K Q hK
        have hs := hv
        refine wpOp_yes rfl rfl rfl hs (congrArg (fun b => some (Value.bool b)) hg10) (OpT_cnv rfl rfl rfl rfl (cnv_u32_u64 (n := s2.Len) Try.underlying30 Try.underlying29)) ?_
        rintro _ rfl a' w' hs'
        exact hK a' w' (hs'.putF (i := 12) rfl [0] [0] rfl rfl rfl rfl)
       ·intro L a w hv K Q hK
        have hs := hv
        refine wpOp_yes rfl rfl rfl hs (congrArg (fun b => some (Value.bool b)) hg10) (OpT_move rfl rfl rfl rfl) ?_
        rintro _ rfl a' w' hs'
        exact hK a' w' (hs'.putF (i := 13) rfl [0] [0] rfl rfl rfl rfl)
       ·intro L a w hL hv
        rw [allTrue hL] at hv
        have hs := hv
        refine (show TA _ _ _ 15 ⟨[(0, some (vl1)), (5, some (v2)), (6, some (vI i2)), (7, some (vU64 left2)), (8, some (vU64 at2)), (9, some (vI k1)), (78, some (vB (s1.At != at2))), (84, some (vU64 s2.Len.toUInt64)), (85, some (vU64 left2))], [some (rowS SegS v2 cut1)], [Fact.sl SegS vl1 l]⟩ from ?_) a w (hs.wkS [0, 5, 6, 7, 8, 9, 78, 84, 85] [0] [0] rfl rfl rfl rfl)
        clear hs hL
        refine TA_yes htb (by kernel_rfl) rfl rfl rfl (congrArg (fun b => some (Value.bool b)) hg10) (OpT_bin rfl rfl rfl rfl rfl (bin_gtr_u64 (a := s2.Len.toUInt64) (b := left2))) ?_
        rintro _ rfl
        refine TA_step htb (by kernel_rfl) rfl rfl (OpT_pickF rfl rfl rfl (congrArg (fun b => some (Value.bool b)) hg10) rfl) ?_
        refine TA_step htb (by kernel_rfl) rfl rfl (OpT_move rfl rfl rfl rfl) ?_
        refine TA_wkS (fr' := [(0, some (vl1)), (5, some (v2)), (6, some (vI i2)), (7, some (vU64 left2)), (8, some (vU64 at2)), (9, some (vI k1)), (88, some (vB (decide (s2.Len.toUInt64 > left2))))]) (own' := [some (rowS SegS v2 cut1)]) (shr' := [Fact.sl SegS vl1 l]) [0, 5, 6, 7, 8, 9, 88] [0] [0] rfl rfl rfl rfl ?_
        obtain ⟨hg11, h⟩ := chk_e h
        replace hg11 := not_t hg11
        obtain ⟨s3, hx8, h⟩ := ob_e h
        obtain ⟨s4, hx9, h⟩ := ob_e h
        refine TA_seg (lo := 18) (hi := 29) htb rfl rfl (by kernel_rfl) (fun c L a w => ∃ (p1 : Value), ∃ (p2 : Value), Sat c ⟨[(0, some (vl1)), (5, some (v2)), (6, some (vI i2)), (7, some (vU64 left2)), (8, some (vU64 at2)), (9, some (vI k1)), (88, some (vB (decide (s2.Len.toUInt64 > left2)))), (89, bif L 18 then some (v2) else none), (90, bif L 19 then some (vI k1) else none), (91, bif L 20 then some (rowPtr v2 (Int.toNat k1 * 3)) else none), (92, bif L 21 then some (rowPtr v2 (Int.toNat k1 * 3 + 2)) else none), (93, bif L 22 then some (vB s3.Write) else none), (94, bif L 23 then some (vl1) else none), (95, bif L 24 then some (vI i2) else none), (96, bif L 25 then some (vI (wi (i2 - (1 : Int)))) else none), (97, bif L 26 then some (p1) else none), (98, bif L 27 then some (p2) else none), (99, bif L 28 then some (vB s4.Write) else none)], [(some (rowS SegS v2 cut1) : Option Res)], [Fact.sl SegS vl1 l, (bif L 26 then Fact.pt SegS p1 s4 else Fact.tt), (bif L 27 then Fact.pt bS p2 s4.Write else Fact.tt)]⟩ a w) [([], [20, 21, 22]), ([], [20, 21, 22]), ([18, 19], [21, 22]), ([18, 19, 20], [22]), ([18, 19, 20, 21], []), ([], [26, 27, 28]), ([], [25, 26, 27, 28]), ([24], [26, 27, 28]), ([23, 24, 25], [27, 28]), ([23, 24, 25, 26], [28]), ([23, 24, 25, 26, 27], [])] rfl (by kernel_rfl) ?_ (steps_cons ?_ (steps_cons ?_ (steps_cons ?_ (steps_cons ?_ (steps_cons ?_ (steps_cons ?_ (steps_cons ?_ (steps_cons ?_ (steps_cons ?_ (steps_cons ?_ (steps_cons ?_ (steps_nil)))))))))))) ?_
        ·intro a w hs
         exact ⟨undef, undef, hs.startF [89, 90, 91, 92, 93, 94, 95, 96, 97, 98, 99] [0] [0, 1, 2] rfl rfl rfl rfl⟩
        ·intro L a w hv K Q hK
         obtain ⟨p1, p2, hs⟩ := hv
         refine wpOp_yes rfl rfl rfl hs (congrArg (fun b => some (Value.bool b)) hg11) (OpT_move rfl rfl rfl rfl) ?_
         rintro _ rfl a' w' hs'
         exact hK a' w' ⟨p1, p2, hs'.putF (i := 7) rfl [0] [0, 1, 2] rfl rfl rfl rfl⟩
        ·intro L a w hv K Q hK
         obtain ⟨p1, p2, hs⟩ := hv
         refine wpOp_yes rfl rfl rfl hs (congrArg (fun b => some (Value.bool b)) hg11) (OpT_move rfl rfl rfl rfl) ?_
         rintro _ rfl a' w' hs'
         exact hK a' w' ⟨p1, p2, hs'.putF (i := 8) rfl [0] [0, 1, 2] rfl rfl rfl rfl⟩
        ·intro L a w hv K Q hK
         obtain ⟨p1, p2, hs⟩ := hv
         refine wpOp_yes rfl rfl rfl hs (congrArg (fun b => some (Value.bool b)) hg11) (OpT_idxO rfl rfl rfl rfl rfl slF22 (i := 0) rfl hx8) ?_
         rintro _ rfl a' w' hs'
         exact hK a' w' ⟨p1, p2, hs'.putF (i := 9) rfl [0] [0, 1, 2] rfl rfl rfl rfl⟩
        ·intro L a w hv K Q hK
         obtain ⟨p1, p2, hs⟩ := hv
         refine wpOp_yes rfl rfl rfl hs (congrArg (fun b => some (Value.bool b)) hg11) (OpT_fieldR (S := SegS) rfl rfl rfl rfl fldF32x2 (i := 0) rfl hx8) ?_
         rintro _ rfl a' w' hs'
         exact hK a' w' ⟨p1, p2, hs'.putF (i := 10) rfl [0] [0, 1, 2] rfl rfl rfl rfl⟩
        ·intro L a w hv K Q hK
         obtain ⟨p1, p2, hs⟩ := hv
         refine wpOp_yes rfl rfl rfl hs (congrArg (fun b => some (Value.bool b)) hg11) (OpT_loadOF (S := SegS) rfl rfl rfl rfl rfl tyF4 (i := 0) rfl hx8 rfl rfl) ?_
         rintro _ rfl a' w' hs'
         exact hK a' w' ⟨p1, p2, hs'.putF (i := 11) rfl [0] [0, 1, 2] rfl rfl rfl rfl⟩
        ·intro L a w hv K Q hK
         obtain ⟨p1, p2, hs⟩ := hv
         refine wpOp_yes rfl rfl rfl hs (congrArg (fun b => some (Value.bool b)) hg11) (OpT_move rfl rfl rfl rfl) ?_
         rintro _ rfl a' w' hs'
         exact hK a' w' ⟨p1, p2, hs'.putF (i := 12) rfl [0] [0, 1, 2] rfl rfl rfl rfl⟩
        ·intro L a w hv K Q hK
         obtain ⟨p1, p2, hs⟩ := hv
         refine wpOp_yes rfl rfl rfl hs (congrArg (fun b => some (Value.bool b)) hg11) (OpT_move rfl rfl rfl rfl) ?_
         rintro _ rfl a' w' hs'
         exact hK a' w' ⟨p1, p2, hs'.putF (i := 13) rfl [0] [0, 1, 2] rfl rfl rfl rfl⟩
        ·intro L a w hv K Q hK
         obtain ⟨p1, p2, hs⟩ := hv
         refine wpOp_yes rfl rfl rfl hs (congrArg (fun b => some (Value.bool b)) hg11) (OpT_bin rfl rfl rfl rfl rfl (bin_sub_i (a := i2) (b := (1 : Int)))) ?_
         rintro _ rfl a' w' hs'
         exact hK a' w' ⟨p1, p2, hs'.putF (i := 14) rfl [0] [0, 1, 2] rfl rfl rfl rfl⟩
        ·intro L a w hv K Q hK
         obtain ⟨p1, p2, hs⟩ := hv
         refine wpOp_yes rfl rfl rfl hs (congrArg (fun b => some (Value.bool b)) hg11) (OpT_idxS rfl rfl rfl rfl rfl slF22 (i := 0) rfl hx9) ?_
         rintro _ ⟨p1', rfl⟩ a' w' hs'
         exact hK a' w' ⟨p1', p2, hs'.putF (i := 15) rfl [0] [0, 3, 2] rfl rfl rfl rfl⟩
        ·intro L a w hv K Q hK
         obtain ⟨p1, p2, hs⟩ := hv
         refine wpOp_yes rfl rfl rfl hs (congrArg (fun b => some (Value.bool b)) hg11) (OpT_fieldP (S' := bS) (y := s4.Write) rfl rfl rfl rfl fldF32x2 (i := 1) rfl (by intro h cs hr; subst hr; rfl)) ?_
         rintro _ ⟨p2', rfl⟩ a' w' hs'
         exact hK a' w' ⟨p1, p2', hs'.putF (i := 16) rfl [0] [0, 1, 3] rfl rfl rfl rfl⟩
        ·intro L a w hv K Q hK
         obtain ⟨p1, p2, hs⟩ := hv
         refine wpOp_yes rfl rfl rfl hs (congrArg (fun b => some (Value.bool b)) hg11) (OpT_loadP rfl rfl rfl rfl tyF4 (i := 2) rfl rfl) ?_
         rintro _ rfl a' w' hs'
         exact hK a' w' ⟨p1, p2, hs'.putF (i := 17) rfl [0] [0, 1, 2] rfl rfl rfl rfl⟩
        ·intro L a w hL hv
         rw [allTrue hL] at hv
         obtain ⟨p1, p2, hs⟩ := hv
         refine (show TA _ _ _ 29 ⟨[(0, some (vl1)), (5, some (v2)), (6, some (vI i2)), (7, some (vU64 left2)), (8, some (vU64 at2)), (9, some (vI k1)), (88, some (vB (decide (s2.Len.toUInt64 > left2)))), (93, some (vB s3.Write)), (99, some (vB s4.Write))], [some (rowS SegS v2 cut1)], [Fact.sl SegS vl1 l]⟩ from ?_) a w (hs.wkS [0, 5, 6, 7, 8, 9, 88, 93, 99] [0] [0] rfl rfl rfl rfl)
         clear hs hL
         refine TA_yes htb (by kernel_rfl) rfl rfl rfl (congrArg (fun b => some (Value.bool b)) hg11) (OpT_bin rfl rfl rfl rfl rfl (bin_neq_b (a := s3.Write) (b := s4.Write) Try.underlying4)) ?_
         rintro _ rfl
         refine TA_step htb (by kernel_rfl) rfl rfl (OpT_pickF rfl rfl rfl (congrArg (fun b => some (Value.bool b)) hg11) rfl) ?_
         refine TA_end rfl ?_
         refine Tk_wkS (fr' := [(0, some (vl1)), (5, some (v2)), (6, some (vI i2)), (7, some (vU64 left2)), (8, some (vU64 at2)), (9, some (vI k1)), (101, some (vB (s3.Write != s4.Write)))]) (own' := [some (rowS SegS v2 cut1)]) (shr' := [Fact.sl SegS vl1 l]) [0, 5, 6, 7, 8, 9, 101] [0] [0] rfl rfl rfl rfl ?_
         obtain ⟨hg12, h⟩ := chk_e h
         replace hg12 := not_t hg12
         refine Tk_condF (congrArg (fun b => some (Value.bool b)) hg12) ?_
         refine Tk_skip (Tk_drawT (by kernel_rfl) ?_)
         refine TA_tb [0, 0, 0, 6, 14, 30, 62, 127, 0, 0, 0, 1536, 3584, 7680, 15872, 32512, 255, 131071] (by kernel_rfl) fun htb => ?_
         refine TA_wkS (fr' := [(0, some (vl1)), (5, some (v2)), (6, some (vI i2)), (7, some (vU64 left2)), (8, some (vU64 at2)), (9, some (vI k1))]) (own' := [some (rowS SegS v2 cut1)]) (shr' := [Fact.sl SegS vl1 l]) [0, 5, 6, 7, 8, 9] [0] [0] rfl rfl rfl rfl ?_
         obtain ⟨s5, hx10, h⟩ := ob_e h
         obtain ⟨s6, hx11, h⟩ := ob_e h
         refine TA_seg (lo := 0) (hi := 17) htb rfl rfl (by kernel_rfl) (fun c L a w => Sat c ⟨[(0, some (vl1)), (5, some (v2)), (6, some (vI i2)), (7, bif L 16 then some (vU64 (left2 - s5.Len.toUInt64)) else some (vU64 left2)), (8, some (vU64 at2)), (9, some (vI k1)), (102, bif L 0 then some (vU64 left2) else none), (103, bif L 1 then some (v2) else none), (104, bif L 2 then some (vI k1) else none), (105, bif L 3 then some (rowPtr v2 (Int.toNat k1 * 3)) else none), (106, bif L 4 then some (rowPtr v2 (Int.toNat k1 * 3 + 1)) else none), (107, bif L 5 then some (vU32 s5.Len) else none), (108, bif L 6 then some (vU64 s5.Len.toUInt64) else none), (109, bif L 7 then some (vU64 (left2 - s5.Len.toUInt64)) else none), (110, bif L 8 then some (vU64 at2) else none), (111, bif L 9 then some (v2) else none), (112, bif L 10 then some (vI k1) else none), (113, bif L 11 then some (rowPtr v2 (Int.toNat k1 * 3)) else none), (114, bif L 12 then some (rowPtr v2 (Int.toNat k1 * 3 + 1)) else none), (115, bif L 13 then some (vU32 s6.Len) else none), (116, bif L 14 then some (vU64 s6.Len.toUInt64) else none), (117, bif L 15 then some (vU64 (at2 + s6.Len.toUInt64)) else none)], [(some (rowS SegS v2 cut1) : Option Res)], [Fact.sl SegS vl1 l]⟩ a w) [([], [7, 16]), ([], [3, 4, 5, 6, 7, 16]), ([], [3, 4, 5, 6, 7, 16]), ([1, 2], [4, 5, 6, 7, 16]), ([1, 2, 3], [5, 6, 7, 16]), ([1, 2, 3, 4], [6, 7, 16]), ([1, 2, 3, 4, 5], [7, 16]), ([0, 1, 2, 3, 4, 5, 6], [16]), ([], [15]), ([], [11, 12, 13, 14, 15]), ([], [11, 12, 13, 14, 15]), ([9, 10], [12, 13, 14, 15]), ([9, 10, 11], [13, 14, 15]), ([9, 10, 11, 12], [14, 15]), ([9, 10, 11, 12, 13], [15]), ([8, 9, 10, 11, 12, 13, 14], []), ([0, 1, 2, 3, 4, 5, 6, 7], [])] rfl (by kernel_rfl) ?_ (steps_cons ?_ (steps_cons ?_ (steps_cons ?_ (steps_cons ?_ (steps_cons ?_ (steps_cons ?_ (steps_cons ?_ (steps_cons ?_ (steps_cons ?_ (steps_cons ?_ (steps_cons ?_ (steps_cons ?_ (steps_cons ?_ (steps_cons ?_ (steps_cons ?_ (steps_cons ?_ (steps_cons ?_ (steps_nil)))))))))))))))))) ?_
         ·intro a w hs
          exact hs.startF [102, 103, 104, 105, 106, 107, 108, 109, 110, 111, 112, 113, 114, 115, 116, 117] [0] [0] rfl rfl rfl rfl
         ·intro L a w hv K Q hK
          have hs := hv
          refine wpOp_go rfl rfl hs (OpT_move rfl rfl rfl rfl) ?_
          rintro _ rfl a' w' hs'
          exact hK a' w' (hs'.putF (i := 6) rfl [0] [0] rfl rfl rfl rfl)
         ·intro L a w hv K Q hK
          have hs := hv
          refine wpOp_go rfl rfl hs (OpT_move rfl rfl rfl rfl) ?_
          rintro _ rfl a' w' hs'
          exact hK a' w' (hs'.putF (i := 7) rfl [0] [0] rfl rfl rfl rfl)
         ·intro L a w hv K Q hK
          have hs := hv
          refine wpOp_go rfl rfl hs (OpT_move rfl rfl rfl rfl) ?_
          rintro _ rfl a' w' hs'
          exact hK a' w' (hs'.putF (i := 8) rfl [0] [0] rfl rfl rfl rfl)
         ·intro L a w hv K Q hK
          have hs := hv
          refine wpOp_go rfl rfl hs (OpT_idxO rfl rfl rfl rfl rfl slF22 (i := 0) rfl hx10) ?_
          rintro _ rfl a' w' hs'
          exact hK a' w' (hs'.putF (i := 9) rfl [0] [0] rfl rfl rfl rfl)
         ·intro L a w hv K Q hK
          have hs := hv
          refine wpOp_go rfl rfl hs (OpT_fieldR (S := SegS) rfl rfl rfl rfl fldF32x1 (i := 0) rfl hx10) ?_
          rintro _ rfl a' w' hs'
          exact hK a' w' (hs'.putF (i := 10) rfl [0] [0] rfl rfl rfl rfl)
         ·intro L a w hv K Q hK
          have hs := hv
          refine wpOp_go rfl rfl hs (OpT_loadOF (S := SegS) rfl rfl rfl rfl rfl tyF30 (i := 0) rfl hx10 rfl rfl) ?_
          rintro _ rfl a' w' hs'
          exact hK a' w' (hs'.putF (i := 11) rfl [0] [0] rfl rfl rfl rfl)
         ·intro L a w hv K Q hK
          have hs := hv
          refine wpOp_go rfl rfl hs (OpT_cnv rfl rfl rfl rfl (cnv_u32_u64 (n := s5.Len) Try.underlying30 Try.underlying29)) ?_
          rintro _ rfl a' w' hs'
          exact hK a' w' (hs'.putF (i := 12) rfl [0] [0] rfl rfl rfl rfl)
         ·intro L a w hv K Q hK
          have hs := hv
          refine wpOp_go rfl rfl hs (OpT_bin rfl rfl rfl rfl rfl (bin_sub_u64 (a := left2) (b := s5.Len.toUInt64))) ?_
          rintro _ rfl a' w' hs'
          exact hK a' w' (hs'.putF (i := 13) rfl [0] [0] rfl rfl rfl rfl)
         ·intro L a w hv K Q hK
          have hs := hv
          refine wpOp_go rfl rfl hs (OpT_move rfl rfl rfl rfl) ?_
          rintro _ rfl a' w' hs'
          exact hK a' w' (hs'.putF (i := 14) rfl [0] [0] rfl rfl rfl rfl)
         ·intro L a w hv K Q hK
          have hs := hv
          refine wpOp_go rfl rfl hs (OpT_move rfl rfl rfl rfl) ?_
          rintro _ rfl a' w' hs'
          exact hK a' w' (hs'.putF (i := 15) rfl [0] [0] rfl rfl rfl rfl)
         ·intro L a w hv K Q hK
          have hs := hv
          refine wpOp_go rfl rfl hs (OpT_move rfl rfl rfl rfl) ?_
          rintro _ rfl a' w' hs'
          exact hK a' w' (hs'.putF (i := 16) rfl [0] [0] rfl rfl rfl rfl)
         ·intro L a w hv K Q hK
          have hs := hv
          refine wpOp_go rfl rfl hs (OpT_idxO rfl rfl rfl rfl rfl slF22 (i := 0) rfl hx11) ?_
          rintro _ rfl a' w' hs'
          exact hK a' w' (hs'.putF (i := 17) rfl [0] [0] rfl rfl rfl rfl)
         ·intro L a w hv K Q hK
          have hs := hv
          refine wpOp_go rfl rfl hs (OpT_fieldR (S := SegS) rfl rfl rfl rfl fldF32x1 (i := 0) rfl hx11) ?_
          rintro _ rfl a' w' hs'
          exact hK a' w' (hs'.putF (i := 18) rfl [0] [0] rfl rfl rfl rfl)
         ·intro L a w hv K Q hK
          have hs := hv
          refine wpOp_go rfl rfl hs (OpT_loadOF (S := SegS) rfl rfl rfl rfl rfl tyF30 (i := 0) rfl hx11 rfl rfl) ?_
          rintro _ rfl a' w' hs'
          exact hK a' w' (hs'.putF (i := 19) rfl [0] [0] rfl rfl rfl rfl)
         ·intro L a w hv K Q hK
          have hs := hv
          refine wpOp_go rfl rfl hs (OpT_cnv rfl rfl rfl rfl (cnv_u32_u64 (n := s6.Len) Try.underlying30 Try.underlying29)) ?_
          rintro _ rfl a' w' hs'
          exact hK a' w' (hs'.putF (i := 20) rfl [0] [0] rfl rfl rfl rfl)
         ·intro L a w hv K Q hK
          have hs := hv
          refine wpOp_go rfl rfl hs (OpT_bin rfl rfl rfl rfl rfl (bin_add_u64 (a := at2) (b := s6.Len.toUInt64))) ?_
          rintro _ rfl a' w' hs'
          exact hK a' w' (hs'.putF (i := 21) rfl [0] [0] rfl rfl rfl rfl)
         ·intro L a w hv K Q hK
          have hs := hv
          refine wpOp_go rfl rfl hs (OpT_assign rfl rfl rfl rfl) ?_
          rintro _ rfl a' w' hs'
          exact hK a' w' (hs'.putF (i := 3) rfl [0] [0] rfl rfl rfl rfl)
         ·intro L a w hL hv
          rw [allTrue hL] at hv
          have hs := hv
          refine (show TA _ _ _ 17 ⟨[(0, some (vl1)), (5, some (v2)), (6, some (vI i2)), (7, some (vU64 (left2 - s5.Len.toUInt64))), (9, some (vI k1)), (117, some (vU64 (at2 + s6.Len.toUInt64)))], [some (rowS SegS v2 cut1)], [Fact.sl SegS vl1 l]⟩ from ?_) a w (hs.wkS [0, 5, 6, 7, 9, 117] [0] [0] rfl rfl rfl rfl)
          clear hs hL
          refine TA_step htb (by kernel_rfl) rfl rfl (OpT_assign rfl rfl rfl rfl) ?_
          refine TA_end rfl ?_
          refine Tk_wkS (fr' := [(0, some (vl1)), (5, some (v2)), (6, some (vI i2)), (7, some (vU64 (left2 - s5.Len.toUInt64))), (9, some (vI k1)), (8, some (vU64 (at2 + s6.Len.toUInt64)))]) (own' := [some (rowS SegS v2 cut1)]) (shr' := [Fact.sl SegS vl1 l]) [0, 5, 6, 7, 9, 8] [0] [0] rfl rfl rfl rfl ?_
          refine Tk_blk (Tk_region (Tops_step rfl (OpT_move rfl rfl rfl rfl) ?_))
          refine Tops_step rfl (OpT_bin rfl rfl rfl rfl rfl (bin_add_i (a := k1) (b := (1 : Int)))) ?_
          refine Tops_step rfl (OpT_assign rfl rfl rfl rfl) ?_
          refine Tops_nil (Tk_wkS (fr' := [(0, some (vl1)), (5, some (v2)), (6, some (vI i2)), (7, some (vU64 (left2 - s5.Len.toUInt64))), (9, some (vI (wi (k1 + (1 : Int))))), (8, some (vU64 (at2 + s6.Len.toUInt64)))]) (own' := [some (rowS SegS v2 cut1)]) (shr' := [Fact.sl SegS vl1 l]) [0, 5, 6, 7, 9, 8] [0] [0] rfl rfl rfl rfl ?_)
          exact Tk_backS (i2, left2 - s5.Len.toUInt64, at2 + s6.Len.toUInt64, wi (k1 + (1 : Int))) h [0, 5, 6, 7, 8, 9] [0] [0] rfl rfl rfl rfl rfl
     ·intro HJ1
      rcases Bool.eq_false_or_eq_true (left1 == (0 : UInt64)) with hg13 | hg13
      ·replace h := br_t hg13 h
       refine Tk_condT (congrArg (fun b => some (Value.bool b)) hg13) ?_
       refine Tk_seq (Tk_seq (Tk_region (Tops_step rfl (OpT_move rfl rfl rfl rfl) ?_)))
       refine Tops_step rfl (OpT_move rfl rfl rfl rfl) ?_
       refine Tops_step rfl (OpT_lenS rfl rfl rfl rfl Try.underlying22 (i := 0) rfl) ?_
       refine Tops_step rfl (OpT_bin rfl rfl rfl rfl rfl (bin_geq_i (a := i1) (b := len l))) ?_
       refine Tops_nil (Tk_wkS (fr' := [(0, some (vl1)), (5, some (v2)), (6, some (vI i1)), (9, some (vI k1)), (57, some (vB (decide (i1 ≥ (len l)))))]) (own' := [some (rowS SegS v2 cut1)]) (shr' := [Fact.sl SegS vl1 l]) [0, 5, 6, 9, 57] [0] [0] rfl rfl rfl rfl ?_)
       obtain ⟨hg14, h⟩ := chk_e h
       replace hg14 := not_t hg14
       refine Tk_condF (congrArg (fun b => some (Value.bool b)) hg14) ?_
       refine Tk_skip (Tk_seq (Tk_drawT (by kernel_rfl) ?_))
       refine TA_tb [0, 0, 3, 7, 15, 31, 0, 0, 192, 448, 960, 63, 4095] (by kernel_rfl) fun htb => ?_
       refine TA_wkS (fr' := [(0, some (vl1)), (5, some (v2)), (6, some (vI i1)), (9, some (vI k1))]) (own' := [some (rowS SegS v2 cut1)]) (shr' := [Fact.sl SegS vl1 l]) [0, 5, 6, 9] [0] [0] rfl rfl rfl rfl ?_
       obtain ⟨s7, hx12, h⟩ := ob_e h
       obtain ⟨s8, hx13, h⟩ := ob_e h
       refine TA_seg (lo := 0) (hi := 12) htb rfl rfl (by kernel_rfl) (fun c L a w => ∃ (p3 : Value), ∃ (p4 : Value), ∃ (p5 : Value), ∃ (p6 : Value), Sat c ⟨[(0, some (vl1)), (5, some (v2)), (6, some (vI i1)), (9, some (vI k1)), (58, bif L 0 then some (vl1) else none), (59, bif L 1 then some (vI i1) else none), (60, bif L 2 then some (p3) else none), (61, bif L 3 then some (p4) else none), (62, bif L 4 then some (vU32 s7.Len) else none), (63, bif L 5 then some (vU64 s7.Len.toUInt64) else none), (64, bif L 6 then some (vl1) else none), (65, bif L 7 then some (vI i1) else none), (66, bif L 8 then some (p5) else none), (67, bif L 9 then some (p6) else none), (68, bif L 10 then some (vU64 s8.At) else none), (7, bif L 11 then some (vU64 s7.Len.toUInt64) else none)], [(some (rowS SegS v2 cut1) : Option Res)], [Fact.sl SegS vl1 l, (bif L 2 then Fact.pt SegS p3 s7 else Fact.tt), (bif L 3 then Fact.pt u32S p4 s7.Len else Fact.tt), (bif L 8 then Fact.pt SegS p5 s8 else Fact.tt), (bif L 9 then Fact.pt u64S p6 s8.At else Fact.tt)]⟩ a w) [([], [2, 3, 4, 5, 11]), ([], [2, 3, 4, 5, 11]), ([0, 1], [3, 4, 5, 11]), ([0, 1, 2], [4, 5, 11]), ([0, 1, 2, 3], [5, 11]), ([0, 1, 2, 3, 4], [11]), ([], [8, 9, 10]), ([], [8, 9, 10]), ([6, 7], [9, 10]), ([6, 7, 8], [10]), ([6, 7, 8, 9], []), ([0, 1, 2, 3, 4, 5], [])] rfl (by kernel_rfl) ?_ (steps_cons ?_ (steps_cons ?_ (steps_cons ?_ (steps_cons ?_ (steps_cons ?_ (steps_cons ?_ (steps_cons ?_ (steps_cons ?_ (steps_cons ?_ (steps_cons ?_ (steps_cons ?_ (steps_cons ?_ (steps_nil))))))))))))) ?_
       ·intro a w hs
        exact ⟨undef, undef, undef, undef, hs.startF [58, 59, 60, 61, 62, 63, 64, 65, 66, 67, 68, 7] [0] [0, 1, 2, 3, 4] rfl rfl rfl rfl⟩
       ·intro L a w hv K Q hK
        obtain ⟨p3, p4, p5, p6, hs⟩ := hv
        refine wpOp_go rfl rfl hs (OpT_move rfl rfl rfl rfl) ?_
        rintro _ rfl a' w' hs'
        exact hK a' w' ⟨p3, p4, p5, p6, hs'.putF (i := 4) rfl [0] [0, 1, 2, 3, 4] rfl rfl rfl rfl⟩
       ·intro L a w hv K Q hK
        obtain ⟨p3, p4, p5, p6, hs⟩ := hv
        refine wpOp_go rfl rfl hs (OpT_move rfl rfl rfl rfl) ?_
        rintro _ rfl a' w' hs'
        exact hK a' w' ⟨p3, p4, p5, p6, hs'.putF (i := 5) rfl [0] [0, 1, 2, 3, 4] rfl rfl rfl rfl⟩
       ·intro L a w hv K Q hK
        obtain ⟨p3, p4, p5, p6, hs⟩ := hv
        refine wpOp_go rfl rfl hs (OpT_idxS rfl rfl rfl rfl rfl slF22 (i := 0) rfl hx12) ?_
        rintro _ ⟨p3', rfl⟩ a' w' hs'
        exact hK a' w' ⟨p3', p4, p5, p6, hs'.putF (i := 6) rfl [0] [0, 5, 2, 3, 4] rfl rfl rfl rfl⟩
       ·intro L a w hv K Q hK
        obtain ⟨p3, p4, p5, p6, hs⟩ := hv
        refine wpOp_go rfl rfl hs (OpT_fieldP (S' := u32S) (y := s7.Len) rfl rfl rfl rfl fldF32x1 (i := 1) rfl (by intro h cs hr; subst hr; rfl)) ?_
        rintro _ ⟨p4', rfl⟩ a' w' hs'
        exact hK a' w' ⟨p3, p4', p5, p6, hs'.putF (i := 7) rfl [0] [0, 1, 5, 3, 4] rfl rfl rfl rfl⟩
       ·intro L a w hv K Q hK
        obtain ⟨p3, p4, p5, p6, hs⟩ := hv
        refine wpOp_go rfl rfl hs (OpT_loadP rfl rfl rfl rfl tyF30 (i := 2) rfl rfl) ?_
        rintro _ rfl a' w' hs'
        exact hK a' w' ⟨p3, p4, p5, p6, hs'.putF (i := 8) rfl [0] [0, 1, 2, 3, 4] rfl rfl rfl rfl⟩
       ·intro L a w hv K Q hK
        obtain ⟨p3, p4, p5, p6, hs⟩ := hv
        refine wpOp_go rfl rfl hs (OpT_cnv rfl rfl rfl rfl (cnv_u32_u64 (n := s7.Len) Try.underlying30 Try.underlying29)) ?_
        rintro _ rfl a' w' hs'
        exact hK a' w' ⟨p3, p4, p5, p6, hs'.putF (i := 9) rfl [0] [0, 1, 2, 3, 4] rfl rfl rfl rfl⟩
       ·intro L a w hv K Q hK
        obtain ⟨p3, p4, p5, p6, hs⟩ := hv
        refine wpOp_go rfl rfl hs (OpT_move rfl rfl rfl rfl) ?_
        rintro _ rfl a' w' hs'
        exact hK a' w' ⟨p3, p4, p5, p6, hs'.putF (i := 10) rfl [0] [0, 1, 2, 3, 4] rfl rfl rfl rfl⟩
       ·intro L a w hv K Q hK
        obtain ⟨p3, p4, p5, p6, hs⟩ := hv
        refine wpOp_go rfl rfl hs (OpT_move rfl rfl rfl rfl) ?_
        rintro _ rfl a' w' hs'
        exact hK a' w' ⟨p3, p4, p5, p6, hs'.putF (i := 11) rfl [0] [0, 1, 2, 3, 4] rfl rfl rfl rfl⟩
       ·intro L a w hv K Q hK
        obtain ⟨p3, p4, p5, p6, hs⟩ := hv
        refine wpOp_go rfl rfl hs (OpT_idxS rfl rfl rfl rfl rfl slF22 (i := 0) rfl hx13) ?_
        rintro _ ⟨p5', rfl⟩ a' w' hs'
        exact hK a' w' ⟨p3, p4, p5', p6, hs'.putF (i := 12) rfl [0] [0, 1, 2, 5, 4] rfl rfl rfl rfl⟩
       ·intro L a w hv K Q hK
        obtain ⟨p3, p4, p5, p6, hs⟩ := hv
        refine wpOp_go rfl rfl hs (OpT_fieldP (S' := u64S) (y := s8.At) rfl rfl rfl rfl fldF32x0 (i := 3) rfl (by intro h cs hr; subst hr; rfl)) ?_
        rintro _ ⟨p6', rfl⟩ a' w' hs'
        exact hK a' w' ⟨p3, p4, p5, p6', hs'.putF (i := 13) rfl [0] [0, 1, 2, 3, 5] rfl rfl rfl rfl⟩
       ·intro L a w hv K Q hK
        obtain ⟨p3, p4, p5, p6, hs⟩ := hv
        refine wpOp_go rfl rfl hs (OpT_loadP rfl rfl rfl rfl tyF29 (i := 4) rfl rfl) ?_
        rintro _ rfl a' w' hs'
        exact hK a' w' ⟨p3, p4, p5, p6, hs'.putF (i := 14) rfl [0] [0, 1, 2, 3, 4] rfl rfl rfl rfl⟩
       ·intro L a w hv K Q hK
        obtain ⟨p3, p4, p5, p6, hs⟩ := hv
        refine wpOp_go rfl rfl hs (OpT_assign rfl rfl rfl rfl) ?_
        rintro _ rfl a' w' hs'
        exact hK a' w' ⟨p3, p4, p5, p6, hs'.putF (i := 15) rfl [0] [0, 1, 2, 3, 4] rfl rfl rfl rfl⟩
       ·intro L a w hL hv
        rw [allTrue hL] at hv
        obtain ⟨p3, p4, p5, p6, hs⟩ := hv
        refine (show TA _ _ _ 12 ⟨[(0, some (vl1)), (5, some (v2)), (6, some (vI i1)), (9, some (vI k1)), (68, some (vU64 s8.At)), (7, some (vU64 s7.Len.toUInt64))], [some (rowS SegS v2 cut1)], [Fact.sl SegS vl1 l]⟩ from ?_) a w (hs.wkS [0, 5, 6, 9, 68, 7] [0] [0] rfl rfl rfl rfl)
        clear hs hL
        refine TA_step htb (by kernel_rfl) rfl rfl (OpT_assign rfl rfl rfl rfl) ?_
        refine TA_end rfl ?_
        refine Tk_wkS (fr' := [(0, some (vl1)), (5, some (v2)), (6, some (vI i1)), (9, some (vI k1)), (7, some (vU64 s7.Len.toUInt64)), (8, some (vU64 s8.At))]) (own' := [some (rowS SegS v2 cut1)]) (shr' := [Fact.sl SegS vl1 l]) [0, 5, 6, 9, 7, 8] [0] [0] rfl rfl rfl rfl ?_
        refine Tk_region (Tops_step rfl (OpT_move rfl rfl rfl rfl) ?_)
        refine Tops_step rfl (OpT_bin rfl rfl rfl rfl rfl (bin_add_i (a := i1) (b := (1 : Int)))) ?_
        refine Tops_step rfl (OpT_assign rfl rfl rfl rfl) ?_
        refine Tops_nil (Tk_wkS (fr' := [(0, some (vl1)), (5, some (v2)), (6, some (vI (wi (i1 + (1 : Int))))), (9, some (vI k1)), (7, some (vU64 s7.Len.toUInt64)), (8, some (vU64 s8.At))]) (own' := [some (rowS SegS v2 cut1)]) (shr' := [Fact.sl SegS vl1 l]) [0, 5, 6, 9, 7, 8] [0] [0] rfl rfl rfl rfl ?_)
        exact Tk_jmpS (HJ1 (wi (i1 + (1 : Int)), s7.Len.toUInt64, s8.At) h) [0, 5, 6, 7, 8, 9] [0] [0] rfl rfl rfl rfl
      ·replace h := br_f hg13 h
       refine Tk_condF (congrArg (fun b => some (Value.bool b)) hg13) ?_
       refine Tk_skip ?_
       exact Tk_jmpS (HJ1 (i1, left1, at1) h) [0, 5, 6, 7, 8, 9] [0] [0] rfl rfl rfl rfl
    ·replace h := br_f hg9 h
     refine Tk_condF (congrArg (fun b => some (Value.bool b)) hg9) ?_
     refine Tk_exit _ rfl ?_
     refine Tk_seq (Tk_region (Tops_step rfl (OpT_move rfl rfl rfl rfl) ?_))
     obtain ⟨segs2, hx14, h⟩ := ob_e h
     refine Tops_exP rfl (OpT_call (w_kit_Segs hx14) [] [0] rfl rfl rfl rfl rfl callee10 rfl rfl rfl rfl) ?_
     rintro _ ⟨v3, _, _, ⟨_, rfl, rfl, rfl⟩, rfl⟩
     refine Tops_ex rfl (OpT_buildSlice (S := iS) (xs := [(0 : Int), ((-5) : Int)]) (css := [[vI (0 : Int)], [vI ((-5) : Int)]]) (cs := [vI (0 : Int), vI ((-5) : Int)]) (e := 3) rfl rfl rfl rfl (bldF slF23 (by decide) (by kernel_rfl)) rfl rfl rfl rfl (rel_plainD (S := iS) (xs := [(0 : Int), ((-5) : Int)]) (css := [[vI (0 : Int)], [vI ((-5) : Int)]]) rfl rfl)) fun v4 => ?_
     obtain ⟨cut2, hx15, h⟩ := ob_e h
     refine Tops_exP rfl (OpT_callB [1, 2] [0, 1, 2, 3] (w_blkdrv_Cut hx15) [] rfl rfl rfl rfl rfl callee9 rfl rfl rfl rfl rfl rfl (bor_cons (bor_row 1 rfl rfl) (bor_cons (bor_row 2 rfl rfl) bor_nil)) (by rintro _ _ _ ⟨_, rfl, rfl, rfl⟩; exact ⟨rfl, (ri_cons (ri_row (S := SegS) rfl _ _) ri_nil)⟩)) ?_
     rintro _ ⟨v5, _, _, ⟨_, rfl, rfl, rfl⟩, rfl⟩
     refine Tops_step rfl (OpT_assign rfl rfl rfl rfl) ?_
     refine Tops_nil (Tk_wkS (fr' := [(0, some (vl1)), (6, some (vI i1)), (7, some (vU64 left1)), (10, some (v5))]) (own' := [some (rowS SegS v5 cut2)]) (shr' := [Fact.sl SegS vl1 l]) [0, 6, 7, 10] [3] [0] rfl rfl rfl rfl ?_)
     refine Tk_seq (Tk_region (Tops_step rfl (OpT_move rfl rfl rfl rfl) ?_))
     refine Tops_step rfl (OpT_bin rfl rfl rfl rfl rfl (bin_eql_u64 (a := left1) (b := (0 : UInt64)))) ?_
     refine Tops_step rfl (OpT_move rfl rfl rfl rfl) ?_
     obtain ⟨hg15, h⟩ := chk_e h
     refine Tops_yes rfl rfl (congrArg (fun b => some (Value.bool b)) hg15) (OpT_move rfl rfl rfl rfl) ?_
     rintro _ rfl
     refine Tops_yes rfl rfl (congrArg (fun b => some (Value.bool b)) hg15) (OpT_move rfl rfl rfl rfl) ?_
     rintro _ rfl
     refine Tops_yes rfl rfl (congrArg (fun b => some (Value.bool b)) hg15) (OpT_lenS rfl rfl rfl rfl Try.underlying22 (i := 0) rfl) ?_
     rintro _ rfl
     refine Tops_yes rfl rfl (congrArg (fun b => some (Value.bool b)) hg15) (OpT_bin rfl rfl rfl rfl rfl (bin_eql_i (a := i1) (b := len l))) ?_
     rintro _ rfl
     refine Tops_step rfl (OpT_pickT rfl rfl rfl (congrArg (fun b => some (Value.bool b)) hg15) rfl) ?_
     refine Tops_step rfl (OpT_move rfl rfl rfl rfl) ?_
     obtain ⟨hg16, h⟩ := chk_e h
     refine Tops_yes rfl rfl (congrArg (fun b => some (Value.bool b)) hg16) (OpT_move rfl rfl rfl rfl) ?_
     rintro _ rfl
     refine Tops_yes rfl rfl (congrArg (fun b => some (Value.bool b)) hg16) (OpT_move rfl rfl rfl rfl) ?_
     rintro _ rfl
     obtain ⟨samese1, hx16, h⟩ := ob_e h
     refine Tops_yes rfl rfl (congrArg (fun b => some (Value.bool b)) hg16) (OpT_callB [0] [0] (w_kit_SameSegs hx16) [] rfl rfl rfl rfl rfl callee12 rfl rfl rfl rfl rfl rfl (bor_cons (bor_row 0 rfl rfl) (bor_cons (bor_shr 0 rfl) bor_nil)) (by rintro _ _ _ ⟨rfl, rfl, rfl⟩; exact ⟨rfl, ri_nil⟩)) ?_
     rintro _ ⟨_, _, _, ⟨rfl, rfl, rfl⟩, rfl⟩
     refine Tops_step rfl (OpT_pickT rfl rfl rfl (congrArg (fun b => some (Value.bool b)) hg16) rfl) ?_
     refine Tops_step rfl (OpT_assign rfl rfl rfl rfl) ?_
     refine Tops_nil (Tk_wkS (fr' := [(4, some (vB samese1))]) (own' := []) (shr' := []) [4] [] [] rfl rfl rfl rfl ?_)
     obtain ⟨hg17, h⟩ := chk_e h
     exact Tk_retV rfl rfl (resA (vs := [.bool true]) rfl ⟨(congrArg (fun b => some (Value.bool b)) hg17), trivial⟩) [] [] rfl rfl rfl ⟨rfl, rfl, rfl⟩
end Go.Proofs.Ytkmjpgfbcklopaa
