/- The law BlkCuts is walked: it returns what its plain words say. No condition. -/
import Derived.Test.YtjfdamiilndgeaaWa4
namespace Go.Proofs.Ytjfdamiilndgeaa
attribute [local irreducible] sub

set_option maxRecDepth 100000 in
set_option maxHeartbeats 4000000 in
theorem w_law21zBlkCuts {rp0 : Req} {image : List UInt8} {feats : UInt64} {cuts : List Int} {vrp01 : Value} {vrp02 : Value} {vimage1 : Value} {vcuts1 : Value}  (h : law21zBlkCuts rp0 image feats cuts = some true) :
  Ctr Try.prog 6 #[.agg #[vU32 rp0.Type_, vU64 rp0.Sector, vrp01, vI rp0.Room, vrp02], vimage1, vU64 feats, vcuts1] [] [Fact.sl u8S vrp01 rp0.Data, Fact.sl RangeS vrp02 rp0.Ranges, Fact.sl u8S vimage1 image, Fact.sl iS vcuts1 cuts]
   (fun rv own shr => rv = .bool true ∧ own = [] ∧ shr = []) := by
 unfold law21zBlkCuts at h
 refine Ctr.mk (args := [.agg #[vU32 rp0.Type_, vU64 rp0.Sector, vrp01, vI rp0.Room, vrp02], vimage1, vU64 feats, vcuts1]) Try.func6 rfl rfl (fun R0 w0 B => ?_)
 refine Tk_seq (Tk_region (Tops_ex rfl (OpT_box rfl rfl rfl rfl) fun b1 => ?_))
 refine Tops_step rfl (OpT_assign rfl rfl rfl rfl) ?_
 refine Tops_nil (tZ [1, 2, 3, 4] [0] [0, 1, 2, 3] rfl rfl rfl rfl ?_)
 refine Tk_seq (Tk_seq (Tk_region ?_))
 obtain ⟨lives1, hx1, h⟩ := ob_e h
 refine Tops_exP rfl (OpT_call (w_law21zlives hx1) [] [] rfl rfl rfl rfl rfl callee11 rfl rfl rfl rfl) ?_
 rintro _ ⟨_, _, _, ⟨rfl, rfl, rfl⟩, rfl⟩
 refine Tops_step rfl (OpT_not rfl rfl rfl rfl) ?_
 refine Tops_nil (tZ [1, 2, 3, 4, 28] [0] [0, 1, 2, 3] rfl rfl rfl rfl ?_)
 obtain ⟨hg1, h⟩ := chk_e h
 replace hg1 := not_t hg1
 refine Tk_condF (congrArg (fun b => some (Value.bool b)) hg1) ?_
 refine Tk_skip (Tk_seq (Tk_seq (Tk_region (Tops_step rfl (OpT_loadCA (vs := [vU32 rp0.Type_, vU64 rp0.Sector, vrp01, vI rp0.Room, vrp02]) rfl rfl rfl rfl tyF35 (i := 0) rfl rfl rfl) ?_))))
 obtain ⟨lightr1, hx2, h⟩ := ob_e h
 refine Tops_exP rfl (OpT_call (w_kit_LightReq hx2) [] [0, 1] rfl rfl rfl rfl rfl callee12 rfl rfl rfl rfl) ?_
 rintro _ ⟨_, _, _, ⟨rfl, rfl, rfl⟩, rfl⟩
 refine Tops_step rfl (OpT_not rfl rfl rfl rfl) ?_
 refine Tops_step rfl (OpT_move rfl rfl rfl rfl) ?_
 rcases Bool.eq_false_or_eq_true ((!lightr1)) with hg2 | hg2
 ·replace h := br_t hg2 h
  refine Tops_no rfl rfl (congrArg (fun b => some (Value.bool b)) hg2) rfl rfl ?_
  refine Tops_no rfl rfl (congrArg (fun b => some (Value.bool b)) hg2) rfl rfl ?_
  refine Tops_no rfl rfl (congrArg (fun b => some (Value.bool b)) hg2) rfl rfl ?_
  refine Tops_step rfl (OpT_pickT rfl rfl rfl (congrArg (fun b => some (Value.bool b)) hg2) rfl) ?_
  refine Tops_step rfl (OpT_move rfl rfl rfl rfl) ?_
  refine Tops_no rfl rfl rfl rfl rfl ?_
  refine Tops_no rfl rfl rfl rfl rfl ?_
  refine Tops_no rfl rfl rfl rfl rfl ?_
  refine Tops_step rfl (OpT_pickT rfl rfl rfl rfl rfl) ?_
  refine Tops_step rfl (OpT_move rfl rfl rfl rfl) ?_
  refine Tops_no rfl rfl rfl rfl rfl ?_
  refine Tops_no rfl rfl rfl rfl rfl ?_
  refine Tops_no rfl rfl rfl rfl rfl ?_
  refine Tops_step rfl (OpT_pickT rfl rfl rfl rfl rfl) ?_
  refine Tops_nil (tZ [1, 2, 3, 4, 46] [0] [0, 1, 2, 3] rfl rfl rfl rfl ?_)
  refine Tk_condT rfl ?_
  refine Tk_seq (Tk_region (Tops_step rfl (OpT_assign rfl rfl rfl rfl) ?_))
  refine Tops_nil (tZ [8] [] [] rfl rfl rfl rfl ?_)
  exact Tk_retV rfl rfl (resA (vs := [.bool true]) rfl ⟨rfl, trivial⟩) [] [] rfl rfl rfl ⟨rfl, rfl, rfl⟩
 ·replace h := br_f hg2 h
  refine Tops_yes rfl rfl (congrArg (fun b => some (Value.bool b)) hg2) (OpT_move rfl rfl rfl rfl) ?_
  rintro _ rfl
  refine Tops_yes rfl rfl (congrArg (fun b => some (Value.bool b)) hg2) (OpT_lenS rfl rfl rfl rfl Try.underlying26 (i := 2) rfl) ?_
  rintro _ rfl
  refine Tops_yes rfl rfl (congrArg (fun b => some (Value.bool b)) hg2) (OpT_bin rfl rfl rfl rfl rfl (bin_gtr_i (a := len image) (b := (6000 : Int)))) ?_
  rintro _ rfl
  refine Tops_step rfl (OpT_pickF rfl rfl rfl (congrArg (fun b => some (Value.bool b)) hg2) rfl) ?_
  refine Tops_step rfl (OpT_move rfl rfl rfl rfl) ?_
  rcases Bool.eq_false_or_eq_true (decide ((len image) > (6000 : Int))) with hg3 | hg3
  ·replace h := br_t hg3 h
   refine Tops_no rfl rfl (congrArg (fun b => some (Value.bool b)) hg3) rfl rfl ?_
   refine Tops_no rfl rfl (congrArg (fun b => some (Value.bool b)) hg3) rfl rfl ?_
   refine Tops_no rfl rfl (congrArg (fun b => some (Value.bool b)) hg3) rfl rfl ?_
   refine Tops_step rfl (OpT_pickT rfl rfl rfl (congrArg (fun b => some (Value.bool b)) hg3) rfl) ?_
   refine Tops_step rfl (OpT_move rfl rfl rfl rfl) ?_
   refine Tops_no rfl rfl rfl rfl rfl ?_
   refine Tops_no rfl rfl rfl rfl rfl ?_
   refine Tops_no rfl rfl rfl rfl rfl ?_
   refine Tops_step rfl (OpT_pickT rfl rfl rfl rfl rfl) ?_
   refine Tops_nil (tZ [1, 2, 3, 4, 46] [0] [0, 1, 2, 3] rfl rfl rfl rfl ?_)
   refine Tk_condT rfl ?_
   refine Tk_seq (Tk_region (Tops_step rfl (OpT_assign rfl rfl rfl rfl) ?_))
   refine Tops_nil (tZ [8] [] [] rfl rfl rfl rfl ?_)
   exact Tk_retV rfl rfl (resA (vs := [.bool true]) rfl ⟨rfl, trivial⟩) [] [] rfl rfl rfl ⟨rfl, rfl, rfl⟩
  ·replace h := br_f hg3 h
   refine Tops_yes rfl rfl (congrArg (fun b => some (Value.bool b)) hg3) (OpT_move rfl rfl rfl rfl) ?_
   rintro _ rfl
   refine Tops_yes rfl rfl (congrArg (fun b => some (Value.bool b)) hg3) (OpT_lenS rfl rfl rfl rfl Try.underlying49 (i := 3) rfl) ?_
   rintro _ rfl
   refine Tops_yes rfl rfl (congrArg (fun b => some (Value.bool b)) hg3) (OpT_bin rfl rfl rfl rfl rfl (bin_gtr_i (a := len cuts) (b := (40 : Int)))) ?_
   rintro _ rfl
   refine Tops_step rfl (OpT_pickF rfl rfl rfl (congrArg (fun b => some (Value.bool b)) hg3) rfl) ?_
   refine Tops_step rfl (OpT_move rfl rfl rfl rfl) ?_
   rcases Bool.eq_false_or_eq_true (decide ((len cuts) > (40 : Int))) with hg4 | hg4
   ·replace h := br_t hg4 h
    refine Tops_no rfl rfl (congrArg (fun b => some (Value.bool b)) hg4) rfl rfl ?_
    refine Tops_no rfl rfl (congrArg (fun b => some (Value.bool b)) hg4) rfl rfl ?_
    refine Tops_no rfl rfl (congrArg (fun b => some (Value.bool b)) hg4) rfl rfl ?_
    refine Tops_step rfl (OpT_pickT rfl rfl rfl (congrArg (fun b => some (Value.bool b)) hg4) rfl) ?_
    refine Tops_nil (tZ [1, 2, 3, 4, 46] [0] [0, 1, 2, 3] rfl rfl rfl rfl ?_)
    refine Tk_condT rfl ?_
    refine Tk_seq (Tk_region (Tops_step rfl (OpT_assign rfl rfl rfl rfl) ?_))
    refine Tops_nil (tZ [8] [] [] rfl rfl rfl rfl ?_)
    exact Tk_retV rfl rfl (resA (vs := [.bool true]) rfl ⟨rfl, trivial⟩) [] [] rfl rfl rfl ⟨rfl, rfl, rfl⟩
   ·replace h := br_f hg4 h
    refine Tops_yes rfl rfl (congrArg (fun b => some (Value.bool b)) hg4) (OpT_loadCA (vs := [vU32 rp0.Type_, vU64 rp0.Sector, vrp01, vI rp0.Room, vrp02]) rfl rfl rfl rfl tyF35 (i := 0) rfl rfl rfl) ?_
    rintro _ rfl
    obtain ⟨check1, hx3, h⟩ := ob_e h
    refine Tops_yes rfl rfl (congrArg (fun b => some (Value.bool b)) hg4) (OpT_call (w_blk_Check hx3) [] [0, 1] rfl rfl rfl rfl rfl callee13 rfl rfl rfl rfl) ?_
    rintro _ ⟨_, _, _, ⟨rfl, rfl, rfl⟩, rfl⟩
    refine Tops_yes rfl rfl (congrArg (fun b => some (Value.bool b)) hg4) (OpT_bin rfl rfl rfl rfl rfl (bin_neq_i (a := check1) (b := (0 : Int)))) ?_
    rintro _ rfl
    refine Tops_step rfl (OpT_pickF rfl rfl rfl (congrArg (fun b => some (Value.bool b)) hg4) rfl) ?_
    refine Tops_nil (tZ [1, 2, 3, 4, 46] [0] [0, 1, 2, 3] rfl rfl rfl rfl ?_)
    rcases Bool.eq_false_or_eq_true (check1 != (0 : Int)) with hg5 | hg5
    ·replace h := br_t hg5 h
     refine Tk_condT (congrArg (fun b => some (Value.bool b)) hg5) ?_
     refine Tk_seq (Tk_region (Tops_step rfl (OpT_assign rfl rfl rfl rfl) ?_))
     refine Tops_nil (tZ [8] [] [] rfl rfl rfl rfl ?_)
     exact Tk_retV rfl rfl (resA (vs := [.bool true]) rfl ⟨rfl, trivial⟩) [] [] rfl rfl rfl ⟨rfl, rfl, rfl⟩
    ·replace h := br_f hg5 h
     refine Tk_condF (congrArg (fun b => some (Value.bool b)) hg5) ?_
     refine Tk_skip (Tk_seq (Tk_region (Tops_step rfl (OpT_loadCA (vs := [vU32 rp0.Type_, vU64 rp0.Sector, vrp01, vI rp0.Room, vrp02]) rfl rfl rfl rfl tyF35 (i := 0) rfl rfl rfl) ?_)))
     obtain ⟨bytes1, hx4, h⟩ := ob_e h
     refine Tops_exP rfl (OpT_call (w_blk_Bytes hx4) [] [0, 1] rfl rfl rfl rfl rfl callee8 rfl rfl rfl rfl) ?_
     rintro _ ⟨_, _, _, ⟨v1, rfl, rfl, rfl⟩, rfl⟩
     refine Tops_step rfl (OpT_move rfl rfl rfl rfl) ?_
     refine Tops_step rfl (OpT_extract rfl rfl rfl rfl rfl) ?_
     refine Tops_step rfl (OpT_extract rfl rfl rfl rfl rfl) ?_
     refine Tops_step rfl (OpT_assign rfl rfl rfl rfl) ?_
     refine Tops_step rfl (OpT_assign rfl rfl rfl rfl) ?_
     refine Tops_nil (tZ [1, 2, 3, 4, 9, 10] [0, 1] [0, 1, 2, 3] rfl rfl rfl rfl ?_)
     refine Tk_seq (Tk_seq (Tk_region (Tops_step rfl (OpT_move rfl rfl rfl rfl) ?_)))
     refine Tops_step rfl (OpT_bin rfl rfl rfl rfl rfl (bin_neq_i (a := bytes1.2) (b := (0 : Int)))) ?_
     refine Tops_nil (tZ [1, 2, 3, 4, 9, 53] [0, 1] [0, 1, 2, 3] rfl rfl rfl rfl ?_)
     obtain ⟨hg6, h⟩ := chk_e h
     replace hg6 := not_t hg6
     refine Tk_condF (congrArg (fun b => some (Value.bool b)) hg6) ?_
     refine Tk_skip (Tk_seq (Tk_region (Tops_step rfl (OpT_move rfl rfl rfl rfl) ?_)))
     refine Tops_step rfl (OpT_lenO rfl rfl rfl rfl Try.underlying26 (i := 1) rfl) ?_
     refine Tops_step rfl (OpT_cnv rfl rfl rfl rfl (cnv_i_u32 (n := len bytes1.1) Try.underlying3 Try.underlying29)) ?_
     refine Tops_step rfl (OpT_build (v := .agg #[vU64 (0 : UInt64), vU32 (u32 (len bytes1.1)), vB false]) rfl rfl rfl rfl (bldV (by kernel_rfl))) ?_
     refine Tops_step rfl (OpT_fieldC rfl rfl rfl rfl fldF35x3) ?_
     refine Tops_step rfl (OpT_loadC rfl rfl rfl rfl tyF3 (i := 0) rfl rfl) ?_
     refine Tops_step rfl (OpT_bin rfl rfl rfl rfl rfl (bin_add_i (a := rp0.Room) (b := (1 : Int)))) ?_
     refine Tops_step rfl (OpT_cnv rfl rfl rfl rfl (cnv_i_u32 (n := wi (rp0.Room + (1 : Int))) Try.underlying3 Try.underlying29)) ?_
     refine Tops_step rfl (OpT_build (v := .agg #[vU64 (8192 : UInt64), vU32 (u32 (wi (rp0.Room + (1 : Int)))), vB true]) rfl rfl rfl rfl (bldV (by kernel_rfl))) ?_
     refine Tops_ex rfl (OpT_buildSlice (S := SegS) (xs := [(Seg.mk (0 : UInt64) (u32 (len bytes1.1)) false), (Seg.mk (8192 : UInt64) (u32 (wi (rp0.Room + (1 : Int)))) true)]) (css := [[vU64 (0 : UInt64), vU32 (u32 (len bytes1.1)), vB false], [vU64 (8192 : UInt64), vU32 (u32 (wi (rp0.Room + (1 : Int)))), vB true]]) (cs := [vU64 (0 : UInt64), vU32 (u32 (len bytes1.1)), vB false, vU64 (8192 : UInt64), vU32 (u32 (wi (rp0.Room + (1 : Int)))), vB true]) (e := 51) rfl rfl rfl rfl (bldF slF52 (by decide) (by kernel_rfl)) rfl rfl rfl rfl (rel_plainD (S := SegS) (xs := [(Seg.mk (0 : UInt64) (u32 (len bytes1.1)) false), (Seg.mk (8192 : UInt64) (u32 (wi (rp0.Room + (1 : Int)))) true)]) (css := [[vU64 (0 : UInt64), vU32 (u32 (len bytes1.1)), vB false], [vU64 (8192 : UInt64), vU32 (u32 (wi (rp0.Room + (1 : Int)))), vB true]]) rfl rfl)) fun v2 => ?_
     refine Tops_step rfl (OpT_assign rfl rfl rfl rfl) ?_
     refine Tops_nil (tZ [1, 2, 3, 4, 9, 11] [0, 1, 2] [0, 1, 2, 3] rfl rfl rfl rfl ?_)
     refine Tk_seq (Tk_region (Tops_step rfl (OpT_move rfl rfl rfl rfl) ?_))
     obtain ⟨s1, hx5, h⟩ := ob_e h
     refine Tops_step rfl (OpT_idxO rfl rfl rfl rfl rfl slF52 (i := 2) rfl hx5) ?_
     refine Tops_step rfl (OpT_loadOA (S := SegS) (vs := [vU64 s1.At, vU32 s1.Len, vB s1.Write]) rfl rfl rfl rfl rfl tyF51 (i := 2) rfl hx5 rfl) ?_
     refine Tops_step rfl (OpT_move rfl rfl rfl rfl) ?_
     obtain ⟨cut1, hx6, h⟩ := ob_e h
     refine Tops_exP rfl (OpT_call (w_law21zcut hx6) [] [3] rfl rfl rfl rfl rfl callee18 rfl rfl rfl rfl) ?_
     rintro _ ⟨v3, _, _, ⟨_, rfl, rfl, rfl⟩, rfl⟩
     refine Tops_step rfl (OpT_assign rfl rfl rfl rfl) ?_
     refine Tops_nil (tZ [1, 2, 3, 4, 9, 11, 12] [0, 1, 2, 3] [0, 1, 2, 3] rfl rfl rfl rfl ?_)
     refine Tk_seq (Tk_region (Tops_step rfl (OpT_move rfl rfl rfl rfl) ?_))
     refine Tops_step rfl (OpT_move rfl rfl rfl rfl) ?_
     obtain ⟨s2, hx7, h⟩ := ob_e h
     refine Tops_step rfl (OpT_idxO rfl rfl rfl rfl rfl slF52 (i := 2) rfl hx7) ?_
     refine Tops_step rfl (OpT_loadOA (S := SegS) (vs := [vU64 s2.At, vU32 s2.Len, vB s2.Write]) rfl rfl rfl rfl rfl tyF51 (i := 2) rfl hx7 rfl) ?_
     refine Tops_step rfl (OpT_move rfl rfl rfl rfl) ?_
     obtain ⟨cut2, hx8, h⟩ := ob_e h
     refine Tops_exP rfl (OpT_call (w_law21zcut hx8) [] [3] rfl rfl rfl rfl rfl callee18 rfl rfl rfl rfl) ?_
     rintro _ ⟨v4, _, _, ⟨_, rfl, rfl, rfl⟩, rfl⟩
     obtain ⟨hc1, h⟩ := chk_e h
     refine Tops_ex rfl (OpT_appendB (S := SegS) rfl rfl rfl rfl rfl rfl slF52 (i := 3) (j := 4) rfl rfl hc1) fun v5 => ?_
     refine Tops_step rfl (OpT_assign rfl rfl rfl rfl) ?_
     refine Tops_nil (tZ [1, 2, 4, 9, 11, 12] [0, 1, 2, 3] [0, 1, 2] rfl rfl rfl rfl ?_)
     refine Tk_seq (Tk_seq (Tk_region (Tops_step rfl (OpT_move rfl rfl rfl rfl) ?_)))
     refine Tops_step rfl (OpT_lenO rfl rfl rfl rfl Try.underlying52 (i := 3) rfl) ?_
     refine Tops_step rfl (OpT_bin rfl rfl rfl rfl rfl (bin_gtr_i (a := len (cut1 ++ cut2)) (b := (64 : Int)))) ?_
     refine Tops_nil (tZ [1, 2, 4, 9, 11, 12, 78] [0, 1, 2, 3] [0, 1, 2] rfl rfl rfl rfl ?_)
     rcases Bool.eq_false_or_eq_true (decide ((len (cut1 ++ cut2)) > (64 : Int))) with hg7 | hg7
     ·replace h := br_t hg7 h
      refine Tk_condT (congrArg (fun b => some (Value.bool b)) hg7) ?_
      refine Tk_seq (Tk_region (Tops_step rfl (OpT_assign rfl rfl rfl rfl) ?_))
      refine Tops_nil (tZ [8] [] [] rfl rfl rfl rfl ?_)
      exact Tk_retV rfl rfl (resA (vs := [.bool true]) rfl ⟨rfl, trivial⟩) [] [] rfl rfl rfl ⟨rfl, rfl, rfl⟩
     ·replace h := br_f hg7 h
      refine Tk_condF (congrArg (fun b => some (Value.bool b)) hg7) ?_
      refine Tk_skip (Tk_seq (Tk_region (Tops_ex rfl (OpT_alloc rfl rfl rfl tyZ54) fun b2 => ?_)))
      refine Tops_nil (tZ [1, 2, 4, 9, 11, 12, 13] [0, 1, 2, 3, 4] [0, 1, 2] rfl rfl rfl rfl ?_)
      refine Tk_seq (Tk_seq (Tk_region (Tops_step rfl (OpT_move rfl rfl rfl rfl) ?_)))
      refine Tops_step rfl (OpT_move rfl rfl rfl rfl) ?_
      refine Tops_retire (i := 2) rfl ?_
      refine Tops_retire (i := 3) rfl ?_
      refine Tops_ex rfl (OpT_buildSl (Shape.slice SegS) (vs := [v2, v5]) (xs := [[(Seg.mk (0 : UInt64) (u32 (len bytes1.1)) false), (Seg.mk (8192 : UInt64) (u32 (wi (rp0.Room + (1 : Int)))) true)], cut1 ++ cut2]) rfl rfl rfl rfl rfl slF55 (isl_cons (is_sl (i := 3) rfl) (isl_cons (is_sl (i := 4) rfl) isl_nil)) rfl rfl rfl (rel_cons (rel_sl (i := 3) rfl) (rel_cons (rel_sl (i := 4) rfl) (rel_nil rfl)))) fun v6 => ?_
      refine Tops_step rfl (OpT_lenO rfl rfl rfl rfl Try.underlying55 (i := 5) rfl) ?_
      refine Tops_step rfl (OpT_move rfl rfl rfl rfl) ?_
      refine Tops_nil (tZ [1, 2, 4, 9, 12, 13, 81, 82, 83] [0, 1, 4, 5] [0, 1, 2, 4] rfl rfl rfl rfl ?_)
      refine Tk_block (Tk_retire (i := 3) rfl ?_)
      refine Tk_loopS (σ := UInt32 × UInt64 × (List UInt8) × Int × (List Range) × (List UInt8) × (A2 (List UInt8)) × Int × Value × Value × Value) [1, 2, 4, 9, 12, 13, 81, 82, 83] [0, 1, 2] [2, 0, 1, 3, 4] (fun s => ⟨[(1, some (vimage1)), (2, some (vU64 feats)), (4, some (.pointer (some ⟨b1, 0, none⟩))), (9, some (s.2.2.2.2.2.2.2.2.2.2)), (12, some (v5)), (13, some (.pointer (some ⟨b2, 0, none⟩))), (81, some (v6)), (82, some (vI (len [[(Seg.mk (0 : UInt64) (u32 (len bytes1.1)) false), (Seg.mk (8192 : UInt64) (u32 (wi (rp0.Room + (1 : Int)))) true)], cut1 ++ cut2]))), (83, some (vI s.2.2.2.2.2.2.2.1))], [some (cellsR b1 35 [vU32 s.1, vU64 s.2.1, s.2.2.2.2.2.2.2.2.1, vI s.2.2.2.1, s.2.2.2.2.2.2.2.2.2.1]), some (rowS u8S s.2.2.2.2.2.2.2.2.2.2 s.2.2.2.2.2.1), some (cellsR b2 54 [vS s.2.2.2.2.2.2.1.a0, vS s.2.2.2.2.2.2.1.a1])], [Fact.sl u8S vimage1 image, Fact.sl u8S s.2.2.2.2.2.2.2.2.1 s.2.2.1, Fact.sl RangeS s.2.2.2.2.2.2.2.2.2.1 s.2.2.2.2.1, Fact.sl SegS v5 (cut1 ++ cut2), Fact.sl (Shape.slice SegS) v6 [[(Seg.mk (0 : UInt64) (u32 (len bytes1.1)) false), (Seg.mk (8192 : UInt64) (u32 (wi (rp0.Room + (1 : Int)))) true)], cut1 ++ cut2]]⟩) (fun nf1 s => law21zBlkCutsL1 rp0 image feats bytes1 cut1 cut2 nf1 s.1 s.2.1 s.2.2.1 s.2.2.2.1 s.2.2.2.2.1 s.2.2.2.2.2.1 s.2.2.2.2.2.2.1 s.2.2.2.2.2.2.2.1 = some true) fuel (rp0.Type_, rp0.Sector, rp0.Data, rp0.Room, rp0.Ranges, bytes1.1, (A2.mk ([] : List UInt8) ([] : List UInt8)), (0 : Int), vrp01, vrp02, v1) h rfl rfl rfl rfl rfl (fun s h => by cases h) ?_
      rintro nf1 ⟨Type1, Sector1, Data1, Room1, Ranges1, l1, m1, x1, v7, v8, v9⟩ h
      replace h : law21zBlkCutsL1B rp0 image feats bytes1 cut1 cut2 (law21zBlkCutsL1 rp0 image feats bytes1 cut1 cut2 nf1) Type1 Sector1 Data1 Room1 Ranges1 l1 m1 x1 = some true := h
      unfold law21zBlkCutsL1B at h
      refine Tk_seq (Tk_region (Tops_step rfl (OpT_bin rfl rfl rfl rfl rfl (bin_lss_i (a := x1) (b := len [[(Seg.mk (0 : UInt64) (u32 (len bytes1.1)) false), (Seg.mk (8192 : UInt64) (u32 (wi (rp0.Room + (1 : Int)))) true)], cut1 ++ cut2]))) ?_))
      refine Tops_nil (Tk_seq ?_)
      rcases Bool.eq_false_or_eq_true (decide (x1 < (len [[(Seg.mk (0 : UInt64) (u32 (len bytes1.1)) false), (Seg.mk (8192 : UInt64) (u32 (wi (rp0.Room + (1 : Int)))) true)], cut1 ++ cut2]))) with hg8 | hg8
      ·replace h := br_t hg8 h
       refine Tk_condT (congrArg (fun b => some (Value.bool b)) hg8) ?_
       refine Tk_skip (Tk_seq (Tk_block (Tk_seq (Tk_region (Tops_step rfl (OpT_move rfl rfl rfl rfl) ?_)))))
       obtain ⟨y1, hx9, h⟩ := ob_e h
       refine Tops_ex rfl (OpT_idxS rfl rfl rfl rfl rfl slF55 (i := 4) rfl hx9) fun p1 => ?_
       refine Tops_ex rfl (OpT_loadPS rfl rfl rfl rfl tyF52 (i := 5) rfl) fun v10 => ?_
       refine Tops_step rfl (OpT_assign rfl rfl rfl rfl) ?_
       refine Tops_step rfl (OpT_assign rfl rfl rfl rfl) ?_
       refine Tops_nil (tZ [1, 2, 4, 9, 12, 13, 81, 82, 83, 14, 15] [0, 1, 2] [0, 1, 2, 3, 4, 6] rfl rfl rfl rfl ?_)
       refine Tk_seq (Tk_region (Tops_step rfl (OpT_build (v := .agg #[vU64 (0 : UInt64), vU64 (16384 : UInt64)]) rfl rfl rfl rfl (bldV (by kernel_rfl))) ?_))
       refine Tops_ex rfl (OpT_buildSlice (S := RegionS) (xs := [(Region.mk (0 : UInt64) (16384 : UInt64))]) (css := [[vU64 (0 : UInt64), vU64 (16384 : UInt64)]]) (cs := [vU64 (0 : UInt64), vU64 (16384 : UInt64)]) (e := 60) rfl rfl rfl rfl (bldF slF61 (by decide) (by kernel_rfl)) rfl rfl rfl rfl (rel_plainD (S := RegionS) (xs := [(Region.mk (0 : UInt64) (16384 : UInt64))]) (css := [[vU64 (0 : UInt64), vU64 (16384 : UInt64)]]) rfl rfl)) fun v11 => ?_
       refine Tops_retire (i := 3) rfl ?_
       obtain ⟨new1, hx10, h⟩ := ob_e h
       refine Tops_exP rfl (OpT_call (w_gmem_New hx10) [] [6] rfl rfl rfl rfl rfl callee19 rfl rfl rfl rfl) ?_
       rintro _ ⟨_, _, _, ⟨v12, rfl, rfl, rfl⟩, rfl⟩
       refine Tops_step rfl (OpT_move rfl rfl rfl rfl) ?_
       refine Tops_step rfl (OpT_extract rfl rfl rfl rfl rfl) ?_
       refine Tops_step rfl (OpT_extract rfl rfl rfl rfl rfl) ?_
       refine Tops_step rfl (OpT_assign rfl rfl rfl rfl) ?_
       refine Tops_step rfl (OpT_assign rfl rfl rfl rfl) ?_
       refine Tops_nil (tZ [1, 2, 4, 9, 12, 13, 81, 82, 83, 14, 15, 16, 17] [0, 1, 2, 4] [0, 1, 2, 3, 4, 5] rfl rfl rfl rfl ?_)
       rcases onO_cases h with ⟨ho1, h⟩ | ⟨mem1, ho1, h⟩
       ·cases h
       ·refine Tk_optS (i := 3) rfl ho1 ?_
        rintro b3 v13 v14 vs1 rfl
        refine Tk_seq (Tk_region (Tops_step rfl (OpT_move rfl rfl rfl rfl) ?_))
        obtain ⟨own1, hx11, h⟩ := ob_e h
        refine Tops_exP rfl (OpT_call (w_kit_Own hx11) [] [0] rfl rfl rfl rfl rfl callee14 rfl rfl rfl rfl) ?_
        rintro _ ⟨v15, _, _, ⟨_, rfl, rfl, rfl⟩, rfl⟩
        refine Tops_retire (i := 5) rfl ?_
        obtain ⟨of1, hx12, h⟩ := ob_e h
        refine Tops_exP rfl (OpT_call (w_sectors_Of hx12) [] [7] rfl rfl rfl rfl rfl callee15 rfl rfl rfl rfl) ?_
        rintro _ ⟨_, _, _, ⟨v16, rfl, rfl, rfl⟩, rfl⟩
        refine Tops_step rfl (OpT_move rfl rfl rfl rfl) ?_
        refine Tops_step rfl (OpT_extract rfl rfl rfl rfl rfl) ?_
        refine Tops_step rfl (OpT_extract rfl rfl rfl rfl rfl) ?_
        refine Tops_step rfl (OpT_assign rfl rfl rfl rfl) ?_
        refine Tops_step rfl (OpT_assign rfl rfl rfl rfl) ?_
        refine Tops_nil (tZ [1, 2, 4, 9, 12, 13, 81, 82, 83, 14, 15, 16, 17, 18, 19] [0, 1, 2, 3, 4, 6] [0, 1, 2, 3, 4, 5, 6] rfl rfl rfl rfl ?_)
        rcases onO_cases h with ⟨ho2, h⟩ | ⟨store1, ho2, h⟩
        ·refine Tk_optTN (i := 5) rfl ho2 ?_
         rintro rfl
         refine Tk_seq (Tk_seq (Tk_region (Tops_step rfl (OpT_move rfl rfl rfl rfl) ?_)))
         refine Tops_step rfl (OpT_bin rfl rfl rfl rfl rfl (bin_neq_i (a := new1.2) (b := (0 : Int)))) ?_
         refine Tops_nil (tZ [1, 2, 4, 9, 12, 13, 81, 82, 83, 14, 15, 16, 18, 19, 101] [0, 1, 2, 3, 4] [0, 1, 2, 3, 4, 5, 6] rfl rfl rfl rfl ?_)
         obtain ⟨hg9, h⟩ := chk_e h
         replace hg9 := not_t hg9
         refine Tk_condF (congrArg (fun b => some (Value.bool b)) hg9) ?_
         refine Tk_skip (Tk_seq (Tk_seq (Tk_region (Tops_step rfl (OpT_move rfl rfl rfl rfl) ?_))))
         refine Tops_step rfl (OpT_bin rfl rfl rfl rfl rfl (bin_neq_i (a := of1.2) (b := (0 : Int)))) ?_
         refine Tops_nil (tZ [1, 2, 4, 9, 12, 13, 81, 82, 83, 14, 15, 16, 18, 103] [0, 1, 2, 3, 4] [0, 1, 2, 3, 4, 5, 6] rfl rfl rfl rfl ?_)
         obtain ⟨hg10, h⟩ := chk_e h
         refine Tk_condT (congrArg (fun b => some (Value.bool b)) hg10) ?_
         refine Tk_seq (Tk_region (Tops_step rfl (OpT_assign rfl rfl rfl rfl) ?_))
         refine Tops_nil (tZ [8] [] [] rfl rfl rfl rfl ?_)
         exact Tk_retV rfl rfl (resA (vs := [.bool true]) rfl ⟨rfl, trivial⟩) [] [] rfl rfl rfl ⟨rfl, rfl, rfl⟩
        ·refine Tk_optTS (i := 5) rfl ho2 ?_
         rintro b4 vs2 rfl
         refine Tk_vs (vs_star (i := 5) rfl) ?_
         refine Tk_vs (vs_star (i := 6) rfl) ?_
         refine (show Tk _ _ ⟨[(1, some (vimage1)), (2, some (vU64 feats)), (4, some (.pointer (some ⟨b1, 0, none⟩))), (9, some (v9)), (12, some (v5)), (13, some (.pointer (some ⟨b2, 0, none⟩))), (81, some (v6)), (82, some (vI (len [[(Seg.mk (0 : UInt64) (u32 (len bytes1.1)) false), (Seg.mk (8192 : UInt64) (u32 (wi (rp0.Room + (1 : Int)))) true)], cut1 ++ cut2]))), (83, some (vI x1)), (14, some (vI x1)), (15, some (v10)), (16, some (.pointer (some ⟨b3, 0, none⟩))), (17, some (vI new1.2)), (18, some (.pointer (some ⟨b4, 0, none⟩))), (19, some (vI of1.2))], [some (cellsR b1 35 [vU32 Type1, vU64 Sector1, v7, vI Room1, v8]), some (rowS u8S v9 l1), some (cellsR b2 54 [vS m1.a0, vS m1.a1]), some (cellsR b3 89 [v13, v14]), some (rowsX u8S true v14 vs1 mem1.b none), some (cellsR b4 71 [(vsAt vs2 0), (vsAt vs2 1)]), some (rowS secS (vsAt vs2 0) store1.l), some (mapRV .i64 (fun x : Int => x) vSec (vsAt vs2 1) store1.fresh)], [Fact.sl u8S vimage1 image, Fact.sl u8S v7 Data1, Fact.sl RangeS v8 Ranges1, Fact.sl SegS v5 (cut1 ++ cut2), Fact.sl (Shape.slice SegS) v6 [[(Seg.mk (0 : UInt64) (u32 (len bytes1.1)) false), (Seg.mk (8192 : UInt64) (u32 (wi (rp0.Room + (1 : Int)))) true)], cut1 ++ cut2], Fact.sl SegS v10 y1, Fact.sl RegionS v13 mem1.l]⟩ from ?_)
         refine Tk_openM (i := 7) rfl ?_
         rintro mb1 he1
         rw [he1]
         refine Tk_seq (Tk_seq (Tk_region (Tops_step rfl (OpT_move rfl rfl rfl rfl) ?_)))
         refine Tops_step rfl (OpT_bin rfl rfl rfl rfl rfl (bin_neq_i (a := new1.2) (b := (0 : Int)))) ?_
         refine Tops_nil (tZ [1, 2, 4, 9, 12, 13, 81, 82, 83, 14, 15, 16, 18, 19, 101] [0, 1, 2, 3, 4, 5, 6, 7] [0, 1, 2, 3, 4, 5, 6] rfl rfl rfl rfl ?_)
         obtain ⟨hg12, h⟩ := chk_e h
         replace hg12 := not_t hg12
         refine Tk_condF (congrArg (fun b => some (Value.bool b)) hg12) ?_
         refine Tk_skip (Tk_seq (Tk_seq (Tk_region (Tops_step rfl (OpT_move rfl rfl rfl rfl) ?_))))
         refine Tops_step rfl (OpT_bin rfl rfl rfl rfl rfl (bin_neq_i (a := of1.2) (b := (0 : Int)))) ?_
         refine Tops_nil (tZ [1, 2, 4, 9, 12, 13, 81, 82, 83, 14, 15, 16, 18, 103] [0, 1, 2, 3, 4, 5, 6, 7] [0, 1, 2, 3, 4, 5, 6] rfl rfl rfl rfl ?_)
         rcases Bool.eq_false_or_eq_true (of1.2 != (0 : Int)) with hg13 | hg13
         ·replace h := br_t hg13 h
          refine Tk_condT (congrArg (fun b => some (Value.bool b)) hg13) ?_
          refine Tk_seq (Tk_region (Tops_step rfl (OpT_assign rfl rfl rfl rfl) ?_))
          refine Tops_nil (tZ [8] [] [] rfl rfl rfl rfl ?_)
          exact Tk_retV rfl rfl (resA (vs := [.bool true]) rfl ⟨rfl, trivial⟩) [] [] rfl rfl rfl ⟨rfl, rfl, rfl⟩
         ·replace h := br_f hg13 h
          refine Tk_condF (congrArg (fun b => some (Value.bool b)) hg13) ?_
          refine Tk_skip (Tk_seq (Tk_seq (Tk_region (Tops_step rfl (OpT_move rfl rfl rfl rfl) ?_))))
          refine Tops_step rfl (OpT_move rfl rfl rfl rfl) ?_
          obtain ⟨write2, hx14, h⟩ := ob_e h
          refine Tops_exP rfl (OpT_callB [1] [0, 1, 2, 8, 9, 5, 6, 7] (w_gmem_Mem_Write hx14) [3, 4] rfl rfl rfl rfl rfl callee20 rfl rfl rfl rfl rfl rfl (bor_cons (bor_shr 6 rfl) (bor_cons (bor_row 1 rfl rfl) bor_nil)) (by rintro _ _ _ ⟨rfl, rfl, rfl⟩; exact ⟨rfl, (ri_cons (ri_cells _ _ _) (ri_cons (ri_rows rfl _ _ _ _ _) ri_nil))⟩)) ?_
          rintro _ ⟨_, _, _, ⟨rfl, rfl, rfl⟩, rfl⟩
          refine Tops_step rfl (OpT_bin rfl rfl rfl rfl rfl (bin_neq_i (a := write2.1) (b := (0 : Int)))) ?_
          refine Tops_nil (tZ [1, 2, 4, 9, 12, 13, 81, 82, 83, 14, 15, 16, 18, 107] [0, 1, 2, 3, 4, 5, 6, 7] [0, 1, 2, 3, 4, 5, 6] rfl rfl rfl rfl ?_)
          obtain ⟨hg14, h⟩ := chk_e h
          replace hg14 := not_t hg14
          refine Tk_condF (congrArg (fun b => some (Value.bool b)) hg14) ?_
          refine Tk_skip (Tk_seq (Tk_region (Tops_step rfl (OpT_move rfl rfl rfl rfl) ?_)))
          refine Tops_step rfl (OpT_move rfl rfl rfl rfl) ?_
          refine Tops_step rfl (OpT_move rfl rfl rfl rfl) ?_
          refine Tops_step rfl (OpT_move rfl rfl rfl rfl) ?_
          obtain ⟨do1, hx15, h⟩ := ob_e h
          refine Tops_exP rfl (OpT_callP [0, 1, 2, 8, 9, 10, 11, 12] (w_blk_Do hx15) [3, 4, 5, 6, 7] [6, 5] rfl rfl rfl rfl rfl callee21 rfl rfl rfl rfl rfl) ?_
          rintro _ ⟨_, _, _, ⟨v17, rfl, rfl, rfl⟩, rfl⟩
          refine Tops_step rfl (OpT_move rfl rfl rfl rfl) ?_
          refine Tops_step rfl (OpT_extract rfl rfl rfl rfl rfl) ?_
          refine Tops_step rfl (OpT_extract rfl rfl rfl rfl rfl) ?_
          refine Tops_step rfl (OpT_assign rfl rfl rfl rfl) ?_
          refine Tops_step rfl (OpT_assign rfl rfl rfl rfl) ?_
          refine Tops_nil (tZ [1, 2, 4, 9, 12, 13, 81, 82, 83, 14, 16, 18, 20, 17] [0, 1, 2, 3, 4, 5, 6, 7] [0, 1, 2, 3, 4, 6] rfl rfl rfl rfl ?_)
          refine Tk_seq (Tk_region (Tops_step rfl (OpT_move rfl rfl rfl rfl) ?_))
          refine Tops_step rfl (OpT_fieldC rfl rfl rfl rfl fldF35x3) ?_
          refine Tops_step rfl (OpT_loadC rfl rfl rfl rfl tyF3 (i := 0) rfl rfl) ?_
          refine Tops_step rfl (OpT_bin rfl rfl rfl rfl rfl (bin_add_i (a := Room1) (b := (1 : Int)))) ?_
          obtain ⟨read1, hx16, h⟩ := ob_e h
          refine Tops_exP rfl (OpT_callP [0, 1, 2, 8, 9, 5, 6, 7, 10] (w_gmem_Mem_Read hx16) [3, 4] [5] rfl rfl rfl rfl rfl callee22 rfl rfl rfl rfl rfl) ?_
          rintro _ ⟨_, _, _, ⟨v18, rfl, rfl, rfl⟩, rfl⟩
          refine Tops_step rfl (OpT_move rfl rfl rfl rfl) ?_
          refine Tops_step rfl (OpT_extract rfl rfl rfl rfl rfl) ?_
          refine Tops_step rfl (OpT_extract rfl rfl rfl rfl rfl) ?_
          refine Tops_step rfl (OpT_assign rfl rfl rfl rfl) ?_
          refine Tops_step rfl (OpT_assign rfl rfl rfl rfl) ?_
          refine Tops_nil (tZ [1, 2, 4, 9, 12, 13, 81, 82, 83, 14, 18, 20, 17, 21, 19] [0, 1, 2, 5, 6, 7, 8] [0, 1, 2, 3, 4] rfl rfl rfl rfl ?_)
          refine Tk_seq (Tk_seq (Tk_region (Tops_step rfl (OpT_move rfl rfl rfl rfl) ?_)))
          refine Tops_step rfl (OpT_bin rfl rfl rfl rfl rfl (bin_neq_i (a := do1.2.1) (b := (0 : Int)))) ?_
          refine Tops_step rfl (OpT_move rfl rfl rfl rfl) ?_
          obtain ⟨hg15, h⟩ := chk_e h
          replace hg15 := not_t hg15
          refine Tops_yes rfl rfl (congrArg (fun b => some (Value.bool b)) hg15) (OpT_move rfl rfl rfl rfl) ?_
          rintro _ rfl
          refine Tops_yes rfl rfl (congrArg (fun b => some (Value.bool b)) hg15) (OpT_bin rfl rfl rfl rfl rfl (bin_neq_i (a := read1.2) (b := (0 : Int)))) ?_
          rintro _ rfl
          refine Tops_step rfl (OpT_pickF rfl rfl rfl (congrArg (fun b => some (Value.bool b)) hg15) rfl) ?_
          refine Tops_step rfl (OpT_move rfl rfl rfl rfl) ?_
          obtain ⟨hg16, h⟩ := chk_e h
          replace hg16 := not_t hg16
          refine Tops_yes rfl rfl (congrArg (fun b => some (Value.bool b)) hg16) (OpT_move rfl rfl rfl rfl) ?_
          rintro _ rfl
          refine Tops_yes rfl rfl (congrArg (fun b => some (Value.bool b)) hg16) (OpT_bin rfl rfl rfl rfl rfl (bin_lss_u32 (a := do1.1) (b := (1 : UInt32)))) ?_
          rintro _ rfl
          refine Tops_step rfl (OpT_pickF rfl rfl rfl (congrArg (fun b => some (Value.bool b)) hg16) rfl) ?_
          refine Tops_nil (tZ [1, 2, 4, 9, 12, 13, 81, 82, 83, 14, 18, 20, 21, 133] [0, 1, 2, 3, 4, 5, 6] [0, 1, 2, 3, 4] rfl rfl rfl rfl ?_)
          obtain ⟨hg17, h⟩ := chk_e h
          replace hg17 := not_t hg17
          refine Tk_condF (congrArg (fun b => some (Value.bool b)) hg17) ?_
          refine Tk_skip (Tk_seq (Tk_region (Tops_step rfl (OpT_move rfl rfl rfl rfl) ?_)))
          obtain ⟨own2, hx17, h⟩ := ob_e h
          refine Tops_exP rfl (OpT_call (w_kit_Own hx17) [] [0] rfl rfl rfl rfl rfl callee14 rfl rfl rfl rfl) ?_
          rintro _ ⟨v19, _, _, ⟨_, rfl, rfl, rfl⟩, rfl⟩
          refine Tops_retire (i := 7) rfl ?_
          obtain ⟨of2, hx18, h⟩ := ob_e h
          refine Tops_exP rfl (OpT_call (w_sectors_Of hx18) [] [5] rfl rfl rfl rfl rfl callee15 rfl rfl rfl rfl) ?_
          rintro _ ⟨_, _, _, ⟨v20, rfl, rfl, rfl⟩, rfl⟩
          refine Tops_step rfl (OpT_move rfl rfl rfl rfl) ?_
          refine Tops_step rfl (OpT_extract rfl rfl rfl rfl rfl) ?_
          refine Tops_step rfl (OpT_extract rfl rfl rfl rfl rfl) ?_
          refine Tops_step rfl (OpT_assign rfl rfl rfl rfl) ?_
          refine Tops_step rfl (OpT_assign rfl rfl rfl rfl) ?_
          refine Tops_nil (tZ [1, 2, 4, 9, 12, 13, 81, 82, 83, 14, 18, 20, 21, 22] [0, 1, 2, 3, 4, 5, 6, 8] [0, 1, 2, 3, 4] rfl rfl rfl rfl ?_)
          rcases onO_cases h with ⟨ho3, h⟩ | ⟨store2, ho3, h⟩
          ·cases h
          ·refine Tk_optTS (i := 7) rfl ho3 ?_
           rintro b5 vs3 rfl
           refine Tk_vs (vs_star (i := 7) rfl) ?_
           refine Tk_vs (vs_star (i := 8) rfl) ?_
           refine (show Tk _ _ ⟨[(1, some (vimage1)), (2, some (vU64 feats)), (4, some (.pointer (some ⟨b1, 0, none⟩))), (9, some (v9)), (12, some (v5)), (13, some (.pointer (some ⟨b2, 0, none⟩))), (81, some (v6)), (82, some (vI (len [[(Seg.mk (0 : UInt64) (u32 (len bytes1.1)) false), (Seg.mk (8192 : UInt64) (u32 (wi (rp0.Room + (1 : Int)))) true)], cut1 ++ cut2]))), (83, some (vI x1)), (14, some (vI x1)), (18, some (.pointer (some ⟨b4, 0, none⟩))), (20, some (vU32 do1.1)), (21, some (v18)), (22, some (.pointer (some ⟨b5, 0, none⟩)))], [some (cellsR b1 35 [vU32 Type1, vU64 Sector1, v7, vI Room1, v8]), some (rowS u8S v9 l1), some (cellsR b2 54 [vS m1.a0, vS m1.a1]), some (cellsR b4 71 [v17, .map (some mb1)]), some (rowS secS v17 do1.2.2.2.l), some (mapR mb1 .i64 (fun x : Int => x) vSec do1.2.2.2.fresh), some (rowS u8S v18 read1.1), some (cellsR b5 71 [(vsAt vs3 0), (vsAt vs3 1)]), some (rowS secS (vsAt vs3 0) store2.l), some (mapRV .i64 (fun x : Int => x) vSec (vsAt vs3 1) store2.fresh)], [Fact.sl u8S vimage1 image, Fact.sl u8S v7 Data1, Fact.sl RangeS v8 Ranges1, Fact.sl SegS v5 (cut1 ++ cut2), Fact.sl (Shape.slice SegS) v6 [[(Seg.mk (0 : UInt64) (u32 (len bytes1.1)) false), (Seg.mk (8192 : UInt64) (u32 (wi (rp0.Room + (1 : Int)))) true)], cut1 ++ cut2]]⟩ from ?_)
           refine Tk_openM (i := 9) rfl ?_
           rintro mb2 he2
           rw [he2]
           refine Tk_seq (Tk_region (Tops_step rfl (OpT_move rfl rfl rfl rfl) ?_))
           refine Tops_step rfl (OpT_move rfl rfl rfl rfl) ?_
           refine Tops_step rfl (OpT_loadCA (vs := [vU32 Type1, vU64 Sector1, v7, vI Room1, v8]) rfl rfl rfl rfl tyF35 (i := 0) rfl rfl rfl) ?_
           obtain ⟨apply1, hx19, h⟩ := ob_e h
           refine Tops_exP rfl (OpT_callP [0, 1, 2, 3, 4, 5, 6, 10, 11, 12, 13] (w_blk_Apply hx19) [7, 8, 9] [1, 2] rfl rfl rfl rfl rfl callee10 rfl rfl rfl rfl rfl) ?_
           rintro _ ⟨_, _, _, ⟨v21, v22, rfl, rfl, rfl⟩, rfl⟩
           refine Tops_step rfl (OpT_move rfl rfl rfl rfl) ?_
           refine Tops_step rfl (OpT_extract rfl rfl rfl rfl rfl) ?_
           refine Tops_step rfl (OpT_extract rfl rfl rfl rfl rfl) ?_
           refine Tops_step rfl (OpT_extract rfl rfl rfl rfl rfl) ?_
           refine Tops_step rfl (OpT_assign rfl rfl rfl rfl) ?_
           refine Tops_step rfl (OpT_assign rfl rfl rfl rfl) ?_
           refine Tops_step rfl (OpT_assign rfl rfl rfl rfl) ?_
           refine Tops_nil (tZ [1, 2, 4, 9, 12, 13, 81, 82, 83, 14, 18, 20, 21, 22, 24, 25, 26] [0, 1, 2, 3, 4, 5, 6, 7, 8, 9, 10] [0, 1, 2, 3, 4] rfl rfl rfl rfl ?_)
           refine Tk_seq (Tk_seq (Tk_drawT (by kernel_rfl) ?_))
           refine TA_tb [0, 1, 3, 7, 7, 23, 63, 127, 7, 511, 1023, 2047, 4095, 4095, 12287, 28671, 61439, 131071, 262143, 524287, 1048575, 1048575, 3145727, 8388607, 16777215, 1048575, 34603007, 134217727, 268435455, 536870911, 1073741823, 2147483647, 4294967295, 1073741823, 12884901887, 30064771071, 68719476735, 137438953471] (by kernel_rfl) fun htb => ?_
           refine TA_step htb (by kernel_rfl) rfl rfl (OpT_move rfl rfl rfl rfl) ?_
           refine TA_step htb (by kernel_rfl) rfl rfl (OpT_bin rfl rfl rfl rfl rfl (bin_neq_i (a := apply1.2.2.1) (b := (0 : Int)))) ?_
           refine TA_step htb (by kernel_rfl) rfl rfl (OpT_move rfl rfl rfl rfl) ?_
           refine aZ [1, 2, 4, 9, 12, 13, 81, 82, 83, 14, 18, 20, 21, 22, 24, 25, 150] [0, 1, 2, 3, 4, 5, 6, 7, 8, 9, 10] [0, 1, 2, 3, 4] rfl rfl rfl rfl ?_
           obtain ⟨hg18, h⟩ := chk_e h
           replace hg18 := not_t hg18
           obtain ⟨y2, hx20, h⟩ := ob_e h
           refine TA_seg (lo := 3) (hi := 9) htb rfl rfl (by kernel_rfl) (fun c L a w => Sat c ⟨[(1, some (vimage1)), (2, some (vU64 feats)), (4, some (.pointer (some ⟨b1, 0, none⟩))), (9, some (v9)), (12, some (v5)), (13, some (.pointer (some ⟨b2, 0, none⟩))), (81, some (v6)), (82, some (vI (len [[(Seg.mk (0 : UInt64) (u32 (len bytes1.1)) false), (Seg.mk (8192 : UInt64) (u32 (wi (rp0.Room + (1 : Int)))) true)], cut1 ++ cut2]))), (83, some (vI x1)), (14, some (vI x1)), (18, some (.pointer (some ⟨b4, 0, none⟩))), (20, some (vU32 do1.1)), (21, some (v18)), (22, some (.pointer (some ⟨b5, 0, none⟩))), (24, some (v21)), (25, some (vU8 apply1.2.1)), (150, some (vB (apply1.2.2.1 != (0 : Int)))), (151, bif L 3 then some (v18) else none), (152, bif L 4 then some (.pointer (some ⟨b1, 3, none⟩)) else none), (153, bif L 5 then some (vI Room1) else none), (154, bif L 6 then some (rowPtr v18 (Int.toNat Room1 * 1)) else none), (155, bif L 7 then some (vU8 y2) else none), (156, bif L 8 then some (vU8 apply1.2.1) else none)], [(some (cellsR b1 35 [vU32 Type1, vU64 Sector1, v7, vI Room1, v8]) : Option Res), (some (rowS u8S v9 l1) : Option Res), (some (cellsR b2 54 [vS m1.a0, vS m1.a1]) : Option Res), (some (cellsR b4 71 [v17, .map (some mb1)]) : Option Res), (some (rowS secS v17 do1.2.2.2.l) : Option Res), (some (mapR mb1 .i64 (fun x : Int => x) vSec do1.2.2.2.fresh) : Option Res), (some (rowS u8S v18 read1.1) : Option Res), (some (cellsR b5 71 [v22, .map (some mb2)]) : Option Res), (some (rowS secS v22 apply1.2.2.2.l) : Option Res), (some (mapR mb2 .i64 (fun x : Int => x) vSec apply1.2.2.2.fresh) : Option Res), (some (rowS u8S v21 apply1.1) : Option Res)], [Fact.sl u8S vimage1 image, Fact.sl u8S v7 Data1, Fact.sl RangeS v8 Ranges1, Fact.sl SegS v5 (cut1 ++ cut2), Fact.sl (Shape.slice SegS) v6 [[(Seg.mk (0 : UInt64) (u32 (len bytes1.1)) false), (Seg.mk (8192 : UInt64) (u32 (wi (rp0.Room + (1 : Int)))) true)], cut1 ++ cut2]]⟩ a w) [([], [6, 7]), ([], [5, 6, 7]), ([4], [6, 7]), ([3, 4, 5], [7]), ([3, 4, 5, 6], []), ([], [])] rfl (by kernel_rfl) ?_ (steps_cons ?_ (steps_cons ?_ (steps_cons ?_ (steps_cons ?_ (steps_cons ?_ (steps_cons ?_ (steps_nil))))))) ?_
           ·intro a w hs
            exact hs.startF [151, 152, 153, 154, 155, 156] [0, 1, 2, 3, 4, 5, 6, 7, 8, 9, 10] [0, 1, 2, 3, 4] rfl rfl rfl rfl
           ·intro L a w hv K Q hK
            have hs := hv
            refine wpOp_yes rfl rfl rfl hs (congrArg (fun b => some (Value.bool b)) hg18) (OpT_move rfl rfl rfl rfl) ?_
            rintro _ rfl a' w' hs'
            exact hK a' w' (hs'.putF (i := 17) rfl [0, 1, 2, 3, 4, 5, 6, 7, 8, 9, 10] [0, 1, 2, 3, 4] rfl rfl rfl rfl)
           ·intro L a w hv K Q hK
            have hs := hv
            refine wpOp_yes rfl rfl rfl hs (congrArg (fun b => some (Value.bool b)) hg18) (OpT_fieldC rfl rfl rfl rfl fldF35x3) ?_
            rintro _ rfl a' w' hs'
            exact hK a' w' (hs'.putF (i := 18) rfl [0, 1, 2, 3, 4, 5, 6, 7, 8, 9, 10] [0, 1, 2, 3, 4] rfl rfl rfl rfl)
           ·intro L a w hv K Q hK
            have hs := hv
            refine wpOp_yes rfl rfl rfl hs (congrArg (fun b => some (Value.bool b)) hg18) (OpT_loadC rfl rfl rfl rfl tyF3 (i := 0) rfl rfl) ?_
            rintro _ rfl a' w' hs'
            exact hK a' w' (hs'.putF (i := 19) rfl [0, 1, 2, 3, 4, 5, 6, 7, 8, 9, 10] [0, 1, 2, 3, 4] rfl rfl rfl rfl)
           ·intro L a w hv K Q hK
            have hs := hv
            refine wpOp_yes rfl rfl rfl hs (congrArg (fun b => some (Value.bool b)) hg18) (OpT_idxO rfl rfl rfl rfl rfl slF26 (i := 6) rfl hx20) ?_
            rintro _ rfl a' w' hs'
            exact hK a' w' (hs'.putF (i := 20) rfl [0, 1, 2, 3, 4, 5, 6, 7, 8, 9, 10] [0, 1, 2, 3, 4] rfl rfl rfl rfl)
           ·intro L a w hv K Q hK
            have hs := hv
            refine wpOp_yes rfl rfl rfl hs (congrArg (fun b => some (Value.bool b)) hg18) (OpT_loadO (S := u8S) rfl rfl rfl rfl rfl tyF5 (i := 6) rfl hx20 rfl rfl) ?_
            rintro _ rfl a' w' hs'
            exact hK a' w' (hs'.putF (i := 21) rfl [0, 1, 2, 3, 4, 5, 6, 7, 8, 9, 10] [0, 1, 2, 3, 4] rfl rfl rfl rfl)
           ·intro L a w hv K Q hK
            have hs := hv
            refine wpOp_yes rfl rfl rfl hs (congrArg (fun b => some (Value.bool b)) hg18) (OpT_move rfl rfl rfl rfl) ?_
            rintro _ rfl a' w' hs'
            exact hK a' w' (hs'.putF (i := 22) rfl [0, 1, 2, 3, 4, 5, 6, 7, 8, 9, 10] [0, 1, 2, 3, 4] rfl rfl rfl rfl)
           ·intro L a w hL hv
            rw [allTrue hL] at hv
            have hs := hv
            refine gZ hs [1, 2, 4, 9, 12, 13, 81, 82, 83, 14, 18, 20, 21, 22, 24, 150, 155, 156] [0, 1, 2, 3, 4, 5, 6, 7, 8, 9, 10] [0, 1, 2, 3, 4] rfl rfl rfl rfl ?_
            clear hs hL
            refine TA_yes htb (by kernel_rfl) rfl rfl rfl (congrArg (fun b => some (Value.bool b)) hg18) (OpT_bin rfl rfl rfl rfl rfl (bin_neq_u8 (a := y2) (b := apply1.2.1))) ?_
            rintro _ rfl
            refine TA_step htb (by kernel_rfl) rfl rfl (OpT_pickF rfl rfl rfl (congrArg (fun b => some (Value.bool b)) hg18) rfl) ?_
            refine TA_step htb (by kernel_rfl) rfl rfl (OpT_move rfl rfl rfl rfl) ?_
            refine aZ [1, 2, 4, 9, 12, 13, 81, 82, 83, 14, 18, 20, 21, 22, 24, 159] [0, 1, 2, 3, 4, 5, 6, 7, 8, 9, 10] [0, 1, 2, 3, 4] rfl rfl rfl rfl ?_
            obtain ⟨hg19, h⟩ := chk_e h
            replace hg19 := not_t hg19
            refine TA_seg (lo := 12) (hi := 17) htb rfl rfl (by kernel_rfl) (fun c L a w => Sat c ⟨[(1, some (vimage1)), (2, some (vU64 feats)), (4, some (.pointer (some ⟨b1, 0, none⟩))), (9, some (v9)), (12, some (v5)), (13, some (.pointer (some ⟨b2, 0, none⟩))), (81, some (v6)), (82, some (vI (len [[(Seg.mk (0 : UInt64) (u32 (len bytes1.1)) false), (Seg.mk (8192 : UInt64) (u32 (wi (rp0.Room + (1 : Int)))) true)], cut1 ++ cut2]))), (83, some (vI x1)), (14, some (vI x1)), (18, some (.pointer (some ⟨b4, 0, none⟩))), (20, some (vU32 do1.1)), (21, some (v18)), (22, some (.pointer (some ⟨b5, 0, none⟩))), (24, some (v21)), (159, some (vB (y2 != apply1.2.1))), (160, bif L 12 then some (vU32 do1.1) else none), (161, bif L 13 then some (v21) else none), (162, bif L 14 then some (vI (len apply1.1)) else none), (163, bif L 15 then some (vU32 (u32 (len apply1.1))) else none), (164, bif L 16 then some (vU32 ((u32 (len apply1.1)) + (1 : UInt32))) else none)], [(some (cellsR b1 35 [vU32 Type1, vU64 Sector1, v7, vI Room1, v8]) : Option Res), (some (rowS u8S v9 l1) : Option Res), (some (cellsR b2 54 [vS m1.a0, vS m1.a1]) : Option Res), (some (cellsR b4 71 [v17, .map (some mb1)]) : Option Res), (some (rowS secS v17 do1.2.2.2.l) : Option Res), (some (mapR mb1 .i64 (fun x : Int => x) vSec do1.2.2.2.fresh) : Option Res), (some (rowS u8S v18 read1.1) : Option Res), (some (cellsR b5 71 [v22, .map (some mb2)]) : Option Res), (some (rowS secS v22 apply1.2.2.2.l) : Option Res), (some (mapR mb2 .i64 (fun x : Int => x) vSec apply1.2.2.2.fresh) : Option Res), (some (rowS u8S v21 apply1.1) : Option Res)], [Fact.sl u8S vimage1 image, Fact.sl u8S v7 Data1, Fact.sl RangeS v8 Ranges1, Fact.sl SegS v5 (cut1 ++ cut2), Fact.sl (Shape.slice SegS) v6 [[(Seg.mk (0 : UInt64) (u32 (len bytes1.1)) false), (Seg.mk (8192 : UInt64) (u32 (wi (rp0.Room + (1 : Int)))) true)], cut1 ++ cut2]]⟩ a w) [([], []), ([], [14, 15, 16]), ([13], [15, 16]), ([13, 14], [16]), ([13, 14, 15], [])] rfl (by kernel_rfl) ?_ (steps_cons ?_ (steps_cons ?_ (steps_cons ?_ (steps_cons ?_ (steps_cons ?_ (steps_nil)))))) ?_
            ·intro a w hs
             exact hs.startF [160, 161, 162, 163, 164] [0, 1, 2, 3, 4, 5, 6, 7, 8, 9, 10] [0, 1, 2, 3, 4] rfl rfl rfl rfl
            ·intro L a w hv K Q hK
             have hs := hv
             refine wpOp_yes rfl rfl rfl hs (congrArg (fun b => some (Value.bool b)) hg19) (OpT_move rfl rfl rfl rfl) ?_
             rintro _ rfl a' w' hs'
             exact hK a' w' (hs'.putF (i := 16) rfl [0, 1, 2, 3, 4, 5, 6, 7, 8, 9, 10] [0, 1, 2, 3, 4] rfl rfl rfl rfl)
            ·intro L a w hv K Q hK
             have hs := hv
             refine wpOp_yes rfl rfl rfl hs (congrArg (fun b => some (Value.bool b)) hg19) (OpT_move rfl rfl rfl rfl) ?_
             rintro _ rfl a' w' hs'
             exact hK a' w' (hs'.putF (i := 17) rfl [0, 1, 2, 3, 4, 5, 6, 7, 8, 9, 10] [0, 1, 2, 3, 4] rfl rfl rfl rfl)
            ·intro L a w hv K Q hK
             have hs := hv
             refine wpOp_yes rfl rfl rfl hs (congrArg (fun b => some (Value.bool b)) hg19) (OpT_lenO rfl rfl rfl rfl Try.underlying26 (i := 10) rfl) ?_
             rintro _ rfl a' w' hs'
             exact hK a' w' (hs'.putF (i := 18) rfl [0, 1, 2, 3, 4, 5, 6, 7, 8, 9, 10] [0, 1, 2, 3, 4] rfl rfl rfl rfl)
            ·intro L a w hv K Q hK
             have hs := hv
             refine wpOp_yes rfl rfl rfl hs (congrArg (fun b => some (Value.bool b)) hg19) (OpT_cnv rfl rfl rfl rfl (cnv_i_u32 (n := len apply1.1) Try.underlying3 Try.underlying29)) ?_
             rintro _ rfl a' w' hs'
             exact hK a' w' (hs'.putF (i := 19) rfl [0, 1, 2, 3, 4, 5, 6, 7, 8, 9, 10] [0, 1, 2, 3, 4] rfl rfl rfl rfl)
            ·intro L a w hv K Q hK
             have hs := hv
             refine wpOp_yes rfl rfl rfl hs (congrArg (fun b => some (Value.bool b)) hg19) (OpT_bin rfl rfl rfl rfl rfl (bin_add_u32 (a := u32 (len apply1.1)) (b := (1 : UInt32)))) ?_
             rintro _ rfl a' w' hs'
             exact hK a' w' (hs'.putF (i := 20) rfl [0, 1, 2, 3, 4, 5, 6, 7, 8, 9, 10] [0, 1, 2, 3, 4] rfl rfl rfl rfl)
            ·intro L a w hL hv
             rw [allTrue hL] at hv
             have hs := hv
             refine gZ hs [1, 2, 4, 9, 12, 13, 81, 82, 83, 14, 18, 21, 22, 24, 159, 160, 164] [0, 1, 2, 3, 4, 5, 6, 7, 8, 9, 10] [0, 1, 2, 3, 4] rfl rfl rfl rfl ?_
             clear hs hL
             refine TA_yes htb (by kernel_rfl) rfl rfl rfl (congrArg (fun b => some (Value.bool b)) hg19) (OpT_bin rfl rfl rfl rfl rfl (bin_neq_u32 (a := do1.1) (b := (u32 (len apply1.1)) + (1 : UInt32)))) ?_
             rintro _ rfl
             refine TA_step htb (by kernel_rfl) rfl rfl (OpT_pickF rfl rfl rfl (congrArg (fun b => some (Value.bool b)) hg19) rfl) ?_
             refine TA_step htb (by kernel_rfl) rfl rfl (OpT_move rfl rfl rfl rfl) ?_
             refine aZ [1, 2, 4, 9, 12, 13, 81, 82, 83, 14, 18, 21, 22, 24, 167] [0, 1, 2, 3, 4, 5, 6, 7, 8, 9, 10] [0, 1, 2, 3, 4] rfl rfl rfl rfl ?_
             refine TA_retire (i := 6) rfl ?_
             refine TA_retire (i := 10) rfl ?_
             obtain ⟨hg20, h⟩ := chk_e h
             replace hg20 := not_t hg20
             obtain ⟨hc2, h⟩ := chk_e h
             refine TA_seg (lo := 20) (hi := 27) htb rfl rfl (by kernel_rfl) (fun c L a w => ∃ (v23 : Value), Sat c ⟨[(1, some (vimage1)), (2, some (vU64 feats)), (4, some (.pointer (some ⟨b1, 0, none⟩))), (9, some (v9)), (12, some (v5)), (13, some (.pointer (some ⟨b2, 0, none⟩))), (81, some (v6)), (82, some (vI (len [[(Seg.mk (0 : UInt64) (u32 (len bytes1.1)) false), (Seg.mk (8192 : UInt64) (u32 (wi (rp0.Room + (1 : Int)))) true)], cut1 ++ cut2]))), (83, some (vI x1)), (14, some (vI x1)), (18, some (.pointer (some ⟨b4, 0, none⟩))), (21, some (v18)), (22, some (.pointer (some ⟨b5, 0, none⟩))), (24, some (v21)), (167, some (vB (do1.1 != ((u32 (len apply1.1)) + (1 : UInt32))))), (168, bif L 20 then some (v18) else none), (169, bif L 21 then some (v21) else none), (170, bif L 22 then some (vI (len apply1.1)) else none), (171, bif L 23 then some (v23) else none), (172, bif L 24 then some (vS (sub read1.1 (0 : Int) (len apply1.1))) else none), (173, bif L 25 then some (v21) else none), (174, bif L 26 then some (vS apply1.1) else none)], [(some (cellsR b1 35 [vU32 Type1, vU64 Sector1, v7, vI Room1, v8]) : Option Res), (some (rowS u8S v9 l1) : Option Res), (some (cellsR b2 54 [vS m1.a0, vS m1.a1]) : Option Res), (some (cellsR b4 71 [v17, .map (some mb1)]) : Option Res), (some (rowS secS v17 do1.2.2.2.l) : Option Res), (some (mapR mb1 .i64 (fun x : Int => x) vSec do1.2.2.2.fresh) : Option Res), (none : Option Res), (some (cellsR b5 71 [v22, .map (some mb2)]) : Option Res), (some (rowS secS v22 apply1.2.2.2.l) : Option Res), (some (mapR mb2 .i64 (fun x : Int => x) vSec apply1.2.2.2.fresh) : Option Res), (none : Option Res)], [Fact.sl u8S vimage1 image, Fact.sl u8S v7 Data1, Fact.sl RangeS v8 Ranges1, Fact.sl SegS v5 (cut1 ++ cut2), Fact.sl (Shape.slice SegS) v6 [[(Seg.mk (0 : UInt64) (u32 (len bytes1.1)) false), (Seg.mk (8192 : UInt64) (u32 (wi (rp0.Room + (1 : Int)))) true)], cut1 ++ cut2], Fact.sl u8S v18 read1.1, Fact.sl u8S v21 apply1.1, (bif L 23 then Fact.sl u8S v23 (sub read1.1 (0 : Int) (len apply1.1)) else Fact.tt)]⟩ a w) [([], [23, 24]), ([], [22, 23, 24]), ([21], [23, 24]), ([20, 21, 22], [24]), ([20, 21, 22, 23], []), ([], [26]), ([25], [])] rfl (by kernel_rfl) ?_ (steps_cons ?_ (steps_cons ?_ (steps_cons ?_ (steps_cons ?_ (steps_cons ?_ (steps_cons ?_ (steps_cons ?_ (steps_nil)))))))) ?_
             ·intro a w hs
              exact ⟨undef, hs.startF [168, 169, 170, 171, 172, 173, 174] [0, 1, 2, 3, 4, 5, 6, 7, 8, 9, 10] [0, 1, 2, 3, 4, 5, 6, 7] rfl rfl rfl rfl⟩
             ·intro L a w hv K Q hK
              obtain ⟨v23, hs⟩ := hv
              refine wpOp_yes rfl rfl rfl hs (congrArg (fun b => some (Value.bool b)) hg20) (OpT_move rfl rfl rfl rfl) ?_
              rintro _ rfl a' w' hs'
              exact hK a' w' ⟨v23, hs'.putF (i := 15) rfl [0, 1, 2, 3, 4, 5, 6, 7, 8, 9, 10] [0, 1, 2, 3, 4, 5, 6, 7] rfl rfl rfl rfl⟩
             ·intro L a w hv K Q hK
              obtain ⟨v23, hs⟩ := hv
              refine wpOp_yes rfl rfl rfl hs (congrArg (fun b => some (Value.bool b)) hg20) (OpT_move rfl rfl rfl rfl) ?_
              rintro _ rfl a' w' hs'
              exact hK a' w' ⟨v23, hs'.putF (i := 16) rfl [0, 1, 2, 3, 4, 5, 6, 7, 8, 9, 10] [0, 1, 2, 3, 4, 5, 6, 7] rfl rfl rfl rfl⟩
             ·intro L a w hv K Q hK
              obtain ⟨v23, hs⟩ := hv
              refine wpOp_yes rfl rfl rfl hs (congrArg (fun b => some (Value.bool b)) hg20) (OpT_lenS rfl rfl rfl rfl Try.underlying26 (i := 6) rfl) ?_
              rintro _ rfl a' w' hs'
              exact hK a' w' ⟨v23, hs'.putF (i := 17) rfl [0, 1, 2, 3, 4, 5, 6, 7, 8, 9, 10] [0, 1, 2, 3, 4, 5, 6, 7] rfl rfl rfl rfl⟩
             ·intro L a w hv K Q hK
              obtain ⟨v23, hs⟩ := hv
              refine wpOp_yes rfl rfl rfl hs (congrArg (fun b => some (Value.bool b)) hg20) (OpT_sliceH (m := len apply1.1) rfl rfl rfl rfl rfl slF26 (i := 5) rfl hc2) ?_
              rintro _ ⟨v23', rfl⟩ a' w' hs'
              exact hK a' w' ⟨v23', hs'.putF (i := 18) rfl [0, 1, 2, 3, 4, 5, 6, 7, 8, 9, 10] [0, 1, 2, 3, 4, 5, 6, 8] rfl rfl rfl rfl⟩
             ·intro L a w hv K Q hK
              obtain ⟨v23, hs⟩ := hv
              refine wpOp_yes rfl rfl rfl hs (congrArg (fun b => some (Value.bool b)) hg20) (OpT_strS rfl rfl rfl rfl Try.underlying26 Try.underlying5 Try.underlying9 (i := 7) rfl) ?_
              rintro _ rfl a' w' hs'
              exact hK a' w' ⟨v23, hs'.putF (i := 19) rfl [0, 1, 2, 3, 4, 5, 6, 7, 8, 9, 10] [0, 1, 2, 3, 4, 5, 6, 7] rfl rfl rfl rfl⟩
             ·intro L a w hv K Q hK
              obtain ⟨v23, hs⟩ := hv
              refine wpOp_yes rfl rfl rfl hs (congrArg (fun b => some (Value.bool b)) hg20) (OpT_move rfl rfl rfl rfl) ?_
              rintro _ rfl a' w' hs'
              exact hK a' w' ⟨v23, hs'.putF (i := 20) rfl [0, 1, 2, 3, 4, 5, 6, 7, 8, 9, 10] [0, 1, 2, 3, 4, 5, 6, 7] rfl rfl rfl rfl⟩
             ·intro L a w hv K Q hK
              obtain ⟨v23, hs⟩ := hv
              refine wpOp_yes rfl rfl rfl hs (congrArg (fun b => some (Value.bool b)) hg20) (OpT_strS rfl rfl rfl rfl Try.underlying26 Try.underlying5 Try.underlying9 (i := 6) rfl) ?_
              rintro _ rfl a' w' hs'
              exact hK a' w' ⟨v23, hs'.putF (i := 21) rfl [0, 1, 2, 3, 4, 5, 6, 7, 8, 9, 10] [0, 1, 2, 3, 4, 5, 6, 7] rfl rfl rfl rfl⟩
             ·intro L a w hL hv
              rw [allTrue hL] at hv
              obtain ⟨v23, hs⟩ := hv
              refine gZ hs [1, 2, 4, 9, 12, 13, 81, 82, 83, 14, 18, 21, 22, 167, 172, 174] [0, 1, 2, 3, 4, 5, 7, 8, 9] [0, 1, 2, 3, 4, 5] rfl rfl rfl rfl ?_
              clear hs hL
              refine TA_yes htb (by kernel_rfl) rfl rfl rfl (congrArg (fun b => some (Value.bool b)) hg20) (OpT_bin rfl rfl rfl rfl rfl (bin_neq_s (a := sub read1.1 (0 : Int) (len apply1.1)) (b := apply1.1))) ?_
              rintro _ rfl
              refine TA_step htb (by kernel_rfl) rfl rfl (OpT_pickF rfl rfl rfl (congrArg (fun b => some (Value.bool b)) hg20) rfl) ?_
              refine TA_step htb (by kernel_rfl) rfl rfl (OpT_move rfl rfl rfl rfl) ?_
              refine aZ [1, 2, 4, 9, 12, 13, 81, 82, 83, 14, 18, 21, 22, 177] [0, 1, 2, 3, 4, 5, 6, 7, 8] [0, 1, 2, 3, 4, 5] rfl rfl rfl rfl ?_
              obtain ⟨hg21, h⟩ := chk_e h
              replace hg21 := not_t hg21
              obtain ⟨image1, hx21, h⟩ := ob_e h
              obtain ⟨image2, hx22, h⟩ := ob_e h
              refine TA_seg (lo := 30) (hi := 36) htb rfl rfl (by kernel_rfl) (fun c L a w => ∃ (v24 : Value), ∃ (v25 : Value), ∃ (v26 : Value), ∃ (v27 : Value), Sat c ⟨[(1, some (vimage1)), (2, some (vU64 feats)), (4, some (.pointer (some ⟨b1, 0, none⟩))), (9, some (v9)), (12, some (v5)), (13, some (.pointer (some ⟨b2, 0, none⟩))), (81, some (v6)), (82, some (vI (len [[(Seg.mk (0 : UInt64) (u32 (len bytes1.1)) false), (Seg.mk (8192 : UInt64) (u32 (wi (rp0.Room + (1 : Int)))) true)], cut1 ++ cut2]))), (83, some (vI x1)), (14, some (vI x1)), (18, some (.pointer (some ⟨b4, 0, none⟩))), (21, some (v18)), (22, some (.pointer (some ⟨b5, 0, none⟩))), (177, some (vB ((sub read1.1 (0 : Int) (len apply1.1)) != apply1.1))), (178, bif L 30 then some (.pointer (some ⟨b5, 0, none⟩)) else none), (179, bif L 31 then some (v24) else none), (180, bif L 32 then some (vS image1.1) else none), (181, bif L 33 then some (.pointer (some ⟨b4, 0, none⟩)) else none), (182, bif L 34 then some (v26) else none), (183, bif L 35 then some (vS image2.1) else none)], [(some (cellsR b1 35 [vU32 Type1, vU64 Sector1, v7, vI Room1, v8]) : Option Res), (some (rowS u8S v9 l1) : Option Res), (some (cellsR b2 54 [vS m1.a0, vS m1.a1]) : Option Res), (bif L 34 then some (cellsR b4 71 [v27, .map (some mb1)]) else some (cellsR b4 71 [v17, .map (some mb1)]) : Option Res), (bif L 34 then some (rowS secS v27 image2.2.l) else some (rowS secS v17 do1.2.2.2.l) : Option Res), (bif L 34 then some (mapR mb1 .i64 (fun x : Int => x) vSec image2.2.fresh) else some (mapR mb1 .i64 (fun x : Int => x) vSec do1.2.2.2.fresh) : Option Res), (bif L 31 then some (cellsR b5 71 [v25, .map (some mb2)]) else some (cellsR b5 71 [v22, .map (some mb2)]) : Option Res), (bif L 31 then some (rowS secS v25 image1.2.l) else some (rowS secS v22 apply1.2.2.2.l) : Option Res), (bif L 31 then some (mapR mb2 .i64 (fun x : Int => x) vSec image1.2.fresh) else some (mapR mb2 .i64 (fun x : Int => x) vSec apply1.2.2.2.fresh) : Option Res)], [Fact.sl u8S vimage1 image, Fact.sl u8S v7 Data1, Fact.sl RangeS v8 Ranges1, Fact.sl SegS v5 (cut1 ++ cut2), Fact.sl (Shape.slice SegS) v6 [[(Seg.mk (0 : UInt64) (u32 (len bytes1.1)) false), (Seg.mk (8192 : UInt64) (u32 (wi (rp0.Room + (1 : Int)))) true)], cut1 ++ cut2], Fact.sl u8S v18 read1.1, (bif L 31 then Fact.sl u8S v24 image1.1 else Fact.tt), (bif L 34 then Fact.sl u8S v26 image2.1 else Fact.tt)]⟩ a w) [([], [31, 32, 34, 35]), ([30], [32, 34, 35]), ([30, 31], []), ([], [34, 35]), ([30, 31, 33], [35]), ([30, 31, 33, 34], [])] rfl (by kernel_rfl) ?_ (steps_cons ?_ (steps_cons ?_ (steps_cons ?_ (steps_cons ?_ (steps_cons ?_ (steps_cons ?_ (steps_nil))))))) ?_
              ·intro a w hs
               exact ⟨undef, undef, undef, undef, hs.startF [178, 179, 180, 181, 182, 183] [0, 1, 2, 3, 4, 5, 6, 7, 8] [0, 1, 2, 3, 4, 5, 6, 7] rfl rfl rfl rfl⟩
              ·intro L a w hv K Q hK
               obtain ⟨v24, v25, v26, v27, hs⟩ := hv
               refine wpOp_yes rfl rfl rfl hs (congrArg (fun b => some (Value.bool b)) hg21) (OpT_move rfl rfl rfl rfl) ?_
               rintro _ rfl a' w' hs'
               exact hK a' w' ⟨v24, v25, v26, v27, hs'.putF (i := 14) rfl [0, 1, 2, 3, 4, 5, 6, 7, 8] [0, 1, 2, 3, 4, 5, 6, 7] rfl rfl rfl rfl⟩
              ·intro L a w hv K Q hK
               obtain ⟨v24, v25, v26, v27, hs⟩ := hv
               refine wpOp_yes rfl rfl rfl hs (congrArg (fun b => some (Value.bool b)) hg21) (OpT_callP [0, 1, 2, 3, 4, 5, 9, 10, 11] (ws_sectors_Store_Image hx21) [6, 7, 8] [] rfl rfl rfl rfl rfl callee17 rfl rfl rfl rfl rfl) ?_
               rintro _ ⟨v24', _, _, ⟨_, v25', rfl, rfl, rfl⟩, rfl⟩ a' w' hs'
               exact hK a' w' ⟨v24', v25', v26, v27, hs'.putF (i := 15) rfl [0, 1, 2, 3, 4, 5, 6, 7, 8] [0, 1, 2, 3, 4, 5, 8, 7] rfl rfl rfl rfl⟩
              ·intro L a w hv K Q hK
               obtain ⟨v24, v25, v26, v27, hs⟩ := hv
               refine wpOp_yes rfl rfl rfl hs (congrArg (fun b => some (Value.bool b)) hg21) (OpT_strS rfl rfl rfl rfl Try.underlying26 Try.underlying5 Try.underlying9 (i := 6) rfl) ?_
               rintro _ rfl a' w' hs'
               exact hK a' w' ⟨v24, v25, v26, v27, hs'.putF (i := 16) rfl [0, 1, 2, 3, 4, 5, 6, 7, 8] [0, 1, 2, 3, 4, 5, 6, 7] rfl rfl rfl rfl⟩
              ·intro L a w hv K Q hK
               obtain ⟨v24, v25, v26, v27, hs⟩ := hv
               refine wpOp_yes rfl rfl rfl hs (congrArg (fun b => some (Value.bool b)) hg21) (OpT_move rfl rfl rfl rfl) ?_
               rintro _ rfl a' w' hs'
               exact hK a' w' ⟨v24, v25, v26, v27, hs'.putF (i := 17) rfl [0, 1, 2, 3, 4, 5, 6, 7, 8] [0, 1, 2, 3, 4, 5, 6, 7] rfl rfl rfl rfl⟩
              ·intro L a w hv K Q hK
               obtain ⟨v24, v25, v26, v27, hs⟩ := hv
               refine wpOp_yes rfl rfl rfl hs (congrArg (fun b => some (Value.bool b)) hg21) (OpT_callP [0, 1, 2, 9, 10, 11, 6, 7, 8] (ws_sectors_Store_Image hx22) [3, 4, 5] [] rfl rfl rfl rfl rfl callee17 rfl rfl rfl rfl rfl) ?_
               rintro _ ⟨v26', _, _, ⟨_, v27', rfl, rfl, rfl⟩, rfl⟩ a' w' hs'
               exact hK a' w' ⟨v24, v25, v26', v27', hs'.putF (i := 18) rfl [0, 1, 2, 3, 4, 5, 6, 7, 8] [0, 1, 2, 3, 4, 5, 6, 8] rfl rfl rfl rfl⟩
              ·intro L a w hv K Q hK
               obtain ⟨v24, v25, v26, v27, hs⟩ := hv
               refine wpOp_yes rfl rfl rfl hs (congrArg (fun b => some (Value.bool b)) hg21) (OpT_strS rfl rfl rfl rfl Try.underlying26 Try.underlying5 Try.underlying9 (i := 7) rfl) ?_
               rintro _ rfl a' w' hs'
               exact hK a' w' ⟨v24, v25, v26, v27, hs'.putF (i := 19) rfl [0, 1, 2, 3, 4, 5, 6, 7, 8] [0, 1, 2, 3, 4, 5, 6, 7] rfl rfl rfl rfl⟩
              ·intro L a w hL hv
               rw [allTrue hL] at hv
               obtain ⟨v24, v25, v26, v27, hs⟩ := hv
               refine gZ hs [1, 2, 4, 9, 12, 13, 81, 82, 83, 14, 18, 21, 177, 180, 183] [0, 1, 2, 3, 4, 5] [0, 1, 2, 3, 4, 5] rfl rfl rfl rfl ?_
               clear hs hL
               refine TA_yes htb (by kernel_rfl) rfl rfl rfl (congrArg (fun b => some (Value.bool b)) hg21) (OpT_bin rfl rfl rfl rfl rfl (bin_neq_s (a := image1.1) (b := image2.1))) ?_
               rintro _ rfl
               refine TA_step htb (by kernel_rfl) rfl rfl (OpT_pickF rfl rfl rfl (congrArg (fun b => some (Value.bool b)) hg21) rfl) ?_
               refine TA_end rfl ?_
               refine tZ [1, 2, 4, 9, 12, 13, 81, 82, 83, 14, 18, 21, 185] [0, 1, 2, 3, 4, 5] [0, 1, 2, 3, 4, 5] rfl rfl rfl rfl ?_
               obtain ⟨hg22, h⟩ := chk_e h
               replace hg22 := not_t hg22
               refine Tk_condF (congrArg (fun b => some (Value.bool b)) hg22) ?_
               refine Tk_skip (Tk_drawT (by kernel_rfl) ?_)
               refine TA_tb [0, 0, 2, 0, 8, 24, 62, 127, 255] (by kernel_rfl) fun htb => ?_
               refine aZ [1, 2, 4, 9, 12, 13, 81, 82, 83, 14, 18, 21] [0, 1, 2, 3, 4, 5] [0, 1, 2, 3, 4, 5] rfl rfl rfl rfl ?_
               obtain ⟨image3, hx23, h⟩ := ob_e h
               obtain ⟨hc3, h⟩ := chk_e h
               refine TA_seg (lo := 0) (hi := 7) htb rfl rfl (by kernel_rfl) (fun c L a w => ∃ (v28 : Value), ∃ (v29 : Value), Sat c ⟨[(1, some (vimage1)), (2, some (vU64 feats)), (4, some (.pointer (some ⟨b1, 0, none⟩))), (9, some (v9)), (12, some (v5)), (13, some (.pointer (some ⟨b2, 0, none⟩))), (81, some (v6)), (82, some (vI (len [[(Seg.mk (0 : UInt64) (u32 (len bytes1.1)) false), (Seg.mk (8192 : UInt64) (u32 (wi (rp0.Room + (1 : Int)))) true)], cut1 ++ cut2]))), (83, some (vI x1)), (14, some (vI x1)), (18, some (.pointer (some ⟨b4, 0, none⟩))), (21, some (v18)), (186, bif L 0 then some (vI x1) else none), (187, bif L 1 then some (v18) else none), (188, bif L 2 then some (vS read1.1) else none), (189, bif L 3 then some (.pointer (some ⟨b4, 0, none⟩)) else none), (190, bif L 4 then some (v28) else none), (191, bif L 5 then some (vS image3.1) else none), (192, bif L 6 then some (vS (read1.1 ++ image3.1)) else none)], [(some (cellsR b1 35 [vU32 Type1, vU64 Sector1, v7, vI Room1, v8]) : Option Res), (some (rowS u8S v9 l1) : Option Res), (some (cellsR b2 54 [vS m1.a0, vS m1.a1]) : Option Res), (bif L 4 then some (cellsR b4 71 [v29, .map (some mb1)]) else some (cellsR b4 71 [v27, .map (some mb1)]) : Option Res), (bif L 4 then some (rowS secS v29 image3.2.l) else some (rowS secS v27 image2.2.l) : Option Res), (bif L 4 then some (mapR mb1 .i64 (fun x : Int => x) vSec image3.2.fresh) else some (mapR mb1 .i64 (fun x : Int => x) vSec image2.2.fresh) : Option Res)], [Fact.sl u8S vimage1 image, Fact.sl u8S v7 Data1, Fact.sl RangeS v8 Ranges1, Fact.sl SegS v5 (cut1 ++ cut2), Fact.sl (Shape.slice SegS) v6 [[(Seg.mk (0 : UInt64) (u32 (len bytes1.1)) false), (Seg.mk (8192 : UInt64) (u32 (wi (rp0.Room + (1 : Int)))) true)], cut1 ++ cut2], Fact.sl u8S v18 read1.1, (bif L 4 then Fact.sl u8S v28 image3.1 else Fact.tt)]⟩ a w) [([], []), ([], [2, 6]), ([1], [6]), ([], [4, 5, 6]), ([3], [5, 6]), ([3, 4], [6]), ([1, 2, 3, 4, 5], [])] rfl (by kernel_rfl) ?_ (steps_cons ?_ (steps_cons ?_ (steps_cons ?_ (steps_cons ?_ (steps_cons ?_ (steps_cons ?_ (steps_cons ?_ (steps_nil)))))))) ?_
               ·intro a w hs
                exact ⟨undef, undef, hs.startF [186, 187, 188, 189, 190, 191, 192] [0, 1, 2, 3, 4, 5] [0, 1, 2, 3, 4, 5, 6] rfl rfl rfl rfl⟩
               ·intro L a w hv K Q hK
                obtain ⟨v28, v29, hs⟩ := hv
                refine wpOp_go rfl rfl hs (OpT_move rfl rfl rfl rfl) ?_
                rintro _ rfl a' w' hs'
                exact hK a' w' ⟨v28, v29, hs'.putF (i := 12) rfl [0, 1, 2, 3, 4, 5] [0, 1, 2, 3, 4, 5, 6] rfl rfl rfl rfl⟩
               ·intro L a w hv K Q hK
                obtain ⟨v28, v29, hs⟩ := hv
                refine wpOp_go rfl rfl hs (OpT_move rfl rfl rfl rfl) ?_
                rintro _ rfl a' w' hs'
                exact hK a' w' ⟨v28, v29, hs'.putF (i := 13) rfl [0, 1, 2, 3, 4, 5] [0, 1, 2, 3, 4, 5, 6] rfl rfl rfl rfl⟩
               ·intro L a w hv K Q hK
                obtain ⟨v28, v29, hs⟩ := hv
                refine wpOp_go rfl rfl hs (OpT_strS rfl rfl rfl rfl Try.underlying26 Try.underlying5 Try.underlying9 (i := 5) rfl) ?_
                rintro _ rfl a' w' hs'
                exact hK a' w' ⟨v28, v29, hs'.putF (i := 14) rfl [0, 1, 2, 3, 4, 5] [0, 1, 2, 3, 4, 5, 6] rfl rfl rfl rfl⟩
               ·intro L a w hv K Q hK
                obtain ⟨v28, v29, hs⟩ := hv
                refine wpOp_go rfl rfl hs (OpT_move rfl rfl rfl rfl) ?_
                rintro _ rfl a' w' hs'
                exact hK a' w' ⟨v28, v29, hs'.putF (i := 15) rfl [0, 1, 2, 3, 4, 5] [0, 1, 2, 3, 4, 5, 6] rfl rfl rfl rfl⟩
               ·intro L a w hv K Q hK
                obtain ⟨v28, v29, hs⟩ := hv
                refine wpOp_go rfl rfl hs (OpT_callP [0, 1, 2, 6, 7, 8] (ws_sectors_Store_Image hx23) [3, 4, 5] [] rfl rfl rfl rfl rfl callee17 rfl rfl rfl rfl rfl) ?_
                rintro _ ⟨v28', _, _, ⟨_, v29', rfl, rfl, rfl⟩, rfl⟩ a' w' hs'
                exact hK a' w' ⟨v28', v29', hs'.putF (i := 16) rfl [0, 1, 2, 3, 4, 5] [0, 1, 2, 3, 4, 5, 7] rfl rfl rfl rfl⟩
               ·intro L a w hv K Q hK
                obtain ⟨v28, v29, hs⟩ := hv
                refine wpOp_go rfl rfl hs (OpT_strS rfl rfl rfl rfl Try.underlying26 Try.underlying5 Try.underlying9 (i := 6) rfl) ?_
                rintro _ rfl a' w' hs'
                exact hK a' w' ⟨v28, v29, hs'.putF (i := 17) rfl [0, 1, 2, 3, 4, 5] [0, 1, 2, 3, 4, 5, 6] rfl rfl rfl rfl⟩
               ·intro L a w hv K Q hK
                obtain ⟨v28, v29, hs⟩ := hv
                refine wpOp_go rfl rfl hs (OpT_bin rfl rfl rfl rfl rfl (bin_add_s (a := read1.1) (b := image3.1) hc3)) ?_
                rintro _ rfl a' w' hs'
                exact hK a' w' ⟨v28, v29, hs'.putF (i := 18) rfl [0, 1, 2, 3, 4, 5] [0, 1, 2, 3, 4, 5, 6] rfl rfl rfl rfl⟩
               ·intro L a w hL hv
                rw [allTrue hL] at hv
                obtain ⟨v28, v29, hs⟩ := hv
                refine gZ hs [1, 2, 4, 9, 12, 13, 81, 82, 83, 186, 192] [0, 1, 2] [0, 1, 2, 3, 4] rfl rfl rfl rfl ?_
                clear hs hL
                obtain ⟨hc4, h⟩ := chk_e h
                refine TA_step htb (by kernel_rfl) rfl rfl (OpT_indexC rfl rfl rfl rfl rfl arrF54 hc4) ?_
                obtain ⟨hc5, h⟩ := chk_e h
                refine TA_step htb (by kernel_rfl) rfl rfl (OpT_storeX (fun x => [vS x]) [m1.a0, m1.a1] [(m1.st x1.toNat (read1.1 ++ image3.1)).a0, (m1.st x1.toNat (read1.1 ++ image3.1)).a1] [] [] (u := read1.1 ++ image3.1) (cs' := [vS ((m1.st x1.toNat (read1.1 ++ image3.1)).a0), vS ((m1.st x1.toNat (read1.1 ++ image3.1)).a1)]) rfl rfl rfl rfl tyF9 (i := 2) rfl (fun _ => rfl) (fun _ => rfl) rfl rfl rfl rfl hc5 (A2.st_set _ _ _)) ?_
                refine TA_end rfl ?_
                refine tZ [1, 2, 4, 9, 12, 13, 81, 82, 83] [0, 1, 2] [0, 1, 2, 3, 4] rfl rfl rfl rfl ?_
                refine Tk_blk (Tk_region (Tops_step rfl (OpT_bin rfl rfl rfl rfl rfl (bin_add_i (a := x1) (b := (1 : Int)))) ?_))
                refine Tops_step rfl (OpT_move rfl rfl rfl rfl) ?_
                refine Tops_nil (tZ [1, 2, 4, 9, 12, 13, 81, 82, 83] [0, 1, 2] [0, 1, 2, 3, 4] rfl rfl rfl rfl ?_)
                exact Tk_backS (Type1, Sector1, Data1, Room1, Ranges1, l1, (m1.st x1.toNat (read1.1 ++ image3.1)), wi (x1 + (1 : Int)), v7, v8, v9) h [1, 2, 4, 9, 12, 13, 81, 82, 83] [0, 1, 2] [0, 1, 2, 3, 4] rfl rfl rfl rfl rfl
      ·replace h := br_f hg8 h
       refine Tk_condF (congrArg (fun b => some (Value.bool b)) hg8) ?_
       refine Tk_exit _ rfl ?_
       refine Tk_seq (Tk_region (Tops_step rfl (OpT_indexC rfl rfl rfl rfl rfl arrF54 (by decide)) ?_))
       refine Tops_step rfl (OpT_loadC rfl rfl rfl rfl tyF9 (i := 2) rfl rfl) ?_
       refine Tops_step rfl (OpT_indexC rfl rfl rfl rfl rfl arrF54 (by decide)) ?_
       refine Tops_step rfl (OpT_loadC rfl rfl rfl rfl tyF9 (i := 2) rfl rfl) ?_
       refine Tops_step rfl (OpT_bin rfl rfl rfl rfl rfl (bin_eql_s (a := m1.a0) (b := m1.a1))) ?_
       refine Tops_step rfl (OpT_move rfl rfl rfl rfl) ?_
       obtain ⟨hg23, h⟩ := chk_e h
       refine Tops_yes rfl rfl (congrArg (fun b => some (Value.bool b)) hg23) (OpT_move rfl rfl rfl rfl) ?_
       rintro _ rfl
       obtain ⟨check2, hx24, h⟩ := ob_e h
       refine Tops_yes rfl rfl (congrArg (fun b => some (Value.bool b)) hg23) (OpT_call (w_ref_Check05 hx24) [] [3] rfl rfl rfl rfl rfl callee23 rfl rfl rfl rfl) ?_
       rintro _ ⟨_, _, _, ⟨rfl, rfl, rfl⟩, rfl⟩
       refine Tops_yes rfl rfl (congrArg (fun b => some (Value.bool b)) hg23) (OpT_bin rfl rfl rfl rfl rfl (bin_eql_i (a := check2) (b := (0 : Int)))) ?_
       rintro _ rfl
       refine Tops_step rfl (OpT_pickT rfl rfl rfl (congrArg (fun b => some (Value.bool b)) hg23) rfl) ?_
       refine Tops_step rfl (OpT_assign rfl rfl rfl rfl) ?_
       refine Tops_nil (tZ [8] [] [] rfl rfl rfl rfl ?_)
       obtain ⟨hg24, h⟩ := chk_e h
       exact Tk_retV rfl rfl (resA (vs := [.bool true]) rfl ⟨(congrArg (fun b => some (Value.bool b)) hg24), trivial⟩) [] [] rfl rfl rfl ⟨rfl, rfl, rfl⟩
end Go.Proofs.Ytjfdamiilndgeaa
