/- The law SegScatters is walked: it returns what its plain words say. No condition. -/
import Derived.Test.YtkdekmjcfoahjaaWa2
namespace Go.Proofs.Ytkdekmjcfoahjaa

set_option maxRecDepth 100000 in
set_option maxHeartbeats 4000000 in
theorem w_law05zSegScatters {l : List Seg} {b : List UInt8} {fill : UInt8} {vl1 : Value} {vb1 : Value}  (h : law05zSegScatters l b fill = some true) :
  Ctr Try.prog 4 #[vl1, vb1, vU8 fill] [] [Fact.sl SegS vl1 l, Fact.sl u8S vb1 b]
   (fun rv own shr => rv = .bool true ∧ own = [] ∧ shr = []) := by
 unfold law05zSegScatters at h
 refine Ctr.mk (args := [vl1, vb1, vU8 fill]) Try.func4 rfl rfl (fun R0 w0 B => ?_)
 refine Tk_seq ?_
 refine Tk_region ?_
 refine Tops_step rfl (OpT_assign rfl rfl rfl rfl) ?_
 refine Tops_nil ?_
 refine Tk_wkS (fr' := [(0, some (vl1)), (1, some (vb1)), (2, some (vU8 fill))]) (own' := []) (shr' := [Fact.sl SegS vl1 l, Fact.sl u8S vb1 b]) [0, 1, 2] [] [0, 1] rfl rfl rfl rfl ?_
 refine Tk_seq ?_
 refine Tk_seq ?_
 refine Tk_region ?_
 obtain ⟨lives1, hx1, h⟩ := ob_e h
 refine Tops_exP rfl (OpT_call (w_law05zlives hx1) [] [] rfl rfl rfl rfl rfl callee8 rfl rfl rfl rfl) ?_
 rintro _ ⟨_, _, _, ⟨rfl, rfl, rfl⟩, rfl⟩
 refine Tops_step rfl (OpT_not rfl rfl rfl rfl) ?_
 refine Tops_nil ?_
 refine Tk_wkS (fr' := [(0, some (vl1)), (1, some (vb1)), (2, some (vU8 fill)), (23, some (vB (!lives1)))]) (own' := []) (shr' := [Fact.sl SegS vl1 l, Fact.sl u8S vb1 b]) [0, 1, 2, 23] [] [0, 1] rfl rfl rfl rfl ?_
 obtain ⟨hg1, h⟩ := chk_e h
 replace hg1 := not_t hg1
 refine Tk_condF (congrArg (fun b => some (Value.bool b)) hg1) ?_
 refine Tk_skip ?_
 refine Tk_seq ?_
 refine Tk_seq ?_
 refine Tk_region ?_
 refine Tops_step rfl (OpT_move rfl rfl rfl rfl) ?_
 refine Tops_step rfl (OpT_lenS rfl rfl rfl rfl Try.underlying22 (i := 0) rfl) ?_
 refine Tops_step rfl (OpT_bin rfl rfl rfl rfl rfl (bin_gtr_i (a := len l) (b := (100 : Int)))) ?_
 refine Tops_step rfl (OpT_move rfl rfl rfl rfl) ?_
 rcases Bool.eq_false_or_eq_true (decide ((len l) > (100 : Int))) with hg2 | hg2
 ·replace h := br_t hg2 h
  refine Tops_no rfl rfl (congrArg (fun b => some (Value.bool b)) hg2) rfl rfl ?_
  refine Tops_no rfl rfl (congrArg (fun b => some (Value.bool b)) hg2) rfl rfl ?_
  refine Tops_no rfl rfl (congrArg (fun b => some (Value.bool b)) hg2) rfl rfl ?_
  refine Tops_step rfl (OpT_pickT rfl rfl rfl (congrArg (fun b => some (Value.bool b)) hg2) rfl) ?_
  refine Tops_step rfl (OpT_move rfl rfl rfl rfl) ?_
  refine Tops_no rfl rfl rfl rfl rfl ?_
  refine Tops_no rfl rfl rfl rfl rfl ?_
  refine Tops_no rfl rfl rfl rfl rfl ?_
  refine Tops_step rfl (OpT_pickT rfl rfl rfl rfl rfl) ?_
  refine Tops_nil ?_
  refine Tk_wkS (fr' := [(0, some (vl1)), (1, some (vb1)), (2, some (vU8 fill)), (36, some (vB true))]) (own' := []) (shr' := [Fact.sl SegS vl1 l, Fact.sl u8S vb1 b]) [0, 1, 2, 36] [] [0, 1] rfl rfl rfl rfl ?_
  refine Tk_condT rfl ?_
  refine Tk_seq ?_
  refine Tk_region ?_
  refine Tops_step rfl (OpT_assign rfl rfl rfl rfl) ?_
  refine Tops_nil ?_
  refine Tk_wkS (fr' := [(6, some (vB true))]) (own' := []) (shr' := []) [6] [] [] rfl rfl rfl rfl ?_
  exact Tk_retV rfl rfl (resA (vs := [.bool true]) rfl ⟨rfl, trivial⟩) [] [] rfl rfl rfl ⟨rfl, rfl, rfl⟩
 ·replace h := br_f hg2 h
  refine Tops_yes rfl rfl (congrArg (fun b => some (Value.bool b)) hg2) (OpT_move rfl rfl rfl rfl) ?_
  rintro _ rfl
  refine Tops_yes rfl rfl (congrArg (fun b => some (Value.bool b)) hg2) (OpT_lenS rfl rfl rfl rfl Try.underlying33 (i := 1) rfl) ?_
  rintro _ rfl
  refine Tops_yes rfl rfl (congrArg (fun b => some (Value.bool b)) hg2) (OpT_bin rfl rfl rfl rfl rfl (bin_gtr_i (a := len b) (b := (20000 : Int)))) ?_
  rintro _ rfl
  refine Tops_step rfl (OpT_pickF rfl rfl rfl (congrArg (fun b => some (Value.bool b)) hg2) rfl) ?_
  refine Tops_step rfl (OpT_move rfl rfl rfl rfl) ?_
  rcases Bool.eq_false_or_eq_true (decide ((len b) > (20000 : Int))) with hg3 | hg3
  ·replace h := br_t hg3 h
   refine Tops_no rfl rfl (congrArg (fun b => some (Value.bool b)) hg3) rfl rfl ?_
   refine Tops_no rfl rfl (congrArg (fun b => some (Value.bool b)) hg3) rfl rfl ?_
   refine Tops_no rfl rfl (congrArg (fun b => some (Value.bool b)) hg3) rfl rfl ?_
   refine Tops_step rfl (OpT_pickT rfl rfl rfl (congrArg (fun b => some (Value.bool b)) hg3) rfl) ?_
   refine Tops_nil ?_
   refine Tk_wkS (fr' := [(0, some (vl1)), (1, some (vb1)), (2, some (vU8 fill)), (36, some (vB true))]) (own' := []) (shr' := [Fact.sl SegS vl1 l, Fact.sl u8S vb1 b]) [0, 1, 2, 36] [] [0, 1] rfl rfl rfl rfl ?_
   refine Tk_condT rfl ?_
   refine Tk_seq ?_
   refine Tk_region ?_
   refine Tops_step rfl (OpT_assign rfl rfl rfl rfl) ?_
   refine Tops_nil ?_
   refine Tk_wkS (fr' := [(6, some (vB true))]) (own' := []) (shr' := []) [6] [] [] rfl rfl rfl rfl ?_
   exact Tk_retV rfl rfl (resA (vs := [.bool true]) rfl ⟨rfl, trivial⟩) [] [] rfl rfl rfl ⟨rfl, rfl, rfl⟩
  ·replace h := br_f hg3 h
   refine Tops_yes rfl rfl (congrArg (fun b => some (Value.bool b)) hg3) (OpT_move rfl rfl rfl rfl) ?_
   rintro _ rfl
   obtain ⟨check1, hx2, h⟩ := ob_e h
   refine Tops_yes rfl rfl (congrArg (fun b => some (Value.bool b)) hg3) (OpT_call (w_seg_Check hx2) [] [0] rfl rfl rfl rfl rfl callee9 rfl rfl rfl rfl) ?_
   rintro _ ⟨_, _, _, ⟨rfl, rfl, rfl⟩, rfl⟩
   refine Tops_yes rfl rfl (congrArg (fun b => some (Value.bool b)) hg3) (OpT_bin rfl rfl rfl rfl rfl (bin_neq_i (a := check1) (b := (0 : Int)))) ?_
   rintro _ rfl
   refine Tops_step rfl (OpT_pickF rfl rfl rfl (congrArg (fun b => some (Value.bool b)) hg3) rfl) ?_
   refine Tops_nil ?_
   refine Tk_wkS (fr' := [(0, some (vl1)), (1, some (vb1)), (2, some (vU8 fill)), (36, some (vB (check1 != (0 : Int))))]) (own' := []) (shr' := [Fact.sl SegS vl1 l, Fact.sl u8S vb1 b]) [0, 1, 2, 36] [] [0, 1] rfl rfl rfl rfl ?_
   rcases Bool.eq_false_or_eq_true (check1 != (0 : Int)) with hg4 | hg4
   ·replace h := br_t hg4 h
    refine Tk_condT (congrArg (fun b => some (Value.bool b)) hg4) ?_
    refine Tk_seq ?_
    refine Tk_region ?_
    refine Tops_step rfl (OpT_assign rfl rfl rfl rfl) ?_
    refine Tops_nil ?_
    refine Tk_wkS (fr' := [(6, some (vB true))]) (own' := []) (shr' := []) [6] [] [] rfl rfl rfl rfl ?_
    exact Tk_retV rfl rfl (resA (vs := [.bool true]) rfl ⟨rfl, trivial⟩) [] [] rfl rfl rfl ⟨rfl, rfl, rfl⟩
   ·replace h := br_f hg4 h
    refine Tk_condF (congrArg (fun b => some (Value.bool b)) hg4) ?_
    refine Tk_skip ?_
    refine Tk_seq ?_
    refine Tk_region ?_
    refine Tops_step rfl (OpT_build (v := .agg #[vU64 (0 : UInt64), vU64 (2000 : UInt64)]) rfl rfl rfl rfl (bldV (by kernel_rfl))) ?_
    refine Tops_ex rfl (OpT_buildSlice (S := RegionS) (xs := [(Region.mk (0 : UInt64) (2000 : UInt64))]) (css := [[vU64 (0 : UInt64), vU64 (2000 : UInt64)]]) (cs := [vU64 (0 : UInt64), vU64 (2000 : UInt64)]) (e := 38) rfl rfl rfl rfl (bldF slF39 (by decide) (by kernel_rfl)) rfl rfl rfl rfl (rel_plainD (S := RegionS) (xs := [(Region.mk (0 : UInt64) (2000 : UInt64))]) (css := [[vU64 (0 : UInt64), vU64 (2000 : UInt64)]]) rfl rfl)) fun v1 => ?_
    refine Tops_retire (i := 0) rfl ?_
    obtain ⟨new1, hx3, h⟩ := ob_e h
    refine Tops_exP rfl (OpT_call (w_gmem_New hx3) [] [2] rfl rfl rfl rfl rfl callee14 rfl rfl rfl rfl) ?_
    rintro _ ⟨_, _, _, ⟨v2, rfl, rfl, rfl⟩, rfl⟩
    refine Tops_step rfl (OpT_move rfl rfl rfl rfl) ?_
    refine Tops_step rfl (OpT_extract rfl rfl rfl rfl rfl) ?_
    refine Tops_step rfl (OpT_extract rfl rfl rfl rfl rfl) ?_
    refine Tops_step rfl (OpT_assign rfl rfl rfl rfl) ?_
    refine Tops_step rfl (OpT_assign rfl rfl rfl rfl) ?_
    refine Tops_nil ?_
    refine Tk_wkS (fr' := [(0, some (vl1)), (1, some (vb1)), (2, some (vU8 fill)), (7, some (v2)), (8, some (vI new1.2))]) (own' := [some (optR 71 RegionS u8S true gmem_Mem.l gmem_Mem.b v2 new1.1)]) (shr' := [Fact.sl SegS vl1 l, Fact.sl u8S vb1 b]) [0, 1, 2, 7, 8] [1] [0, 1] rfl rfl rfl rfl ?_
    rcases onO_cases h with ⟨ho1, h⟩ | ⟨mem1, ho1, h⟩
    ·cases h
    ·refine Tk_optS (i := 0) rfl ho1 ?_
     rintro b1 v3 v4 vs1 rfl
     refine Tk_seq ?_
     refine Tk_seq ?_
     refine Tk_region ?_
     refine Tops_step rfl (OpT_move rfl rfl rfl rfl) ?_
     refine Tops_step rfl (OpT_bin rfl rfl rfl rfl rfl (bin_neq_i (a := new1.2) (b := (0 : Int)))) ?_
     refine Tops_step rfl (OpT_move rfl rfl rfl rfl) ?_
     rcases Bool.eq_false_or_eq_true (new1.2 != (0 : Int)) with hg5 | hg5
     ·replace h := br_t hg5 h
      refine Tops_no rfl rfl (congrArg (fun b => some (Value.bool b)) hg5) rfl rfl ?_
      refine Tops_no rfl rfl (congrArg (fun b => some (Value.bool b)) hg5) rfl rfl ?_
      refine Tops_no rfl rfl (congrArg (fun b => some (Value.bool b)) hg5) rfl rfl ?_
      refine Tops_no rfl rfl (congrArg (fun b => some (Value.bool b)) hg5) rfl rfl ?_
      refine Tops_step rfl (OpT_pickT rfl rfl rfl (congrArg (fun b => some (Value.bool b)) hg5) rfl) ?_
      refine Tops_nil ?_
      refine Tk_wkS (fr' := [(0, some (vl1)), (1, some (vb1)), (2, some (vU8 fill)), (7, some (.pointer (some ⟨b1, 0, none⟩))), (8, some (vI new1.2)), (50, some (vB true))]) (own' := [some (cellsR b1 71 [v3, v4]), some (rowsX u8S true v4 vs1 mem1.b none)]) (shr' := [Fact.sl SegS vl1 l, Fact.sl u8S vb1 b, Fact.sl RegionS v3 mem1.l]) [0, 1, 2, 7, 8, 50] [0, 1] [0, 1, 2] rfl rfl rfl rfl ?_
      refine Tk_condT rfl ?_
      refine Tk_seq ?_
      refine Tk_region ?_
      refine Tops_step rfl (OpT_move rfl rfl rfl rfl) ?_
      refine Tops_step rfl (OpT_bin rfl rfl rfl rfl rfl (bin_eql_i (a := new1.2) (b := (0 : Int)))) ?_
      refine Tops_step rfl (OpT_assign rfl rfl rfl rfl) ?_
      refine Tops_nil ?_
      refine Tk_wkS (fr' := [(6, some (vB (new1.2 == (0 : Int))))]) (own' := []) (shr' := []) [6] [] [] rfl rfl rfl rfl ?_
      obtain ⟨hg6, h⟩ := chk_e h
      exact Tk_retV rfl rfl (resA (vs := [.bool true]) rfl ⟨(congrArg (fun b => some (Value.bool b)) hg6), trivial⟩) [] [] rfl rfl rfl ⟨rfl, rfl, rfl⟩
     ·replace h := br_f hg5 h
      refine Tops_yes rfl rfl (congrArg (fun b => some (Value.bool b)) hg5) (OpT_move rfl rfl rfl rfl) ?_
      rintro _ rfl
      refine Tops_yes rfl rfl (congrArg (fun b => some (Value.bool b)) hg5) (OpT_move rfl rfl rfl rfl) ?_
      rintro _ rfl
      obtain ⟨in1, hx4, h⟩ := ob_e h
      refine Tops_yes rfl rfl (congrArg (fun b => some (Value.bool b)) hg5) (OpT_callP [2, 3] (w_seg_In hx4) [0, 1] [2, 0] rfl rfl rfl rfl rfl callee15 rfl rfl rfl rfl rfl) ?_
      rintro _ ⟨_, _, _, ⟨rfl, rfl, rfl⟩, rfl⟩
      refine Tops_yes rfl rfl (congrArg (fun b => some (Value.bool b)) hg5) (OpT_bin rfl rfl rfl rfl rfl (bin_neq_i (a := in1) (b := (0 : Int)))) ?_
      rintro _ rfl
      refine Tops_step rfl (OpT_pickF rfl rfl rfl (congrArg (fun b => some (Value.bool b)) hg5) rfl) ?_
      refine Tops_nil ?_
      refine Tk_wkS (fr' := [(0, some (vl1)), (1, some (vb1)), (2, some (vU8 fill)), (7, some (.pointer (some ⟨b1, 0, none⟩))), (8, some (vI new1.2)), (50, some (vB (in1 != (0 : Int))))]) (own' := [some (cellsR b1 71 [v3, v4]), some (rowsX u8S true v4 vs1 mem1.b none)]) (shr' := [Fact.sl SegS vl1 l, Fact.sl u8S vb1 b, Fact.sl RegionS v3 mem1.l]) [0, 1, 2, 7, 8, 50] [0, 1] [0, 1, 2] rfl rfl rfl rfl ?_
      rcases Bool.eq_false_or_eq_true (in1 != (0 : Int)) with hg7 | hg7
      ·replace h := br_t hg7 h
       refine Tk_condT (congrArg (fun b => some (Value.bool b)) hg7) ?_
       refine Tk_seq ?_
       refine Tk_region ?_
       refine Tops_step rfl (OpT_move rfl rfl rfl rfl) ?_
       refine Tops_step rfl (OpT_bin rfl rfl rfl rfl rfl (bin_eql_i (a := new1.2) (b := (0 : Int)))) ?_
       refine Tops_step rfl (OpT_assign rfl rfl rfl rfl) ?_
       refine Tops_nil ?_
       refine Tk_wkS (fr' := [(6, some (vB (new1.2 == (0 : Int))))]) (own' := []) (shr' := []) [6] [] [] rfl rfl rfl rfl ?_
       obtain ⟨hg8, h⟩ := chk_e h
       exact Tk_retV rfl rfl (resA (vs := [.bool true]) rfl ⟨(congrArg (fun b => some (Value.bool b)) hg8), trivial⟩) [] [] rfl rfl rfl ⟨rfl, rfl, rfl⟩
      ·replace h := br_f hg7 h
       refine Tk_condF (congrArg (fun b => some (Value.bool b)) hg7) ?_
       refine Tk_skip ?_
       refine Tk_seq ?_
       refine Tk_region ?_
       obtain ⟨hc1, h⟩ := chk_e h
       obtain ⟨z1, hz1, h⟩ := lt_e h
       refine Tops_ex rfl (OpT_makeL (OpT_makeD u8S rfl (u := (0 : UInt8)) rfl rfl rfl rfl rfl slF33 rfl hc1) hz1) fun v5 => ?_
       refine Tops_step rfl (OpT_assign rfl rfl rfl rfl) ?_
       refine Tops_nil ?_
       refine Tk_wkS (fr' := [(0, some (vl1)), (1, some (vb1)), (2, some (vU8 fill)), (7, some (.pointer (some ⟨b1, 0, none⟩))), (9, some (v5))]) (own' := [some (cellsR b1 71 [v3, v4]), some (rowsX u8S true v4 vs1 mem1.b none), some (rowS u8S v5 z1)]) (shr' := [Fact.sl SegS vl1 l, Fact.sl u8S vb1 b, Fact.sl RegionS v3 mem1.l]) [0, 1, 2, 7, 9] [0, 1, 2] [0, 1, 2] rfl rfl rfl rfl ?_
       refine Tk_seq ?_
       refine Tk_seq ?_
       refine Tk_region ?_
       refine Tops_step rfl (OpT_assign rfl rfl rfl rfl) ?_
       refine Tops_nil ?_
       refine Tk_block ?_
       refine Tk_loopS (σ := (List UInt8) × Int × Value) [0, 1, 2, 7, 9, 10] [0, 1, 2] [0, 1, 2] (fun s => ⟨[(0, some (vl1)), (1, some (vb1)), (2, some (vU8 fill)), (7, some (.pointer (some ⟨b1, 0, none⟩))), (9, some (s.2.2)), (10, some (vI s.2.1))], [some (cellsR b1 71 [v3, v4]), some (rowsX u8S true v4 vs1 mem1.b none), some (rowS u8S s.2.2 s.1)], [Fact.sl SegS vl1 l, Fact.sl u8S vb1 b, Fact.sl RegionS v3 mem1.l]⟩) (fun nf1 s => law05zSegScattersL1 l b fill mem1 nf1 s.1 s.2.1 = some true) fuel (z1, (0 : Int), v5) h rfl rfl rfl rfl rfl (fun s h => by cases h) ?_
       rintro nf1 ⟨l1, i1, v6⟩ h
       replace h : law05zSegScattersL1B l b fill mem1 (law05zSegScattersL1 l b fill mem1 nf1) l1 i1 = some true := h
       unfold law05zSegScattersL1B at h
       refine Tk_seq ?_
       refine Tk_seq ?_
       refine Tk_region ?_
       refine Tops_step rfl (OpT_move rfl rfl rfl rfl) ?_
       refine Tops_step rfl (OpT_move rfl rfl rfl rfl) ?_
       refine Tops_step rfl (OpT_lenO rfl rfl rfl rfl Try.underlying33 (i := 2) rfl) ?_
       refine Tops_step rfl (OpT_bin rfl rfl rfl rfl rfl (bin_lss_i (a := i1) (b := len l1))) ?_
       refine Tops_nil ?_
       refine Tk_wkS (fr' := [(0, some (vl1)), (1, some (vb1)), (2, some (vU8 fill)), (7, some (.pointer (some ⟨b1, 0, none⟩))), (9, some (v6)), (10, some (vI i1)), (57, some (vB (decide (i1 < (len l1)))))]) (own' := [some (cellsR b1 71 [v3, v4]), some (rowsX u8S true v4 vs1 mem1.b none), some (rowS u8S v6 l1)]) (shr' := [Fact.sl SegS vl1 l, Fact.sl u8S vb1 b, Fact.sl RegionS v3 mem1.l]) [0, 1, 2, 7, 9, 10, 57] [0, 1, 2] [0, 1, 2] rfl rfl rfl rfl ?_
       rcases Bool.eq_false_or_eq_true (decide (i1 < (len l1))) with hg9 | hg9
       ·replace h := br_t hg9 h
        refine Tk_condT (congrArg (fun b => some (Value.bool b)) hg9) ?_
        refine Tk_skip ?_
        refine Tk_seq ?_
        refine Tk_block ?_
        refine Tk_region ?_
        refine Tops_step rfl (OpT_move rfl rfl rfl rfl) ?_
        refine Tops_step rfl (OpT_move rfl rfl rfl rfl) ?_
        refine Tops_step rfl (OpT_move rfl rfl rfl rfl) ?_
        obtain ⟨y1, hx5, h⟩ := ob_e h
        refine Tops_step rfl (OpT_idxO rfl rfl rfl rfl rfl slF33 (i := 2) rfl hx5) ?_
        refine Tops_step rfl (OpT_storeO (S := u8S) (u := fill) rfl rfl rfl rfl rfl tyF5 (i := 2) rfl hx5 rfl) ?_
        refine Tops_nil ?_
        refine Tk_wkS (fr' := [(0, some (vl1)), (1, some (vb1)), (2, some (vU8 fill)), (7, some (.pointer (some ⟨b1, 0, none⟩))), (9, some (v6)), (10, some (vI i1))]) (own' := [some (cellsR b1 71 [v3, v4]), some (rowsX u8S true v4 vs1 mem1.b none), some (rowS u8S v6 (l1.set i1.toNat fill))]) (shr' := [Fact.sl SegS vl1 l, Fact.sl u8S vb1 b, Fact.sl RegionS v3 mem1.l]) [0, 1, 2, 7, 9, 10] [0, 1, 2] [0, 1, 2] rfl rfl rfl rfl ?_
        refine Tk_blk ?_
        refine Tk_region ?_
        refine Tops_step rfl (OpT_move rfl rfl rfl rfl) ?_
        refine Tops_step rfl (OpT_bin rfl rfl rfl rfl rfl (bin_add_i (a := i1) (b := (1 : Int)))) ?_
        refine Tops_step rfl (OpT_assign rfl rfl rfl rfl) ?_
        refine Tops_nil ?_
        refine Tk_wkS (fr' := [(0, some (vl1)), (1, some (vb1)), (2, some (vU8 fill)), (7, some (.pointer (some ⟨b1, 0, none⟩))), (9, some (v6)), (10, some (vI (wi (i1 + (1 : Int)))))]) (own' := [some (cellsR b1 71 [v3, v4]), some (rowsX u8S true v4 vs1 mem1.b none), some (rowS u8S v6 (l1.set i1.toNat fill))]) (shr' := [Fact.sl SegS vl1 l, Fact.sl u8S vb1 b, Fact.sl RegionS v3 mem1.l]) [0, 1, 2, 7, 9, 10] [0, 1, 2] [0, 1, 2] rfl rfl rfl rfl ?_
        exact Tk_backS (l1.set i1.toNat fill, wi (i1 + (1 : Int)), v6) h [0, 1, 2, 7, 9, 10] [0, 1, 2] [0, 1, 2] rfl rfl rfl rfl rfl
       ·replace h := br_f hg9 h
        refine Tk_condF (congrArg (fun b => some (Value.bool b)) hg9) ?_
        refine Tk_exit _ rfl ?_
        refine Tk_seq ?_
        refine Tk_region ?_
        refine Tops_step rfl (OpT_move rfl rfl rfl rfl) ?_
        refine Tops_step rfl (OpT_move rfl rfl rfl rfl) ?_
        obtain ⟨own1, hx6, h⟩ := ob_e h
        refine Tops_exP rfl (OpT_callB [2] [0, 1, 2, 3] (w_kit_Own hx6) [] rfl rfl rfl rfl rfl callee17 rfl rfl rfl rfl rfl rfl (bor_cons (bor_row 2 rfl rfl) bor_nil) (by rintro _ _ _ ⟨_, rfl, rfl, rfl⟩; exact ⟨rfl, (ri_cons (ri_row (S := u8S) rfl _ _) ri_nil)⟩)) ?_
        rintro _ ⟨v7, _, _, ⟨_, rfl, rfl, rfl⟩, rfl⟩
        obtain ⟨write1, hx7, h⟩ := ob_e h
        refine Tops_exP rfl (OpT_callB [3] [4, 5, 2, 3] (w_gmem_Mem_Write hx7) [0, 1] rfl rfl rfl rfl rfl callee16 rfl rfl rfl rfl rfl rfl (bor_cons (bor_shr 2 rfl) (bor_cons (bor_row 3 rfl rfl) bor_nil)) (by rintro _ _ _ ⟨rfl, rfl, rfl⟩; exact ⟨rfl, (ri_cons (ri_cells _ _ _) (ri_cons (ri_rows rfl _ _ _ _ _) ri_nil))⟩)) ?_
        rintro _ ⟨_, _, _, ⟨rfl, rfl, rfl⟩, rfl⟩
        refine Tops_nil ?_
        refine Tk_wkS (fr' := [(0, some (vl1)), (1, some (vb1)), (7, some (.pointer (some ⟨b1, 0, none⟩))), (9, some (v6))]) (own' := [some (cellsR b1 71 [v3, v4]), some (rowsX u8S true v4 vs1 write1.2 none), some (rowS u8S v6 l1)]) (shr' := [Fact.sl SegS vl1 l, Fact.sl u8S vb1 b, Fact.sl RegionS v3 mem1.l]) [0, 1, 7, 9] [0, 1, 2] [0, 1, 2] rfl rfl rfl rfl ?_
        refine Tk_seq ?_
        refine Tk_region ?_
        refine Tops_ex rfl (OpT_makeMap .u64 (fun x : UInt64 => (x.toNat : Int)) vB rfl rfl rfl) fun b2 => ?_
        refine Tops_step rfl (OpT_assign rfl rfl rfl rfl) ?_
        refine Tops_nil ?_
        refine Tk_wkS (fr' := [(0, some (vl1)), (1, some (vb1)), (7, some (.pointer (some ⟨b1, 0, none⟩))), (9, some (v6)), (11, some (.map (some b2)))]) (own' := [some (cellsR b1 71 [v3, v4]), some (rowsX u8S true v4 vs1 write1.2 none), some (rowS u8S v6 l1), some (mapR b2 .u64 (fun x : UInt64 => (x.toNat : Int)) vB ([] : List (UInt64 × Bool)))]) (shr' := [Fact.sl SegS vl1 l, Fact.sl u8S vb1 b, Fact.sl RegionS v3 mem1.l]) [0, 1, 7, 9, 11] [0, 1, 2, 3] [0, 1, 2] rfl rfl rfl rfl ?_
        refine Tk_seq ?_
        refine Tk_region ?_
        refine Tops_step rfl (OpT_assign rfl rfl rfl rfl) ?_
        refine Tops_nil ?_
        refine Tk_seq ?_
        refine Tk_seq ?_
        refine Tk_region ?_
        refine Tops_step rfl (OpT_assign rfl rfl rfl rfl) ?_
        refine Tops_nil ?_
        refine Tk_block ?_
        refine Tk_nilrow u64S ?_
        refine Tk_loopS (σ := (List UInt8) × (List (UInt64 × Bool)) × (List UInt64) × Int × Value × Value) [0, 1, 7, 9, 11, 12, 13] [0, 1, 2, 3, 4] [0, 1, 2] (fun s => ⟨[(0, some (vl1)), (1, some (vb1)), (7, some (.pointer (some ⟨b1, 0, none⟩))), (9, some (s.2.2.2.2.1)), (11, some (.map (some b2))), (12, some (s.2.2.2.2.2)), (13, some (vI s.2.2.2.1))], [some (cellsR b1 71 [v3, v4]), some (rowsX u8S true v4 vs1 write1.2 none), some (rowS u8S s.2.2.2.2.1 s.1), some (mapR b2 .u64 (fun x : UInt64 => (x.toNat : Int)) vB s.2.1), some (rowS u64S s.2.2.2.2.2 s.2.2.1)], [Fact.sl SegS vl1 l, Fact.sl u8S vb1 b, Fact.sl RegionS v3 mem1.l]⟩) (fun nf2 s => law05zSegScattersL2 l b mem1 write1 nf2 s.1 s.2.1 s.2.2.1 s.2.2.2.1 = some true) fuel (l1, ([] : List (UInt64 × Bool)), [], (0 : Int), v6, (.slice none 0 0)) h rfl rfl rfl rfl rfl (fun s h => by cases h) ?_
        rintro nf2 ⟨l2, map1, places1, i2, v8, v9⟩ h
        replace h : law05zSegScattersL2B l b mem1 write1 (law05zSegScattersL2 l b mem1 write1 nf2) l2 map1 places1 i2 = some true := h
        unfold law05zSegScattersL2B at h
        refine Tk_seq ?_
        refine Tk_seq ?_
        refine Tk_region ?_
        refine Tops_step rfl (OpT_move rfl rfl rfl rfl) ?_
        refine Tops_step rfl (OpT_move rfl rfl rfl rfl) ?_
        refine Tops_step rfl (OpT_lenS rfl rfl rfl rfl Try.underlying22 (i := 0) rfl) ?_
        refine Tops_step rfl (OpT_bin rfl rfl rfl rfl rfl (bin_lss_i (a := i2) (b := len l))) ?_
        refine Tops_nil ?_
        refine Tk_wkS (fr' := [(0, some (vl1)), (1, some (vb1)), (7, some (.pointer (some ⟨b1, 0, none⟩))), (9, some (v8)), (11, some (.map (some b2))), (12, some (v9)), (13, some (vI i2)), (72, some (vB (decide (i2 < (len l)))))]) (own' := [some (cellsR b1 71 [v3, v4]), some (rowsX u8S true v4 vs1 write1.2 none), some (rowS u8S v8 l2), some (mapR b2 .u64 (fun x : UInt64 => (x.toNat : Int)) vB map1), some (rowS u64S v9 places1)]) (shr' := [Fact.sl SegS vl1 l, Fact.sl u8S vb1 b, Fact.sl RegionS v3 mem1.l]) [0, 1, 7, 9, 11, 12, 13, 72] [0, 1, 2, 3, 4] [0, 1, 2] rfl rfl rfl rfl ?_
        rcases Bool.eq_false_or_eq_true (decide (i2 < (len l))) with hg10 | hg10
        ·replace h := br_t hg10 h
         refine Tk_condT (congrArg (fun b => some (Value.bool b)) hg10) ?_
         refine Tk_skip ?_
         refine Tk_seq ?_
         refine Tk_block ?_
         refine Tk_seq ?_
         refine Tk_region ?_
         refine Tops_step rfl (OpT_assign rfl rfl rfl rfl) ?_
         refine Tops_nil ?_
         refine Tk_wkS (fr' := [(0, some (vl1)), (1, some (vb1)), (7, some (.pointer (some ⟨b1, 0, none⟩))), (9, some (v8)), (11, some (.map (some b2))), (12, some (v9)), (13, some (vI i2)), (14, some (vU64 (0 : UInt64)))]) (own' := [some (cellsR b1 71 [v3, v4]), some (rowsX u8S true v4 vs1 write1.2 none), some (rowS u8S v8 l2), some (mapR b2 .u64 (fun x : UInt64 => (x.toNat : Int)) vB map1), some (rowS u64S v9 places1)]) (shr' := [Fact.sl SegS vl1 l, Fact.sl u8S vb1 b, Fact.sl RegionS v3 mem1.l]) [0, 1, 7, 9, 11, 12, 13, 14] [0, 1, 2, 3, 4] [0, 1, 2] rfl rfl rfl rfl ?_
         refine Tk_block ?_
         refine Tk_loopS (σ := (List UInt8) × (List (UInt64 × Bool)) × (List UInt64) × UInt64 × Value × Value) [0, 1, 7, 9, 11, 12, 13, 14] [0, 1, 2, 3, 4] [0, 1, 2] (fun s => ⟨[(0, some (vl1)), (1, some (vb1)), (7, some (.pointer (some ⟨b1, 0, none⟩))), (9, some (s.2.2.2.2.1)), (11, some (.map (some b2))), (12, some (s.2.2.2.2.2)), (13, some (vI i2)), (14, some (vU64 s.2.2.2.1))], [some (cellsR b1 71 [v3, v4]), some (rowsX u8S true v4 vs1 write1.2 none), some (rowS u8S s.2.2.2.2.1 s.1), some (mapR b2 .u64 (fun x : UInt64 => (x.toNat : Int)) vB s.2.1), some (rowS u64S s.2.2.2.2.2 s.2.2.1)], [Fact.sl SegS vl1 l, Fact.sl u8S vb1 b, Fact.sl RegionS v3 mem1.l]⟩) (fun nf3 s => law05zSegScattersL3 l i2 (law05zSegScattersL2 l b mem1 write1 nf2) nf3 s.1 s.2.1 s.2.2.1 s.2.2.2.1 = some true) fuel (l2, map1, places1, (0 : UInt64), v8, v9) h rfl rfl rfl rfl rfl (fun s h => by cases h) ?_
         rintro nf3 ⟨l3, map2, places2, k1, v10, v11⟩ h
         replace h : law05zSegScattersL3B l i2 (law05zSegScattersL2 l b mem1 write1 nf2) (law05zSegScattersL3 l i2 (law05zSegScattersL2 l b mem1 write1 nf2) nf3) l3 map2 places2 k1 = some true := h
         unfold law05zSegScattersL3B at h
         refine Tk_seq ?_
         refine Tk_seq ?_
         refine Tk_region ?_
         refine Tops_step rfl (OpT_move rfl rfl rfl rfl) ?_
         refine Tops_step rfl (OpT_move rfl rfl rfl rfl) ?_
         refine Tops_step rfl (OpT_move rfl rfl rfl rfl) ?_
         obtain ⟨s1, hx8, h⟩ := ob_e h
         refine Tops_ex rfl (OpT_idxS rfl rfl rfl rfl rfl slF22 (i := 0) rfl hx8) fun p1 => ?_
         refine Tops_ex rfl (OpT_fieldP (S' := u32S) (y := s1.Len) rfl rfl rfl rfl fldF47x1 (i := 3) rfl (by intro h cs hr; subst hr; rfl)) fun p2 => ?_
         refine Tops_step rfl (OpT_loadP rfl rfl rfl rfl tyF45 (i := 4) rfl rfl) ?_
         refine Tops_step rfl (OpT_cnv rfl rfl rfl rfl (cnv_u32_u64 (n := s1.Len) Try.underlying45 Try.underlying23)) ?_
         refine Tops_step rfl (OpT_bin rfl rfl rfl rfl rfl (bin_lss_u64 (a := k1) (b := s1.Len.toUInt64))) ?_
         refine Tops_nil ?_
         refine Tk_wkS (fr' := [(0, some (vl1)), (1, some (vb1)), (7, some (.pointer (some ⟨b1, 0, none⟩))), (9, some (v10)), (11, some (.map (some b2))), (12, some (v11)), (13, some (vI i2)), (14, some (vU64 k1)), (82, some (vB (decide (k1 < s1.Len.toUInt64))))]) (own' := [some (cellsR b1 71 [v3, v4]), some (rowsX u8S true v4 vs1 write1.2 none), some (rowS u8S v10 l3), some (mapR b2 .u64 (fun x : UInt64 => (x.toNat : Int)) vB map2), some (rowS u64S v11 places2)]) (shr' := [Fact.sl SegS vl1 l, Fact.sl u8S vb1 b, Fact.sl RegionS v3 mem1.l]) [0, 1, 7, 9, 11, 12, 13, 14, 82] [0, 1, 2, 3, 4] [0, 1, 2] rfl rfl rfl rfl ?_
         rcases Bool.eq_false_or_eq_true (decide (k1 < s1.Len.toUInt64)) with hg11 | hg11
         ·replace h := br_t hg11 h
          refine Tk_condT (congrArg (fun b => some (Value.bool b)) hg11) ?_
          refine Tk_skip ?_
          refine Tk_seq ?_
          refine Tk_join (α := (List UInt8) × (List (UInt64 × Bool)) × (List UInt64) × Value × Value) (fun s => ⟨[(0, some (vl1)), (1, some (vb1)), (7, some (.pointer (some ⟨b1, 0, none⟩))), (9, some (s.2.2.2.1)), (11, some (.map (some b2))), (12, some (s.2.2.2.2)), (13, some (vI i2)), (14, some (vU64 k1))], [some (cellsR b1 71 [v3, v4]), some (rowsX u8S true v4 vs1 write1.2 none), some (rowS u8S s.2.2.2.1 s.1), some (mapR b2 .u64 (fun x : UInt64 => (x.toNat : Int)) vB s.2.1), some (rowS u64S s.2.2.2.2 s.2.2.1)], [Fact.sl SegS vl1 l, Fact.sl u8S vb1 b, Fact.sl RegionS v3 mem1.l]⟩) (fun s => law05zSegScattersJ4 k1 (law05zSegScattersL3 l i2 (law05zSegScattersL2 l b mem1 write1 nf2) nf3) s.1 s.2.1 s.2.2.1 = some true) ?_ ?_
          ·rintro ⟨l4, map3, places3, v12, v13⟩ h
           replace h : law05zSegScattersJ4 k1 (law05zSegScattersL3 l i2 (law05zSegScattersL2 l b mem1 write1 nf2) nf3) l4 map3 places3 = some true := h
           unfold law05zSegScattersJ4 at h
           refine Tk_region ?_
           refine Tops_step rfl (OpT_move rfl rfl rfl rfl) ?_
           refine Tops_step rfl (OpT_bin rfl rfl rfl rfl rfl (bin_add_u64 (a := k1) (b := (1 : UInt64)))) ?_
           refine Tops_step rfl (OpT_assign rfl rfl rfl rfl) ?_
           refine Tops_nil ?_
           refine Tk_wkS (fr' := [(0, some (vl1)), (1, some (vb1)), (7, some (.pointer (some ⟨b1, 0, none⟩))), (9, some (v12)), (11, some (.map (some b2))), (12, some (v13)), (13, some (vI i2)), (14, some (vU64 (k1 + (1 : UInt64))))]) (own' := [some (cellsR b1 71 [v3, v4]), some (rowsX u8S true v4 vs1 write1.2 none), some (rowS u8S v12 l4), some (mapR b2 .u64 (fun x : UInt64 => (x.toNat : Int)) vB map3), some (rowS u64S v13 places3)]) (shr' := [Fact.sl SegS vl1 l, Fact.sl u8S vb1 b, Fact.sl RegionS v3 mem1.l]) [0, 1, 7, 9, 11, 12, 13, 14] [0, 1, 2, 3, 4] [0, 1, 2] rfl rfl rfl rfl ?_
           exact Tk_backS (l4, map3, places3, k1 + (1 : UInt64), v12, v13) h [0, 1, 7, 9, 11, 12, 13, 14] [0, 1, 2, 3, 4] [0, 1, 2] rfl rfl rfl rfl rfl
          ·intro HJ1
           refine Tk_block ?_
           refine Tk_seq ?_
           refine Tk_region ?_
           refine Tops_step rfl (OpT_move rfl rfl rfl rfl) ?_
           refine Tops_step rfl (OpT_move rfl rfl rfl rfl) ?_
           obtain ⟨s2, hx9, h⟩ := ob_e h
           refine Tops_ex rfl (OpT_idxS rfl rfl rfl rfl rfl slF22 (i := 0) rfl hx9) fun p3 => ?_
           refine Tops_ex rfl (OpT_fieldP (S' := u64S) (y := s2.At) rfl rfl rfl rfl fldF47x0 (i := 3) rfl (by intro h cs hr; subst hr; rfl)) fun p4 => ?_
           refine Tops_step rfl (OpT_loadP rfl rfl rfl rfl tyF23 (i := 4) rfl rfl) ?_
           refine Tops_step rfl (OpT_move rfl rfl rfl rfl) ?_
           refine Tops_step rfl (OpT_bin rfl rfl rfl rfl rfl (bin_add_u64 (a := s2.At) (b := k1))) ?_
           refine Tops_step rfl (OpT_assign rfl rfl rfl rfl) ?_
           refine Tops_nil ?_
           refine Tk_wkS (fr' := [(0, some (vl1)), (1, some (vb1)), (7, some (.pointer (some ⟨b1, 0, none⟩))), (9, some (v10)), (11, some (.map (some b2))), (12, some (v11)), (13, some (vI i2)), (14, some (vU64 k1)), (15, some (vU64 (s2.At + k1)))]) (own' := [some (cellsR b1 71 [v3, v4]), some (rowsX u8S true v4 vs1 write1.2 none), some (rowS u8S v10 l3), some (mapR b2 .u64 (fun x : UInt64 => (x.toNat : Int)) vB map2), some (rowS u64S v11 places2)]) (shr' := [Fact.sl SegS vl1 l, Fact.sl u8S vb1 b, Fact.sl RegionS v3 mem1.l]) [0, 1, 7, 9, 11, 12, 13, 14, 15] [0, 1, 2, 3, 4] [0, 1, 2] rfl rfl rfl rfl ?_
           refine Tk_seq ?_
           refine Tk_seq ?_
           refine Tk_region ?_
           refine Tops_step rfl (OpT_move rfl rfl rfl rfl) ?_
           refine Tops_step rfl (OpT_move rfl rfl rfl rfl) ?_
           refine Tops_step rfl (OpT_lookup keyU64 (V := vB) (kx := s2.At + k1) (z := false) rfl rfl rfl rfl rfl Try.underlying43 Try.underlying23 tyZ4 (i := 3) rfl) ?_
           refine Tops_nil ?_
           refine Tk_wkS (fr' := [(0, some (vl1)), (1, some (vb1)), (7, some (.pointer (some ⟨b1, 0, none⟩))), (9, some (v10)), (11, some (.map (some b2))), (12, some (v11)), (13, some (vI i2)), (14, some (vU64 k1)), (15, some (vU64 (s2.At + k1))), (94, some (vB (mget false (s2.At + k1) map2)))]) (own' := [some (cellsR b1 71 [v3, v4]), some (rowsX u8S true v4 vs1 write1.2 none), some (rowS u8S v10 l3), some (mapR b2 .u64 (fun x : UInt64 => (x.toNat : Int)) vB map2), some (rowS u64S v11 places2)]) (shr' := [Fact.sl SegS vl1 l, Fact.sl u8S vb1 b, Fact.sl RegionS v3 mem1.l]) [0, 1, 7, 9, 11, 12, 13, 14, 15, 94] [0, 1, 2, 3, 4] [0, 1, 2] rfl rfl rfl rfl ?_
           rcases Bool.eq_false_or_eq_true (mget false (s2.At + k1) map2) with hg12 | hg12
           ·replace h := br_t hg12 h
            refine Tk_condT (congrArg (fun b => some (Value.bool b)) hg12) ?_
            refine Tk_seq ?_
            refine Tk_region ?_
            refine Tops_step rfl (OpT_assign rfl rfl rfl rfl) ?_
            refine Tops_nil ?_
            refine Tk_wkS (fr' := [(6, some (vB true))]) (own' := []) (shr' := []) [6] [] [] rfl rfl rfl rfl ?_
            exact Tk_retV rfl rfl (resA (vs := [.bool true]) rfl ⟨rfl, trivial⟩) [] [] rfl rfl rfl ⟨rfl, rfl, rfl⟩
           ·replace h := br_f hg12 h
            refine Tk_condF (congrArg (fun b => some (Value.bool b)) hg12) ?_
            refine Tk_skip ?_
            refine Tk_seq ?_
            refine Tk_region ?_
            refine Tops_step rfl (OpT_move rfl rfl rfl rfl) ?_
            refine Tops_step rfl (OpT_move rfl rfl rfl rfl) ?_
            refine Tops_step rfl (OpT_mapUpdate keyU64 (s2.At + k1) true (V := vB) (z := false) rfl rfl rfl rfl rfl rfl Try.underlying43 Try.underlying23 (i := 3) rfl rfl) ?_
            refine Tops_nil ?_
            refine Tk_wkS (fr' := [(0, some (vl1)), (1, some (vb1)), (7, some (.pointer (some ⟨b1, 0, none⟩))), (9, some (v10)), (11, some (.map (some b2))), (12, some (v11)), (13, some (vI i2)), (14, some (vU64 k1)), (15, some (vU64 (s2.At + k1)))]) (own' := [some (cellsR b1 71 [v3, v4]), some (rowsX u8S true v4 vs1 write1.2 none), some (rowS u8S v10 l3), some (mapR b2 .u64 (fun x : UInt64 => (x.toNat : Int)) vB (mput (s2.At + k1) true map2)), some (rowS u64S v11 places2)]) (shr' := [Fact.sl SegS vl1 l, Fact.sl u8S vb1 b, Fact.sl RegionS v3 mem1.l]) [0, 1, 7, 9, 11, 12, 13, 14, 15] [0, 1, 2, 3, 4] [0, 1, 2] rfl rfl rfl rfl ?_
            refine Tk_seq ?_
            refine Tk_region ?_
            refine Tops_step rfl (OpT_move rfl rfl rfl rfl) ?_
            refine Tops_step rfl (OpT_move rfl rfl rfl rfl) ?_
            obtain ⟨s3, hx10, h⟩ := ob_e h
            refine Tops_ex rfl (OpT_idxS rfl rfl rfl rfl rfl slF22 (i := 0) rfl hx10) fun p5 => ?_
            refine Tops_ex rfl (OpT_fieldP (S' := bS) (y := s3.Write) rfl rfl rfl rfl fldF47x2 (i := 3) rfl (by intro h cs hr; subst hr; rfl)) fun p6 => ?_
            refine Tops_step rfl (OpT_loadP rfl rfl rfl rfl tyF4 (i := 4) rfl rfl) ?_
            refine Tops_nil ?_
            refine Tk_wkS (fr' := [(0, some (vl1)), (1, some (vb1)), (7, some (.pointer (some ⟨b1, 0, none⟩))), (9, some (v10)), (11, some (.map (some b2))), (12, some (v11)), (13, some (vI i2)), (14, some (vU64 k1)), (15, some (vU64 (s2.At + k1))), (101, some (vB s3.Write))]) (own' := [some (cellsR b1 71 [v3, v4]), some (rowsX u8S true v4 vs1 write1.2 none), some (rowS u8S v10 l3), some (mapR b2 .u64 (fun x : UInt64 => (x.toNat : Int)) vB (mput (s2.At + k1) true map2)), some (rowS u64S v11 places2)]) (shr' := [Fact.sl SegS vl1 l, Fact.sl u8S vb1 b, Fact.sl RegionS v3 mem1.l]) [0, 1, 7, 9, 11, 12, 13, 14, 15, 101] [0, 1, 2, 3, 4] [0, 1, 2] rfl rfl rfl rfl ?_
            refine Tk_join (α := (List UInt8) × (List (UInt64 × Bool)) × (List UInt64) × Value × Value) (fun s => ⟨[(0, some (vl1)), (1, some (vb1)), (7, some (.pointer (some ⟨b1, 0, none⟩))), (9, some (s.2.2.2.1)), (11, some (.map (some b2))), (12, some (s.2.2.2.2)), (13, some (vI i2)), (14, some (vU64 k1))], [some (cellsR b1 71 [v3, v4]), some (rowsX u8S true v4 vs1 write1.2 none), some (rowS u8S s.2.2.2.1 s.1), some (mapR b2 .u64 (fun x : UInt64 => (x.toNat : Int)) vB s.2.1), some (rowS u64S s.2.2.2.2 s.2.2.1)], [Fact.sl SegS vl1 l, Fact.sl u8S vb1 b, Fact.sl RegionS v3 mem1.l]⟩) (fun s => law05zSegScattersJ5 k1 (law05zSegScattersL3 l i2 (law05zSegScattersL2 l b mem1 write1 nf2) nf3) s.1 s.2.1 s.2.2.1 = some true) ?_ ?_
            ·rintro ⟨l5, map4, places4, v14, v15⟩ h
             replace h : law05zSegScattersJ5 k1 (law05zSegScattersL3 l i2 (law05zSegScattersL2 l b mem1 write1 nf2) nf3) l5 map4 places4 = some true := h
             unfold law05zSegScattersJ5 at h
             refine Tk_blk ?_
             exact Tk_jmpS (HJ1 (l5, map4, places4, v14, v15) h) [0, 1, 7, 9, 11, 12, 13, 14] [0, 1, 2, 3, 4] [0, 1, 2] rfl rfl rfl rfl
            ·intro HJ2
             rcases Bool.eq_false_or_eq_true (s3.Write) with hg13 | hg13
             ·replace h := br_t hg13 h
              refine Tk_condT (congrArg (fun b => some (Value.bool b)) hg13) ?_
              refine Tk_region ?_
              refine Tops_step rfl (OpT_move rfl rfl rfl rfl) ?_
              refine Tops_step rfl (OpT_move rfl rfl rfl rfl) ?_
              refine Tops_ex rfl (OpT_buildSlice (S := u64S) (xs := [s2.At + k1]) (css := [[vU64 (s2.At + k1)]]) (cs := [vU64 (s2.At + k1)]) (e := 23) rfl rfl rfl rfl (bldF slF44 (by decide) (by kernel_rfl)) rfl rfl rfl rfl (rel_plainD (S := u64S) (xs := [s2.At + k1]) (css := [[vU64 (s2.At + k1)]]) rfl rfl)) fun v16 => ?_
              obtain ⟨hc2, h⟩ := chk_e h
              refine Tops_ex rfl (OpT_appendB (S := u64S) rfl rfl rfl rfl rfl rfl slF44 (i := 4) (j := 5) rfl rfl hc2) fun v17 => ?_
              refine Tops_step rfl (OpT_assign rfl rfl rfl rfl) ?_
              refine Tops_nil ?_
              refine Tk_wkS (fr' := [(0, some (vl1)), (1, some (vb1)), (7, some (.pointer (some ⟨b1, 0, none⟩))), (9, some (v10)), (11, some (.map (some b2))), (12, some (v17)), (13, some (vI i2)), (14, some (vU64 k1))]) (own' := [some (cellsR b1 71 [v3, v4]), some (rowsX u8S true v4 vs1 write1.2 none), some (rowS u8S v10 l3), some (mapR b2 .u64 (fun x : UInt64 => (x.toNat : Int)) vB (mput (s2.At + k1) true map2)), some (rowS u64S v17 (places2 ++ [s2.At + k1]))]) (shr' := [Fact.sl SegS vl1 l, Fact.sl u8S vb1 b, Fact.sl RegionS v3 mem1.l]) [0, 1, 7, 9, 11, 12, 13, 14] [0, 1, 2, 3, 4] [0, 1, 2] rfl rfl rfl rfl ?_
              exact Tk_jmpS (HJ2 (l3, mput (s2.At + k1) true map2, places2 ++ [s2.At + k1], v10, v17) h) [0, 1, 7, 9, 11, 12, 13, 14] [0, 1, 2, 3, 4] [0, 1, 2] rfl rfl rfl rfl
             ·replace h := br_f hg13 h
              refine Tk_condF (congrArg (fun b => some (Value.bool b)) hg13) ?_
              refine Tk_skip ?_
              exact Tk_jmpS (HJ2 (l3, mput (s2.At + k1) true map2, places2, v10, v11) h) [0, 1, 7, 9, 11, 12, 13, 14] [0, 1, 2, 3, 4] [0, 1, 2] rfl rfl rfl rfl
         ·replace h := br_f hg11 h
          refine Tk_condF (congrArg (fun b => some (Value.bool b)) hg11) ?_
          refine Tk_exit _ rfl ?_
          refine Tk_blk ?_
          refine Tk_region ?_
          refine Tops_step rfl (OpT_move rfl rfl rfl rfl) ?_
          refine Tops_step rfl (OpT_bin rfl rfl rfl rfl rfl (bin_add_i (a := i2) (b := (1 : Int)))) ?_
          refine Tops_step rfl (OpT_assign rfl rfl rfl rfl) ?_
          refine Tops_nil ?_
          refine Tk_wkS (fr' := [(0, some (vl1)), (1, some (vb1)), (7, some (.pointer (some ⟨b1, 0, none⟩))), (9, some (v10)), (11, some (.map (some b2))), (12, some (v11)), (13, some (vI (wi (i2 + (1 : Int)))))]) (own' := [some (cellsR b1 71 [v3, v4]), some (rowsX u8S true v4 vs1 write1.2 none), some (rowS u8S v10 l3), some (mapR b2 .u64 (fun x : UInt64 => (x.toNat : Int)) vB map2), some (rowS u64S v11 places2)]) (shr' := [Fact.sl SegS vl1 l, Fact.sl u8S vb1 b, Fact.sl RegionS v3 mem1.l]) [0, 1, 7, 9, 11, 12, 13] [0, 1, 2, 3, 4] [0, 1, 2] rfl rfl rfl rfl ?_
          exact Tk_backS (l3, map2, places2, wi (i2 + (1 : Int)), v10, v11) h [0, 1, 7, 9, 11, 12, 13] [0, 1, 2, 3, 4] [0, 1, 2] rfl rfl rfl rfl rfl
        ·replace h := br_f hg10 h
         refine Tk_condF (congrArg (fun b => some (Value.bool b)) hg10) ?_
         refine Tk_exit _ rfl ?_
         refine Tk_seq ?_
         refine Tk_region ?_
         refine Tops_step rfl (OpT_move rfl rfl rfl rfl) ?_
         refine Tops_step rfl (OpT_move rfl rfl rfl rfl) ?_
         refine Tops_step rfl (OpT_move rfl rfl rfl rfl) ?_
         obtain ⟨own2, hx11, h⟩ := ob_e h
         refine Tops_exP rfl (OpT_call (w_kit_Own hx11) [] [1] rfl rfl rfl rfl rfl callee17 rfl rfl rfl rfl) ?_
         rintro _ ⟨v18, _, _, ⟨_, rfl, rfl, rfl⟩, rfl⟩
         obtain ⟨scatte1, hx12, h⟩ := ob_e h
         refine Tops_exP rfl (OpT_callB [5] [6, 7, 2, 3, 4, 5] (w_seg_Scatter hx12) [0, 1] rfl rfl rfl rfl rfl callee18 rfl rfl rfl rfl rfl rfl (bor_cons (bor_shr 2 rfl) (bor_cons (bor_shr 0 rfl) (bor_cons (bor_row 5 rfl rfl) bor_nil))) (by rintro _ _ _ ⟨rfl, rfl, rfl⟩; exact ⟨rfl, (ri_cons (ri_cells _ _ _) (ri_cons (ri_rows rfl _ _ _ _ _) ri_nil))⟩)) ?_
         rintro _ ⟨_, _, _, ⟨rfl, rfl, rfl⟩, rfl⟩
         refine Tops_step rfl (OpT_move rfl rfl rfl rfl) ?_
         refine Tops_step rfl (OpT_extract rfl rfl rfl rfl rfl) ?_
         refine Tops_step rfl (OpT_extract rfl rfl rfl rfl rfl) ?_
         refine Tops_step rfl (OpT_assign rfl rfl rfl rfl) ?_
         refine Tops_step rfl (OpT_assign rfl rfl rfl rfl) ?_
         refine Tops_nil ?_
         refine Tk_wkS (fr' := [(0, some (vl1)), (1, some (vb1)), (7, some (.pointer (some ⟨b1, 0, none⟩))), (9, some (v8)), (12, some (v9)), (16, some (vI scatte1.1)), (8, some (vI scatte1.2.1))]) (own' := [some (cellsR b1 71 [v3, v4]), some (rowsX u8S true v4 vs1 scatte1.2.2 none), some (rowS u8S v8 l2), some (rowS u64S v9 places1)]) (shr' := [Fact.sl SegS vl1 l, Fact.sl u8S vb1 b, Fact.sl RegionS v3 mem1.l]) [0, 1, 7, 9, 12, 16, 8] [0, 1, 2, 4] [0, 1, 2] rfl rfl rfl rfl ?_
         refine Tk_seq ?_
         refine Tk_seq ?_
         refine Tk_region ?_
         refine Tops_step rfl (OpT_move rfl rfl rfl rfl) ?_
         refine Tops_step rfl (OpT_bin rfl rfl rfl rfl rfl (bin_neq_i (a := scatte1.2.1) (b := (0 : Int)))) ?_
         refine Tops_step rfl (OpT_move rfl rfl rfl rfl) ?_
         obtain ⟨hg14, h⟩ := chk_e h
         replace hg14 := not_t hg14
         refine Tops_yes rfl rfl (congrArg (fun b => some (Value.bool b)) hg14) (OpT_move rfl rfl rfl rfl) ?_
         rintro _ rfl
         refine Tops_yes rfl rfl (congrArg (fun b => some (Value.bool b)) hg14) (OpT_move rfl rfl rfl rfl) ?_
         rintro _ rfl
         refine Tops_yes rfl rfl (congrArg (fun b => some (Value.bool b)) hg14) (OpT_lenS rfl rfl rfl rfl Try.underlying33 (i := 1) rfl) ?_
         rintro _ rfl
         refine Tops_yes rfl rfl (congrArg (fun b => some (Value.bool b)) hg14) (OpT_move rfl rfl rfl rfl) ?_
         rintro _ rfl
         refine Tops_yes rfl rfl (congrArg (fun b => some (Value.bool b)) hg14) (OpT_lenO rfl rfl rfl rfl Try.underlying44 (i := 3) rfl) ?_
         rintro _ rfl
         refine Tops_yes rfl rfl (congrArg (fun b => some (Value.bool b)) hg14) (OpT_min_i (u := len b) (v := len places1) rfl rfl rfl rfl rfl) ?_
         rintro _ rfl
         refine Tops_yes rfl rfl (congrArg (fun b => some (Value.bool b)) hg14) (OpT_bin rfl rfl rfl rfl rfl (bin_neq_i (a := scatte1.1) (b := mini (len b) (len places1)))) ?_
         rintro _ rfl
         refine Tops_step rfl (OpT_pickF rfl rfl rfl (congrArg (fun b => some (Value.bool b)) hg14) rfl) ?_
         refine Tops_nil ?_
         refine Tk_wkS (fr' := [(0, some (vl1)), (1, some (vb1)), (7, some (.pointer (some ⟨b1, 0, none⟩))), (9, some (v8)), (12, some (v9)), (16, some (vI scatte1.1)), (124, some (vB (scatte1.1 != (mini (len b) (len places1)))))]) (own' := [some (cellsR b1 71 [v3, v4]), some (rowsX u8S true v4 vs1 scatte1.2.2 none), some (rowS u8S v8 l2), some (rowS u64S v9 places1)]) (shr' := [Fact.sl SegS vl1 l, Fact.sl u8S vb1 b, Fact.sl RegionS v3 mem1.l]) [0, 1, 7, 9, 12, 16, 124] [0, 1, 2, 3] [0, 1, 2] rfl rfl rfl rfl ?_
         obtain ⟨hg15, h⟩ := chk_e h
         replace hg15 := not_t hg15
         refine Tk_condF (congrArg (fun b => some (Value.bool b)) hg15) ?_
         refine Tk_skip ?_
         refine Tk_seq ?_
         refine Tk_seq ?_
         refine Tk_region ?_
         refine Tops_step rfl (OpT_assign rfl rfl rfl rfl) ?_
         refine Tops_nil ?_
         refine Tk_wkS (fr' := [(0, some (vl1)), (1, some (vb1)), (7, some (.pointer (some ⟨b1, 0, none⟩))), (9, some (v8)), (12, some (v9)), (16, some (vI scatte1.1)), (17, some (vI (0 : Int)))]) (own' := [some (cellsR b1 71 [v3, v4]), some (rowsX u8S true v4 vs1 scatte1.2.2 none), some (rowS u8S v8 l2), some (rowS u64S v9 places1)]) (shr' := [Fact.sl SegS vl1 l, Fact.sl u8S vb1 b, Fact.sl RegionS v3 mem1.l]) [0, 1, 7, 9, 12, 16, 17] [0, 1, 2, 3] [0, 1, 2] rfl rfl rfl rfl ?_
         refine Tk_block ?_
         refine Tk_loopS (σ := (List UInt8) × (List UInt64) × Int × Value × Value) [0, 1, 7, 9, 12, 16, 17] [0, 1, 2, 3] [0, 1, 2] (fun s => ⟨[(0, some (vl1)), (1, some (vb1)), (7, some (.pointer (some ⟨b1, 0, none⟩))), (9, some (s.2.2.2.1)), (12, some (s.2.2.2.2)), (16, some (vI scatte1.1)), (17, some (vI s.2.2.1))], [some (cellsR b1 71 [v3, v4]), some (rowsX u8S true v4 vs1 scatte1.2.2 none), some (rowS u8S s.2.2.2.1 s.1), some (rowS u64S s.2.2.2.2 s.2.1)], [Fact.sl SegS vl1 l, Fact.sl u8S vb1 b, Fact.sl RegionS v3 mem1.l]⟩) (fun nf6 s => law05zSegScattersL6 l b mem1 scatte1 nf6 s.1 s.2.1 s.2.2.1 = some true) fuel (l2, places1, (0 : Int), v8, v9) h rfl rfl rfl rfl rfl (fun s h => by cases h) ?_
         rintro nf6 ⟨l6, l7, i3, v19, v20⟩ h
         replace h : law05zSegScattersL6B l b mem1 scatte1 (law05zSegScattersL6 l b mem1 scatte1 nf6) l6 l7 i3 = some true := h
         unfold law05zSegScattersL6B at h
         refine Tk_seq ?_
         refine Tk_seq ?_
         refine Tk_region ?_
         refine Tops_step rfl (OpT_move rfl rfl rfl rfl) ?_
         refine Tops_step rfl (OpT_move rfl rfl rfl rfl) ?_
         refine Tops_step rfl (OpT_bin rfl rfl rfl rfl rfl (bin_lss_i (a := i3) (b := scatte1.1))) ?_
         refine Tops_nil ?_
         refine Tk_wkS (fr' := [(0, some (vl1)), (1, some (vb1)), (7, some (.pointer (some ⟨b1, 0, none⟩))), (9, some (v19)), (12, some (v20)), (16, some (vI scatte1.1)), (17, some (vI i3)), (127, some (vB (decide (i3 < scatte1.1))))]) (own' := [some (cellsR b1 71 [v3, v4]), some (rowsX u8S true v4 vs1 scatte1.2.2 none), some (rowS u8S v19 l6), some (rowS u64S v20 l7)]) (shr' := [Fact.sl SegS vl1 l, Fact.sl u8S vb1 b, Fact.sl RegionS v3 mem1.l]) [0, 1, 7, 9, 12, 16, 17, 127] [0, 1, 2, 3] [0, 1, 2] rfl rfl rfl rfl ?_
         rcases Bool.eq_false_or_eq_true (decide (i3 < scatte1.1)) with hg16 | hg16
         ·replace h := br_t hg16 h
          refine Tk_condT (congrArg (fun b => some (Value.bool b)) hg16) ?_
          refine Tk_skip ?_
          refine Tk_seq ?_
          refine Tk_block ?_
          refine Tk_drawT (by kernel_rfl) ?_
          refine TA_tb [0, 0, 0, 6, 14, 0, 0, 96, 224, 511, 1023] (by kernel_rfl) fun htb => ?_
          refine TA_wkS (fr' := [(0, some (vl1)), (1, some (vb1)), (7, some (.pointer (some ⟨b1, 0, none⟩))), (9, some (v19)), (12, some (v20)), (16, some (vI scatte1.1)), (17, some (vI i3))]) (own' := [some (cellsR b1 71 [v3, v4]), some (rowsX u8S true v4 vs1 scatte1.2.2 none), some (rowS u8S v19 l6), some (rowS u64S v20 l7)]) (shr' := [Fact.sl SegS vl1 l, Fact.sl u8S vb1 b, Fact.sl RegionS v3 mem1.l]) [0, 1, 7, 9, 12, 16, 17] [0, 1, 2, 3] [0, 1, 2] rfl rfl rfl rfl ?_
          obtain ⟨y2, hx13, h⟩ := ob_e h
          obtain ⟨y3, hx14, h⟩ := ob_e h
          refine TA_seg (lo := 0) (hi := 9) htb rfl rfl (by kernel_rfl) (fun c L a w => ∃ (p7 : Value), Sat c ⟨[(0, some (vl1)), (1, some (vb1)), (7, some (.pointer (some ⟨b1, 0, none⟩))), (9, some (v19)), (12, some (v20)), (16, some (vI scatte1.1)), (17, some (vI i3)), (130, bif L 0 then some (v19) else none), (131, bif L 1 then some (v20) else none), (132, bif L 2 then some (vI i3) else none), (133, bif L 3 then some (rowPtr v20 (Int.toNat i3 * 1)) else none), (134, bif L 4 then some (vU64 y2) else none), (135, bif L 5 then some (vb1) else none), (136, bif L 6 then some (vI i3) else none), (137, bif L 7 then some (p7) else none), (138, bif L 8 then some (vU8 y3) else none)], [(some (cellsR b1 71 [v3, v4]) : Option Res), (some (rowsX u8S true v4 vs1 scatte1.2.2 none) : Option Res), (some (rowS u8S v19 l6) : Option Res), (some (rowS u64S v20 l7) : Option Res)], [Fact.sl SegS vl1 l, Fact.sl u8S vb1 b, Fact.sl RegionS v3 mem1.l, (bif L 7 then Fact.pt u8S p7 y3 else Fact.tt)]⟩ a w) [([], []), ([], [3, 4]), ([], [3, 4]), ([1, 2], [4]), ([1, 2, 3], []), ([], [7, 8]), ([], [7, 8]), ([5, 6], [8]), ([5, 6, 7], [])] rfl (by kernel_rfl) ?_ (steps_cons ?_ (steps_cons ?_ (steps_cons ?_ (steps_cons ?_ (steps_cons ?_ (steps_cons ?_ (steps_cons ?_ (steps_cons ?_ (steps_cons ?_ (steps_nil)))))))))) ?_
          ·intro a w hs
           exact ⟨undef, hs.startF [130, 131, 132, 133, 134, 135, 136, 137, 138] [0, 1, 2, 3] [0, 1, 2, 3] rfl rfl rfl rfl⟩
          ·intro L a w hv K Q hK
           obtain ⟨p7, hs⟩ := hv
           refine wpOp_go rfl rfl hs (OpT_move rfl rfl rfl rfl) ?_
           rintro _ rfl a' w' hs'
           exact hK a' w' ⟨p7, hs'.putF (i := 7) rfl [0, 1, 2, 3] [0, 1, 2, 3] rfl rfl rfl rfl⟩
          ·intro L a w hv K Q hK
           obtain ⟨p7, hs⟩ := hv
           refine wpOp_go rfl rfl hs (OpT_move rfl rfl rfl rfl) ?_
           rintro _ rfl a' w' hs'
           exact hK a' w' ⟨p7, hs'.putF (i := 8) rfl [0, 1, 2, 3] [0, 1, 2, 3] rfl rfl rfl rfl⟩
          ·intro L a w hv K Q hK
           obtain ⟨p7, hs⟩ := hv
           refine wpOp_go rfl rfl hs (OpT_move rfl rfl rfl rfl) ?_
           rintro _ rfl a' w' hs'
           exact hK a' w' ⟨p7, hs'.putF (i := 9) rfl [0, 1, 2, 3] [0, 1, 2, 3] rfl rfl rfl rfl⟩
          ·intro L a w hv K Q hK
           obtain ⟨p7, hs⟩ := hv
           refine wpOp_go rfl rfl hs (OpT_idxO rfl rfl rfl rfl rfl slF44 (i := 3) rfl hx13) ?_
           rintro _ rfl a' w' hs'
           exact hK a' w' ⟨p7, hs'.putF (i := 10) rfl [0, 1, 2, 3] [0, 1, 2, 3] rfl rfl rfl rfl⟩
          ·intro L a w hv K Q hK
           obtain ⟨p7, hs⟩ := hv
           refine wpOp_go rfl rfl hs (OpT_loadO (S := u64S) rfl rfl rfl rfl rfl tyF23 (i := 3) rfl hx13 rfl rfl) ?_
           rintro _ rfl a' w' hs'
           exact hK a' w' ⟨p7, hs'.putF (i := 11) rfl [0, 1, 2, 3] [0, 1, 2, 3] rfl rfl rfl rfl⟩
          ·intro L a w hv K Q hK
           obtain ⟨p7, hs⟩ := hv
           refine wpOp_go rfl rfl hs (OpT_move rfl rfl rfl rfl) ?_
           rintro _ rfl a' w' hs'
           exact hK a' w' ⟨p7, hs'.putF (i := 12) rfl [0, 1, 2, 3] [0, 1, 2, 3] rfl rfl rfl rfl⟩
          ·intro L a w hv K Q hK
           obtain ⟨p7, hs⟩ := hv
           refine wpOp_go rfl rfl hs (OpT_move rfl rfl rfl rfl) ?_
           rintro _ rfl a' w' hs'
           exact hK a' w' ⟨p7, hs'.putF (i := 13) rfl [0, 1, 2, 3] [0, 1, 2, 3] rfl rfl rfl rfl⟩
          ·intro L a w hv K Q hK
           obtain ⟨p7, hs⟩ := hv
           refine wpOp_go rfl rfl hs (OpT_idxS rfl rfl rfl rfl rfl slF33 (i := 1) rfl hx14) ?_
           rintro _ ⟨p7', rfl⟩ a' w' hs'
           exact hK a' w' ⟨p7', hs'.putF (i := 14) rfl [0, 1, 2, 3] [0, 1, 2, 4] rfl rfl rfl rfl⟩
          ·intro L a w hv K Q hK
           obtain ⟨p7, hs⟩ := hv
           refine wpOp_go rfl rfl hs (OpT_loadP rfl rfl rfl rfl tyF5 (i := 3) rfl rfl) ?_
           rintro _ rfl a' w' hs'
           exact hK a' w' ⟨p7, hs'.putF (i := 15) rfl [0, 1, 2, 3] [0, 1, 2, 3] rfl rfl rfl rfl⟩
          ·intro L a w hL hv
           rw [allTrue hL] at hv
           obtain ⟨p7, hs⟩ := hv
           refine (show TA _ _ _ 9 ⟨[(0, some (vl1)), (1, some (vb1)), (7, some (.pointer (some ⟨b1, 0, none⟩))), (9, some (v19)), (12, some (v20)), (16, some (vI scatte1.1)), (17, some (vI i3)), (130, some (v19)), (134, some (vU64 y2)), (138, some (vU8 y3))], [some (cellsR b1 71 [v3, v4]), some (rowsX u8S true v4 vs1 scatte1.2.2 none), some (rowS u8S v19 l6), some (rowS u64S v20 l7)], [Fact.sl SegS vl1 l, Fact.sl u8S vb1 b, Fact.sl RegionS v3 mem1.l]⟩ from ?_) a w (hs.wkS [0, 1, 7, 9, 12, 16, 17, 130, 134, 138] [0, 1, 2, 3] [0, 1, 2] rfl rfl rfl rfl)
           clear hs hL
           obtain ⟨y4, hx15, h⟩ := ob_e h
           refine TA_step htb (by kernel_rfl) rfl rfl (OpT_idxO rfl rfl rfl rfl rfl slF33 (i := 2) rfl hx15) ?_
           refine TA_step htb (by kernel_rfl) rfl rfl (OpT_storeO (S := u8S) (u := y3) rfl rfl rfl rfl rfl tyF5 (i := 2) rfl hx15 rfl) ?_
           refine TA_end rfl ?_
           refine Tk_wkS (fr' := [(0, some (vl1)), (1, some (vb1)), (7, some (.pointer (some ⟨b1, 0, none⟩))), (9, some (v19)), (12, some (v20)), (16, some (vI scatte1.1)), (17, some (vI i3))]) (own' := [some (cellsR b1 71 [v3, v4]), some (rowsX u8S true v4 vs1 scatte1.2.2 none), some (rowS u8S v19 (l6.set (y2.toNat : Int).toNat y3)), some (rowS u64S v20 l7)]) (shr' := [Fact.sl SegS vl1 l, Fact.sl u8S vb1 b, Fact.sl RegionS v3 mem1.l]) [0, 1, 7, 9, 12, 16, 17] [0, 1, 2, 3] [0, 1, 2] rfl rfl rfl rfl ?_
           refine Tk_blk ?_
           refine Tk_region ?_
           refine Tops_step rfl (OpT_move rfl rfl rfl rfl) ?_
           refine Tops_step rfl (OpT_bin rfl rfl rfl rfl rfl (bin_add_i (a := i3) (b := (1 : Int)))) ?_
           refine Tops_step rfl (OpT_assign rfl rfl rfl rfl) ?_
           refine Tops_nil ?_
           refine Tk_wkS (fr' := [(0, some (vl1)), (1, some (vb1)), (7, some (.pointer (some ⟨b1, 0, none⟩))), (9, some (v19)), (12, some (v20)), (16, some (vI scatte1.1)), (17, some (vI (wi (i3 + (1 : Int)))))]) (own' := [some (cellsR b1 71 [v3, v4]), some (rowsX u8S true v4 vs1 scatte1.2.2 none), some (rowS u8S v19 (l6.set (y2.toNat : Int).toNat y3)), some (rowS u64S v20 l7)]) (shr' := [Fact.sl SegS vl1 l, Fact.sl u8S vb1 b, Fact.sl RegionS v3 mem1.l]) [0, 1, 7, 9, 12, 16, 17] [0, 1, 2, 3] [0, 1, 2] rfl rfl rfl rfl ?_
           exact Tk_backS (l6.set (y2.toNat : Int).toNat y3, l7, wi (i3 + (1 : Int)), v19, v20) h [0, 1, 7, 9, 12, 16, 17] [0, 1, 2, 3] [0, 1, 2] rfl rfl rfl rfl rfl
         ·replace h := br_f hg16 h
          refine Tk_condF (congrArg (fun b => some (Value.bool b)) hg16) ?_
          refine Tk_exit _ rfl ?_
          refine Tk_seq ?_
          refine Tk_region ?_
          refine Tops_step rfl (OpT_move rfl rfl rfl rfl) ?_
          obtain ⟨part1, hx16, h⟩ := ob_e h
          refine Tops_exP rfl (OpT_call (w_seg_Part hx16) [] [0] rfl rfl rfl rfl rfl callee13 rfl rfl rfl rfl) ?_
          rintro _ ⟨v21, _, _, ⟨_, rfl, rfl, rfl⟩, rfl⟩
          refine Tops_step rfl (OpT_assign rfl rfl rfl rfl) ?_
          refine Tops_nil ?_
          refine Tk_wkS (fr' := [(1, some (vb1)), (7, some (.pointer (some ⟨b1, 0, none⟩))), (9, some (v19)), (12, some (v20)), (16, some (vI scatte1.1)), (18, some (v21))]) (own' := [some (cellsR b1 71 [v3, v4]), some (rowsX u8S true v4 vs1 scatte1.2.2 none), some (rowS u8S v19 l6), some (rowS u64S v20 l7), some (rowS SegS v21 part1)]) (shr' := [Fact.sl u8S vb1 b, Fact.sl RegionS v3 mem1.l]) [1, 7, 9, 12, 16, 18] [0, 1, 2, 3, 4] [1, 2] rfl rfl rfl rfl ?_
          refine Tk_seq ?_
          refine Tk_seq ?_
          refine Tk_region ?_
          refine Tops_step rfl (OpT_assign rfl rfl rfl rfl) ?_
          refine Tops_nil ?_
          refine Tk_block ?_
          refine Tk_loopS (σ := (List UInt8) × (List UInt64) × (List Seg) × Int × Value × Value × Value) [1, 7, 9, 12, 16, 18, 19] [0, 1, 2, 3, 4] [0, 1] (fun s => ⟨[(1, some (vb1)), (7, some (.pointer (some ⟨b1, 0, none⟩))), (9, some (s.2.2.2.2.1)), (12, some (s.2.2.2.2.2.1)), (16, some (vI scatte1.1)), (18, some (s.2.2.2.2.2.2)), (19, some (vI s.2.2.2.1))], [some (cellsR b1 71 [v3, v4]), some (rowsX u8S true v4 vs1 scatte1.2.2 none), some (rowS u8S s.2.2.2.2.1 s.1), some (rowS u64S s.2.2.2.2.2.1 s.2.1), some (rowS SegS s.2.2.2.2.2.2 s.2.2.1)], [Fact.sl u8S vb1 b, Fact.sl RegionS v3 mem1.l]⟩) (fun nf7 s => law05zSegScattersL7 b mem1 scatte1 nf7 s.1 s.2.1 s.2.2.1 s.2.2.2.1 = some true) fuel (l6, l7, part1, (0 : Int), v19, v20, v21) h rfl rfl rfl rfl rfl (fun s h => by cases h) ?_
          rintro nf7 ⟨l8, l9, l10, i4, v22, v23, v24⟩ h
          replace h : law05zSegScattersL7B b mem1 scatte1 (law05zSegScattersL7 b mem1 scatte1 nf7) l8 l9 l10 i4 = some true := h
          unfold law05zSegScattersL7B at h
          refine Tk_seq ?_
          refine Tk_seq ?_
          refine Tk_region ?_
          refine Tops_step rfl (OpT_move rfl rfl rfl rfl) ?_
          refine Tops_step rfl (OpT_move rfl rfl rfl rfl) ?_
          refine Tops_step rfl (OpT_lenO rfl rfl rfl rfl Try.underlying22 (i := 4) rfl) ?_
          refine Tops_step rfl (OpT_bin rfl rfl rfl rfl rfl (bin_lss_i (a := i4) (b := len l10))) ?_
          refine Tops_nil ?_
          refine Tk_wkS (fr' := [(1, some (vb1)), (7, some (.pointer (some ⟨b1, 0, none⟩))), (9, some (v22)), (12, some (v23)), (16, some (vI scatte1.1)), (18, some (v24)), (19, some (vI i4)), (145, some (vB (decide (i4 < (len l10)))))]) (own' := [some (cellsR b1 71 [v3, v4]), some (rowsX u8S true v4 vs1 scatte1.2.2 none), some (rowS u8S v22 l8), some (rowS u64S v23 l9), some (rowS SegS v24 l10)]) (shr' := [Fact.sl u8S vb1 b, Fact.sl RegionS v3 mem1.l]) [1, 7, 9, 12, 16, 18, 19, 145] [0, 1, 2, 3, 4] [0, 1] rfl rfl rfl rfl ?_
          rcases Bool.eq_false_or_eq_true (decide (i4 < (len l10))) with hg17 | hg17
          ·replace h := br_t hg17 h
           refine Tk_condT (congrArg (fun b => some (Value.bool b)) hg17) ?_
           refine Tk_skip ?_
           refine Tk_seq ?_
           refine Tk_block ?_
           refine Tk_region ?_
           refine Tops_step rfl (OpT_move rfl rfl rfl rfl) ?_
           refine Tops_step rfl (OpT_move rfl rfl rfl rfl) ?_
           obtain ⟨s4, hx17, h⟩ := ob_e h
           refine Tops_step rfl (OpT_idxO rfl rfl rfl rfl rfl slF22 (i := 4) rfl hx17) ?_
           refine Tops_step rfl (OpT_fieldR (S := SegS) rfl rfl rfl rfl fldF47x2 (i := 4) rfl hx17) ?_
           refine Tops_step rfl (OpT_storeOF (S := SegS) (u := (Seg.mk s4.At s4.Len false)) rfl rfl rfl rfl rfl tyF4 (i := 4) rfl hx17 rfl rfl rfl) ?_
           refine Tops_nil ?_
           refine Tk_wkS (fr' := [(1, some (vb1)), (7, some (.pointer (some ⟨b1, 0, none⟩))), (9, some (v22)), (12, some (v23)), (16, some (vI scatte1.1)), (18, some (v24)), (19, some (vI i4))]) (own' := [some (cellsR b1 71 [v3, v4]), some (rowsX u8S true v4 vs1 scatte1.2.2 none), some (rowS u8S v22 l8), some (rowS u64S v23 l9), some (rowS SegS v24 (l10.set i4.toNat (Seg.mk s4.At s4.Len false)))]) (shr' := [Fact.sl u8S vb1 b, Fact.sl RegionS v3 mem1.l]) [1, 7, 9, 12, 16, 18, 19] [0, 1, 2, 3, 4] [0, 1] rfl rfl rfl rfl ?_
           refine Tk_blk ?_
           refine Tk_region ?_
           refine Tops_step rfl (OpT_move rfl rfl rfl rfl) ?_
           refine Tops_step rfl (OpT_bin rfl rfl rfl rfl rfl (bin_add_i (a := i4) (b := (1 : Int)))) ?_
           refine Tops_step rfl (OpT_assign rfl rfl rfl rfl) ?_
           refine Tops_nil ?_
           refine Tk_wkS (fr' := [(1, some (vb1)), (7, some (.pointer (some ⟨b1, 0, none⟩))), (9, some (v22)), (12, some (v23)), (16, some (vI scatte1.1)), (18, some (v24)), (19, some (vI (wi (i4 + (1 : Int)))))]) (own' := [some (cellsR b1 71 [v3, v4]), some (rowsX u8S true v4 vs1 scatte1.2.2 none), some (rowS u8S v22 l8), some (rowS u64S v23 l9), some (rowS SegS v24 (l10.set i4.toNat (Seg.mk s4.At s4.Len false)))]) (shr' := [Fact.sl u8S vb1 b, Fact.sl RegionS v3 mem1.l]) [1, 7, 9, 12, 16, 18, 19] [0, 1, 2, 3, 4] [0, 1] rfl rfl rfl rfl ?_
           exact Tk_backS (l8, l9, l10.set i4.toNat (Seg.mk s4.At s4.Len false), wi (i4 + (1 : Int)), v22, v23, v24) h [1, 7, 9, 12, 16, 18, 19] [0, 1, 2, 3, 4] [0, 1] rfl rfl rfl rfl rfl
          ·replace h := br_f hg17 h
           refine Tk_condF (congrArg (fun b => some (Value.bool b)) hg17) ?_
           refine Tk_exit _ rfl ?_
           refine Tk_seq ?_
           refine Tk_region ?_
           refine Tops_step rfl (OpT_move rfl rfl rfl rfl) ?_
           refine Tops_step rfl (OpT_move rfl rfl rfl rfl) ?_
           obtain ⟨gather1, hx18, h⟩ := ob_e h
           refine Tops_exP rfl (OpT_callB [4] [5, 6, 2, 3, 4, 7] (w_seg_Gather hx18) [0, 1] rfl rfl rfl rfl rfl callee19 rfl rfl rfl rfl rfl rfl (bor_cons (bor_shr 1 rfl) (bor_cons (bor_row 4 rfl rfl) bor_nil)) (by rintro _ _ _ ⟨_, rfl, rfl, rfl⟩; exact ⟨rfl, (ri_cons (ri_cells _ _ _) (ri_cons (ri_rows rfl _ _ _ _ _) (ri_cons (ri_row (S := u8S) rfl _ _) ri_nil)))⟩)) ?_
           rintro _ ⟨_, _, _, ⟨v25, rfl, rfl, rfl⟩, rfl⟩
           refine Tops_step rfl (OpT_move rfl rfl rfl rfl) ?_
           refine Tops_step rfl (OpT_extract rfl rfl rfl rfl rfl) ?_
           refine Tops_step rfl (OpT_extract rfl rfl rfl rfl rfl) ?_
           refine Tops_step rfl (OpT_assign rfl rfl rfl rfl) ?_
           refine Tops_step rfl (OpT_assign rfl rfl rfl rfl) ?_
           refine Tops_nil ?_
           refine Tk_wkS (fr' := [(1, some (vb1)), (7, some (.pointer (some ⟨b1, 0, none⟩))), (9, some (v22)), (12, some (v23)), (16, some (vI scatte1.1)), (20, some (v25)), (21, some (vI gather1.2))]) (own' := [some (cellsR b1 71 [v3, v4]), some (rowsX u8S true v4 vs1 scatte1.2.2 none), some (rowS u8S v22 l8), some (rowS u64S v23 l9), some (rowS u8S v25 gather1.1)]) (shr' := [Fact.sl u8S vb1 b, Fact.sl RegionS v3 mem1.l]) [1, 7, 9, 12, 16, 20, 21] [0, 1, 2, 3, 5] [0, 1] rfl rfl rfl rfl ?_
           refine Tk_seq ?_
           refine Tk_drawT (by kernel_rfl) ?_
           refine TA_tb [0, 1, 3, 7, 15, 31, 7, 71, 255, 511, 1023, 2047, 4095, 2047, 10239, 32767, 65535, 131071, 262143, 262143, 1048575, 2097151, 262143, 262143, 12845055, 29622271, 67108863, 134217727, 268435455] (by kernel_rfl) fun htb => ?_
           refine TA_step htb (by kernel_rfl) rfl rfl (OpT_move rfl rfl rfl rfl) ?_
           refine TA_step htb (by kernel_rfl) rfl rfl (OpT_bin rfl rfl rfl rfl rfl (bin_eql_i (a := gather1.2) (b := (0 : Int)))) ?_
           refine TA_step htb (by kernel_rfl) rfl rfl (OpT_move rfl rfl rfl rfl) ?_
           refine TA_wkS (fr' := [(1, some (vb1)), (7, some (.pointer (some ⟨b1, 0, none⟩))), (9, some (v22)), (12, some (v23)), (16, some (vI scatte1.1)), (20, some (v25)), (160, some (vB (gather1.2 == (0 : Int))))]) (own' := [some (cellsR b1 71 [v3, v4]), some (rowsX u8S true v4 vs1 scatte1.2.2 none), some (rowS u8S v22 l8), some (rowS u64S v23 l9), some (rowS u8S v25 gather1.1)]) (shr' := [Fact.sl u8S vb1 b, Fact.sl RegionS v3 mem1.l]) [1, 7, 9, 12, 16, 20, 160] [0, 1, 2, 3, 4] [0, 1] rfl rfl rfl rfl ?_
           refine TA_retire (i := 2) rfl ?_
           obtain ⟨hg18, h⟩ := chk_e h
           obtain ⟨image1, hx19, h⟩ := ob_e h
           refine TA_seg (lo := 3) (hi := 8) htb rfl rfl (by kernel_rfl) (fun c L a w => ∃ (v26 : Value), Sat c ⟨[(1, some (vb1)), (7, some (.pointer (some ⟨b1, 0, none⟩))), (9, some (v22)), (12, some (v23)), (16, some (vI scatte1.1)), (20, some (v25)), (160, some (vB (gather1.2 == (0 : Int)))), (161, bif L 3 then some (.pointer (some ⟨b1, 0, none⟩)) else none), (162, bif L 4 then some (v26) else none), (163, bif L 5 then some (vS image1) else none), (164, bif L 6 then some (v22) else none), (165, bif L 7 then some (vS l8) else none)], [(some (cellsR b1 71 [v3, v4]) : Option Res), (some (rowsX u8S true v4 vs1 scatte1.2.2 none) : Option Res), (none : Option Res), (some (rowS u64S v23 l9) : Option Res), (some (rowS u8S v25 gather1.1) : Option Res)], [Fact.sl u8S vb1 b, Fact.sl RegionS v3 mem1.l, Fact.sl u8S v22 l8, (bif L 4 then Fact.sl u8S v26 image1 else Fact.tt)]⟩ a w) [([], [4, 5]), ([3], [5]), ([3, 4], []), ([], [7]), ([6], [])] rfl (by kernel_rfl) ?_ (steps_cons ?_ (steps_cons ?_ (steps_cons ?_ (steps_cons ?_ (steps_cons ?_ (steps_nil)))))) ?_
           ·intro a w hs
            exact ⟨undef, hs.startF [161, 162, 163, 164, 165] [0, 1, 2, 3, 4] [0, 1, 2, 3] rfl rfl rfl rfl⟩
           ·intro L a w hv K Q hK
            obtain ⟨v26, hs⟩ := hv
            refine wpOp_yes rfl rfl rfl hs (congrArg (fun b => some (Value.bool b)) hg18) (OpT_move rfl rfl rfl rfl) ?_
            rintro _ rfl a' w' hs'
            exact hK a' w' ⟨v26, hs'.putF (i := 7) rfl [0, 1, 2, 3, 4] [0, 1, 2, 3] rfl rfl rfl rfl⟩
           ·intro L a w hv K Q hK
            obtain ⟨v26, hs⟩ := hv
            refine wpOp_yes rfl rfl rfl hs (congrArg (fun b => some (Value.bool b)) hg18) (OpT_callP [5, 6, 2, 3, 4] (ws_gmem_Mem_Image hx19) [0, 1] [1] rfl rfl rfl rfl rfl callee20 rfl rfl rfl rfl rfl) ?_
            rintro _ ⟨v26', _, _, ⟨_, rfl, rfl, rfl⟩, rfl⟩ a' w' hs'
            exact hK a' w' ⟨v26', hs'.putF (i := 8) rfl [0, 1, 2, 3, 4] [0, 1, 2, 4] rfl rfl rfl rfl⟩
           ·intro L a w hv K Q hK
            obtain ⟨v26, hs⟩ := hv
            refine wpOp_yes rfl rfl rfl hs (congrArg (fun b => some (Value.bool b)) hg18) (OpT_strS rfl rfl rfl rfl Try.underlying33 Try.underlying5 Try.underlying9 (i := 3) rfl) ?_
            rintro _ rfl a' w' hs'
            exact hK a' w' ⟨v26, hs'.putF (i := 9) rfl [0, 1, 2, 3, 4] [0, 1, 2, 3] rfl rfl rfl rfl⟩
           ·intro L a w hv K Q hK
            obtain ⟨v26, hs⟩ := hv
            refine wpOp_yes rfl rfl rfl hs (congrArg (fun b => some (Value.bool b)) hg18) (OpT_move rfl rfl rfl rfl) ?_
            rintro _ rfl a' w' hs'
            exact hK a' w' ⟨v26, hs'.putF (i := 10) rfl [0, 1, 2, 3, 4] [0, 1, 2, 3] rfl rfl rfl rfl⟩
           ·intro L a w hv K Q hK
            obtain ⟨v26, hs⟩ := hv
            refine wpOp_yes rfl rfl rfl hs (congrArg (fun b => some (Value.bool b)) hg18) (OpT_strS rfl rfl rfl rfl Try.underlying33 Try.underlying5 Try.underlying9 (i := 2) rfl) ?_
            rintro _ rfl a' w' hs'
            exact hK a' w' ⟨v26, hs'.putF (i := 11) rfl [0, 1, 2, 3, 4] [0, 1, 2, 3] rfl rfl rfl rfl⟩
           ·intro L a w hL hv
            rw [allTrue hL] at hv
            obtain ⟨v26, hs⟩ := hv
            refine (show TA _ _ _ 8 ⟨[(1, some (vb1)), (12, some (v23)), (16, some (vI scatte1.1)), (20, some (v25)), (160, some (vB (gather1.2 == (0 : Int)))), (163, some (vS image1)), (165, some (vS l8))], [some (rowS u64S v23 l9), some (rowS u8S v25 gather1.1)], [Fact.sl u8S vb1 b]⟩ from ?_) a w (hs.wkS [1, 12, 16, 20, 160, 163, 165] [3, 4] [0] rfl rfl rfl rfl)
            clear hs hL
            refine TA_yes htb (by kernel_rfl) rfl rfl rfl (congrArg (fun b => some (Value.bool b)) hg18) (OpT_bin rfl rfl rfl rfl rfl (bin_eql_s (a := image1) (b := l8))) ?_
            rintro _ rfl
            refine TA_step htb (by kernel_rfl) rfl rfl (OpT_pickT rfl rfl rfl (congrArg (fun b => some (Value.bool b)) hg18) rfl) ?_
            refine TA_step htb (by kernel_rfl) rfl rfl (OpT_move rfl rfl rfl rfl) ?_
            refine TA_wkS (fr' := [(1, some (vb1)), (12, some (v23)), (16, some (vI scatte1.1)), (20, some (v25)), (168, some (vB (image1 == l8)))]) (own' := [some (rowS u64S v23 l9), some (rowS u8S v25 gather1.1)]) (shr' := [Fact.sl u8S vb1 b]) [1, 12, 16, 20, 168] [0, 1] [0] rfl rfl rfl rfl ?_
            obtain ⟨hg19, h⟩ := chk_e h
            refine TA_seg (lo := 11) (hi := 15) htb rfl rfl (by kernel_rfl) (fun c L a w => Sat c ⟨[(1, some (vb1)), (12, some (v23)), (16, some (vI scatte1.1)), (20, some (v25)), (168, some (vB (image1 == l8))), (169, bif L 11 then some (v25) else none), (170, bif L 12 then some (vI (len gather1.1)) else none), (171, bif L 13 then some (v23) else none), (172, bif L 14 then some (vI (len l9)) else none)], [(some (rowS u64S v23 l9) : Option Res), (some (rowS u8S v25 gather1.1) : Option Res)], [Fact.sl u8S vb1 b]⟩ a w) [([], [12]), ([11], []), ([], [14]), ([13], [])] rfl (by kernel_rfl) ?_ (steps_cons ?_ (steps_cons ?_ (steps_cons ?_ (steps_cons ?_ (steps_nil))))) ?_
            ·intro a w hs
             exact hs.startF [169, 170, 171, 172] [0, 1] [0] rfl rfl rfl rfl
            ·intro L a w hv K Q hK
             have hs := hv
             refine wpOp_yes rfl rfl rfl hs (congrArg (fun b => some (Value.bool b)) hg19) (OpT_move rfl rfl rfl rfl) ?_
             rintro _ rfl a' w' hs'
             exact hK a' w' (hs'.putF (i := 5) rfl [0, 1] [0] rfl rfl rfl rfl)
            ·intro L a w hv K Q hK
             have hs := hv
             refine wpOp_yes rfl rfl rfl hs (congrArg (fun b => some (Value.bool b)) hg19) (OpT_lenO rfl rfl rfl rfl Try.underlying33 (i := 1) rfl) ?_
             rintro _ rfl a' w' hs'
             exact hK a' w' (hs'.putF (i := 6) rfl [0, 1] [0] rfl rfl rfl rfl)
            ·intro L a w hv K Q hK
             have hs := hv
             refine wpOp_yes rfl rfl rfl hs (congrArg (fun b => some (Value.bool b)) hg19) (OpT_move rfl rfl rfl rfl) ?_
             rintro _ rfl a' w' hs'
             exact hK a' w' (hs'.putF (i := 7) rfl [0, 1] [0] rfl rfl rfl rfl)
            ·intro L a w hv K Q hK
             have hs := hv
             refine wpOp_yes rfl rfl rfl hs (congrArg (fun b => some (Value.bool b)) hg19) (OpT_lenO rfl rfl rfl rfl Try.underlying44 (i := 0) rfl) ?_
             rintro _ rfl a' w' hs'
             exact hK a' w' (hs'.putF (i := 8) rfl [0, 1] [0] rfl rfl rfl rfl)
            ·intro L a w hL hv
             rw [allTrue hL] at hv
             have hs := hv
             refine (show TA _ _ _ 15 ⟨[(1, some (vb1)), (16, some (vI scatte1.1)), (20, some (v25)), (168, some (vB (image1 == l8))), (170, some (vI (len gather1.1))), (172, some (vI (len l9)))], [some (rowS u8S v25 gather1.1)], [Fact.sl u8S vb1 b]⟩ from ?_) a w (hs.wkS [1, 16, 20, 168, 170, 172] [1] [0] rfl rfl rfl rfl)
             clear hs hL
             refine TA_yes htb (by kernel_rfl) rfl rfl rfl (congrArg (fun b => some (Value.bool b)) hg19) (OpT_bin rfl rfl rfl rfl rfl (bin_eql_i (a := len gather1.1) (b := len l9))) ?_
             rintro _ rfl
             refine TA_step htb (by kernel_rfl) rfl rfl (OpT_pickT rfl rfl rfl (congrArg (fun b => some (Value.bool b)) hg19) rfl) ?_
             refine TA_step htb (by kernel_rfl) rfl rfl (OpT_move rfl rfl rfl rfl) ?_
             refine TA_wkS (fr' := [(1, some (vb1)), (16, some (vI scatte1.1)), (20, some (v25)), (175, some (vB ((len gather1.1) == (len l9))))]) (own' := [some (rowS u8S v25 gather1.1)]) (shr' := [Fact.sl u8S vb1 b]) [1, 16, 20, 175] [0] [0] rfl rfl rfl rfl ?_
             refine TA_retire (i := 0) rfl ?_
             obtain ⟨hg20, h⟩ := chk_e h
             obtain ⟨hc3, h⟩ := chk_e h
             obtain ⟨hc4, h⟩ := chk_e h
             refine TA_seg (lo := 18) (hi := 26) htb rfl rfl (by kernel_rfl) (fun c L a w => ∃ (v27 : Value), ∃ (v28 : Value), Sat c ⟨[(1, some (vb1)), (16, some (vI scatte1.1)), (20, some (v25)), (175, some (vB ((len gather1.1) == (len l9)))), (176, bif L 18 then some (v25) else none), (177, bif L 19 then some (vI scatte1.1) else none), (178, bif L 20 then some (v27) else none), (179, bif L 21 then some (vS (sub gather1.1 (0 : Int) scatte1.1)) else none), (180, bif L 22 then some (vb1) else none), (181, bif L 23 then some (vI scatte1.1) else none), (182, bif L 24 then some (v28) else none), (183, bif L 25 then some (vS (sub b (0 : Int) scatte1.1)) else none)], [(none : Option Res)], [Fact.sl u8S vb1 b, Fact.sl u8S v25 gather1.1, (bif L 20 then Fact.sl u8S v27 (sub gather1.1 (0 : Int) scatte1.1) else Fact.tt), (bif L 24 then Fact.sl u8S v28 (sub b (0 : Int) scatte1.1) else Fact.tt)]⟩ a w) [([], [20, 21]), ([], [20, 21]), ([18, 19], [21]), ([18, 19, 20], []), ([], [24, 25]), ([], [24, 25]), ([22, 23], [25]), ([22, 23, 24], [])] rfl (by kernel_rfl) ?_ (steps_cons ?_ (steps_cons ?_ (steps_cons ?_ (steps_cons ?_ (steps_cons ?_ (steps_cons ?_ (steps_cons ?_ (steps_cons ?_ (steps_nil))))))))) ?_
             ·intro a w hs
              exact ⟨undef, undef, hs.startF [176, 177, 178, 179, 180, 181, 182, 183] [0] [0, 1, 2, 3] rfl rfl rfl rfl⟩
             ·intro L a w hv K Q hK
              obtain ⟨v27, v28, hs⟩ := hv
              refine wpOp_yes rfl rfl rfl hs (congrArg (fun b => some (Value.bool b)) hg20) (OpT_move rfl rfl rfl rfl) ?_
              rintro _ rfl a' w' hs'
              exact hK a' w' ⟨v27, v28, hs'.putF (i := 4) rfl [0] [0, 1, 2, 3] rfl rfl rfl rfl⟩
             ·intro L a w hv K Q hK
              obtain ⟨v27, v28, hs⟩ := hv
              refine wpOp_yes rfl rfl rfl hs (congrArg (fun b => some (Value.bool b)) hg20) (OpT_move rfl rfl rfl rfl) ?_
              rintro _ rfl a' w' hs'
              exact hK a' w' ⟨v27, v28, hs'.putF (i := 5) rfl [0] [0, 1, 2, 3] rfl rfl rfl rfl⟩
             ·intro L a w hv K Q hK
              obtain ⟨v27, v28, hs⟩ := hv
              refine wpOp_yes rfl rfl rfl hs (congrArg (fun b => some (Value.bool b)) hg20) (OpT_sliceH (m := scatte1.1) rfl rfl rfl rfl rfl slF33 (i := 1) rfl hc3) ?_
              rintro _ ⟨v27', rfl⟩ a' w' hs'
              exact hK a' w' ⟨v27', v28, hs'.putF (i := 6) rfl [0] [0, 1, 4, 3] rfl rfl rfl rfl⟩
             ·intro L a w hv K Q hK
              obtain ⟨v27, v28, hs⟩ := hv
              refine wpOp_yes rfl rfl rfl hs (congrArg (fun b => some (Value.bool b)) hg20) (OpT_strS rfl rfl rfl rfl Try.underlying33 Try.underlying5 Try.underlying9 (i := 2) rfl) ?_
              rintro _ rfl a' w' hs'
              exact hK a' w' ⟨v27, v28, hs'.putF (i := 7) rfl [0] [0, 1, 2, 3] rfl rfl rfl rfl⟩
             ·intro L a w hv K Q hK
              obtain ⟨v27, v28, hs⟩ := hv
              refine wpOp_yes rfl rfl rfl hs (congrArg (fun b => some (Value.bool b)) hg20) (OpT_move rfl rfl rfl rfl) ?_
              rintro _ rfl a' w' hs'
              exact hK a' w' ⟨v27, v28, hs'.putF (i := 8) rfl [0] [0, 1, 2, 3] rfl rfl rfl rfl⟩
             ·intro L a w hv K Q hK
              obtain ⟨v27, v28, hs⟩ := hv
              refine wpOp_yes rfl rfl rfl hs (congrArg (fun b => some (Value.bool b)) hg20) (OpT_move rfl rfl rfl rfl) ?_
              rintro _ rfl a' w' hs'
              exact hK a' w' ⟨v27, v28, hs'.putF (i := 9) rfl [0] [0, 1, 2, 3] rfl rfl rfl rfl⟩
             ·intro L a w hv K Q hK
              obtain ⟨v27, v28, hs⟩ := hv
              refine wpOp_yes rfl rfl rfl hs (congrArg (fun b => some (Value.bool b)) hg20) (OpT_sliceH (m := scatte1.1) rfl rfl rfl rfl rfl slF33 (i := 0) rfl hc4) ?_
              rintro _ ⟨v28', rfl⟩ a' w' hs'
              exact hK a' w' ⟨v27, v28', hs'.putF (i := 10) rfl [0] [0, 1, 2, 4] rfl rfl rfl rfl⟩
             ·intro L a w hv K Q hK
              obtain ⟨v27, v28, hs⟩ := hv
              refine wpOp_yes rfl rfl rfl hs (congrArg (fun b => some (Value.bool b)) hg20) (OpT_strS rfl rfl rfl rfl Try.underlying33 Try.underlying5 Try.underlying9 (i := 3) rfl) ?_
              rintro _ rfl a' w' hs'
              exact hK a' w' ⟨v27, v28, hs'.putF (i := 11) rfl [0] [0, 1, 2, 3] rfl rfl rfl rfl⟩
             ·intro L a w hL hv
              rw [allTrue hL] at hv
              obtain ⟨v27, v28, hs⟩ := hv
              refine (show TA _ _ _ 26 ⟨[(175, some (vB ((len gather1.1) == (len l9)))), (179, some (vS (sub gather1.1 (0 : Int) scatte1.1))), (183, some (vS (sub b (0 : Int) scatte1.1)))], [], []⟩ from ?_) a w (hs.wkS [175, 179, 183] [] [] rfl rfl rfl rfl)
              clear hs hL
              refine TA_yes htb (by kernel_rfl) rfl rfl rfl (congrArg (fun b => some (Value.bool b)) hg20) (OpT_bin rfl rfl rfl rfl rfl (bin_eql_s (a := sub gather1.1 (0 : Int) scatte1.1) (b := sub b (0 : Int) scatte1.1))) ?_
              rintro _ rfl
              refine TA_step htb (by kernel_rfl) rfl rfl (OpT_pickT rfl rfl rfl (congrArg (fun b => some (Value.bool b)) hg20) rfl) ?_
              refine TA_step htb (by kernel_rfl) rfl rfl (OpT_assign rfl rfl rfl rfl) ?_
              refine TA_end rfl ?_
              refine Tk_wkS (fr' := [(6, some (vB ((sub gather1.1 (0 : Int) scatte1.1) == (sub b (0 : Int) scatte1.1))))]) (own' := []) (shr' := []) [6] [] [] rfl rfl rfl rfl ?_
              obtain ⟨hg21, h⟩ := chk_e h
              exact Tk_retV rfl rfl (resA (vs := [.bool true]) rfl ⟨(congrArg (fun b => some (Value.bool b)) hg21), trivial⟩) [] [] rfl rfl rfl ⟨rfl, rfl, rfl⟩
end Go.Proofs.Ytkdekmjcfoahjaa
