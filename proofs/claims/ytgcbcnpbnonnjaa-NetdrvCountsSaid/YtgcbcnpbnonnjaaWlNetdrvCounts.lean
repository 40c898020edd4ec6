/- The law NetdrvCounts is walked: it returns what its plain words say. No condition. -/
import Derived.Test.YtgcbcnpbnonnjaaWa6
namespace Go.Proofs.Ytgcbcnpbnonnjaa
attribute [local irreducible] sub

set_option maxRecDepth 100000 in
set_option maxHeartbeats 4000000 in
theorem w_law26zNetdrvCounts {raw : List UInt8} {l : List (List Seg)} {written : List UInt32} {feats : UInt64} {vraw1 : Value} {vl1 : Value} {vwritten1 : Value}  (h : law26zNetdrvCounts raw l written feats = some true) :
  Ctr Try.prog 6 #[vraw1, vl1, vwritten1, vU64 feats] [] [Fact.sl u8S vraw1 raw, Fact.sl (Shape.slice SegS) vl1 l, Fact.sl u32S vwritten1 written]
   (fun rv own shr => rv = .bool true ∧ own = [] ∧ shr = []) := by
 unfold law26zNetdrvCounts at h
 refine Ctr.mk (args := [vraw1, vl1, vwritten1, vU64 feats]) Try.func6 rfl rfl (fun R0 w0 B => ?_)
 refine Tk_seq (Tk_region (Tops_step rfl (OpT_assign rfl rfl rfl rfl) ?_))
 refine Tops_nil (Tk_wkS (fr' := [(0, some (vraw1)), (1, some (vl1)), (2, some (vwritten1)), (3, some (vU64 feats))]) (own' := []) (shr' := [Fact.sl u8S vraw1 raw, Fact.sl (Shape.slice SegS) vl1 l, Fact.sl u32S vwritten1 written]) [0, 1, 2, 3] [] [0, 1, 2] rfl rfl rfl rfl ?_)
 refine Tk_seq (Tk_seq (Tk_region ?_))
 obtain ⟨lives1, hx1, h⟩ := ob_e h
 refine Tops_exP rfl (OpT_call (w_law26zlives hx1) [] [] rfl rfl rfl rfl rfl callee7 rfl rfl rfl rfl) ?_
 rintro _ ⟨_, _, _, ⟨rfl, rfl, rfl⟩, rfl⟩
 refine Tops_step rfl (OpT_not rfl rfl rfl rfl) ?_
 refine Tops_nil (Tk_wkS (fr' := [(0, some (vraw1)), (1, some (vl1)), (2, some (vwritten1)), (3, some (vU64 feats)), (19, some (vB (!lives1)))]) (own' := []) (shr' := [Fact.sl u8S vraw1 raw, Fact.sl (Shape.slice SegS) vl1 l, Fact.sl u32S vwritten1 written]) [0, 1, 2, 3, 19] [] [0, 1, 2] rfl rfl rfl rfl ?_)
 obtain ⟨hg1, h⟩ := chk_e h
 replace hg1 := not_t hg1
 refine Tk_condF (congrArg (fun b => some (Value.bool b)) hg1) ?_
 refine Tk_skip (Tk_seq (Tk_seq (Tk_region (Tops_step rfl (OpT_move rfl rfl rfl rfl) ?_))))
 refine Tops_step rfl (OpT_lenS rfl rfl rfl rfl Try.underlying35 (i := 0) rfl) ?_
 refine Tops_step rfl (OpT_bin rfl rfl rfl rfl rfl (bin_gtr_i (a := len raw) (b := (6000 : Int)))) ?_
 refine Tops_step rfl (OpT_move rfl rfl rfl rfl) ?_
 rcases Bool.eq_false_or_eq_true (decide ((len raw) > (6000 : Int))) with hg2 | hg2
 ·replace h := br_t hg2 h
  refine Tops_no rfl rfl (congrArg (fun b => some (Value.bool b)) hg2) rfl rfl ?_
  refine Tops_no rfl rfl (congrArg (fun b => some (Value.bool b)) hg2) rfl rfl ?_
  refine Tops_no rfl rfl (congrArg (fun b => some (Value.bool b)) hg2) rfl rfl ?_
  refine Tops_step rfl (OpT_pickT rfl rfl rfl (congrArg (fun b => some (Value.bool b)) hg2) rfl) ?_
  refine Tops_step rfl (OpT_move rfl rfl rfl rfl) ?_
  refine Tops_no rfl rfl rfl rfl rfl ?_
  refine Tops_no rfl rfl rfl rfl rfl ?_
  refine Tops_no rfl rfl rfl rfl rfl ?_
  refine Tops_step rfl (OpT_pickT rfl rfl rfl rfl rfl) ?_
  refine Tops_nil (Tk_wkS (fr' := [(0, some (vraw1)), (1, some (vl1)), (2, some (vwritten1)), (3, some (vU64 feats)), (32, some (vB true))]) (own' := []) (shr' := [Fact.sl u8S vraw1 raw, Fact.sl (Shape.slice SegS) vl1 l, Fact.sl u32S vwritten1 written]) [0, 1, 2, 3, 32] [] [0, 1, 2] rfl rfl rfl rfl ?_)
  refine Tk_condT rfl ?_
  refine Tk_seq (Tk_region (Tops_step rfl (OpT_assign rfl rfl rfl rfl) ?_))
  refine Tops_nil (Tk_wkS (fr' := [(8, some (vB true))]) (own' := []) (shr' := []) [8] [] [] rfl rfl rfl rfl ?_)
  exact Tk_retV rfl rfl (resA (vs := [.bool true]) rfl ⟨rfl, trivial⟩) [] [] rfl rfl rfl ⟨rfl, rfl, rfl⟩
 ·replace h := br_f hg2 h
  refine Tops_yes rfl rfl (congrArg (fun b => some (Value.bool b)) hg2) (OpT_move rfl rfl rfl rfl) ?_
  rintro _ rfl
  obtain ⟨lightb1, hx2, h⟩ := ob_e h
  refine Tops_yes rfl rfl (congrArg (fun b => some (Value.bool b)) hg2) (OpT_call (w_kit_LightBufs hx2) [] [1] rfl rfl rfl rfl rfl callee29 rfl rfl rfl rfl) ?_
  rintro _ ⟨_, _, _, ⟨rfl, rfl, rfl⟩, rfl⟩
  refine Tops_yes rfl rfl (congrArg (fun b => some (Value.bool b)) hg2) (OpT_not rfl rfl rfl rfl) ?_
  rintro _ rfl
  refine Tops_step rfl (OpT_pickF rfl rfl rfl (congrArg (fun b => some (Value.bool b)) hg2) rfl) ?_
  refine Tops_step rfl (OpT_move rfl rfl rfl rfl) ?_
  rcases Bool.eq_false_or_eq_true ((!lightb1)) with hg3 | hg3
  ·replace h := br_t hg3 h
   refine Tops_no rfl rfl (congrArg (fun b => some (Value.bool b)) hg3) rfl rfl ?_
   refine Tops_no rfl rfl (congrArg (fun b => some (Value.bool b)) hg3) rfl rfl ?_
   refine Tops_no rfl rfl (congrArg (fun b => some (Value.bool b)) hg3) rfl rfl ?_
   refine Tops_step rfl (OpT_pickT rfl rfl rfl (congrArg (fun b => some (Value.bool b)) hg3) rfl) ?_
   refine Tops_nil (Tk_wkS (fr' := [(0, some (vraw1)), (1, some (vl1)), (2, some (vwritten1)), (3, some (vU64 feats)), (32, some (vB true))]) (own' := []) (shr' := [Fact.sl u8S vraw1 raw, Fact.sl (Shape.slice SegS) vl1 l, Fact.sl u32S vwritten1 written]) [0, 1, 2, 3, 32] [] [0, 1, 2] rfl rfl rfl rfl ?_)
   refine Tk_condT rfl ?_
   refine Tk_seq (Tk_region (Tops_step rfl (OpT_assign rfl rfl rfl rfl) ?_))
   refine Tops_nil (Tk_wkS (fr' := [(8, some (vB true))]) (own' := []) (shr' := []) [8] [] [] rfl rfl rfl rfl ?_)
   exact Tk_retV rfl rfl (resA (vs := [.bool true]) rfl ⟨rfl, trivial⟩) [] [] rfl rfl rfl ⟨rfl, rfl, rfl⟩
  ·replace h := br_f hg3 h
   refine Tops_yes rfl rfl (congrArg (fun b => some (Value.bool b)) hg3) (OpT_move rfl rfl rfl rfl) ?_
   rintro _ rfl
   refine Tops_yes rfl rfl (congrArg (fun b => some (Value.bool b)) hg3) (OpT_lenS rfl rfl rfl rfl Try.underlying62 (i := 2) rfl) ?_
   rintro _ rfl
   refine Tops_yes rfl rfl (congrArg (fun b => some (Value.bool b)) hg3) (OpT_bin rfl rfl rfl rfl rfl (bin_gtr_i (a := len written) (b := (20 : Int)))) ?_
   rintro _ rfl
   refine Tops_step rfl (OpT_pickF rfl rfl rfl (congrArg (fun b => some (Value.bool b)) hg3) rfl) ?_
   refine Tops_nil (Tk_wkS (fr' := [(0, some (vraw1)), (1, some (vl1)), (2, some (vwritten1)), (3, some (vU64 feats)), (32, some (vB (decide ((len written) > (20 : Int)))))]) (own' := []) (shr' := [Fact.sl u8S vraw1 raw, Fact.sl (Shape.slice SegS) vl1 l, Fact.sl u32S vwritten1 written]) [0, 1, 2, 3, 32] [] [0, 1, 2] rfl rfl rfl rfl ?_)
   rcases Bool.eq_false_or_eq_true (decide ((len written) > (20 : Int))) with hg4 | hg4
   ·replace h := br_t hg4 h
    refine Tk_condT (congrArg (fun b => some (Value.bool b)) hg4) ?_
    refine Tk_seq (Tk_region (Tops_step rfl (OpT_assign rfl rfl rfl rfl) ?_))
    refine Tops_nil (Tk_wkS (fr' := [(8, some (vB true))]) (own' := []) (shr' := []) [8] [] [] rfl rfl rfl rfl ?_)
    exact Tk_retV rfl rfl (resA (vs := [.bool true]) rfl ⟨rfl, trivial⟩) [] [] rfl rfl rfl ⟨rfl, rfl, rfl⟩
   ·replace h := br_f hg4 h
    refine Tk_condF (congrArg (fun b => some (Value.bool b)) hg4) ?_
    refine Tk_skip (Tk_seq (Tk_region ?_))
    obtain ⟨memory1, hx3, h⟩ := ob_e h
    refine Tops_exP rfl (OpT_call (w_law26zmemory hx3) [] [] rfl rfl rfl rfl rfl callee12 rfl rfl rfl rfl) ?_
    rintro _ ⟨v1, _, _, ⟨_, rfl, rfl, rfl⟩, rfl⟩
    refine Tops_retire (i := 0) rfl ?_
    obtain ⟨new1, hx4, h⟩ := ob_e h
    refine Tops_exP rfl (OpT_call (w_gmem_New hx4) [] [3] rfl rfl rfl rfl rfl callee11 rfl rfl rfl rfl) ?_
    rintro _ ⟨_, _, _, ⟨v2, rfl, rfl, rfl⟩, rfl⟩
    refine Tops_step rfl (OpT_move rfl rfl rfl rfl) ?_
    refine Tops_step rfl (OpT_extract rfl rfl rfl rfl rfl) ?_
    refine Tops_step rfl (OpT_extract rfl rfl rfl rfl rfl) ?_
    refine Tops_step rfl (OpT_assign rfl rfl rfl rfl) ?_
    refine Tops_step rfl (OpT_assign rfl rfl rfl rfl) ?_
    refine Tops_nil (Tk_wkS (fr' := [(0, some (vraw1)), (1, some (vl1)), (2, some (vwritten1)), (3, some (vU64 feats)), (9, some (v2)), (10, some (vI new1.2))]) (own' := [some (optR 82 RegionS u8S true gmem_Mem.l gmem_Mem.b v2 new1.1)]) (shr' := [Fact.sl u8S vraw1 raw, Fact.sl (Shape.slice SegS) vl1 l, Fact.sl u32S vwritten1 written]) [0, 1, 2, 3, 9, 10] [1] [0, 1, 2] rfl rfl rfl rfl ?_)
    rcases onO_cases h with ⟨ho1, h⟩ | ⟨mem1, ho1, h⟩
    ·cases h
    ·refine Tk_optS (i := 0) rfl ho1 ?_
     rintro b1 v3 v4 vs1 rfl
     refine Tk_seq (Tk_seq (Tk_region (Tops_step rfl (OpT_move rfl rfl rfl rfl) ?_)))
     refine Tops_step rfl (OpT_bin rfl rfl rfl rfl rfl (bin_neq_i (a := new1.2) (b := (0 : Int)))) ?_
     refine Tops_step rfl (OpT_move rfl rfl rfl rfl) ?_
     obtain ⟨hg5, h⟩ := chk_e h
     replace hg5 := not_t hg5
     refine Tops_yes rfl rfl (congrArg (fun b => some (Value.bool b)) hg5) (OpT_move rfl rfl rfl rfl) ?_
     rintro _ rfl
     refine Tops_yes rfl rfl (congrArg (fun b => some (Value.bool b)) hg5) (OpT_move rfl rfl rfl rfl) ?_
     rintro _ rfl
     obtain ⟨write1, hx5, h⟩ := ob_e h
     refine Tops_yes rfl rfl (congrArg (fun b => some (Value.bool b)) hg5) (OpT_callP [2, 3] (w_gmem_Mem_Write hx5) [0, 1] [3, 0] rfl rfl rfl rfl rfl callee24 rfl rfl rfl rfl rfl) ?_
     rintro _ ⟨_, _, _, ⟨rfl, rfl, rfl⟩, rfl⟩
     refine Tops_yes rfl rfl (congrArg (fun b => some (Value.bool b)) hg5) (OpT_bin rfl rfl rfl rfl rfl (bin_neq_i (a := write1.1) (b := (0 : Int)))) ?_
     rintro _ rfl
     refine Tops_step rfl (OpT_pickF rfl rfl rfl (congrArg (fun b => some (Value.bool b)) hg5) rfl) ?_
     refine Tops_nil (Tk_wkS (fr' := [(1, some (vl1)), (2, some (vwritten1)), (3, some (vU64 feats)), (9, some (.pointer (some ⟨b1, 0, none⟩))), (45, some (vB (write1.1 != (0 : Int))))]) (own' := [some (cellsR b1 82 [v3, v4]), some (rowsX u8S true v4 vs1 write1.2 none)]) (shr' := [Fact.sl (Shape.slice SegS) vl1 l, Fact.sl u32S vwritten1 written, Fact.sl RegionS v3 mem1.l]) [1, 2, 3, 9, 45] [0, 1] [1, 2, 3] rfl rfl rfl rfl ?_)
     obtain ⟨hg6, h⟩ := chk_e h
     replace hg6 := not_t hg6
     refine Tk_condF (congrArg (fun b => some (Value.bool b)) hg6) ?_
     refine Tk_skip (Tk_seq (Tk_region (Tops_step rfl (OpT_move rfl rfl rfl rfl) ?_)))
     refine Tops_step rfl (OpT_move rfl rfl rfl rfl) ?_
     refine Tops_step rfl (OpT_move rfl rfl rfl rfl) ?_
     obtain ⟨bufs1, hx6, h⟩ := ob_e h
     refine Tops_exP rfl (OpT_call (w_kit_Bufs hx6) [] [0] rfl rfl rfl rfl rfl callee27 rfl rfl rfl rfl) ?_
     rintro _ ⟨v5, _, _, ⟨_, rfl, rfl, rfl⟩, rfl⟩
     refine Tops_ex rfl (OpT_buildSlice (S := u32S) (xs := ([] : List UInt32)) (css := []) (cs := []) (e := 27) rfl rfl rfl rfl (bldF slF62 (by decide) (by kernel_rfl)) rfl rfl rfl rfl (rel_plainD (S := u32S) (xs := ([] : List UInt32)) (css := []) rfl rfl)) fun v6 => ?_
     refine Tops_step rfl (OpT_move rfl rfl rfl rfl) ?_
     obtain ⟨hc1, h⟩ := chk_e h
     refine Tops_ex rfl (OpT_append rfl rfl rfl rfl rfl slF62 (i := 3) (j := 1) rfl rfl hc1) fun v7 => ?_
     refine Tops_retire (i := 2) rfl ?_
     refine Tops_retire (i := 3) rfl ?_
     obtain ⟨collec1, hx7, h⟩ := ob_e h
     refine Tops_exP rfl (OpT_callP [4, 5, 2, 3, 6] (w_netdrv_Collect hx7) [0, 1] [2, 3, 4] rfl rfl rfl rfl rfl callee26 rfl rfl rfl rfl rfl) ?_
     rintro _ ⟨_, _, _, ⟨v8, rfl, rfl, rfl⟩, rfl⟩
     refine Tops_step rfl (OpT_move rfl rfl rfl rfl) ?_
     refine Tops_step rfl (OpT_extract rfl rfl rfl rfl rfl) ?_
     refine Tops_step rfl (OpT_extract rfl rfl rfl rfl rfl) ?_
     refine Tops_step rfl (OpT_extract rfl rfl rfl rfl rfl) ?_
     refine Tops_step rfl (OpT_assign rfl rfl rfl rfl) ?_
     refine Tops_step rfl (OpT_assign rfl rfl rfl rfl) ?_
     refine Tops_step rfl (OpT_assign rfl rfl rfl rfl) ?_
     refine Tops_nil (Tk_wkS (fr' := [(1, some (vl1)), (2, some (vwritten1)), (3, some (vU64 feats)), (9, some (.pointer (some ⟨b1, 0, none⟩))), (11, some (v8)), (12, some (vI collec1.2.1)), (10, some (vI collec1.2.2))]) (own' := [some (cellsR b1 82 [v3, v4]), some (rowsX u8S true v4 vs1 write1.2 none), some (rowS FrameS v8 collec1.1)]) (shr' := [Fact.sl (Shape.slice SegS) vl1 l, Fact.sl u32S vwritten1 written, Fact.sl RegionS v3 mem1.l]) [1, 2, 3, 9, 11, 12, 10] [0, 1, 4] [0, 1, 2] rfl rfl rfl rfl ?_)
     refine Tk_seq (Tk_seq (Tk_region (Tops_step rfl (OpT_move rfl rfl rfl rfl) ?_)))
     refine Tops_step rfl (OpT_lenS rfl rfl rfl rfl Try.underlying59 (i := 0) rfl) ?_
     refine Tops_step rfl (OpT_move rfl rfl rfl rfl) ?_
     refine Tops_step rfl (OpT_lenS rfl rfl rfl rfl Try.underlying62 (i := 1) rfl) ?_
     refine Tops_step rfl (OpT_bin rfl rfl rfl rfl rfl (bin_neq_i (a := len l) (b := len written))) ?_
     refine Tops_nil (Tk_wkS (fr' := [(1, some (vl1)), (2, some (vwritten1)), (3, some (vU64 feats)), (9, some (.pointer (some ⟨b1, 0, none⟩))), (11, some (v8)), (12, some (vI collec1.2.1)), (10, some (vI collec1.2.2)), (62, some (vB ((len l) != (len written))))]) (own' := [some (cellsR b1 82 [v3, v4]), some (rowsX u8S true v4 vs1 write1.2 none), some (rowS FrameS v8 collec1.1)]) (shr' := [Fact.sl (Shape.slice SegS) vl1 l, Fact.sl u32S vwritten1 written, Fact.sl RegionS v3 mem1.l]) [1, 2, 3, 9, 11, 12, 10, 62] [0, 1, 2] [0, 1, 2] rfl rfl rfl rfl ?_)
     rcases Bool.eq_false_or_eq_true ((len l) != (len written)) with hg7 | hg7
     ·replace h := br_t hg7 h
      refine Tk_condT (congrArg (fun b => some (Value.bool b)) hg7) ?_
      refine Tk_seq (Tk_region (Tops_step rfl (OpT_move rfl rfl rfl rfl) ?_))
      refine Tops_step rfl (OpT_bin rfl rfl rfl rfl rfl (bin_eql_i (a := collec1.2.2) (b := (2 : Int)))) ?_
      refine Tops_step rfl (OpT_move rfl rfl rfl rfl) ?_
      obtain ⟨hg8, h⟩ := chk_e h
      refine Tops_yes rfl rfl (congrArg (fun b => some (Value.bool b)) hg8) (OpT_move rfl rfl rfl rfl) ?_
      rintro _ rfl
      refine Tops_yes rfl rfl (congrArg (fun b => some (Value.bool b)) hg8) (OpT_bin rfl rfl rfl rfl rfl (bin_eql_i (a := collec1.2.1) (b := (0 : Int)))) ?_
      rintro _ rfl
      refine Tops_step rfl (OpT_pickT rfl rfl rfl (congrArg (fun b => some (Value.bool b)) hg8) rfl) ?_
      refine Tops_step rfl (OpT_move rfl rfl rfl rfl) ?_
      obtain ⟨hg9, h⟩ := chk_e h
      refine Tops_yes rfl rfl (congrArg (fun b => some (Value.bool b)) hg9) (OpT_move rfl rfl rfl rfl) ?_
      rintro _ rfl
      refine Tops_yes rfl rfl (congrArg (fun b => some (Value.bool b)) hg9) (OpT_lenO rfl rfl rfl rfl Try.underlying58 (i := 2) rfl) ?_
      rintro _ rfl
      refine Tops_yes rfl rfl (congrArg (fun b => some (Value.bool b)) hg9) (OpT_bin rfl rfl rfl rfl rfl (bin_eql_i (a := len collec1.1) (b := (0 : Int)))) ?_
      rintro _ rfl
      refine Tops_step rfl (OpT_pickT rfl rfl rfl (congrArg (fun b => some (Value.bool b)) hg9) rfl) ?_
      refine Tops_step rfl (OpT_assign rfl rfl rfl rfl) ?_
      refine Tops_nil (Tk_wkS (fr' := [(8, some (vB ((len collec1.1) == (0 : Int))))]) (own' := []) (shr' := []) [8] [] [] rfl rfl rfl rfl ?_)
      obtain ⟨hg10, h⟩ := chk_e h
      exact Tk_retV rfl rfl (resA (vs := [.bool true]) rfl ⟨(congrArg (fun b => some (Value.bool b)) hg10), trivial⟩) [] [] rfl rfl rfl ⟨rfl, rfl, rfl⟩
     ·replace h := br_f hg7 h
      refine Tk_condF (congrArg (fun b => some (Value.bool b)) hg7) ?_
      refine Tk_skip (Tk_seq (Tk_region (Tops_step rfl (OpT_assign rfl rfl rfl rfl) ?_)))
      refine Tops_step rfl (OpT_assign rfl rfl rfl rfl) ?_
      refine Tops_nil (Tk_wkS (fr' := [(1, some (vl1)), (2, some (vwritten1)), (3, some (vU64 feats)), (9, some (.pointer (some ⟨b1, 0, none⟩))), (11, some (v8)), (12, some (vI collec1.2.1)), (10, some (vI collec1.2.2)), (13, some (vI (0 : Int))), (14, some (vI (0 : Int)))]) (own' := [some (cellsR b1 82 [v3, v4]), some (rowsX u8S true v4 vs1 write1.2 none), some (rowS FrameS v8 collec1.1)]) (shr' := [Fact.sl (Shape.slice SegS) vl1 l, Fact.sl u32S vwritten1 written, Fact.sl RegionS v3 mem1.l]) [1, 2, 3, 9, 11, 12, 10, 13, 14] [0, 1, 2] [0, 1, 2] rfl rfl rfl rfl ?_)
      refine Tk_seq (Tk_block (Tk_retire (i := 2) rfl ?_))
      refine Tk_loopS (σ := Int × Int) [1, 2, 3, 9, 11, 12, 10, 13, 14] [0, 1] [0, 1, 2, 3] (fun s => ⟨[(1, some (vl1)), (2, some (vwritten1)), (3, some (vU64 feats)), (9, some (.pointer (some ⟨b1, 0, none⟩))), (11, some (v8)), (12, some (vI collec1.2.1)), (10, some (vI collec1.2.2)), (13, some (vI s.1)), (14, some (vI s.2))], [some (cellsR b1 82 [v3, v4]), some (rowsX u8S true v4 vs1 write1.2 none)], [Fact.sl (Shape.slice SegS) vl1 l, Fact.sl u32S vwritten1 written, Fact.sl RegionS v3 mem1.l, Fact.sl FrameS v8 collec1.1]⟩) (fun nf1 s => law26zNetdrvCountsL1 l written feats mem1 write1 collec1 nf1 s.1 s.2 = some true) fuel ((0 : Int), (0 : Int)) h rfl rfl rfl rfl rfl (fun s h => by cases h) ?_
      rintro nf1 ⟨at1, i1⟩ h
      replace h : law26zNetdrvCountsL1B l written feats mem1 write1 collec1 (law26zNetdrvCountsL1 l written feats mem1 write1 collec1 nf1) at1 i1 = some true := h
      unfold law26zNetdrvCountsL1B at h
      refine Tk_seq (Tk_seq (Tk_region (Tops_step rfl (OpT_move rfl rfl rfl rfl) ?_)))
      refine Tops_step rfl (OpT_move rfl rfl rfl rfl) ?_
      refine Tops_step rfl (OpT_lenS rfl rfl rfl rfl Try.underlying59 (i := 0) rfl) ?_
      refine Tops_step rfl (OpT_bin rfl rfl rfl rfl rfl (bin_lss_i (a := at1) (b := len l))) ?_
      refine Tops_nil (Tk_wkS (fr' := [(1, some (vl1)), (2, some (vwritten1)), (3, some (vU64 feats)), (9, some (.pointer (some ⟨b1, 0, none⟩))), (11, some (v8)), (12, some (vI collec1.2.1)), (10, some (vI collec1.2.2)), (13, some (vI at1)), (14, some (vI i1)), (77, some (vB (decide (at1 < (len l)))))]) (own' := [some (cellsR b1 82 [v3, v4]), some (rowsX u8S true v4 vs1 write1.2 none)]) (shr' := [Fact.sl (Shape.slice SegS) vl1 l, Fact.sl u32S vwritten1 written, Fact.sl RegionS v3 mem1.l, Fact.sl FrameS v8 collec1.1]) [1, 2, 3, 9, 11, 12, 10, 13, 14, 77] [0, 1] [0, 1, 2, 3] rfl rfl rfl rfl ?_)
      rcases Bool.eq_false_or_eq_true (decide (at1 < (len l))) with hg11 | hg11
      ·replace h := br_t hg11 h
       refine Tk_condT (congrArg (fun b => some (Value.bool b)) hg11) ?_
       refine Tk_skip (Tk_block (Tk_seq (Tk_drawT (by kernel_rfl) ?_)))
       refine TA_tb [0, 0, 0, 0, 12, 28, 0, 0, 0, 384, 1020, 2047, 4095, 8191, 8191, 8191, 0, 81919, 229375, 524287] (by kernel_rfl) fun htb => ?_
       refine TA_wkS (fr' := [(1, some (vl1)), (2, some (vwritten1)), (3, some (vU64 feats)), (9, some (.pointer (some ⟨b1, 0, none⟩))), (11, some (v8)), (12, some (vI collec1.2.1)), (10, some (vI collec1.2.2)), (13, some (vI at1)), (14, some (vI i1))]) (own' := [some (cellsR b1 82 [v3, v4]), some (rowsX u8S true v4 vs1 write1.2 none)]) (shr' := [Fact.sl (Shape.slice SegS) vl1 l, Fact.sl u32S vwritten1 written, Fact.sl RegionS v3 mem1.l, Fact.sl FrameS v8 collec1.1]) [1, 2, 3, 9, 11, 12, 10, 13, 14] [0, 1] [0, 1, 2, 3] rfl rfl rfl rfl ?_
       obtain ⟨hc2, h⟩ := chk_e h
       obtain ⟨bufs2, hx8, h⟩ := ob_e h
       obtain ⟨hc3, h⟩ := chk_e h
       obtain ⟨hc4, h⟩ := chk_e h
       obtain ⟨one1, hx9, h⟩ := ob_e h
       refine TA_seg (lo := 0) (hi := 19) htb rfl rfl (by kernel_rfl) (fun c L a w => ∃ (v9 : Value), ∃ (v10 : Value), ∃ (v11 : Value), ∃ (v12 : Value), ∃ (v13 : Value), ∃ (v14 : Value), ∃ (b2 : Nat), Sat c ⟨[(1, some (vl1)), (2, some (vwritten1)), (3, some (vU64 feats)), (9, some (.pointer (some ⟨b1, 0, none⟩))), (11, some (v8)), (12, some (vI collec1.2.1)), (10, some (vI collec1.2.2)), (13, some (vI at1)), (14, some (vI i1)), (79, bif L 0 then some (.pointer (some ⟨b1, 0, none⟩)) else none), (80, bif L 1 then some (vU64 feats) else none), (81, bif L 2 then some (vl1) else none), (82, bif L 3 then some (vI at1) else none), (83, bif L 4 then some (v9) else none), (84, bif L 5 then some (v10) else none), (85, bif L 6 then some (v11) else none), (86, bif L 7 then some (vwritten1) else none), (87, bif L 8 then some (vI at1) else none), (88, bif L 9 then some (v12) else none), (89, bif L 10 then some (v13) else none), (90, bif L 11 then some (.tuple #[.agg #[vU8 one1.1.Dst.a0, vU8 one1.1.Dst.a1, vU8 one1.1.Dst.a2, vU8 one1.1.Dst.a3, vU8 one1.1.Dst.a4, vU8 one1.1.Dst.a5, vU8 one1.1.Src.a0, vU8 one1.1.Src.a1, vU8 one1.1.Src.a2, vU8 one1.1.Src.a3, vU8 one1.1.Src.a4, vU8 one1.1.Src.a5, vI one1.1.Vlan, vU16 one1.1.Type_, v14], vI one1.2.1, vI one1.2.2]) else none), (78, bif L 12 then some (.tuple #[.agg #[vU8 one1.1.Dst.a0, vU8 one1.1.Dst.a1, vU8 one1.1.Dst.a2, vU8 one1.1.Dst.a3, vU8 one1.1.Dst.a4, vU8 one1.1.Dst.a5, vU8 one1.1.Src.a0, vU8 one1.1.Src.a1, vU8 one1.1.Src.a2, vU8 one1.1.Src.a3, vU8 one1.1.Src.a4, vU8 one1.1.Src.a5, vI one1.1.Vlan, vU16 one1.1.Type_, v14], vI one1.2.1, vI one1.2.2]) else none), (91, bif L 13 then some (.agg #[vU8 one1.1.Dst.a0, vU8 one1.1.Dst.a1, vU8 one1.1.Dst.a2, vU8 one1.1.Dst.a3, vU8 one1.1.Dst.a4, vU8 one1.1.Dst.a5, vU8 one1.1.Src.a0, vU8 one1.1.Src.a1, vU8 one1.1.Src.a2, vU8 one1.1.Src.a3, vU8 one1.1.Src.a4, vU8 one1.1.Src.a5, vI one1.1.Vlan, vU16 one1.1.Type_, v14]) else none), (92, bif L 14 then some (vI one1.2.1) else none), (93, bif L 15 then some (vI one1.2.2) else none), (15, bif L 16 then some (.pointer (some ⟨b2, 0, none⟩)) else none), (16, bif L 18 then some (vI one1.2.1) else none)], [(some (cellsR b1 82 [v3, v4]) : Option Res), (some (rowsX u8S true v4 vs1 write1.2 none) : Option Res), (bif L 10 then some (rowS u32S v13 (sub written at1 (len written))) else bif L 6 then some (rowS u32S v11 ([] : List UInt32)) else none : Option Res), (bif L 11 then some (rowS u8S v14 one1.1.Data) else none : Option Res), (bif L 17 then some (cellsR b2 37 [vU8 one1.1.Dst.a0, vU8 one1.1.Dst.a1, vU8 one1.1.Dst.a2, vU8 one1.1.Dst.a3, vU8 one1.1.Dst.a4, vU8 one1.1.Dst.a5, vU8 one1.1.Src.a0, vU8 one1.1.Src.a1, vU8 one1.1.Src.a2, vU8 one1.1.Src.a3, vU8 one1.1.Src.a4, vU8 one1.1.Src.a5, vI one1.1.Vlan, vU16 one1.1.Type_, v14]) else bif L 16 then some (cellsR b2 37 [vU8 (0 : UInt8), vU8 (0 : UInt8), vU8 (0 : UInt8), vU8 (0 : UInt8), vU8 (0 : UInt8), vU8 (0 : UInt8), vU8 (0 : UInt8), vU8 (0 : UInt8), vU8 (0 : UInt8), vU8 (0 : UInt8), vU8 (0 : UInt8), vU8 (0 : UInt8), vI (0 : Int), vU16 (0 : UInt16), .slice none 0 0]) else none : Option Res)], [Fact.sl (Shape.slice SegS) vl1 l, Fact.sl u32S vwritten1 written, Fact.sl RegionS v3 mem1.l, Fact.sl FrameS v8 collec1.1, (bif L 4 then Fact.sl (Shape.slice SegS) v9 (sub l at1 (len l)) else Fact.tt), (bif L 5 then Fact.sl (Shape.slice SegS) v10 bufs2 else Fact.tt), (bif L 9 then Fact.sl u32S v12 (sub written at1 (len written)) else Fact.tt)]⟩ a w) [([], [11, 12, 13, 14, 15, 17, 18]), ([], [11, 12, 13, 14, 15, 17, 18]), ([], [4, 5, 10, 11, 12, 13, 14, 15, 17, 18]), ([], [4, 5, 10, 11, 12, 13, 14, 15, 17, 18]), ([2, 3], [5, 10, 11, 12, 13, 14, 15, 17, 18]), ([2, 3, 4], [10, 11, 12, 13, 14, 15, 17, 18]), ([], [10, 11, 12, 13, 14, 15, 17, 18]), ([], [9, 10, 11, 12, 13, 14, 15, 17, 18]), ([], [9, 10, 11, 12, 13, 14, 15, 17, 18]), ([7, 8], [10, 11, 12, 13, 14, 15, 17, 18]), ([2, 3, 4, 5, 6, 7, 8, 9], [11, 12, 13, 14, 15, 17, 18]), ([0, 1, 2, 3, 4, 5, 6, 7, 8, 9, 10], [12, 13, 14, 15, 17, 18]), ([0, 1, 2, 3, 4, 5, 6, 7, 8, 9, 10, 11], [13, 14, 15, 17, 18]), ([0, 1, 2, 3, 4, 5, 6, 7, 8, 9, 10, 11, 12], [17, 18]), ([0, 1, 2, 3, 4, 5, 6, 7, 8, 9, 10, 11, 12], [18]), ([0, 1, 2, 3, 4, 5, 6, 7, 8, 9, 10, 11, 12], []), ([], [17, 18]), ([0, 1, 2, 3, 4, 5, 6, 7, 8, 9, 10, 11, 12, 13, 16], [18]), ([0, 1, 2, 3, 4, 5, 6, 7, 8, 9, 10, 11, 12, 13, 14, 16, 17], [])] rfl (by kernel_rfl) ?_ (steps_cons ?_ (steps_cons ?_ (steps_cons ?_ (steps_cons ?_ (steps_cons ?_ (steps_cons ?_ (steps_cons ?_ (steps_cons ?_ (steps_cons ?_ (steps_cons ?_ (steps_cons ?_ (steps_cons ?_ (steps_cons ?_ (steps_cons ?_ (steps_cons ?_ (steps_cons ?_ (steps_cons ?_ (steps_cons ?_ (steps_cons ?_ (steps_nil)))))))))))))))))))) ?_
       ·intro a w hs
        exact ⟨undef, undef, undef, undef, undef, undef, 0, hs.startF [79, 80, 81, 82, 83, 84, 85, 86, 87, 88, 89, 90, 78, 91, 92, 93, 15, 16] [0, 1, 2, 3, 4] [0, 1, 2, 3, 4, 5, 6] rfl rfl rfl rfl⟩
       ·intro L a w hv K Q hK
        obtain ⟨v9, v10, v11, v12, v13, v14, b2, hs⟩ := hv
        refine wpOp_go rfl rfl hs (OpT_move rfl rfl rfl rfl) ?_
        rintro _ rfl a' w' hs'
        exact hK a' w' ⟨v9, v10, v11, v12, v13, v14, b2, hs'.putF (i := 9) rfl [0, 1, 2, 3, 4] [0, 1, 2, 3, 4, 5, 6] rfl rfl rfl rfl⟩
       ·intro L a w hv K Q hK
        obtain ⟨v9, v10, v11, v12, v13, v14, b2, hs⟩ := hv
        refine wpOp_go rfl rfl hs (OpT_move rfl rfl rfl rfl) ?_
        rintro _ rfl a' w' hs'
        exact hK a' w' ⟨v9, v10, v11, v12, v13, v14, b2, hs'.putF (i := 10) rfl [0, 1, 2, 3, 4] [0, 1, 2, 3, 4, 5, 6] rfl rfl rfl rfl⟩
       ·intro L a w hv K Q hK
        obtain ⟨v9, v10, v11, v12, v13, v14, b2, hs⟩ := hv
        refine wpOp_go rfl rfl hs (OpT_move rfl rfl rfl rfl) ?_
        rintro _ rfl a' w' hs'
        exact hK a' w' ⟨v9, v10, v11, v12, v13, v14, b2, hs'.putF (i := 11) rfl [0, 1, 2, 3, 4] [0, 1, 2, 3, 4, 5, 6] rfl rfl rfl rfl⟩
       ·intro L a w hv K Q hK
        obtain ⟨v9, v10, v11, v12, v13, v14, b2, hs⟩ := hv
        refine wpOp_go rfl rfl hs (OpT_move rfl rfl rfl rfl) ?_
        rintro _ rfl a' w' hs'
        exact hK a' w' ⟨v9, v10, v11, v12, v13, v14, b2, hs'.putF (i := 12) rfl [0, 1, 2, 3, 4] [0, 1, 2, 3, 4, 5, 6] rfl rfl rfl rfl⟩
       ·intro L a w hv K Q hK
        obtain ⟨v9, v10, v11, v12, v13, v14, b2, hs⟩ := hv
        refine wpOp_go rfl rfl hs (OpT_sliceL (l := at1) rfl rfl rfl rfl rfl slF59 (i := 0) rfl hc2) ?_
        rintro _ ⟨v9', rfl⟩ a' w' hs'
        exact hK a' w' ⟨v9', v10, v11, v12, v13, v14, b2, hs'.putF (i := 13) rfl [0, 1, 2, 3, 4] [0, 1, 2, 3, 7, 5, 6] rfl rfl rfl rfl⟩
       ·intro L a w hv K Q hK
        obtain ⟨v9, v10, v11, v12, v13, v14, b2, hs⟩ := hv
        refine wpOp_go rfl rfl hs (OpT_call (ws_kit_Bufs hx8) [] [4] rfl rfl rfl rfl rfl callee27 rfl rfl rfl rfl) ?_
        rintro _ ⟨v10', _, _, ⟨_, rfl, rfl, rfl⟩, rfl⟩ a' w' hs'
        exact hK a' w' ⟨v9, v10', v11, v12, v13, v14, b2, hs'.putF (i := 14) rfl [0, 1, 2, 3, 4] [0, 1, 2, 3, 4, 7, 6] rfl rfl rfl rfl⟩
       ·intro L a w hv K Q hK
        obtain ⟨v9, v10, v11, v12, v13, v14, b2, hs⟩ := hv
        refine wpOp_go rfl rfl hs (OpT_buildSlice (S := u32S) (xs := ([] : List UInt32)) (css := []) (cs := []) (e := 27) rfl rfl rfl rfl (bldF slF62 (by decide) (by kernel_rfl)) rfl rfl rfl rfl (rel_plainD (S := u32S) (xs := ([] : List UInt32)) (css := []) rfl rfl)) ?_
        rintro _ ⟨v11', rfl⟩ a' w' hs'
        exact hK a' w' ⟨v9, v10, v11', v12, v13, v14, b2, hs'.putF (i := 15) rfl [0, 1, 5, 3, 4] [0, 1, 2, 3, 4, 5, 6] rfl rfl rfl rfl⟩
       ·intro L a w hv K Q hK
        obtain ⟨v9, v10, v11, v12, v13, v14, b2, hs⟩ := hv
        refine wpOp_go rfl rfl hs (OpT_move rfl rfl rfl rfl) ?_
        rintro _ rfl a' w' hs'
        exact hK a' w' ⟨v9, v10, v11, v12, v13, v14, b2, hs'.putF (i := 16) rfl [0, 1, 2, 3, 4] [0, 1, 2, 3, 4, 5, 6] rfl rfl rfl rfl⟩
       ·intro L a w hv K Q hK
        obtain ⟨v9, v10, v11, v12, v13, v14, b2, hs⟩ := hv
        refine wpOp_go rfl rfl hs (OpT_move rfl rfl rfl rfl) ?_
        rintro _ rfl a' w' hs'
        exact hK a' w' ⟨v9, v10, v11, v12, v13, v14, b2, hs'.putF (i := 17) rfl [0, 1, 2, 3, 4] [0, 1, 2, 3, 4, 5, 6] rfl rfl rfl rfl⟩
       ·intro L a w hv K Q hK
        obtain ⟨v9, v10, v11, v12, v13, v14, b2, hs⟩ := hv
        refine wpOp_go rfl rfl hs (OpT_sliceL (l := at1) rfl rfl rfl rfl rfl slF62 (i := 1) rfl hc3) ?_
        rintro _ ⟨v12', rfl⟩ a' w' hs'
        exact hK a' w' ⟨v9, v10, v11, v12', v13, v14, b2, hs'.putF (i := 18) rfl [0, 1, 2, 3, 4] [0, 1, 2, 3, 4, 5, 7] rfl rfl rfl rfl⟩
       ·intro L a w hv K Q hK
        obtain ⟨v9, v10, v11, v12, v13, v14, b2, hs⟩ := hv
        refine wpOp_go rfl rfl hs (OpT_append rfl rfl rfl rfl rfl slF62 (i := 2) (j := 6) rfl rfl hc4) ?_
        rintro _ ⟨v13', rfl⟩ a' w' hs'
        exact hK a' w' ⟨v9, v10, v11, v12, v13', v14, b2, hs'.putF (i := 19) rfl [0, 1, 2, 3, 4] [0, 1, 2, 3, 4, 5, 6] rfl rfl rfl rfl⟩
       ·intro L a w hv K Q hK
        obtain ⟨v9, v10, v11, v12, v13, v14, b2, hs⟩ := hv
        refine wpOp_go rfl rfl hs (OpT_callB [2] [5, 6, 2, 3, 4, 7] (w_netdrv_One hx9) [0, 1] rfl rfl rfl rfl rfl callee30 rfl rfl rfl rfl rfl rfl (bor_cons (bor_shr 2 rfl) (bor_cons (bor_shr 5 rfl) (bor_cons (bor_row 2 rfl rfl) bor_nil))) (by rintro _ _ _ ⟨_, rfl, rfl, rfl⟩; exact ⟨rfl, (ri_cons (ri_cells _ _ _) (ri_cons (ri_rows rfl _ _ _ _ _) (ri_cons (ri_row (S := u8S) rfl _ _) ri_nil)))⟩)) ?_
        rintro _ ⟨_, _, _, ⟨v14', rfl, rfl, rfl⟩, rfl⟩ a' w' hs'
        exact hK a' w' ⟨v9, v10, v11, v12, v13, v14', b2, hs'.putF (i := 20) rfl [0, 1, 2, 5, 4] [0, 1, 2, 3, 4, 5, 6] rfl rfl rfl rfl⟩
       ·intro L a w hv K Q hK
        obtain ⟨v9, v10, v11, v12, v13, v14, b2, hs⟩ := hv
        refine wpOp_go rfl rfl hs (OpT_move rfl rfl rfl rfl) ?_
        rintro _ rfl a' w' hs'
        exact hK a' w' ⟨v9, v10, v11, v12, v13, v14, b2, hs'.putF (i := 21) rfl [0, 1, 2, 3, 4] [0, 1, 2, 3, 4, 5, 6] rfl rfl rfl rfl⟩
       ·intro L a w hv K Q hK
        obtain ⟨v9, v10, v11, v12, v13, v14, b2, hs⟩ := hv
        refine wpOp_go rfl rfl hs (OpT_extract rfl rfl rfl rfl rfl) ?_
        rintro _ rfl a' w' hs'
        exact hK a' w' ⟨v9, v10, v11, v12, v13, v14, b2, hs'.putF (i := 22) rfl [0, 1, 2, 3, 4] [0, 1, 2, 3, 4, 5, 6] rfl rfl rfl rfl⟩
       ·intro L a w hv K Q hK
        obtain ⟨v9, v10, v11, v12, v13, v14, b2, hs⟩ := hv
        refine wpOp_go rfl rfl hs (OpT_extract rfl rfl rfl rfl rfl) ?_
        rintro _ rfl a' w' hs'
        exact hK a' w' ⟨v9, v10, v11, v12, v13, v14, b2, hs'.putF (i := 23) rfl [0, 1, 2, 3, 4] [0, 1, 2, 3, 4, 5, 6] rfl rfl rfl rfl⟩
       ·intro L a w hv K Q hK
        obtain ⟨v9, v10, v11, v12, v13, v14, b2, hs⟩ := hv
        refine wpOp_go rfl rfl hs (OpT_extract rfl rfl rfl rfl rfl) ?_
        rintro _ rfl a' w' hs'
        exact hK a' w' ⟨v9, v10, v11, v12, v13, v14, b2, hs'.putF (i := 24) rfl [0, 1, 2, 3, 4] [0, 1, 2, 3, 4, 5, 6] rfl rfl rfl rfl⟩
       ·intro L a w hv K Q hK
        obtain ⟨v9, v10, v11, v12, v13, v14, b2, hs⟩ := hv
        refine wpOp_go rfl rfl hs (OpT_alloc rfl rfl rfl tyZ37) ?_
        rintro _ ⟨b2', rfl⟩ a' w' hs'
        exact hK a' w' ⟨v9, v10, v11, v12, v13, v14, b2', hs'.putF (i := 25) rfl [0, 1, 2, 3, 5] [0, 1, 2, 3, 4, 5, 6] rfl rfl rfl rfl⟩
       ·intro L a w hv K Q hK
        obtain ⟨v9, v10, v11, v12, v13, v14, b2, hs⟩ := hv
        refine wpOp_go rfl rfl hs (OpT_storeA1 (fun z0 => [vU8 one1.1.Dst.a0, vU8 one1.1.Dst.a1, vU8 one1.1.Dst.a2, vU8 one1.1.Dst.a3, vU8 one1.1.Dst.a4, vU8 one1.1.Dst.a5, vU8 one1.1.Src.a0, vU8 one1.1.Src.a1, vU8 one1.1.Src.a2, vU8 one1.1.Src.a3, vU8 one1.1.Src.a4, vU8 one1.1.Src.a5, vI one1.1.Vlan, vU16 one1.1.Type_, z0]) (cs' := [vU8 one1.1.Dst.a0, vU8 one1.1.Dst.a1, vU8 one1.1.Dst.a2, vU8 one1.1.Dst.a3, vU8 one1.1.Dst.a4, vU8 one1.1.Dst.a5, vU8 one1.1.Src.a0, vU8 one1.1.Src.a1, vU8 one1.1.Src.a2, vU8 one1.1.Src.a3, vU8 one1.1.Src.a4, vU8 one1.1.Src.a5, vI one1.1.Vlan, vU16 one1.1.Type_, v14]) rfl rfl rfl rfl tyF37 (i := 4) rfl (is_row (i := 3) rfl) (fun _ _ _ => rfl) rfl rfl rfl) ?_
        rintro _ rfl a' w' hs'
        exact hK a' w' ⟨v9, v10, v11, v12, v13, v14, b2, hs'.sameF [0, 1, 2, 3, 4] [0, 1, 2, 3, 4, 5, 6] rfl rfl rfl rfl⟩
       ·intro L a w hv K Q hK
        obtain ⟨v9, v10, v11, v12, v13, v14, b2, hs⟩ := hv
        refine wpOp_go rfl rfl hs (OpT_assign rfl rfl rfl rfl) ?_
        rintro _ rfl a' w' hs'
        exact hK a' w' ⟨v9, v10, v11, v12, v13, v14, b2, hs'.putF (i := 26) rfl [0, 1, 2, 3, 4] [0, 1, 2, 3, 4, 5, 6] rfl rfl rfl rfl⟩
       ·intro L a w hL hv
        rw [allTrue hL] at hv
        obtain ⟨v9, v10, v11, v12, v13, v14, b2, hs⟩ := hv
        refine (show TA _ _ _ 19 ⟨[(1, some (vl1)), (2, some (vwritten1)), (3, some (vU64 feats)), (9, some (.pointer (some ⟨b1, 0, none⟩))), (11, some (v8)), (12, some (vI collec1.2.1)), (10, some (vI collec1.2.2)), (13, some (vI at1)), (14, some (vI i1)), (93, some (vI one1.2.2)), (15, some (.pointer (some ⟨b2, 0, none⟩))), (16, some (vI one1.2.1))], [some (cellsR b1 82 [v3, v4]), some (rowsX u8S true v4 vs1 write1.2 none), some (rowS u8S v14 one1.1.Data), some (cellsR b2 37 [vU8 one1.1.Dst.a0, vU8 one1.1.Dst.a1, vU8 one1.1.Dst.a2, vU8 one1.1.Dst.a3, vU8 one1.1.Dst.a4, vU8 one1.1.Dst.a5, vU8 one1.1.Src.a0, vU8 one1.1.Src.a1, vU8 one1.1.Src.a2, vU8 one1.1.Src.a3, vU8 one1.1.Src.a4, vU8 one1.1.Src.a5, vI one1.1.Vlan, vU16 one1.1.Type_, v14])], [Fact.sl (Shape.slice SegS) vl1 l, Fact.sl u32S vwritten1 written, Fact.sl RegionS v3 mem1.l, Fact.sl FrameS v8 collec1.1]⟩ from ?_) a w (hs.wkS [1, 2, 3, 9, 11, 12, 10, 13, 14, 93, 15, 16] [0, 1, 3, 4] [0, 1, 2, 3] rfl rfl rfl rfl)
        clear hs hL
        refine TA_step htb (by kernel_rfl) rfl rfl (OpT_assign rfl rfl rfl rfl) ?_
        refine TA_end rfl ?_
        refine Tk_wkS (fr' := [(1, some (vl1)), (2, some (vwritten1)), (3, some (vU64 feats)), (9, some (.pointer (some ⟨b1, 0, none⟩))), (11, some (v8)), (12, some (vI collec1.2.1)), (10, some (vI collec1.2.2)), (13, some (vI at1)), (14, some (vI i1)), (15, some (.pointer (some ⟨b2, 0, none⟩))), (16, some (vI one1.2.1)), (17, some (vI one1.2.2))]) (own' := [some (cellsR b1 82 [v3, v4]), some (rowsX u8S true v4 vs1 write1.2 none), some (rowS u8S v14 one1.1.Data), some (cellsR b2 37 [vU8 one1.1.Dst.a0, vU8 one1.1.Dst.a1, vU8 one1.1.Dst.a2, vU8 one1.1.Dst.a3, vU8 one1.1.Dst.a4, vU8 one1.1.Dst.a5, vU8 one1.1.Src.a0, vU8 one1.1.Src.a1, vU8 one1.1.Src.a2, vU8 one1.1.Src.a3, vU8 one1.1.Src.a4, vU8 one1.1.Src.a5, vI one1.1.Vlan, vU16 one1.1.Type_, v14])]) (shr' := [Fact.sl (Shape.slice SegS) vl1 l, Fact.sl u32S vwritten1 written, Fact.sl RegionS v3 mem1.l, Fact.sl FrameS v8 collec1.1]) [1, 2, 3, 9, 11, 12, 10, 13, 14, 15, 16, 17] [0, 1, 2, 3] [0, 1, 2, 3] rfl rfl rfl rfl ?_
        refine Tk_seq (Tk_seq (Tk_region (Tops_step rfl (OpT_move rfl rfl rfl rfl) ?_)))
        refine Tops_step rfl (OpT_bin rfl rfl rfl rfl rfl (bin_neq_i (a := one1.2.2) (b := (0 : Int)))) ?_
        refine Tops_nil (Tk_wkS (fr' := [(1, some (vl1)), (2, some (vwritten1)), (3, some (vU64 feats)), (9, some (.pointer (some ⟨b1, 0, none⟩))), (11, some (v8)), (12, some (vI collec1.2.1)), (10, some (vI collec1.2.2)), (13, some (vI at1)), (14, some (vI i1)), (15, some (.pointer (some ⟨b2, 0, none⟩))), (16, some (vI one1.2.1)), (17, some (vI one1.2.2)), (95, some (vB (one1.2.2 != (0 : Int))))]) (own' := [some (cellsR b1 82 [v3, v4]), some (rowsX u8S true v4 vs1 write1.2 none), some (rowS u8S v14 one1.1.Data), some (cellsR b2 37 [vU8 one1.1.Dst.a0, vU8 one1.1.Dst.a1, vU8 one1.1.Dst.a2, vU8 one1.1.Dst.a3, vU8 one1.1.Dst.a4, vU8 one1.1.Dst.a5, vU8 one1.1.Src.a0, vU8 one1.1.Src.a1, vU8 one1.1.Src.a2, vU8 one1.1.Src.a3, vU8 one1.1.Src.a4, vU8 one1.1.Src.a5, vI one1.1.Vlan, vU16 one1.1.Type_, v14])]) (shr' := [Fact.sl (Shape.slice SegS) vl1 l, Fact.sl u32S vwritten1 written, Fact.sl RegionS v3 mem1.l, Fact.sl FrameS v8 collec1.1]) [1, 2, 3, 9, 11, 12, 10, 13, 14, 15, 16, 17, 95] [0, 1, 2, 3] [0, 1, 2, 3] rfl rfl rfl rfl ?_)
        rcases Bool.eq_false_or_eq_true (one1.2.2 != (0 : Int)) with hg12 | hg12
        ·replace h := br_t hg12 h
         refine Tk_condT (congrArg (fun b => some (Value.bool b)) hg12) ?_
         refine Tk_seq (Tk_region (Tops_step rfl (OpT_move rfl rfl rfl rfl) ?_))
         refine Tops_step rfl (OpT_move rfl rfl rfl rfl) ?_
         refine Tops_step rfl (OpT_bin rfl rfl rfl rfl rfl (bin_eql_i (a := collec1.2.2) (b := one1.2.2))) ?_
         refine Tops_step rfl (OpT_move rfl rfl rfl rfl) ?_
         obtain ⟨hg13, h⟩ := chk_e h
         refine Tops_yes rfl rfl (congrArg (fun b => some (Value.bool b)) hg13) (OpT_move rfl rfl rfl rfl) ?_
         rintro _ rfl
         refine Tops_yes rfl rfl (congrArg (fun b => some (Value.bool b)) hg13) (OpT_move rfl rfl rfl rfl) ?_
         rintro _ rfl
         refine Tops_yes rfl rfl (congrArg (fun b => some (Value.bool b)) hg13) (OpT_bin rfl rfl rfl rfl rfl (bin_eql_i (a := collec1.2.1) (b := at1))) ?_
         rintro _ rfl
         refine Tops_step rfl (OpT_pickT rfl rfl rfl (congrArg (fun b => some (Value.bool b)) hg13) rfl) ?_
         refine Tops_step rfl (OpT_move rfl rfl rfl rfl) ?_
         obtain ⟨hg14, h⟩ := chk_e h
         refine Tops_yes rfl rfl (congrArg (fun b => some (Value.bool b)) hg14) (OpT_move rfl rfl rfl rfl) ?_
         rintro _ rfl
         refine Tops_yes rfl rfl (congrArg (fun b => some (Value.bool b)) hg14) (OpT_lenS rfl rfl rfl rfl Try.underlying58 (i := 3) rfl) ?_
         rintro _ rfl
         refine Tops_yes rfl rfl (congrArg (fun b => some (Value.bool b)) hg14) (OpT_move rfl rfl rfl rfl) ?_
         rintro _ rfl
         refine Tops_yes rfl rfl (congrArg (fun b => some (Value.bool b)) hg14) (OpT_bin rfl rfl rfl rfl rfl (bin_eql_i (a := len collec1.1) (b := i1))) ?_
         rintro _ rfl
         refine Tops_step rfl (OpT_pickT rfl rfl rfl (congrArg (fun b => some (Value.bool b)) hg14) rfl) ?_
         refine Tops_step rfl (OpT_assign rfl rfl rfl rfl) ?_
         refine Tops_nil (Tk_wkS (fr' := [(8, some (vB ((len collec1.1) == i1)))]) (own' := []) (shr' := []) [8] [] [] rfl rfl rfl rfl ?_)
         obtain ⟨hg15, h⟩ := chk_e h
         exact Tk_retV rfl rfl (resA (vs := [.bool true]) rfl ⟨(congrArg (fun b => some (Value.bool b)) hg15), trivial⟩) [] [] rfl rfl rfl ⟨rfl, rfl, rfl⟩
        ·replace h := br_f hg12 h
         refine Tk_condF (congrArg (fun b => some (Value.bool b)) hg12) ?_
         refine Tk_skip (Tk_seq (Tk_seq (Tk_drawT (by kernel_rfl) ?_)))
         refine TA_tb [0, 1, 3, 7, 7, 23, 63, 127, 255, 511, 511, 2047, 4095, 511, 16383, 32767, 65535] (by kernel_rfl) fun htb => ?_
         refine TA_step htb (by kernel_rfl) rfl rfl (OpT_move rfl rfl rfl rfl) ?_
         refine TA_step htb (by kernel_rfl) rfl rfl (OpT_bin rfl rfl rfl rfl rfl (bin_lss_i (a := one1.2.1) (b := (1 : Int)))) ?_
         refine TA_step htb (by kernel_rfl) rfl rfl (OpT_move rfl rfl rfl rfl) ?_
         refine TA_wkS (fr' := [(1, some (vl1)), (2, some (vwritten1)), (3, some (vU64 feats)), (9, some (.pointer (some ⟨b1, 0, none⟩))), (11, some (v8)), (12, some (vI collec1.2.1)), (10, some (vI collec1.2.2)), (13, some (vI at1)), (14, some (vI i1)), (15, some (.pointer (some ⟨b2, 0, none⟩))), (16, some (vI one1.2.1)), (112, some (vB (decide (one1.2.1 < (1 : Int)))))]) (own' := [some (cellsR b1 82 [v3, v4]), some (rowsX u8S true v4 vs1 write1.2 none), some (rowS u8S v14 one1.1.Data), some (cellsR b2 37 [vU8 one1.1.Dst.a0, vU8 one1.1.Dst.a1, vU8 one1.1.Dst.a2, vU8 one1.1.Dst.a3, vU8 one1.1.Dst.a4, vU8 one1.1.Dst.a5, vU8 one1.1.Src.a0, vU8 one1.1.Src.a1, vU8 one1.1.Src.a2, vU8 one1.1.Src.a3, vU8 one1.1.Src.a4, vU8 one1.1.Src.a5, vI one1.1.Vlan, vU16 one1.1.Type_, v14])]) (shr' := [Fact.sl (Shape.slice SegS) vl1 l, Fact.sl u32S vwritten1 written, Fact.sl RegionS v3 mem1.l, Fact.sl FrameS v8 collec1.1]) [1, 2, 3, 9, 11, 12, 10, 13, 14, 15, 16, 112] [0, 1, 2, 3] [0, 1, 2, 3] rfl rfl rfl rfl ?_
         obtain ⟨hg16, h⟩ := chk_e h
         replace hg16 := not_t hg16
         refine TA_seg (lo := 3) (hi := 6) htb rfl rfl (by kernel_rfl) (fun c L a w => Sat c ⟨[(1, some (vl1)), (2, some (vwritten1)), (3, some (vU64 feats)), (9, some (.pointer (some ⟨b1, 0, none⟩))), (11, some (v8)), (12, some (vI collec1.2.1)), (10, some (vI collec1.2.2)), (13, some (vI at1)), (14, some (vI i1)), (15, some (.pointer (some ⟨b2, 0, none⟩))), (16, some (vI one1.2.1)), (112, some (vB (decide (one1.2.1 < (1 : Int))))), (113, bif L 3 then some (vI i1) else none), (114, bif L 4 then some (v8) else none), (115, bif L 5 then some (vI (len collec1.1)) else none)], [(some (cellsR b1 82 [v3, v4]) : Option Res), (some (rowsX u8S true v4 vs1 write1.2 none) : Option Res), (some (rowS u8S v14 one1.1.Data) : Option Res), (some (cellsR b2 37 [vU8 one1.1.Dst.a0, vU8 one1.1.Dst.a1, vU8 one1.1.Dst.a2, vU8 one1.1.Dst.a3, vU8 one1.1.Dst.a4, vU8 one1.1.Dst.a5, vU8 one1.1.Src.a0, vU8 one1.1.Src.a1, vU8 one1.1.Src.a2, vU8 one1.1.Src.a3, vU8 one1.1.Src.a4, vU8 one1.1.Src.a5, vI one1.1.Vlan, vU16 one1.1.Type_, v14]) : Option Res)], [Fact.sl (Shape.slice SegS) vl1 l, Fact.sl u32S vwritten1 written, Fact.sl RegionS v3 mem1.l, Fact.sl FrameS v8 collec1.1]⟩ a w) [([], []), ([], [5]), ([4], [])] rfl (by kernel_rfl) ?_ (steps_cons ?_ (steps_cons ?_ (steps_cons ?_ (steps_nil)))) ?_
         ·intro a w hs
          exact hs.startF [113, 114, 115] [0, 1, 2, 3] [0, 1, 2, 3] rfl rfl rfl rfl
         ·intro L a w hv K Q hK
          have hs := hv
          refine wpOp_yes rfl rfl rfl hs (congrArg (fun b => some (Value.bool b)) hg16) (OpT_move rfl rfl rfl rfl) ?_
          rintro _ rfl a' w' hs'
          exact hK a' w' (hs'.putF (i := 12) rfl [0, 1, 2, 3] [0, 1, 2, 3] rfl rfl rfl rfl)
         ·intro L a w hv K Q hK
          have hs := hv
          refine wpOp_yes rfl rfl rfl hs (congrArg (fun b => some (Value.bool b)) hg16) (OpT_move rfl rfl rfl rfl) ?_
          rintro _ rfl a' w' hs'
          exact hK a' w' (hs'.putF (i := 13) rfl [0, 1, 2, 3] [0, 1, 2, 3] rfl rfl rfl rfl)
         ·intro L a w hv K Q hK
          have hs := hv
          refine wpOp_yes rfl rfl rfl hs (congrArg (fun b => some (Value.bool b)) hg16) (OpT_lenS rfl rfl rfl rfl Try.underlying58 (i := 3) rfl) ?_
          rintro _ rfl a' w' hs'
          exact hK a' w' (hs'.putF (i := 14) rfl [0, 1, 2, 3] [0, 1, 2, 3] rfl rfl rfl rfl)
         ·intro L a w hL hv
          rw [allTrue hL] at hv
          have hs := hv
          refine (show TA _ _ _ 6 ⟨[(1, some (vl1)), (2, some (vwritten1)), (3, some (vU64 feats)), (9, some (.pointer (some ⟨b1, 0, none⟩))), (11, some (v8)), (12, some (vI collec1.2.1)), (10, some (vI collec1.2.2)), (13, some (vI at1)), (14, some (vI i1)), (15, some (.pointer (some ⟨b2, 0, none⟩))), (16, some (vI one1.2.1)), (112, some (vB (decide (one1.2.1 < (1 : Int))))), (113, some (vI i1)), (115, some (vI (len collec1.1)))], [some (cellsR b1 82 [v3, v4]), some (rowsX u8S true v4 vs1 write1.2 none), some (rowS u8S v14 one1.1.Data), some (cellsR b2 37 [vU8 one1.1.Dst.a0, vU8 one1.1.Dst.a1, vU8 one1.1.Dst.a2, vU8 one1.1.Dst.a3, vU8 one1.1.Dst.a4, vU8 one1.1.Dst.a5, vU8 one1.1.Src.a0, vU8 one1.1.Src.a1, vU8 one1.1.Src.a2, vU8 one1.1.Src.a3, vU8 one1.1.Src.a4, vU8 one1.1.Src.a5, vI one1.1.Vlan, vU16 one1.1.Type_, v14])], [Fact.sl (Shape.slice SegS) vl1 l, Fact.sl u32S vwritten1 written, Fact.sl RegionS v3 mem1.l, Fact.sl FrameS v8 collec1.1]⟩ from ?_) a w (hs.wkS [1, 2, 3, 9, 11, 12, 10, 13, 14, 15, 16, 112, 113, 115] [0, 1, 2, 3] [0, 1, 2, 3] rfl rfl rfl rfl)
          clear hs hL
          refine TA_yes htb (by kernel_rfl) rfl rfl rfl (congrArg (fun b => some (Value.bool b)) hg16) (OpT_bin rfl rfl rfl rfl rfl (bin_geq_i (a := i1) (b := len collec1.1))) ?_
          rintro _ rfl
          refine TA_step htb (by kernel_rfl) rfl rfl (OpT_pickF rfl rfl rfl (congrArg (fun b => some (Value.bool b)) hg16) rfl) ?_
          refine TA_step htb (by kernel_rfl) rfl rfl (OpT_move rfl rfl rfl rfl) ?_
          refine TA_wkS (fr' := [(1, some (vl1)), (2, some (vwritten1)), (3, some (vU64 feats)), (9, some (.pointer (some ⟨b1, 0, none⟩))), (11, some (v8)), (12, some (vI collec1.2.1)), (10, some (vI collec1.2.2)), (13, some (vI at1)), (14, some (vI i1)), (15, some (.pointer (some ⟨b2, 0, none⟩))), (16, some (vI one1.2.1)), (118, some (vB (decide (i1 ≥ (len collec1.1)))))]) (own' := [some (cellsR b1 82 [v3, v4]), some (rowsX u8S true v4 vs1 write1.2 none), some (rowS u8S v14 one1.1.Data), some (cellsR b2 37 [vU8 one1.1.Dst.a0, vU8 one1.1.Dst.a1, vU8 one1.1.Dst.a2, vU8 one1.1.Dst.a3, vU8 one1.1.Dst.a4, vU8 one1.1.Dst.a5, vU8 one1.1.Src.a0, vU8 one1.1.Src.a1, vU8 one1.1.Src.a2, vU8 one1.1.Src.a3, vU8 one1.1.Src.a4, vU8 one1.1.Src.a5, vI one1.1.Vlan, vU16 one1.1.Type_, v14])]) (shr' := [Fact.sl (Shape.slice SegS) vl1 l, Fact.sl u32S vwritten1 written, Fact.sl RegionS v3 mem1.l, Fact.sl FrameS v8 collec1.1]) [1, 2, 3, 9, 11, 12, 10, 13, 14, 15, 16, 118] [0, 1, 2, 3] [0, 1, 2, 3] rfl rfl rfl rfl ?_
          obtain ⟨hg17, h⟩ := chk_e h
          replace hg17 := not_t hg17
          obtain ⟨f1, hx10, h⟩ := ob_e h
          refine TA_seg (lo := 9) (hi := 14) htb rfl rfl (by kernel_rfl) (fun c L a w => ∃ (p1 : Value), ∃ (v15 : Value), Sat c ⟨[(1, some (vl1)), (2, some (vwritten1)), (3, some (vU64 feats)), (9, some (.pointer (some ⟨b1, 0, none⟩))), (11, some (v8)), (12, some (vI collec1.2.1)), (10, some (vI collec1.2.2)), (13, some (vI at1)), (14, some (vI i1)), (15, some (.pointer (some ⟨b2, 0, none⟩))), (16, some (vI one1.2.1)), (118, some (vB (decide (i1 ≥ (len collec1.1))))), (119, bif L 9 then some (v8) else none), (120, bif L 10 then some (vI i1) else none), (121, bif L 11 then some (p1) else none), (122, bif L 12 then some (.agg #[vU8 f1.Dst.a0, vU8 f1.Dst.a1, vU8 f1.Dst.a2, vU8 f1.Dst.a3, vU8 f1.Dst.a4, vU8 f1.Dst.a5, vU8 f1.Src.a0, vU8 f1.Src.a1, vU8 f1.Src.a2, vU8 f1.Src.a3, vU8 f1.Src.a4, vU8 f1.Src.a5, vI f1.Vlan, vU16 f1.Type_, v15]) else none), (123, bif L 13 then some (.agg #[vU8 one1.1.Dst.a0, vU8 one1.1.Dst.a1, vU8 one1.1.Dst.a2, vU8 one1.1.Dst.a3, vU8 one1.1.Dst.a4, vU8 one1.1.Dst.a5, vU8 one1.1.Src.a0, vU8 one1.1.Src.a1, vU8 one1.1.Src.a2, vU8 one1.1.Src.a3, vU8 one1.1.Src.a4, vU8 one1.1.Src.a5, vI one1.1.Vlan, vU16 one1.1.Type_, v14]) else none)], [(some (cellsR b1 82 [v3, v4]) : Option Res), (some (rowsX u8S true v4 vs1 write1.2 none) : Option Res), (some (rowS u8S v14 one1.1.Data) : Option Res), (some (cellsR b2 37 [vU8 one1.1.Dst.a0, vU8 one1.1.Dst.a1, vU8 one1.1.Dst.a2, vU8 one1.1.Dst.a3, vU8 one1.1.Dst.a4, vU8 one1.1.Dst.a5, vU8 one1.1.Src.a0, vU8 one1.1.Src.a1, vU8 one1.1.Src.a2, vU8 one1.1.Src.a3, vU8 one1.1.Src.a4, vU8 one1.1.Src.a5, vI one1.1.Vlan, vU16 one1.1.Type_, v14]) : Option Res)], [Fact.sl (Shape.slice SegS) vl1 l, Fact.sl u32S vwritten1 written, Fact.sl RegionS v3 mem1.l, Fact.sl FrameS v8 collec1.1, (bif L 11 then Fact.pt FrameS p1 f1 else Fact.tt), (bif L 12 then Fact.sl u8S v15 f1.Data else Fact.tt)]⟩ a w) [([], [11, 12]), ([], [11, 12]), ([9, 10], [12]), ([9, 10, 11], []), ([], [])] rfl (by kernel_rfl) ?_ (steps_cons ?_ (steps_cons ?_ (steps_cons ?_ (steps_cons ?_ (steps_cons ?_ (steps_nil)))))) ?_
          ·intro a w hs
           exact ⟨undef, undef, hs.startF [119, 120, 121, 122, 123] [0, 1, 2, 3] [0, 1, 2, 3, 4, 5] rfl rfl rfl rfl⟩
          ·intro L a w hv K Q hK
           obtain ⟨p1, v15, hs⟩ := hv
           refine wpOp_yes rfl rfl rfl hs (congrArg (fun b => some (Value.bool b)) hg17) (OpT_move rfl rfl rfl rfl) ?_
           rintro _ rfl a' w' hs'
           exact hK a' w' ⟨p1, v15, hs'.putF (i := 12) rfl [0, 1, 2, 3] [0, 1, 2, 3, 4, 5] rfl rfl rfl rfl⟩
          ·intro L a w hv K Q hK
           obtain ⟨p1, v15, hs⟩ := hv
           refine wpOp_yes rfl rfl rfl hs (congrArg (fun b => some (Value.bool b)) hg17) (OpT_move rfl rfl rfl rfl) ?_
           rintro _ rfl a' w' hs'
           exact hK a' w' ⟨p1, v15, hs'.putF (i := 13) rfl [0, 1, 2, 3] [0, 1, 2, 3, 4, 5] rfl rfl rfl rfl⟩
          ·intro L a w hv K Q hK
           obtain ⟨p1, v15, hs⟩ := hv
           refine wpOp_yes rfl rfl rfl hs (congrArg (fun b => some (Value.bool b)) hg17) (OpT_idxS rfl rfl rfl rfl rfl slF58 (i := 3) rfl hx10) ?_
           rintro _ ⟨p1', rfl⟩ a' w' hs'
           exact hK a' w' ⟨p1', v15, hs'.putF (i := 14) rfl [0, 1, 2, 3] [0, 1, 2, 3, 6, 5] rfl rfl rfl rfl⟩
          ·intro L a w hv K Q hK
           obtain ⟨p1, v15, hs⟩ := hv
           refine wpOp_yes rfl rfl rfl hs (congrArg (fun b => some (Value.bool b)) hg17) (OpT_loadP1 rfl rfl rfl rfl tyF37 (i := 4) rfl) ?_
           rintro _ ⟨v15', rfl⟩ a' w' hs'
           exact hK a' w' ⟨p1, v15', hs'.putF (i := 15) rfl [0, 1, 2, 3] [0, 1, 2, 3, 4, 6] rfl rfl rfl rfl⟩
          ·intro L a w hv K Q hK
           obtain ⟨p1, v15, hs⟩ := hv
           refine wpOp_yes rfl rfl rfl hs (congrArg (fun b => some (Value.bool b)) hg17) (OpT_loadCA (vs := [vU8 one1.1.Dst.a0, vU8 one1.1.Dst.a1, vU8 one1.1.Dst.a2, vU8 one1.1.Dst.a3, vU8 one1.1.Dst.a4, vU8 one1.1.Dst.a5, vU8 one1.1.Src.a0, vU8 one1.1.Src.a1, vU8 one1.1.Src.a2, vU8 one1.1.Src.a3, vU8 one1.1.Src.a4, vU8 one1.1.Src.a5, vI one1.1.Vlan, vU16 one1.1.Type_, v14]) rfl rfl rfl rfl tyF37 (i := 3) rfl rfl rfl) ?_
           rintro _ rfl a' w' hs'
           exact hK a' w' ⟨p1, v15, hs'.putF (i := 16) rfl [0, 1, 2, 3] [0, 1, 2, 3, 4, 5] rfl rfl rfl rfl⟩
          ·intro L a w hL hv
           rw [allTrue hL] at hv
           obtain ⟨p1, v15, hs⟩ := hv
           refine (show TA _ _ _ 14 ⟨[(1, some (vl1)), (2, some (vwritten1)), (3, some (vU64 feats)), (9, some (.pointer (some ⟨b1, 0, none⟩))), (11, some (v8)), (12, some (vI collec1.2.1)), (10, some (vI collec1.2.2)), (13, some (vI at1)), (14, some (vI i1)), (16, some (vI one1.2.1)), (118, some (vB (decide (i1 ≥ (len collec1.1))))), (122, some (.agg #[vU8 f1.Dst.a0, vU8 f1.Dst.a1, vU8 f1.Dst.a2, vU8 f1.Dst.a3, vU8 f1.Dst.a4, vU8 f1.Dst.a5, vU8 f1.Src.a0, vU8 f1.Src.a1, vU8 f1.Src.a2, vU8 f1.Src.a3, vU8 f1.Src.a4, vU8 f1.Src.a5, vI f1.Vlan, vU16 f1.Type_, v15])), (123, some (.agg #[vU8 one1.1.Dst.a0, vU8 one1.1.Dst.a1, vU8 one1.1.Dst.a2, vU8 one1.1.Dst.a3, vU8 one1.1.Dst.a4, vU8 one1.1.Dst.a5, vU8 one1.1.Src.a0, vU8 one1.1.Src.a1, vU8 one1.1.Src.a2, vU8 one1.1.Src.a3, vU8 one1.1.Src.a4, vU8 one1.1.Src.a5, vI one1.1.Vlan, vU16 one1.1.Type_, v14]))], [some (cellsR b1 82 [v3, v4]), some (rowsX u8S true v4 vs1 write1.2 none), some (rowS u8S v14 one1.1.Data)], [Fact.sl (Shape.slice SegS) vl1 l, Fact.sl u32S vwritten1 written, Fact.sl RegionS v3 mem1.l, Fact.sl FrameS v8 collec1.1, Fact.sl u8S v15 f1.Data]⟩ from ?_) a w (hs.wkS [1, 2, 3, 9, 11, 12, 10, 13, 14, 16, 118, 122, 123] [0, 1, 2] [0, 1, 2, 3, 5] rfl rfl rfl rfl)
           clear hs hL
           obtain ⟨frame1, hx11, h⟩ := ob_e h
           refine TA_yes htb (by kernel_rfl) rfl rfl rfl (congrArg (fun b => some (Value.bool b)) hg17) (OpT_callB [2] [0, 1, 2] (w_kit_Frame hx11) [] rfl rfl rfl rfl rfl callee19 rfl rfl rfl rfl rfl rfl (bor_cons (bor_shr 4 rfl) (bor_cons (bor_row 2 rfl rfl) bor_nil)) (by rintro _ _ _ ⟨rfl, rfl, rfl⟩; exact ⟨rfl, ri_nil⟩)) ?_
           rintro _ ⟨_, _, _, ⟨rfl, rfl, rfl⟩, rfl⟩
           refine TA_yes htb (by kernel_rfl) rfl rfl rfl (congrArg (fun b => some (Value.bool b)) hg17) (OpT_not rfl rfl rfl rfl) ?_
           rintro _ rfl
           refine TA_step htb (by kernel_rfl) rfl rfl (OpT_pickF rfl rfl rfl (congrArg (fun b => some (Value.bool b)) hg17) rfl) ?_
           refine TA_end rfl ?_
           refine Tk_wkS (fr' := [(1, some (vl1)), (2, some (vwritten1)), (3, some (vU64 feats)), (9, some (.pointer (some ⟨b1, 0, none⟩))), (11, some (v8)), (12, some (vI collec1.2.1)), (10, some (vI collec1.2.2)), (13, some (vI at1)), (14, some (vI i1)), (16, some (vI one1.2.1)), (126, some (vB (!frame1)))]) (own' := [some (cellsR b1 82 [v3, v4]), some (rowsX u8S true v4 vs1 write1.2 none)]) (shr' := [Fact.sl (Shape.slice SegS) vl1 l, Fact.sl u32S vwritten1 written, Fact.sl RegionS v3 mem1.l, Fact.sl FrameS v8 collec1.1]) [1, 2, 3, 9, 11, 12, 10, 13, 14, 16, 126] [0, 1] [0, 1, 2, 3] rfl rfl rfl rfl ?_
           obtain ⟨hg18, h⟩ := chk_e h
           replace hg18 := not_t hg18
           refine Tk_condF (congrArg (fun b => some (Value.bool b)) hg18) ?_
           refine Tk_skip (Tk_region (Tops_step rfl (OpT_move rfl rfl rfl rfl) ?_))
           refine Tops_step rfl (OpT_move rfl rfl rfl rfl) ?_
           refine Tops_step rfl (OpT_bin rfl rfl rfl rfl rfl (bin_add_i (a := at1) (b := one1.2.1))) ?_
           refine Tops_step rfl (OpT_move rfl rfl rfl rfl) ?_
           refine Tops_step rfl (OpT_bin rfl rfl rfl rfl rfl (bin_add_i (a := i1) (b := (1 : Int)))) ?_
           refine Tops_step rfl (OpT_assign rfl rfl rfl rfl) ?_
           refine Tops_step rfl (OpT_assign rfl rfl rfl rfl) ?_
           refine Tops_nil (Tk_wkS (fr' := [(1, some (vl1)), (2, some (vwritten1)), (3, some (vU64 feats)), (9, some (.pointer (some ⟨b1, 0, none⟩))), (11, some (v8)), (12, some (vI collec1.2.1)), (10, some (vI collec1.2.2)), (13, some (vI (wi (at1 + one1.2.1)))), (14, some (vI (wi (i1 + (1 : Int)))))]) (own' := [some (cellsR b1 82 [v3, v4]), some (rowsX u8S true v4 vs1 write1.2 none)]) (shr' := [Fact.sl (Shape.slice SegS) vl1 l, Fact.sl u32S vwritten1 written, Fact.sl RegionS v3 mem1.l, Fact.sl FrameS v8 collec1.1]) [1, 2, 3, 9, 11, 12, 10, 13, 14] [0, 1] [0, 1, 2, 3] rfl rfl rfl rfl ?_)
           refine Tk_blk ?_
           exact Tk_backS (wi (at1 + one1.2.1), wi (i1 + (1 : Int))) h [1, 2, 3, 9, 11, 12, 10, 13, 14] [0, 1] [0, 1, 2, 3] rfl rfl rfl rfl rfl
      ·replace h := br_f hg11 h
       refine Tk_condF (congrArg (fun b => some (Value.bool b)) hg11) ?_
       refine Tk_exit _ rfl ?_
       refine Tk_seq (Tk_region (Tops_step rfl (OpT_move rfl rfl rfl rfl) ?_))
       refine Tops_step rfl (OpT_bin rfl rfl rfl rfl rfl (bin_eql_i (a := collec1.2.2) (b := (0 : Int)))) ?_
       refine Tops_step rfl (OpT_move rfl rfl rfl rfl) ?_
       obtain ⟨hg19, h⟩ := chk_e h
       refine Tops_yes rfl rfl (congrArg (fun b => some (Value.bool b)) hg19) (OpT_move rfl rfl rfl rfl) ?_
       rintro _ rfl
       refine Tops_yes rfl rfl (congrArg (fun b => some (Value.bool b)) hg19) (OpT_move rfl rfl rfl rfl) ?_
       rintro _ rfl
       refine Tops_yes rfl rfl (congrArg (fun b => some (Value.bool b)) hg19) (OpT_bin rfl rfl rfl rfl rfl (bin_eql_i (a := collec1.2.1) (b := at1))) ?_
       rintro _ rfl
       refine Tops_step rfl (OpT_pickT rfl rfl rfl (congrArg (fun b => some (Value.bool b)) hg19) rfl) ?_
       refine Tops_step rfl (OpT_move rfl rfl rfl rfl) ?_
       obtain ⟨hg20, h⟩ := chk_e h
       refine Tops_yes rfl rfl (congrArg (fun b => some (Value.bool b)) hg20) (OpT_move rfl rfl rfl rfl) ?_
       rintro _ rfl
       refine Tops_yes rfl rfl (congrArg (fun b => some (Value.bool b)) hg20) (OpT_lenS rfl rfl rfl rfl Try.underlying58 (i := 3) rfl) ?_
       rintro _ rfl
       refine Tops_yes rfl rfl (congrArg (fun b => some (Value.bool b)) hg20) (OpT_move rfl rfl rfl rfl) ?_
       rintro _ rfl
       refine Tops_yes rfl rfl (congrArg (fun b => some (Value.bool b)) hg20) (OpT_bin rfl rfl rfl rfl rfl (bin_eql_i (a := len collec1.1) (b := i1))) ?_
       rintro _ rfl
       refine Tops_step rfl (OpT_pickT rfl rfl rfl (congrArg (fun b => some (Value.bool b)) hg20) rfl) ?_
       refine Tops_step rfl (OpT_assign rfl rfl rfl rfl) ?_
       refine Tops_nil (Tk_wkS (fr' := [(8, some (vB ((len collec1.1) == i1)))]) (own' := []) (shr' := []) [8] [] [] rfl rfl rfl rfl ?_)
       obtain ⟨hg21, h⟩ := chk_e h
       exact Tk_retV rfl rfl (resA (vs := [.bool true]) rfl ⟨(congrArg (fun b => some (Value.bool b)) hg21), trivial⟩) [] [] rfl rfl rfl ⟨rfl, rfl, rfl⟩
end Go.Proofs.Ytgcbcnpbnonnjaa
