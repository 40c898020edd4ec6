/- The law BuildTables is walked: it returns what its plain words say. No condition. -/
import Derived.Test.YtihcimjfabdafaaWa3
namespace Go.Proofs.Ytihcimjfabdafaa
attribute [local irreducible] sub

set_option maxRecDepth 100000 in
set_option maxHeartbeats 4000000 in
theorem w_law09zBuildTables {l : List Seg} {atp1 : UInt64} {id : Int} {pos : Int} {wrap : Bool} {vl1 : Value}  (h : law09zBuildTables l atp1 id pos wrap = some true) :
  Ctr Try.prog 6 #[vl1, vU64 atp1, vI id, vI pos, vB wrap] [] [Fact.sl SegS vl1 l]
   (fun rv own shr => rv = .bool true ∧ own = [] ∧ shr = []) := by
 unfold law09zBuildTables at h
 refine Ctr.mk (args := [vl1, vU64 atp1, vI id, vI pos, vB wrap]) Try.func6 rfl rfl (fun R0 w0 B => ?_)
 refine Tk_seq (Tk_region (Tops_step rfl (OpT_assign rfl rfl rfl rfl) ?_))
 refine Tops_nil (Tk_wkS (fr' := [(0, some (vl1)), (1, some (vU64 atp1)), (2, some (vI id)), (3, some (vI pos)), (4, some (vB wrap))]) (own' := []) (shr' := [Fact.sl SegS vl1 l]) [0, 1, 2, 3, 4] [] [0] rfl rfl rfl rfl ?_)
 refine Tk_seq (Tk_seq (Tk_region ?_))
 obtain ⟨lives1, hx1, h⟩ := ob_e h
 refine Tops_exP rfl (OpT_call (w_law09zlives hx1) [] [] rfl rfl rfl rfl rfl callee13 rfl rfl rfl rfl) ?_
 rintro _ ⟨_, _, _, ⟨rfl, rfl, rfl⟩, rfl⟩
 refine Tops_step rfl (OpT_not rfl rfl rfl rfl) ?_
 refine Tops_nil (Tk_wkS (fr' := [(0, some (vl1)), (1, some (vU64 atp1)), (2, some (vI id)), (3, some (vI pos)), (4, some (vB wrap)), (22, some (vB (!lives1)))]) (own' := []) (shr' := [Fact.sl SegS vl1 l]) [0, 1, 2, 3, 4, 22] [] [0] rfl rfl rfl rfl ?_)
 obtain ⟨hg1, h⟩ := chk_e h
 replace hg1 := not_t hg1
 refine Tk_condF (congrArg (fun b => some (Value.bool b)) hg1) ?_
 refine Tk_skip (Tk_seq (Tk_seq (Tk_region (Tops_step rfl (OpT_move rfl rfl rfl rfl) ?_))))
 refine Tops_step rfl (OpT_lenS rfl rfl rfl rfl Try.underlying27 (i := 0) rfl) ?_
 refine Tops_step rfl (OpT_bin rfl rfl rfl rfl rfl (bin_gtr_i (a := len l) (b := (100 : Int)))) ?_
 refine Tops_nil (Tk_wkS (fr' := [(0, some (vl1)), (1, some (vU64 atp1)), (2, some (vI id)), (3, some (vI pos)), (4, some (vB wrap)), (25, some (vB (decide ((len l) > (100 : Int)))))]) (own' := []) (shr' := [Fact.sl SegS vl1 l]) [0, 1, 2, 3, 4, 25] [] [0] rfl rfl rfl rfl ?_)
 rcases Bool.eq_false_or_eq_true (decide ((len l) > (100 : Int))) with hg2 | hg2
 ·replace h := br_t hg2 h
  refine Tk_condT (congrArg (fun b => some (Value.bool b)) hg2) ?_
  refine Tk_seq (Tk_region (Tops_step rfl (OpT_assign rfl rfl rfl rfl) ?_))
  refine Tops_nil (Tk_wkS (fr' := [(10, some (vB true))]) (own' := []) (shr' := []) [10] [] [] rfl rfl rfl rfl ?_)
  exact Tk_retV rfl rfl (resA (vs := [.bool true]) rfl ⟨rfl, trivial⟩) [] [] rfl rfl rfl ⟨rfl, rfl, rfl⟩
 ·replace h := br_f hg2 h
  refine Tk_condF (congrArg (fun b => some (Value.bool b)) hg2) ?_
  refine Tk_skip (Tk_seq (Tk_region (Tops_step rfl (OpT_move rfl rfl rfl rfl) ?_)))
  obtain ⟨splitt1, hx2, h⟩ := ob_e h
  refine Tops_exP rfl (OpT_call (w_build_SplitTable hx2) [] [0] rfl rfl rfl rfl rfl callee12 rfl rfl rfl rfl) ?_
  rintro _ ⟨_, _, _, ⟨v1, rfl, rfl, rfl⟩, rfl⟩
  refine Tops_step rfl (OpT_move rfl rfl rfl rfl) ?_
  refine Tops_step rfl (OpT_extract rfl rfl rfl rfl rfl) ?_
  refine Tops_step rfl (OpT_extract rfl rfl rfl rfl rfl) ?_
  refine Tops_step rfl (OpT_assign rfl rfl rfl rfl) ?_
  refine Tops_step rfl (OpT_assign rfl rfl rfl rfl) ?_
  refine Tops_nil (Tk_wkS (fr' := [(0, some (vl1)), (1, some (vU64 atp1)), (2, some (vI id)), (3, some (vI pos)), (4, some (vB wrap)), (11, some (v1)), (12, some (vI splitt1.2))]) (own' := [some (rowS u8S v1 splitt1.1)]) (shr' := [Fact.sl SegS vl1 l]) [0, 1, 2, 3, 4, 11, 12] [0] [0] rfl rfl rfl rfl ?_)
  refine Tk_seq (Tk_region (Tops_step rfl (OpT_move rfl rfl rfl rfl) ?_))
  obtain ⟨packed1, hx3, h⟩ := ob_e h
  refine Tops_exP rfl (OpT_call (w_build_PackedTable hx3) [] [0] rfl rfl rfl rfl rfl callee18 rfl rfl rfl rfl) ?_
  rintro _ ⟨_, _, _, ⟨v2, rfl, rfl, rfl⟩, rfl⟩
  refine Tops_step rfl (OpT_move rfl rfl rfl rfl) ?_
  refine Tops_step rfl (OpT_extract rfl rfl rfl rfl rfl) ?_
  refine Tops_step rfl (OpT_extract rfl rfl rfl rfl rfl) ?_
  refine Tops_step rfl (OpT_assign rfl rfl rfl rfl) ?_
  refine Tops_step rfl (OpT_assign rfl rfl rfl rfl) ?_
  refine Tops_nil (Tk_wkS (fr' := [(0, some (vl1)), (1, some (vU64 atp1)), (2, some (vI id)), (3, some (vI pos)), (4, some (vB wrap)), (11, some (v1)), (12, some (vI splitt1.2)), (13, some (v2)), (14, some (vI packed1.2))]) (own' := [some (rowS u8S v1 splitt1.1), some (rowS u8S v2 packed1.1)]) (shr' := [Fact.sl SegS vl1 l]) [0, 1, 2, 3, 4, 11, 12, 13, 14] [0, 1] [0] rfl rfl rfl rfl ?_)
  refine Tk_seq (Tk_region (Tops_step rfl (OpT_move rfl rfl rfl rfl) ?_))
  obtain ⟨needs1, hx4, h⟩ := ob_e h
  refine Tops_exP rfl (OpT_call (w_build_Needs hx4) [] [0] rfl rfl rfl rfl rfl callee14 rfl rfl rfl rfl) ?_
  rintro _ ⟨_, _, _, ⟨rfl, rfl, rfl⟩, rfl⟩
  refine Tops_step rfl (OpT_assign rfl rfl rfl rfl) ?_
  refine Tops_nil (Tk_wkS (fr' := [(0, some (vl1)), (1, some (vU64 atp1)), (2, some (vI id)), (3, some (vI pos)), (4, some (vB wrap)), (11, some (v1)), (12, some (vI splitt1.2)), (13, some (v2)), (14, some (vI packed1.2)), (15, some (vI needs1))]) (own' := [some (rowS u8S v1 splitt1.1), some (rowS u8S v2 packed1.1)]) (shr' := [Fact.sl SegS vl1 l]) [0, 1, 2, 3, 4, 11, 12, 13, 14, 15] [0, 1] [0] rfl rfl rfl rfl ?_)
  refine Tk_seq (Tk_seq (Tk_region (Tops_step rfl (OpT_move rfl rfl rfl rfl) ?_)))
  refine Tops_step rfl (OpT_bin rfl rfl rfl rfl rfl (bin_eql_i (a := needs1) (b := (0 : Int)))) ?_
  refine Tops_nil (Tk_wkS (fr' := [(0, some (vl1)), (1, some (vU64 atp1)), (2, some (vI id)), (3, some (vI pos)), (4, some (vB wrap)), (11, some (v1)), (12, some (vI splitt1.2)), (13, some (v2)), (14, some (vI packed1.2)), (15, some (vI needs1)), (39, some (vB (needs1 == (0 : Int))))]) (own' := [some (rowS u8S v1 splitt1.1), some (rowS u8S v2 packed1.1)]) (shr' := [Fact.sl SegS vl1 l]) [0, 1, 2, 3, 4, 11, 12, 13, 14, 15, 39] [0, 1] [0] rfl rfl rfl rfl ?_)
  rcases Bool.eq_false_or_eq_true (needs1 == (0 : Int)) with hg3 | hg3
  ·replace h := br_t hg3 h
   refine Tk_condT (congrArg (fun b => some (Value.bool b)) hg3) ?_
   refine Tk_seq (Tk_region (Tops_step rfl (OpT_move rfl rfl rfl rfl) ?_))
   refine Tops_step rfl (OpT_bin rfl rfl rfl rfl rfl (bin_neq_i (a := splitt1.2) (b := (0 : Int)))) ?_
   refine Tops_step rfl (OpT_move rfl rfl rfl rfl) ?_
   obtain ⟨hg4, h⟩ := chk_e h
   refine Tops_yes rfl rfl (congrArg (fun b => some (Value.bool b)) hg4) (OpT_move rfl rfl rfl rfl) ?_
   rintro _ rfl
   refine Tops_yes rfl rfl (congrArg (fun b => some (Value.bool b)) hg4) (OpT_move rfl rfl rfl rfl) ?_
   rintro _ rfl
   refine Tops_yes rfl rfl (congrArg (fun b => some (Value.bool b)) hg4) (OpT_bin rfl rfl rfl rfl rfl (bin_eql_i (a := splitt1.2) (b := packed1.2))) ?_
   rintro _ rfl
   refine Tops_step rfl (OpT_pickT rfl rfl rfl (congrArg (fun b => some (Value.bool b)) hg4) rfl) ?_
   refine Tops_step rfl (OpT_move rfl rfl rfl rfl) ?_
   obtain ⟨hg5, h⟩ := chk_e h
   refine Tops_yes rfl rfl (congrArg (fun b => some (Value.bool b)) hg5) (OpT_move rfl rfl rfl rfl) ?_
   rintro _ rfl
   refine Tops_yes rfl rfl (congrArg (fun b => some (Value.bool b)) hg5) (OpT_lenO rfl rfl rfl rfl Try.underlying49 (i := 0) rfl) ?_
   rintro _ rfl
   refine Tops_yes rfl rfl (congrArg (fun b => some (Value.bool b)) hg5) (OpT_move rfl rfl rfl rfl) ?_
   rintro _ rfl
   refine Tops_yes rfl rfl (congrArg (fun b => some (Value.bool b)) hg5) (OpT_lenO rfl rfl rfl rfl Try.underlying49 (i := 1) rfl) ?_
   rintro _ rfl
   refine Tops_yes rfl rfl (congrArg (fun b => some (Value.bool b)) hg5) (OpT_bin rfl rfl rfl rfl rfl (bin_add_i (a := len splitt1.1) (b := len packed1.1))) ?_
   rintro _ rfl
   refine Tops_yes rfl rfl (congrArg (fun b => some (Value.bool b)) hg5) (OpT_bin rfl rfl rfl rfl rfl (bin_eql_i (a := wi ((len splitt1.1) + (len packed1.1))) (b := (0 : Int)))) ?_
   rintro _ rfl
   refine Tops_step rfl (OpT_pickT rfl rfl rfl (congrArg (fun b => some (Value.bool b)) hg5) rfl) ?_
   refine Tops_step rfl (OpT_move rfl rfl rfl rfl) ?_
   obtain ⟨hg6, h⟩ := chk_e h
   refine Tops_yes rfl rfl (congrArg (fun b => some (Value.bool b)) hg6) (OpT_move rfl rfl rfl rfl) ?_
   rintro _ rfl
   obtain ⟨needs2, hx5, h⟩ := ob_e h
   refine Tops_yes rfl rfl (congrArg (fun b => some (Value.bool b)) hg6) (OpT_call (w_build_Needs hx5) [] [0] rfl rfl rfl rfl rfl callee14 rfl rfl rfl rfl) ?_
   rintro _ ⟨_, _, _, ⟨rfl, rfl, rfl⟩, rfl⟩
   refine Tops_yes rfl rfl (congrArg (fun b => some (Value.bool b)) hg6) (OpT_bin rfl rfl rfl rfl rfl (bin_eql_i (a := needs2) (b := (0 : Int)))) ?_
   rintro _ rfl
   refine Tops_step rfl (OpT_pickT rfl rfl rfl (congrArg (fun b => some (Value.bool b)) hg6) rfl) ?_
   refine Tops_step rfl (OpT_assign rfl rfl rfl rfl) ?_
   refine Tops_nil (Tk_wkS (fr' := [(10, some (vB (needs2 == (0 : Int))))]) (own' := []) (shr' := []) [10] [] [] rfl rfl rfl rfl ?_)
   obtain ⟨hg7, h⟩ := chk_e h
   exact Tk_retV rfl rfl (resA (vs := [.bool true]) rfl ⟨(congrArg (fun b => some (Value.bool b)) hg7), trivial⟩) [] [] rfl rfl rfl ⟨rfl, rfl, rfl⟩
  ·replace h := br_f hg3 h
   refine Tk_condF (congrArg (fun b => some (Value.bool b)) hg3) ?_
   refine Tk_skip (Tk_seq (Tk_region (Tops_step rfl (OpT_move rfl rfl rfl rfl) ?_)))
   obtain ⟨pick1, hx6, h⟩ := ob_e h
   refine Tops_exP rfl (OpT_call (w_kit_Pick hx6) [] [] rfl rfl rfl rfl rfl callee15 rfl rfl rfl rfl) ?_
   rintro _ ⟨_, _, _, ⟨rfl, rfl, rfl⟩, rfl⟩
   refine Tops_step rfl (OpT_assign rfl rfl rfl rfl) ?_
   refine Tops_nil (Tk_wkS (fr' := [(0, some (vl1)), (1, some (vU64 atp1)), (2, some (vI pick1)), (3, some (vI pos)), (4, some (vB wrap)), (11, some (v1)), (12, some (vI splitt1.2)), (13, some (v2)), (14, some (vI packed1.2)), (15, some (vI needs1))]) (own' := [some (rowS u8S v1 splitt1.1), some (rowS u8S v2 packed1.1)]) (shr' := [Fact.sl SegS vl1 l]) [0, 1, 2, 3, 4, 11, 12, 13, 14, 15] [0, 1] [0] rfl rfl rfl rfl ?_)
   refine Tk_seq (Tk_region (Tops_step rfl (OpT_move rfl rfl rfl rfl) ?_))
   obtain ⟨pick2, hx7, h⟩ := ob_e h
   refine Tops_exP rfl (OpT_call (w_kit_Pick hx7) [] [] rfl rfl rfl rfl rfl callee15 rfl rfl rfl rfl) ?_
   rintro _ ⟨_, _, _, ⟨rfl, rfl, rfl⟩, rfl⟩
   refine Tops_step rfl (OpT_move rfl rfl rfl rfl) ?_
   refine Tops_step rfl (OpT_build (v := .agg #[vI pick2, vB wrap]) rfl rfl rfl rfl (bldV (by kernel_rfl))) ?_
   refine Tops_ex rfl (OpT_alloc rfl rfl rfl tyZ33) fun b1 => ?_
   refine Tops_step rfl (OpT_storeC (cs' := [vI pick2, vB wrap]) rfl rfl rfl rfl tyF33 (i := 2) rfl rfl rfl (one_of rfl) rfl) ?_
   refine Tops_nil (Tk_wkS (fr' := [(0, some (vl1)), (1, some (vU64 atp1)), (2, some (vI pick1)), (4, some (vB wrap)), (11, some (v1)), (12, some (vI splitt1.2)), (13, some (v2)), (14, some (vI packed1.2)), (15, some (vI needs1)), (16, some (.pointer (some ⟨b1, 0, none⟩)))]) (own' := [some (rowS u8S v1 splitt1.1), some (rowS u8S v2 packed1.1), some (cellsR b1 33 [vI pick2, vB wrap])]) (shr' := [Fact.sl SegS vl1 l]) [0, 1, 2, 4, 11, 12, 13, 14, 15, 16] [0, 1, 2] [0] rfl rfl rfl rfl ?_)
   refine Tk_seq (Tk_region (Tops_step rfl (OpT_move rfl rfl rfl rfl) ?_))
   refine Tops_step rfl (OpT_move rfl rfl rfl rfl) ?_
   refine Tops_step rfl (OpT_move rfl rfl rfl rfl) ?_
   refine Tops_step rfl (OpT_lenS rfl rfl rfl rfl Try.underlying27 (i := 0) rfl) ?_
   obtain ⟨splito1, hx8, h⟩ := ob_e h
   refine Tops_exP rfl (OpT_call (w_build_SplitOne hx8) [] [] rfl rfl rfl rfl rfl callee10 rfl rfl rfl rfl) ?_
   rintro _ ⟨_, _, _, ⟨rfl, rfl, rfl⟩, rfl⟩
   refine Tops_step rfl (OpT_move rfl rfl rfl rfl) ?_
   refine Tops_step rfl (OpT_extract rfl rfl rfl rfl rfl) ?_
   refine Tops_step rfl (OpT_extract rfl rfl rfl rfl rfl) ?_
   refine Tops_ex rfl (OpT_alloc rfl rfl rfl tyZ40) fun b2 => ?_
   refine Tops_step rfl (OpT_storeC (cs' := [vI splito1.1.At, vU64 splito1.1.Desc.Addr, vU32 splito1.1.Desc.Len, vU16 splito1.1.Desc.Flags, vU16 splito1.1.Desc.Next]) rfl rfl rfl rfl tyF40 (i := 3) rfl rfl rfl (one_of rfl) rfl) ?_
   refine Tops_step rfl (OpT_assign rfl rfl rfl rfl) ?_
   refine Tops_nil (Tk_wkS (fr' := [(0, some (vl1)), (1, some (vU64 atp1)), (2, some (vI pick1)), (4, some (vB wrap)), (11, some (v1)), (12, some (vI splitt1.2)), (13, some (v2)), (14, some (vI packed1.2)), (15, some (vI needs1)), (16, some (.pointer (some ⟨b1, 0, none⟩))), (17, some (.pointer (some ⟨b2, 0, none⟩))), (18, some (vI splito1.2))]) (own' := [some (rowS u8S v1 splitt1.1), some (rowS u8S v2 packed1.1), some (cellsR b1 33 [vI pick2, vB wrap]), some (cellsR b2 40 [vI splito1.1.At, vU64 splito1.1.Desc.Addr, vU32 splito1.1.Desc.Len, vU16 splito1.1.Desc.Flags, vU16 splito1.1.Desc.Next])]) (shr' := [Fact.sl SegS vl1 l]) [0, 1, 2, 4, 11, 12, 13, 14, 15, 16, 17, 18] [0, 1, 2, 3] [0] rfl rfl rfl rfl ?_)
   refine Tk_seq (Tk_region (Tops_step rfl (OpT_loadCA (vs := [vI pick2, vB wrap]) rfl rfl rfl rfl tyF33 (i := 2) rfl rfl rfl) ?_))
   refine Tops_step rfl (OpT_move rfl rfl rfl rfl) ?_
   refine Tops_step rfl (OpT_move rfl rfl rfl rfl) ?_
   refine Tops_step rfl (OpT_move rfl rfl rfl rfl) ?_
   refine Tops_step rfl (OpT_lenS rfl rfl rfl rfl Try.underlying27 (i := 0) rfl) ?_
   obtain ⟨packed2, hx9, h⟩ := ob_e h
   refine Tops_exP rfl (OpT_call (w_build_PackedOne hx9) [] [] rfl rfl rfl rfl rfl callee11 rfl rfl rfl rfl) ?_
   rintro _ ⟨_, _, _, ⟨rfl, rfl, rfl⟩, rfl⟩
   refine Tops_step rfl (OpT_move rfl rfl rfl rfl) ?_
   refine Tops_step rfl (OpT_extract rfl rfl rfl rfl rfl) ?_
   refine Tops_step rfl (OpT_extract rfl rfl rfl rfl rfl) ?_
   refine Tops_ex rfl (OpT_alloc rfl rfl rfl tyZ46) fun b3 => ?_
   refine Tops_step rfl (OpT_storeC (cs' := [vI packed2.1.At, vU64 packed2.1.Desc.Addr, vU32 packed2.1.Desc.Len, vU16 packed2.1.Desc.ID, vU16 packed2.1.Desc.Flags]) rfl rfl rfl rfl tyF46 (i := 4) rfl rfl rfl (one_of rfl) rfl) ?_
   refine Tops_step rfl (OpT_assign rfl rfl rfl rfl) ?_
   refine Tops_nil (Tk_wkS (fr' := [(0, some (vl1)), (1, some (vU64 atp1)), (2, some (vI pick1)), (4, some (vB wrap)), (11, some (v1)), (12, some (vI splitt1.2)), (13, some (v2)), (14, some (vI packed1.2)), (15, some (vI needs1)), (16, some (.pointer (some ⟨b1, 0, none⟩))), (17, some (.pointer (some ⟨b2, 0, none⟩))), (18, some (vI splito1.2)), (19, some (.pointer (some ⟨b3, 0, none⟩))), (20, some (vI packed2.2))]) (own' := [some (rowS u8S v1 splitt1.1), some (rowS u8S v2 packed1.1), some (cellsR b1 33 [vI pick2, vB wrap]), some (cellsR b2 40 [vI splito1.1.At, vU64 splito1.1.Desc.Addr, vU32 splito1.1.Desc.Len, vU16 splito1.1.Desc.Flags, vU16 splito1.1.Desc.Next]), some (cellsR b3 46 [vI packed2.1.At, vU64 packed2.1.Desc.Addr, vU32 packed2.1.Desc.Len, vU16 packed2.1.Desc.ID, vU16 packed2.1.Desc.Flags])]) (shr' := [Fact.sl SegS vl1 l]) [0, 1, 2, 4, 11, 12, 13, 14, 15, 16, 17, 18, 19, 20] [0, 1, 2, 3, 4] [0] rfl rfl rfl rfl ?_)
   refine Tk_seq (Tk_seq (Tk_region (Tops_step rfl (OpT_move rfl rfl rfl rfl) ?_)))
   refine Tops_step rfl (OpT_bin rfl rfl rfl rfl rfl (bin_neq_i (a := splitt1.2) (b := (0 : Int)))) ?_
   refine Tops_step rfl (OpT_move rfl rfl rfl rfl) ?_
   obtain ⟨hg8, h⟩ := chk_e h
   replace hg8 := not_t hg8
   refine Tops_yes rfl rfl (congrArg (fun b => some (Value.bool b)) hg8) (OpT_move rfl rfl rfl rfl) ?_
   rintro _ rfl
   refine Tops_yes rfl rfl (congrArg (fun b => some (Value.bool b)) hg8) (OpT_bin rfl rfl rfl rfl rfl (bin_neq_i (a := packed1.2) (b := (0 : Int)))) ?_
   rintro _ rfl
   refine Tops_step rfl (OpT_pickF rfl rfl rfl (congrArg (fun b => some (Value.bool b)) hg8) rfl) ?_
   refine Tops_step rfl (OpT_move rfl rfl rfl rfl) ?_
   obtain ⟨hg9, h⟩ := chk_e h
   replace hg9 := not_t hg9
   refine Tops_yes rfl rfl (congrArg (fun b => some (Value.bool b)) hg9) (OpT_move rfl rfl rfl rfl) ?_
   rintro _ rfl
   refine Tops_yes rfl rfl (congrArg (fun b => some (Value.bool b)) hg9) (OpT_bin rfl rfl rfl rfl rfl (bin_neq_i (a := splito1.2) (b := (0 : Int)))) ?_
   rintro _ rfl
   refine Tops_step rfl (OpT_pickF rfl rfl rfl (congrArg (fun b => some (Value.bool b)) hg9) rfl) ?_
   refine Tops_step rfl (OpT_move rfl rfl rfl rfl) ?_
   obtain ⟨hg10, h⟩ := chk_e h
   replace hg10 := not_t hg10
   refine Tops_yes rfl rfl (congrArg (fun b => some (Value.bool b)) hg10) (OpT_move rfl rfl rfl rfl) ?_
   rintro _ rfl
   refine Tops_yes rfl rfl (congrArg (fun b => some (Value.bool b)) hg10) (OpT_bin rfl rfl rfl rfl rfl (bin_neq_i (a := packed2.2) (b := (0 : Int)))) ?_
   rintro _ rfl
   refine Tops_step rfl (OpT_pickF rfl rfl rfl (congrArg (fun b => some (Value.bool b)) hg10) rfl) ?_
   refine Tops_step rfl (OpT_move rfl rfl rfl rfl) ?_
   obtain ⟨hg11, h⟩ := chk_e h
   replace hg11 := not_t hg11
   refine Tops_yes rfl rfl (congrArg (fun b => some (Value.bool b)) hg11) (OpT_move rfl rfl rfl rfl) ?_
   rintro _ rfl
   refine Tops_yes rfl rfl (congrArg (fun b => some (Value.bool b)) hg11) (OpT_bin rfl rfl rfl rfl rfl (bin_neq_i (a := needs1) (b := (1 : Int)))) ?_
   rintro _ rfl
   refine Tops_step rfl (OpT_pickF rfl rfl rfl (congrArg (fun b => some (Value.bool b)) hg11) rfl) ?_
   refine Tops_step rfl (OpT_move rfl rfl rfl rfl) ?_
   obtain ⟨hg12, h⟩ := chk_e h
   replace hg12 := not_t hg12
   refine Tops_yes rfl rfl (congrArg (fun b => some (Value.bool b)) hg12) (OpT_move rfl rfl rfl rfl) ?_
   rintro _ rfl
   refine Tops_yes rfl rfl (congrArg (fun b => some (Value.bool b)) hg12) (OpT_lenO rfl rfl rfl rfl Try.underlying49 (i := 0) rfl) ?_
   rintro _ rfl
   refine Tops_yes rfl rfl (congrArg (fun b => some (Value.bool b)) hg12) (OpT_move rfl rfl rfl rfl) ?_
   rintro _ rfl
   refine Tops_yes rfl rfl (congrArg (fun b => some (Value.bool b)) hg12) (OpT_lenS rfl rfl rfl rfl Try.underlying27 (i := 0) rfl) ?_
   rintro _ rfl
   refine Tops_yes rfl rfl (congrArg (fun b => some (Value.bool b)) hg12) (OpT_bin rfl rfl rfl rfl rfl (bin_mul_i (a := (16 : Int)) (b := len l))) ?_
   rintro _ rfl
   refine Tops_yes rfl rfl (congrArg (fun b => some (Value.bool b)) hg12) (OpT_bin rfl rfl rfl rfl rfl (bin_neq_i (a := len splitt1.1) (b := wi ((16 : Int) * (len l))))) ?_
   rintro _ rfl
   refine Tops_step rfl (OpT_pickF rfl rfl rfl (congrArg (fun b => some (Value.bool b)) hg12) rfl) ?_
   refine Tops_step rfl (OpT_move rfl rfl rfl rfl) ?_
   obtain ⟨hg13, h⟩ := chk_e h
   replace hg13 := not_t hg13
   refine Tops_yes rfl rfl (congrArg (fun b => some (Value.bool b)) hg13) (OpT_move rfl rfl rfl rfl) ?_
   rintro _ rfl
   refine Tops_yes rfl rfl (congrArg (fun b => some (Value.bool b)) hg13) (OpT_lenO rfl rfl rfl rfl Try.underlying49 (i := 1) rfl) ?_
   rintro _ rfl
   refine Tops_yes rfl rfl (congrArg (fun b => some (Value.bool b)) hg13) (OpT_move rfl rfl rfl rfl) ?_
   rintro _ rfl
   refine Tops_yes rfl rfl (congrArg (fun b => some (Value.bool b)) hg13) (OpT_lenS rfl rfl rfl rfl Try.underlying27 (i := 0) rfl) ?_
   rintro _ rfl
   refine Tops_yes rfl rfl (congrArg (fun b => some (Value.bool b)) hg13) (OpT_bin rfl rfl rfl rfl rfl (bin_mul_i (a := (16 : Int)) (b := len l))) ?_
   rintro _ rfl
   refine Tops_yes rfl rfl (congrArg (fun b => some (Value.bool b)) hg13) (OpT_bin rfl rfl rfl rfl rfl (bin_neq_i (a := len packed1.1) (b := wi ((16 : Int) * (len l))))) ?_
   rintro _ rfl
   refine Tops_step rfl (OpT_pickF rfl rfl rfl (congrArg (fun b => some (Value.bool b)) hg13) rfl) ?_
   refine Tops_nil (Tk_wkS (fr' := [(1, some (vU64 atp1)), (2, some (vI pick1)), (4, some (vB wrap)), (11, some (v1)), (13, some (v2)), (16, some (.pointer (some ⟨b1, 0, none⟩))), (17, some (.pointer (some ⟨b2, 0, none⟩))), (19, some (.pointer (some ⟨b3, 0, none⟩))), (116, some (vB ((len packed1.1) != (wi ((16 : Int) * (len l))))))]) (own' := [some (rowS u8S v1 splitt1.1), some (rowS u8S v2 packed1.1), some (cellsR b1 33 [vI pick2, vB wrap]), some (cellsR b2 40 [vI splito1.1.At, vU64 splito1.1.Desc.Addr, vU32 splito1.1.Desc.Len, vU16 splito1.1.Desc.Flags, vU16 splito1.1.Desc.Next]), some (cellsR b3 46 [vI packed2.1.At, vU64 packed2.1.Desc.Addr, vU32 packed2.1.Desc.Len, vU16 packed2.1.Desc.ID, vU16 packed2.1.Desc.Flags])]) (shr' := []) [1, 2, 4, 11, 13, 16, 17, 19, 116] [0, 1, 2, 3, 4] [] rfl rfl rfl rfl ?_)
   obtain ⟨hg14, h⟩ := chk_e h
   replace hg14 := not_t hg14
   refine Tk_condF (congrArg (fun b => some (Value.bool b)) hg14) ?_
   refine Tk_skip (Tk_seq (Tk_region (Tops_step rfl (OpT_loadCA (vs := [vI splito1.1.At, vU64 splito1.1.Desc.Addr, vU32 splito1.1.Desc.Len, vU16 splito1.1.Desc.Flags, vU16 splito1.1.Desc.Next]) rfl rfl rfl rfl tyF40 (i := 3) rfl rfl rfl) ?_)))
   refine Tops_step rfl (OpT_move rfl rfl rfl rfl) ?_
   refine Tops_step rfl (OpT_move rfl rfl rfl rfl) ?_
   refine Tops_step rfl (OpT_move rfl rfl rfl rfl) ?_
   refine Tops_step rfl (OpT_lenO rfl rfl rfl rfl Try.underlying49 (i := 0) rfl) ?_
   refine Tops_step rfl (OpT_cnv rfl rfl rfl rfl (cnv_i_u32 (n := len splitt1.1) Try.underlying3 Try.underlying35)) ?_
   refine Tops_step rfl (OpT_build (v := .agg #[vU64 atp1, vU32 (u32 (len splitt1.1)), vU16 (4 : UInt16), vU16 (0 : UInt16)]) rfl rfl rfl rfl (bldV (by kernel_rfl))) ?_
   refine Tops_step rfl (OpT_build (v := .agg #[vI pick1, vU64 atp1, vU32 (u32 (len splitt1.1)), vU16 (4 : UInt16), vU16 (0 : UInt16)]) rfl rfl rfl rfl (bldV (by kernel_rfl))) ?_
   refine Tops_step rfl (OpT_bin rfl rfl rfl rfl rfl (eqT40_eql splito1.1 (Put.mk pick1 (Desc.mk atp1 (u32 (len splitt1.1)) (4 : UInt16) (0 : UInt16))))) ?_
   refine Tops_step rfl (OpT_move rfl rfl rfl rfl) ?_
   obtain ⟨hg15, h⟩ := chk_e h
   refine Tops_yes rfl rfl (congrArg (fun b => some (Value.bool b)) hg15) (OpT_fieldC rfl rfl rfl rfl fldF46x0) ?_
   rintro _ rfl
   refine Tops_yes rfl rfl (congrArg (fun b => some (Value.bool b)) hg15) (OpT_loadC rfl rfl rfl rfl tyF3 (i := 4) rfl rfl) ?_
   rintro _ rfl
   refine Tops_yes rfl rfl (congrArg (fun b => some (Value.bool b)) hg15) (OpT_fieldC rfl rfl rfl rfl fldF33x0) ?_
   rintro _ rfl
   refine Tops_yes rfl rfl (congrArg (fun b => some (Value.bool b)) hg15) (OpT_loadC rfl rfl rfl rfl tyF3 (i := 2) rfl rfl) ?_
   rintro _ rfl
   refine Tops_yes rfl rfl (congrArg (fun b => some (Value.bool b)) hg15) (OpT_bin rfl rfl rfl rfl rfl (bin_eql_i (a := packed2.1.At) (b := pick2))) ?_
   rintro _ rfl
   refine Tops_step rfl (OpT_pickT rfl rfl rfl (congrArg (fun b => some (Value.bool b)) hg15) rfl) ?_
   refine Tops_step rfl (OpT_move rfl rfl rfl rfl) ?_
   obtain ⟨hg16, h⟩ := chk_e h
   refine Tops_yes rfl rfl (congrArg (fun b => some (Value.bool b)) hg16) (OpT_fieldC rfl rfl rfl rfl fldF46x1) ?_
   rintro _ rfl
   refine Tops_yes rfl rfl (congrArg (fun b => some (Value.bool b)) hg16) (OpT_fieldC rfl rfl rfl rfl fldF44x0) ?_
   rintro _ rfl
   refine Tops_yes rfl rfl (congrArg (fun b => some (Value.bool b)) hg16) (OpT_loadC rfl rfl rfl rfl tyF34 (i := 4) rfl rfl) ?_
   rintro _ rfl
   refine Tops_yes rfl rfl (congrArg (fun b => some (Value.bool b)) hg16) (OpT_move rfl rfl rfl rfl) ?_
   rintro _ rfl
   refine Tops_yes rfl rfl (congrArg (fun b => some (Value.bool b)) hg16) (OpT_bin rfl rfl rfl rfl rfl (bin_eql_u64 (a := packed2.1.Desc.Addr) (b := atp1))) ?_
   rintro _ rfl
   refine Tops_step rfl (OpT_pickT rfl rfl rfl (congrArg (fun b => some (Value.bool b)) hg16) rfl) ?_
   refine Tops_step rfl (OpT_move rfl rfl rfl rfl) ?_
   obtain ⟨hg17, h⟩ := chk_e h
   refine Tops_yes rfl rfl (congrArg (fun b => some (Value.bool b)) hg17) (OpT_fieldC rfl rfl rfl rfl fldF46x1) ?_
   rintro _ rfl
   refine Tops_yes rfl rfl (congrArg (fun b => some (Value.bool b)) hg17) (OpT_fieldC rfl rfl rfl rfl fldF44x1) ?_
   rintro _ rfl
   refine Tops_yes rfl rfl (congrArg (fun b => some (Value.bool b)) hg17) (OpT_loadC rfl rfl rfl rfl tyF35 (i := 4) rfl rfl) ?_
   rintro _ rfl
   refine Tops_yes rfl rfl (congrArg (fun b => some (Value.bool b)) hg17) (OpT_cnv rfl rfl rfl rfl (cnv_u32_i (n := packed2.1.Desc.Len) Try.underlying35 Try.underlying3)) ?_
   rintro _ rfl
   refine Tops_yes rfl rfl (congrArg (fun b => some (Value.bool b)) hg17) (OpT_move rfl rfl rfl rfl) ?_
   rintro _ rfl
   refine Tops_yes rfl rfl (congrArg (fun b => some (Value.bool b)) hg17) (OpT_lenO rfl rfl rfl rfl Try.underlying49 (i := 1) rfl) ?_
   rintro _ rfl
   refine Tops_yes rfl rfl (congrArg (fun b => some (Value.bool b)) hg17) (OpT_bin rfl rfl rfl rfl rfl (bin_eql_i (a := i32 packed2.1.Desc.Len) (b := len packed1.1))) ?_
   rintro _ rfl
   refine Tops_step rfl (OpT_pickT rfl rfl rfl (congrArg (fun b => some (Value.bool b)) hg17) rfl) ?_
   refine Tops_step rfl (OpT_move rfl rfl rfl rfl) ?_
   obtain ⟨hg18, h⟩ := chk_e h
   refine Tops_yes rfl rfl (congrArg (fun b => some (Value.bool b)) hg18) (OpT_fieldC rfl rfl rfl rfl fldF46x1) ?_
   rintro _ rfl
   refine Tops_yes rfl rfl (congrArg (fun b => some (Value.bool b)) hg18) (OpT_fieldC rfl rfl rfl rfl fldF44x2) ?_
   rintro _ rfl
   refine Tops_yes rfl rfl (congrArg (fun b => some (Value.bool b)) hg18) (OpT_loadC rfl rfl rfl rfl tyF36 (i := 4) rfl rfl) ?_
   rintro _ rfl
   refine Tops_yes rfl rfl (congrArg (fun b => some (Value.bool b)) hg18) (OpT_cnv rfl rfl rfl rfl (cnv_u16_i (n := packed2.1.Desc.ID) Try.underlying36 Try.underlying3)) ?_
   rintro _ rfl
   refine Tops_yes rfl rfl (congrArg (fun b => some (Value.bool b)) hg18) (OpT_move rfl rfl rfl rfl) ?_
   rintro _ rfl
   refine Tops_yes rfl rfl (congrArg (fun b => some (Value.bool b)) hg18) (OpT_bin rfl rfl rfl rfl rfl (bin_eql_i (a := i16 packed2.1.Desc.ID) (b := pick1))) ?_
   rintro _ rfl
   refine Tops_step rfl (OpT_pickT rfl rfl rfl (congrArg (fun b => some (Value.bool b)) hg18) rfl) ?_
   refine Tops_step rfl (OpT_move rfl rfl rfl rfl) ?_
   obtain ⟨hg19, h⟩ := chk_e h
   refine Tops_yes rfl rfl (congrArg (fun b => some (Value.bool b)) hg19) (OpT_fieldC rfl rfl rfl rfl fldF46x1) ?_
   rintro _ rfl
   refine Tops_yes rfl rfl (congrArg (fun b => some (Value.bool b)) hg19) (OpT_fieldC rfl rfl rfl rfl fldF44x3) ?_
   rintro _ rfl
   refine Tops_yes rfl rfl (congrArg (fun b => some (Value.bool b)) hg19) (OpT_loadC rfl rfl rfl rfl tyF36 (i := 4) rfl rfl) ?_
   rintro _ rfl
   refine Tops_yes rfl rfl (congrArg (fun b => some (Value.bool b)) hg19) (OpT_bin rfl rfl rfl rfl rfl (bin_and_u16 (a := packed2.1.Desc.Flags) (b := (7 : UInt16)))) ?_
   rintro _ rfl
   refine Tops_yes rfl rfl (congrArg (fun b => some (Value.bool b)) hg19) (OpT_bin rfl rfl rfl rfl rfl (bin_eql_u16 (a := packed2.1.Desc.Flags &&& (7 : UInt16)) (b := (4 : UInt16)))) ?_
   rintro _ rfl
   refine Tops_step rfl (OpT_pickT rfl rfl rfl (congrArg (fun b => some (Value.bool b)) hg19) rfl) ?_
   refine Tops_step rfl (OpT_move rfl rfl rfl rfl) ?_
   obtain ⟨hg20, h⟩ := chk_e h
   refine Tops_yes rfl rfl (congrArg (fun b => some (Value.bool b)) hg20) (OpT_fieldC rfl rfl rfl rfl fldF46x1) ?_
   rintro _ rfl
   refine Tops_yes rfl rfl (congrArg (fun b => some (Value.bool b)) hg20) (OpT_fieldC rfl rfl rfl rfl fldF44x3) ?_
   rintro _ rfl
   refine Tops_yes rfl rfl (congrArg (fun b => some (Value.bool b)) hg20) (OpT_loadC rfl rfl rfl rfl tyF36 (i := 4) rfl rfl) ?_
   rintro _ rfl
   refine Tops_yes rfl rfl (congrArg (fun b => some (Value.bool b)) hg20) (OpT_move rfl rfl rfl rfl) ?_
   rintro _ rfl
   obtain ⟨avail1, hx10, h⟩ := ob_e h
   refine Tops_yes rfl rfl (congrArg (fun b => some (Value.bool b)) hg20) (OpT_call (w_ref_Avail03 hx10) [] [] rfl rfl rfl rfl rfl callee19 rfl rfl rfl rfl) ?_
   rintro _ ⟨_, _, _, ⟨rfl, rfl, rfl⟩, rfl⟩
   refine Tops_step rfl (OpT_pickT rfl rfl rfl (congrArg (fun b => some (Value.bool b)) hg20) rfl) ?_
   refine Tops_step rfl (OpT_assign rfl rfl rfl rfl) ?_
   refine Tops_nil (Tk_wkS (fr' := [(10, some (vB avail1))]) (own' := []) (shr' := []) [10] [] [] rfl rfl rfl rfl ?_)
   obtain ⟨hg21, h⟩ := chk_e h
   exact Tk_retV rfl rfl (resA (vs := [.bool true]) rfl ⟨(congrArg (fun b => some (Value.bool b)) hg21), trivial⟩) [] [] rfl rfl rfl ⟨rfl, rfl, rfl⟩
end Go.Proofs.Ytihcimjfabdafaa
