/- The law WalkEnds is walked: it returns what its plain words say. No condition. -/
import Derived.Test.YtlofegfaphijpaaWa7
namespace Go.Proofs.Ytlofegfaphijpaa
attribute [local irreducible] sub

set_option maxRecDepth 100000 in
set_option maxHeartbeats 4000000 in
theorem w_law10zWalkEnds {size : Int} {l : List dumbwaiterlaw10_Spot} {raw : List UInt8} {atp3 : Int} {head : Int} {pp5 : Pos} {vl1 : Value} {vraw1 : Value}  (h : law10zWalkEnds size l raw atp3 head pp5 = some true) :
  Ctr Try.prog 6 #[vI size, vl1, vraw1, vI atp3, vI head, .agg #[vI pp5.At, vB pp5.Wrap]] [] [Fact.sl dumbwaiterlaw10_SpotS vl1 l, Fact.sl u8S vraw1 raw]
   (fun rv own shr => rv = .bool true ∧ own = [] ∧ shr = []) := by
 unfold law10zWalkEnds at h
 refine Ctr.mk (args := [vI size, vl1, vraw1, vI atp3, vI head, .agg #[vI pp5.At, vB pp5.Wrap]]) Try.func6 rfl rfl (fun R0 w0 B => ?_)
 refine Tk_seq (Tk_region (Tops_ex rfl (OpT_box rfl rfl rfl rfl) fun b1 => ?_))
 refine Tops_step rfl (OpT_assign rfl rfl rfl rfl) ?_
 refine Tops_nil (tZ [0, 1, 2, 3, 4, 11] [0] [0, 1] rfl rfl rfl rfl ?_)
 refine Tk_seq (Tk_seq (Tk_region ?_))
 obtain ⟨lives1, hx1, h⟩ := ob_e h
 refine Tops_exP rfl (OpT_call (w_law10zlives hx1) [] [] rfl rfl rfl rfl rfl callee8 rfl rfl rfl rfl) ?_
 rintro _ ⟨_, _, _, ⟨rfl, rfl, rfl⟩, rfl⟩
 refine Tops_step rfl (OpT_not rfl rfl rfl rfl) ?_
 refine Tops_nil (tZ [0, 1, 2, 3, 4, 11, 32] [0] [0, 1] rfl rfl rfl rfl ?_)
 obtain ⟨hg1, h⟩ := chk_e h
 replace hg1 := not_t hg1
 refine Tk_condF (congrArg (fun b => some (Value.bool b)) hg1) ?_
 refine Tk_skip (Tk_seq (Tk_seq (Tk_region (Tops_step rfl (OpT_move rfl rfl rfl rfl) ?_))))
 refine Tops_step rfl (OpT_lenS rfl rfl rfl rfl Try.underlying62 (i := 0) rfl) ?_
 refine Tops_step rfl (OpT_bin rfl rfl rfl rfl rfl (bin_gtr_i (a := len l) (b := (40 : Int)))) ?_
 refine Tops_step rfl (OpT_move rfl rfl rfl rfl) ?_
 rcases Bool.eq_false_or_eq_true (decide ((len l) > (40 : Int))) with hg2 | hg2
 ·replace h := br_t hg2 h
  refine Tops_no rfl rfl (congrArg (fun b => some (Value.bool b)) hg2) rfl rfl ?_
  refine Tops_no rfl rfl (congrArg (fun b => some (Value.bool b)) hg2) rfl rfl ?_
  refine Tops_no rfl rfl (congrArg (fun b => some (Value.bool b)) hg2) rfl rfl ?_
  refine Tops_step rfl (OpT_pickT rfl rfl rfl (congrArg (fun b => some (Value.bool b)) hg2) rfl) ?_
  refine Tops_nil (tZ [0, 1, 2, 3, 4, 11, 40] [0] [0, 1] rfl rfl rfl rfl ?_)
  refine Tk_condT rfl ?_
  refine Tk_seq (Tk_region (Tops_step rfl (OpT_assign rfl rfl rfl rfl) ?_))
  refine Tops_nil (tZ [12] [] [] rfl rfl rfl rfl ?_)
  exact Tk_retV rfl rfl (resA (vs := [.bool true]) rfl ⟨rfl, trivial⟩) [] [] rfl rfl rfl ⟨rfl, rfl, rfl⟩
 ·replace h := br_f hg2 h
  refine Tops_yes rfl rfl (congrArg (fun b => some (Value.bool b)) hg2) (OpT_move rfl rfl rfl rfl) ?_
  rintro _ rfl
  refine Tops_yes rfl rfl (congrArg (fun b => some (Value.bool b)) hg2) (OpT_lenS rfl rfl rfl rfl Try.underlying39 (i := 1) rfl) ?_
  rintro _ rfl
  refine Tops_yes rfl rfl (congrArg (fun b => some (Value.bool b)) hg2) (OpT_bin rfl rfl rfl rfl rfl (bin_gtr_i (a := len raw) (b := (12000 : Int)))) ?_
  rintro _ rfl
  refine Tops_step rfl (OpT_pickF rfl rfl rfl (congrArg (fun b => some (Value.bool b)) hg2) rfl) ?_
  refine Tops_nil (tZ [0, 1, 2, 3, 4, 11, 40] [0] [0, 1] rfl rfl rfl rfl ?_)
  rcases Bool.eq_false_or_eq_true (decide ((len raw) > (12000 : Int))) with hg3 | hg3
  ·replace h := br_t hg3 h
   refine Tk_condT (congrArg (fun b => some (Value.bool b)) hg3) ?_
   refine Tk_seq (Tk_region (Tops_step rfl (OpT_assign rfl rfl rfl rfl) ?_))
   refine Tops_nil (tZ [12] [] [] rfl rfl rfl rfl ?_)
   exact Tk_retV rfl rfl (resA (vs := [.bool true]) rfl ⟨rfl, trivial⟩) [] [] rfl rfl rfl ⟨rfl, rfl, rfl⟩
  ·replace h := br_f hg3 h
   refine Tk_condF (congrArg (fun b => some (Value.bool b)) hg3) ?_
   refine Tk_skip (Tk_seq (Tk_region (Tops_step rfl (OpT_move rfl rfl rfl rfl) ?_)))
   obtain ⟨pick1, hx2, h⟩ := ob_e h
   refine Tops_exP rfl (OpT_call (w_kit_Pick hx2) [] [] rfl rfl rfl rfl rfl callee9 rfl rfl rfl rfl) ?_
   rintro _ ⟨_, _, _, ⟨rfl, rfl, rfl⟩, rfl⟩
   refine Tops_step rfl (OpT_cnv rfl rfl rfl rfl (cnv_i_u64 (n := pick1) Try.underlying3 Try.underlying23)) ?_
   refine Tops_step rfl (OpT_bin rfl rfl rfl rfl rfl (bin_shl_i_u64 (a := (1 : Int)) (n := u64 pick1))) ?_
   refine Tops_step rfl (OpT_assign rfl rfl rfl rfl) ?_
   refine Tops_nil (tZ [1, 2, 3, 4, 11, 13] [0] [0, 1] rfl rfl rfl rfl ?_)
   refine Tk_seq (Tk_seq (Tk_region (Tops_ex rfl (OpT_buildSlice (S := bS) (xs := [false, true]) (css := [[vB false], [vB true]]) (cs := [vB false, vB true]) (e := 4) rfl rfl rfl rfl (bldF slF68 (by decide) (by kernel_rfl)) rfl rfl rfl rfl (rel_plainD (S := bS) (xs := [false, true]) (css := [[vB false], [vB true]]) rfl rfl)) fun v1 => ?_)))
   refine Tops_step rfl (OpT_lenO rfl rfl rfl rfl Try.underlying68 (i := 1) rfl) ?_
   refine Tops_step rfl (OpT_move rfl rfl rfl rfl) ?_
   refine Tops_nil (Tk_block (Tk_loopS (σ := Pos × (List Bool) × Int × Value) [1, 2, 3, 4, 11, 13, 45, 46, 47] [0, 1] [0, 1] (fun s => ⟨[(1, some (vl1)), (2, some (vraw1)), (3, some (vI atp3)), (4, some (vI head)), (11, some (.pointer (some ⟨b1, 0, none⟩))), (13, some (vI (shli (1 : Int) ((u64 pick1).toNat)))), (45, some (s.2.2.2)), (46, some (vI (len [false, true]))), (47, some (vI s.2.2.1))], [some (cellsR b1 60 [vI s.1.At, vB s.1.Wrap]), some (rowS bS s.2.2.2 s.2.1)], [Fact.sl dumbwaiterlaw10_SpotS vl1 l, Fact.sl u8S vraw1 raw]⟩) (fun nf1 s => law10zWalkEndsL1 l raw atp3 head pick1 nf1 s.1 s.2.1 s.2.2.1 = some true) fuel (pp5, [false, true], (0 : Int), v1) h rfl rfl rfl rfl rfl (fun s h => by cases h) ?_))
   rintro nf1 ⟨m1, l1, x1, v2⟩ h
   replace h : law10zWalkEndsL1B l raw atp3 head pick1 (law10zWalkEndsL1 l raw atp3 head pick1 nf1) m1 l1 x1 = some true := h
   unfold law10zWalkEndsL1B at h
   refine Tk_seq (Tk_region (Tops_step rfl (OpT_bin rfl rfl rfl rfl rfl (bin_lss_i (a := x1) (b := len [false, true]))) ?_))
   refine Tops_nil (Tk_seq ?_)
   rcases Bool.eq_false_or_eq_true (decide (x1 < (len [false, true]))) with hg4 | hg4
   ·replace h := br_t hg4 h
    refine Tk_condT (congrArg (fun b => some (Value.bool b)) hg4) ?_
    refine Tk_skip (Tk_seq (Tk_block (Tk_seq (Tk_region ?_))))
    obtain ⟨y1, hx3, h⟩ := ob_e h
    refine Tops_step rfl (OpT_idxO rfl rfl rfl rfl rfl slF68 (i := 1) rfl hx3) ?_
    refine Tops_step rfl (OpT_loadO (S := bS) rfl rfl rfl rfl rfl tyF4 (i := 1) rfl hx3 rfl rfl) ?_
    refine Tops_step rfl (OpT_assign rfl rfl rfl rfl) ?_
    refine Tops_nil (tZ [1, 2, 3, 4, 11, 13, 45, 46, 47, 15] [0, 1] [0, 1] rfl rfl rfl rfl ?_)
    refine Tk_seq (Tk_region (Tops_step rfl (OpT_move rfl rfl rfl rfl) ?_))
    refine Tops_step rfl (OpT_move rfl rfl rfl rfl) ?_
    refine Tops_step rfl (OpT_move rfl rfl rfl rfl) ?_
    obtain ⟨laid1, hx4, h⟩ := ob_e h
    refine Tops_exP rfl (OpT_call (w_law10zlaid hx4) [] [0] rfl rfl rfl rfl rfl callee10 rfl rfl rfl rfl) ?_
    rintro _ ⟨_, _, _, ⟨v3, v4, rfl, rfl, rfl⟩, rfl⟩
    refine Tops_step rfl (OpT_move rfl rfl rfl rfl) ?_
    refine Tops_step rfl (OpT_extract rfl rfl rfl rfl rfl) ?_
    refine Tops_step rfl (OpT_extract rfl rfl rfl rfl rfl) ?_
    refine Tops_step rfl (OpT_extract rfl rfl rfl rfl rfl) ?_
    refine Tops_step rfl (OpT_extract rfl rfl rfl rfl rfl) ?_
    refine Tops_ex rfl (OpT_alloc rfl rfl rfl tyZ29) fun b2 => ?_
    refine Tops_step rfl (OpT_assign rfl rfl rfl rfl) ?_
    refine Tops_step rfl (OpT_assign rfl rfl rfl rfl) ?_
    refine Tops_step rfl (OpT_storeC (cs' := [vB laid1.2.2.1.Packed, vI laid1.2.2.1.Size, vU64 laid1.2.2.1.Desc, vU64 laid1.2.2.1.Driver, vU64 laid1.2.2.1.Device]) rfl rfl rfl rfl tyF29 (i := 4) rfl rfl rfl (one_of rfl) rfl) ?_
    refine Tops_step rfl (OpT_assign rfl rfl rfl rfl) ?_
    refine Tops_nil (tZ [1, 2, 3, 4, 11, 13, 45, 46, 47, 15, 18, 16, 19] [0, 1, 2, 4] [0, 1] rfl rfl rfl rfl ?_)
    rcases onO_cases h with ⟨ho1, h⟩ | ⟨mem1, ho1, h⟩
    ·cases h
    ·refine Tk_optS (i := 2) rfl ho1 ?_
     rintro b3 v5 v6 vs1 rfl
     refine Tk_seq (Tk_seq (Tk_region (Tops_step rfl (OpT_move rfl rfl rfl rfl) ?_)))
     refine Tops_step rfl (OpT_not rfl rfl rfl rfl) ?_
     refine Tops_nil (tZ [1, 2, 3, 4, 11, 13, 45, 46, 47, 15, 18, 16, 61] [0, 1, 2, 3, 4] [0, 1, 2] rfl rfl rfl rfl ?_)
     obtain ⟨hg5, h⟩ := chk_e h
     replace hg5 := not_t hg5
     refine Tk_condF (congrArg (fun b => some (Value.bool b)) hg5) ?_
     refine Tk_skip (Tk_seq (Tk_region (Tops_step rfl (OpT_move rfl rfl rfl rfl) ?_)))
     refine Tops_step rfl (OpT_move rfl rfl rfl rfl) ?_
     refine Tops_step rfl (OpT_move rfl rfl rfl rfl) ?_
     refine Tops_step rfl (OpT_lenS rfl rfl rfl rfl Try.underlying39 (i := 1) rfl) ?_
     refine Tops_step rfl (OpT_bin rfl rfl rfl rfl rfl (bin_sub_i (a := (12000 : Int)) (b := len raw))) ?_
     refine Tops_step rfl (OpT_bin rfl rfl rfl rfl rfl (bin_add_i (a := wi ((12000 : Int) - (len raw))) (b := (1 : Int)))) ?_
     obtain ⟨pick2, hx5, h⟩ := ob_e h
     refine Tops_exP rfl (OpT_call (w_kit_Pick hx5) [] [] rfl rfl rfl rfl rfl callee9 rfl rfl rfl rfl) ?_
     rintro _ ⟨_, _, _, ⟨rfl, rfl, rfl⟩, rfl⟩
     refine Tops_step rfl (OpT_cnv rfl rfl rfl rfl (cnv_i_u64 (n := pick2) Try.underlying3 Try.underlying27)) ?_
     refine Tops_step rfl (OpT_move rfl rfl rfl rfl) ?_
     obtain ⟨own1, hx6, h⟩ := ob_e h
     refine Tops_exP rfl (OpT_call (w_kit_Own hx6) [] [1] rfl rfl rfl rfl rfl callee23 rfl rfl rfl rfl) ?_
     rintro _ ⟨v7, _, _, ⟨_, rfl, rfl, rfl⟩, rfl⟩
     obtain ⟨write1, hx7, h⟩ := ob_e h
     refine Tops_exP rfl (OpT_callB [5] [0, 1, 6, 3, 7, 5] (w_gmem_Mem_Write hx7) [2, 4] rfl rfl rfl rfl rfl callee11 rfl rfl rfl rfl rfl rfl (bor_cons (bor_shr 2 rfl) (bor_cons (bor_row 5 rfl rfl) bor_nil)) (by rintro _ _ _ ⟨rfl, rfl, rfl⟩; exact ⟨rfl, (ri_cons (ri_cells _ _ _) (ri_cons (ri_rows rfl _ _ _ _ _) ri_nil))⟩)) ?_
     rintro _ ⟨_, _, _, ⟨rfl, rfl, rfl⟩, rfl⟩
     refine Tops_nil (tZ [1, 2, 3, 4, 11, 13, 45, 46, 47, 15, 18, 16] [0, 1, 2, 3, 4] [0, 1, 2] rfl rfl rfl rfl ?_)
     refine Tk_seq (Tk_region (Tops_step rfl (OpT_move rfl rfl rfl rfl) ?_))
     obtain ⟨image1, hx8, h⟩ := ob_e h
     refine Tops_exP rfl (OpT_callP [0, 1, 5, 3, 6, 7] (w_gmem_Mem_Image hx8) [2, 4] [2] rfl rfl rfl rfl rfl callee24 rfl rfl rfl rfl rfl) ?_
     rintro _ ⟨v8, _, _, ⟨_, rfl, rfl, rfl⟩, rfl⟩
     refine Tops_retire (i := 5) rfl ?_
     refine Tops_step rfl (OpT_strS rfl rfl rfl rfl Try.underlying39 Try.underlying5 Try.underlying9 (i := 3) rfl) ?_
     refine Tops_step rfl (OpT_assign rfl rfl rfl rfl) ?_
     refine Tops_nil (tZ [1, 2, 3, 4, 11, 13, 45, 46, 47, 15, 18, 16, 20] [0, 1, 2, 3, 4] [0, 1, 2] rfl rfl rfl rfl ?_)
     refine Tk_seq (Tk_region (Tops_step rfl (OpT_assign rfl rfl rfl rfl) ?_))
     refine Tops_step rfl (OpT_assign rfl rfl rfl rfl) ?_
     refine Tops_nil (tZ [1, 2, 3, 4, 11, 13, 45, 46, 47, 15, 18, 16, 20] [0, 1, 2, 3, 4] [0, 1, 2] rfl rfl rfl rfl ?_)
     refine Tk_seq (Tk_region (Tops_step rfl (OpT_assign rfl rfl rfl rfl) ?_))
     refine Tops_step rfl (OpT_assign rfl rfl rfl rfl) ?_
     refine Tops_nil (tZ [1, 2, 3, 4, 11, 13, 45, 46, 47, 15, 18, 16, 20] [0, 1, 2, 3, 4] [0, 1, 2] rfl rfl rfl rfl ?_)
     refine Tk_seq (Tk_seq (Tk_region (Tops_step rfl (OpT_move rfl rfl rfl rfl) ?_)))
     refine Tops_nil (tZ [1, 2, 3, 4, 11, 13, 45, 46, 47, 18, 16, 20, 76] [0, 1, 2, 3, 4] [0, 1, 2] rfl rfl rfl rfl ?_)
     refine Tk_join (α := Pos × (List Bool) × (List Seg) × (List Seg) × Int × Int × Value × Value × Value) (fun s => ⟨[(1, some (vl1)), (2, some (vraw1)), (3, some (vI atp3)), (4, some (vI head)), (11, some (.pointer (some ⟨b1, 0, none⟩))), (13, some (vI (shli (1 : Int) ((u64 pick1).toNat)))), (45, some (s.2.2.2.2.2.2.1)), (46, some (vI (len [false, true]))), (47, some (vI x1)), (16, some (.pointer (some ⟨b3, 0, none⟩))), (20, some (vS image1)), (21, some (s.2.2.2.2.2.2.2.1)), (22, some (s.2.2.2.2.2.2.2.2)), (23, some (vI s.2.2.2.2.1)), (24, some (vI s.2.2.2.2.2.1))], [some (cellsR b1 60 [vI s.1.At, vB s.1.Wrap]), some (rowS bS s.2.2.2.2.2.2.1 s.2.1), some (cellsR b3 113 [v5, v6]), some (rowsX u8S true v6 vs1 write1.2 none)], [Fact.sl dumbwaiterlaw10_SpotS vl1 l, Fact.sl u8S vraw1 raw, Fact.sl RegionS v5 mem1.l, Fact.sl SegS s.2.2.2.2.2.2.2.1 s.2.2.1, Fact.sl SegS s.2.2.2.2.2.2.2.2 s.2.2.2.1]⟩) (fun s => law10zWalkEndsJ2 x1 (law10zWalkEndsL1 l raw atp3 head pick1 nf1) mem1 write1 image1 s.1 s.2.1 s.2.2.1 s.2.2.2.1 s.2.2.2.2.1 s.2.2.2.2.2.1 = some true) ?_ ?_
     ·rintro ⟨m2, l2, x2, y2, e1, f1, v9, v10, v11⟩ h
      replace h : law10zWalkEndsJ2 x1 (law10zWalkEndsL1 l raw atp3 head pick1 nf1) mem1 write1 image1 m2 l2 x2 y2 e1 f1 = some true := h
      unfold law10zWalkEndsJ2 at h
      refine Tk_seq (Tk_seq (Tk_region (Tops_step rfl (OpT_move rfl rfl rfl rfl) ?_)))
      refine Tops_step rfl (OpT_move rfl rfl rfl rfl) ?_
      obtain ⟨samese1, hx9, h⟩ := ob_e h
      refine Tops_exP rfl (OpT_call (w_kit_SameSegs hx9) [] [3, 4] rfl rfl rfl rfl rfl callee18 rfl rfl rfl rfl) ?_
      rintro _ ⟨_, _, _, ⟨rfl, rfl, rfl⟩, rfl⟩
      refine Tops_step rfl (OpT_not rfl rfl rfl rfl) ?_
      refine Tops_step rfl (OpT_move rfl rfl rfl rfl) ?_
      obtain ⟨hg6, h⟩ := chk_e h
      replace hg6 := not_t hg6
      refine Tops_yes rfl rfl (congrArg (fun b => some (Value.bool b)) hg6) (OpT_move rfl rfl rfl rfl) ?_
      rintro _ rfl
      refine Tops_yes rfl rfl (congrArg (fun b => some (Value.bool b)) hg6) (OpT_move rfl rfl rfl rfl) ?_
      rintro _ rfl
      refine Tops_yes rfl rfl (congrArg (fun b => some (Value.bool b)) hg6) (OpT_bin rfl rfl rfl rfl rfl (bin_neq_i (a := e1) (b := f1))) ?_
      rintro _ rfl
      refine Tops_step rfl (OpT_pickF rfl rfl rfl (congrArg (fun b => some (Value.bool b)) hg6) rfl) ?_
      refine Tops_step rfl (OpT_move rfl rfl rfl rfl) ?_
      obtain ⟨hg7, h⟩ := chk_e h
      replace hg7 := not_t hg7
      refine Tops_yes rfl rfl (congrArg (fun b => some (Value.bool b)) hg7) (OpT_move rfl rfl rfl rfl) ?_
      rintro _ rfl
      obtain ⟨image2, hx10, h⟩ := ob_e h
      refine Tops_yes rfl rfl (congrArg (fun b => some (Value.bool b)) hg7) (OpT_callP [0, 1, 4, 5, 6] (w_gmem_Mem_Image hx10) [2, 3] [2] rfl rfl rfl rfl rfl callee24 rfl rfl rfl rfl rfl) ?_
      rintro _ ⟨v12, _, _, ⟨_, rfl, rfl, rfl⟩, rfl⟩
      refine Tops_retire (i := 4) rfl ?_
      refine Tops_yes rfl rfl (congrArg (fun b => some (Value.bool b)) hg7) (OpT_strS rfl rfl rfl rfl Try.underlying39 Try.underlying5 Try.underlying9 (i := 5) rfl) ?_
      rintro _ rfl
      refine Tops_yes rfl rfl (congrArg (fun b => some (Value.bool b)) hg7) (OpT_move rfl rfl rfl rfl) ?_
      rintro _ rfl
      refine Tops_yes rfl rfl (congrArg (fun b => some (Value.bool b)) hg7) (OpT_bin rfl rfl rfl rfl rfl (bin_neq_s (a := image2) (b := image1))) ?_
      rintro _ rfl
      refine Tops_step rfl (OpT_pickF rfl rfl rfl (congrArg (fun b => some (Value.bool b)) hg7) rfl) ?_
      refine Tops_step rfl (OpT_move rfl rfl rfl rfl) ?_
      obtain ⟨hg8, h⟩ := chk_e h
      replace hg8 := not_t hg8
      refine Tops_yes rfl rfl (congrArg (fun b => some (Value.bool b)) hg8) (OpT_move rfl rfl rfl rfl) ?_
      rintro _ rfl
      refine Tops_yes rfl rfl (congrArg (fun b => some (Value.bool b)) hg8) (OpT_bin rfl rfl rfl rfl rfl (bin_eql_i (a := e1) (b := (0 : Int)))) ?_
      rintro _ rfl
      refine Tops_yes rfl rfl (congrArg (fun b => some (Value.bool b)) hg8) (OpT_move rfl rfl rfl rfl) ?_
      rintro _ rfl
      obtain ⟨needs1, hx11, h⟩ := ob_e h
      refine Tops_yes rfl rfl (congrArg (fun b => some (Value.bool b)) hg8) (OpT_call (w_ref_Needs09 hx11) [] [3] rfl rfl rfl rfl rfl callee25 rfl rfl rfl rfl) ?_
      rintro _ ⟨_, _, _, ⟨rfl, rfl, rfl⟩, rfl⟩
      refine Tops_yes rfl rfl (congrArg (fun b => some (Value.bool b)) hg8) (OpT_bin rfl rfl rfl rfl rfl (bin_eql_i (a := needs1) (b := (1 : Int)))) ?_
      rintro _ rfl
      refine Tops_yes rfl rfl (congrArg (fun b => some (Value.bool b)) hg8) (OpT_bin rfl rfl rfl rfl rfl (bin_neq_b (a := e1 == (0 : Int)) (b := needs1 == (1 : Int)) Try.underlying4)) ?_
      rintro _ rfl
      refine Tops_step rfl (OpT_pickF rfl rfl rfl (congrArg (fun b => some (Value.bool b)) hg8) rfl) ?_
      refine Tops_nil (tZ [1, 2, 3, 4, 11, 13, 45, 46, 47, 16, 21, 192] [0, 1, 2, 3] [0, 1, 2, 3] rfl rfl rfl rfl ?_)
      obtain ⟨hg9, h⟩ := chk_e h
      replace hg9 := not_t hg9
      refine Tk_condF (congrArg (fun b => some (Value.bool b)) hg9) ?_
      refine Tk_skip (Tk_seq (Tk_region (Tops_step rfl (OpT_assign rfl rfl rfl rfl) ?_)))
      refine Tops_nil (tZ [1, 2, 3, 4, 11, 13, 45, 46, 47, 16, 21, 30] [0, 1, 2, 3] [0, 1, 2, 3] rfl rfl rfl rfl ?_)
      refine Tk_block (Tk_loopS (σ := Int) [1, 2, 3, 4, 11, 13, 45, 46, 47, 16, 21, 30] [0, 1, 2, 3] [0, 1, 2, 3] (fun s => ⟨[(1, some (vl1)), (2, some (vraw1)), (3, some (vI atp3)), (4, some (vI head)), (11, some (.pointer (some ⟨b1, 0, none⟩))), (13, some (vI (shli (1 : Int) ((u64 pick1).toNat)))), (45, some (v9)), (46, some (vI (len [false, true]))), (47, some (vI x1)), (16, some (.pointer (some ⟨b3, 0, none⟩))), (21, some (v10)), (30, some (vI s))], [some (cellsR b1 60 [vI m2.At, vB m2.Wrap]), some (rowS bS v9 l2), some (cellsR b3 113 [v5, v6]), some (rowsX u8S true v6 vs1 write1.2 none)], [Fact.sl dumbwaiterlaw10_SpotS vl1 l, Fact.sl u8S vraw1 raw, Fact.sl RegionS v5 mem1.l, Fact.sl SegS v10 x2]⟩) (fun nf3 s => law10zWalkEndsL3 x1 (law10zWalkEndsL1 l raw atp3 head pick1 nf1) mem1 write1 m2 l2 x2 nf3 s = some true) fuel (0 : Int) h rfl rfl rfl rfl rfl (fun s h => by cases h) ?_)
      rintro nf3 i1 h
      replace h : law10zWalkEndsL3B x1 (law10zWalkEndsL1 l raw atp3 head pick1 nf1) mem1 write1 m2 l2 x2 (law10zWalkEndsL3 x1 (law10zWalkEndsL1 l raw atp3 head pick1 nf1) mem1 write1 m2 l2 x2 nf3) i1 = some true := h
      unfold law10zWalkEndsL3B at h
      refine Tk_seq (Tk_seq (Tk_region (Tops_step rfl (OpT_move rfl rfl rfl rfl) ?_)))
      refine Tops_step rfl (OpT_move rfl rfl rfl rfl) ?_
      refine Tops_step rfl (OpT_lenS rfl rfl rfl rfl Try.underlying41 (i := 3) rfl) ?_
      refine Tops_step rfl (OpT_bin rfl rfl rfl rfl rfl (bin_lss_i (a := i1) (b := len x2))) ?_
      refine Tops_nil (tZ [1, 2, 3, 4, 11, 13, 45, 46, 47, 16, 21, 30, 196] [0, 1, 2, 3] [0, 1, 2, 3] rfl rfl rfl rfl ?_)
      rcases Bool.eq_false_or_eq_true (decide (i1 < (len x2))) with hg10 | hg10
      ·replace h := br_t hg10 h
       refine Tk_condT (congrArg (fun b => some (Value.bool b)) hg10) ?_
       refine Tk_skip (Tk_seq (Tk_block (Tk_seq (Tk_drawT (by kernel_rfl) ?_))))
       refine TA_tb [0, 0, 0, 6, 14, 30, 0, 0, 192, 448, 960, 1984, 4095, 8191] (by kernel_rfl) fun htb => ?_
       refine aZ [1, 2, 3, 4, 11, 13, 45, 46, 47, 16, 21, 30] [0, 1, 2, 3] [0, 1, 2, 3] rfl rfl rfl rfl ?_
       obtain ⟨s1, hx12, h⟩ := ob_e h
       obtain ⟨s2, hx13, h⟩ := ob_e h
       refine TA_seg (lo := 0) (hi := 12) htb rfl rfl (by kernel_rfl) (fun c L a w => ∃ (p1 : Value), ∃ (p2 : Value), ∃ (p3 : Value), ∃ (p4 : Value), Sat c ⟨[(1, some (vl1)), (2, some (vraw1)), (3, some (vI atp3)), (4, some (vI head)), (11, some (.pointer (some ⟨b1, 0, none⟩))), (13, some (vI (shli (1 : Int) ((u64 pick1).toNat)))), (45, some (v9)), (46, some (vI (len [false, true]))), (47, some (vI x1)), (16, some (.pointer (some ⟨b3, 0, none⟩))), (21, some (v10)), (30, some (vI i1)), (199, bif L 0 then some (.pointer (some ⟨b3, 0, none⟩)) else none), (200, bif L 1 then some (v10) else none), (201, bif L 2 then some (vI i1) else none), (202, bif L 3 then some (p1) else none), (203, bif L 4 then some (p2) else none), (204, bif L 5 then some (vU64 s1.At) else none), (205, bif L 6 then some (v10) else none), (206, bif L 7 then some (vI i1) else none), (207, bif L 8 then some (p3) else none), (208, bif L 9 then some (p4) else none), (209, bif L 10 then some (vU32 s2.Len) else none), (210, bif L 11 then some (vU64 s2.Len.toUInt64) else none)], [(some (cellsR b1 60 [vI m2.At, vB m2.Wrap]) : Option Res), (some (rowS bS v9 l2) : Option Res), (some (cellsR b3 113 [v5, v6]) : Option Res), (some (rowsX u8S true v6 vs1 write1.2 none) : Option Res)], [Fact.sl dumbwaiterlaw10_SpotS vl1 l, Fact.sl u8S vraw1 raw, Fact.sl RegionS v5 mem1.l, Fact.sl SegS v10 x2, (bif L 3 then Fact.pt SegS p1 s1 else Fact.tt), (bif L 4 then Fact.pt u64S p2 s1.At else Fact.tt), (bif L 8 then Fact.pt SegS p3 s2 else Fact.tt), (bif L 9 then Fact.pt u32S p4 s2.Len else Fact.tt)]⟩ a w) [([], []), ([], [3, 4, 5]), ([], [3, 4, 5]), ([1, 2], [4, 5]), ([1, 2, 3], [5]), ([1, 2, 3, 4], []), ([], [8, 9, 10, 11]), ([], [8, 9, 10, 11]), ([6, 7], [9, 10, 11]), ([6, 7, 8], [10, 11]), ([6, 7, 8, 9], [11]), ([6, 7, 8, 9, 10], [])] rfl (by kernel_rfl) ?_ (steps_cons ?_ (steps_cons ?_ (steps_cons ?_ (steps_cons ?_ (steps_cons ?_ (steps_cons ?_ (steps_cons ?_ (steps_cons ?_ (steps_cons ?_ (steps_cons ?_ (steps_cons ?_ (steps_cons ?_ (steps_nil))))))))))))) ?_
       ·intro a w hs
        exact ⟨undef, undef, undef, undef, hs.startF [199, 200, 201, 202, 203, 204, 205, 206, 207, 208, 209, 210] [0, 1, 2, 3] [0, 1, 2, 3, 4, 5, 6, 7] rfl rfl rfl rfl⟩
       ·intro L a w hv K Q hK
        obtain ⟨p1, p2, p3, p4, hs⟩ := hv
        refine wpOp_go rfl rfl hs (OpT_move rfl rfl rfl rfl) ?_
        rintro _ rfl a' w' hs'
        exact hK a' w' ⟨p1, p2, p3, p4, hs'.putF (i := 12) rfl [0, 1, 2, 3] [0, 1, 2, 3, 4, 5, 6, 7] rfl rfl rfl rfl⟩
       ·intro L a w hv K Q hK
        obtain ⟨p1, p2, p3, p4, hs⟩ := hv
        refine wpOp_go rfl rfl hs (OpT_move rfl rfl rfl rfl) ?_
        rintro _ rfl a' w' hs'
        exact hK a' w' ⟨p1, p2, p3, p4, hs'.putF (i := 13) rfl [0, 1, 2, 3] [0, 1, 2, 3, 4, 5, 6, 7] rfl rfl rfl rfl⟩
       ·intro L a w hv K Q hK
        obtain ⟨p1, p2, p3, p4, hs⟩ := hv
        refine wpOp_go rfl rfl hs (OpT_move rfl rfl rfl rfl) ?_
        rintro _ rfl a' w' hs'
        exact hK a' w' ⟨p1, p2, p3, p4, hs'.putF (i := 14) rfl [0, 1, 2, 3] [0, 1, 2, 3, 4, 5, 6, 7] rfl rfl rfl rfl⟩
       ·intro L a w hv K Q hK
        obtain ⟨p1, p2, p3, p4, hs⟩ := hv
        refine wpOp_go rfl rfl hs (OpT_idxS rfl rfl rfl rfl rfl slF41 (i := 3) rfl hx12) ?_
        rintro _ ⟨p1', rfl⟩ a' w' hs'
        exact hK a' w' ⟨p1', p2, p3, p4, hs'.putF (i := 15) rfl [0, 1, 2, 3] [0, 1, 2, 3, 8, 5, 6, 7] rfl rfl rfl rfl⟩
       ·intro L a w hv K Q hK
        obtain ⟨p1, p2, p3, p4, hs⟩ := hv
        refine wpOp_go rfl rfl hs (OpT_fieldP (S' := u64S) (y := s1.At) rfl rfl rfl rfl fldF46x0 (i := 4) rfl (by intro h cs hr; subst hr; rfl)) ?_
        rintro _ ⟨p2', rfl⟩ a' w' hs'
        exact hK a' w' ⟨p1, p2', p3, p4, hs'.putF (i := 16) rfl [0, 1, 2, 3] [0, 1, 2, 3, 4, 8, 6, 7] rfl rfl rfl rfl⟩
       ·intro L a w hv K Q hK
        obtain ⟨p1, p2, p3, p4, hs⟩ := hv
        refine wpOp_go rfl rfl hs (OpT_loadP rfl rfl rfl rfl tyF27 (i := 5) rfl rfl) ?_
        rintro _ rfl a' w' hs'
        exact hK a' w' ⟨p1, p2, p3, p4, hs'.putF (i := 17) rfl [0, 1, 2, 3] [0, 1, 2, 3, 4, 5, 6, 7] rfl rfl rfl rfl⟩
       ·intro L a w hv K Q hK
        obtain ⟨p1, p2, p3, p4, hs⟩ := hv
        refine wpOp_go rfl rfl hs (OpT_move rfl rfl rfl rfl) ?_
        rintro _ rfl a' w' hs'
        exact hK a' w' ⟨p1, p2, p3, p4, hs'.putF (i := 18) rfl [0, 1, 2, 3] [0, 1, 2, 3, 4, 5, 6, 7] rfl rfl rfl rfl⟩
       ·intro L a w hv K Q hK
        obtain ⟨p1, p2, p3, p4, hs⟩ := hv
        refine wpOp_go rfl rfl hs (OpT_move rfl rfl rfl rfl) ?_
        rintro _ rfl a' w' hs'
        exact hK a' w' ⟨p1, p2, p3, p4, hs'.putF (i := 19) rfl [0, 1, 2, 3] [0, 1, 2, 3, 4, 5, 6, 7] rfl rfl rfl rfl⟩
       ·intro L a w hv K Q hK
        obtain ⟨p1, p2, p3, p4, hs⟩ := hv
        refine wpOp_go rfl rfl hs (OpT_idxS rfl rfl rfl rfl rfl slF41 (i := 3) rfl hx13) ?_
        rintro _ ⟨p3', rfl⟩ a' w' hs'
        exact hK a' w' ⟨p1, p2, p3', p4, hs'.putF (i := 20) rfl [0, 1, 2, 3] [0, 1, 2, 3, 4, 5, 8, 7] rfl rfl rfl rfl⟩
       ·intro L a w hv K Q hK
        obtain ⟨p1, p2, p3, p4, hs⟩ := hv
        refine wpOp_go rfl rfl hs (OpT_fieldP (S' := u32S) (y := s2.Len) rfl rfl rfl rfl fldF46x1 (i := 6) rfl (by intro h cs hr; subst hr; rfl)) ?_
        rintro _ ⟨p4', rfl⟩ a' w' hs'
        exact hK a' w' ⟨p1, p2, p3, p4', hs'.putF (i := 21) rfl [0, 1, 2, 3] [0, 1, 2, 3, 4, 5, 6, 8] rfl rfl rfl rfl⟩
       ·intro L a w hv K Q hK
        obtain ⟨p1, p2, p3, p4, hs⟩ := hv
        refine wpOp_go rfl rfl hs (OpT_loadP rfl rfl rfl rfl tyF33 (i := 7) rfl rfl) ?_
        rintro _ rfl a' w' hs'
        exact hK a' w' ⟨p1, p2, p3, p4, hs'.putF (i := 22) rfl [0, 1, 2, 3] [0, 1, 2, 3, 4, 5, 6, 7] rfl rfl rfl rfl⟩
       ·intro L a w hv K Q hK
        obtain ⟨p1, p2, p3, p4, hs⟩ := hv
        refine wpOp_go rfl rfl hs (OpT_cnv rfl rfl rfl rfl (cnv_u32_u64 (n := s2.Len) Try.underlying33 Try.underlying27)) ?_
        rintro _ rfl a' w' hs'
        exact hK a' w' ⟨p1, p2, p3, p4, hs'.putF (i := 23) rfl [0, 1, 2, 3] [0, 1, 2, 3, 4, 5, 6, 7] rfl rfl rfl rfl⟩
       ·intro L a w hL hv
        rw [allTrue hL] at hv
        obtain ⟨p1, p2, p3, p4, hs⟩ := hv
        refine gZ hs [1, 2, 3, 4, 11, 13, 45, 46, 47, 16, 21, 30, 199, 204, 210] [0, 1, 2, 3] [0, 1, 2, 3] rfl rfl rfl rfl ?_
        clear hs hL
        obtain ⟨has1, hx14, h⟩ := ob_e h
        refine TA_exP htb (by kernel_rfl) rfl rfl (OpT_callP [0, 1, 4, 5] (w_gmem_Mem_Has hx14) [2, 3] [2] rfl rfl rfl rfl rfl callee26 rfl rfl rfl rfl rfl) ?_
        rintro _ ⟨_, _, _, ⟨rfl, rfl, rfl⟩, rfl⟩
        refine TA_step htb (by kernel_rfl) rfl rfl (OpT_not rfl rfl rfl rfl) ?_
        refine TA_end rfl ?_
        refine tZ [1, 2, 3, 4, 11, 13, 45, 46, 47, 16, 21, 30, 212] [0, 1, 2, 3] [0, 1, 2, 3] rfl rfl rfl rfl ?_
        obtain ⟨hg11, h⟩ := chk_e h
        replace hg11 := not_t hg11
        refine Tk_condF (congrArg (fun b => some (Value.bool b)) hg11) ?_
        refine Tk_skip (Tk_blk (Tk_region (Tops_step rfl (OpT_move rfl rfl rfl rfl) ?_)))
        refine Tops_step rfl (OpT_bin rfl rfl rfl rfl rfl (bin_add_i (a := i1) (b := (1 : Int)))) ?_
        refine Tops_step rfl (OpT_assign rfl rfl rfl rfl) ?_
        refine Tops_nil (tZ [1, 2, 3, 4, 11, 13, 45, 46, 47, 16, 21, 30] [0, 1, 2, 3] [0, 1, 2, 3] rfl rfl rfl rfl ?_)
        exact Tk_backS (wi (i1 + (1 : Int))) h [1, 2, 3, 4, 11, 13, 45, 46, 47, 16, 21, 30] [0, 1, 2, 3] [0, 1, 2, 3] rfl rfl rfl rfl rfl
      ·replace h := br_f hg10 h
       refine Tk_condF (congrArg (fun b => some (Value.bool b)) hg10) ?_
       refine Tk_exit _ rfl ?_
       refine Tk_blk (Tk_region (Tops_step rfl (OpT_bin rfl rfl rfl rfl rfl (bin_add_i (a := x1) (b := (1 : Int)))) ?_))
       refine Tops_step rfl (OpT_move rfl rfl rfl rfl) ?_
       refine Tops_nil (tZ [1, 2, 3, 4, 11, 13, 45, 46, 47] [0, 1] [0, 1] rfl rfl rfl rfl ?_)
       exact Tk_backS (m2, l2, wi (x1 + (1 : Int)), v9) h [1, 2, 3, 4, 11, 13, 45, 46, 47] [0, 1] [0, 1] rfl rfl rfl rfl rfl
     ·intro HJ1
      rcases Bool.eq_false_or_eq_true (y1) with hg12 | hg12
      ·replace h := br_t hg12 h
       refine Tk_condT (congrArg (fun b => some (Value.bool b)) hg12) ?_
       refine Tk_seq (Tk_region (Tops_step rfl (OpT_move rfl rfl rfl rfl) ?_))
       refine Tops_step rfl (OpT_loadCA (vs := [vB laid1.2.2.1.Packed, vI laid1.2.2.1.Size, vU64 laid1.2.2.1.Desc, vU64 laid1.2.2.1.Driver, vU64 laid1.2.2.1.Device]) rfl rfl rfl rfl tyF29 (i := 3) rfl rfl rfl) ?_
       refine Tops_step rfl (OpT_loadCA (vs := [vI m1.At, vB m1.Wrap]) rfl rfl rfl rfl tyF60 (i := 0) rfl rfl rfl) ?_
       obtain ⟨packed1, hx15, h⟩ := ob_e h
       refine Tops_exP rfl (OpT_callP [0, 1, 5, 3, 6] (w_walk_Packed hx15) [2, 4] [2] rfl rfl rfl rfl rfl callee17 rfl rfl rfl rfl rfl) ?_
       rintro _ ⟨_, _, _, ⟨v13, rfl, rfl, rfl⟩, rfl⟩
       refine Tops_step rfl (OpT_move rfl rfl rfl rfl) ?_
       refine Tops_step rfl (OpT_extract rfl rfl rfl rfl rfl) ?_
       refine Tops_step rfl (OpT_extract rfl rfl rfl rfl rfl) ?_
       refine Tops_ex rfl (OpT_alloc rfl rfl rfl tyZ56) fun b4 => ?_
       refine Tops_step rfl (OpT_storeA1 (fun z0 => [vI packed1.1.ID, vI packed1.1.Count, z0]) (cs' := [vI packed1.1.ID, vI packed1.1.Count, v13]) rfl rfl rfl rfl tyF56 (i := 5) rfl (is_sl (i := 3) rfl) (fun _ _ _ => rfl) rfl rfl rfl) ?_
       refine Tops_step rfl (OpT_assign rfl rfl rfl rfl) ?_
       refine Tops_nil (tZ [1, 2, 3, 4, 11, 13, 45, 46, 47, 18, 16, 20, 25, 26] [0, 1, 2, 3, 4, 5] [0, 1, 2, 3] rfl rfl rfl rfl ?_)
       refine Tk_seq (Tk_region (Tops_step rfl (OpT_move rfl rfl rfl rfl) ?_))
       refine Tops_step rfl (OpT_loadCA (vs := [vB laid1.2.2.1.Packed, vI laid1.2.2.1.Size, vU64 laid1.2.2.1.Desc, vU64 laid1.2.2.1.Driver, vU64 laid1.2.2.1.Device]) rfl rfl rfl rfl tyF29 (i := 3) rfl rfl rfl) ?_
       refine Tops_step rfl (OpT_loadCA (vs := [vI m1.At, vB m1.Wrap]) rfl rfl rfl rfl tyF60 (i := 0) rfl rfl rfl) ?_
       obtain ⟨packed2, hx16, h⟩ := ob_e h
       refine Tops_exP rfl (OpT_callP [0, 1, 6, 3, 7, 5] (w_walk_Packed hx16) [2, 4] [2] rfl rfl rfl rfl rfl callee17 rfl rfl rfl rfl rfl) ?_
       rintro _ ⟨_, _, _, ⟨v14, rfl, rfl, rfl⟩, rfl⟩
       refine Tops_step rfl (OpT_move rfl rfl rfl rfl) ?_
       refine Tops_step rfl (OpT_extract rfl rfl rfl rfl rfl) ?_
       refine Tops_step rfl (OpT_extract rfl rfl rfl rfl rfl) ?_
       refine Tops_ex rfl (OpT_alloc rfl rfl rfl tyZ56) fun b5 => ?_
       refine Tops_step rfl (OpT_storeA1 (fun z0 => [vI packed2.1.ID, vI packed2.1.Count, z0]) (cs' := [vI packed2.1.ID, vI packed2.1.Count, v14]) rfl rfl rfl rfl tyF56 (i := 6) rfl (is_sl (i := 4) rfl) (fun _ _ _ => rfl) rfl rfl rfl) ?_
       refine Tops_step rfl (OpT_assign rfl rfl rfl rfl) ?_
       refine Tops_nil (tZ [1, 2, 3, 4, 11, 13, 45, 46, 47, 16, 20, 25, 26, 27, 28] [0, 1, 2, 4, 5, 6] [0, 1, 2, 3, 4] rfl rfl rfl rfl ?_)
       refine Tk_seq (Tk_drawT (by kernel_rfl) ?_)
       refine TA_tb [0, 1, 0, 0, 8, 0, 3, 71, 223, 511] (by kernel_rfl) fun htb => ?_
       refine TA_seg (lo := 0) (hi := 9) htb rfl rfl (by kernel_rfl) (fun c L a w => Sat c ⟨[(1, some (vl1)), (2, some (vraw1)), (3, some (vI atp3)), (4, some (vI head)), (11, some (.pointer (some ⟨b1, 0, none⟩))), (13, some (vI (shli (1 : Int) ((u64 pick1).toNat)))), (45, some (v2)), (46, some (vI (len [false, true]))), (47, some (vI x1)), (16, some (.pointer (some ⟨b3, 0, none⟩))), (20, some (vS image1)), (25, some (.pointer (some ⟨b4, 0, none⟩))), (26, some (vI packed1.2)), (27, some (.pointer (some ⟨b5, 0, none⟩))), (28, some (vI packed2.2)), (91, bif L 0 then some (.pointer (some ⟨b4, 2, none⟩)) else none), (92, bif L 1 then some (v13) else none), (93, bif L 2 then some (vI packed1.2) else none), (94, bif L 3 then some (.pointer (some ⟨b5, 2, none⟩)) else none), (95, bif L 4 then some (v14) else none), (96, bif L 5 then some (vI packed2.2) else none), (21, bif L 6 then some (v13) else none), (23, bif L 7 then some (vI packed1.2) else none), (22, bif L 8 then some (v14) else none)], [(some (cellsR b1 60 [vI m1.At, vB m1.Wrap]) : Option Res), (some (rowS bS v2 l1) : Option Res), (some (cellsR b3 113 [v5, v6]) : Option Res), (some (rowsX u8S true v6 vs1 write1.2 none) : Option Res), (some (cellsR b4 56 [vI packed1.1.ID, vI packed1.1.Count, v13]) : Option Res), (some (cellsR b5 56 [vI packed2.1.ID, vI packed2.1.Count, v14]) : Option Res)], [Fact.sl dumbwaiterlaw10_SpotS vl1 l, Fact.sl u8S vraw1 raw, Fact.sl RegionS v5 mem1.l, Fact.sl SegS v13 packed1.1.Segs, Fact.sl SegS v14 packed2.1.Segs]⟩ a w) [([], [1, 6, 7, 8]), ([0], [6, 7, 8]), ([], [7, 8]), ([], [4, 8]), ([3], [8]), ([], []), ([0, 1], [7, 8]), ([0, 1, 2, 6], [8]), ([0, 1, 2, 3, 4, 6, 7], [])] rfl (by kernel_rfl) ?_ (steps_cons ?_ (steps_cons ?_ (steps_cons ?_ (steps_cons ?_ (steps_cons ?_ (steps_cons ?_ (steps_cons ?_ (steps_cons ?_ (steps_cons ?_ (steps_nil)))))))))) ?_
       ·intro a w hs
        exact hs.startF [91, 92, 93, 94, 95, 96, 21, 23, 22] [0, 1, 2, 3, 4, 5] [0, 1, 2, 3, 4] rfl rfl rfl rfl
       ·intro L a w hv K Q hK
        have hs := hv
        refine wpOp_go rfl rfl hs (OpT_fieldC rfl rfl rfl rfl fldF56x2) ?_
        rintro _ rfl a' w' hs'
        exact hK a' w' (hs'.putF (i := 15) rfl [0, 1, 2, 3, 4, 5] [0, 1, 2, 3, 4] rfl rfl rfl rfl)
       ·intro L a w hv K Q hK
        have hs := hv
        refine wpOp_go rfl rfl hs (OpT_loadC rfl rfl rfl rfl tyF41 (i := 4) rfl rfl) ?_
        rintro _ rfl a' w' hs'
        exact hK a' w' (hs'.putF (i := 16) rfl [0, 1, 2, 3, 4, 5] [0, 1, 2, 3, 4] rfl rfl rfl rfl)
       ·intro L a w hv K Q hK
        have hs := hv
        refine wpOp_go rfl rfl hs (OpT_move rfl rfl rfl rfl) ?_
        rintro _ rfl a' w' hs'
        exact hK a' w' (hs'.putF (i := 17) rfl [0, 1, 2, 3, 4, 5] [0, 1, 2, 3, 4] rfl rfl rfl rfl)
       ·intro L a w hv K Q hK
        have hs := hv
        refine wpOp_go rfl rfl hs (OpT_fieldC rfl rfl rfl rfl fldF56x2) ?_
        rintro _ rfl a' w' hs'
        exact hK a' w' (hs'.putF (i := 18) rfl [0, 1, 2, 3, 4, 5] [0, 1, 2, 3, 4] rfl rfl rfl rfl)
       ·intro L a w hv K Q hK
        have hs := hv
        refine wpOp_go rfl rfl hs (OpT_loadC rfl rfl rfl rfl tyF41 (i := 5) rfl rfl) ?_
        rintro _ rfl a' w' hs'
        exact hK a' w' (hs'.putF (i := 19) rfl [0, 1, 2, 3, 4, 5] [0, 1, 2, 3, 4] rfl rfl rfl rfl)
       ·intro L a w hv K Q hK
        have hs := hv
        refine wpOp_go rfl rfl hs (OpT_move rfl rfl rfl rfl) ?_
        rintro _ rfl a' w' hs'
        exact hK a' w' (hs'.putF (i := 20) rfl [0, 1, 2, 3, 4, 5] [0, 1, 2, 3, 4] rfl rfl rfl rfl)
       ·intro L a w hv K Q hK
        have hs := hv
        refine wpOp_go rfl rfl hs (OpT_assign rfl rfl rfl rfl) ?_
        rintro _ rfl a' w' hs'
        exact hK a' w' (hs'.putF (i := 21) rfl [0, 1, 2, 3, 4, 5] [0, 1, 2, 3, 4] rfl rfl rfl rfl)
       ·intro L a w hv K Q hK
        have hs := hv
        refine wpOp_go rfl rfl hs (OpT_assign rfl rfl rfl rfl) ?_
        rintro _ rfl a' w' hs'
        exact hK a' w' (hs'.putF (i := 22) rfl [0, 1, 2, 3, 4, 5] [0, 1, 2, 3, 4] rfl rfl rfl rfl)
       ·intro L a w hv K Q hK
        have hs := hv
        refine wpOp_go rfl rfl hs (OpT_assign rfl rfl rfl rfl) ?_
        rintro _ rfl a' w' hs'
        exact hK a' w' (hs'.putF (i := 23) rfl [0, 1, 2, 3, 4, 5] [0, 1, 2, 3, 4] rfl rfl rfl rfl)
       ·intro L a w hL hv
        rw [allTrue hL] at hv
        have hs := hv
        refine gZ hs [1, 2, 3, 4, 11, 13, 45, 46, 47, 16, 20, 25, 26, 27, 96, 21, 23, 22] [0, 1, 2, 3, 4, 5] [0, 1, 2, 3, 4] rfl rfl rfl rfl ?_
        clear hs hL
        refine TA_step htb (by kernel_rfl) rfl rfl (OpT_assign rfl rfl rfl rfl) ?_
        refine TA_end rfl ?_
        refine tZ [1, 2, 3, 4, 11, 13, 45, 46, 47, 16, 20, 25, 26, 27, 21, 23, 22, 24] [0, 1, 2, 3, 4, 5] [0, 1, 2, 3, 4] rfl rfl rfl rfl ?_
        refine Tk_seq (Tk_region (Tops_step rfl (OpT_move rfl rfl rfl rfl) ?_))
        refine Tops_step rfl (OpT_bin rfl rfl rfl rfl rfl (bin_eql_i (a := packed1.2) (b := (0 : Int)))) ?_
        refine Tops_step rfl (OpT_move rfl rfl rfl rfl) ?_
        rcases Bool.eq_false_or_eq_true (packed1.2 == (0 : Int)) with hg13 | hg13
        ·replace h := br_t hg13 h
         refine Tops_yes rfl rfl (congrArg (fun b => some (Value.bool b)) hg13) (OpT_fieldC rfl rfl rfl rfl fldF56x0) ?_
         rintro _ rfl
         refine Tops_yes rfl rfl (congrArg (fun b => some (Value.bool b)) hg13) (OpT_loadC rfl rfl rfl rfl tyF3 (i := 4) rfl rfl) ?_
         rintro _ rfl
         refine Tops_yes rfl rfl (congrArg (fun b => some (Value.bool b)) hg13) (OpT_move rfl rfl rfl rfl) ?_
         rintro _ rfl
         refine Tops_yes rfl rfl (congrArg (fun b => some (Value.bool b)) hg13) (OpT_bin rfl rfl rfl rfl rfl (bin_geq_i (a := packed1.1.ID) (b := shli (1 : Int) ((u64 pick1).toNat)))) ?_
         rintro _ rfl
         refine Tops_yes rfl rfl (congrArg (fun b => some (Value.bool b)) hg13) (OpT_move rfl rfl rfl rfl) ?_
         rintro _ rfl
         obtain ⟨hg14, h⟩ := chk_e h
         replace hg14 := not_t hg14
         refine Tops_yes rfl rfl (congrArg (fun b => some (Value.bool b)) hg14) (OpT_fieldC rfl rfl rfl rfl fldF56x0) ?_
         rintro _ rfl
         refine Tops_yes rfl rfl (congrArg (fun b => some (Value.bool b)) hg14) (OpT_loadC rfl rfl rfl rfl tyF3 (i := 4) rfl rfl) ?_
         rintro _ rfl
         refine Tops_yes rfl rfl (congrArg (fun b => some (Value.bool b)) hg14) (OpT_bin rfl rfl rfl rfl rfl (bin_lss_i (a := packed1.1.ID) (b := (0 : Int)))) ?_
         rintro _ rfl
         refine Tops_yes rfl rfl (congrArg (fun b => some (Value.bool b)) hg13) (OpT_pickF rfl rfl rfl (congrArg (fun b => some (Value.bool b)) hg14) rfl) ?_
         rintro _ rfl
         refine Tops_yes rfl rfl (congrArg (fun b => some (Value.bool b)) hg13) (OpT_move rfl rfl rfl rfl) ?_
         rintro _ rfl
         obtain ⟨hg15, h⟩ := chk_e h
         replace hg15 := not_t hg15
         refine Tops_yes rfl rfl (congrArg (fun b => some (Value.bool b)) hg15) (OpT_fieldC rfl rfl rfl rfl fldF56x1) ?_
         rintro _ rfl
         refine Tops_yes rfl rfl (congrArg (fun b => some (Value.bool b)) hg15) (OpT_loadC rfl rfl rfl rfl tyF3 (i := 4) rfl rfl) ?_
         rintro _ rfl
         refine Tops_yes rfl rfl (congrArg (fun b => some (Value.bool b)) hg15) (OpT_bin rfl rfl rfl rfl rfl (bin_lss_i (a := packed1.1.Count) (b := (1 : Int)))) ?_
         rintro _ rfl
         refine Tops_yes rfl rfl (congrArg (fun b => some (Value.bool b)) hg13) (OpT_pickF rfl rfl rfl (congrArg (fun b => some (Value.bool b)) hg15) rfl) ?_
         rintro _ rfl
         refine Tops_yes rfl rfl (congrArg (fun b => some (Value.bool b)) hg13) (OpT_move rfl rfl rfl rfl) ?_
         rintro _ rfl
         obtain ⟨hg16, h⟩ := chk_e h
         replace hg16 := not_t hg16
         refine Tops_yes rfl rfl (congrArg (fun b => some (Value.bool b)) hg16) (OpT_fieldC rfl rfl rfl rfl fldF56x1) ?_
         rintro _ rfl
         refine Tops_yes rfl rfl (congrArg (fun b => some (Value.bool b)) hg16) (OpT_loadC rfl rfl rfl rfl tyF3 (i := 4) rfl rfl) ?_
         rintro _ rfl
         refine Tops_yes rfl rfl (congrArg (fun b => some (Value.bool b)) hg16) (OpT_move rfl rfl rfl rfl) ?_
         rintro _ rfl
         refine Tops_yes rfl rfl (congrArg (fun b => some (Value.bool b)) hg16) (OpT_bin rfl rfl rfl rfl rfl (bin_gtr_i (a := packed1.1.Count) (b := shli (1 : Int) ((u64 pick1).toNat)))) ?_
         rintro _ rfl
         refine Tops_yes rfl rfl (congrArg (fun b => some (Value.bool b)) hg13) (OpT_pickF rfl rfl rfl (congrArg (fun b => some (Value.bool b)) hg16) rfl) ?_
         rintro _ rfl
         refine Tops_yes rfl rfl (congrArg (fun b => some (Value.bool b)) hg13) (OpT_move rfl rfl rfl rfl) ?_
         rintro _ rfl
         obtain ⟨hg17, h⟩ := chk_e h
         replace hg17 := not_t hg17
         refine Tops_yes rfl rfl (congrArg (fun b => some (Value.bool b)) hg17) (OpT_fieldC rfl rfl rfl rfl fldF56x0) ?_
         rintro _ rfl
         refine Tops_yes rfl rfl (congrArg (fun b => some (Value.bool b)) hg17) (OpT_loadC rfl rfl rfl rfl tyF3 (i := 4) rfl rfl) ?_
         rintro _ rfl
         refine Tops_yes rfl rfl (congrArg (fun b => some (Value.bool b)) hg17) (OpT_fieldC rfl rfl rfl rfl fldF56x0) ?_
         rintro _ rfl
         refine Tops_yes rfl rfl (congrArg (fun b => some (Value.bool b)) hg17) (OpT_loadC rfl rfl rfl rfl tyF3 (i := 5) rfl rfl) ?_
         rintro _ rfl
         refine Tops_yes rfl rfl (congrArg (fun b => some (Value.bool b)) hg17) (OpT_bin rfl rfl rfl rfl rfl (bin_neq_i (a := packed1.1.ID) (b := packed2.1.ID))) ?_
         rintro _ rfl
         refine Tops_yes rfl rfl (congrArg (fun b => some (Value.bool b)) hg13) (OpT_pickF rfl rfl rfl (congrArg (fun b => some (Value.bool b)) hg17) rfl) ?_
         rintro _ rfl
         refine Tops_yes rfl rfl (congrArg (fun b => some (Value.bool b)) hg13) (OpT_move rfl rfl rfl rfl) ?_
         rintro _ rfl
         obtain ⟨hg18, h⟩ := chk_e h
         replace hg18 := not_t hg18
         refine Tops_yes rfl rfl (congrArg (fun b => some (Value.bool b)) hg18) (OpT_fieldC rfl rfl rfl rfl fldF56x1) ?_
         rintro _ rfl
         refine Tops_yes rfl rfl (congrArg (fun b => some (Value.bool b)) hg18) (OpT_loadC rfl rfl rfl rfl tyF3 (i := 4) rfl rfl) ?_
         rintro _ rfl
         refine Tops_yes rfl rfl (congrArg (fun b => some (Value.bool b)) hg18) (OpT_fieldC rfl rfl rfl rfl fldF56x1) ?_
         rintro _ rfl
         refine Tops_yes rfl rfl (congrArg (fun b => some (Value.bool b)) hg18) (OpT_loadC rfl rfl rfl rfl tyF3 (i := 5) rfl rfl) ?_
         rintro _ rfl
         refine Tops_yes rfl rfl (congrArg (fun b => some (Value.bool b)) hg18) (OpT_bin rfl rfl rfl rfl rfl (bin_neq_i (a := packed1.1.Count) (b := packed2.1.Count))) ?_
         rintro _ rfl
         refine Tops_yes rfl rfl (congrArg (fun b => some (Value.bool b)) hg13) (OpT_pickF rfl rfl rfl (congrArg (fun b => some (Value.bool b)) hg18) rfl) ?_
         rintro _ rfl
         refine Tops_step rfl (OpT_pickT rfl rfl rfl (congrArg (fun b => some (Value.bool b)) hg13) rfl) ?_
         refine Tops_nil (tZ [1, 2, 3, 4, 11, 13, 45, 46, 47, 16, 20, 21, 23, 22, 24, 134] [0, 1, 2, 3] [0, 1, 2, 3, 4] rfl rfl rfl rfl ?_)
         obtain ⟨hg19, h⟩ := chk_e h
         replace hg19 := not_t hg19
         refine Tk_condF (congrArg (fun b => some (Value.bool b)) hg19) ?_
         refine Tk_skip ?_
         exact Tk_jmpS (HJ1 (m1, l1, packed1.1.Segs, packed2.1.Segs, packed1.2, packed2.2, v2, v13, v14) h) [1, 2, 3, 4, 11, 13, 45, 46, 47, 16, 20, 21, 22, 23, 24] [0, 1, 2, 3] [0, 1, 2, 3, 4] rfl rfl rfl rfl
        ·replace h := br_f hg13 h
         refine Tops_no rfl rfl (congrArg (fun b => some (Value.bool b)) hg13) rfl rfl ?_
         refine Tops_no rfl rfl (congrArg (fun b => some (Value.bool b)) hg13) rfl rfl ?_
         refine Tops_no rfl rfl (congrArg (fun b => some (Value.bool b)) hg13) rfl rfl ?_
         refine Tops_no rfl rfl (congrArg (fun b => some (Value.bool b)) hg13) rfl rfl ?_
         refine Tops_no rfl rfl (congrArg (fun b => some (Value.bool b)) hg13) rfl rfl ?_
         refine Tops_noU rfl rfl rfl rfl rfl ?_
         refine Tops_noU rfl rfl rfl rfl rfl ?_
         refine Tops_noU rfl rfl rfl rfl rfl ?_
         refine Tops_no rfl rfl (congrArg (fun b => some (Value.bool b)) hg13) rfl rfl ?_
         refine Tops_no rfl rfl (congrArg (fun b => some (Value.bool b)) hg13) rfl rfl ?_
         refine Tops_noU rfl rfl rfl rfl rfl ?_
         refine Tops_noU rfl rfl rfl rfl rfl ?_
         refine Tops_noU rfl rfl rfl rfl rfl ?_
         refine Tops_no rfl rfl (congrArg (fun b => some (Value.bool b)) hg13) rfl rfl ?_
         refine Tops_no rfl rfl (congrArg (fun b => some (Value.bool b)) hg13) rfl rfl ?_
         refine Tops_noU rfl rfl rfl rfl rfl ?_
         refine Tops_noU rfl rfl rfl rfl rfl ?_
         refine Tops_noU rfl rfl rfl rfl rfl ?_
         refine Tops_noU rfl rfl rfl rfl rfl ?_
         refine Tops_no rfl rfl (congrArg (fun b => some (Value.bool b)) hg13) rfl rfl ?_
         refine Tops_no rfl rfl (congrArg (fun b => some (Value.bool b)) hg13) rfl rfl ?_
         refine Tops_noU rfl rfl rfl rfl rfl ?_
         refine Tops_noU rfl rfl rfl rfl rfl ?_
         refine Tops_noU rfl rfl rfl rfl rfl ?_
         refine Tops_noU rfl rfl rfl rfl rfl ?_
         refine Tops_noU rfl rfl rfl rfl rfl ?_
         refine Tops_no rfl rfl (congrArg (fun b => some (Value.bool b)) hg13) rfl rfl ?_
         refine Tops_no rfl rfl (congrArg (fun b => some (Value.bool b)) hg13) rfl rfl ?_
         refine Tops_noU rfl rfl rfl rfl rfl ?_
         refine Tops_noU rfl rfl rfl rfl rfl ?_
         refine Tops_noU rfl rfl rfl rfl rfl ?_
         refine Tops_noU rfl rfl rfl rfl rfl ?_
         refine Tops_noU rfl rfl rfl rfl rfl ?_
         refine Tops_no rfl rfl (congrArg (fun b => some (Value.bool b)) hg13) rfl rfl ?_
         refine Tops_step rfl (OpT_pickF rfl rfl rfl (congrArg (fun b => some (Value.bool b)) hg13) rfl) ?_
         refine Tops_nil (tZ [1, 2, 3, 4, 11, 13, 45, 46, 47, 16, 20, 21, 23, 22, 24, 134] [0, 1, 2, 3] [0, 1, 2, 3, 4] rfl rfl rfl rfl ?_)
         refine Tk_condF rfl ?_
         refine Tk_skip ?_
         exact Tk_jmpS (HJ1 (m1, l1, packed1.1.Segs, packed2.1.Segs, packed1.2, packed2.2, v2, v13, v14) h) [1, 2, 3, 4, 11, 13, 45, 46, 47, 16, 20, 21, 22, 23, 24] [0, 1, 2, 3] [0, 1, 2, 3, 4] rfl rfl rfl rfl
      ·replace h := br_f hg12 h
       refine Tk_condF (congrArg (fun b => some (Value.bool b)) hg12) ?_
       refine Tk_seq (Tk_region (Tops_step rfl (OpT_move rfl rfl rfl rfl) ?_))
       refine Tops_step rfl (OpT_loadCA (vs := [vB laid1.2.2.1.Packed, vI laid1.2.2.1.Size, vU64 laid1.2.2.1.Desc, vU64 laid1.2.2.1.Driver, vU64 laid1.2.2.1.Device]) rfl rfl rfl rfl tyF29 (i := 3) rfl rfl rfl) ?_
       refine Tops_step rfl (OpT_move rfl rfl rfl rfl) ?_
       obtain ⟨split1, hx17, h⟩ := ob_e h
       refine Tops_exP rfl (OpT_callP [0, 1, 5, 3, 6] (w_walk_Split hx17) [2, 4] [2] rfl rfl rfl rfl rfl callee13 rfl rfl rfl rfl rfl) ?_
       rintro _ ⟨_, _, _, ⟨v15, rfl, rfl, rfl⟩, rfl⟩
       refine Tops_step rfl (OpT_move rfl rfl rfl rfl) ?_
       refine Tops_step rfl (OpT_extract rfl rfl rfl rfl rfl) ?_
       refine Tops_step rfl (OpT_extract rfl rfl rfl rfl rfl) ?_
       refine Tops_step rfl (OpT_assign rfl rfl rfl rfl) ?_
       refine Tops_step rfl (OpT_assign rfl rfl rfl rfl) ?_
       refine Tops_nil (tZ [1, 2, 3, 4, 11, 13, 45, 46, 47, 18, 16, 20, 21, 23] [0, 1, 2, 3, 4] [0, 1, 2, 3] rfl rfl rfl rfl ?_)
       refine Tk_seq (Tk_region (Tops_step rfl (OpT_move rfl rfl rfl rfl) ?_))
       refine Tops_step rfl (OpT_loadCA (vs := [vB laid1.2.2.1.Packed, vI laid1.2.2.1.Size, vU64 laid1.2.2.1.Desc, vU64 laid1.2.2.1.Driver, vU64 laid1.2.2.1.Device]) rfl rfl rfl rfl tyF29 (i := 3) rfl rfl rfl) ?_
       refine Tops_step rfl (OpT_move rfl rfl rfl rfl) ?_
       obtain ⟨split2, hx18, h⟩ := ob_e h
       refine Tops_exP rfl (OpT_callP [0, 1, 5, 3, 6] (w_walk_Split hx18) [2, 4] [2] rfl rfl rfl rfl rfl callee13 rfl rfl rfl rfl rfl) ?_
       rintro _ ⟨_, _, _, ⟨v16, rfl, rfl, rfl⟩, rfl⟩
       refine Tops_step rfl (OpT_move rfl rfl rfl rfl) ?_
       refine Tops_step rfl (OpT_extract rfl rfl rfl rfl rfl) ?_
       refine Tops_step rfl (OpT_extract rfl rfl rfl rfl rfl) ?_
       refine Tops_step rfl (OpT_assign rfl rfl rfl rfl) ?_
       refine Tops_step rfl (OpT_assign rfl rfl rfl rfl) ?_
       refine Tops_nil (tZ [1, 2, 3, 4, 11, 13, 45, 46, 47, 18, 16, 20, 21, 23, 22, 24] [0, 1, 2, 3, 4] [0, 1, 2, 3, 4] rfl rfl rfl rfl ?_)
       refine Tk_seq (Tk_region (Tops_step rfl (OpT_move rfl rfl rfl rfl) ?_))
       refine Tops_step rfl (OpT_loadCA (vs := [vB laid1.2.2.1.Packed, vI laid1.2.2.1.Size, vU64 laid1.2.2.1.Desc, vU64 laid1.2.2.1.Driver, vU64 laid1.2.2.1.Device]) rfl rfl rfl rfl tyF29 (i := 3) rfl rfl rfl) ?_
       refine Tops_step rfl (OpT_move rfl rfl rfl rfl) ?_
       obtain ⟨reads1, hx19, h⟩ := ob_e h
       refine Tops_exP rfl (OpT_callP [0, 1, 5, 3, 6] (w_walk_Reads hx19) [2, 4] [2] rfl rfl rfl rfl rfl callee14 rfl rfl rfl rfl rfl) ?_
       rintro _ ⟨_, _, _, ⟨rfl, rfl, rfl⟩, rfl⟩
       refine Tops_step rfl (OpT_assign rfl rfl rfl rfl) ?_
       refine Tops_nil (tZ [1, 2, 3, 4, 11, 13, 45, 46, 47, 16, 20, 21, 23, 22, 24, 29] [0, 1, 2, 4] [0, 1, 2, 3, 4] rfl rfl rfl rfl ?_)
       refine Tk_seq (Tk_region (Tops_step rfl (OpT_move rfl rfl rfl rfl) ?_))
       refine Tops_step rfl (OpT_bin rfl rfl rfl rfl rfl (bin_lss_i (a := reads1) (b := (0 : Int)))) ?_
       refine Tops_step rfl (OpT_move rfl rfl rfl rfl) ?_
       obtain ⟨hg20, h⟩ := chk_e h
       replace hg20 := not_t hg20
       refine Tops_yes rfl rfl (congrArg (fun b => some (Value.bool b)) hg20) (OpT_move rfl rfl rfl rfl) ?_
       rintro _ rfl
       refine Tops_yes rfl rfl (congrArg (fun b => some (Value.bool b)) hg20) (OpT_move rfl rfl rfl rfl) ?_
       rintro _ rfl
       refine Tops_yes rfl rfl (congrArg (fun b => some (Value.bool b)) hg20) (OpT_bin rfl rfl rfl rfl rfl (bin_add_i (a := shli (1 : Int) ((u64 pick1).toNat)) (b := (64 : Int)))) ?_
       rintro _ rfl
       refine Tops_yes rfl rfl (congrArg (fun b => some (Value.bool b)) hg20) (OpT_bin rfl rfl rfl rfl rfl (bin_gtr_i (a := reads1) (b := wi ((shli (1 : Int) ((u64 pick1).toNat)) + (64 : Int))))) ?_
       rintro _ rfl
       refine Tops_step rfl (OpT_pickF rfl rfl rfl (congrArg (fun b => some (Value.bool b)) hg20) rfl) ?_
       refine Tops_step rfl (OpT_move rfl rfl rfl rfl) ?_
       obtain ⟨hg21, h⟩ := chk_e h
       replace hg21 := not_t hg21
       refine Tops_yes rfl rfl (congrArg (fun b => some (Value.bool b)) hg21) (OpT_move rfl rfl rfl rfl) ?_
       rintro _ rfl
       refine Tops_yes rfl rfl (congrArg (fun b => some (Value.bool b)) hg21) (OpT_bin rfl rfl rfl rfl rfl (bin_eql_i (a := split1.2) (b := (0 : Int)))) ?_
       rintro _ rfl
       refine Tops_yes rfl rfl (congrArg (fun b => some (Value.bool b)) hg21) (OpT_move rfl rfl rfl rfl) ?_
       rintro _ rfl
       rcases Bool.eq_false_or_eq_true (split1.2 == (0 : Int)) with hg22 | hg22
       ·replace h := br_t hg22 h
        refine Tops_yes rfl rfl (congrArg (fun b => some (Value.bool b)) hg22) (OpT_move rfl rfl rfl rfl) ?_
        rintro _ rfl
        refine Tops_yes rfl rfl (congrArg (fun b => some (Value.bool b)) hg22) (OpT_bin rfl rfl rfl rfl rfl (bin_lss_i (a := reads1) (b := (1 : Int)))) ?_
        rintro _ rfl
        refine Tops_yes rfl rfl (congrArg (fun b => some (Value.bool b)) hg21) (OpT_pickT rfl rfl rfl (congrArg (fun b => some (Value.bool b)) hg22) rfl) ?_
        rintro _ rfl
        refine Tops_step rfl (OpT_pickF rfl rfl rfl (congrArg (fun b => some (Value.bool b)) hg21) rfl) ?_
        refine Tops_nil (tZ [1, 2, 3, 4, 11, 13, 45, 46, 47, 16, 20, 21, 23, 22, 24, 168] [0, 1, 2, 3] [0, 1, 2, 3, 4] rfl rfl rfl rfl ?_)
        obtain ⟨hg23, h⟩ := chk_e h
        replace hg23 := not_t hg23
        refine Tk_condF (congrArg (fun b => some (Value.bool b)) hg23) ?_
        refine Tk_skip ?_
        exact Tk_jmpS (HJ1 (m1, l1, split1.1, split2.1, split1.2, split2.2, v2, v15, v16) h) [1, 2, 3, 4, 11, 13, 45, 46, 47, 16, 20, 21, 22, 23, 24] [0, 1, 2, 3] [0, 1, 2, 3, 4] rfl rfl rfl rfl
       ·replace h := br_f hg22 h
        refine Tops_no rfl rfl (congrArg (fun b => some (Value.bool b)) hg22) rfl rfl ?_
        refine Tops_no rfl rfl (congrArg (fun b => some (Value.bool b)) hg22) rfl rfl ?_
        refine Tops_yes rfl rfl (congrArg (fun b => some (Value.bool b)) hg21) (OpT_pickF rfl rfl rfl (congrArg (fun b => some (Value.bool b)) hg22) rfl) ?_
        rintro _ rfl
        refine Tops_step rfl (OpT_pickF rfl rfl rfl (congrArg (fun b => some (Value.bool b)) hg21) rfl) ?_
        refine Tops_nil (tZ [1, 2, 3, 4, 11, 13, 45, 46, 47, 16, 20, 21, 23, 22, 24, 168] [0, 1, 2, 3] [0, 1, 2, 3, 4] rfl rfl rfl rfl ?_)
        refine Tk_condF rfl ?_
        refine Tk_skip ?_
        exact Tk_jmpS (HJ1 (m1, l1, split1.1, split2.1, split1.2, split2.2, v2, v15, v16) h) [1, 2, 3, 4, 11, 13, 45, 46, 47, 16, 20, 21, 22, 23, 24] [0, 1, 2, 3] [0, 1, 2, 3, 4] rfl rfl rfl rfl
   ·replace h := br_f hg4 h
    refine Tk_condF (congrArg (fun b => some (Value.bool b)) hg4) ?_
    refine Tk_exit _ rfl ?_
    refine Tk_seq (Tk_region (Tops_step rfl (OpT_assign rfl rfl rfl rfl) ?_))
    refine Tops_nil (tZ [12] [] [] rfl rfl rfl rfl ?_)
    exact Tk_retV rfl rfl (resA (vs := [.bool true]) rfl ⟨rfl, trivial⟩) [] [] rfl rfl rfl ⟨rfl, rfl, rfl⟩
end Go.Proofs.Ytlofegfaphijpaa
