/- The law WalkOnce is walked: it returns what its plain words say. No condition. -/
import Derived.Test.YtlofegfaphijpaaWa9
namespace Go.Proofs.Ytlofegfaphijpaa
attribute [local irreducible] sub

set_option maxRecDepth 100000 in
set_option maxHeartbeats 4000000 in
theorem w_law10zWalkOnce {size : Int} {head : Int} {step : Int} {many : Int} {back : Int} {circle : Bool}  (h : law10zWalkOnce size head step many back circle = some true) :
  Ctr Try.prog 3 #[vI size, vI head, vI step, vI many, vI back, vB circle] [] []
   (fun rv own shr => rv = .bool true ∧ own = [] ∧ shr = []) := by
 unfold law10zWalkOnce at h
 refine Ctr.mk (args := [vI size, vI head, vI step, vI many, vI back, vB circle]) Try.func3 rfl rfl (fun R0 w0 B => ?_)
 refine Tk_seq (Tk_region (Tops_step rfl (OpT_assign rfl rfl rfl rfl) ?_))
 refine Tops_nil (Tk_wkS (fr' := [(0, some (vI size)), (1, some (vI head)), (2, some (vI step)), (3, some (vI many)), (4, some (vI back)), (5, some (vB circle))]) (own' := []) (shr' := []) [0, 1, 2, 3, 4, 5] [] [] rfl rfl rfl rfl ?_)
 refine Tk_seq (Tk_seq (Tk_region ?_))
 obtain ⟨lives1, hx1, h⟩ := ob_e h
 refine Tops_exP rfl (OpT_call (w_law10zlives hx1) [] [] rfl rfl rfl rfl rfl callee8 rfl rfl rfl rfl) ?_
 rintro _ ⟨_, _, _, ⟨rfl, rfl, rfl⟩, rfl⟩
 refine Tops_step rfl (OpT_not rfl rfl rfl rfl) ?_
 refine Tops_nil (Tk_wkS (fr' := [(0, some (vI size)), (1, some (vI head)), (2, some (vI step)), (3, some (vI many)), (4, some (vI back)), (5, some (vB circle)), (26, some (vB (!lives1)))]) (own' := []) (shr' := []) [0, 1, 2, 3, 4, 5, 26] [] [] rfl rfl rfl rfl ?_)
 obtain ⟨hg1, h⟩ := chk_e h
 replace hg1 := not_t hg1
 refine Tk_condF (congrArg (fun b => some (Value.bool b)) hg1) ?_
 refine Tk_skip (Tk_seq (Tk_region (Tops_step rfl (OpT_move rfl rfl rfl rfl) ?_)))
 obtain ⟨pick1, hx2, h⟩ := ob_e h
 refine Tops_exP rfl (OpT_call (w_kit_Pick hx2) [] [] rfl rfl rfl rfl rfl callee9 rfl rfl rfl rfl) ?_
 rintro _ ⟨_, _, _, ⟨rfl, rfl, rfl⟩, rfl⟩
 refine Tops_step rfl (OpT_cnv rfl rfl rfl rfl (cnv_i_u64 (n := pick1) Try.underlying3 Try.underlying23)) ?_
 refine Tops_step rfl (OpT_bin rfl rfl rfl rfl rfl (bin_shl_i_u64 (a := (2 : Int)) (n := u64 pick1))) ?_
 refine Tops_step rfl (OpT_assign rfl rfl rfl rfl) ?_
 refine Tops_nil (Tk_wkS (fr' := [(1, some (vI head)), (2, some (vI step)), (3, some (vI many)), (4, some (vI back)), (5, some (vB circle)), (13, some (vI (shli (2 : Int) ((u64 pick1).toNat))))]) (own' := []) (shr' := []) [1, 2, 3, 4, 5, 13] [] [] rfl rfl rfl rfl ?_)
 refine Tk_seq (Tk_region (Tops_step rfl (OpT_move rfl rfl rfl rfl) ?_))
 refine Tops_nilfact dumbwaiterlaw10_SpotS ?_
 obtain ⟨laid1, hx3, h⟩ := ob_e h
 refine Tops_exP rfl (OpT_call (w_law10zlaid hx3) [] [0] rfl rfl rfl rfl rfl callee10 rfl rfl rfl rfl) ?_
 rintro _ ⟨_, _, _, ⟨v1, v2, rfl, rfl, rfl⟩, rfl⟩
 refine Tops_step rfl (OpT_move rfl rfl rfl rfl) ?_
 refine Tops_step rfl (OpT_extract rfl rfl rfl rfl rfl) ?_
 refine Tops_step rfl (OpT_extract rfl rfl rfl rfl rfl) ?_
 refine Tops_step rfl (OpT_extract rfl rfl rfl rfl rfl) ?_
 refine Tops_step rfl (OpT_extract rfl rfl rfl rfl rfl) ?_
 refine Tops_ex rfl (OpT_alloc rfl rfl rfl tyZ29) fun b1 => ?_
 refine Tops_step rfl (OpT_assign rfl rfl rfl rfl) ?_
 refine Tops_step rfl (OpT_assign rfl rfl rfl rfl) ?_
 refine Tops_step rfl (OpT_storeC (cs' := [vB laid1.2.2.1.Packed, vI laid1.2.2.1.Size, vU64 laid1.2.2.1.Desc, vU64 laid1.2.2.1.Driver, vU64 laid1.2.2.1.Device]) rfl rfl rfl rfl tyF29 (i := 2) rfl rfl rfl (one_of rfl) rfl) ?_
 refine Tops_step rfl (OpT_assign rfl rfl rfl rfl) ?_
 refine Tops_nil (Tk_wkS (fr' := [(1, some (vI head)), (2, some (vI step)), (3, some (vI many)), (4, some (vI back)), (5, some (vB circle)), (13, some (vI (shli (2 : Int) ((u64 pick1).toNat)))), (16, some (.pointer (some ⟨b1, 0, none⟩))), (14, some (v1)), (17, some (vB laid1.2.2.2))]) (own' := [some (optR 113 RegionS u8S true gmem_Mem.l gmem_Mem.b v1 laid1.1), some (cellsR b1 29 [vB laid1.2.2.1.Packed, vI laid1.2.2.1.Size, vU64 laid1.2.2.1.Desc, vU64 laid1.2.2.1.Driver, vU64 laid1.2.2.1.Device])]) (shr' := []) [1, 2, 3, 4, 5, 13, 16, 14, 17] [0, 2] [] rfl rfl rfl rfl ?_)
 rcases onO_cases h with ⟨ho1, h⟩ | ⟨mem1, ho1, h⟩
 ·cases h
 ·refine Tk_optS (i := 0) rfl ho1 ?_
  rintro b2 v3 v4 vs1 rfl
  refine Tk_seq (Tk_seq (Tk_region (Tops_step rfl (OpT_move rfl rfl rfl rfl) ?_)))
  refine Tops_step rfl (OpT_not rfl rfl rfl rfl) ?_
  refine Tops_nil (Tk_wkS (fr' := [(1, some (vI head)), (2, some (vI step)), (3, some (vI many)), (4, some (vI back)), (5, some (vB circle)), (13, some (vI (shli (2 : Int) ((u64 pick1).toNat)))), (16, some (.pointer (some ⟨b1, 0, none⟩))), (14, some (.pointer (some ⟨b2, 0, none⟩))), (39, some (vB (!laid1.2.2.2)))]) (own' := [some (cellsR b2 113 [v3, v4]), some (cellsR b1 29 [vB laid1.2.2.1.Packed, vI laid1.2.2.1.Size, vU64 laid1.2.2.1.Desc, vU64 laid1.2.2.1.Driver, vU64 laid1.2.2.1.Device]), some (rowsX u8S true v4 vs1 mem1.b none)]) (shr' := [Fact.sl RegionS v3 mem1.l]) [1, 2, 3, 4, 5, 13, 16, 14, 39] [0, 1, 2] [0] rfl rfl rfl rfl ?_)
  obtain ⟨hg2, h⟩ := chk_e h
  replace hg2 := not_t hg2
  refine Tk_condF (congrArg (fun b => some (Value.bool b)) hg2) ?_
  refine Tk_skip (Tk_seq (Tk_region (Tops_step rfl (OpT_move rfl rfl rfl rfl) ?_)))
  refine Tops_step rfl (OpT_move rfl rfl rfl rfl) ?_
  refine Tops_step rfl (OpT_min_i (u := shli (2 : Int) ((u64 pick1).toNat)) (v := (64 : Int)) rfl rfl rfl rfl rfl) ?_
  obtain ⟨pick2, hx4, h⟩ := ob_e h
  refine Tops_exP rfl (OpT_call (w_kit_Pick hx4) [] [] rfl rfl rfl rfl rfl callee9 rfl rfl rfl rfl) ?_
  rintro _ ⟨_, _, _, ⟨rfl, rfl, rfl⟩, rfl⟩
  refine Tops_step rfl (OpT_bin rfl rfl rfl rfl rfl (bin_add_i (a := (1 : Int)) (b := pick2))) ?_
  refine Tops_step rfl (OpT_assign rfl rfl rfl rfl) ?_
  refine Tops_nil (Tk_wkS (fr' := [(1, some (vI head)), (2, some (vI step)), (3, some (vI (wi ((1 : Int) + pick2)))), (4, some (vI back)), (5, some (vB circle)), (13, some (vI (shli (2 : Int) ((u64 pick1).toNat)))), (16, some (.pointer (some ⟨b1, 0, none⟩))), (14, some (.pointer (some ⟨b2, 0, none⟩)))]) (own' := [some (cellsR b2 113 [v3, v4]), some (cellsR b1 29 [vB laid1.2.2.1.Packed, vI laid1.2.2.1.Size, vU64 laid1.2.2.1.Desc, vU64 laid1.2.2.1.Driver, vU64 laid1.2.2.1.Device]), some (rowsX u8S true v4 vs1 mem1.b none)]) (shr' := [Fact.sl RegionS v3 mem1.l]) [1, 2, 3, 4, 5, 13, 16, 14] [0, 1, 2] [0] rfl rfl rfl rfl ?_)
  refine Tk_seq (Tk_region (Tops_step rfl (OpT_move rfl rfl rfl rfl) ?_))
  refine Tops_step rfl (OpT_move rfl rfl rfl rfl) ?_
  obtain ⟨pick3, hx5, h⟩ := ob_e h
  refine Tops_exP rfl (OpT_call (w_kit_Pick hx5) [] [] rfl rfl rfl rfl rfl callee9 rfl rfl rfl rfl) ?_
  rintro _ ⟨_, _, _, ⟨rfl, rfl, rfl⟩, rfl⟩
  refine Tops_step rfl (OpT_bin rfl rfl rfl rfl rfl (bin_mul_i (a := (2 : Int)) (b := pick3))) ?_
  refine Tops_step rfl (OpT_bin rfl rfl rfl rfl rfl (bin_add_i (a := wi ((2 : Int) * pick3)) (b := (1 : Int)))) ?_
  refine Tops_step rfl (OpT_assign rfl rfl rfl rfl) ?_
  refine Tops_nil (Tk_wkS (fr' := [(1, some (vI head)), (2, some (vI (wi ((wi ((2 : Int) * pick3)) + (1 : Int))))), (3, some (vI (wi ((1 : Int) + pick2)))), (4, some (vI back)), (5, some (vB circle)), (13, some (vI (shli (2 : Int) ((u64 pick1).toNat)))), (16, some (.pointer (some ⟨b1, 0, none⟩))), (14, some (.pointer (some ⟨b2, 0, none⟩)))]) (own' := [some (cellsR b2 113 [v3, v4]), some (cellsR b1 29 [vB laid1.2.2.1.Packed, vI laid1.2.2.1.Size, vU64 laid1.2.2.1.Desc, vU64 laid1.2.2.1.Driver, vU64 laid1.2.2.1.Device]), some (rowsX u8S true v4 vs1 mem1.b none)]) (shr' := [Fact.sl RegionS v3 mem1.l]) [1, 2, 3, 4, 5, 13, 16, 14] [0, 1, 2] [0] rfl rfl rfl rfl ?_)
  refine Tk_seq (Tk_region (Tops_step rfl (OpT_assign rfl rfl rfl rfl) ?_))
  refine Tops_nil (Tk_seq (Tk_seq (Tk_region (Tops_step rfl (OpT_assign rfl rfl rfl rfl) ?_))))
  refine Tops_nil (Tk_block (Tk_nilrow iS ?_))
  refine Tk_loopS (σ := Rings × (List Int) × Int × Value) [1, 2, 3, 4, 5, 13, 16, 14, 18, 19] [1, 0, 2, 3] [0] (fun s => ⟨[(1, some (vI head)), (2, some (vI (wi ((wi ((2 : Int) * pick3)) + (1 : Int))))), (3, some (vI (wi ((1 : Int) + pick2)))), (4, some (vI back)), (5, some (vB circle)), (13, some (vI (shli (2 : Int) ((u64 pick1).toNat)))), (16, some (.pointer (some ⟨b1, 0, none⟩))), (14, some (.pointer (some ⟨b2, 0, none⟩))), (18, some (s.2.2.2)), (19, some (vI s.2.2.1))], [some (cellsR b1 29 [vB s.1.Packed, vI s.1.Size, vU64 s.1.Desc, vU64 s.1.Driver, vU64 s.1.Device]), some (cellsR b2 113 [v3, v4]), some (rowsX u8S true v4 vs1 mem1.b none), some (rowS iS s.2.2.2 s.2.1)], [Fact.sl RegionS v3 mem1.l]⟩) (fun nf1 s => law10zWalkOnceL1 head back circle pick1 mem1 pick2 pick3 nf1 s.1 s.2.1 s.2.2.1 = some true) fuel (laid1.2.2.1, [], (0 : Int), (.slice none 0 0)) h rfl rfl rfl rfl rfl (fun s h => by cases h) ?_
  rintro nf1 ⟨m1, way1, i1, v5⟩ h
  replace h : law10zWalkOnceL1B head back circle pick1 mem1 pick2 pick3 (law10zWalkOnceL1 head back circle pick1 mem1 pick2 pick3 nf1) m1 way1 i1 = some true := h
  unfold law10zWalkOnceL1B at h
  refine Tk_seq (Tk_seq (Tk_region (Tops_step rfl (OpT_move rfl rfl rfl rfl) ?_)))
  refine Tops_step rfl (OpT_move rfl rfl rfl rfl) ?_
  refine Tops_step rfl (OpT_bin rfl rfl rfl rfl rfl (bin_lss_i (a := i1) (b := wi ((1 : Int) + pick2)))) ?_
  refine Tops_nil (Tk_wkS (fr' := [(1, some (vI head)), (2, some (vI (wi ((wi ((2 : Int) * pick3)) + (1 : Int))))), (3, some (vI (wi ((1 : Int) + pick2)))), (4, some (vI back)), (5, some (vB circle)), (13, some (vI (shli (2 : Int) ((u64 pick1).toNat)))), (16, some (.pointer (some ⟨b1, 0, none⟩))), (14, some (.pointer (some ⟨b2, 0, none⟩))), (18, some (v5)), (19, some (vI i1)), (52, some (vB (decide (i1 < (wi ((1 : Int) + pick2))))))]) (own' := [some (cellsR b1 29 [vB m1.Packed, vI m1.Size, vU64 m1.Desc, vU64 m1.Driver, vU64 m1.Device]), some (cellsR b2 113 [v3, v4]), some (rowsX u8S true v4 vs1 mem1.b none), some (rowS iS v5 way1)]) (shr' := [Fact.sl RegionS v3 mem1.l]) [1, 2, 3, 4, 5, 13, 16, 14, 18, 19, 52] [0, 1, 2, 3] [0] rfl rfl rfl rfl ?_)
  rcases Bool.eq_false_or_eq_true (decide (i1 < (wi ((1 : Int) + pick2)))) with hg3 | hg3
  ·replace h := br_t hg3 h
   refine Tk_condT (congrArg (fun b => some (Value.bool b)) hg3) ?_
   refine Tk_skip (Tk_seq (Tk_block (Tk_region (Tops_step rfl (OpT_move rfl rfl rfl rfl) ?_))))
   refine Tops_step rfl (OpT_move rfl rfl rfl rfl) ?_
   refine Tops_step rfl (OpT_move rfl rfl rfl rfl) ?_
   obtain ⟨pick4, hx6, h⟩ := ob_e h
   refine Tops_exP rfl (OpT_call (w_kit_Pick hx6) [] [] rfl rfl rfl rfl rfl callee9 rfl rfl rfl rfl) ?_
   rintro _ ⟨_, _, _, ⟨rfl, rfl, rfl⟩, rfl⟩
   refine Tops_step rfl (OpT_move rfl rfl rfl rfl) ?_
   refine Tops_step rfl (OpT_move rfl rfl rfl rfl) ?_
   refine Tops_step rfl (OpT_bin rfl rfl rfl rfl rfl (bin_mul_i (a := i1) (b := wi ((wi ((2 : Int) * pick3)) + (1 : Int))))) ?_
   refine Tops_step rfl (OpT_bin rfl rfl rfl rfl rfl (bin_add_i (a := pick4) (b := wi (i1 * (wi ((wi ((2 : Int) * pick3)) + (1 : Int))))))) ?_
   refine Tops_step rfl (OpT_move rfl rfl rfl rfl) ?_
   obtain ⟨hc1, h⟩ := chk_e h
   refine Tops_step rfl (OpT_bin rfl rfl rfl rfl rfl (bin_rem_i (a := wi (pick4 + (wi (i1 * (wi ((wi ((2 : Int) * pick3)) + (1 : Int))))))) (b := shli (2 : Int) ((u64 pick1).toNat)) (not_t hc1))) ?_
   refine Tops_ex rfl (OpT_buildSlice (S := iS) (xs := [remi (wi (pick4 + (wi (i1 * (wi ((wi ((2 : Int) * pick3)) + (1 : Int))))))) (shli (2 : Int) ((u64 pick1).toNat))]) (css := [[vI (remi (wi (pick4 + (wi (i1 * (wi ((wi ((2 : Int) * pick3)) + (1 : Int))))))) (shli (2 : Int) ((u64 pick1).toNat)))]]) (cs := [vI (remi (wi (pick4 + (wi (i1 * (wi ((wi ((2 : Int) * pick3)) + (1 : Int))))))) (shli (2 : Int) ((u64 pick1).toNat)))]) (e := 3) rfl rfl rfl rfl (bldF slF32 (by decide) (by kernel_rfl)) rfl rfl rfl rfl (rel_plainD (S := iS) (xs := [remi (wi (pick4 + (wi (i1 * (wi ((wi ((2 : Int) * pick3)) + (1 : Int))))))) (shli (2 : Int) ((u64 pick1).toNat))]) (css := [[vI (remi (wi (pick4 + (wi (i1 * (wi ((wi ((2 : Int) * pick3)) + (1 : Int))))))) (shli (2 : Int) ((u64 pick1).toNat)))]]) rfl rfl)) fun v6 => ?_
   obtain ⟨hc2, h⟩ := chk_e h
   refine Tops_ex rfl (OpT_appendB (S := iS) rfl rfl rfl rfl rfl rfl slF32 (i := 3) (j := 4) rfl rfl hc2) fun v7 => ?_
   refine Tops_step rfl (OpT_assign rfl rfl rfl rfl) ?_
   refine Tops_nil (Tk_wkS (fr' := [(1, some (vI head)), (2, some (vI (wi ((wi ((2 : Int) * pick3)) + (1 : Int))))), (3, some (vI (wi ((1 : Int) + pick2)))), (4, some (vI back)), (5, some (vB circle)), (13, some (vI (shli (2 : Int) ((u64 pick1).toNat)))), (16, some (.pointer (some ⟨b1, 0, none⟩))), (14, some (.pointer (some ⟨b2, 0, none⟩))), (18, some (v7)), (19, some (vI i1))]) (own' := [some (cellsR b1 29 [vB m1.Packed, vI m1.Size, vU64 m1.Desc, vU64 m1.Driver, vU64 m1.Device]), some (cellsR b2 113 [v3, v4]), some (rowsX u8S true v4 vs1 mem1.b none), some (rowS iS v7 (way1 ++ [remi (wi (pick4 + (wi (i1 * (wi ((wi ((2 : Int) * pick3)) + (1 : Int))))))) (shli (2 : Int) ((u64 pick1).toNat))]))]) (shr' := [Fact.sl RegionS v3 mem1.l]) [1, 2, 3, 4, 5, 13, 16, 14, 18, 19] [0, 1, 2, 3] [0] rfl rfl rfl rfl ?_)
   refine Tk_blk (Tk_region (Tops_step rfl (OpT_move rfl rfl rfl rfl) ?_))
   refine Tops_step rfl (OpT_bin rfl rfl rfl rfl rfl (bin_add_i (a := i1) (b := (1 : Int)))) ?_
   refine Tops_step rfl (OpT_assign rfl rfl rfl rfl) ?_
   refine Tops_nil (Tk_wkS (fr' := [(1, some (vI head)), (2, some (vI (wi ((wi ((2 : Int) * pick3)) + (1 : Int))))), (3, some (vI (wi ((1 : Int) + pick2)))), (4, some (vI back)), (5, some (vB circle)), (13, some (vI (shli (2 : Int) ((u64 pick1).toNat)))), (16, some (.pointer (some ⟨b1, 0, none⟩))), (14, some (.pointer (some ⟨b2, 0, none⟩))), (18, some (v7)), (19, some (vI (wi (i1 + (1 : Int)))))]) (own' := [some (cellsR b1 29 [vB m1.Packed, vI m1.Size, vU64 m1.Desc, vU64 m1.Driver, vU64 m1.Device]), some (cellsR b2 113 [v3, v4]), some (rowsX u8S true v4 vs1 mem1.b none), some (rowS iS v7 (way1 ++ [remi (wi (pick4 + (wi (i1 * (wi ((wi ((2 : Int) * pick3)) + (1 : Int))))))) (shli (2 : Int) ((u64 pick1).toNat))]))]) (shr' := [Fact.sl RegionS v3 mem1.l]) [1, 2, 3, 4, 5, 13, 16, 14, 18, 19] [0, 1, 2, 3] [0] rfl rfl rfl rfl ?_)
   exact Tk_backS (m1, way1 ++ [remi (wi (pick4 + (wi (i1 * (wi ((wi ((2 : Int) * pick3)) + (1 : Int))))))) (shli (2 : Int) ((u64 pick1).toNat))], wi (i1 + (1 : Int)), v7) h [1, 2, 3, 4, 5, 13, 16, 14, 18, 19] [0, 1, 2, 3] [0] rfl rfl rfl rfl rfl
  ·replace h := br_f hg3 h
   refine Tk_condF (congrArg (fun b => some (Value.bool b)) hg3) ?_
   refine Tk_exit _ rfl ?_
   refine Tk_seq (Tk_seq (Tk_region (Tops_step rfl (OpT_assign rfl rfl rfl rfl) ?_)))
   refine Tops_nil (Tk_wkS (fr' := [(3, some (vI (wi ((1 : Int) + pick2)))), (4, some (vI back)), (5, some (vB circle)), (16, some (.pointer (some ⟨b1, 0, none⟩))), (14, some (.pointer (some ⟨b2, 0, none⟩))), (18, some (v5)), (20, some (vI (0 : Int)))]) (own' := [some (cellsR b1 29 [vB m1.Packed, vI m1.Size, vU64 m1.Desc, vU64 m1.Driver, vU64 m1.Device]), some (cellsR b2 113 [v3, v4]), some (rowsX u8S true v4 vs1 mem1.b none), some (rowS iS v5 way1)]) (shr' := [Fact.sl RegionS v3 mem1.l]) [3, 4, 5, 16, 14, 18, 20] [0, 1, 2, 3] [0] rfl rfl rfl rfl ?_)
   refine Tk_block (Tk_loopS (σ := Rings × (List (List UInt8)) × (List Int) × Int × Value) [3, 4, 5, 16, 14, 18, 20] [0, 1, 2, 3] [0] (fun s => ⟨[(3, some (vI (wi ((1 : Int) + pick2)))), (4, some (vI back)), (5, some (vB circle)), (16, some (.pointer (some ⟨b1, 0, none⟩))), (14, some (.pointer (some ⟨b2, 0, none⟩))), (18, some (s.2.2.2.2)), (20, some (vI s.2.2.2.1))], [some (cellsR b1 29 [vB s.1.Packed, vI s.1.Size, vU64 s.1.Desc, vU64 s.1.Driver, vU64 s.1.Device]), some (cellsR b2 113 [v3, v4]), some (rowsX u8S true v4 vs1 s.2.1 none), some (rowS iS s.2.2.2.2 s.2.2.1)], [Fact.sl RegionS v3 mem1.l]⟩) (fun nf2 s => law10zWalkOnceL2 back circle mem1 pick2 nf2 s.1 s.2.1 s.2.2.1 s.2.2.2.1 = some true) fuel (m1, mem1.b, way1, (0 : Int), v5) h rfl rfl rfl rfl rfl (fun s h => by cases h) ?_)
   rintro nf2 ⟨m2, rows1, l1, i2, v8⟩ h
   replace h : law10zWalkOnceL2B back circle mem1 pick2 (law10zWalkOnceL2 back circle mem1 pick2 nf2) m2 rows1 l1 i2 = some true := h
   unfold law10zWalkOnceL2B at h
   refine Tk_seq (Tk_seq (Tk_region (Tops_step rfl (OpT_move rfl rfl rfl rfl) ?_)))
   refine Tops_step rfl (OpT_move rfl rfl rfl rfl) ?_
   refine Tops_step rfl (OpT_bin rfl rfl rfl rfl rfl (bin_lss_i (a := i2) (b := wi ((1 : Int) + pick2)))) ?_
   refine Tops_nil (Tk_wkS (fr' := [(3, some (vI (wi ((1 : Int) + pick2)))), (4, some (vI back)), (5, some (vB circle)), (16, some (.pointer (some ⟨b1, 0, none⟩))), (14, some (.pointer (some ⟨b2, 0, none⟩))), (18, some (v8)), (20, some (vI i2)), (69, some (vB (decide (i2 < (wi ((1 : Int) + pick2))))))]) (own' := [some (cellsR b1 29 [vB m2.Packed, vI m2.Size, vU64 m2.Desc, vU64 m2.Driver, vU64 m2.Device]), some (cellsR b2 113 [v3, v4]), some (rowsX u8S true v4 vs1 rows1 none), some (rowS iS v8 l1)]) (shr' := [Fact.sl RegionS v3 mem1.l]) [3, 4, 5, 16, 14, 18, 20, 69] [0, 1, 2, 3] [0] rfl rfl rfl rfl ?_)
   rcases Bool.eq_false_or_eq_true (decide (i2 < (wi ((1 : Int) + pick2)))) with hg4 | hg4
   ·replace h := br_t hg4 h
    refine Tk_condT (congrArg (fun b => some (Value.bool b)) hg4) ?_
    refine Tk_skip (Tk_seq (Tk_block (Tk_seq (Tk_region (Tops_step rfl (OpT_move rfl rfl rfl rfl) ?_)))))
    refine Tops_step rfl (OpT_bin rfl rfl rfl rfl rfl (bin_add_i (a := (8000 : Int)) (b := i2))) ?_
    refine Tops_step rfl (OpT_cnv rfl rfl rfl rfl (cnv_i_u64 (n := wi ((8000 : Int) + i2)) Try.underlying3 Try.underlying27)) ?_
    refine Tops_step rfl (OpT_move rfl rfl rfl rfl) ?_
    refine Tops_step rfl (OpT_move rfl rfl rfl rfl) ?_
    refine Tops_step rfl (OpT_move rfl rfl rfl rfl) ?_
    obtain ⟨pick5, hx7, h⟩ := ob_e h
    refine Tops_exP rfl (OpT_call (w_kit_Pick hx7) [] [] rfl rfl rfl rfl rfl callee9 rfl rfl rfl rfl) ?_
    rintro _ ⟨_, _, _, ⟨rfl, rfl, rfl⟩, rfl⟩
    obtain ⟨y1, hx8, h⟩ := ob_e h
    refine Tops_step rfl (OpT_idxO rfl rfl rfl rfl rfl slF32 (i := 3) rfl hx8) ?_
    refine Tops_step rfl (OpT_loadO (S := iS) rfl rfl rfl rfl rfl tyF3 (i := 3) rfl hx8 rfl rfl) ?_
    refine Tops_step rfl (OpT_cnv rfl rfl rfl rfl (cnv_i_u16 (n := y1) Try.underlying3 Try.underlying34)) ?_
    refine Tops_step rfl (OpT_build (v := .agg #[vU64 (u64 (wi ((8000 : Int) + i2))), vU32 (1 : UInt32), vU16 (1 : UInt16), vU16 (u16 y1)]) rfl rfl rfl rfl (bldV (by kernel_rfl))) ?_
    refine Tops_ex rfl (OpT_alloc rfl rfl rfl tyZ36) fun b3 => ?_
    refine Tops_step rfl (OpT_storeC (cs' := [vU64 (u64 (wi ((8000 : Int) + i2))), vU32 (1 : UInt32), vU16 (1 : UInt16), vU16 (u16 y1)]) rfl rfl rfl rfl tyF36 (i := 4) rfl rfl rfl (one_of rfl) rfl) ?_
    refine Tops_nil (Tk_wkS (fr' := [(3, some (vI (wi ((1 : Int) + pick2)))), (4, some (vI back)), (5, some (vB circle)), (16, some (.pointer (some ⟨b1, 0, none⟩))), (14, some (.pointer (some ⟨b2, 0, none⟩))), (18, some (v8)), (20, some (vI i2)), (21, some (.pointer (some ⟨b3, 0, none⟩)))]) (own' := [some (cellsR b1 29 [vB m2.Packed, vI m2.Size, vU64 m2.Desc, vU64 m2.Driver, vU64 m2.Device]), some (cellsR b2 113 [v3, v4]), some (rowsX u8S true v4 vs1 rows1 none), some (rowS iS v8 l1), some (cellsR b3 36 [vU64 (u64 (wi ((8000 : Int) + i2))), vU32 (1 : UInt32), vU16 (1 : UInt16), vU16 (u16 y1)])]) (shr' := [Fact.sl RegionS v3 mem1.l]) [3, 4, 5, 16, 14, 18, 20, 21] [0, 1, 2, 3, 4] [0] rfl rfl rfl rfl ?_)
    refine Tk_seq (Tk_seq (Tk_region (Tops_step rfl (OpT_move rfl rfl rfl rfl) ?_)))
    refine Tops_step rfl (OpT_bin rfl rfl rfl rfl rfl (bin_add_i (a := i2) (b := (1 : Int)))) ?_
    refine Tops_step rfl (OpT_move rfl rfl rfl rfl) ?_
    refine Tops_step rfl (OpT_bin rfl rfl rfl rfl rfl (bin_lss_i (a := wi (i2 + (1 : Int))) (b := wi ((1 : Int) + pick2)))) ?_
    refine Tops_nil (Tk_wkS (fr' := [(3, some (vI (wi ((1 : Int) + pick2)))), (4, some (vI back)), (5, some (vB circle)), (16, some (.pointer (some ⟨b1, 0, none⟩))), (14, some (.pointer (some ⟨b2, 0, none⟩))), (18, some (v8)), (20, some (vI i2)), (21, some (.pointer (some ⟨b3, 0, none⟩))), (86, some (vB (decide ((wi (i2 + (1 : Int))) < (wi ((1 : Int) + pick2))))))]) (own' := [some (cellsR b1 29 [vB m2.Packed, vI m2.Size, vU64 m2.Desc, vU64 m2.Driver, vU64 m2.Device]), some (cellsR b2 113 [v3, v4]), some (rowsX u8S true v4 vs1 rows1 none), some (rowS iS v8 l1), some (cellsR b3 36 [vU64 (u64 (wi ((8000 : Int) + i2))), vU32 (1 : UInt32), vU16 (1 : UInt16), vU16 (u16 y1)])]) (shr' := [Fact.sl RegionS v3 mem1.l]) [3, 4, 5, 16, 14, 18, 20, 21, 86] [0, 1, 2, 3, 4] [0] rfl rfl rfl rfl ?_)
    refine Tk_join (α := Rings × (List Int) × Desc × Value) (fun s => ⟨[(3, some (vI (wi ((1 : Int) + pick2)))), (4, some (vI back)), (5, some (vB circle)), (16, some (.pointer (some ⟨b1, 0, none⟩))), (14, some (.pointer (some ⟨b2, 0, none⟩))), (18, some (s.2.2.2)), (20, some (vI i2)), (21, some (.pointer (some ⟨b3, 0, none⟩)))], [some (cellsR b1 29 [vB s.1.Packed, vI s.1.Size, vU64 s.1.Desc, vU64 s.1.Driver, vU64 s.1.Device]), some (cellsR b2 113 [v3, v4]), some (rowsX u8S true v4 vs1 rows1 none), some (rowS iS s.2.2.2 s.2.1), some (cellsR b3 36 [vU64 s.2.2.1.Addr, vU32 s.2.2.1.Len, vU16 s.2.2.1.Flags, vU16 s.2.2.1.Next])], [Fact.sl RegionS v3 mem1.l]⟩) (fun s => law10zWalkOnceJ3 mem1 rows1 i2 (law10zWalkOnceL2 back circle mem1 pick2 nf2) s.1 s.2.1 s.2.2.1 = some true) ?_ ?_
    ·rintro ⟨m3, l2, m4, v9⟩ h
     replace h : law10zWalkOnceJ3 mem1 rows1 i2 (law10zWalkOnceL2 back circle mem1 pick2 nf2) m3 l2 m4 = some true := h
     unfold law10zWalkOnceJ3 at h
     refine Tk_drawT (by kernel_rfl) ?_
     refine TA_tb [0, 0, 2, 0, 0, 24, 56, 120, 248, 510, 0, 1024, 4095] (by kernel_rfl) fun htb => ?_
     obtain ⟨y2, hx9, h⟩ := ob_e h
     obtain ⟨bytes1, hx10, h⟩ := ob_e h
     refine TA_seg (lo := 0) (hi := 12) htb rfl rfl (by kernel_rfl) (fun c L a w => ∃ (v10 : Value), Sat c ⟨[(3, some (vI (wi ((1 : Int) + pick2)))), (4, some (vI back)), (5, some (vB circle)), (16, some (.pointer (some ⟨b1, 0, none⟩))), (14, some (.pointer (some ⟨b2, 0, none⟩))), (18, some (v9)), (20, some (vI i2)), (21, some (.pointer (some ⟨b3, 0, none⟩))), (97, bif L 0 then some (.pointer (some ⟨b2, 0, none⟩)) else none), (98, bif L 1 then some (.pointer (some ⟨b1, 2, none⟩)) else none), (99, bif L 2 then some (vU64 m3.Desc) else none), (100, bif L 3 then some (v9) else none), (101, bif L 4 then some (vI i2) else none), (102, bif L 5 then some (rowPtr v9 (Int.toNat i2 * 1)) else none), (103, bif L 6 then some (vI y2) else none), (104, bif L 7 then some (vU64 (u64 y2)) else none), (105, bif L 8 then some (vU64 ((16 : UInt64) * (u64 y2))) else none), (106, bif L 9 then some (vU64 (m3.Desc + ((16 : UInt64) * (u64 y2)))) else none), (107, bif L 10 then some (.agg #[vU64 m4.Addr, vU32 m4.Len, vU16 m4.Flags, vU16 m4.Next]) else none), (108, bif L 11 then some (v10) else none)], [(some (cellsR b1 29 [vB m3.Packed, vI m3.Size, vU64 m3.Desc, vU64 m3.Driver, vU64 m3.Device]) : Option Res), (some (cellsR b2 113 [v3, v4]) : Option Res), (some (rowsX u8S true v4 vs1 rows1 none) : Option Res), (some (rowS iS v9 l2) : Option Res), (some (cellsR b3 36 [vU64 m4.Addr, vU32 m4.Len, vU16 m4.Flags, vU16 m4.Next]) : Option Res)], [Fact.sl RegionS v3 mem1.l, (bif L 11 then Fact.sl u8S v10 bytes1 else Fact.tt)]⟩ a w) [([], []), ([], [2, 9]), ([1], [9]), ([], [5, 6, 7, 8, 9]), ([], [5, 6, 7, 8, 9]), ([3, 4], [6, 7, 8, 9]), ([3, 4, 5], [7, 8, 9]), ([3, 4, 5, 6], [8, 9]), ([3, 4, 5, 6, 7], [9]), ([1, 2, 3, 4, 5, 6, 7, 8], []), ([], [11]), ([10], [])] rfl (by kernel_rfl) ?_ (steps_cons ?_ (steps_cons ?_ (steps_cons ?_ (steps_cons ?_ (steps_cons ?_ (steps_cons ?_ (steps_cons ?_ (steps_cons ?_ (steps_cons ?_ (steps_cons ?_ (steps_cons ?_ (steps_cons ?_ (steps_nil))))))))))))) ?_
     ·intro a w hs
      exact ⟨undef, hs.startF [97, 98, 99, 100, 101, 102, 103, 104, 105, 106, 107, 108] [0, 1, 2, 3, 4] [0, 1] rfl rfl rfl rfl⟩
     ·intro L a w hv K Q hK
      obtain ⟨v10, hs⟩ := hv
      refine wpOp_go rfl rfl hs (OpT_move rfl rfl rfl rfl) ?_
      rintro _ rfl a' w' hs'
      exact hK a' w' ⟨v10, hs'.putF (i := 8) rfl [0, 1, 2, 3, 4] [0, 1] rfl rfl rfl rfl⟩
     ·intro L a w hv K Q hK
      obtain ⟨v10, hs⟩ := hv
      refine wpOp_go rfl rfl hs (OpT_fieldC rfl rfl rfl rfl fldF29x2) ?_
      rintro _ rfl a' w' hs'
      exact hK a' w' ⟨v10, hs'.putF (i := 9) rfl [0, 1, 2, 3, 4] [0, 1] rfl rfl rfl rfl⟩
     ·intro L a w hv K Q hK
      obtain ⟨v10, hs⟩ := hv
      refine wpOp_go rfl rfl hs (OpT_loadC rfl rfl rfl rfl tyF27 (i := 0) rfl rfl) ?_
      rintro _ rfl a' w' hs'
      exact hK a' w' ⟨v10, hs'.putF (i := 10) rfl [0, 1, 2, 3, 4] [0, 1] rfl rfl rfl rfl⟩
     ·intro L a w hv K Q hK
      obtain ⟨v10, hs⟩ := hv
      refine wpOp_go rfl rfl hs (OpT_move rfl rfl rfl rfl) ?_
      rintro _ rfl a' w' hs'
      exact hK a' w' ⟨v10, hs'.putF (i := 11) rfl [0, 1, 2, 3, 4] [0, 1] rfl rfl rfl rfl⟩
     ·intro L a w hv K Q hK
      obtain ⟨v10, hs⟩ := hv
      refine wpOp_go rfl rfl hs (OpT_move rfl rfl rfl rfl) ?_
      rintro _ rfl a' w' hs'
      exact hK a' w' ⟨v10, hs'.putF (i := 12) rfl [0, 1, 2, 3, 4] [0, 1] rfl rfl rfl rfl⟩
     ·intro L a w hv K Q hK
      obtain ⟨v10, hs⟩ := hv
      refine wpOp_go rfl rfl hs (OpT_idxO rfl rfl rfl rfl rfl slF32 (i := 3) rfl hx9) ?_
      rintro _ rfl a' w' hs'
      exact hK a' w' ⟨v10, hs'.putF (i := 13) rfl [0, 1, 2, 3, 4] [0, 1] rfl rfl rfl rfl⟩
     ·intro L a w hv K Q hK
      obtain ⟨v10, hs⟩ := hv
      refine wpOp_go rfl rfl hs (OpT_loadO (S := iS) rfl rfl rfl rfl rfl tyF3 (i := 3) rfl hx9 rfl rfl) ?_
      rintro _ rfl a' w' hs'
      exact hK a' w' ⟨v10, hs'.putF (i := 14) rfl [0, 1, 2, 3, 4] [0, 1] rfl rfl rfl rfl⟩
     ·intro L a w hv K Q hK
      obtain ⟨v10, hs⟩ := hv
      refine wpOp_go rfl rfl hs (OpT_cnv rfl rfl rfl rfl (cnv_i_u64 (n := y2) Try.underlying3 Try.underlying27)) ?_
      rintro _ rfl a' w' hs'
      exact hK a' w' ⟨v10, hs'.putF (i := 15) rfl [0, 1, 2, 3, 4] [0, 1] rfl rfl rfl rfl⟩
     ·intro L a w hv K Q hK
      obtain ⟨v10, hs⟩ := hv
      refine wpOp_go rfl rfl hs (OpT_bin rfl rfl rfl rfl rfl (bin_mul_u64 (a := (16 : UInt64)) (b := u64 y2))) ?_
      rintro _ rfl a' w' hs'
      exact hK a' w' ⟨v10, hs'.putF (i := 16) rfl [0, 1, 2, 3, 4] [0, 1] rfl rfl rfl rfl⟩
     ·intro L a w hv K Q hK
      obtain ⟨v10, hs⟩ := hv
      refine wpOp_go rfl rfl hs (OpT_bin rfl rfl rfl rfl rfl (bin_add_u64 (a := m3.Desc) (b := (16 : UInt64) * (u64 y2)))) ?_
      rintro _ rfl a' w' hs'
      exact hK a' w' ⟨v10, hs'.putF (i := 17) rfl [0, 1, 2, 3, 4] [0, 1] rfl rfl rfl rfl⟩
     ·intro L a w hv K Q hK
      obtain ⟨v10, hs⟩ := hv
      refine wpOp_go rfl rfl hs (OpT_loadCA (vs := [vU64 m4.Addr, vU32 m4.Len, vU16 m4.Flags, vU16 m4.Next]) rfl rfl rfl rfl tyF36 (i := 4) rfl rfl rfl) ?_
      rintro _ rfl a' w' hs'
      exact hK a' w' ⟨v10, hs'.putF (i := 18) rfl [0, 1, 2, 3, 4] [0, 1] rfl rfl rfl rfl⟩
     ·intro L a w hv K Q hK
      obtain ⟨v10, hs⟩ := hv
      refine wpOp_go rfl rfl hs (OpT_call (ws_ref_Bytes03 hx10) [] [] rfl rfl rfl rfl rfl callee12 rfl rfl rfl rfl) ?_
      rintro _ ⟨v10', _, _, ⟨_, rfl, rfl, rfl⟩, rfl⟩ a' w' hs'
      exact hK a' w' ⟨v10', hs'.putF (i := 19) rfl [0, 1, 2, 3, 4] [0, 2] rfl rfl rfl rfl⟩
     ·intro L a w hL hv
      rw [allTrue hL] at hv
      obtain ⟨v10, hs⟩ := hv
      refine (show TA _ _ _ 12 ⟨[(3, some (vI (wi ((1 : Int) + pick2)))), (4, some (vI back)), (5, some (vB circle)), (16, some (.pointer (some ⟨b1, 0, none⟩))), (14, some (.pointer (some ⟨b2, 0, none⟩))), (18, some (v9)), (20, some (vI i2)), (97, some (.pointer (some ⟨b2, 0, none⟩))), (106, some (vU64 (m3.Desc + ((16 : UInt64) * (u64 y2))))), (108, some (v10))], [some (cellsR b1 29 [vB m3.Packed, vI m3.Size, vU64 m3.Desc, vU64 m3.Driver, vU64 m3.Device]), some (cellsR b2 113 [v3, v4]), some (rowsX u8S true v4 vs1 rows1 none), some (rowS iS v9 l2)], [Fact.sl RegionS v3 mem1.l, Fact.sl u8S v10 bytes1]⟩ from ?_) a w (hs.wkS [3, 4, 5, 16, 14, 18, 20, 97, 106, 108] [0, 1, 2, 3] [0, 1] rfl rfl rfl rfl)
      clear hs hL
      obtain ⟨write1, hx11, h⟩ := ob_e h
      refine TA_exP htb (by kernel_rfl) rfl rfl (OpT_callP [0, 4, 5, 3] (w_gmem_Mem_Write hx11) [1, 2] [0, 1] rfl rfl rfl rfl rfl callee11 rfl rfl rfl rfl rfl) ?_
      rintro _ ⟨_, _, _, ⟨rfl, rfl, rfl⟩, rfl⟩
      refine TA_end rfl ?_
      refine Tk_wkS (fr' := [(3, some (vI (wi ((1 : Int) + pick2)))), (4, some (vI back)), (5, some (vB circle)), (16, some (.pointer (some ⟨b1, 0, none⟩))), (14, some (.pointer (some ⟨b2, 0, none⟩))), (18, some (v9)), (20, some (vI i2))]) (own' := [some (cellsR b1 29 [vB m3.Packed, vI m3.Size, vU64 m3.Desc, vU64 m3.Driver, vU64 m3.Device]), some (cellsR b2 113 [v3, v4]), some (rowsX u8S true v4 vs1 write1.2 none), some (rowS iS v9 l2)]) (shr' := [Fact.sl RegionS v3 mem1.l]) [3, 4, 5, 16, 14, 18, 20] [0, 1, 2, 3] [0] rfl rfl rfl rfl ?_
      refine Tk_blk (Tk_region (Tops_step rfl (OpT_move rfl rfl rfl rfl) ?_))
      refine Tops_step rfl (OpT_bin rfl rfl rfl rfl rfl (bin_add_i (a := i2) (b := (1 : Int)))) ?_
      refine Tops_step rfl (OpT_assign rfl rfl rfl rfl) ?_
      refine Tops_nil (Tk_wkS (fr' := [(3, some (vI (wi ((1 : Int) + pick2)))), (4, some (vI back)), (5, some (vB circle)), (16, some (.pointer (some ⟨b1, 0, none⟩))), (14, some (.pointer (some ⟨b2, 0, none⟩))), (18, some (v9)), (20, some (vI (wi (i2 + (1 : Int)))))]) (own' := [some (cellsR b1 29 [vB m3.Packed, vI m3.Size, vU64 m3.Desc, vU64 m3.Driver, vU64 m3.Device]), some (cellsR b2 113 [v3, v4]), some (rowsX u8S true v4 vs1 write1.2 none), some (rowS iS v9 l2)]) (shr' := [Fact.sl RegionS v3 mem1.l]) [3, 4, 5, 16, 14, 18, 20] [0, 1, 2, 3] [0] rfl rfl rfl rfl ?_)
      exact Tk_backS (m3, write1.2, l2, wi (i2 + (1 : Int)), v9) h [3, 4, 5, 16, 14, 18, 20] [0, 1, 2, 3] [0] rfl rfl rfl rfl rfl
    ·intro HJ1
     rcases Bool.eq_false_or_eq_true (decide ((wi (i2 + (1 : Int))) < (wi ((1 : Int) + pick2)))) with hg5 | hg5
     ·replace h := br_t hg5 h
      refine Tk_condT (congrArg (fun b => some (Value.bool b)) hg5) ?_
      refine Tk_region (Tops_step rfl (OpT_move rfl rfl rfl rfl) ?_)
      refine Tops_step rfl (OpT_move rfl rfl rfl rfl) ?_
      refine Tops_step rfl (OpT_bin rfl rfl rfl rfl rfl (bin_add_i (a := i2) (b := (1 : Int)))) ?_
      obtain ⟨y3, hx12, h⟩ := ob_e h
      refine Tops_step rfl (OpT_idxO rfl rfl rfl rfl rfl slF32 (i := 3) rfl hx12) ?_
      refine Tops_step rfl (OpT_loadO (S := iS) rfl rfl rfl rfl rfl tyF3 (i := 3) rfl hx12 rfl rfl) ?_
      refine Tops_step rfl (OpT_cnv rfl rfl rfl rfl (cnv_i_u16 (n := y3) Try.underlying3 Try.underlying34)) ?_
      refine Tops_step rfl (OpT_fieldC rfl rfl rfl rfl fldF36x3) ?_
      refine Tops_step rfl (OpT_storeC (cs' := [vU64 (u64 (wi ((8000 : Int) + i2))), vU32 (1 : UInt32), vU16 (1 : UInt16), vU16 (u16 y3)]) rfl rfl rfl rfl tyF34 (i := 4) rfl rfl rfl (one_of rfl) rfl) ?_
      refine Tops_nil (Tk_wkS (fr' := [(3, some (vI (wi ((1 : Int) + pick2)))), (4, some (vI back)), (5, some (vB circle)), (16, some (.pointer (some ⟨b1, 0, none⟩))), (14, some (.pointer (some ⟨b2, 0, none⟩))), (18, some (v8)), (20, some (vI i2)), (21, some (.pointer (some ⟨b3, 0, none⟩)))]) (own' := [some (cellsR b1 29 [vB m2.Packed, vI m2.Size, vU64 m2.Desc, vU64 m2.Driver, vU64 m2.Device]), some (cellsR b2 113 [v3, v4]), some (rowsX u8S true v4 vs1 rows1 none), some (rowS iS v8 l1), some (cellsR b3 36 [vU64 (u64 (wi ((8000 : Int) + i2))), vU32 (1 : UInt32), vU16 (1 : UInt16), vU16 (u16 y3)])]) (shr' := [Fact.sl RegionS v3 mem1.l]) [3, 4, 5, 16, 14, 18, 20, 21] [0, 1, 2, 3, 4] [0] rfl rfl rfl rfl ?_)
      exact Tk_jmpS (HJ1 (m2, l1, (Desc.mk (u64 (wi ((8000 : Int) + i2))) (1 : UInt32) (1 : UInt16) (u16 y3)), v8) h) [3, 4, 5, 16, 14, 18, 20, 21] [0, 1, 2, 3, 4] [0] rfl rfl rfl rfl
     ·replace h := br_f hg5 h
      refine Tk_condF (congrArg (fun b => some (Value.bool b)) hg5) ?_
      refine Tk_seq (Tk_region (Tops_step rfl (OpT_move rfl rfl rfl rfl) ?_))
      refine Tops_step rfl (OpT_not rfl rfl rfl rfl) ?_
      refine Tops_nil (Tk_wkS (fr' := [(3, some (vI (wi ((1 : Int) + pick2)))), (4, some (vI back)), (5, some (vB circle)), (16, some (.pointer (some ⟨b1, 0, none⟩))), (14, some (.pointer (some ⟨b2, 0, none⟩))), (18, some (v8)), (20, some (vI i2)), (21, some (.pointer (some ⟨b3, 0, none⟩))), (95, some (vB (!circle)))]) (own' := [some (cellsR b1 29 [vB m2.Packed, vI m2.Size, vU64 m2.Desc, vU64 m2.Driver, vU64 m2.Device]), some (cellsR b2 113 [v3, v4]), some (rowsX u8S true v4 vs1 rows1 none), some (rowS iS v8 l1), some (cellsR b3 36 [vU64 (u64 (wi ((8000 : Int) + i2))), vU32 (1 : UInt32), vU16 (1 : UInt16), vU16 (u16 y1)])]) (shr' := [Fact.sl RegionS v3 mem1.l]) [3, 4, 5, 16, 14, 18, 20, 21, 95] [0, 1, 2, 3, 4] [0] rfl rfl rfl rfl ?_)
      rcases Bool.eq_false_or_eq_true ((!circle)) with hg6 | hg6
      ·replace h := br_t hg6 h
       refine Tk_condT (congrArg (fun b => some (Value.bool b)) hg6) ?_
       refine Tk_region (Tops_step rfl (OpT_fieldC rfl rfl rfl rfl fldF36x2) ?_)
       refine Tops_step rfl (OpT_storeC (cs' := [vU64 (u64 (wi ((8000 : Int) + i2))), vU32 (1 : UInt32), vU16 (0 : UInt16), vU16 (u16 y1)]) rfl rfl rfl rfl tyF34 (i := 4) rfl rfl rfl (one_of rfl) rfl) ?_
       refine Tops_nil (Tk_wkS (fr' := [(3, some (vI (wi ((1 : Int) + pick2)))), (4, some (vI back)), (5, some (vB circle)), (16, some (.pointer (some ⟨b1, 0, none⟩))), (14, some (.pointer (some ⟨b2, 0, none⟩))), (18, some (v8)), (20, some (vI i2)), (21, some (.pointer (some ⟨b3, 0, none⟩)))]) (own' := [some (cellsR b1 29 [vB m2.Packed, vI m2.Size, vU64 m2.Desc, vU64 m2.Driver, vU64 m2.Device]), some (cellsR b2 113 [v3, v4]), some (rowsX u8S true v4 vs1 rows1 none), some (rowS iS v8 l1), some (cellsR b3 36 [vU64 (u64 (wi ((8000 : Int) + i2))), vU32 (1 : UInt32), vU16 (0 : UInt16), vU16 (u16 y1)])]) (shr' := [Fact.sl RegionS v3 mem1.l]) [3, 4, 5, 16, 14, 18, 20, 21] [0, 1, 2, 3, 4] [0] rfl rfl rfl rfl ?_)
       exact Tk_jmpS (HJ1 (m2, l1, (Desc.mk (u64 (wi ((8000 : Int) + i2))) (1 : UInt32) (0 : UInt16) (u16 y1)), v8) h) [3, 4, 5, 16, 14, 18, 20, 21] [0, 1, 2, 3, 4] [0] rfl rfl rfl rfl
      ·replace h := br_f hg6 h
       refine Tk_condF (congrArg (fun b => some (Value.bool b)) hg6) ?_
       refine Tk_skip ?_
       exact Tk_jmpS (HJ1 (m2, l1, (Desc.mk (u64 (wi ((8000 : Int) + i2))) (1 : UInt32) (1 : UInt16) (u16 y1)), v8) h) [3, 4, 5, 16, 14, 18, 20, 21] [0, 1, 2, 3, 4] [0] rfl rfl rfl rfl
   ·replace h := br_f hg4 h
    refine Tk_condF (congrArg (fun b => some (Value.bool b)) hg4) ?_
    refine Tk_exit _ rfl ?_
    refine Tk_seq (Tk_drawT (by kernel_rfl) ?_)
    refine TA_tb [0, 0, 0, 4, 12, 31, 63, 127, 127, 255, 1023] (by kernel_rfl) fun htb => ?_
    refine TA_wkS (fr' := [(3, some (vI (wi ((1 : Int) + pick2)))), (5, some (vB circle)), (16, some (.pointer (some ⟨b1, 0, none⟩))), (14, some (.pointer (some ⟨b2, 0, none⟩))), (18, some (v8))]) (own' := [some (cellsR b1 29 [vB m2.Packed, vI m2.Size, vU64 m2.Desc, vU64 m2.Driver, vU64 m2.Device]), some (cellsR b2 113 [v3, v4]), some (rowsX u8S true v4 vs1 rows1 none), some (rowS iS v8 l1)]) (shr' := [Fact.sl RegionS v3 mem1.l]) [3, 5, 16, 14, 18] [0, 1, 2, 3] [0] rfl rfl rfl rfl ?_
    obtain ⟨y4, hx13, h⟩ := ob_e h
    refine TA_seg (lo := 0) (hi := 5) htb rfl rfl (by kernel_rfl) (fun c L a w => Sat c ⟨[(3, some (vI (wi ((1 : Int) + pick2)))), (5, some (vB circle)), (16, some (.pointer (some ⟨b1, 0, none⟩))), (14, some (.pointer (some ⟨b2, 0, none⟩))), (18, some (v8)), (111, bif L 0 then some (.pointer (some ⟨b2, 0, none⟩)) else none), (112, bif L 1 then some (.agg #[vB m2.Packed, vI m2.Size, vU64 m2.Desc, vU64 m2.Driver, vU64 m2.Device]) else none), (113, bif L 2 then some (v8) else none), (114, bif L 3 then some (rowPtr v8 (Int.toNat (0 : Int) * 1)) else none), (115, bif L 4 then some (vI y4) else none)], [(some (cellsR b1 29 [vB m2.Packed, vI m2.Size, vU64 m2.Desc, vU64 m2.Driver, vU64 m2.Device]) : Option Res), (some (cellsR b2 113 [v3, v4]) : Option Res), (some (rowsX u8S true v4 vs1 rows1 none) : Option Res), (some (rowS iS v8 l1) : Option Res)], [Fact.sl RegionS v3 mem1.l]⟩ a w) [([], []), ([], []), ([], [3, 4]), ([2], [4]), ([2, 3], [])] rfl (by kernel_rfl) ?_ (steps_cons ?_ (steps_cons ?_ (steps_cons ?_ (steps_cons ?_ (steps_cons ?_ (steps_nil)))))) ?_
    ·intro a w hs
     exact hs.startF [111, 112, 113, 114, 115] [0, 1, 2, 3] [0] rfl rfl rfl rfl
    ·intro L a w hv K Q hK
     have hs := hv
     refine wpOp_go rfl rfl hs (OpT_move rfl rfl rfl rfl) ?_
     rintro _ rfl a' w' hs'
     exact hK a' w' (hs'.putF (i := 5) rfl [0, 1, 2, 3] [0] rfl rfl rfl rfl)
    ·intro L a w hv K Q hK
     have hs := hv
     refine wpOp_go rfl rfl hs (OpT_loadCA (vs := [vB m2.Packed, vI m2.Size, vU64 m2.Desc, vU64 m2.Driver, vU64 m2.Device]) rfl rfl rfl rfl tyF29 (i := 0) rfl rfl rfl) ?_
     rintro _ rfl a' w' hs'
     exact hK a' w' (hs'.putF (i := 6) rfl [0, 1, 2, 3] [0] rfl rfl rfl rfl)
    ·intro L a w hv K Q hK
     have hs := hv
     refine wpOp_go rfl rfl hs (OpT_move rfl rfl rfl rfl) ?_
     rintro _ rfl a' w' hs'
     exact hK a' w' (hs'.putF (i := 7) rfl [0, 1, 2, 3] [0] rfl rfl rfl rfl)
    ·intro L a w hv K Q hK
     have hs := hv
     refine wpOp_go rfl rfl hs (OpT_idxO rfl rfl rfl rfl rfl slF32 (i := 3) rfl hx13) ?_
     rintro _ rfl a' w' hs'
     exact hK a' w' (hs'.putF (i := 8) rfl [0, 1, 2, 3] [0] rfl rfl rfl rfl)
    ·intro L a w hv K Q hK
     have hs := hv
     refine wpOp_go rfl rfl hs (OpT_loadO (S := iS) rfl rfl rfl rfl rfl tyF3 (i := 3) rfl hx13 rfl rfl) ?_
     rintro _ rfl a' w' hs'
     exact hK a' w' (hs'.putF (i := 9) rfl [0, 1, 2, 3] [0] rfl rfl rfl rfl)
    ·intro L a w hL hv
     rw [allTrue hL] at hv
     have hs := hv
     refine (show TA _ _ _ 5 ⟨[(3, some (vI (wi ((1 : Int) + pick2)))), (5, some (vB circle)), (16, some (.pointer (some ⟨b1, 0, none⟩))), (14, some (.pointer (some ⟨b2, 0, none⟩))), (18, some (v8)), (111, some (.pointer (some ⟨b2, 0, none⟩))), (112, some (.agg #[vB m2.Packed, vI m2.Size, vU64 m2.Desc, vU64 m2.Driver, vU64 m2.Device])), (115, some (vI y4))], [some (cellsR b1 29 [vB m2.Packed, vI m2.Size, vU64 m2.Desc, vU64 m2.Driver, vU64 m2.Device]), some (cellsR b2 113 [v3, v4]), some (rowsX u8S true v4 vs1 rows1 none), some (rowS iS v8 l1)], [Fact.sl RegionS v3 mem1.l]⟩ from ?_) a w (hs.wkS [3, 5, 16, 14, 18, 111, 112, 115] [0, 1, 2, 3] [0] rfl rfl rfl rfl)
     clear hs hL
     obtain ⟨split1, hx14, h⟩ := ob_e h
     refine TA_exP htb (by kernel_rfl) rfl rfl (OpT_callP [0, 4, 5, 3] (w_walk_Split hx14) [1, 2] [0] rfl rfl rfl rfl rfl callee13 rfl rfl rfl rfl rfl) ?_
     rintro _ ⟨_, _, _, ⟨v11, rfl, rfl, rfl⟩, rfl⟩
     refine TA_step htb (by kernel_rfl) rfl rfl (OpT_move rfl rfl rfl rfl) ?_
     refine TA_wkS (fr' := [(3, some (vI (wi ((1 : Int) + pick2)))), (5, some (vB circle)), (16, some (.pointer (some ⟨b1, 0, none⟩))), (14, some (.pointer (some ⟨b2, 0, none⟩))), (18, some (v8)), (110, some (.tuple #[v11, vI split1.2]))]) (own' := [some (cellsR b1 29 [vB m2.Packed, vI m2.Size, vU64 m2.Desc, vU64 m2.Driver, vU64 m2.Device]), some (cellsR b2 113 [v3, v4]), some (rowsX u8S true v4 vs1 rows1 none), some (rowS iS v8 l1)]) (shr' := [Fact.sl RegionS v3 mem1.l, Fact.sl SegS v11 split1.1]) [3, 5, 16, 14, 18, 110] [0, 1, 2, 3] [0, 1] rfl rfl rfl rfl ?_
     refine TA_seg (lo := 7) (hi := 10) htb rfl rfl (by kernel_rfl) (fun c L a w => Sat c ⟨[(3, some (vI (wi ((1 : Int) + pick2)))), (5, some (vB circle)), (16, some (.pointer (some ⟨b1, 0, none⟩))), (14, some (.pointer (some ⟨b2, 0, none⟩))), (18, some (v8)), (110, some (.tuple #[v11, vI split1.2])), (117, bif L 7 then some (v11) else none), (118, bif L 8 then some (vI split1.2) else none), (22, bif L 9 then some (v11) else none)], [(some (cellsR b1 29 [vB m2.Packed, vI m2.Size, vU64 m2.Desc, vU64 m2.Driver, vU64 m2.Device]) : Option Res), (some (cellsR b2 113 [v3, v4]) : Option Res), (some (rowsX u8S true v4 vs1 rows1 none) : Option Res), (some (rowS iS v8 l1) : Option Res)], [Fact.sl RegionS v3 mem1.l, Fact.sl SegS v11 split1.1]⟩ a w) [([], [9]), ([], []), ([7], [])] rfl (by kernel_rfl) ?_ (steps_cons ?_ (steps_cons ?_ (steps_cons ?_ (steps_nil)))) ?_
     ·intro a w hs
      exact hs.startF [117, 118, 22] [0, 1, 2, 3] [0, 1] rfl rfl rfl rfl
     ·intro L a w hv K Q hK
      have hs := hv
      refine wpOp_go rfl rfl hs (OpT_extract rfl rfl rfl rfl rfl) ?_
      rintro _ rfl a' w' hs'
      exact hK a' w' (hs'.putF (i := 6) rfl [0, 1, 2, 3] [0, 1] rfl rfl rfl rfl)
     ·intro L a w hv K Q hK
      have hs := hv
      refine wpOp_go rfl rfl hs (OpT_extract rfl rfl rfl rfl rfl) ?_
      rintro _ rfl a' w' hs'
      exact hK a' w' (hs'.putF (i := 7) rfl [0, 1, 2, 3] [0, 1] rfl rfl rfl rfl)
     ·intro L a w hv K Q hK
      have hs := hv
      refine wpOp_go rfl rfl hs (OpT_assign rfl rfl rfl rfl) ?_
      rintro _ rfl a' w' hs'
      exact hK a' w' (hs'.putF (i := 8) rfl [0, 1, 2, 3] [0, 1] rfl rfl rfl rfl)
     ·intro L a w hL hv
      rw [allTrue hL] at hv
      have hs := hv
      refine (show TA _ _ _ 10 ⟨[(3, some (vI (wi ((1 : Int) + pick2)))), (5, some (vB circle)), (16, some (.pointer (some ⟨b1, 0, none⟩))), (14, some (.pointer (some ⟨b2, 0, none⟩))), (18, some (v8)), (118, some (vI split1.2)), (22, some (v11))], [some (cellsR b1 29 [vB m2.Packed, vI m2.Size, vU64 m2.Desc, vU64 m2.Driver, vU64 m2.Device]), some (cellsR b2 113 [v3, v4]), some (rowsX u8S true v4 vs1 rows1 none), some (rowS iS v8 l1)], [Fact.sl RegionS v3 mem1.l, Fact.sl SegS v11 split1.1]⟩ from ?_) a w (hs.wkS [3, 5, 16, 14, 18, 118, 22] [0, 1, 2, 3] [0, 1] rfl rfl rfl rfl)
      clear hs hL
      refine TA_step htb (by kernel_rfl) rfl rfl (OpT_assign rfl rfl rfl rfl) ?_
      refine TA_end rfl ?_
      refine Tk_wkS (fr' := [(3, some (vI (wi ((1 : Int) + pick2)))), (5, some (vB circle)), (16, some (.pointer (some ⟨b1, 0, none⟩))), (14, some (.pointer (some ⟨b2, 0, none⟩))), (18, some (v8)), (22, some (v11)), (23, some (vI split1.2))]) (own' := [some (cellsR b1 29 [vB m2.Packed, vI m2.Size, vU64 m2.Desc, vU64 m2.Driver, vU64 m2.Device]), some (cellsR b2 113 [v3, v4]), some (rowsX u8S true v4 vs1 rows1 none), some (rowS iS v8 l1)]) (shr' := [Fact.sl RegionS v3 mem1.l, Fact.sl SegS v11 split1.1]) [3, 5, 16, 14, 18, 22, 23] [0, 1, 2, 3] [0, 1] rfl rfl rfl rfl ?_
      refine Tk_seq (Tk_seq (Tk_drawT (by kernel_rfl) ?_))
      refine TA_tb [0, 0, 0, 4, 12, 31, 0, 127] (by kernel_rfl) fun htb => ?_
      obtain ⟨y5, hx15, h⟩ := ob_e h
      obtain ⟨reads1, hx16, h⟩ := ob_e h
      refine TA_seg (lo := 0) (hi := 7) htb rfl rfl (by kernel_rfl) (fun c L a w => Sat c ⟨[(3, some (vI (wi ((1 : Int) + pick2)))), (5, some (vB circle)), (16, some (.pointer (some ⟨b1, 0, none⟩))), (14, some (.pointer (some ⟨b2, 0, none⟩))), (18, some (v8)), (22, some (v11)), (23, some (vI split1.2)), (119, bif L 0 then some (.pointer (some ⟨b2, 0, none⟩)) else none), (120, bif L 1 then some (.agg #[vB m2.Packed, vI m2.Size, vU64 m2.Desc, vU64 m2.Driver, vU64 m2.Device]) else none), (121, bif L 2 then some (v8) else none), (122, bif L 3 then some (rowPtr v8 (Int.toNat (0 : Int) * 1)) else none), (123, bif L 4 then some (vI y5) else none), (124, bif L 5 then some (vI reads1) else none), (125, bif L 6 then some (vI (wi ((1 : Int) + pick2))) else none)], [(some (cellsR b1 29 [vB m2.Packed, vI m2.Size, vU64 m2.Desc, vU64 m2.Driver, vU64 m2.Device]) : Option Res), (some (cellsR b2 113 [v3, v4]) : Option Res), (some (rowsX u8S true v4 vs1 rows1 none) : Option Res), (some (rowS iS v8 l1) : Option Res)], [Fact.sl RegionS v3 mem1.l, Fact.sl SegS v11 split1.1]⟩ a w) [([], [5]), ([], [5]), ([], [3, 4, 5]), ([2], [4, 5]), ([2, 3], [5]), ([0, 1, 2, 3, 4], []), ([], [])] rfl (by kernel_rfl) ?_ (steps_cons ?_ (steps_cons ?_ (steps_cons ?_ (steps_cons ?_ (steps_cons ?_ (steps_cons ?_ (steps_cons ?_ (steps_nil)))))))) ?_
      ·intro a w hs
       exact hs.startF [119, 120, 121, 122, 123, 124, 125] [0, 1, 2, 3] [0, 1] rfl rfl rfl rfl
      ·intro L a w hv K Q hK
       have hs := hv
       refine wpOp_go rfl rfl hs (OpT_move rfl rfl rfl rfl) ?_
       rintro _ rfl a' w' hs'
       exact hK a' w' (hs'.putF (i := 7) rfl [0, 1, 2, 3] [0, 1] rfl rfl rfl rfl)
      ·intro L a w hv K Q hK
       have hs := hv
       refine wpOp_go rfl rfl hs (OpT_loadCA (vs := [vB m2.Packed, vI m2.Size, vU64 m2.Desc, vU64 m2.Driver, vU64 m2.Device]) rfl rfl rfl rfl tyF29 (i := 0) rfl rfl rfl) ?_
       rintro _ rfl a' w' hs'
       exact hK a' w' (hs'.putF (i := 8) rfl [0, 1, 2, 3] [0, 1] rfl rfl rfl rfl)
      ·intro L a w hv K Q hK
       have hs := hv
       refine wpOp_go rfl rfl hs (OpT_move rfl rfl rfl rfl) ?_
       rintro _ rfl a' w' hs'
       exact hK a' w' (hs'.putF (i := 9) rfl [0, 1, 2, 3] [0, 1] rfl rfl rfl rfl)
      ·intro L a w hv K Q hK
       have hs := hv
       refine wpOp_go rfl rfl hs (OpT_idxO rfl rfl rfl rfl rfl slF32 (i := 3) rfl hx15) ?_
       rintro _ rfl a' w' hs'
       exact hK a' w' (hs'.putF (i := 10) rfl [0, 1, 2, 3] [0, 1] rfl rfl rfl rfl)
      ·intro L a w hv K Q hK
       have hs := hv
       refine wpOp_go rfl rfl hs (OpT_loadO (S := iS) rfl rfl rfl rfl rfl tyF3 (i := 3) rfl hx15 rfl rfl) ?_
       rintro _ rfl a' w' hs'
       exact hK a' w' (hs'.putF (i := 11) rfl [0, 1, 2, 3] [0, 1] rfl rfl rfl rfl)
      ·intro L a w hv K Q hK
       have hs := hv
       refine wpOp_go rfl rfl hs (OpT_callP [0, 4, 5, 3] (w_walk_Reads hx16) [1, 2] [0] rfl rfl rfl rfl rfl callee14 rfl rfl rfl rfl rfl) ?_
       rintro _ ⟨_, _, _, ⟨rfl, rfl, rfl⟩, rfl⟩ a' w' hs'
       exact hK a' w' (hs'.putF (i := 12) rfl [0, 1, 2, 3] [0, 1] rfl rfl rfl rfl)
      ·intro L a w hv K Q hK
       have hs := hv
       refine wpOp_go rfl rfl hs (OpT_move rfl rfl rfl rfl) ?_
       rintro _ rfl a' w' hs'
       exact hK a' w' (hs'.putF (i := 13) rfl [0, 1, 2, 3] [0, 1] rfl rfl rfl rfl)
      ·intro L a w hL hv
       rw [allTrue hL] at hv
       have hs := hv
       refine (show TA _ _ _ 7 ⟨[(3, some (vI (wi ((1 : Int) + pick2)))), (5, some (vB circle)), (22, some (v11)), (23, some (vI split1.2)), (124, some (vI reads1)), (125, some (vI (wi ((1 : Int) + pick2))))], [], [Fact.sl SegS v11 split1.1]⟩ from ?_) a w (hs.wkS [3, 5, 22, 23, 124, 125] [] [1] rfl rfl rfl rfl)
       clear hs hL
       refine TA_step htb (by kernel_rfl) rfl rfl (OpT_bin rfl rfl rfl rfl rfl (bin_neq_i (a := reads1) (b := wi ((1 : Int) + pick2)))) ?_
       refine TA_end rfl ?_
       refine Tk_wkS (fr' := [(3, some (vI (wi ((1 : Int) + pick2)))), (5, some (vB circle)), (22, some (v11)), (23, some (vI split1.2)), (126, some (vB (reads1 != (wi ((1 : Int) + pick2)))))]) (own' := []) (shr' := [Fact.sl SegS v11 split1.1]) [3, 5, 22, 23, 126] [] [0] rfl rfl rfl rfl ?_
       obtain ⟨hg7, h⟩ := chk_e h
       replace hg7 := not_t hg7
       refine Tk_condF (congrArg (fun b => some (Value.bool b)) hg7) ?_
       refine Tk_skip (Tk_seq (Tk_seq (Tk_region (Tops_step rfl (OpT_move rfl rfl rfl rfl) ?_))))
       refine Tops_nil (Tk_wkS (fr' := [(3, some (vI (wi ((1 : Int) + pick2)))), (22, some (v11)), (23, some (vI split1.2)), (127, some (vB circle))]) (own' := []) (shr' := [Fact.sl SegS v11 split1.1]) [3, 22, 23, 127] [] [0] rfl rfl rfl rfl ?_)
       rcases Bool.eq_false_or_eq_true (circle) with hg8 | hg8
       ·replace h := br_t hg8 h
        refine Tk_condT (congrArg (fun b => some (Value.bool b)) hg8) ?_
        refine Tk_seq (Tk_region (Tops_step rfl (OpT_move rfl rfl rfl rfl) ?_))
        refine Tops_step rfl (OpT_bin rfl rfl rfl rfl rfl (bin_eql_i (a := split1.2) (b := (4 : Int)))) ?_
        refine Tops_step rfl (OpT_move rfl rfl rfl rfl) ?_
        obtain ⟨hg9, h⟩ := chk_e h
        refine Tops_yes rfl rfl (congrArg (fun b => some (Value.bool b)) hg9) (OpT_move rfl rfl rfl rfl) ?_
        rintro _ rfl
        refine Tops_yes rfl rfl (congrArg (fun b => some (Value.bool b)) hg9) (OpT_lenS rfl rfl rfl rfl Try.underlying41 (i := 0) rfl) ?_
        rintro _ rfl
        refine Tops_yes rfl rfl (congrArg (fun b => some (Value.bool b)) hg9) (OpT_bin rfl rfl rfl rfl rfl (bin_eql_i (a := len split1.1) (b := (0 : Int)))) ?_
        rintro _ rfl
        refine Tops_step rfl (OpT_pickT rfl rfl rfl (congrArg (fun b => some (Value.bool b)) hg9) rfl) ?_
        refine Tops_step rfl (OpT_assign rfl rfl rfl rfl) ?_
        refine Tops_nil (Tk_wkS (fr' := [(12, some (vB ((len split1.1) == (0 : Int))))]) (own' := []) (shr' := []) [12] [] [] rfl rfl rfl rfl ?_)
        obtain ⟨hg10, h⟩ := chk_e h
        exact Tk_retV rfl rfl (resA (vs := [.bool true]) rfl ⟨(congrArg (fun b => some (Value.bool b)) hg10), trivial⟩) [] [] rfl rfl rfl ⟨rfl, rfl, rfl⟩
       ·replace h := br_f hg8 h
        refine Tk_condF (congrArg (fun b => some (Value.bool b)) hg8) ?_
        refine Tk_skip (Tk_seq (Tk_seq (Tk_region (Tops_step rfl (OpT_move rfl rfl rfl rfl) ?_))))
        refine Tops_step rfl (OpT_bin rfl rfl rfl rfl rfl (bin_neq_i (a := split1.2) (b := (0 : Int)))) ?_
        refine Tops_step rfl (OpT_move rfl rfl rfl rfl) ?_
        obtain ⟨hg11, h⟩ := chk_e h
        replace hg11 := not_t hg11
        refine Tops_yes rfl rfl (congrArg (fun b => some (Value.bool b)) hg11) (OpT_move rfl rfl rfl rfl) ?_
        rintro _ rfl
        refine Tops_yes rfl rfl (congrArg (fun b => some (Value.bool b)) hg11) (OpT_lenS rfl rfl rfl rfl Try.underlying41 (i := 0) rfl) ?_
        rintro _ rfl
        refine Tops_yes rfl rfl (congrArg (fun b => some (Value.bool b)) hg11) (OpT_move rfl rfl rfl rfl) ?_
        rintro _ rfl
        refine Tops_yes rfl rfl (congrArg (fun b => some (Value.bool b)) hg11) (OpT_bin rfl rfl rfl rfl rfl (bin_neq_i (a := len split1.1) (b := wi ((1 : Int) + pick2)))) ?_
        rintro _ rfl
        refine Tops_step rfl (OpT_pickF rfl rfl rfl (congrArg (fun b => some (Value.bool b)) hg11) rfl) ?_
        refine Tops_nil (Tk_wkS (fr' := [(3, some (vI (wi ((1 : Int) + pick2)))), (22, some (v11)), (142, some (vB ((len split1.1) != (wi ((1 : Int) + pick2)))))]) (own' := []) (shr' := [Fact.sl SegS v11 split1.1]) [3, 22, 142] [] [0] rfl rfl rfl rfl ?_)
        obtain ⟨hg12, h⟩ := chk_e h
        replace hg12 := not_t hg12
        refine Tk_condF (congrArg (fun b => some (Value.bool b)) hg12) ?_
        refine Tk_skip (Tk_seq (Tk_seq (Tk_region (Tops_step rfl (OpT_assign rfl rfl rfl rfl) ?_))))
        refine Tops_nil (Tk_wkS (fr' := [(3, some (vI (wi ((1 : Int) + pick2)))), (22, some (v11)), (24, some (vI (0 : Int)))]) (own' := []) (shr' := [Fact.sl SegS v11 split1.1]) [3, 22, 24] [] [0] rfl rfl rfl rfl ?_)
        refine Tk_block (Tk_loopS (σ := Int) [3, 22, 24] [] [0] (fun s => ⟨[(3, some (vI (wi ((1 : Int) + pick2)))), (22, some (v11)), (24, some (vI s))], [], [Fact.sl SegS v11 split1.1]⟩) (fun nf4 s => law10zWalkOnceL4 pick2 split1 nf4 s = some true) fuel (0 : Int) h rfl rfl rfl rfl rfl (fun s h => by cases h) ?_)
        rintro nf4 i3 h
        replace h : law10zWalkOnceL4B pick2 split1 (law10zWalkOnceL4 pick2 split1 nf4) i3 = some true := h
        unfold law10zWalkOnceL4B at h
        refine Tk_seq (Tk_seq (Tk_region (Tops_step rfl (OpT_move rfl rfl rfl rfl) ?_)))
        refine Tops_step rfl (OpT_move rfl rfl rfl rfl) ?_
        refine Tops_step rfl (OpT_bin rfl rfl rfl rfl rfl (bin_lss_i (a := i3) (b := wi ((1 : Int) + pick2)))) ?_
        refine Tops_nil (Tk_wkS (fr' := [(3, some (vI (wi ((1 : Int) + pick2)))), (22, some (v11)), (24, some (vI i3)), (145, some (vB (decide (i3 < (wi ((1 : Int) + pick2))))))]) (own' := []) (shr' := [Fact.sl SegS v11 split1.1]) [3, 22, 24, 145] [] [0] rfl rfl rfl rfl ?_)
        rcases Bool.eq_false_or_eq_true (decide (i3 < (wi ((1 : Int) + pick2)))) with hg13 | hg13
        ·replace h := br_t hg13 h
         refine Tk_condT (congrArg (fun b => some (Value.bool b)) hg13) ?_
         refine Tk_skip (Tk_seq (Tk_block (Tk_seq (Tk_region (Tops_step rfl (OpT_move rfl rfl rfl rfl) ?_)))))
         refine Tops_step rfl (OpT_move rfl rfl rfl rfl) ?_
         obtain ⟨s1, hx17, h⟩ := ob_e h
         refine Tops_ex rfl (OpT_idxS rfl rfl rfl rfl rfl slF41 (i := 0) rfl hx17) fun p1 => ?_
         refine Tops_step rfl (OpT_loadPA (vs := [vU64 s1.At, vU32 s1.Len, vB s1.Write]) rfl rfl rfl rfl tyF46 (i := 1) rfl rfl) ?_
         refine Tops_step rfl (OpT_move rfl rfl rfl rfl) ?_
         refine Tops_step rfl (OpT_bin rfl rfl rfl rfl rfl (bin_add_i (a := (8000 : Int)) (b := i3))) ?_
         refine Tops_step rfl (OpT_cnv rfl rfl rfl rfl (cnv_i_u64 (n := wi ((8000 : Int) + i3)) Try.underlying3 Try.underlying27)) ?_
         refine Tops_step rfl (OpT_build (v := .agg #[vU64 (u64 (wi ((8000 : Int) + i3))), vU32 (1 : UInt32), vB false]) rfl rfl rfl rfl (bldV (by kernel_rfl))) ?_
         refine Tops_step rfl (OpT_bin rfl rfl rfl rfl rfl (eqT46_neq s1 (Seg.mk (u64 (wi ((8000 : Int) + i3))) (1 : UInt32) false))) ?_
         refine Tops_nil (Tk_wkS (fr' := [(3, some (vI (wi ((1 : Int) + pick2)))), (22, some (v11)), (24, some (vI i3)), (156, some (vB (s1 != (Seg.mk (u64 (wi ((8000 : Int) + i3))) (1 : UInt32) false))))]) (own' := []) (shr' := [Fact.sl SegS v11 split1.1]) [3, 22, 24, 156] [] [0] rfl rfl rfl rfl ?_)
         obtain ⟨hg14, h⟩ := chk_e h
         replace hg14 := not_t hg14
         refine Tk_condF (congrArg (fun b => some (Value.bool b)) hg14) ?_
         refine Tk_skip (Tk_blk (Tk_region (Tops_step rfl (OpT_move rfl rfl rfl rfl) ?_)))
         refine Tops_step rfl (OpT_bin rfl rfl rfl rfl rfl (bin_add_i (a := i3) (b := (1 : Int)))) ?_
         refine Tops_step rfl (OpT_assign rfl rfl rfl rfl) ?_
         refine Tops_nil (Tk_wkS (fr' := [(3, some (vI (wi ((1 : Int) + pick2)))), (22, some (v11)), (24, some (vI (wi (i3 + (1 : Int)))))]) (own' := []) (shr' := [Fact.sl SegS v11 split1.1]) [3, 22, 24] [] [0] rfl rfl rfl rfl ?_)
         exact Tk_backS (wi (i3 + (1 : Int))) h [3, 22, 24] [] [0] rfl rfl rfl rfl rfl
        ·replace h := br_f hg13 h
         refine Tk_condF (congrArg (fun b => some (Value.bool b)) hg13) ?_
         refine Tk_exit _ rfl ?_
         refine Tk_seq (Tk_region (Tops_step rfl (OpT_assign rfl rfl rfl rfl) ?_))
         refine Tops_nil (Tk_wkS (fr' := [(12, some (vB true))]) (own' := []) (shr' := []) [12] [] [] rfl rfl rfl rfl ?_)
         exact Tk_retV rfl rfl (resA (vs := [.bool true]) rfl ⟨rfl, trivial⟩) [] [] rfl rfl rfl ⟨rfl, rfl, rfl⟩
end Go.Proofs.Ytlofegfaphijpaa
