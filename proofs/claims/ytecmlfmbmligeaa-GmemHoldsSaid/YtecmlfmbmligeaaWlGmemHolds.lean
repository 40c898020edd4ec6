/- The law GmemHolds is walked: it returns what its plain words say. No condition. -/
import Derived.Test.YtecmlfmbmligeaaWa3
namespace Go.Proofs.Ytecmlfmbmligeaa

set_option maxRecDepth 100000 in
set_option maxHeartbeats 4000000 in
theorem w_law02zGmemHolds {l : List Region} {calls : List dumbwaiterlaw02_Act} {vl1 : Value} {vcalls1 : Value}  (h : law02zGmemHolds l calls = some true) :
  Ctr Try.prog 3 #[vl1, vcalls1] [] [Fact.sl RegionS vl1 l, Fact.sl dumbwaiterlaw02_ActS vcalls1 calls]
   (fun rv own shr => rv = .bool true ∧ own = [] ∧ shr = []) := by
 unfold law02zGmemHolds at h
 refine Ctr.mk (args := [vl1, vcalls1]) Try.func3 rfl rfl (fun R0 w0 B => ?_)
 refine Tk_seq (Tk_region (Tops_ex rfl (OpT_box1 rfl rfl rfl rfl (is_sl (i := 0) rfl)) fun b1 => ?_))
 refine Tops_step rfl (OpT_assign rfl rfl rfl rfl) ?_
 refine Tops_nil (Tk_wkS (fr' := [(1, some (vcalls1)), (2, some (.pointer (some ⟨b1, 0, none⟩)))]) (own' := [some (cellsR b1 22 [vl1])]) (shr' := [Fact.sl RegionS vl1 l, Fact.sl dumbwaiterlaw02_ActS vcalls1 calls]) [1, 2] [0] [0, 1] rfl rfl rfl rfl ?_)
 refine Tk_seq (Tk_seq (Tk_region ?_))
 obtain ⟨lives1, hx1, h⟩ := ob_e h
 refine Tops_exP rfl (OpT_call (w_law02zlives hx1) [] [] rfl rfl rfl rfl rfl callee8 rfl rfl rfl rfl) ?_
 rintro _ ⟨_, _, _, ⟨rfl, rfl, rfl⟩, rfl⟩
 refine Tops_step rfl (OpT_not rfl rfl rfl rfl) ?_
 refine Tops_nil (Tk_wkS (fr' := [(1, some (vcalls1)), (2, some (.pointer (some ⟨b1, 0, none⟩))), (25, some (vB (!lives1)))]) (own' := [some (cellsR b1 22 [vl1])]) (shr' := [Fact.sl RegionS vl1 l, Fact.sl dumbwaiterlaw02_ActS vcalls1 calls]) [1, 2, 25] [0] [0, 1] rfl rfl rfl rfl ?_)
 obtain ⟨hg1, h⟩ := chk_e h
 replace hg1 := not_t hg1
 refine Tk_condF (congrArg (fun b => some (Value.bool b)) hg1) ?_
 refine Tk_skip (Tk_seq (Tk_seq (Tk_region (Tops_step rfl (OpT_loadC rfl rfl rfl rfl tyF22 (i := 0) rfl rfl) ?_))))
 obtain ⟨lightr1, hx2, h⟩ := ob_e h
 refine Tops_exP rfl (OpT_call (w_kit_LightRegions hx2) [] [0] rfl rfl rfl rfl rfl callee9 rfl rfl rfl rfl) ?_
 rintro _ ⟨_, _, _, ⟨rfl, rfl, rfl⟩, rfl⟩
 refine Tops_step rfl (OpT_not rfl rfl rfl rfl) ?_
 refine Tops_step rfl (OpT_move rfl rfl rfl rfl) ?_
 rcases Bool.eq_false_or_eq_true ((!lightr1)) with hg2 | hg2
 ·replace h := br_t hg2 h
  refine Tops_no rfl rfl (congrArg (fun b => some (Value.bool b)) hg2) rfl rfl ?_
  refine Tops_no rfl rfl (congrArg (fun b => some (Value.bool b)) hg2) rfl rfl ?_
  refine Tops_no rfl rfl (congrArg (fun b => some (Value.bool b)) hg2) rfl rfl ?_
  refine Tops_step rfl (OpT_pickT rfl rfl rfl (congrArg (fun b => some (Value.bool b)) hg2) rfl) ?_
  refine Tops_step rfl (OpT_move rfl rfl rfl rfl) ?_
  refine Tops_no rfl rfl rfl rfl rfl ?_
  refine Tops_no rfl rfl rfl rfl rfl ?_
  refine Tops_no rfl rfl rfl rfl rfl ?_
  refine Tops_step rfl (OpT_pickT rfl rfl rfl rfl rfl) ?_
  refine Tops_nil (Tk_wkS (fr' := [(1, some (vcalls1)), (2, some (.pointer (some ⟨b1, 0, none⟩))), (38, some (vB true))]) (own' := [some (cellsR b1 22 [vl1])]) (shr' := [Fact.sl RegionS vl1 l, Fact.sl dumbwaiterlaw02_ActS vcalls1 calls]) [1, 2, 38] [0] [0, 1] rfl rfl rfl rfl ?_)
  refine Tk_condT rfl ?_
  refine Tk_seq (Tk_region (Tops_step rfl (OpT_assign rfl rfl rfl rfl) ?_))
  refine Tops_nil (Tk_wkS (fr' := [(4, some (vB true))]) (own' := []) (shr' := []) [4] [] [] rfl rfl rfl rfl ?_)
  exact Tk_retV rfl rfl (resA (vs := [.bool true]) rfl ⟨rfl, trivial⟩) [] [] rfl rfl rfl ⟨rfl, rfl, rfl⟩
 ·replace h := br_f hg2 h
  refine Tops_yes rfl rfl (congrArg (fun b => some (Value.bool b)) hg2) (OpT_move rfl rfl rfl rfl) ?_
  rintro _ rfl
  obtain ⟨small1, hx3, h⟩ := ob_e h
  refine Tops_yes rfl rfl (congrArg (fun b => some (Value.bool b)) hg2) (OpT_call (w_law02zsmall hx3) [] [1] rfl rfl rfl rfl rfl callee10 rfl rfl rfl rfl) ?_
  rintro _ ⟨_, _, _, ⟨rfl, rfl, rfl⟩, rfl⟩
  refine Tops_yes rfl rfl (congrArg (fun b => some (Value.bool b)) hg2) (OpT_not rfl rfl rfl rfl) ?_
  rintro _ rfl
  refine Tops_step rfl (OpT_pickF rfl rfl rfl (congrArg (fun b => some (Value.bool b)) hg2) rfl) ?_
  refine Tops_step rfl (OpT_move rfl rfl rfl rfl) ?_
  rcases Bool.eq_false_or_eq_true ((!small1)) with hg3 | hg3
  ·replace h := br_t hg3 h
   refine Tops_no rfl rfl (congrArg (fun b => some (Value.bool b)) hg3) rfl rfl ?_
   refine Tops_no rfl rfl (congrArg (fun b => some (Value.bool b)) hg3) rfl rfl ?_
   refine Tops_no rfl rfl (congrArg (fun b => some (Value.bool b)) hg3) rfl rfl ?_
   refine Tops_step rfl (OpT_pickT rfl rfl rfl (congrArg (fun b => some (Value.bool b)) hg3) rfl) ?_
   refine Tops_nil (Tk_wkS (fr' := [(1, some (vcalls1)), (2, some (.pointer (some ⟨b1, 0, none⟩))), (38, some (vB true))]) (own' := [some (cellsR b1 22 [vl1])]) (shr' := [Fact.sl RegionS vl1 l, Fact.sl dumbwaiterlaw02_ActS vcalls1 calls]) [1, 2, 38] [0] [0, 1] rfl rfl rfl rfl ?_)
   refine Tk_condT rfl ?_
   refine Tk_seq (Tk_region (Tops_step rfl (OpT_assign rfl rfl rfl rfl) ?_))
   refine Tops_nil (Tk_wkS (fr' := [(4, some (vB true))]) (own' := []) (shr' := []) [4] [] [] rfl rfl rfl rfl ?_)
   exact Tk_retV rfl rfl (resA (vs := [.bool true]) rfl ⟨rfl, trivial⟩) [] [] rfl rfl rfl ⟨rfl, rfl, rfl⟩
  ·replace h := br_f hg3 h
   refine Tops_yes rfl rfl (congrArg (fun b => some (Value.bool b)) hg3) (OpT_loadC rfl rfl rfl rfl tyF22 (i := 0) rfl rfl) ?_
   rintro _ rfl
   obtain ⟨check1, hx4, h⟩ := ob_e h
   refine Tops_yes rfl rfl (congrArg (fun b => some (Value.bool b)) hg3) (OpT_call (w_gmem_Check hx4) [] [0] rfl rfl rfl rfl rfl callee11 rfl rfl rfl rfl) ?_
   rintro _ ⟨_, _, _, ⟨rfl, rfl, rfl⟩, rfl⟩
   refine Tops_yes rfl rfl (congrArg (fun b => some (Value.bool b)) hg3) (OpT_bin rfl rfl rfl rfl rfl (bin_neq_i (a := check1) (b := (0 : Int)))) ?_
   rintro _ rfl
   refine Tops_step rfl (OpT_pickF rfl rfl rfl (congrArg (fun b => some (Value.bool b)) hg3) rfl) ?_
   refine Tops_nil (Tk_wkS (fr' := [(1, some (vcalls1)), (2, some (.pointer (some ⟨b1, 0, none⟩))), (38, some (vB (check1 != (0 : Int))))]) (own' := [some (cellsR b1 22 [vl1])]) (shr' := [Fact.sl RegionS vl1 l, Fact.sl dumbwaiterlaw02_ActS vcalls1 calls]) [1, 2, 38] [0] [0, 1] rfl rfl rfl rfl ?_)
   rcases Bool.eq_false_or_eq_true (check1 != (0 : Int)) with hg4 | hg4
   ·replace h := br_t hg4 h
    refine Tk_condT (congrArg (fun b => some (Value.bool b)) hg4) ?_
    refine Tk_seq (Tk_region (Tops_step rfl (OpT_assign rfl rfl rfl rfl) ?_))
    refine Tops_nil (Tk_wkS (fr' := [(4, some (vB true))]) (own' := []) (shr' := []) [4] [] [] rfl rfl rfl rfl ?_)
    exact Tk_retV rfl rfl (resA (vs := [.bool true]) rfl ⟨rfl, trivial⟩) [] [] rfl rfl rfl ⟨rfl, rfl, rfl⟩
   ·replace h := br_f hg4 h
    refine Tk_condF (congrArg (fun b => some (Value.bool b)) hg4) ?_
    refine Tk_skip (Tk_seq (Tk_region (Tops_step rfl (OpT_loadC rfl rfl rfl rfl tyF22 (i := 0) rfl rfl) ?_)))
    obtain ⟨region1, hx5, h⟩ := ob_e h
    refine Tops_exP rfl (OpT_call (w_kit_Regions hx5) [] [0] rfl rfl rfl rfl rfl callee13 rfl rfl rfl rfl) ?_
    rintro _ ⟨v1, _, _, ⟨_, rfl, rfl, rfl⟩, rfl⟩
    refine Tops_retire (i := 1) rfl ?_
    obtain ⟨new1, hx6, h⟩ := ob_e h
    refine Tops_exP rfl (OpT_call (w_gmem_New hx6) [] [2] rfl rfl rfl rfl rfl callee12 rfl rfl rfl rfl) ?_
    rintro _ ⟨_, _, _, ⟨v2, rfl, rfl, rfl⟩, rfl⟩
    refine Tops_step rfl (OpT_move rfl rfl rfl rfl) ?_
    refine Tops_step rfl (OpT_extract rfl rfl rfl rfl rfl) ?_
    refine Tops_step rfl (OpT_extract rfl rfl rfl rfl rfl) ?_
    refine Tops_step rfl (OpT_assign rfl rfl rfl rfl) ?_
    refine Tops_step rfl (OpT_assign rfl rfl rfl rfl) ?_
    refine Tops_nil (Tk_wkS (fr' := [(1, some (vcalls1)), (2, some (.pointer (some ⟨b1, 0, none⟩))), (5, some (v2)), (6, some (vI new1.2))]) (own' := [some (cellsR b1 22 [vl1]), some (optR 62 RegionS u8S true gmem_Mem.l gmem_Mem.b v2 new1.1)]) (shr' := [Fact.sl RegionS vl1 l, Fact.sl dumbwaiterlaw02_ActS vcalls1 calls]) [1, 2, 5, 6] [0, 2] [0, 1] rfl rfl rfl rfl ?_)
    rcases onO_cases h with ⟨ho1, h⟩ | ⟨mem1, ho1, h⟩
    ·cases h
    ·refine Tk_optS (i := 1) rfl ho1 ?_
     rintro b2 v3 v4 vs1 rfl
     refine Tk_seq (Tk_seq (Tk_region (Tops_step rfl (OpT_move rfl rfl rfl rfl) ?_)))
     refine Tops_step rfl (OpT_bin rfl rfl rfl rfl rfl (bin_neq_i (a := new1.2) (b := (0 : Int)))) ?_
     refine Tops_nil (Tk_wkS (fr' := [(1, some (vcalls1)), (2, some (.pointer (some ⟨b1, 0, none⟩))), (5, some (.pointer (some ⟨b2, 0, none⟩))), (46, some (vB (new1.2 != (0 : Int))))]) (own' := [some (cellsR b1 22 [vl1]), some (cellsR b2 62 [v3, v4]), some (rowsX u8S true v4 vs1 mem1.b none)]) (shr' := [Fact.sl RegionS vl1 l, Fact.sl dumbwaiterlaw02_ActS vcalls1 calls, Fact.sl RegionS v3 mem1.l]) [1, 2, 5, 46] [0, 1, 2] [0, 1, 2] rfl rfl rfl rfl ?_)
     obtain ⟨hg5, h⟩ := chk_e h
     replace hg5 := not_t hg5
     refine Tk_condF (congrArg (fun b => some (Value.bool b)) hg5) ?_
     refine Tk_skip (Tk_seq (Tk_region (Tops_ex rfl (OpT_makeMap .u64 (fun x : UInt64 => (x.toNat : Int)) vU8 rfl rfl rfl) fun b3 => ?_)))
     refine Tops_step rfl (OpT_assign rfl rfl rfl rfl) ?_
     refine Tops_nil (Tk_wkS (fr' := [(1, some (vcalls1)), (2, some (.pointer (some ⟨b1, 0, none⟩))), (5, some (.pointer (some ⟨b2, 0, none⟩))), (7, some (.map (some b3)))]) (own' := [some (cellsR b1 22 [vl1]), some (cellsR b2 62 [v3, v4]), some (rowsX u8S true v4 vs1 mem1.b none), some (mapR b3 .u64 (fun x : UInt64 => (x.toNat : Int)) vU8 ([] : List (UInt64 × UInt8)))]) (shr' := [Fact.sl RegionS vl1 l, Fact.sl dumbwaiterlaw02_ActS vcalls1 calls, Fact.sl RegionS v3 mem1.l]) [1, 2, 5, 7] [0, 1, 2, 3] [0, 1, 2] rfl rfl rfl rfl ?_)
     refine Tk_seq (Tk_region (Tops_step rfl (OpT_makeFunc (vs := [.pointer (some ⟨b1, 0, none⟩)]) rfl rfl rfl rfl) ?_))
     refine Tops_step rfl (OpT_assign rfl rfl rfl rfl) ?_
     refine Tops_nil (Tk_wkS (fr' := [(1, some (vcalls1)), (2, some (.pointer (some ⟨b1, 0, none⟩))), (5, some (.pointer (some ⟨b2, 0, none⟩))), (7, some (.map (some b3))), (8, some (.func (.func 14) #[] #[.pointer (some ⟨b1, 0, none⟩)]))]) (own' := [some (cellsR b1 22 [vl1]), some (cellsR b2 62 [v3, v4]), some (rowsX u8S true v4 vs1 mem1.b none), some (mapR b3 .u64 (fun x : UInt64 => (x.toNat : Int)) vU8 ([] : List (UInt64 × UInt8)))]) (shr' := [Fact.sl RegionS vl1 l, Fact.sl dumbwaiterlaw02_ActS vcalls1 calls, Fact.sl RegionS v3 mem1.l]) [1, 2, 5, 7, 8] [0, 1, 2, 3] [0, 1, 2] rfl rfl rfl rfl ?_)
     refine Tk_seq (Tk_seq (Tk_region (Tops_step rfl (OpT_assign rfl rfl rfl rfl) ?_)))
     refine Tops_nil (Tk_block (Tk_loopS (σ := (List Region) × (List (List UInt8)) × (List (UInt64 × UInt8)) × Int × Value) [1, 2, 5, 7, 8, 9] [0, 1, 2, 3] [1, 0, 2] (fun s => ⟨[(1, some (vcalls1)), (2, some (.pointer (some ⟨b1, 0, none⟩))), (5, some (.pointer (some ⟨b2, 0, none⟩))), (7, some (.map (some b3))), (8, some (.func (.func 14) #[] #[.pointer (some ⟨b1, 0, none⟩)])), (9, some (vI s.2.2.2.1))], [some (cellsR b1 22 [s.2.2.2.2]), some (cellsR b2 62 [v3, v4]), some (rowsX u8S true v4 vs1 s.2.1 none), some (mapR b3 .u64 (fun x : UInt64 => (x.toNat : Int)) vU8 s.2.2.1)], [Fact.sl dumbwaiterlaw02_ActS vcalls1 calls, Fact.sl RegionS s.2.2.2.2 s.1, Fact.sl RegionS v3 mem1.l]⟩) (fun nf1 s => law02zGmemHoldsL1 calls mem1 nf1 s.1 s.2.1 s.2.2.1 s.2.2.2.1 = some true) fuel (l, mem1.b, ([] : List (UInt64 × UInt8)), (0 : Int), vl1) h rfl rfl rfl rfl rfl (fun s h => by cases h) ?_))
     rintro nf1 ⟨m1, rows1, map1, i1, v5⟩ h
     replace h : law02zGmemHoldsL1B calls mem1 (law02zGmemHoldsL1 calls mem1 nf1) m1 rows1 map1 i1 = some true := h
     unfold law02zGmemHoldsL1B at h
     refine Tk_seq (Tk_seq (Tk_region (Tops_step rfl (OpT_move rfl rfl rfl rfl) ?_)))
     refine Tops_step rfl (OpT_move rfl rfl rfl rfl) ?_
     refine Tops_step rfl (OpT_lenS rfl rfl rfl rfl Try.underlying23 (i := 0) rfl) ?_
     refine Tops_step rfl (OpT_bin rfl rfl rfl rfl rfl (bin_lss_i (a := i1) (b := len calls))) ?_
     refine Tops_nil (Tk_wkS (fr' := [(1, some (vcalls1)), (2, some (.pointer (some ⟨b1, 0, none⟩))), (5, some (.pointer (some ⟨b2, 0, none⟩))), (7, some (.map (some b3))), (8, some (.func (.func 14) #[] #[.pointer (some ⟨b1, 0, none⟩)])), (9, some (vI i1)), (52, some (vB (decide (i1 < (len calls)))))]) (own' := [some (cellsR b1 22 [v5]), some (cellsR b2 62 [v3, v4]), some (rowsX u8S true v4 vs1 rows1 none), some (mapR b3 .u64 (fun x : UInt64 => (x.toNat : Int)) vU8 map1)]) (shr' := [Fact.sl dumbwaiterlaw02_ActS vcalls1 calls, Fact.sl RegionS v5 m1, Fact.sl RegionS v3 mem1.l]) [1, 2, 5, 7, 8, 9, 52] [0, 1, 2, 3] [0, 1, 2] rfl rfl rfl rfl ?_)
     rcases Bool.eq_false_or_eq_true (decide (i1 < (len calls))) with hg6 | hg6
     ·replace h := br_t hg6 h
      refine Tk_condT (congrArg (fun b => some (Value.bool b)) hg6) ?_
      refine Tk_skip (Tk_seq (Tk_join (α := (List Region) × (List (List UInt8)) × (List (UInt64 × UInt8)) × Value) (fun s => ⟨[(1, some (vcalls1)), (2, some (.pointer (some ⟨b1, 0, none⟩))), (5, some (.pointer (some ⟨b2, 0, none⟩))), (7, some (.map (some b3))), (8, some (.func (.func 14) #[] #[.pointer (some ⟨b1, 0, none⟩)])), (9, some (vI i1))], [some (cellsR b1 22 [s.2.2.2]), some (cellsR b2 62 [v3, v4]), some (rowsX u8S true v4 vs1 s.2.1 none), some (mapR b3 .u64 (fun x : UInt64 => (x.toNat : Int)) vU8 s.2.2.1)], [Fact.sl dumbwaiterlaw02_ActS vcalls1 calls, Fact.sl RegionS s.2.2.2 s.1, Fact.sl RegionS v3 mem1.l]⟩) (fun s => law02zGmemHoldsJ2 i1 (law02zGmemHoldsL1 calls mem1 nf1) s.1 s.2.1 s.2.2.1 = some true) ?_ ?_))
      ·rintro ⟨m2, rows2, map2, v6⟩ h
       replace h : law02zGmemHoldsJ2 i1 (law02zGmemHoldsL1 calls mem1 nf1) m2 rows2 map2 = some true := h
       unfold law02zGmemHoldsJ2 at h
       refine Tk_region (Tops_step rfl (OpT_move rfl rfl rfl rfl) ?_)
       refine Tops_step rfl (OpT_bin rfl rfl rfl rfl rfl (bin_add_i (a := i1) (b := (1 : Int)))) ?_
       refine Tops_step rfl (OpT_assign rfl rfl rfl rfl) ?_
       refine Tops_nil (Tk_wkS (fr' := [(1, some (vcalls1)), (2, some (.pointer (some ⟨b1, 0, none⟩))), (5, some (.pointer (some ⟨b2, 0, none⟩))), (7, some (.map (some b3))), (8, some (.func (.func 14) #[] #[.pointer (some ⟨b1, 0, none⟩)])), (9, some (vI (wi (i1 + (1 : Int)))))]) (own' := [some (cellsR b1 22 [v6]), some (cellsR b2 62 [v3, v4]), some (rowsX u8S true v4 vs1 rows2 none), some (mapR b3 .u64 (fun x : UInt64 => (x.toNat : Int)) vU8 map2)]) (shr' := [Fact.sl dumbwaiterlaw02_ActS vcalls1 calls, Fact.sl RegionS v6 m2, Fact.sl RegionS v3 mem1.l]) [1, 2, 5, 7, 8, 9] [0, 1, 2, 3] [0, 1, 2] rfl rfl rfl rfl ?_)
       exact Tk_backS (m2, rows2, map2, wi (i1 + (1 : Int)), v6) h [1, 2, 5, 7, 8, 9] [0, 1, 2, 3] [0, 1, 2] rfl rfl rfl rfl rfl
      ·intro HJ1
       refine Tk_block (Tk_seq (Tk_region (Tops_step rfl (OpT_move rfl rfl rfl rfl) ?_)))
       refine Tops_step rfl (OpT_move rfl rfl rfl rfl) ?_
       obtain ⟨d1, hx7, h⟩ := ob_e h
       refine Tops_ex rfl (OpT_idxS rfl rfl rfl rfl rfl slF23 (i := 0) rfl hx7) fun p1 => ?_
       refine Tops_ex rfl (OpT_loadP1 rfl rfl rfl rfl tyF40 (i := 3) rfl) fun v7 => ?_
       refine Tops_ex rfl (OpT_alloc rfl rfl rfl tyZ40) fun b4 => ?_
       refine Tops_step rfl (OpT_storeA1 (fun z0 => [vI d1.Kind, vU64 d1.At, vI d1.N, vU64 d1.V, z0]) (cs' := [vI d1.Kind, vU64 d1.At, vI d1.N, vU64 d1.V, v7]) rfl rfl rfl rfl tyF40 (i := 4) rfl (is_sl (i := 4) rfl) (fun _ _ _ => rfl) rfl rfl rfl) ?_
       refine Tops_nil (Tk_wkS (fr' := [(1, some (vcalls1)), (2, some (.pointer (some ⟨b1, 0, none⟩))), (5, some (.pointer (some ⟨b2, 0, none⟩))), (7, some (.map (some b3))), (8, some (.func (.func 14) #[] #[.pointer (some ⟨b1, 0, none⟩)])), (9, some (vI i1)), (10, some (.pointer (some ⟨b4, 0, none⟩)))]) (own' := [some (cellsR b1 22 [v5]), some (cellsR b2 62 [v3, v4]), some (rowsX u8S true v4 vs1 rows1 none), some (mapR b3 .u64 (fun x : UInt64 => (x.toNat : Int)) vU8 map1), some (cellsR b4 40 [vI d1.Kind, vU64 d1.At, vI d1.N, vU64 d1.V, v7])]) (shr' := [Fact.sl dumbwaiterlaw02_ActS vcalls1 calls, Fact.sl RegionS v5 m1, Fact.sl RegionS v3 mem1.l, Fact.sl u8S v7 d1.B]) [1, 2, 5, 7, 8, 9, 10] [0, 1, 2, 3, 4] [0, 1, 2, 4] rfl rfl rfl rfl ?_)
       refine Tk_seq (Tk_region (Tops_ex rfl (OpT_buildSlice (S := iS) (xs := [(1 : Int), (2 : Int), (4 : Int), (8 : Int)]) (css := [[vI (1 : Int)], [vI (2 : Int)], [vI (4 : Int)], [vI (8 : Int)]]) (cs := [vI (1 : Int), vI (2 : Int), vI (4 : Int), vI (8 : Int)]) (e := 3) rfl rfl rfl rfl (bldF slF41 (by decide) (by kernel_rfl)) rfl rfl rfl rfl (rel_plainD (S := iS) (xs := [(1 : Int), (2 : Int), (4 : Int), (8 : Int)]) (css := [[vI (1 : Int)], [vI (2 : Int)], [vI (4 : Int)], [vI (8 : Int)]]) rfl rfl)) fun v8 => ?_))
       refine Tops_step rfl (OpT_fieldC rfl rfl rfl rfl fldF40x2) ?_
       refine Tops_step rfl (OpT_loadC rfl rfl rfl rfl tyF3 (i := 4) rfl rfl) ?_
       obtain ⟨pick1, hx8, h⟩ := ob_e h
       refine Tops_exP rfl (OpT_call (w_kit_Pick hx8) [] [] rfl rfl rfl rfl rfl callee15 rfl rfl rfl rfl) ?_
       rintro _ ⟨_, _, _, ⟨rfl, rfl, rfl⟩, rfl⟩
       obtain ⟨y1, hx9, h⟩ := ob_e h
       refine Tops_step rfl (OpT_idxO rfl rfl rfl rfl rfl slF41 (i := 5) rfl hx9) ?_
       refine Tops_step rfl (OpT_loadO (S := iS) rfl rfl rfl rfl rfl tyF3 (i := 5) rfl hx9 rfl rfl) ?_
       refine Tops_step rfl (OpT_assign rfl rfl rfl rfl) ?_
       refine Tops_nil (Tk_wkS (fr' := [(1, some (vcalls1)), (2, some (.pointer (some ⟨b1, 0, none⟩))), (5, some (.pointer (some ⟨b2, 0, none⟩))), (7, some (.map (some b3))), (8, some (.func (.func 14) #[] #[.pointer (some ⟨b1, 0, none⟩)])), (9, some (vI i1)), (10, some (.pointer (some ⟨b4, 0, none⟩))), (11, some (vI y1))]) (own' := [some (cellsR b1 22 [v5]), some (cellsR b2 62 [v3, v4]), some (rowsX u8S true v4 vs1 rows1 none), some (mapR b3 .u64 (fun x : UInt64 => (x.toNat : Int)) vU8 map1), some (cellsR b4 40 [vI d1.Kind, vU64 d1.At, vI d1.N, vU64 d1.V, v7])]) (shr' := [Fact.sl dumbwaiterlaw02_ActS vcalls1 calls, Fact.sl RegionS v5 m1, Fact.sl RegionS v3 mem1.l, Fact.sl u8S v7 d1.B]) [1, 2, 5, 7, 8, 9, 10, 11] [0, 1, 2, 3, 4] [0, 1, 2, 3] rfl rfl rfl rfl ?_)
       refine Tk_seq (Tk_region (Tops_step rfl (OpT_fieldC rfl rfl rfl rfl fldF40x0) ?_))
       refine Tops_step rfl (OpT_loadC rfl rfl rfl rfl tyF3 (i := 4) rfl rfl) ?_
       obtain ⟨pick2, hx10, h⟩ := ob_e h
       refine Tops_exP rfl (OpT_call (w_kit_Pick hx10) [] [] rfl rfl rfl rfl rfl callee15 rfl rfl rfl rfl) ?_
       rintro _ ⟨_, _, _, ⟨rfl, rfl, rfl⟩, rfl⟩
       refine Tops_nil (Tk_wkS (fr' := [(1, some (vcalls1)), (2, some (.pointer (some ⟨b1, 0, none⟩))), (5, some (.pointer (some ⟨b2, 0, none⟩))), (7, some (.map (some b3))), (8, some (.func (.func 14) #[] #[.pointer (some ⟨b1, 0, none⟩)])), (9, some (vI i1)), (10, some (.pointer (some ⟨b4, 0, none⟩))), (11, some (vI y1)), (67, some (vI pick2))]) (own' := [some (cellsR b1 22 [v5]), some (cellsR b2 62 [v3, v4]), some (rowsX u8S true v4 vs1 rows1 none), some (mapR b3 .u64 (fun x : UInt64 => (x.toNat : Int)) vU8 map1), some (cellsR b4 40 [vI d1.Kind, vU64 d1.At, vI d1.N, vU64 d1.V, v7])]) (shr' := [Fact.sl dumbwaiterlaw02_ActS vcalls1 calls, Fact.sl RegionS v5 m1, Fact.sl RegionS v3 mem1.l, Fact.sl u8S v7 d1.B]) [1, 2, 5, 7, 8, 9, 10, 11, 67] [0, 1, 2, 3, 4] [0, 1, 2, 3] rfl rfl rfl rfl ?_)
       refine Tk_join (α := (List Region) × (List (List UInt8)) × (List (UInt64 × UInt8)) × Value) (fun s => ⟨[(1, some (vcalls1)), (2, some (.pointer (some ⟨b1, 0, none⟩))), (5, some (.pointer (some ⟨b2, 0, none⟩))), (7, some (.map (some b3))), (8, some (.func (.func 14) #[] #[.pointer (some ⟨b1, 0, none⟩)])), (9, some (vI i1))], [some (cellsR b1 22 [s.2.2.2]), some (cellsR b2 62 [v3, v4]), some (rowsX u8S true v4 vs1 s.2.1 none), some (mapR b3 .u64 (fun x : UInt64 => (x.toNat : Int)) vU8 s.2.2.1)], [Fact.sl dumbwaiterlaw02_ActS vcalls1 calls, Fact.sl RegionS s.2.2.2 s.1, Fact.sl RegionS v3 mem1.l]⟩) (fun s => law02zGmemHoldsJ3 i1 (law02zGmemHoldsL1 calls mem1 nf1) s.1 s.2.1 s.2.2.1 = some true) ?_ ?_
       ·rintro ⟨m3, rows3, map3, v9⟩ h
        replace h : law02zGmemHoldsJ3 i1 (law02zGmemHoldsL1 calls mem1 nf1) m3 rows3 map3 = some true := h
        unfold law02zGmemHoldsJ3 at h
        refine Tk_blk ?_
        exact Tk_jmpS (HJ1 (m3, rows3, map3, v9) h) [1, 2, 5, 7, 8, 9] [0, 1, 2, 3] [0, 1, 2] rfl rfl rfl rfl
       ·intro HJ2
        refine Tk_block (Tk_seq (Tk_region (Tops_step rfl (OpT_bin rfl rfl rfl rfl rfl (bin_eql_i (a := pick2) (b := (0 : Int)))) ?_)))
        refine Tops_step rfl (OpT_assign rfl rfl rfl rfl) ?_
        refine Tops_nil (Tk_wkS (fr' := [(1, some (vcalls1)), (2, some (.pointer (some ⟨b1, 0, none⟩))), (5, some (.pointer (some ⟨b2, 0, none⟩))), (7, some (.map (some b3))), (8, some (.func (.func 14) #[] #[.pointer (some ⟨b1, 0, none⟩)])), (9, some (vI i1)), (10, some (.pointer (some ⟨b4, 0, none⟩))), (11, some (vI y1)), (67, some (vI pick2)), (81, some (vB (pick2 == (0 : Int))))]) (own' := [some (cellsR b1 22 [v5]), some (cellsR b2 62 [v3, v4]), some (rowsX u8S true v4 vs1 rows1 none), some (mapR b3 .u64 (fun x : UInt64 => (x.toNat : Int)) vU8 map1), some (cellsR b4 40 [vI d1.Kind, vU64 d1.At, vI d1.N, vU64 d1.V, v7])]) (shr' := [Fact.sl dumbwaiterlaw02_ActS vcalls1 calls, Fact.sl RegionS v5 m1, Fact.sl RegionS v3 mem1.l, Fact.sl u8S v7 d1.B]) [1, 2, 5, 7, 8, 9, 10, 11, 67, 81] [0, 1, 2, 3, 4] [0, 1, 2, 3] rfl rfl rfl rfl ?_)
        refine Tk_join (α := (List Region) × (List (List UInt8)) × (List (UInt64 × UInt8)) × Value) (fun s => ⟨[(1, some (vcalls1)), (2, some (.pointer (some ⟨b1, 0, none⟩))), (5, some (.pointer (some ⟨b2, 0, none⟩))), (7, some (.map (some b3))), (8, some (.func (.func 14) #[] #[.pointer (some ⟨b1, 0, none⟩)])), (9, some (vI i1))], [some (cellsR b1 22 [s.2.2.2]), some (cellsR b2 62 [v3, v4]), some (rowsX u8S true v4 vs1 s.2.1 none), some (mapR b3 .u64 (fun x : UInt64 => (x.toNat : Int)) vU8 s.2.2.1)], [Fact.sl dumbwaiterlaw02_ActS vcalls1 calls, Fact.sl RegionS s.2.2.2 s.1, Fact.sl RegionS v3 mem1.l]⟩) (fun s => law02zGmemHoldsJ4 i1 (law02zGmemHoldsL1 calls mem1 nf1) s.1 s.2.1 s.2.2.1 = some true) ?_ ?_
        ·rintro ⟨m4, rows4, map4, v10⟩ h
         replace h : law02zGmemHoldsJ4 i1 (law02zGmemHoldsL1 calls mem1 nf1) m4 rows4 map4 = some true := h
         unfold law02zGmemHoldsJ4 at h
         refine Tk_blk ?_
         exact Tk_jmpS (HJ2 (m4, rows4, map4, v10) h) [1, 2, 5, 7, 8, 9] [0, 1, 2, 3] [0, 1, 2] rfl rfl rfl rfl
        ·intro HJ3
         rcases Bool.eq_false_or_eq_true (pick2 == (0 : Int)) with hg7 | hg7
         ·replace h := br_t hg7 h
          refine Tk_condT (congrArg (fun b => some (Value.bool b)) hg7) ?_
          refine Tk_seq (Tk_region (Tops_step rfl (OpT_move rfl rfl rfl rfl) ?_))
          refine Tops_step rfl (OpT_fieldC rfl rfl rfl rfl fldF40x1) ?_
          refine Tops_step rfl (OpT_loadC rfl rfl rfl rfl tyF26 (i := 4) rfl rfl) ?_
          refine Tops_step rfl (OpT_move rfl rfl rfl rfl) ?_
          obtain ⟨load1, hx11, h⟩ := ob_e h
          refine Tops_exP rfl (OpT_callP [0, 5, 6, 3, 4] (w_gmem_Mem_Load hx11) [1, 2] [2] rfl rfl rfl rfl rfl callee16 rfl rfl rfl rfl rfl) ?_
          rintro _ ⟨_, _, _, ⟨rfl, rfl, rfl⟩, rfl⟩
          refine Tops_step rfl (OpT_move rfl rfl rfl rfl) ?_
          refine Tops_step rfl (OpT_extract rfl rfl rfl rfl rfl) ?_
          refine Tops_step rfl (OpT_extract rfl rfl rfl rfl rfl) ?_
          refine Tops_step rfl (OpT_assign rfl rfl rfl rfl) ?_
          refine Tops_step rfl (OpT_assign rfl rfl rfl rfl) ?_
          refine Tops_nil (Tk_wkS (fr' := [(1, some (vcalls1)), (2, some (.pointer (some ⟨b1, 0, none⟩))), (5, some (.pointer (some ⟨b2, 0, none⟩))), (7, some (.map (some b3))), (8, some (.func (.func 14) #[] #[.pointer (some ⟨b1, 0, none⟩)])), (9, some (vI i1)), (10, some (.pointer (some ⟨b4, 0, none⟩))), (11, some (vI y1)), (12, some (vU64 load1.1)), (13, some (vI load1.2))]) (own' := [some (cellsR b1 22 [v5]), some (cellsR b2 62 [v3, v4]), some (rowsX u8S true v4 vs1 rows1 none), some (mapR b3 .u64 (fun x : UInt64 => (x.toNat : Int)) vU8 map1), some (cellsR b4 40 [vI d1.Kind, vU64 d1.At, vI d1.N, vU64 d1.V, v7])]) (shr' := [Fact.sl dumbwaiterlaw02_ActS vcalls1 calls, Fact.sl RegionS v5 m1, Fact.sl RegionS v3 mem1.l, Fact.sl u8S v7 d1.B]) [1, 2, 5, 7, 8, 9, 10, 11, 12, 13] [0, 1, 2, 3, 4] [0, 1, 2, 3] rfl rfl rfl rfl ?_)
          refine Tk_seq (Tk_region (Tops_step rfl (OpT_assign rfl rfl rfl rfl) ?_))
          refine Tops_nil (Tk_seq (Tk_seq (Tk_region (Tops_step rfl (OpT_move rfl rfl rfl rfl) ?_))))
          refine Tops_step rfl (OpT_bin rfl rfl rfl rfl rfl (bin_sub_i (a := y1) (b := (1 : Int)))) ?_
          refine Tops_step rfl (OpT_assign rfl rfl rfl rfl) ?_
          refine Tops_nil (Tk_wkS (fr' := [(1, some (vcalls1)), (2, some (.pointer (some ⟨b1, 0, none⟩))), (5, some (.pointer (some ⟨b2, 0, none⟩))), (7, some (.map (some b3))), (8, some (.func (.func 14) #[] #[.pointer (some ⟨b1, 0, none⟩)])), (9, some (vI i1)), (10, some (.pointer (some ⟨b4, 0, none⟩))), (11, some (vI y1)), (12, some (vU64 load1.1)), (13, some (vI load1.2)), (14, some (vU64 (0 : UInt64))), (15, some (vI (wi (y1 - (1 : Int)))))]) (own' := [some (cellsR b1 22 [v5]), some (cellsR b2 62 [v3, v4]), some (rowsX u8S true v4 vs1 rows1 none), some (mapR b3 .u64 (fun x : UInt64 => (x.toNat : Int)) vU8 map1), some (cellsR b4 40 [vI d1.Kind, vU64 d1.At, vI d1.N, vU64 d1.V, v7])]) (shr' := [Fact.sl dumbwaiterlaw02_ActS vcalls1 calls, Fact.sl RegionS v5 m1, Fact.sl RegionS v3 mem1.l, Fact.sl u8S v7 d1.B]) [1, 2, 5, 7, 8, 9, 10, 11, 12, 13, 14, 15] [0, 1, 2, 3, 4] [0, 1, 2, 3] rfl rfl rfl rfl ?_)
          refine Tk_block (Tk_loopS (σ := UInt64 × Int) [1, 2, 5, 7, 8, 9, 10, 11, 12, 13, 14, 15] [0, 1, 2, 3, 4] [0, 1, 2, 3] (fun s => ⟨[(1, some (vcalls1)), (2, some (.pointer (some ⟨b1, 0, none⟩))), (5, some (.pointer (some ⟨b2, 0, none⟩))), (7, some (.map (some b3))), (8, some (.func (.func 14) #[] #[.pointer (some ⟨b1, 0, none⟩)])), (9, some (vI i1)), (10, some (.pointer (some ⟨b4, 0, none⟩))), (11, some (vI y1)), (12, some (vU64 load1.1)), (13, some (vI load1.2)), (14, some (vU64 s.1)), (15, some (vI s.2))], [some (cellsR b1 22 [v5]), some (cellsR b2 62 [v3, v4]), some (rowsX u8S true v4 vs1 rows1 none), some (mapR b3 .u64 (fun x : UInt64 => (x.toNat : Int)) vU8 map1), some (cellsR b4 40 [vI d1.Kind, vU64 d1.At, vI d1.N, vU64 d1.V, v7])], [Fact.sl dumbwaiterlaw02_ActS vcalls1 calls, Fact.sl RegionS v5 m1, Fact.sl RegionS v3 mem1.l, Fact.sl u8S v7 d1.B]⟩) (fun nf5 s => law02zGmemHoldsL5 m1 rows1 map1 i1 (law02zGmemHoldsL1 calls mem1 nf1) d1 y1 load1 nf5 s.1 s.2 = some true) fuel ((0 : UInt64), wi (y1 - (1 : Int))) h rfl rfl rfl rfl rfl (fun s h => by cases h) ?_)
          rintro nf5 ⟨want1, k1⟩ h
          replace h : law02zGmemHoldsL5B m1 rows1 map1 i1 (law02zGmemHoldsL1 calls mem1 nf1) d1 y1 load1 (law02zGmemHoldsL5 m1 rows1 map1 i1 (law02zGmemHoldsL1 calls mem1 nf1) d1 y1 load1 nf5) want1 k1 = some true := h
          unfold law02zGmemHoldsL5B at h
          refine Tk_seq (Tk_seq (Tk_region (Tops_step rfl (OpT_move rfl rfl rfl rfl) ?_)))
          refine Tops_step rfl (OpT_bin rfl rfl rfl rfl rfl (bin_geq_i (a := k1) (b := (0 : Int)))) ?_
          refine Tops_nil (Tk_wkS (fr' := [(1, some (vcalls1)), (2, some (.pointer (some ⟨b1, 0, none⟩))), (5, some (.pointer (some ⟨b2, 0, none⟩))), (7, some (.map (some b3))), (8, some (.func (.func 14) #[] #[.pointer (some ⟨b1, 0, none⟩)])), (9, some (vI i1)), (10, some (.pointer (some ⟨b4, 0, none⟩))), (11, some (vI y1)), (12, some (vU64 load1.1)), (13, some (vI load1.2)), (14, some (vU64 want1)), (15, some (vI k1)), (94, some (vB (decide (k1 ≥ (0 : Int)))))]) (own' := [some (cellsR b1 22 [v5]), some (cellsR b2 62 [v3, v4]), some (rowsX u8S true v4 vs1 rows1 none), some (mapR b3 .u64 (fun x : UInt64 => (x.toNat : Int)) vU8 map1), some (cellsR b4 40 [vI d1.Kind, vU64 d1.At, vI d1.N, vU64 d1.V, v7])]) (shr' := [Fact.sl dumbwaiterlaw02_ActS vcalls1 calls, Fact.sl RegionS v5 m1, Fact.sl RegionS v3 mem1.l, Fact.sl u8S v7 d1.B]) [1, 2, 5, 7, 8, 9, 10, 11, 12, 13, 14, 15, 94] [0, 1, 2, 3, 4] [0, 1, 2, 3] rfl rfl rfl rfl ?_)
          rcases Bool.eq_false_or_eq_true (decide (k1 ≥ (0 : Int))) with hg8 | hg8
          ·replace h := br_t hg8 h
           refine Tk_condT (congrArg (fun b => some (Value.bool b)) hg8) ?_
           refine Tk_skip (Tk_seq (Tk_block (Tk_region (Tops_step rfl (OpT_move rfl rfl rfl rfl) ?_))))
           refine Tops_step rfl (OpT_bin rfl rfl rfl rfl rfl (bin_mul_u64 (a := (256 : UInt64)) (b := want1))) ?_
           refine Tops_step rfl (OpT_move rfl rfl rfl rfl) ?_
           refine Tops_step rfl (OpT_fieldC rfl rfl rfl rfl fldF40x1) ?_
           refine Tops_step rfl (OpT_loadC rfl rfl rfl rfl tyF26 (i := 4) rfl rfl) ?_
           refine Tops_step rfl (OpT_move rfl rfl rfl rfl) ?_
           refine Tops_step rfl (OpT_cnv rfl rfl rfl rfl (cnv_i_u64 (n := k1) Try.underlying3 Try.underlying26)) ?_
           refine Tops_step rfl (OpT_bin rfl rfl rfl rfl rfl (bin_add_u64 (a := d1.At) (b := u64 k1))) ?_
           refine Tops_step rfl (OpT_lookup keyU64 (V := vU8) (kx := d1.At + (u64 k1)) (z := (0 : UInt8)) rfl rfl rfl rfl rfl Try.underlying34 Try.underlying26 tyZ5 (i := 3) rfl) ?_
           refine Tops_step rfl (OpT_cnv rfl rfl rfl rfl (cnv_u8_u64 (n := mget (0 : UInt8) (d1.At + (u64 k1)) map1) Try.underlying5 Try.underlying26)) ?_
           refine Tops_step rfl (OpT_bin rfl rfl rfl rfl rfl (bin_add_u64 (a := (256 : UInt64) * want1) (b := (mget (0 : UInt8) (d1.At + (u64 k1)) map1).toUInt64))) ?_
           refine Tops_step rfl (OpT_assign rfl rfl rfl rfl) ?_
           refine Tops_nil (Tk_wkS (fr' := [(1, some (vcalls1)), (2, some (.pointer (some ⟨b1, 0, none⟩))), (5, some (.pointer (some ⟨b2, 0, none⟩))), (7, some (.map (some b3))), (8, some (.func (.func 14) #[] #[.pointer (some ⟨b1, 0, none⟩)])), (9, some (vI i1)), (10, some (.pointer (some ⟨b4, 0, none⟩))), (11, some (vI y1)), (12, some (vU64 load1.1)), (13, some (vI load1.2)), (14, some (vU64 (((256 : UInt64) * want1) + ((mget (0 : UInt8) (d1.At + (u64 k1)) map1).toUInt64)))), (15, some (vI k1))]) (own' := [some (cellsR b1 22 [v5]), some (cellsR b2 62 [v3, v4]), some (rowsX u8S true v4 vs1 rows1 none), some (mapR b3 .u64 (fun x : UInt64 => (x.toNat : Int)) vU8 map1), some (cellsR b4 40 [vI d1.Kind, vU64 d1.At, vI d1.N, vU64 d1.V, v7])]) (shr' := [Fact.sl dumbwaiterlaw02_ActS vcalls1 calls, Fact.sl RegionS v5 m1, Fact.sl RegionS v3 mem1.l, Fact.sl u8S v7 d1.B]) [1, 2, 5, 7, 8, 9, 10, 11, 12, 13, 14, 15] [0, 1, 2, 3, 4] [0, 1, 2, 3] rfl rfl rfl rfl ?_)
           refine Tk_blk (Tk_region (Tops_step rfl (OpT_move rfl rfl rfl rfl) ?_))
           refine Tops_step rfl (OpT_bin rfl rfl rfl rfl rfl (bin_sub_i (a := k1) (b := (1 : Int)))) ?_
           refine Tops_step rfl (OpT_assign rfl rfl rfl rfl) ?_
           refine Tops_nil (Tk_wkS (fr' := [(1, some (vcalls1)), (2, some (.pointer (some ⟨b1, 0, none⟩))), (5, some (.pointer (some ⟨b2, 0, none⟩))), (7, some (.map (some b3))), (8, some (.func (.func 14) #[] #[.pointer (some ⟨b1, 0, none⟩)])), (9, some (vI i1)), (10, some (.pointer (some ⟨b4, 0, none⟩))), (11, some (vI y1)), (12, some (vU64 load1.1)), (13, some (vI load1.2)), (14, some (vU64 (((256 : UInt64) * want1) + ((mget (0 : UInt8) (d1.At + (u64 k1)) map1).toUInt64)))), (15, some (vI (wi (k1 - (1 : Int)))))]) (own' := [some (cellsR b1 22 [v5]), some (cellsR b2 62 [v3, v4]), some (rowsX u8S true v4 vs1 rows1 none), some (mapR b3 .u64 (fun x : UInt64 => (x.toNat : Int)) vU8 map1), some (cellsR b4 40 [vI d1.Kind, vU64 d1.At, vI d1.N, vU64 d1.V, v7])]) (shr' := [Fact.sl dumbwaiterlaw02_ActS vcalls1 calls, Fact.sl RegionS v5 m1, Fact.sl RegionS v3 mem1.l, Fact.sl u8S v7 d1.B]) [1, 2, 5, 7, 8, 9, 10, 11, 12, 13, 14, 15] [0, 1, 2, 3, 4] [0, 1, 2, 3] rfl rfl rfl rfl ?_)
           exact Tk_backS (((256 : UInt64) * want1) + ((mget (0 : UInt8) (d1.At + (u64 k1)) map1).toUInt64), wi (k1 - (1 : Int))) h [1, 2, 5, 7, 8, 9, 10, 11, 12, 13, 14, 15] [0, 1, 2, 3, 4] [0, 1, 2, 3] rfl rfl rfl rfl rfl
          ·replace h := br_f hg8 h
           refine Tk_condF (congrArg (fun b => some (Value.bool b)) hg8) ?_
           refine Tk_exit _ rfl ?_
           refine Tk_seq (Tk_region (Tops_step rfl (OpT_move rfl rfl rfl rfl) ?_))
           refine Tops_step rfl (OpT_bin rfl rfl rfl rfl rfl (bin_eql_i (a := load1.2) (b := (0 : Int)))) ?_
           refine Tops_step rfl (OpT_move rfl rfl rfl rfl) ?_
           refine Tops_step rfl (OpT_fieldC rfl rfl rfl rfl fldF40x1) ?_
           refine Tops_step rfl (OpT_loadC rfl rfl rfl rfl tyF26 (i := 4) rfl rfl) ?_
           refine Tops_step rfl (OpT_move rfl rfl rfl rfl) ?_
           refine Tops_step rfl (OpT_cnv rfl rfl rfl rfl (cnv_i_u64 (n := y1) Try.underlying3 Try.underlying26)) ?_
           obtain ⟨gmemho1, hx12, h⟩ := ob_e h
           refine Tops_exP rfl (OpT_callP [5, 1, 2, 3, 4] (w_law02zGmemHolds_1 hx12) [0] [1] rfl rfl rfl rfl rfl callee14 rfl rfl rfl rfl rfl) ?_
           rintro _ ⟨_, _, _, ⟨rfl, rfl, rfl⟩, rfl⟩
           refine Tops_step rfl (OpT_bin rfl rfl rfl rfl rfl (bin_neq_b (a := load1.2 == (0 : Int)) (b := gmemho1) Try.underlying4)) ?_
           refine Tops_step rfl (OpT_move rfl rfl rfl rfl) ?_
           obtain ⟨hg9, h⟩ := chk_e h
           replace hg9 := not_t hg9
           refine Tops_yes rfl rfl (congrArg (fun b => some (Value.bool b)) hg9) (OpT_move rfl rfl rfl rfl) ?_
           rintro _ rfl
           refine Tops_yes rfl rfl (congrArg (fun b => some (Value.bool b)) hg9) (OpT_bin rfl rfl rfl rfl rfl (bin_eql_i (a := load1.2) (b := (0 : Int)))) ?_
           rintro _ rfl
           refine Tops_yes rfl rfl (congrArg (fun b => some (Value.bool b)) hg9) (OpT_move rfl rfl rfl rfl) ?_
           rintro _ rfl
           rcases Bool.eq_false_or_eq_true (load1.2 == (0 : Int)) with hg10 | hg10
           ·replace h := br_t hg10 h
            refine Tops_yes rfl rfl (congrArg (fun b => some (Value.bool b)) hg10) (OpT_move rfl rfl rfl rfl) ?_
            rintro _ rfl
            refine Tops_yes rfl rfl (congrArg (fun b => some (Value.bool b)) hg10) (OpT_move rfl rfl rfl rfl) ?_
            rintro _ rfl
            refine Tops_yes rfl rfl (congrArg (fun b => some (Value.bool b)) hg10) (OpT_bin rfl rfl rfl rfl rfl (bin_neq_u64 (a := load1.1) (b := want1))) ?_
            rintro _ rfl
            refine Tops_yes rfl rfl (congrArg (fun b => some (Value.bool b)) hg9) (OpT_pickT rfl rfl rfl (congrArg (fun b => some (Value.bool b)) hg10) rfl) ?_
            rintro _ rfl
            refine Tops_step rfl (OpT_pickF rfl rfl rfl (congrArg (fun b => some (Value.bool b)) hg9) rfl) ?_
            refine Tops_nil (Tk_wkS (fr' := [(1, some (vcalls1)), (2, some (.pointer (some ⟨b1, 0, none⟩))), (5, some (.pointer (some ⟨b2, 0, none⟩))), (7, some (.map (some b3))), (8, some (.func (.func 14) #[] #[.pointer (some ⟨b1, 0, none⟩)])), (9, some (vI i1)), (125, some (vB (load1.1 != want1)))]) (own' := [some (cellsR b1 22 [v5]), some (cellsR b2 62 [v3, v4]), some (rowsX u8S true v4 vs1 rows1 none), some (mapR b3 .u64 (fun x : UInt64 => (x.toNat : Int)) vU8 map1)]) (shr' := [Fact.sl dumbwaiterlaw02_ActS vcalls1 calls, Fact.sl RegionS v5 m1, Fact.sl RegionS v3 mem1.l]) [1, 2, 5, 7, 8, 9, 125] [0, 1, 2, 3] [0, 1, 2] rfl rfl rfl rfl ?_)
            obtain ⟨hg11, h⟩ := chk_e h
            replace hg11 := not_t hg11
            refine Tk_condF (congrArg (fun b => some (Value.bool b)) hg11) ?_
            refine Tk_skip ?_
            exact Tk_jmpS (HJ3 (m1, rows1, map1, v5) h) [1, 2, 5, 7, 8, 9] [0, 1, 2, 3] [0, 1, 2] rfl rfl rfl rfl
           ·replace h := br_f hg10 h
            refine Tops_no rfl rfl (congrArg (fun b => some (Value.bool b)) hg10) rfl rfl ?_
            refine Tops_no rfl rfl (congrArg (fun b => some (Value.bool b)) hg10) rfl rfl ?_
            refine Tops_no rfl rfl (congrArg (fun b => some (Value.bool b)) hg10) rfl rfl ?_
            refine Tops_yes rfl rfl (congrArg (fun b => some (Value.bool b)) hg9) (OpT_pickF rfl rfl rfl (congrArg (fun b => some (Value.bool b)) hg10) rfl) ?_
            rintro _ rfl
            refine Tops_step rfl (OpT_pickF rfl rfl rfl (congrArg (fun b => some (Value.bool b)) hg9) rfl) ?_
            refine Tops_nil (Tk_wkS (fr' := [(1, some (vcalls1)), (2, some (.pointer (some ⟨b1, 0, none⟩))), (5, some (.pointer (some ⟨b2, 0, none⟩))), (7, some (.map (some b3))), (8, some (.func (.func 14) #[] #[.pointer (some ⟨b1, 0, none⟩)])), (9, some (vI i1)), (125, some (vB false))]) (own' := [some (cellsR b1 22 [v5]), some (cellsR b2 62 [v3, v4]), some (rowsX u8S true v4 vs1 rows1 none), some (mapR b3 .u64 (fun x : UInt64 => (x.toNat : Int)) vU8 map1)]) (shr' := [Fact.sl dumbwaiterlaw02_ActS vcalls1 calls, Fact.sl RegionS v5 m1, Fact.sl RegionS v3 mem1.l]) [1, 2, 5, 7, 8, 9, 125] [0, 1, 2, 3] [0, 1, 2] rfl rfl rfl rfl ?_)
            refine Tk_condF rfl ?_
            refine Tk_skip ?_
            exact Tk_jmpS (HJ3 (m1, rows1, map1, v5) h) [1, 2, 5, 7, 8, 9] [0, 1, 2, 3] [0, 1, 2] rfl rfl rfl rfl
         ·replace h := br_f hg7 h
          refine Tk_condF (congrArg (fun b => some (Value.bool b)) hg7) ?_
          refine Tk_seq (Tk_region (Tops_step rfl (OpT_bin rfl rfl rfl rfl rfl (bin_eql_i (a := pick2) (b := (1 : Int)))) ?_))
          refine Tops_step rfl (OpT_assign rfl rfl rfl rfl) ?_
          refine Tops_nil (Tk_wkS (fr' := [(1, some (vcalls1)), (2, some (.pointer (some ⟨b1, 0, none⟩))), (5, some (.pointer (some ⟨b2, 0, none⟩))), (7, some (.map (some b3))), (8, some (.func (.func 14) #[] #[.pointer (some ⟨b1, 0, none⟩)])), (9, some (vI i1)), (10, some (.pointer (some ⟨b4, 0, none⟩))), (11, some (vI y1)), (67, some (vI pick2)), (126, some (vB (pick2 == (1 : Int))))]) (own' := [some (cellsR b1 22 [v5]), some (cellsR b2 62 [v3, v4]), some (rowsX u8S true v4 vs1 rows1 none), some (mapR b3 .u64 (fun x : UInt64 => (x.toNat : Int)) vU8 map1), some (cellsR b4 40 [vI d1.Kind, vU64 d1.At, vI d1.N, vU64 d1.V, v7])]) (shr' := [Fact.sl dumbwaiterlaw02_ActS vcalls1 calls, Fact.sl RegionS v5 m1, Fact.sl RegionS v3 mem1.l, Fact.sl u8S v7 d1.B]) [1, 2, 5, 7, 8, 9, 10, 11, 67, 126] [0, 1, 2, 3, 4] [0, 1, 2, 3] rfl rfl rfl rfl ?_)
          rcases Bool.eq_false_or_eq_true (pick2 == (1 : Int)) with hg12 | hg12
          ·replace h := br_t hg12 h
           refine Tk_condT (congrArg (fun b => some (Value.bool b)) hg12) ?_
           refine Tk_seq (Tk_region (Tops_step rfl (OpT_move rfl rfl rfl rfl) ?_))
           refine Tops_step rfl (OpT_fieldC rfl rfl rfl rfl fldF40x1) ?_
           refine Tops_step rfl (OpT_loadC rfl rfl rfl rfl tyF26 (i := 4) rfl rfl) ?_
           refine Tops_step rfl (OpT_move rfl rfl rfl rfl) ?_
           refine Tops_step rfl (OpT_fieldC rfl rfl rfl rfl fldF40x3) ?_
           refine Tops_step rfl (OpT_loadC rfl rfl rfl rfl tyF26 (i := 4) rfl rfl) ?_
           obtain ⟨store1, hx13, h⟩ := ob_e h
           refine Tops_exP rfl (OpT_callP [0, 5, 6, 3, 4] (w_gmem_Mem_Store hx13) [1, 2] [2] rfl rfl rfl rfl rfl callee17 rfl rfl rfl rfl rfl) ?_
           rintro _ ⟨_, _, _, ⟨rfl, rfl, rfl⟩, rfl⟩
           refine Tops_step rfl (OpT_assign rfl rfl rfl rfl) ?_
           refine Tops_nil (Tk_wkS (fr' := [(1, some (vcalls1)), (2, some (.pointer (some ⟨b1, 0, none⟩))), (5, some (.pointer (some ⟨b2, 0, none⟩))), (7, some (.map (some b3))), (8, some (.func (.func 14) #[] #[.pointer (some ⟨b1, 0, none⟩)])), (9, some (vI i1)), (10, some (.pointer (some ⟨b4, 0, none⟩))), (11, some (vI y1)), (16, some (vI store1.1))]) (own' := [some (cellsR b1 22 [v5]), some (cellsR b2 62 [v3, v4]), some (rowsX u8S true v4 vs1 store1.2 none), some (mapR b3 .u64 (fun x : UInt64 => (x.toNat : Int)) vU8 map1), some (cellsR b4 40 [vI d1.Kind, vU64 d1.At, vI d1.N, vU64 d1.V, v7])]) (shr' := [Fact.sl dumbwaiterlaw02_ActS vcalls1 calls, Fact.sl RegionS v5 m1, Fact.sl RegionS v3 mem1.l, Fact.sl u8S v7 d1.B]) [1, 2, 5, 7, 8, 9, 10, 11, 16] [0, 1, 2, 3, 4] [0, 1, 2, 3] rfl rfl rfl rfl ?_)
           refine Tk_seq (Tk_seq (Tk_region (Tops_step rfl (OpT_move rfl rfl rfl rfl) ?_)))
           refine Tops_step rfl (OpT_bin rfl rfl rfl rfl rfl (bin_eql_i (a := store1.1) (b := (0 : Int)))) ?_
           refine Tops_step rfl (OpT_move rfl rfl rfl rfl) ?_
           refine Tops_step rfl (OpT_fieldC rfl rfl rfl rfl fldF40x1) ?_
           refine Tops_step rfl (OpT_loadC rfl rfl rfl rfl tyF26 (i := 4) rfl rfl) ?_
           refine Tops_step rfl (OpT_move rfl rfl rfl rfl) ?_
           refine Tops_step rfl (OpT_cnv rfl rfl rfl rfl (cnv_i_u64 (n := y1) Try.underlying3 Try.underlying26)) ?_
           obtain ⟨gmemho2, hx14, h⟩ := ob_e h
           refine Tops_exP rfl (OpT_callP [5, 1, 2, 3, 4] (w_law02zGmemHolds_1 hx14) [0] [1] rfl rfl rfl rfl rfl callee14 rfl rfl rfl rfl rfl) ?_
           rintro _ ⟨_, _, _, ⟨rfl, rfl, rfl⟩, rfl⟩
           refine Tops_step rfl (OpT_bin rfl rfl rfl rfl rfl (bin_neq_b (a := store1.1 == (0 : Int)) (b := gmemho2) Try.underlying4)) ?_
           refine Tops_nil (Tk_wkS (fr' := [(1, some (vcalls1)), (2, some (.pointer (some ⟨b1, 0, none⟩))), (5, some (.pointer (some ⟨b2, 0, none⟩))), (7, some (.map (some b3))), (8, some (.func (.func 14) #[] #[.pointer (some ⟨b1, 0, none⟩)])), (9, some (vI i1)), (10, some (.pointer (some ⟨b4, 0, none⟩))), (11, some (vI y1)), (16, some (vI store1.1)), (143, some (vB ((store1.1 == (0 : Int)) != gmemho2)))]) (own' := [some (cellsR b1 22 [v5]), some (cellsR b2 62 [v3, v4]), some (rowsX u8S true v4 vs1 store1.2 none), some (mapR b3 .u64 (fun x : UInt64 => (x.toNat : Int)) vU8 map1), some (cellsR b4 40 [vI d1.Kind, vU64 d1.At, vI d1.N, vU64 d1.V, v7])]) (shr' := [Fact.sl dumbwaiterlaw02_ActS vcalls1 calls, Fact.sl RegionS v5 m1, Fact.sl RegionS v3 mem1.l, Fact.sl u8S v7 d1.B]) [1, 2, 5, 7, 8, 9, 10, 11, 16, 143] [0, 1, 2, 3, 4] [0, 1, 2, 3] rfl rfl rfl rfl ?_)
           obtain ⟨hg13, h⟩ := chk_e h
           replace hg13 := not_t hg13
           refine Tk_condF (congrArg (fun b => some (Value.bool b)) hg13) ?_
           refine Tk_skip (Tk_seq (Tk_region (Tops_step rfl (OpT_assign rfl rfl rfl rfl) ?_)))
           refine Tops_nil (Tk_wkS (fr' := [(1, some (vcalls1)), (2, some (.pointer (some ⟨b1, 0, none⟩))), (5, some (.pointer (some ⟨b2, 0, none⟩))), (7, some (.map (some b3))), (8, some (.func (.func 14) #[] #[.pointer (some ⟨b1, 0, none⟩)])), (9, some (vI i1)), (10, some (.pointer (some ⟨b4, 0, none⟩))), (11, some (vI y1)), (16, some (vI store1.1)), (17, some (vI (0 : Int)))]) (own' := [some (cellsR b1 22 [v5]), some (cellsR b2 62 [v3, v4]), some (rowsX u8S true v4 vs1 store1.2 none), some (mapR b3 .u64 (fun x : UInt64 => (x.toNat : Int)) vU8 map1), some (cellsR b4 40 [vI d1.Kind, vU64 d1.At, vI d1.N, vU64 d1.V, v7])]) (shr' := [Fact.sl dumbwaiterlaw02_ActS vcalls1 calls, Fact.sl RegionS v5 m1, Fact.sl RegionS v3 mem1.l, Fact.sl u8S v7 d1.B]) [1, 2, 5, 7, 8, 9, 10, 11, 16, 17] [0, 1, 2, 3, 4] [0, 1, 2, 3] rfl rfl rfl rfl ?_)
           refine Tk_block (Tk_loopS (σ := (List Region) × (List (UInt64 × UInt8)) × Int × UInt64 × Int × UInt64 × (List UInt8) × Int × Value × Value) [1, 2, 5, 7, 8, 9, 10, 11, 16, 17] [0, 1, 2, 3, 4] [0, 1, 2, 3] (fun s => ⟨[(1, some (vcalls1)), (2, some (.pointer (some ⟨b1, 0, none⟩))), (5, some (.pointer (some ⟨b2, 0, none⟩))), (7, some (.map (some b3))), (8, some (.func (.func 14) #[] #[.pointer (some ⟨b1, 0, none⟩)])), (9, some (vI i1)), (10, some (.pointer (some ⟨b4, 0, none⟩))), (11, some (vI y1)), (16, some (vI store1.1)), (17, some (vI s.2.2.2.2.2.2.2.1))], [some (cellsR b1 22 [s.2.2.2.2.2.2.2.2.1]), some (cellsR b2 62 [v3, v4]), some (rowsX u8S true v4 vs1 store1.2 none), some (mapR b3 .u64 (fun x : UInt64 => (x.toNat : Int)) vU8 s.2.1), some (cellsR b4 40 [vI s.2.2.1, vU64 s.2.2.2.1, vI s.2.2.2.2.1, vU64 s.2.2.2.2.2.1, s.2.2.2.2.2.2.2.2.2])], [Fact.sl dumbwaiterlaw02_ActS vcalls1 calls, Fact.sl RegionS s.2.2.2.2.2.2.2.2.1 s.1, Fact.sl RegionS v3 mem1.l, Fact.sl u8S s.2.2.2.2.2.2.2.2.2 s.2.2.2.2.2.2.1]⟩) (fun nf6 s => law02zGmemHoldsL6 i1 (law02zGmemHoldsL1 calls mem1 nf1) y1 store1 nf6 s.1 s.2.1 s.2.2.1 s.2.2.2.1 s.2.2.2.2.1 s.2.2.2.2.2.1 s.2.2.2.2.2.2.1 s.2.2.2.2.2.2.2.1 = some true) fuel (m1, map1, d1.Kind, d1.At, d1.N, d1.V, d1.B, (0 : Int), v5, v7) h rfl rfl rfl rfl rfl (fun s h => by cases h) ?_)
           rintro nf6 ⟨m5, map5, Kind1, At1, N1, V1, B1, k2, v11, v12⟩ h
           replace h : law02zGmemHoldsL6B i1 (law02zGmemHoldsL1 calls mem1 nf1) y1 store1 (law02zGmemHoldsL6 i1 (law02zGmemHoldsL1 calls mem1 nf1) y1 store1 nf6) m5 map5 Kind1 At1 N1 V1 B1 k2 = some true := h
           unfold law02zGmemHoldsL6B at h
           refine Tk_seq (Tk_seq (Tk_region (Tops_step rfl (OpT_move rfl rfl rfl rfl) ?_)))
           refine Tops_step rfl (OpT_move rfl rfl rfl rfl) ?_
           refine Tops_step rfl (OpT_bin rfl rfl rfl rfl rfl (bin_lss_i (a := k2) (b := y1))) ?_
           refine Tops_step rfl (OpT_move rfl rfl rfl rfl) ?_
           rcases Bool.eq_false_or_eq_true (decide (k2 < y1)) with hg14 | hg14
           ·replace h := br_t hg14 h
            refine Tops_yes rfl rfl (congrArg (fun b => some (Value.bool b)) hg14) (OpT_move rfl rfl rfl rfl) ?_
            rintro _ rfl
            refine Tops_yes rfl rfl (congrArg (fun b => some (Value.bool b)) hg14) (OpT_bin rfl rfl rfl rfl rfl (bin_eql_i (a := store1.1) (b := (0 : Int)))) ?_
            rintro _ rfl
            refine Tops_step rfl (OpT_pickT rfl rfl rfl (congrArg (fun b => some (Value.bool b)) hg14) rfl) ?_
            refine Tops_nil (Tk_wkS (fr' := [(1, some (vcalls1)), (2, some (.pointer (some ⟨b1, 0, none⟩))), (5, some (.pointer (some ⟨b2, 0, none⟩))), (7, some (.map (some b3))), (8, some (.func (.func 14) #[] #[.pointer (some ⟨b1, 0, none⟩)])), (9, some (vI i1)), (10, some (.pointer (some ⟨b4, 0, none⟩))), (11, some (vI y1)), (16, some (vI store1.1)), (17, some (vI k2)), (150, some (vB (store1.1 == (0 : Int))))]) (own' := [some (cellsR b1 22 [v11]), some (cellsR b2 62 [v3, v4]), some (rowsX u8S true v4 vs1 store1.2 none), some (mapR b3 .u64 (fun x : UInt64 => (x.toNat : Int)) vU8 map5), some (cellsR b4 40 [vI Kind1, vU64 At1, vI N1, vU64 V1, v12])]) (shr' := [Fact.sl dumbwaiterlaw02_ActS vcalls1 calls, Fact.sl RegionS v11 m5, Fact.sl RegionS v3 mem1.l, Fact.sl u8S v12 B1]) [1, 2, 5, 7, 8, 9, 10, 11, 16, 17, 150] [0, 1, 2, 3, 4] [0, 1, 2, 3] rfl rfl rfl rfl ?_)
            rcases Bool.eq_false_or_eq_true (store1.1 == (0 : Int)) with hg15 | hg15
            ·replace h := br_t hg15 h
             refine Tk_condT (congrArg (fun b => some (Value.bool b)) hg15) ?_
             refine Tk_skip (Tk_seq (Tk_block (Tk_region (Tops_step rfl (OpT_move rfl rfl rfl rfl) ?_))))
             refine Tops_step rfl (OpT_fieldC rfl rfl rfl rfl fldF40x1) ?_
             refine Tops_step rfl (OpT_loadC rfl rfl rfl rfl tyF26 (i := 4) rfl rfl) ?_
             refine Tops_step rfl (OpT_move rfl rfl rfl rfl) ?_
             refine Tops_step rfl (OpT_cnv rfl rfl rfl rfl (cnv_i_u64 (n := k2) Try.underlying3 Try.underlying26)) ?_
             refine Tops_step rfl (OpT_bin rfl rfl rfl rfl rfl (bin_add_u64 (a := At1) (b := u64 k2))) ?_
             refine Tops_step rfl (OpT_fieldC rfl rfl rfl rfl fldF40x3) ?_
             refine Tops_step rfl (OpT_loadC rfl rfl rfl rfl tyF26 (i := 4) rfl rfl) ?_
             refine Tops_step rfl (OpT_move rfl rfl rfl rfl) ?_
             refine Tops_step rfl (OpT_bin rfl rfl rfl rfl rfl (bin_mul_i (a := (8 : Int)) (b := k2))) ?_
             refine Tops_step rfl (OpT_cnv rfl rfl rfl rfl (cnv_i_u64 (n := wi ((8 : Int) * k2)) Try.underlying3 Try.underlying46)) ?_
             refine Tops_step rfl (OpT_bin rfl rfl rfl rfl rfl (bin_shr_u64_u64 (a := V1) (n := u64 (wi ((8 : Int) * k2))))) ?_
             refine Tops_step rfl (OpT_cnv rfl rfl rfl rfl (cnv_u64_u8 (n := shr64 V1 ((u64 (wi ((8 : Int) * k2))).toNat)) Try.underlying26 Try.underlying5)) ?_
             refine Tops_step rfl (OpT_mapUpdate keyU64 (At1 + (u64 k2)) ((shr64 V1 ((u64 (wi ((8 : Int) * k2))).toNat)).toUInt8) (V := vU8) (z := (0 : UInt8)) rfl rfl rfl rfl rfl rfl Try.underlying34 Try.underlying26 (i := 3) rfl rfl) ?_
             refine Tops_nil (Tk_wkS (fr' := [(1, some (vcalls1)), (2, some (.pointer (some ⟨b1, 0, none⟩))), (5, some (.pointer (some ⟨b2, 0, none⟩))), (7, some (.map (some b3))), (8, some (.func (.func 14) #[] #[.pointer (some ⟨b1, 0, none⟩)])), (9, some (vI i1)), (10, some (.pointer (some ⟨b4, 0, none⟩))), (11, some (vI y1)), (16, some (vI store1.1)), (17, some (vI k2))]) (own' := [some (cellsR b1 22 [v11]), some (cellsR b2 62 [v3, v4]), some (rowsX u8S true v4 vs1 store1.2 none), some (mapR b3 .u64 (fun x : UInt64 => (x.toNat : Int)) vU8 (mput (At1 + (u64 k2)) ((shr64 V1 ((u64 (wi ((8 : Int) * k2))).toNat)).toUInt8) map5)), some (cellsR b4 40 [vI Kind1, vU64 At1, vI N1, vU64 V1, v12])]) (shr' := [Fact.sl dumbwaiterlaw02_ActS vcalls1 calls, Fact.sl RegionS v11 m5, Fact.sl RegionS v3 mem1.l, Fact.sl u8S v12 B1]) [1, 2, 5, 7, 8, 9, 10, 11, 16, 17] [0, 1, 2, 3, 4] [0, 1, 2, 3] rfl rfl rfl rfl ?_)
             refine Tk_blk (Tk_region (Tops_step rfl (OpT_move rfl rfl rfl rfl) ?_))
             refine Tops_step rfl (OpT_bin rfl rfl rfl rfl rfl (bin_add_i (a := k2) (b := (1 : Int)))) ?_
             refine Tops_step rfl (OpT_assign rfl rfl rfl rfl) ?_
             refine Tops_nil (Tk_wkS (fr' := [(1, some (vcalls1)), (2, some (.pointer (some ⟨b1, 0, none⟩))), (5, some (.pointer (some ⟨b2, 0, none⟩))), (7, some (.map (some b3))), (8, some (.func (.func 14) #[] #[.pointer (some ⟨b1, 0, none⟩)])), (9, some (vI i1)), (10, some (.pointer (some ⟨b4, 0, none⟩))), (11, some (vI y1)), (16, some (vI store1.1)), (17, some (vI (wi (k2 + (1 : Int)))))]) (own' := [some (cellsR b1 22 [v11]), some (cellsR b2 62 [v3, v4]), some (rowsX u8S true v4 vs1 store1.2 none), some (mapR b3 .u64 (fun x : UInt64 => (x.toNat : Int)) vU8 (mput (At1 + (u64 k2)) ((shr64 V1 ((u64 (wi ((8 : Int) * k2))).toNat)).toUInt8) map5)), some (cellsR b4 40 [vI Kind1, vU64 At1, vI N1, vU64 V1, v12])]) (shr' := [Fact.sl dumbwaiterlaw02_ActS vcalls1 calls, Fact.sl RegionS v11 m5, Fact.sl RegionS v3 mem1.l, Fact.sl u8S v12 B1]) [1, 2, 5, 7, 8, 9, 10, 11, 16, 17] [0, 1, 2, 3, 4] [0, 1, 2, 3] rfl rfl rfl rfl ?_)
             exact Tk_backS (m5, mput (At1 + (u64 k2)) ((shr64 V1 ((u64 (wi ((8 : Int) * k2))).toNat)).toUInt8) map5, Kind1, At1, N1, V1, B1, wi (k2 + (1 : Int)), v11, v12) h [1, 2, 5, 7, 8, 9, 10, 11, 16, 17] [0, 1, 2, 3, 4] [0, 1, 2, 3] rfl rfl rfl rfl rfl
            ·replace h := br_f hg15 h
             refine Tk_condF (congrArg (fun b => some (Value.bool b)) hg15) ?_
             refine Tk_exit _ rfl ?_
             exact Tk_jmpS (HJ3 (m5, store1.2, map5, v11) h) [1, 2, 5, 7, 8, 9] [0, 1, 2, 3] [0, 1, 2] rfl rfl rfl rfl
           ·replace h := br_f hg14 h
            refine Tops_no rfl rfl (congrArg (fun b => some (Value.bool b)) hg14) rfl rfl ?_
            refine Tops_no rfl rfl (congrArg (fun b => some (Value.bool b)) hg14) rfl rfl ?_
            refine Tops_step rfl (OpT_pickF rfl rfl rfl (congrArg (fun b => some (Value.bool b)) hg14) rfl) ?_
            refine Tops_nil (Tk_wkS (fr' := [(1, some (vcalls1)), (2, some (.pointer (some ⟨b1, 0, none⟩))), (5, some (.pointer (some ⟨b2, 0, none⟩))), (7, some (.map (some b3))), (8, some (.func (.func 14) #[] #[.pointer (some ⟨b1, 0, none⟩)])), (9, some (vI i1)), (10, some (.pointer (some ⟨b4, 0, none⟩))), (11, some (vI y1)), (16, some (vI store1.1)), (17, some (vI k2)), (150, some (vB false))]) (own' := [some (cellsR b1 22 [v11]), some (cellsR b2 62 [v3, v4]), some (rowsX u8S true v4 vs1 store1.2 none), some (mapR b3 .u64 (fun x : UInt64 => (x.toNat : Int)) vU8 map5), some (cellsR b4 40 [vI Kind1, vU64 At1, vI N1, vU64 V1, v12])]) (shr' := [Fact.sl dumbwaiterlaw02_ActS vcalls1 calls, Fact.sl RegionS v11 m5, Fact.sl RegionS v3 mem1.l, Fact.sl u8S v12 B1]) [1, 2, 5, 7, 8, 9, 10, 11, 16, 17, 150] [0, 1, 2, 3, 4] [0, 1, 2, 3] rfl rfl rfl rfl ?_)
            refine Tk_condF rfl ?_
            refine Tk_exit _ rfl ?_
            exact Tk_jmpS (HJ3 (m5, store1.2, map5, v11) h) [1, 2, 5, 7, 8, 9] [0, 1, 2, 3] [0, 1, 2] rfl rfl rfl rfl
          ·replace h := br_f hg12 h
           refine Tk_condF (congrArg (fun b => some (Value.bool b)) hg12) ?_
           refine Tk_seq (Tk_region (Tops_step rfl (OpT_bin rfl rfl rfl rfl rfl (bin_eql_i (a := pick2) (b := (3 : Int)))) ?_))
           refine Tops_step rfl (OpT_assign rfl rfl rfl rfl) ?_
           refine Tops_nil (Tk_wkS (fr' := [(1, some (vcalls1)), (2, some (.pointer (some ⟨b1, 0, none⟩))), (5, some (.pointer (some ⟨b2, 0, none⟩))), (7, some (.map (some b3))), (8, some (.func (.func 14) #[] #[.pointer (some ⟨b1, 0, none⟩)])), (9, some (vI i1)), (10, some (.pointer (some ⟨b4, 0, none⟩))), (166, some (vB (pick2 == (3 : Int))))]) (own' := [some (cellsR b1 22 [v5]), some (cellsR b2 62 [v3, v4]), some (rowsX u8S true v4 vs1 rows1 none), some (mapR b3 .u64 (fun x : UInt64 => (x.toNat : Int)) vU8 map1), some (cellsR b4 40 [vI d1.Kind, vU64 d1.At, vI d1.N, vU64 d1.V, v7])]) (shr' := [Fact.sl dumbwaiterlaw02_ActS vcalls1 calls, Fact.sl RegionS v5 m1, Fact.sl RegionS v3 mem1.l, Fact.sl u8S v7 d1.B]) [1, 2, 5, 7, 8, 9, 10, 166] [0, 1, 2, 3, 4] [0, 1, 2, 3] rfl rfl rfl rfl ?_)
           rcases Bool.eq_false_or_eq_true (pick2 == (3 : Int)) with hg16 | hg16
           ·replace h := br_t hg16 h
            refine Tk_condT (congrArg (fun b => some (Value.bool b)) hg16) ?_
            refine Tk_seq (Tk_drawT (by kernel_rfl) ?_)
            refine TA_tb [0, 0, 2, 0, 8, 24, 63, 127] (by kernel_rfl) fun htb => ?_
            refine TA_wkS (fr' := [(1, some (vcalls1)), (2, some (.pointer (some ⟨b1, 0, none⟩))), (5, some (.pointer (some ⟨b2, 0, none⟩))), (7, some (.map (some b3))), (8, some (.func (.func 14) #[] #[.pointer (some ⟨b1, 0, none⟩)])), (9, some (vI i1)), (10, some (.pointer (some ⟨b4, 0, none⟩)))]) (own' := [some (cellsR b1 22 [v5]), some (cellsR b2 62 [v3, v4]), some (rowsX u8S true v4 vs1 rows1 none), some (mapR b3 .u64 (fun x : UInt64 => (x.toNat : Int)) vU8 map1), some (cellsR b4 40 [vI d1.Kind, vU64 d1.At, vI d1.N, vU64 d1.V, v7])]) (shr' := [Fact.sl dumbwaiterlaw02_ActS vcalls1 calls, Fact.sl RegionS v5 m1, Fact.sl RegionS v3 mem1.l, Fact.sl u8S v7 d1.B]) [1, 2, 5, 7, 8, 9, 10] [0, 1, 2, 3, 4] [0, 1, 2, 3] rfl rfl rfl rfl ?_
            obtain ⟨own1, hx15, h⟩ := ob_e h
            refine TA_seg (lo := 0) (hi := 6) htb rfl rfl (by kernel_rfl) (fun c L a w => ∃ (v13 : Value), Sat c ⟨[(1, some (vcalls1)), (2, some (.pointer (some ⟨b1, 0, none⟩))), (5, some (.pointer (some ⟨b2, 0, none⟩))), (7, some (.map (some b3))), (8, some (.func (.func 14) #[] #[.pointer (some ⟨b1, 0, none⟩)])), (9, some (vI i1)), (10, some (.pointer (some ⟨b4, 0, none⟩))), (168, bif L 0 then some (.pointer (some ⟨b2, 0, none⟩)) else none), (169, bif L 1 then some (.pointer (some ⟨b4, 1, none⟩)) else none), (170, bif L 2 then some (vU64 d1.At) else none), (171, bif L 3 then some (.pointer (some ⟨b4, 4, none⟩)) else none), (172, bif L 4 then some (v7) else none), (173, bif L 5 then some (v13) else none)], [(some (cellsR b1 22 [v5]) : Option Res), (some (cellsR b2 62 [v3, v4]) : Option Res), (some (rowsX u8S true v4 vs1 rows1 none) : Option Res), (some (mapR b3 .u64 (fun x : UInt64 => (x.toNat : Int)) vU8 map1) : Option Res), (some (cellsR b4 40 [vI d1.Kind, vU64 d1.At, vI d1.N, vU64 d1.V, v7]) : Option Res)], [Fact.sl dumbwaiterlaw02_ActS vcalls1 calls, Fact.sl RegionS v5 m1, Fact.sl RegionS v3 mem1.l, Fact.sl u8S v7 d1.B, (bif L 5 then Fact.sl u8S v13 own1 else Fact.tt)]⟩ a w) [([], []), ([], [2]), ([1], []), ([], [4, 5]), ([3], [5]), ([3, 4], [])] rfl (by kernel_rfl) ?_ (steps_cons ?_ (steps_cons ?_ (steps_cons ?_ (steps_cons ?_ (steps_cons ?_ (steps_cons ?_ (steps_nil))))))) ?_
            ·intro a w hs
             exact ⟨undef, hs.startF [168, 169, 170, 171, 172, 173] [0, 1, 2, 3, 4] [0, 1, 2, 3, 4] rfl rfl rfl rfl⟩
            ·intro L a w hv K Q hK
             obtain ⟨v13, hs⟩ := hv
             refine wpOp_go rfl rfl hs (OpT_move rfl rfl rfl rfl) ?_
             rintro _ rfl a' w' hs'
             exact hK a' w' ⟨v13, hs'.putF (i := 7) rfl [0, 1, 2, 3, 4] [0, 1, 2, 3, 4] rfl rfl rfl rfl⟩
            ·intro L a w hv K Q hK
             obtain ⟨v13, hs⟩ := hv
             refine wpOp_go rfl rfl hs (OpT_fieldC rfl rfl rfl rfl fldF40x1) ?_
             rintro _ rfl a' w' hs'
             exact hK a' w' ⟨v13, hs'.putF (i := 8) rfl [0, 1, 2, 3, 4] [0, 1, 2, 3, 4] rfl rfl rfl rfl⟩
            ·intro L a w hv K Q hK
             obtain ⟨v13, hs⟩ := hv
             refine wpOp_go rfl rfl hs (OpT_loadC rfl rfl rfl rfl tyF26 (i := 4) rfl rfl) ?_
             rintro _ rfl a' w' hs'
             exact hK a' w' ⟨v13, hs'.putF (i := 9) rfl [0, 1, 2, 3, 4] [0, 1, 2, 3, 4] rfl rfl rfl rfl⟩
            ·intro L a w hv K Q hK
             obtain ⟨v13, hs⟩ := hv
             refine wpOp_go rfl rfl hs (OpT_fieldC rfl rfl rfl rfl fldF40x4) ?_
             rintro _ rfl a' w' hs'
             exact hK a' w' ⟨v13, hs'.putF (i := 10) rfl [0, 1, 2, 3, 4] [0, 1, 2, 3, 4] rfl rfl rfl rfl⟩
            ·intro L a w hv K Q hK
             obtain ⟨v13, hs⟩ := hv
             refine wpOp_go rfl rfl hs (OpT_loadC rfl rfl rfl rfl tyF38 (i := 4) rfl rfl) ?_
             rintro _ rfl a' w' hs'
             exact hK a' w' ⟨v13, hs'.putF (i := 11) rfl [0, 1, 2, 3, 4] [0, 1, 2, 3, 4] rfl rfl rfl rfl⟩
            ·intro L a w hv K Q hK
             obtain ⟨v13, hs⟩ := hv
             refine wpOp_go rfl rfl hs (OpT_call (ws_kit_Own hx15) [] [3] rfl rfl rfl rfl rfl callee19 rfl rfl rfl rfl) ?_
             rintro _ ⟨v13', _, _, ⟨_, rfl, rfl, rfl⟩, rfl⟩ a' w' hs'
             exact hK a' w' ⟨v13', hs'.putF (i := 12) rfl [0, 1, 2, 3, 4] [0, 1, 2, 3, 5] rfl rfl rfl rfl⟩
            ·intro L a w hL hv
             rw [allTrue hL] at hv
             obtain ⟨v13, hs⟩ := hv
             refine (show TA _ _ _ 6 ⟨[(1, some (vcalls1)), (2, some (.pointer (some ⟨b1, 0, none⟩))), (5, some (.pointer (some ⟨b2, 0, none⟩))), (7, some (.map (some b3))), (8, some (.func (.func 14) #[] #[.pointer (some ⟨b1, 0, none⟩)])), (9, some (vI i1)), (10, some (.pointer (some ⟨b4, 0, none⟩))), (168, some (.pointer (some ⟨b2, 0, none⟩))), (170, some (vU64 d1.At)), (173, some (v13))], [some (cellsR b1 22 [v5]), some (cellsR b2 62 [v3, v4]), some (rowsX u8S true v4 vs1 rows1 none), some (mapR b3 .u64 (fun x : UInt64 => (x.toNat : Int)) vU8 map1), some (cellsR b4 40 [vI d1.Kind, vU64 d1.At, vI d1.N, vU64 d1.V, v7])], [Fact.sl dumbwaiterlaw02_ActS vcalls1 calls, Fact.sl RegionS v5 m1, Fact.sl RegionS v3 mem1.l, Fact.sl u8S v7 d1.B, Fact.sl u8S v13 own1]⟩ from ?_) a w (hs.wkS [1, 2, 5, 7, 8, 9, 10, 168, 170, 173] [0, 1, 2, 3, 4] [0, 1, 2, 3, 4] rfl rfl rfl rfl)
             clear hs hL
             obtain ⟨write1, hx16, h⟩ := ob_e h
             refine TA_exP htb (by kernel_rfl) rfl rfl (OpT_callP [0, 5, 6, 3, 4] (w_gmem_Mem_Write hx16) [1, 2] [2, 4] rfl rfl rfl rfl rfl callee18 rfl rfl rfl rfl rfl) ?_
             rintro _ ⟨_, _, _, ⟨rfl, rfl, rfl⟩, rfl⟩
             refine TA_step htb (by kernel_rfl) rfl rfl (OpT_assign rfl rfl rfl rfl) ?_
             refine TA_end rfl ?_
             refine Tk_wkS (fr' := [(1, some (vcalls1)), (2, some (.pointer (some ⟨b1, 0, none⟩))), (5, some (.pointer (some ⟨b2, 0, none⟩))), (7, some (.map (some b3))), (8, some (.func (.func 14) #[] #[.pointer (some ⟨b1, 0, none⟩)])), (9, some (vI i1)), (10, some (.pointer (some ⟨b4, 0, none⟩))), (18, some (vI write1.1))]) (own' := [some (cellsR b1 22 [v5]), some (cellsR b2 62 [v3, v4]), some (rowsX u8S true v4 vs1 write1.2 none), some (mapR b3 .u64 (fun x : UInt64 => (x.toNat : Int)) vU8 map1), some (cellsR b4 40 [vI d1.Kind, vU64 d1.At, vI d1.N, vU64 d1.V, v7])]) (shr' := [Fact.sl dumbwaiterlaw02_ActS vcalls1 calls, Fact.sl RegionS v5 m1, Fact.sl RegionS v3 mem1.l, Fact.sl u8S v7 d1.B]) [1, 2, 5, 7, 8, 9, 10, 18] [0, 1, 2, 3, 4] [0, 1, 2, 3] rfl rfl rfl rfl ?_
             refine Tk_seq (Tk_seq (Tk_region (Tops_step rfl (OpT_move rfl rfl rfl rfl) ?_)))
             refine Tops_step rfl (OpT_bin rfl rfl rfl rfl rfl (bin_eql_i (a := write1.1) (b := (0 : Int)))) ?_
             refine Tops_step rfl (OpT_fieldC rfl rfl rfl rfl fldF40x4) ?_
             refine Tops_step rfl (OpT_loadC rfl rfl rfl rfl tyF38 (i := 4) rfl rfl) ?_
             refine Tops_step rfl (OpT_lenS rfl rfl rfl rfl Try.underlying38 (i := 3) rfl) ?_
             refine Tops_step rfl (OpT_bin rfl rfl rfl rfl rfl (bin_eql_i (a := len d1.B) (b := (0 : Int)))) ?_
             refine Tops_step rfl (OpT_move rfl rfl rfl rfl) ?_
             rcases Bool.eq_false_or_eq_true ((len d1.B) == (0 : Int)) with hg17 | hg17
             ·replace h := br_t hg17 h
              refine Tops_no rfl rfl (congrArg (fun b => some (Value.bool b)) hg17) rfl rfl ?_
              refine Tops_no rfl rfl (congrArg (fun b => some (Value.bool b)) hg17) rfl rfl ?_
              refine Tops_no rfl rfl (congrArg (fun b => some (Value.bool b)) hg17) rfl rfl ?_
              refine Tops_no rfl rfl (congrArg (fun b => some (Value.bool b)) hg17) rfl rfl ?_
              refine Tops_no rfl rfl (congrArg (fun b => some (Value.bool b)) hg17) rfl rfl ?_
              refine Tops_no rfl rfl (congrArg (fun b => some (Value.bool b)) hg17) rfl rfl ?_
              refine Tops_no rfl rfl (congrArg (fun b => some (Value.bool b)) hg17) rfl rfl ?_
              refine Tops_no rfl rfl (congrArg (fun b => some (Value.bool b)) hg17) rfl rfl ?_
              refine Tops_step rfl (OpT_pickT rfl rfl rfl (congrArg (fun b => some (Value.bool b)) hg17) rfl) ?_
              refine Tops_step rfl (OpT_bin rfl rfl rfl rfl rfl (bin_neq_b (a := write1.1 == (0 : Int)) (b := true) Try.underlying4)) ?_
              refine Tops_nil (Tk_wkS (fr' := [(1, some (vcalls1)), (2, some (.pointer (some ⟨b1, 0, none⟩))), (5, some (.pointer (some ⟨b2, 0, none⟩))), (7, some (.map (some b3))), (8, some (.func (.func 14) #[] #[.pointer (some ⟨b1, 0, none⟩)])), (9, some (vI i1)), (10, some (.pointer (some ⟨b4, 0, none⟩))), (18, some (vI write1.1)), (191, some (vB ((write1.1 == (0 : Int)) != true)))]) (own' := [some (cellsR b1 22 [v5]), some (cellsR b2 62 [v3, v4]), some (rowsX u8S true v4 vs1 write1.2 none), some (mapR b3 .u64 (fun x : UInt64 => (x.toNat : Int)) vU8 map1), some (cellsR b4 40 [vI d1.Kind, vU64 d1.At, vI d1.N, vU64 d1.V, v7])]) (shr' := [Fact.sl dumbwaiterlaw02_ActS vcalls1 calls, Fact.sl RegionS v5 m1, Fact.sl RegionS v3 mem1.l, Fact.sl u8S v7 d1.B]) [1, 2, 5, 7, 8, 9, 10, 18, 191] [0, 1, 2, 3, 4] [0, 1, 2, 3] rfl rfl rfl rfl ?_)
              obtain ⟨hg18, h⟩ := chk_e h
              replace hg18 := not_t hg18
              refine Tk_condF (congrArg (fun b => some (Value.bool b)) hg18) ?_
              refine Tk_skip (Tk_seq (Tk_region (Tops_step rfl (OpT_assign rfl rfl rfl rfl) ?_)))
              refine Tops_nil (Tk_wkS (fr' := [(1, some (vcalls1)), (2, some (.pointer (some ⟨b1, 0, none⟩))), (5, some (.pointer (some ⟨b2, 0, none⟩))), (7, some (.map (some b3))), (8, some (.func (.func 14) #[] #[.pointer (some ⟨b1, 0, none⟩)])), (9, some (vI i1)), (10, some (.pointer (some ⟨b4, 0, none⟩))), (18, some (vI write1.1)), (19, some (vI (0 : Int)))]) (own' := [some (cellsR b1 22 [v5]), some (cellsR b2 62 [v3, v4]), some (rowsX u8S true v4 vs1 write1.2 none), some (mapR b3 .u64 (fun x : UInt64 => (x.toNat : Int)) vU8 map1), some (cellsR b4 40 [vI d1.Kind, vU64 d1.At, vI d1.N, vU64 d1.V, v7])]) (shr' := [Fact.sl dumbwaiterlaw02_ActS vcalls1 calls, Fact.sl RegionS v5 m1, Fact.sl RegionS v3 mem1.l, Fact.sl u8S v7 d1.B]) [1, 2, 5, 7, 8, 9, 10, 18, 19] [0, 1, 2, 3, 4] [0, 1, 2, 3] rfl rfl rfl rfl ?_)
              refine Tk_block (Tk_loopS (σ := (List Region) × (List (UInt64 × UInt8)) × Int × UInt64 × Int × UInt64 × (List UInt8) × Int × Value × Value) [1, 2, 5, 7, 8, 9, 10, 18, 19] [0, 1, 2, 3, 4] [0, 1, 2, 3] (fun s => ⟨[(1, some (vcalls1)), (2, some (.pointer (some ⟨b1, 0, none⟩))), (5, some (.pointer (some ⟨b2, 0, none⟩))), (7, some (.map (some b3))), (8, some (.func (.func 14) #[] #[.pointer (some ⟨b1, 0, none⟩)])), (9, some (vI i1)), (10, some (.pointer (some ⟨b4, 0, none⟩))), (18, some (vI write1.1)), (19, some (vI s.2.2.2.2.2.2.2.1))], [some (cellsR b1 22 [s.2.2.2.2.2.2.2.2.1]), some (cellsR b2 62 [v3, v4]), some (rowsX u8S true v4 vs1 write1.2 none), some (mapR b3 .u64 (fun x : UInt64 => (x.toNat : Int)) vU8 s.2.1), some (cellsR b4 40 [vI s.2.2.1, vU64 s.2.2.2.1, vI s.2.2.2.2.1, vU64 s.2.2.2.2.2.1, s.2.2.2.2.2.2.2.2.2])], [Fact.sl dumbwaiterlaw02_ActS vcalls1 calls, Fact.sl RegionS s.2.2.2.2.2.2.2.2.1 s.1, Fact.sl RegionS v3 mem1.l, Fact.sl u8S s.2.2.2.2.2.2.2.2.2 s.2.2.2.2.2.2.1]⟩) (fun nf7 s => law02zGmemHoldsL7 i1 (law02zGmemHoldsL1 calls mem1 nf1) write1 nf7 s.1 s.2.1 s.2.2.1 s.2.2.2.1 s.2.2.2.2.1 s.2.2.2.2.2.1 s.2.2.2.2.2.2.1 s.2.2.2.2.2.2.2.1 = some true) fuel (m1, map1, d1.Kind, d1.At, d1.N, d1.V, d1.B, (0 : Int), v5, v7) h rfl rfl rfl rfl rfl (fun s h => by cases h) ?_)
              rintro nf7 ⟨m6, map6, Kind2, At2, N2, V2, B2, k3, v14, v15⟩ h
              replace h : law02zGmemHoldsL7B i1 (law02zGmemHoldsL1 calls mem1 nf1) write1 (law02zGmemHoldsL7 i1 (law02zGmemHoldsL1 calls mem1 nf1) write1 nf7) m6 map6 Kind2 At2 N2 V2 B2 k3 = some true := h
              unfold law02zGmemHoldsL7B at h
              refine Tk_seq (Tk_seq (Tk_region (Tops_step rfl (OpT_move rfl rfl rfl rfl) ?_)))
              refine Tops_step rfl (OpT_fieldC rfl rfl rfl rfl fldF40x4) ?_
              refine Tops_step rfl (OpT_loadC rfl rfl rfl rfl tyF38 (i := 4) rfl rfl) ?_
              refine Tops_step rfl (OpT_lenS rfl rfl rfl rfl Try.underlying38 (i := 3) rfl) ?_
              refine Tops_step rfl (OpT_bin rfl rfl rfl rfl rfl (bin_lss_i (a := k3) (b := len B2))) ?_
              refine Tops_step rfl (OpT_move rfl rfl rfl rfl) ?_
              rcases Bool.eq_false_or_eq_true (decide (k3 < (len B2))) with hg19 | hg19
              ·replace h := br_t hg19 h
               refine Tops_yes rfl rfl (congrArg (fun b => some (Value.bool b)) hg19) (OpT_move rfl rfl rfl rfl) ?_
               rintro _ rfl
               refine Tops_yes rfl rfl (congrArg (fun b => some (Value.bool b)) hg19) (OpT_bin rfl rfl rfl rfl rfl (bin_eql_i (a := write1.1) (b := (0 : Int)))) ?_
               rintro _ rfl
               refine Tops_step rfl (OpT_pickT rfl rfl rfl (congrArg (fun b => some (Value.bool b)) hg19) rfl) ?_
               refine Tops_nil (Tk_wkS (fr' := [(1, some (vcalls1)), (2, some (.pointer (some ⟨b1, 0, none⟩))), (5, some (.pointer (some ⟨b2, 0, none⟩))), (7, some (.map (some b3))), (8, some (.func (.func 14) #[] #[.pointer (some ⟨b1, 0, none⟩)])), (9, some (vI i1)), (10, some (.pointer (some ⟨b4, 0, none⟩))), (18, some (vI write1.1)), (19, some (vI k3)), (200, some (vB (write1.1 == (0 : Int))))]) (own' := [some (cellsR b1 22 [v14]), some (cellsR b2 62 [v3, v4]), some (rowsX u8S true v4 vs1 write1.2 none), some (mapR b3 .u64 (fun x : UInt64 => (x.toNat : Int)) vU8 map6), some (cellsR b4 40 [vI Kind2, vU64 At2, vI N2, vU64 V2, v15])]) (shr' := [Fact.sl dumbwaiterlaw02_ActS vcalls1 calls, Fact.sl RegionS v14 m6, Fact.sl RegionS v3 mem1.l, Fact.sl u8S v15 B2]) [1, 2, 5, 7, 8, 9, 10, 18, 19, 200] [0, 1, 2, 3, 4] [0, 1, 2, 3] rfl rfl rfl rfl ?_)
               rcases Bool.eq_false_or_eq_true (write1.1 == (0 : Int)) with hg20 | hg20
               ·replace h := br_t hg20 h
                refine Tk_condT (congrArg (fun b => some (Value.bool b)) hg20) ?_
                refine Tk_skip (Tk_seq (Tk_block (Tk_drawT (by kernel_rfl) ?_)))
                refine TA_tb [0, 0, 2, 0, 8, 30, 0, 64, 0, 448, 960, 2047] (by kernel_rfl) fun htb => ?_
                refine TA_wkS (fr' := [(1, some (vcalls1)), (2, some (.pointer (some ⟨b1, 0, none⟩))), (5, some (.pointer (some ⟨b2, 0, none⟩))), (7, some (.map (some b3))), (8, some (.func (.func 14) #[] #[.pointer (some ⟨b1, 0, none⟩)])), (9, some (vI i1)), (10, some (.pointer (some ⟨b4, 0, none⟩))), (18, some (vI write1.1)), (19, some (vI k3))]) (own' := [some (cellsR b1 22 [v14]), some (cellsR b2 62 [v3, v4]), some (rowsX u8S true v4 vs1 write1.2 none), some (mapR b3 .u64 (fun x : UInt64 => (x.toNat : Int)) vU8 map6), some (cellsR b4 40 [vI Kind2, vU64 At2, vI N2, vU64 V2, v15])]) (shr' := [Fact.sl dumbwaiterlaw02_ActS vcalls1 calls, Fact.sl RegionS v14 m6, Fact.sl RegionS v3 mem1.l, Fact.sl u8S v15 B2]) [1, 2, 5, 7, 8, 9, 10, 18, 19] [0, 1, 2, 3, 4] [0, 1, 2, 3] rfl rfl rfl rfl ?_
                obtain ⟨y2, hx17, h⟩ := ob_e h
                refine TA_seg (lo := 0) (hi := 11) htb rfl rfl (by kernel_rfl) (fun c L a w => ∃ (p2 : Value), Sat c ⟨[(1, some (vcalls1)), (2, some (.pointer (some ⟨b1, 0, none⟩))), (5, some (.pointer (some ⟨b2, 0, none⟩))), (7, some (.map (some b3))), (8, some (.func (.func 14) #[] #[.pointer (some ⟨b1, 0, none⟩)])), (9, some (vI i1)), (10, some (.pointer (some ⟨b4, 0, none⟩))), (18, some (vI write1.1)), (19, some (vI k3)), (203, bif L 0 then some (.map (some b3)) else none), (204, bif L 1 then some (.pointer (some ⟨b4, 1, none⟩)) else none), (205, bif L 2 then some (vU64 At2) else none), (206, bif L 3 then some (vI k3) else none), (207, bif L 4 then some (vU64 (u64 k3)) else none), (208, bif L 5 then some (vU64 (At2 + (u64 k3))) else none), (209, bif L 6 then some (.pointer (some ⟨b4, 4, none⟩)) else none), (210, bif L 7 then some (v15) else none), (211, bif L 8 then some (vI k3) else none), (212, bif L 9 then some (p2) else none), (213, bif L 10 then some (vU8 y2) else none)], [(some (cellsR b1 22 [v14]) : Option Res), (some (cellsR b2 62 [v3, v4]) : Option Res), (some (rowsX u8S true v4 vs1 write1.2 none) : Option Res), (some (mapR b3 .u64 (fun x : UInt64 => (x.toNat : Int)) vU8 map6) : Option Res), (some (cellsR b4 40 [vI Kind2, vU64 At2, vI N2, vU64 V2, v15]) : Option Res)], [Fact.sl dumbwaiterlaw02_ActS vcalls1 calls, Fact.sl RegionS v14 m6, Fact.sl RegionS v3 mem1.l, Fact.sl u8S v15 B2, (bif L 9 then Fact.pt u8S p2 y2 else Fact.tt)]⟩ a w) [([], []), ([], [2, 5]), ([1], [5]), ([], [4, 5]), ([3], [5]), ([1, 2, 3, 4], []), ([], [7, 9, 10]), ([6], [9, 10]), ([], [9, 10]), ([6, 7, 8], [10]), ([6, 7, 8, 9], [])] rfl (by kernel_rfl) ?_ (steps_cons ?_ (steps_cons ?_ (steps_cons ?_ (steps_cons ?_ (steps_cons ?_ (steps_cons ?_ (steps_cons ?_ (steps_cons ?_ (steps_cons ?_ (steps_cons ?_ (steps_cons ?_ (steps_nil)))))))))))) ?_
                ·intro a w hs
                 exact ⟨undef, hs.startF [203, 204, 205, 206, 207, 208, 209, 210, 211, 212, 213] [0, 1, 2, 3, 4] [0, 1, 2, 3, 4] rfl rfl rfl rfl⟩
                ·intro L a w hv K Q hK
                 obtain ⟨p2, hs⟩ := hv
                 refine wpOp_go rfl rfl hs (OpT_move rfl rfl rfl rfl) ?_
                 rintro _ rfl a' w' hs'
                 exact hK a' w' ⟨p2, hs'.putF (i := 9) rfl [0, 1, 2, 3, 4] [0, 1, 2, 3, 4] rfl rfl rfl rfl⟩
                ·intro L a w hv K Q hK
                 obtain ⟨p2, hs⟩ := hv
                 refine wpOp_go rfl rfl hs (OpT_fieldC rfl rfl rfl rfl fldF40x1) ?_
                 rintro _ rfl a' w' hs'
                 exact hK a' w' ⟨p2, hs'.putF (i := 10) rfl [0, 1, 2, 3, 4] [0, 1, 2, 3, 4] rfl rfl rfl rfl⟩
                ·intro L a w hv K Q hK
                 obtain ⟨p2, hs⟩ := hv
                 refine wpOp_go rfl rfl hs (OpT_loadC rfl rfl rfl rfl tyF26 (i := 4) rfl rfl) ?_
                 rintro _ rfl a' w' hs'
                 exact hK a' w' ⟨p2, hs'.putF (i := 11) rfl [0, 1, 2, 3, 4] [0, 1, 2, 3, 4] rfl rfl rfl rfl⟩
                ·intro L a w hv K Q hK
                 obtain ⟨p2, hs⟩ := hv
                 refine wpOp_go rfl rfl hs (OpT_move rfl rfl rfl rfl) ?_
                 rintro _ rfl a' w' hs'
                 exact hK a' w' ⟨p2, hs'.putF (i := 12) rfl [0, 1, 2, 3, 4] [0, 1, 2, 3, 4] rfl rfl rfl rfl⟩
                ·intro L a w hv K Q hK
                 obtain ⟨p2, hs⟩ := hv
                 refine wpOp_go rfl rfl hs (OpT_cnv rfl rfl rfl rfl (cnv_i_u64 (n := k3) Try.underlying3 Try.underlying26)) ?_
                 rintro _ rfl a' w' hs'
                 exact hK a' w' ⟨p2, hs'.putF (i := 13) rfl [0, 1, 2, 3, 4] [0, 1, 2, 3, 4] rfl rfl rfl rfl⟩
                ·intro L a w hv K Q hK
                 obtain ⟨p2, hs⟩ := hv
                 refine wpOp_go rfl rfl hs (OpT_bin rfl rfl rfl rfl rfl (bin_add_u64 (a := At2) (b := u64 k3))) ?_
                 rintro _ rfl a' w' hs'
                 exact hK a' w' ⟨p2, hs'.putF (i := 14) rfl [0, 1, 2, 3, 4] [0, 1, 2, 3, 4] rfl rfl rfl rfl⟩
                ·intro L a w hv K Q hK
                 obtain ⟨p2, hs⟩ := hv
                 refine wpOp_go rfl rfl hs (OpT_fieldC rfl rfl rfl rfl fldF40x4) ?_
                 rintro _ rfl a' w' hs'
                 exact hK a' w' ⟨p2, hs'.putF (i := 15) rfl [0, 1, 2, 3, 4] [0, 1, 2, 3, 4] rfl rfl rfl rfl⟩
                ·intro L a w hv K Q hK
                 obtain ⟨p2, hs⟩ := hv
                 refine wpOp_go rfl rfl hs (OpT_loadC rfl rfl rfl rfl tyF38 (i := 4) rfl rfl) ?_
                 rintro _ rfl a' w' hs'
                 exact hK a' w' ⟨p2, hs'.putF (i := 16) rfl [0, 1, 2, 3, 4] [0, 1, 2, 3, 4] rfl rfl rfl rfl⟩
                ·intro L a w hv K Q hK
                 obtain ⟨p2, hs⟩ := hv
                 refine wpOp_go rfl rfl hs (OpT_move rfl rfl rfl rfl) ?_
                 rintro _ rfl a' w' hs'
                 exact hK a' w' ⟨p2, hs'.putF (i := 17) rfl [0, 1, 2, 3, 4] [0, 1, 2, 3, 4] rfl rfl rfl rfl⟩
                ·intro L a w hv K Q hK
                 obtain ⟨p2, hs⟩ := hv
                 refine wpOp_go rfl rfl hs (OpT_idxS rfl rfl rfl rfl rfl slF38 (i := 3) rfl hx17) ?_
                 rintro _ ⟨p2', rfl⟩ a' w' hs'
                 exact hK a' w' ⟨p2', hs'.putF (i := 18) rfl [0, 1, 2, 3, 4] [0, 1, 2, 3, 5] rfl rfl rfl rfl⟩
                ·intro L a w hv K Q hK
                 obtain ⟨p2, hs⟩ := hv
                 refine wpOp_go rfl rfl hs (OpT_loadP rfl rfl rfl rfl tyF5 (i := 4) rfl rfl) ?_
                 rintro _ rfl a' w' hs'
                 exact hK a' w' ⟨p2, hs'.putF (i := 19) rfl [0, 1, 2, 3, 4] [0, 1, 2, 3, 4] rfl rfl rfl rfl⟩
                ·intro L a w hL hv
                 rw [allTrue hL] at hv
                 obtain ⟨p2, hs⟩ := hv
                 refine (show TA _ _ _ 11 ⟨[(1, some (vcalls1)), (2, some (.pointer (some ⟨b1, 0, none⟩))), (5, some (.pointer (some ⟨b2, 0, none⟩))), (7, some (.map (some b3))), (8, some (.func (.func 14) #[] #[.pointer (some ⟨b1, 0, none⟩)])), (9, some (vI i1)), (10, some (.pointer (some ⟨b4, 0, none⟩))), (18, some (vI write1.1)), (19, some (vI k3)), (203, some (.map (some b3))), (208, some (vU64 (At2 + (u64 k3)))), (213, some (vU8 y2))], [some (cellsR b1 22 [v14]), some (cellsR b2 62 [v3, v4]), some (rowsX u8S true v4 vs1 write1.2 none), some (mapR b3 .u64 (fun x : UInt64 => (x.toNat : Int)) vU8 map6), some (cellsR b4 40 [vI Kind2, vU64 At2, vI N2, vU64 V2, v15])], [Fact.sl dumbwaiterlaw02_ActS vcalls1 calls, Fact.sl RegionS v14 m6, Fact.sl RegionS v3 mem1.l, Fact.sl u8S v15 B2]⟩ from ?_) a w (hs.wkS [1, 2, 5, 7, 8, 9, 10, 18, 19, 203, 208, 213] [0, 1, 2, 3, 4] [0, 1, 2, 3] rfl rfl rfl rfl)
                 clear hs hL
                 refine TA_step htb (by kernel_rfl) rfl rfl (OpT_mapUpdate keyU64 (At2 + (u64 k3)) y2 (V := vU8) (z := (0 : UInt8)) rfl rfl rfl rfl rfl rfl Try.underlying34 Try.underlying26 (i := 3) rfl rfl) ?_
                 refine TA_end rfl ?_
                 refine Tk_wkS (fr' := [(1, some (vcalls1)), (2, some (.pointer (some ⟨b1, 0, none⟩))), (5, some (.pointer (some ⟨b2, 0, none⟩))), (7, some (.map (some b3))), (8, some (.func (.func 14) #[] #[.pointer (some ⟨b1, 0, none⟩)])), (9, some (vI i1)), (10, some (.pointer (some ⟨b4, 0, none⟩))), (18, some (vI write1.1)), (19, some (vI k3))]) (own' := [some (cellsR b1 22 [v14]), some (cellsR b2 62 [v3, v4]), some (rowsX u8S true v4 vs1 write1.2 none), some (mapR b3 .u64 (fun x : UInt64 => (x.toNat : Int)) vU8 (mput (At2 + (u64 k3)) y2 map6)), some (cellsR b4 40 [vI Kind2, vU64 At2, vI N2, vU64 V2, v15])]) (shr' := [Fact.sl dumbwaiterlaw02_ActS vcalls1 calls, Fact.sl RegionS v14 m6, Fact.sl RegionS v3 mem1.l, Fact.sl u8S v15 B2]) [1, 2, 5, 7, 8, 9, 10, 18, 19] [0, 1, 2, 3, 4] [0, 1, 2, 3] rfl rfl rfl rfl ?_
                 refine Tk_blk (Tk_region (Tops_step rfl (OpT_move rfl rfl rfl rfl) ?_))
                 refine Tops_step rfl (OpT_bin rfl rfl rfl rfl rfl (bin_add_i (a := k3) (b := (1 : Int)))) ?_
                 refine Tops_step rfl (OpT_assign rfl rfl rfl rfl) ?_
                 refine Tops_nil (Tk_wkS (fr' := [(1, some (vcalls1)), (2, some (.pointer (some ⟨b1, 0, none⟩))), (5, some (.pointer (some ⟨b2, 0, none⟩))), (7, some (.map (some b3))), (8, some (.func (.func 14) #[] #[.pointer (some ⟨b1, 0, none⟩)])), (9, some (vI i1)), (10, some (.pointer (some ⟨b4, 0, none⟩))), (18, some (vI write1.1)), (19, some (vI (wi (k3 + (1 : Int)))))]) (own' := [some (cellsR b1 22 [v14]), some (cellsR b2 62 [v3, v4]), some (rowsX u8S true v4 vs1 write1.2 none), some (mapR b3 .u64 (fun x : UInt64 => (x.toNat : Int)) vU8 (mput (At2 + (u64 k3)) y2 map6)), some (cellsR b4 40 [vI Kind2, vU64 At2, vI N2, vU64 V2, v15])]) (shr' := [Fact.sl dumbwaiterlaw02_ActS vcalls1 calls, Fact.sl RegionS v14 m6, Fact.sl RegionS v3 mem1.l, Fact.sl u8S v15 B2]) [1, 2, 5, 7, 8, 9, 10, 18, 19] [0, 1, 2, 3, 4] [0, 1, 2, 3] rfl rfl rfl rfl ?_)
                 exact Tk_backS (m6, mput (At2 + (u64 k3)) y2 map6, Kind2, At2, N2, V2, B2, wi (k3 + (1 : Int)), v14, v15) h [1, 2, 5, 7, 8, 9, 10, 18, 19] [0, 1, 2, 3, 4] [0, 1, 2, 3] rfl rfl rfl rfl rfl
               ·replace h := br_f hg20 h
                refine Tk_condF (congrArg (fun b => some (Value.bool b)) hg20) ?_
                refine Tk_exit _ rfl ?_
                exact Tk_jmpS (HJ3 (m6, write1.2, map6, v14) h) [1, 2, 5, 7, 8, 9] [0, 1, 2, 3] [0, 1, 2] rfl rfl rfl rfl
              ·replace h := br_f hg19 h
               refine Tops_no rfl rfl (congrArg (fun b => some (Value.bool b)) hg19) rfl rfl ?_
               refine Tops_no rfl rfl (congrArg (fun b => some (Value.bool b)) hg19) rfl rfl ?_
               refine Tops_step rfl (OpT_pickF rfl rfl rfl (congrArg (fun b => some (Value.bool b)) hg19) rfl) ?_
               refine Tops_nil (Tk_wkS (fr' := [(1, some (vcalls1)), (2, some (.pointer (some ⟨b1, 0, none⟩))), (5, some (.pointer (some ⟨b2, 0, none⟩))), (7, some (.map (some b3))), (8, some (.func (.func 14) #[] #[.pointer (some ⟨b1, 0, none⟩)])), (9, some (vI i1)), (10, some (.pointer (some ⟨b4, 0, none⟩))), (18, some (vI write1.1)), (19, some (vI k3)), (200, some (vB false))]) (own' := [some (cellsR b1 22 [v14]), some (cellsR b2 62 [v3, v4]), some (rowsX u8S true v4 vs1 write1.2 none), some (mapR b3 .u64 (fun x : UInt64 => (x.toNat : Int)) vU8 map6), some (cellsR b4 40 [vI Kind2, vU64 At2, vI N2, vU64 V2, v15])]) (shr' := [Fact.sl dumbwaiterlaw02_ActS vcalls1 calls, Fact.sl RegionS v14 m6, Fact.sl RegionS v3 mem1.l, Fact.sl u8S v15 B2]) [1, 2, 5, 7, 8, 9, 10, 18, 19, 200] [0, 1, 2, 3, 4] [0, 1, 2, 3] rfl rfl rfl rfl ?_)
               refine Tk_condF rfl ?_
               refine Tk_exit _ rfl ?_
               exact Tk_jmpS (HJ3 (m6, write1.2, map6, v14) h) [1, 2, 5, 7, 8, 9] [0, 1, 2, 3] [0, 1, 2] rfl rfl rfl rfl
             ·replace h := br_f hg17 h
              refine Tops_yes rfl rfl (congrArg (fun b => some (Value.bool b)) hg17) (OpT_move rfl rfl rfl rfl) ?_
              rintro _ rfl
              refine Tops_yes rfl rfl (congrArg (fun b => some (Value.bool b)) hg17) (OpT_fieldC rfl rfl rfl rfl fldF40x1) ?_
              rintro _ rfl
              refine Tops_yes rfl rfl (congrArg (fun b => some (Value.bool b)) hg17) (OpT_loadC rfl rfl rfl rfl tyF26 (i := 4) rfl rfl) ?_
              rintro _ rfl
              refine Tops_yes rfl rfl (congrArg (fun b => some (Value.bool b)) hg17) (OpT_fieldC rfl rfl rfl rfl fldF40x4) ?_
              rintro _ rfl
              refine Tops_yes rfl rfl (congrArg (fun b => some (Value.bool b)) hg17) (OpT_loadC rfl rfl rfl rfl tyF38 (i := 4) rfl rfl) ?_
              rintro _ rfl
              refine Tops_yes rfl rfl (congrArg (fun b => some (Value.bool b)) hg17) (OpT_lenS rfl rfl rfl rfl Try.underlying38 (i := 3) rfl) ?_
              rintro _ rfl
              refine Tops_yes rfl rfl (congrArg (fun b => some (Value.bool b)) hg17) (OpT_cnv rfl rfl rfl rfl (cnv_i_u64 (n := len d1.B) Try.underlying3 Try.underlying26)) ?_
              rintro _ rfl
              obtain ⟨gmemho3, hx18, h⟩ := ob_e h
              refine Tops_yes rfl rfl (congrArg (fun b => some (Value.bool b)) hg17) (OpT_callP [5, 1, 2, 3, 4] (w_law02zGmemHolds_1 hx18) [0] [1] rfl rfl rfl rfl rfl callee14 rfl rfl rfl rfl rfl) ?_
              rintro _ ⟨_, _, _, ⟨rfl, rfl, rfl⟩, rfl⟩
              refine Tops_step rfl (OpT_pickF rfl rfl rfl (congrArg (fun b => some (Value.bool b)) hg17) rfl) ?_
              refine Tops_step rfl (OpT_bin rfl rfl rfl rfl rfl (bin_neq_b (a := write1.1 == (0 : Int)) (b := gmemho3) Try.underlying4)) ?_
              refine Tops_nil (Tk_wkS (fr' := [(1, some (vcalls1)), (2, some (.pointer (some ⟨b1, 0, none⟩))), (5, some (.pointer (some ⟨b2, 0, none⟩))), (7, some (.map (some b3))), (8, some (.func (.func 14) #[] #[.pointer (some ⟨b1, 0, none⟩)])), (9, some (vI i1)), (10, some (.pointer (some ⟨b4, 0, none⟩))), (18, some (vI write1.1)), (191, some (vB ((write1.1 == (0 : Int)) != gmemho3)))]) (own' := [some (cellsR b1 22 [v5]), some (cellsR b2 62 [v3, v4]), some (rowsX u8S true v4 vs1 write1.2 none), some (mapR b3 .u64 (fun x : UInt64 => (x.toNat : Int)) vU8 map1), some (cellsR b4 40 [vI d1.Kind, vU64 d1.At, vI d1.N, vU64 d1.V, v7])]) (shr' := [Fact.sl dumbwaiterlaw02_ActS vcalls1 calls, Fact.sl RegionS v5 m1, Fact.sl RegionS v3 mem1.l, Fact.sl u8S v7 d1.B]) [1, 2, 5, 7, 8, 9, 10, 18, 191] [0, 1, 2, 3, 4] [0, 1, 2, 3] rfl rfl rfl rfl ?_)
              obtain ⟨hg21, h⟩ := chk_e h
              replace hg21 := not_t hg21
              refine Tk_condF (congrArg (fun b => some (Value.bool b)) hg21) ?_
              refine Tk_skip (Tk_seq (Tk_region (Tops_step rfl (OpT_assign rfl rfl rfl rfl) ?_)))
              refine Tops_nil (Tk_wkS (fr' := [(1, some (vcalls1)), (2, some (.pointer (some ⟨b1, 0, none⟩))), (5, some (.pointer (some ⟨b2, 0, none⟩))), (7, some (.map (some b3))), (8, some (.func (.func 14) #[] #[.pointer (some ⟨b1, 0, none⟩)])), (9, some (vI i1)), (10, some (.pointer (some ⟨b4, 0, none⟩))), (18, some (vI write1.1)), (19, some (vI (0 : Int)))]) (own' := [some (cellsR b1 22 [v5]), some (cellsR b2 62 [v3, v4]), some (rowsX u8S true v4 vs1 write1.2 none), some (mapR b3 .u64 (fun x : UInt64 => (x.toNat : Int)) vU8 map1), some (cellsR b4 40 [vI d1.Kind, vU64 d1.At, vI d1.N, vU64 d1.V, v7])]) (shr' := [Fact.sl dumbwaiterlaw02_ActS vcalls1 calls, Fact.sl RegionS v5 m1, Fact.sl RegionS v3 mem1.l, Fact.sl u8S v7 d1.B]) [1, 2, 5, 7, 8, 9, 10, 18, 19] [0, 1, 2, 3, 4] [0, 1, 2, 3] rfl rfl rfl rfl ?_)
              refine Tk_block (Tk_loopS (σ := (List Region) × (List (UInt64 × UInt8)) × Int × UInt64 × Int × UInt64 × (List UInt8) × Int × Value × Value) [1, 2, 5, 7, 8, 9, 10, 18, 19] [0, 1, 2, 3, 4] [0, 1, 2, 3] (fun s => ⟨[(1, some (vcalls1)), (2, some (.pointer (some ⟨b1, 0, none⟩))), (5, some (.pointer (some ⟨b2, 0, none⟩))), (7, some (.map (some b3))), (8, some (.func (.func 14) #[] #[.pointer (some ⟨b1, 0, none⟩)])), (9, some (vI i1)), (10, some (.pointer (some ⟨b4, 0, none⟩))), (18, some (vI write1.1)), (19, some (vI s.2.2.2.2.2.2.2.1))], [some (cellsR b1 22 [s.2.2.2.2.2.2.2.2.1]), some (cellsR b2 62 [v3, v4]), some (rowsX u8S true v4 vs1 write1.2 none), some (mapR b3 .u64 (fun x : UInt64 => (x.toNat : Int)) vU8 s.2.1), some (cellsR b4 40 [vI s.2.2.1, vU64 s.2.2.2.1, vI s.2.2.2.2.1, vU64 s.2.2.2.2.2.1, s.2.2.2.2.2.2.2.2.2])], [Fact.sl dumbwaiterlaw02_ActS vcalls1 calls, Fact.sl RegionS s.2.2.2.2.2.2.2.2.1 s.1, Fact.sl RegionS v3 mem1.l, Fact.sl u8S s.2.2.2.2.2.2.2.2.2 s.2.2.2.2.2.2.1]⟩) (fun nf8 s => law02zGmemHoldsL8 i1 (law02zGmemHoldsL1 calls mem1 nf1) write1 nf8 s.1 s.2.1 s.2.2.1 s.2.2.2.1 s.2.2.2.2.1 s.2.2.2.2.2.1 s.2.2.2.2.2.2.1 s.2.2.2.2.2.2.2.1 = some true) fuel (m1, map1, d1.Kind, d1.At, d1.N, d1.V, d1.B, (0 : Int), v5, v7) h rfl rfl rfl rfl rfl (fun s h => by cases h) ?_)
              rintro nf8 ⟨m7, map7, Kind3, At3, N3, V3, B3, k4, v16, v17⟩ h
              replace h : law02zGmemHoldsL8B i1 (law02zGmemHoldsL1 calls mem1 nf1) write1 (law02zGmemHoldsL8 i1 (law02zGmemHoldsL1 calls mem1 nf1) write1 nf8) m7 map7 Kind3 At3 N3 V3 B3 k4 = some true := h
              unfold law02zGmemHoldsL8B at h
              refine Tk_seq (Tk_seq (Tk_region (Tops_step rfl (OpT_move rfl rfl rfl rfl) ?_)))
              refine Tops_step rfl (OpT_fieldC rfl rfl rfl rfl fldF40x4) ?_
              refine Tops_step rfl (OpT_loadC rfl rfl rfl rfl tyF38 (i := 4) rfl rfl) ?_
              refine Tops_step rfl (OpT_lenS rfl rfl rfl rfl Try.underlying38 (i := 3) rfl) ?_
              refine Tops_step rfl (OpT_bin rfl rfl rfl rfl rfl (bin_lss_i (a := k4) (b := len B3))) ?_
              refine Tops_step rfl (OpT_move rfl rfl rfl rfl) ?_
              rcases Bool.eq_false_or_eq_true (decide (k4 < (len B3))) with hg22 | hg22
              ·replace h := br_t hg22 h
               refine Tops_yes rfl rfl (congrArg (fun b => some (Value.bool b)) hg22) (OpT_move rfl rfl rfl rfl) ?_
               rintro _ rfl
               refine Tops_yes rfl rfl (congrArg (fun b => some (Value.bool b)) hg22) (OpT_bin rfl rfl rfl rfl rfl (bin_eql_i (a := write1.1) (b := (0 : Int)))) ?_
               rintro _ rfl
               refine Tops_step rfl (OpT_pickT rfl rfl rfl (congrArg (fun b => some (Value.bool b)) hg22) rfl) ?_
               refine Tops_nil (Tk_wkS (fr' := [(1, some (vcalls1)), (2, some (.pointer (some ⟨b1, 0, none⟩))), (5, some (.pointer (some ⟨b2, 0, none⟩))), (7, some (.map (some b3))), (8, some (.func (.func 14) #[] #[.pointer (some ⟨b1, 0, none⟩)])), (9, some (vI i1)), (10, some (.pointer (some ⟨b4, 0, none⟩))), (18, some (vI write1.1)), (19, some (vI k4)), (200, some (vB (write1.1 == (0 : Int))))]) (own' := [some (cellsR b1 22 [v16]), some (cellsR b2 62 [v3, v4]), some (rowsX u8S true v4 vs1 write1.2 none), some (mapR b3 .u64 (fun x : UInt64 => (x.toNat : Int)) vU8 map7), some (cellsR b4 40 [vI Kind3, vU64 At3, vI N3, vU64 V3, v17])]) (shr' := [Fact.sl dumbwaiterlaw02_ActS vcalls1 calls, Fact.sl RegionS v16 m7, Fact.sl RegionS v3 mem1.l, Fact.sl u8S v17 B3]) [1, 2, 5, 7, 8, 9, 10, 18, 19, 200] [0, 1, 2, 3, 4] [0, 1, 2, 3] rfl rfl rfl rfl ?_)
               rcases Bool.eq_false_or_eq_true (write1.1 == (0 : Int)) with hg23 | hg23
               ·replace h := br_t hg23 h
                refine Tk_condT (congrArg (fun b => some (Value.bool b)) hg23) ?_
                refine Tk_skip (Tk_seq (Tk_block (Tk_drawT (by kernel_rfl) ?_)))
                refine TA_tb [0, 0, 2, 0, 8, 30, 0, 64, 0, 448, 960, 2047] (by kernel_rfl) fun htb => ?_
                refine TA_wkS (fr' := [(1, some (vcalls1)), (2, some (.pointer (some ⟨b1, 0, none⟩))), (5, some (.pointer (some ⟨b2, 0, none⟩))), (7, some (.map (some b3))), (8, some (.func (.func 14) #[] #[.pointer (some ⟨b1, 0, none⟩)])), (9, some (vI i1)), (10, some (.pointer (some ⟨b4, 0, none⟩))), (18, some (vI write1.1)), (19, some (vI k4))]) (own' := [some (cellsR b1 22 [v16]), some (cellsR b2 62 [v3, v4]), some (rowsX u8S true v4 vs1 write1.2 none), some (mapR b3 .u64 (fun x : UInt64 => (x.toNat : Int)) vU8 map7), some (cellsR b4 40 [vI Kind3, vU64 At3, vI N3, vU64 V3, v17])]) (shr' := [Fact.sl dumbwaiterlaw02_ActS vcalls1 calls, Fact.sl RegionS v16 m7, Fact.sl RegionS v3 mem1.l, Fact.sl u8S v17 B3]) [1, 2, 5, 7, 8, 9, 10, 18, 19] [0, 1, 2, 3, 4] [0, 1, 2, 3] rfl rfl rfl rfl ?_
                obtain ⟨y3, hx19, h⟩ := ob_e h
                refine TA_seg (lo := 0) (hi := 11) htb rfl rfl (by kernel_rfl) (fun c L a w => ∃ (p3 : Value), Sat c ⟨[(1, some (vcalls1)), (2, some (.pointer (some ⟨b1, 0, none⟩))), (5, some (.pointer (some ⟨b2, 0, none⟩))), (7, some (.map (some b3))), (8, some (.func (.func 14) #[] #[.pointer (some ⟨b1, 0, none⟩)])), (9, some (vI i1)), (10, some (.pointer (some ⟨b4, 0, none⟩))), (18, some (vI write1.1)), (19, some (vI k4)), (203, bif L 0 then some (.map (some b3)) else none), (204, bif L 1 then some (.pointer (some ⟨b4, 1, none⟩)) else none), (205, bif L 2 then some (vU64 At3) else none), (206, bif L 3 then some (vI k4) else none), (207, bif L 4 then some (vU64 (u64 k4)) else none), (208, bif L 5 then some (vU64 (At3 + (u64 k4))) else none), (209, bif L 6 then some (.pointer (some ⟨b4, 4, none⟩)) else none), (210, bif L 7 then some (v17) else none), (211, bif L 8 then some (vI k4) else none), (212, bif L 9 then some (p3) else none), (213, bif L 10 then some (vU8 y3) else none)], [(some (cellsR b1 22 [v16]) : Option Res), (some (cellsR b2 62 [v3, v4]) : Option Res), (some (rowsX u8S true v4 vs1 write1.2 none) : Option Res), (some (mapR b3 .u64 (fun x : UInt64 => (x.toNat : Int)) vU8 map7) : Option Res), (some (cellsR b4 40 [vI Kind3, vU64 At3, vI N3, vU64 V3, v17]) : Option Res)], [Fact.sl dumbwaiterlaw02_ActS vcalls1 calls, Fact.sl RegionS v16 m7, Fact.sl RegionS v3 mem1.l, Fact.sl u8S v17 B3, (bif L 9 then Fact.pt u8S p3 y3 else Fact.tt)]⟩ a w) [([], []), ([], [2, 5]), ([1], [5]), ([], [4, 5]), ([3], [5]), ([1, 2, 3, 4], []), ([], [7, 9, 10]), ([6], [9, 10]), ([], [9, 10]), ([6, 7, 8], [10]), ([6, 7, 8, 9], [])] rfl (by kernel_rfl) ?_ (steps_cons ?_ (steps_cons ?_ (steps_cons ?_ (steps_cons ?_ (steps_cons ?_ (steps_cons ?_ (steps_cons ?_ (steps_cons ?_ (steps_cons ?_ (steps_cons ?_ (steps_cons ?_ (steps_nil)))))))))))) ?_
                ·intro a w hs
                 exact ⟨undef, hs.startF [203, 204, 205, 206, 207, 208, 209, 210, 211, 212, 213] [0, 1, 2, 3, 4] [0, 1, 2, 3, 4] rfl rfl rfl rfl⟩
                ·intro L a w hv K Q hK
                 obtain ⟨p3, hs⟩ := hv
                 refine wpOp_go rfl rfl hs (OpT_move rfl rfl rfl rfl) ?_
                 rintro _ rfl a' w' hs'
                 exact hK a' w' ⟨p3, hs'.putF (i := 9) rfl [0, 1, 2, 3, 4] [0, 1, 2, 3, 4] rfl rfl rfl rfl⟩
                ·intro L a w hv K Q hK
                 obtain ⟨p3, hs⟩ := hv
                 refine wpOp_go rfl rfl hs (OpT_fieldC rfl rfl rfl rfl fldF40x1) ?_
                 rintro _ rfl a' w' hs'
                 exact hK a' w' ⟨p3, hs'.putF (i := 10) rfl [0, 1, 2, 3, 4] [0, 1, 2, 3, 4] rfl rfl rfl rfl⟩
                ·intro L a w hv K Q hK
                 obtain ⟨p3, hs⟩ := hv
                 refine wpOp_go rfl rfl hs (OpT_loadC rfl rfl rfl rfl tyF26 (i := 4) rfl rfl) ?_
                 rintro _ rfl a' w' hs'
                 exact hK a' w' ⟨p3, hs'.putF (i := 11) rfl [0, 1, 2, 3, 4] [0, 1, 2, 3, 4] rfl rfl rfl rfl⟩
                ·intro L a w hv K Q hK
                 obtain ⟨p3, hs⟩ := hv
                 refine wpOp_go rfl rfl hs (OpT_move rfl rfl rfl rfl) ?_
                 rintro _ rfl a' w' hs'
                 exact hK a' w' ⟨p3, hs'.putF (i := 12) rfl [0, 1, 2, 3, 4] [0, 1, 2, 3, 4] rfl rfl rfl rfl⟩
                ·intro L a w hv K Q hK
                 obtain ⟨p3, hs⟩ := hv
                 refine wpOp_go rfl rfl hs (OpT_cnv rfl rfl rfl rfl (cnv_i_u64 (n := k4) Try.underlying3 Try.underlying26)) ?_
                 rintro _ rfl a' w' hs'
                 exact hK a' w' ⟨p3, hs'.putF (i := 13) rfl [0, 1, 2, 3, 4] [0, 1, 2, 3, 4] rfl rfl rfl rfl⟩
                ·intro L a w hv K Q hK
                 obtain ⟨p3, hs⟩ := hv
                 refine wpOp_go rfl rfl hs (OpT_bin rfl rfl rfl rfl rfl (bin_add_u64 (a := At3) (b := u64 k4))) ?_
                 rintro _ rfl a' w' hs'
                 exact hK a' w' ⟨p3, hs'.putF (i := 14) rfl [0, 1, 2, 3, 4] [0, 1, 2, 3, 4] rfl rfl rfl rfl⟩
                ·intro L a w hv K Q hK
                 obtain ⟨p3, hs⟩ := hv
                 refine wpOp_go rfl rfl hs (OpT_fieldC rfl rfl rfl rfl fldF40x4) ?_
                 rintro _ rfl a' w' hs'
                 exact hK a' w' ⟨p3, hs'.putF (i := 15) rfl [0, 1, 2, 3, 4] [0, 1, 2, 3, 4] rfl rfl rfl rfl⟩
                ·intro L a w hv K Q hK
                 obtain ⟨p3, hs⟩ := hv
                 refine wpOp_go rfl rfl hs (OpT_loadC rfl rfl rfl rfl tyF38 (i := 4) rfl rfl) ?_
                 rintro _ rfl a' w' hs'
                 exact hK a' w' ⟨p3, hs'.putF (i := 16) rfl [0, 1, 2, 3, 4] [0, 1, 2, 3, 4] rfl rfl rfl rfl⟩
                ·intro L a w hv K Q hK
                 obtain ⟨p3, hs⟩ := hv
                 refine wpOp_go rfl rfl hs (OpT_move rfl rfl rfl rfl) ?_
                 rintro _ rfl a' w' hs'
                 exact hK a' w' ⟨p3, hs'.putF (i := 17) rfl [0, 1, 2, 3, 4] [0, 1, 2, 3, 4] rfl rfl rfl rfl⟩
                ·intro L a w hv K Q hK
                 obtain ⟨p3, hs⟩ := hv
                 refine wpOp_go rfl rfl hs (OpT_idxS rfl rfl rfl rfl rfl slF38 (i := 3) rfl hx19) ?_
                 rintro _ ⟨p3', rfl⟩ a' w' hs'
                 exact hK a' w' ⟨p3', hs'.putF (i := 18) rfl [0, 1, 2, 3, 4] [0, 1, 2, 3, 5] rfl rfl rfl rfl⟩
                ·intro L a w hv K Q hK
                 obtain ⟨p3, hs⟩ := hv
                 refine wpOp_go rfl rfl hs (OpT_loadP rfl rfl rfl rfl tyF5 (i := 4) rfl rfl) ?_
                 rintro _ rfl a' w' hs'
                 exact hK a' w' ⟨p3, hs'.putF (i := 19) rfl [0, 1, 2, 3, 4] [0, 1, 2, 3, 4] rfl rfl rfl rfl⟩
                ·intro L a w hL hv
                 rw [allTrue hL] at hv
                 obtain ⟨p3, hs⟩ := hv
                 refine (show TA _ _ _ 11 ⟨[(1, some (vcalls1)), (2, some (.pointer (some ⟨b1, 0, none⟩))), (5, some (.pointer (some ⟨b2, 0, none⟩))), (7, some (.map (some b3))), (8, some (.func (.func 14) #[] #[.pointer (some ⟨b1, 0, none⟩)])), (9, some (vI i1)), (10, some (.pointer (some ⟨b4, 0, none⟩))), (18, some (vI write1.1)), (19, some (vI k4)), (203, some (.map (some b3))), (208, some (vU64 (At3 + (u64 k4)))), (213, some (vU8 y3))], [some (cellsR b1 22 [v16]), some (cellsR b2 62 [v3, v4]), some (rowsX u8S true v4 vs1 write1.2 none), some (mapR b3 .u64 (fun x : UInt64 => (x.toNat : Int)) vU8 map7), some (cellsR b4 40 [vI Kind3, vU64 At3, vI N3, vU64 V3, v17])], [Fact.sl dumbwaiterlaw02_ActS vcalls1 calls, Fact.sl RegionS v16 m7, Fact.sl RegionS v3 mem1.l, Fact.sl u8S v17 B3]⟩ from ?_) a w (hs.wkS [1, 2, 5, 7, 8, 9, 10, 18, 19, 203, 208, 213] [0, 1, 2, 3, 4] [0, 1, 2, 3] rfl rfl rfl rfl)
                 clear hs hL
                 refine TA_step htb (by kernel_rfl) rfl rfl (OpT_mapUpdate keyU64 (At3 + (u64 k4)) y3 (V := vU8) (z := (0 : UInt8)) rfl rfl rfl rfl rfl rfl Try.underlying34 Try.underlying26 (i := 3) rfl rfl) ?_
                 refine TA_end rfl ?_
                 refine Tk_wkS (fr' := [(1, some (vcalls1)), (2, some (.pointer (some ⟨b1, 0, none⟩))), (5, some (.pointer (some ⟨b2, 0, none⟩))), (7, some (.map (some b3))), (8, some (.func (.func 14) #[] #[.pointer (some ⟨b1, 0, none⟩)])), (9, some (vI i1)), (10, some (.pointer (some ⟨b4, 0, none⟩))), (18, some (vI write1.1)), (19, some (vI k4))]) (own' := [some (cellsR b1 22 [v16]), some (cellsR b2 62 [v3, v4]), some (rowsX u8S true v4 vs1 write1.2 none), some (mapR b3 .u64 (fun x : UInt64 => (x.toNat : Int)) vU8 (mput (At3 + (u64 k4)) y3 map7)), some (cellsR b4 40 [vI Kind3, vU64 At3, vI N3, vU64 V3, v17])]) (shr' := [Fact.sl dumbwaiterlaw02_ActS vcalls1 calls, Fact.sl RegionS v16 m7, Fact.sl RegionS v3 mem1.l, Fact.sl u8S v17 B3]) [1, 2, 5, 7, 8, 9, 10, 18, 19] [0, 1, 2, 3, 4] [0, 1, 2, 3] rfl rfl rfl rfl ?_
                 refine Tk_blk (Tk_region (Tops_step rfl (OpT_move rfl rfl rfl rfl) ?_))
                 refine Tops_step rfl (OpT_bin rfl rfl rfl rfl rfl (bin_add_i (a := k4) (b := (1 : Int)))) ?_
                 refine Tops_step rfl (OpT_assign rfl rfl rfl rfl) ?_
                 refine Tops_nil (Tk_wkS (fr' := [(1, some (vcalls1)), (2, some (.pointer (some ⟨b1, 0, none⟩))), (5, some (.pointer (some ⟨b2, 0, none⟩))), (7, some (.map (some b3))), (8, some (.func (.func 14) #[] #[.pointer (some ⟨b1, 0, none⟩)])), (9, some (vI i1)), (10, some (.pointer (some ⟨b4, 0, none⟩))), (18, some (vI write1.1)), (19, some (vI (wi (k4 + (1 : Int)))))]) (own' := [some (cellsR b1 22 [v16]), some (cellsR b2 62 [v3, v4]), some (rowsX u8S true v4 vs1 write1.2 none), some (mapR b3 .u64 (fun x : UInt64 => (x.toNat : Int)) vU8 (mput (At3 + (u64 k4)) y3 map7)), some (cellsR b4 40 [vI Kind3, vU64 At3, vI N3, vU64 V3, v17])]) (shr' := [Fact.sl dumbwaiterlaw02_ActS vcalls1 calls, Fact.sl RegionS v16 m7, Fact.sl RegionS v3 mem1.l, Fact.sl u8S v17 B3]) [1, 2, 5, 7, 8, 9, 10, 18, 19] [0, 1, 2, 3, 4] [0, 1, 2, 3] rfl rfl rfl rfl ?_)
                 exact Tk_backS (m7, mput (At3 + (u64 k4)) y3 map7, Kind3, At3, N3, V3, B3, wi (k4 + (1 : Int)), v16, v17) h [1, 2, 5, 7, 8, 9, 10, 18, 19] [0, 1, 2, 3, 4] [0, 1, 2, 3] rfl rfl rfl rfl rfl
               ·replace h := br_f hg23 h
                refine Tk_condF (congrArg (fun b => some (Value.bool b)) hg23) ?_
                refine Tk_exit _ rfl ?_
                exact Tk_jmpS (HJ3 (m7, write1.2, map7, v16) h) [1, 2, 5, 7, 8, 9] [0, 1, 2, 3] [0, 1, 2] rfl rfl rfl rfl
              ·replace h := br_f hg22 h
               refine Tops_no rfl rfl (congrArg (fun b => some (Value.bool b)) hg22) rfl rfl ?_
               refine Tops_no rfl rfl (congrArg (fun b => some (Value.bool b)) hg22) rfl rfl ?_
               refine Tops_step rfl (OpT_pickF rfl rfl rfl (congrArg (fun b => some (Value.bool b)) hg22) rfl) ?_
               refine Tops_nil (Tk_wkS (fr' := [(1, some (vcalls1)), (2, some (.pointer (some ⟨b1, 0, none⟩))), (5, some (.pointer (some ⟨b2, 0, none⟩))), (7, some (.map (some b3))), (8, some (.func (.func 14) #[] #[.pointer (some ⟨b1, 0, none⟩)])), (9, some (vI i1)), (10, some (.pointer (some ⟨b4, 0, none⟩))), (18, some (vI write1.1)), (19, some (vI k4)), (200, some (vB false))]) (own' := [some (cellsR b1 22 [v16]), some (cellsR b2 62 [v3, v4]), some (rowsX u8S true v4 vs1 write1.2 none), some (mapR b3 .u64 (fun x : UInt64 => (x.toNat : Int)) vU8 map7), some (cellsR b4 40 [vI Kind3, vU64 At3, vI N3, vU64 V3, v17])]) (shr' := [Fact.sl dumbwaiterlaw02_ActS vcalls1 calls, Fact.sl RegionS v16 m7, Fact.sl RegionS v3 mem1.l, Fact.sl u8S v17 B3]) [1, 2, 5, 7, 8, 9, 10, 18, 19, 200] [0, 1, 2, 3, 4] [0, 1, 2, 3] rfl rfl rfl rfl ?_)
               refine Tk_condF rfl ?_
               refine Tk_exit _ rfl ?_
               exact Tk_jmpS (HJ3 (m7, write1.2, map7, v16) h) [1, 2, 5, 7, 8, 9] [0, 1, 2, 3] [0, 1, 2] rfl rfl rfl rfl
           ·replace h := br_f hg16 h
            refine Tk_condF (congrArg (fun b => some (Value.bool b)) hg16) ?_
            refine Tk_seq (Tk_drawT (by kernel_rfl) ?_)
            refine TA_tb [0, 0, 2, 0, 8, 31, 0, 0, 128, 0, 512, 2047, 4095] (by kernel_rfl) fun htb => ?_
            refine TA_wkS (fr' := [(1, some (vcalls1)), (2, some (.pointer (some ⟨b1, 0, none⟩))), (5, some (.pointer (some ⟨b2, 0, none⟩))), (7, some (.map (some b3))), (8, some (.func (.func 14) #[] #[.pointer (some ⟨b1, 0, none⟩)])), (9, some (vI i1)), (10, some (.pointer (some ⟨b4, 0, none⟩)))]) (own' := [some (cellsR b1 22 [v5]), some (cellsR b2 62 [v3, v4]), some (rowsX u8S true v4 vs1 rows1 none), some (mapR b3 .u64 (fun x : UInt64 => (x.toNat : Int)) vU8 map1), some (cellsR b4 40 [vI d1.Kind, vU64 d1.At, vI d1.N, vU64 d1.V, v7])]) (shr' := [Fact.sl dumbwaiterlaw02_ActS vcalls1 calls, Fact.sl RegionS v5 m1, Fact.sl RegionS v3 mem1.l, Fact.sl u8S v7 d1.B]) [1, 2, 5, 7, 8, 9, 10] [0, 1, 2, 3, 4] [0, 1, 2, 3] rfl rfl rfl rfl ?_
            obtain ⟨has1, hx20, h⟩ := ob_e h
            refine TA_seg (lo := 0) (hi := 11) htb rfl rfl (by kernel_rfl) (fun c L a w => Sat c ⟨[(1, some (vcalls1)), (2, some (.pointer (some ⟨b1, 0, none⟩))), (5, some (.pointer (some ⟨b2, 0, none⟩))), (7, some (.map (some b3))), (8, some (.func (.func 14) #[] #[.pointer (some ⟨b1, 0, none⟩)])), (9, some (vI i1)), (10, some (.pointer (some ⟨b4, 0, none⟩))), (68, bif L 0 then some (.pointer (some ⟨b2, 0, none⟩)) else none), (69, bif L 1 then some (.pointer (some ⟨b4, 1, none⟩)) else none), (70, bif L 2 then some (vU64 d1.At) else none), (71, bif L 3 then some (.pointer (some ⟨b4, 3, none⟩)) else none), (72, bif L 4 then some (vU64 d1.V) else none), (73, bif L 5 then some (vB has1) else none), (74, bif L 6 then some (.func (.func 14) #[] #[.pointer (some ⟨b1, 0, none⟩)]) else none), (75, bif L 7 then some (.pointer (some ⟨b4, 1, none⟩)) else none), (76, bif L 8 then some (vU64 d1.At) else none), (77, bif L 9 then some (.pointer (some ⟨b4, 3, none⟩)) else none), (78, bif L 10 then some (vU64 d1.V) else none)], [(some (cellsR b1 22 [v5]) : Option Res), (some (cellsR b2 62 [v3, v4]) : Option Res), (some (rowsX u8S true v4 vs1 rows1 none) : Option Res), (some (mapR b3 .u64 (fun x : UInt64 => (x.toNat : Int)) vU8 map1) : Option Res), (some (cellsR b4 40 [vI d1.Kind, vU64 d1.At, vI d1.N, vU64 d1.V, v7]) : Option Res)], [Fact.sl dumbwaiterlaw02_ActS vcalls1 calls, Fact.sl RegionS v5 m1, Fact.sl RegionS v3 mem1.l, Fact.sl u8S v7 d1.B]⟩ a w) [([], [5]), ([], [2, 5]), ([1], [5]), ([], [4, 5]), ([3], [5]), ([0, 1, 2, 3, 4], []), ([], []), ([], [8]), ([7], []), ([], [10]), ([9], [])] rfl (by kernel_rfl) ?_ (steps_cons ?_ (steps_cons ?_ (steps_cons ?_ (steps_cons ?_ (steps_cons ?_ (steps_cons ?_ (steps_cons ?_ (steps_cons ?_ (steps_cons ?_ (steps_cons ?_ (steps_cons ?_ (steps_nil)))))))))))) ?_
            ·intro a w hs
             exact hs.startF [68, 69, 70, 71, 72, 73, 74, 75, 76, 77, 78] [0, 1, 2, 3, 4] [0, 1, 2, 3] rfl rfl rfl rfl
            ·intro L a w hv K Q hK
             have hs := hv
             refine wpOp_go rfl rfl hs (OpT_move rfl rfl rfl rfl) ?_
             rintro _ rfl a' w' hs'
             exact hK a' w' (hs'.putF (i := 7) rfl [0, 1, 2, 3, 4] [0, 1, 2, 3] rfl rfl rfl rfl)
            ·intro L a w hv K Q hK
             have hs := hv
             refine wpOp_go rfl rfl hs (OpT_fieldC rfl rfl rfl rfl fldF40x1) ?_
             rintro _ rfl a' w' hs'
             exact hK a' w' (hs'.putF (i := 8) rfl [0, 1, 2, 3, 4] [0, 1, 2, 3] rfl rfl rfl rfl)
            ·intro L a w hv K Q hK
             have hs := hv
             refine wpOp_go rfl rfl hs (OpT_loadC rfl rfl rfl rfl tyF26 (i := 4) rfl rfl) ?_
             rintro _ rfl a' w' hs'
             exact hK a' w' (hs'.putF (i := 9) rfl [0, 1, 2, 3, 4] [0, 1, 2, 3] rfl rfl rfl rfl)
            ·intro L a w hv K Q hK
             have hs := hv
             refine wpOp_go rfl rfl hs (OpT_fieldC rfl rfl rfl rfl fldF40x3) ?_
             rintro _ rfl a' w' hs'
             exact hK a' w' (hs'.putF (i := 10) rfl [0, 1, 2, 3, 4] [0, 1, 2, 3] rfl rfl rfl rfl)
            ·intro L a w hv K Q hK
             have hs := hv
             refine wpOp_go rfl rfl hs (OpT_loadC rfl rfl rfl rfl tyF26 (i := 4) rfl rfl) ?_
             rintro _ rfl a' w' hs'
             exact hK a' w' (hs'.putF (i := 11) rfl [0, 1, 2, 3, 4] [0, 1, 2, 3] rfl rfl rfl rfl)
            ·intro L a w hv K Q hK
             have hs := hv
             refine wpOp_go rfl rfl hs (OpT_callP [0, 5, 6, 3, 4] (w_gmem_Mem_Has hx20) [1, 2] [2] rfl rfl rfl rfl rfl callee20 rfl rfl rfl rfl rfl) ?_
             rintro _ ⟨_, _, _, ⟨rfl, rfl, rfl⟩, rfl⟩ a' w' hs'
             exact hK a' w' (hs'.putF (i := 12) rfl [0, 1, 2, 3, 4] [0, 1, 2, 3] rfl rfl rfl rfl)
            ·intro L a w hv K Q hK
             have hs := hv
             refine wpOp_go rfl rfl hs (OpT_move rfl rfl rfl rfl) ?_
             rintro _ rfl a' w' hs'
             exact hK a' w' (hs'.putF (i := 13) rfl [0, 1, 2, 3, 4] [0, 1, 2, 3] rfl rfl rfl rfl)
            ·intro L a w hv K Q hK
             have hs := hv
             refine wpOp_go rfl rfl hs (OpT_fieldC rfl rfl rfl rfl fldF40x1) ?_
             rintro _ rfl a' w' hs'
             exact hK a' w' (hs'.putF (i := 14) rfl [0, 1, 2, 3, 4] [0, 1, 2, 3] rfl rfl rfl rfl)
            ·intro L a w hv K Q hK
             have hs := hv
             refine wpOp_go rfl rfl hs (OpT_loadC rfl rfl rfl rfl tyF26 (i := 4) rfl rfl) ?_
             rintro _ rfl a' w' hs'
             exact hK a' w' (hs'.putF (i := 15) rfl [0, 1, 2, 3, 4] [0, 1, 2, 3] rfl rfl rfl rfl)
            ·intro L a w hv K Q hK
             have hs := hv
             refine wpOp_go rfl rfl hs (OpT_fieldC rfl rfl rfl rfl fldF40x3) ?_
             rintro _ rfl a' w' hs'
             exact hK a' w' (hs'.putF (i := 16) rfl [0, 1, 2, 3, 4] [0, 1, 2, 3] rfl rfl rfl rfl)
            ·intro L a w hv K Q hK
             have hs := hv
             refine wpOp_go rfl rfl hs (OpT_loadC rfl rfl rfl rfl tyF26 (i := 4) rfl rfl) ?_
             rintro _ rfl a' w' hs'
             exact hK a' w' (hs'.putF (i := 17) rfl [0, 1, 2, 3, 4] [0, 1, 2, 3] rfl rfl rfl rfl)
            ·intro L a w hL hv
             rw [allTrue hL] at hv
             have hs := hv
             refine (show TA _ _ _ 11 ⟨[(1, some (vcalls1)), (2, some (.pointer (some ⟨b1, 0, none⟩))), (5, some (.pointer (some ⟨b2, 0, none⟩))), (7, some (.map (some b3))), (8, some (.func (.func 14) #[] #[.pointer (some ⟨b1, 0, none⟩)])), (9, some (vI i1)), (73, some (vB has1)), (74, some (.func (.func 14) #[] #[.pointer (some ⟨b1, 0, none⟩)])), (76, some (vU64 d1.At)), (78, some (vU64 d1.V))], [some (cellsR b1 22 [v5]), some (cellsR b2 62 [v3, v4]), some (rowsX u8S true v4 vs1 rows1 none), some (mapR b3 .u64 (fun x : UInt64 => (x.toNat : Int)) vU8 map1)], [Fact.sl dumbwaiterlaw02_ActS vcalls1 calls, Fact.sl RegionS v5 m1, Fact.sl RegionS v3 mem1.l]⟩ from ?_) a w (hs.wkS [1, 2, 5, 7, 8, 9, 73, 74, 76, 78] [0, 1, 2, 3] [0, 1, 2] rfl rfl rfl rfl)
             clear hs hL
             obtain ⟨gmemho4, hx21, h⟩ := ob_e h
             refine TA_exP htb (by kernel_rfl) rfl rfl (OpT_callP [4, 1, 2, 3] (w_law02zGmemHolds_1 hx21) [0] [1] rfl rfl rfl rfl rfl callee14 rfl rfl rfl rfl rfl) ?_
             rintro _ ⟨_, _, _, ⟨rfl, rfl, rfl⟩, rfl⟩
             refine TA_step htb (by kernel_rfl) rfl rfl (OpT_bin rfl rfl rfl rfl rfl (bin_neq_b (a := has1) (b := gmemho4) Try.underlying4)) ?_
             refine TA_end rfl ?_
             refine Tk_wkS (fr' := [(1, some (vcalls1)), (2, some (.pointer (some ⟨b1, 0, none⟩))), (5, some (.pointer (some ⟨b2, 0, none⟩))), (7, some (.map (some b3))), (8, some (.func (.func 14) #[] #[.pointer (some ⟨b1, 0, none⟩)])), (9, some (vI i1)), (80, some (vB (has1 != gmemho4)))]) (own' := [some (cellsR b1 22 [v5]), some (cellsR b2 62 [v3, v4]), some (rowsX u8S true v4 vs1 rows1 none), some (mapR b3 .u64 (fun x : UInt64 => (x.toNat : Int)) vU8 map1)]) (shr' := [Fact.sl dumbwaiterlaw02_ActS vcalls1 calls, Fact.sl RegionS v5 m1, Fact.sl RegionS v3 mem1.l]) [1, 2, 5, 7, 8, 9, 80] [0, 1, 2, 3] [0, 1, 2] rfl rfl rfl rfl ?_
             obtain ⟨hg24, h⟩ := chk_e h
             replace hg24 := not_t hg24
             refine Tk_condF (congrArg (fun b => some (Value.bool b)) hg24) ?_
             refine Tk_skip ?_
             exact Tk_jmpS (HJ3 (m1, rows1, map1, v5) h) [1, 2, 5, 7, 8, 9] [0, 1, 2, 3] [0, 1, 2] rfl rfl rfl rfl
     ·replace h := br_f hg6 h
      refine Tk_condF (congrArg (fun b => some (Value.bool b)) hg6) ?_
      refine Tk_exit _ rfl ?_
      refine Tk_seq (Tk_region (Tops_step rfl (OpT_move rfl rfl rfl rfl) ?_))
      obtain ⟨image1, hx22, h⟩ := ob_e h
      refine Tops_exP rfl (OpT_callP [0, 4, 5, 3, 6] (w_gmem_Mem_Image hx22) [1, 2] [2] rfl rfl rfl rfl rfl callee21 rfl rfl rfl rfl rfl) ?_
      rintro _ ⟨v18, _, _, ⟨_, rfl, rfl, rfl⟩, rfl⟩
      refine Tops_step rfl (OpT_assign rfl rfl rfl rfl) ?_
      refine Tops_nil (Tk_wkS (fr' := [(2, some (.pointer (some ⟨b1, 0, none⟩))), (7, some (.map (some b3))), (20, some (v18))]) (own' := [some (cellsR b1 22 [v5]), some (mapR b3 .u64 (fun x : UInt64 => (x.toNat : Int)) vU8 map1), some (rowS u8S v18 image1)]) (shr' := [Fact.sl RegionS v5 m1]) [2, 7, 20] [0, 3, 4] [1] rfl rfl rfl rfl ?_)
      refine Tk_seq (Tk_region (Tops_step rfl (OpT_assign rfl rfl rfl rfl) ?_))
      refine Tops_nil (Tk_seq (Tk_seq (Tk_region (Tops_step rfl (OpT_assign rfl rfl rfl rfl) ?_))))
      refine Tops_nil (Tk_block (Tk_loopS (σ := Int × Int) [2, 7, 20, 21, 22] [0, 1, 2] [0] (fun s => ⟨[(2, some (.pointer (some ⟨b1, 0, none⟩))), (7, some (.map (some b3))), (20, some (v18)), (21, some (vI s.1)), (22, some (vI s.2))], [some (cellsR b1 22 [v5]), some (mapR b3 .u64 (fun x : UInt64 => (x.toNat : Int)) vU8 map1), some (rowS u8S v18 image1)], [Fact.sl RegionS v5 m1]⟩) (fun nf9 s => law02zGmemHoldsL9 m1 map1 image1 nf9 s.1 s.2 = some true) fuel ((0 : Int), (0 : Int)) h rfl rfl rfl rfl rfl (fun s h => by cases h) ?_))
      rintro nf9 ⟨n1, i2⟩ h
      replace h : law02zGmemHoldsL9B m1 map1 image1 (law02zGmemHoldsL9 m1 map1 image1 nf9) n1 i2 = some true := h
      unfold law02zGmemHoldsL9B at h
      refine Tk_seq (Tk_seq (Tk_region (Tops_step rfl (OpT_move rfl rfl rfl rfl) ?_)))
      refine Tops_step rfl (OpT_loadC rfl rfl rfl rfl tyF22 (i := 0) rfl rfl) ?_
      refine Tops_step rfl (OpT_lenS rfl rfl rfl rfl Try.underlying22 (i := 0) rfl) ?_
      refine Tops_step rfl (OpT_bin rfl rfl rfl rfl rfl (bin_lss_i (a := i2) (b := len m1))) ?_
      refine Tops_nil (Tk_wkS (fr' := [(2, some (.pointer (some ⟨b1, 0, none⟩))), (7, some (.map (some b3))), (20, some (v18)), (21, some (vI n1)), (22, some (vI i2)), (219, some (vB (decide (i2 < (len m1)))))]) (own' := [some (cellsR b1 22 [v5]), some (mapR b3 .u64 (fun x : UInt64 => (x.toNat : Int)) vU8 map1), some (rowS u8S v18 image1)]) (shr' := [Fact.sl RegionS v5 m1]) [2, 7, 20, 21, 22, 219] [0, 1, 2] [0] rfl rfl rfl rfl ?_)
      rcases Bool.eq_false_or_eq_true (decide (i2 < (len m1))) with hg25 | hg25
      ·replace h := br_t hg25 h
       refine Tk_condT (congrArg (fun b => some (Value.bool b)) hg25) ?_
       refine Tk_skip (Tk_seq (Tk_block (Tk_seq (Tk_region (Tops_step rfl (OpT_assign rfl rfl rfl rfl) ?_)))))
       refine Tops_nil (Tk_wkS (fr' := [(2, some (.pointer (some ⟨b1, 0, none⟩))), (7, some (.map (some b3))), (20, some (v18)), (21, some (vI n1)), (22, some (vI i2)), (23, some (vU64 (0 : UInt64)))]) (own' := [some (cellsR b1 22 [v5]), some (mapR b3 .u64 (fun x : UInt64 => (x.toNat : Int)) vU8 map1), some (rowS u8S v18 image1)]) (shr' := [Fact.sl RegionS v5 m1]) [2, 7, 20, 21, 22, 23] [0, 1, 2] [0] rfl rfl rfl rfl ?_)
       refine Tk_block (Tk_loopS (σ := Int × UInt64) [2, 7, 20, 21, 22, 23] [0, 1, 2] [0] (fun s => ⟨[(2, some (.pointer (some ⟨b1, 0, none⟩))), (7, some (.map (some b3))), (20, some (v18)), (21, some (vI s.1)), (22, some (vI i2)), (23, some (vU64 s.2))], [some (cellsR b1 22 [v5]), some (mapR b3 .u64 (fun x : UInt64 => (x.toNat : Int)) vU8 map1), some (rowS u8S v18 image1)], [Fact.sl RegionS v5 m1]⟩) (fun nf10 s => law02zGmemHoldsL10 m1 map1 image1 i2 (law02zGmemHoldsL9 m1 map1 image1 nf9) nf10 s.1 s.2 = some true) fuel (n1, (0 : UInt64)) h rfl rfl rfl rfl rfl (fun s h => by cases h) ?_)
       rintro nf10 ⟨n2, k5⟩ h
       replace h : law02zGmemHoldsL10B m1 map1 image1 i2 (law02zGmemHoldsL9 m1 map1 image1 nf9) (law02zGmemHoldsL10 m1 map1 image1 i2 (law02zGmemHoldsL9 m1 map1 image1 nf9) nf10) n2 k5 = some true := h
       unfold law02zGmemHoldsL10B at h
       refine Tk_seq (Tk_seq (Tk_region (Tops_step rfl (OpT_move rfl rfl rfl rfl) ?_)))
       refine Tops_step rfl (OpT_loadC rfl rfl rfl rfl tyF22 (i := 0) rfl rfl) ?_
       refine Tops_step rfl (OpT_move rfl rfl rfl rfl) ?_
       obtain ⟨r1, hx23, h⟩ := ob_e h
       refine Tops_ex rfl (OpT_idxS rfl rfl rfl rfl rfl slF22 (i := 0) rfl hx23) fun p4 => ?_
       refine Tops_ex rfl (OpT_fieldP (S' := u64S) (y := r1.Len) rfl rfl rfl rfl fldF36x1 (i := 1) rfl (by intro h cs hr; subst hr; rfl)) fun p5 => ?_
       refine Tops_step rfl (OpT_loadP rfl rfl rfl rfl tyF26 (i := 2) rfl rfl) ?_
       refine Tops_step rfl (OpT_bin rfl rfl rfl rfl rfl (bin_lss_u64 (a := k5) (b := r1.Len))) ?_
       refine Tops_nil (Tk_wkS (fr' := [(2, some (.pointer (some ⟨b1, 0, none⟩))), (7, some (.map (some b3))), (20, some (v18)), (21, some (vI n2)), (22, some (vI i2)), (23, some (vU64 k5)), (228, some (vB (decide (k5 < r1.Len))))]) (own' := [some (cellsR b1 22 [v5]), some (mapR b3 .u64 (fun x : UInt64 => (x.toNat : Int)) vU8 map1), some (rowS u8S v18 image1)]) (shr' := [Fact.sl RegionS v5 m1]) [2, 7, 20, 21, 22, 23, 228] [0, 1, 2] [0] rfl rfl rfl rfl ?_)
       rcases Bool.eq_false_or_eq_true (decide (k5 < r1.Len)) with hg26 | hg26
       ·replace h := br_t hg26 h
        refine Tk_condT (congrArg (fun b => some (Value.bool b)) hg26) ?_
        refine Tk_skip (Tk_seq (Tk_block (Tk_seq (Tk_seq (Tk_drawT (by kernel_rfl) ?_)))))
        refine TA_tb [0, 0, 2, 7, 15, 31, 31, 127, 255, 31, 31, 31, 3103, 7199, 15391, 31, 64543, 130591, 262143, 524287] (by kernel_rfl) fun htb => ?_
        refine TA_wkS (fr' := [(2, some (.pointer (some ⟨b1, 0, none⟩))), (7, some (.map (some b3))), (20, some (v18)), (21, some (vI n2)), (22, some (vI i2)), (23, some (vU64 k5))]) (own' := [some (cellsR b1 22 [v5]), some (mapR b3 .u64 (fun x : UInt64 => (x.toNat : Int)) vU8 map1), some (rowS u8S v18 image1)]) (shr' := [Fact.sl RegionS v5 m1]) [2, 7, 20, 21, 22, 23] [0, 1, 2] [0] rfl rfl rfl rfl ?_
        refine TA_seg (lo := 0) (hi := 3) htb rfl rfl (by kernel_rfl) (fun c L a w => Sat c ⟨[(2, some (.pointer (some ⟨b1, 0, none⟩))), (7, some (.map (some b3))), (20, some (v18)), (21, some (vI n2)), (22, some (vI i2)), (23, some (vU64 k5)), (231, bif L 0 then some (vI n2) else none), (232, bif L 1 then some (v18) else none), (233, bif L 2 then some (vI (len image1)) else none)], [(some (cellsR b1 22 [v5]) : Option Res), (some (mapR b3 .u64 (fun x : UInt64 => (x.toNat : Int)) vU8 map1) : Option Res), (some (rowS u8S v18 image1) : Option Res)], [Fact.sl RegionS v5 m1]⟩ a w) [([], []), ([], [2]), ([1], [])] rfl (by kernel_rfl) ?_ (steps_cons ?_ (steps_cons ?_ (steps_cons ?_ (steps_nil)))) ?_
        ·intro a w hs
         exact hs.startF [231, 232, 233] [0, 1, 2] [0] rfl rfl rfl rfl
        ·intro L a w hv K Q hK
         have hs := hv
         refine wpOp_go rfl rfl hs (OpT_move rfl rfl rfl rfl) ?_
         rintro _ rfl a' w' hs'
         exact hK a' w' (hs'.putF (i := 6) rfl [0, 1, 2] [0] rfl rfl rfl rfl)
        ·intro L a w hv K Q hK
         have hs := hv
         refine wpOp_go rfl rfl hs (OpT_move rfl rfl rfl rfl) ?_
         rintro _ rfl a' w' hs'
         exact hK a' w' (hs'.putF (i := 7) rfl [0, 1, 2] [0] rfl rfl rfl rfl)
        ·intro L a w hv K Q hK
         have hs := hv
         refine wpOp_go rfl rfl hs (OpT_lenO rfl rfl rfl rfl Try.underlying38 (i := 2) rfl) ?_
         rintro _ rfl a' w' hs'
         exact hK a' w' (hs'.putF (i := 8) rfl [0, 1, 2] [0] rfl rfl rfl rfl)
        ·intro L a w hL hv
         rw [allTrue hL] at hv
         have hs := hv
         refine (show TA _ _ _ 3 ⟨[(2, some (.pointer (some ⟨b1, 0, none⟩))), (7, some (.map (some b3))), (20, some (v18)), (21, some (vI n2)), (22, some (vI i2)), (23, some (vU64 k5)), (231, some (vI n2)), (233, some (vI (len image1)))], [some (cellsR b1 22 [v5]), some (mapR b3 .u64 (fun x : UInt64 => (x.toNat : Int)) vU8 map1), some (rowS u8S v18 image1)], [Fact.sl RegionS v5 m1]⟩ from ?_) a w (hs.wkS [2, 7, 20, 21, 22, 23, 231, 233] [0, 1, 2] [0] rfl rfl rfl rfl)
         clear hs hL
         refine TA_step htb (by kernel_rfl) rfl rfl (OpT_bin rfl rfl rfl rfl rfl (bin_geq_i (a := n2) (b := len image1))) ?_
         refine TA_step htb (by kernel_rfl) rfl rfl (OpT_move rfl rfl rfl rfl) ?_
         refine TA_wkS (fr' := [(2, some (.pointer (some ⟨b1, 0, none⟩))), (7, some (.map (some b3))), (20, some (v18)), (21, some (vI n2)), (22, some (vI i2)), (23, some (vU64 k5)), (235, some (vB (decide (n2 ≥ (len image1)))))]) (own' := [some (cellsR b1 22 [v5]), some (mapR b3 .u64 (fun x : UInt64 => (x.toNat : Int)) vU8 map1), some (rowS u8S v18 image1)]) (shr' := [Fact.sl RegionS v5 m1]) [2, 7, 20, 21, 22, 23, 235] [0, 1, 2] [0] rfl rfl rfl rfl ?_
         obtain ⟨hg27, h⟩ := chk_e h
         replace hg27 := not_t hg27
         obtain ⟨y4, hx24, h⟩ := ob_e h
         obtain ⟨r2, hx25, h⟩ := ob_e h
         refine TA_seg (lo := 5) (hi := 18) htb rfl rfl (by kernel_rfl) (fun c L a w => ∃ (p6 : Value), ∃ (p7 : Value), Sat c ⟨[(2, some (.pointer (some ⟨b1, 0, none⟩))), (7, some (.map (some b3))), (20, some (v18)), (21, some (vI n2)), (22, some (vI i2)), (23, some (vU64 k5)), (235, some (vB (decide (n2 ≥ (len image1))))), (236, bif L 5 then some (v18) else none), (237, bif L 6 then some (vI n2) else none), (238, bif L 7 then some (rowPtr v18 (Int.toNat n2 * 1)) else none), (239, bif L 8 then some (vU8 y4) else none), (240, bif L 9 then some (.map (some b3)) else none), (241, bif L 10 then some (v5) else none), (242, bif L 11 then some (vI i2) else none), (243, bif L 12 then some (p6) else none), (244, bif L 13 then some (p7) else none), (245, bif L 14 then some (vU64 r2.At) else none), (246, bif L 15 then some (vU64 k5) else none), (247, bif L 16 then some (vU64 (r2.At + k5)) else none), (248, bif L 17 then some (vU8 (mget (0 : UInt8) (r2.At + k5) map1)) else none)], [(some (cellsR b1 22 [v5]) : Option Res), (some (mapR b3 .u64 (fun x : UInt64 => (x.toNat : Int)) vU8 map1) : Option Res), (some (rowS u8S v18 image1) : Option Res)], [Fact.sl RegionS v5 m1, (bif L 12 then Fact.pt RegionS p6 r2 else Fact.tt), (bif L 13 then Fact.pt u64S p7 r2.At else Fact.tt)]⟩ a w) [([], [7, 8]), ([], [7, 8]), ([5, 6], [8]), ([5, 6, 7], []), ([], [17]), ([], [12, 13, 14, 16, 17]), ([], [12, 13, 14, 16, 17]), ([10, 11], [13, 14, 16, 17]), ([10, 11, 12], [14, 16, 17]), ([10, 11, 12, 13], [16, 17]), ([], [16, 17]), ([10, 11, 12, 13, 14, 15], [17]), ([9, 10, 11, 12, 13, 14, 15, 16], [])] rfl (by kernel_rfl) ?_ (steps_cons ?_ (steps_cons ?_ (steps_cons ?_ (steps_cons ?_ (steps_cons ?_ (steps_cons ?_ (steps_cons ?_ (steps_cons ?_ (steps_cons ?_ (steps_cons ?_ (steps_cons ?_ (steps_cons ?_ (steps_cons ?_ (steps_nil)))))))))))))) ?_
         ·intro a w hs
          exact ⟨undef, undef, hs.startF [236, 237, 238, 239, 240, 241, 242, 243, 244, 245, 246, 247, 248] [0, 1, 2] [0, 1, 2] rfl rfl rfl rfl⟩
         ·intro L a w hv K Q hK
          obtain ⟨p6, p7, hs⟩ := hv
          refine wpOp_yes rfl rfl rfl hs (congrArg (fun b => some (Value.bool b)) hg27) (OpT_move rfl rfl rfl rfl) ?_
          rintro _ rfl a' w' hs'
          exact hK a' w' ⟨p6, p7, hs'.putF (i := 7) rfl [0, 1, 2] [0, 1, 2] rfl rfl rfl rfl⟩
         ·intro L a w hv K Q hK
          obtain ⟨p6, p7, hs⟩ := hv
          refine wpOp_yes rfl rfl rfl hs (congrArg (fun b => some (Value.bool b)) hg27) (OpT_move rfl rfl rfl rfl) ?_
          rintro _ rfl a' w' hs'
          exact hK a' w' ⟨p6, p7, hs'.putF (i := 8) rfl [0, 1, 2] [0, 1, 2] rfl rfl rfl rfl⟩
         ·intro L a w hv K Q hK
          obtain ⟨p6, p7, hs⟩ := hv
          refine wpOp_yes rfl rfl rfl hs (congrArg (fun b => some (Value.bool b)) hg27) (OpT_idxO rfl rfl rfl rfl rfl slF38 (i := 2) rfl hx24) ?_
          rintro _ rfl a' w' hs'
          exact hK a' w' ⟨p6, p7, hs'.putF (i := 9) rfl [0, 1, 2] [0, 1, 2] rfl rfl rfl rfl⟩
         ·intro L a w hv K Q hK
          obtain ⟨p6, p7, hs⟩ := hv
          refine wpOp_yes rfl rfl rfl hs (congrArg (fun b => some (Value.bool b)) hg27) (OpT_loadO (S := u8S) rfl rfl rfl rfl rfl tyF5 (i := 2) rfl hx24 rfl rfl) ?_
          rintro _ rfl a' w' hs'
          exact hK a' w' ⟨p6, p7, hs'.putF (i := 10) rfl [0, 1, 2] [0, 1, 2] rfl rfl rfl rfl⟩
         ·intro L a w hv K Q hK
          obtain ⟨p6, p7, hs⟩ := hv
          refine wpOp_yes rfl rfl rfl hs (congrArg (fun b => some (Value.bool b)) hg27) (OpT_move rfl rfl rfl rfl) ?_
          rintro _ rfl a' w' hs'
          exact hK a' w' ⟨p6, p7, hs'.putF (i := 11) rfl [0, 1, 2] [0, 1, 2] rfl rfl rfl rfl⟩
         ·intro L a w hv K Q hK
          obtain ⟨p6, p7, hs⟩ := hv
          refine wpOp_yes rfl rfl rfl hs (congrArg (fun b => some (Value.bool b)) hg27) (OpT_loadC rfl rfl rfl rfl tyF22 (i := 0) rfl rfl) ?_
          rintro _ rfl a' w' hs'
          exact hK a' w' ⟨p6, p7, hs'.putF (i := 12) rfl [0, 1, 2] [0, 1, 2] rfl rfl rfl rfl⟩
         ·intro L a w hv K Q hK
          obtain ⟨p6, p7, hs⟩ := hv
          refine wpOp_yes rfl rfl rfl hs (congrArg (fun b => some (Value.bool b)) hg27) (OpT_move rfl rfl rfl rfl) ?_
          rintro _ rfl a' w' hs'
          exact hK a' w' ⟨p6, p7, hs'.putF (i := 13) rfl [0, 1, 2] [0, 1, 2] rfl rfl rfl rfl⟩
         ·intro L a w hv K Q hK
          obtain ⟨p6, p7, hs⟩ := hv
          refine wpOp_yes rfl rfl rfl hs (congrArg (fun b => some (Value.bool b)) hg27) (OpT_idxS rfl rfl rfl rfl rfl slF22 (i := 0) rfl hx25) ?_
          rintro _ ⟨p6', rfl⟩ a' w' hs'
          exact hK a' w' ⟨p6', p7, hs'.putF (i := 14) rfl [0, 1, 2] [0, 3, 2] rfl rfl rfl rfl⟩
         ·intro L a w hv K Q hK
          obtain ⟨p6, p7, hs⟩ := hv
          refine wpOp_yes rfl rfl rfl hs (congrArg (fun b => some (Value.bool b)) hg27) (OpT_fieldP (S' := u64S) (y := r2.At) rfl rfl rfl rfl fldF36x0 (i := 1) rfl (by intro h cs hr; subst hr; rfl)) ?_
          rintro _ ⟨p7', rfl⟩ a' w' hs'
          exact hK a' w' ⟨p6, p7', hs'.putF (i := 15) rfl [0, 1, 2] [0, 1, 3] rfl rfl rfl rfl⟩
         ·intro L a w hv K Q hK
          obtain ⟨p6, p7, hs⟩ := hv
          refine wpOp_yes rfl rfl rfl hs (congrArg (fun b => some (Value.bool b)) hg27) (OpT_loadP rfl rfl rfl rfl tyF26 (i := 2) rfl rfl) ?_
          rintro _ rfl a' w' hs'
          exact hK a' w' ⟨p6, p7, hs'.putF (i := 16) rfl [0, 1, 2] [0, 1, 2] rfl rfl rfl rfl⟩
         ·intro L a w hv K Q hK
          obtain ⟨p6, p7, hs⟩ := hv
          refine wpOp_yes rfl rfl rfl hs (congrArg (fun b => some (Value.bool b)) hg27) (OpT_move rfl rfl rfl rfl) ?_
          rintro _ rfl a' w' hs'
          exact hK a' w' ⟨p6, p7, hs'.putF (i := 17) rfl [0, 1, 2] [0, 1, 2] rfl rfl rfl rfl⟩
         ·intro L a w hv K Q hK
          obtain ⟨p6, p7, hs⟩ := hv
          refine wpOp_yes rfl rfl rfl hs (congrArg (fun b => some (Value.bool b)) hg27) (OpT_bin rfl rfl rfl rfl rfl (bin_add_u64 (a := r2.At) (b := k5))) ?_
          rintro _ rfl a' w' hs'
          exact hK a' w' ⟨p6, p7, hs'.putF (i := 18) rfl [0, 1, 2] [0, 1, 2] rfl rfl rfl rfl⟩
         ·intro L a w hv K Q hK
          obtain ⟨p6, p7, hs⟩ := hv
          refine wpOp_yes rfl rfl rfl hs (congrArg (fun b => some (Value.bool b)) hg27) (OpT_lookup keyU64 (V := vU8) (kx := r2.At + k5) (z := (0 : UInt8)) rfl rfl rfl rfl rfl Try.underlying34 Try.underlying26 tyZ5 (i := 1) rfl) ?_
          rintro _ rfl a' w' hs'
          exact hK a' w' ⟨p6, p7, hs'.putF (i := 19) rfl [0, 1, 2] [0, 1, 2] rfl rfl rfl rfl⟩
         ·intro L a w hL hv
          rw [allTrue hL] at hv
          obtain ⟨p6, p7, hs⟩ := hv
          refine (show TA _ _ _ 18 ⟨[(2, some (.pointer (some ⟨b1, 0, none⟩))), (7, some (.map (some b3))), (20, some (v18)), (21, some (vI n2)), (22, some (vI i2)), (23, some (vU64 k5)), (235, some (vB (decide (n2 ≥ (len image1))))), (239, some (vU8 y4)), (248, some (vU8 (mget (0 : UInt8) (r2.At + k5) map1)))], [some (cellsR b1 22 [v5]), some (mapR b3 .u64 (fun x : UInt64 => (x.toNat : Int)) vU8 map1), some (rowS u8S v18 image1)], [Fact.sl RegionS v5 m1]⟩ from ?_) a w (hs.wkS [2, 7, 20, 21, 22, 23, 235, 239, 248] [0, 1, 2] [0] rfl rfl rfl rfl)
          clear hs hL
          refine TA_yes htb (by kernel_rfl) rfl rfl rfl (congrArg (fun b => some (Value.bool b)) hg27) (OpT_bin rfl rfl rfl rfl rfl (bin_neq_u8 (a := y4) (b := mget (0 : UInt8) (r2.At + k5) map1))) ?_
          rintro _ rfl
          refine TA_step htb (by kernel_rfl) rfl rfl (OpT_pickF rfl rfl rfl (congrArg (fun b => some (Value.bool b)) hg27) rfl) ?_
          refine TA_end rfl ?_
          refine Tk_wkS (fr' := [(2, some (.pointer (some ⟨b1, 0, none⟩))), (7, some (.map (some b3))), (20, some (v18)), (21, some (vI n2)), (22, some (vI i2)), (23, some (vU64 k5)), (250, some (vB (y4 != (mget (0 : UInt8) (r2.At + k5) map1))))]) (own' := [some (cellsR b1 22 [v5]), some (mapR b3 .u64 (fun x : UInt64 => (x.toNat : Int)) vU8 map1), some (rowS u8S v18 image1)]) (shr' := [Fact.sl RegionS v5 m1]) [2, 7, 20, 21, 22, 23, 250] [0, 1, 2] [0] rfl rfl rfl rfl ?_
          obtain ⟨hg28, h⟩ := chk_e h
          replace hg28 := not_t hg28
          refine Tk_condF (congrArg (fun b => some (Value.bool b)) hg28) ?_
          refine Tk_skip (Tk_region (Tops_step rfl (OpT_move rfl rfl rfl rfl) ?_))
          refine Tops_step rfl (OpT_bin rfl rfl rfl rfl rfl (bin_add_i (a := n2) (b := (1 : Int)))) ?_
          refine Tops_step rfl (OpT_assign rfl rfl rfl rfl) ?_
          refine Tops_nil (Tk_wkS (fr' := [(2, some (.pointer (some ⟨b1, 0, none⟩))), (7, some (.map (some b3))), (20, some (v18)), (21, some (vI (wi (n2 + (1 : Int))))), (22, some (vI i2)), (23, some (vU64 k5))]) (own' := [some (cellsR b1 22 [v5]), some (mapR b3 .u64 (fun x : UInt64 => (x.toNat : Int)) vU8 map1), some (rowS u8S v18 image1)]) (shr' := [Fact.sl RegionS v5 m1]) [2, 7, 20, 21, 22, 23] [0, 1, 2] [0] rfl rfl rfl rfl ?_)
          refine Tk_blk (Tk_region (Tops_step rfl (OpT_move rfl rfl rfl rfl) ?_))
          refine Tops_step rfl (OpT_bin rfl rfl rfl rfl rfl (bin_add_u64 (a := k5) (b := (1 : UInt64)))) ?_
          refine Tops_step rfl (OpT_assign rfl rfl rfl rfl) ?_
          refine Tops_nil (Tk_wkS (fr' := [(2, some (.pointer (some ⟨b1, 0, none⟩))), (7, some (.map (some b3))), (20, some (v18)), (21, some (vI (wi (n2 + (1 : Int))))), (22, some (vI i2)), (23, some (vU64 (k5 + (1 : UInt64))))]) (own' := [some (cellsR b1 22 [v5]), some (mapR b3 .u64 (fun x : UInt64 => (x.toNat : Int)) vU8 map1), some (rowS u8S v18 image1)]) (shr' := [Fact.sl RegionS v5 m1]) [2, 7, 20, 21, 22, 23] [0, 1, 2] [0] rfl rfl rfl rfl ?_)
          exact Tk_backS (wi (n2 + (1 : Int)), k5 + (1 : UInt64)) h [2, 7, 20, 21, 22, 23] [0, 1, 2] [0] rfl rfl rfl rfl rfl
       ·replace h := br_f hg26 h
        refine Tk_condF (congrArg (fun b => some (Value.bool b)) hg26) ?_
        refine Tk_exit _ rfl ?_
        refine Tk_blk (Tk_region (Tops_step rfl (OpT_move rfl rfl rfl rfl) ?_))
        refine Tops_step rfl (OpT_bin rfl rfl rfl rfl rfl (bin_add_i (a := i2) (b := (1 : Int)))) ?_
        refine Tops_step rfl (OpT_assign rfl rfl rfl rfl) ?_
        refine Tops_nil (Tk_wkS (fr' := [(2, some (.pointer (some ⟨b1, 0, none⟩))), (7, some (.map (some b3))), (20, some (v18)), (21, some (vI n2)), (22, some (vI (wi (i2 + (1 : Int)))))]) (own' := [some (cellsR b1 22 [v5]), some (mapR b3 .u64 (fun x : UInt64 => (x.toNat : Int)) vU8 map1), some (rowS u8S v18 image1)]) (shr' := [Fact.sl RegionS v5 m1]) [2, 7, 20, 21, 22] [0, 1, 2] [0] rfl rfl rfl rfl ?_)
        exact Tk_backS (n2, wi (i2 + (1 : Int))) h [2, 7, 20, 21, 22] [0, 1, 2] [0] rfl rfl rfl rfl rfl
      ·replace h := br_f hg25 h
       refine Tk_condF (congrArg (fun b => some (Value.bool b)) hg25) ?_
       refine Tk_exit _ rfl ?_
       refine Tk_seq (Tk_region (Tops_step rfl (OpT_move rfl rfl rfl rfl) ?_))
       refine Tops_step rfl (OpT_move rfl rfl rfl rfl) ?_
       refine Tops_step rfl (OpT_lenO rfl rfl rfl rfl Try.underlying38 (i := 2) rfl) ?_
       refine Tops_step rfl (OpT_bin rfl rfl rfl rfl rfl (bin_eql_i (a := n1) (b := len image1))) ?_
       refine Tops_step rfl (OpT_assign rfl rfl rfl rfl) ?_
       refine Tops_nil (Tk_wkS (fr' := [(4, some (vB (n1 == (len image1))))]) (own' := []) (shr' := []) [4] [] [] rfl rfl rfl rfl ?_)
       obtain ⟨hg29, h⟩ := chk_e h
       exact Tk_retV rfl rfl (resA (vs := [.bool true]) rfl ⟨(congrArg (fun b => some (Value.bool b)) hg29), trivial⟩) [] [] rfl rfl rfl ⟨rfl, rfl, rfl⟩
end Go.Proofs.Ytecmlfmbmligeaa
