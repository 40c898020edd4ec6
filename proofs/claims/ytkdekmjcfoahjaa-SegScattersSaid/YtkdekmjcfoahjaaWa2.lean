/- The functions do what the plain words say: each is walked once. No statement of the seat is proved here; no condition. -/
import Derived.Test.YtkdekmjcfoahjaaWa1
namespace Go.Proofs.Ytkdekmjcfoahjaa

set_option maxRecDepth 100000 in
set_option maxHeartbeats 4000000 in
theorem w_seg_Scatter {m : gmem_Mem} {l : List Seg} {b : List UInt8} {b_m : Nat} {vm1 : Value} {vm2 : Value} {vsm1 : List Value} {vl1 : Value} {vb1 : Value} {r : (Int × Int × (List (List UInt8)))} (h : seg_Scatter m l b = some r) :
  Ctr Try.prog 18 #[.pointer (some ⟨b_m, 0, none⟩), vl1, vb1] [(cellsR b_m 71 [vm1, vm2]), (rowsX u8S true vm2 vsm1 m.b none)] [Fact.sl RegionS vm1 m.l, Fact.sl SegS vl1 l, Fact.sl u8S vb1 b]
   (fun rv own shr => rv = .tuple #[vI r.1, vI r.2.1] ∧ own = [(cellsR b_m 71 [vm1, vm2]), (rowsX u8S true vm2 vsm1 r.2.2 none)] ∧ shr = []) := by
 unfold seg_Scatter at h
 refine Ctr.mk (args := [.pointer (some ⟨b_m, 0, none⟩), vl1, vb1]) Try.func18 rfl rfl (fun R0 w0 B => ?_)
 refine Tk_seq ?_
 refine Tk_region ?_
 refine Tops_step rfl (OpT_assign rfl rfl rfl rfl) ?_
 refine Tops_step rfl (OpT_assign rfl rfl rfl rfl) ?_
 refine Tops_nil ?_
 refine Tk_wkS (fr' := [(0, some (.pointer (some ⟨b_m, 0, none⟩))), (1, some (vl1)), (2, some (vb1))]) (own' := [some (cellsR b_m 71 [vm1, vm2]), some (rowsX u8S true vm2 vsm1 m.b none)]) (shr' := [Fact.sl RegionS vm1 m.l, Fact.sl SegS vl1 l, Fact.sl u8S vb1 b]) [0, 1, 2] [0, 1] [0, 1, 2] rfl rfl rfl rfl ?_
 refine Tk_seq ?_
 refine Tk_seq ?_
 refine Tk_region ?_
 refine Tops_step rfl (OpT_move rfl rfl rfl rfl) ?_
 refine Tops_step rfl (OpT_move rfl rfl rfl rfl) ?_
 obtain ⟨in1, hx1, h⟩ := ob_e h
 refine Tops_exP rfl (OpT_callP [2, 3] (w_seg_In hx1) [0, 1] [0, 1] rfl rfl rfl rfl rfl callee15 rfl rfl rfl rfl rfl) ?_
 rintro _ ⟨_, _, _, ⟨rfl, rfl, rfl⟩, rfl⟩
 refine Tops_step rfl (OpT_assign rfl rfl rfl rfl) ?_
 refine Tops_nil ?_
 refine Tk_wkS (fr' := [(0, some (.pointer (some ⟨b_m, 0, none⟩))), (1, some (vl1)), (2, some (vb1)), (8, some (vI in1))]) (own' := [some (cellsR b_m 71 [vm1, vm2]), some (rowsX u8S true vm2 vsm1 m.b none)]) (shr' := [Fact.sl RegionS vm1 m.l, Fact.sl SegS vl1 l, Fact.sl u8S vb1 b]) [0, 1, 2, 8] [0, 1] [0, 1, 2] rfl rfl rfl rfl ?_
 refine Tk_seq ?_
 refine Tk_region ?_
 refine Tops_step rfl (OpT_move rfl rfl rfl rfl) ?_
 refine Tops_step rfl (OpT_bin rfl rfl rfl rfl rfl (bin_neq_i (a := in1) (b := (0 : Int)))) ?_
 refine Tops_nil ?_
 refine Tk_wkS (fr' := [(0, some (.pointer (some ⟨b_m, 0, none⟩))), (1, some (vl1)), (2, some (vb1)), (8, some (vI in1)), (18, some (vB (in1 != (0 : Int))))]) (own' := [some (cellsR b_m 71 [vm1, vm2]), some (rowsX u8S true vm2 vsm1 m.b none)]) (shr' := [Fact.sl RegionS vm1 m.l, Fact.sl SegS vl1 l, Fact.sl u8S vb1 b]) [0, 1, 2, 8, 18] [0, 1] [0, 1, 2] rfl rfl rfl rfl ?_
 rcases Bool.eq_false_or_eq_true (in1 != (0 : Int)) with hg1 | hg1
 ·replace h := br_t hg1 h
  refine Tk_condT (congrArg (fun b => some (Value.bool b)) hg1) ?_
  refine Tk_seq ?_
  refine Tk_region ?_
  refine Tops_step rfl (OpT_move rfl rfl rfl rfl) ?_
  refine Tops_step rfl (OpT_assign rfl rfl rfl rfl) ?_
  refine Tops_step rfl (OpT_assign rfl rfl rfl rfl) ?_
  refine Tops_nil ?_
  refine Tk_wkS (fr' := [(6, some (vI (0 : Int))), (7, some (vI in1))]) (own' := [some (cellsR b_m 71 [vm1, vm2]), some (rowsX u8S true vm2 vsm1 m.b none)]) (shr' := [Fact.sl RegionS vm1 m.l]) [6, 7] [0, 1] [0] rfl rfl rfl rfl ?_
  obtain rfl := Option.some.inj h
  exact Tk_retV rfl rfl (resA (vs := [vI (0 : Int), vI in1]) rfl ⟨rfl, rfl, trivial⟩) [0, 1] [] rfl rfl rfl ⟨rfl, rfl, rfl⟩
 ·replace h := br_f hg1 h
  refine Tk_condF (congrArg (fun b => some (Value.bool b)) hg1) ?_
  refine Tk_skip ?_
  refine Tk_seq ?_
  refine Tk_region ?_
  refine Tops_step rfl (OpT_move rfl rfl rfl rfl) ?_
  obtain ⟨part1, hx2, h⟩ := ob_e h
  refine Tops_exP rfl (OpT_call (w_seg_Part hx2) [] [1] rfl rfl rfl rfl rfl callee13 rfl rfl rfl rfl) ?_
  rintro _ ⟨v1, _, _, ⟨_, rfl, rfl, rfl⟩, rfl⟩
  refine Tops_ex rfl (OpT_alloc rfl rfl rfl tyZ66) fun b1 => ?_
  refine Tops_step rfl (OpT_storeV (cs' := [v1]) rfl rfl rfl rfl tyF66 (i := 3) rfl (is_row (i := 2) rfl) rfl rfl) ?_
  refine Tops_nil ?_
  refine Tk_wkS (fr' := [(0, some (.pointer (some ⟨b_m, 0, none⟩))), (2, some (vb1)), (9, some (.pointer (some ⟨b1, 0, none⟩)))]) (own' := [some (cellsR b_m 71 [vm1, vm2]), some (rowsX u8S true vm2 vsm1 m.b none), some (rowS SegS v1 part1), some (cellsR b1 66 [v1])]) (shr' := [Fact.sl RegionS vm1 m.l, Fact.sl u8S vb1 b]) [0, 2, 9] [0, 1, 2, 3] [0, 2] rfl rfl rfl rfl ?_
  refine Tk_seq ?_
  refine Tk_region ?_
  refine Tops_step rfl (OpT_assign rfl rfl rfl rfl) ?_
  refine Tops_nil ?_
  refine Tk_seq ?_
  refine Tk_seq ?_
  refine Tk_region ?_
  refine Tops_step rfl (OpT_move rfl rfl rfl rfl) ?_
  refine Tops_step rfl (OpT_lenS rfl rfl rfl rfl Try.underlying33 (i := 1) rfl) ?_
  refine Tops_step rfl (OpT_cnv rfl rfl rfl rfl (cnv_i_u64 (n := len b) Try.underlying3 Try.underlying23)) ?_
  refine Tops_retire (i := 2) rfl ?_
  obtain ⟨eat1, hx3, h⟩ := ob_e h
  refine Tops_exP rfl (OpT_callP [0, 1, 2, 4, 5] (w_seg_row_eat hx3) [3] [2] rfl rfl rfl rfl rfl callee37 rfl rfl rfl rfl rfl) ?_
  rintro _ ⟨v2, _, _, ⟨_, v3, rfl, rfl, rfl⟩, rfl⟩
  refine Tops_step rfl (OpT_lenO rfl rfl rfl rfl Try.underlying22 (i := 4) rfl) ?_
  refine Tops_step rfl (OpT_move rfl rfl rfl rfl) ?_
  refine Tops_nil ?_
  refine Tk_wkS (fr' := [(0, some (.pointer (some ⟨b_m, 0, none⟩))), (2, some (vb1)), (10, some (vI (0 : Int))), (25, some (v2)), (26, some (vI (len eat1.1))), (27, some (vI (0 : Int)))]) (own' := [some (cellsR b_m 71 [vm1, vm2]), some (rowsX u8S true vm2 vsm1 m.b none), some (rowS SegS v2 eat1.1)]) (shr' := [Fact.sl RegionS vm1 m.l, Fact.sl u8S vb1 b]) [0, 2, 10, 25, 26, 27] [0, 1, 4] [0, 1] rfl rfl rfl rfl ?_
  refine Tk_block ?_
  refine Tk_loopS (σ := (List (List UInt8)) × Int × (List Seg) × Int × Value) [0, 2, 10, 25, 26, 27] [0, 1, 2] [0, 1] (fun s => ⟨[(0, some (.pointer (some ⟨b_m, 0, none⟩))), (2, some (vb1)), (10, some (vI s.2.1)), (25, some (s.2.2.2.2)), (26, some (vI (len eat1.1))), (27, some (vI s.2.2.2.1))], [some (cellsR b_m 71 [vm1, vm2]), some (rowsX u8S true vm2 vsm1 s.1 none), some (rowS SegS s.2.2.2.2 s.2.2.1)], [Fact.sl RegionS vm1 m.l, Fact.sl u8S vb1 b]⟩) (fun nf1 s => seg_ScatterL1 m b eat1 nf1 s.1 s.2.1 s.2.2.1 s.2.2.2.1 = some r) fuel (m.b, (0 : Int), eat1.1, (0 : Int), v2) h rfl rfl rfl rfl rfl (fun s h => by cases h) ?_
  rintro nf1 ⟨rows1, n1, l1, x1, v4⟩ h
  replace h : seg_ScatterL1B m b eat1 (seg_ScatterL1 m b eat1 nf1) rows1 n1 l1 x1 = some r := h
  unfold seg_ScatterL1B at h
  refine Tk_seq ?_
  refine Tk_region ?_
  refine Tops_step rfl (OpT_bin rfl rfl rfl rfl rfl (bin_lss_i (a := x1) (b := len eat1.1))) ?_
  refine Tops_nil ?_
  refine Tk_seq ?_
  rcases Bool.eq_false_or_eq_true (decide (x1 < (len eat1.1))) with hg2 | hg2
  ·replace h := br_t hg2 h
   refine Tk_condT (congrArg (fun b => some (Value.bool b)) hg2) ?_
   refine Tk_skip ?_
   refine Tk_seq ?_
   refine Tk_block ?_
   refine Tk_seq ?_
   refine Tk_region ?_
   obtain ⟨s1, hx4, h⟩ := ob_e h
   refine Tops_step rfl (OpT_idxO rfl rfl rfl rfl rfl slF22 (i := 2) rfl hx4) ?_
   refine Tops_step rfl (OpT_loadOA (S := SegS) (vs := [vU64 s1.At, vU32 s1.Len, vB s1.Write]) rfl rfl rfl rfl rfl tyF47 (i := 2) rfl hx4 rfl) ?_
   refine Tops_ex rfl (OpT_alloc rfl rfl rfl tyZ47) fun b2 => ?_
   refine Tops_step rfl (OpT_storeC (cs' := [vU64 s1.At, vU32 s1.Len, vB s1.Write]) rfl rfl rfl rfl tyF47 (i := 3) rfl rfl rfl (one_of rfl) rfl) ?_
   refine Tops_nil ?_
   refine Tk_wkS (fr' := [(0, some (.pointer (some ⟨b_m, 0, none⟩))), (2, some (vb1)), (10, some (vI n1)), (25, some (v4)), (26, some (vI (len eat1.1))), (27, some (vI x1)), (12, some (.pointer (some ⟨b2, 0, none⟩)))]) (own' := [some (cellsR b_m 71 [vm1, vm2]), some (rowsX u8S true vm2 vsm1 rows1 none), some (rowS SegS v4 l1), some (cellsR b2 47 [vU64 s1.At, vU32 s1.Len, vB s1.Write])]) (shr' := [Fact.sl RegionS vm1 m.l, Fact.sl u8S vb1 b]) [0, 2, 10, 25, 26, 27, 12] [0, 1, 2, 3] [0, 1] rfl rfl rfl rfl ?_
   refine Tk_seq ?_
   refine Tk_region ?_
   refine Tops_step rfl (OpT_fieldC rfl rfl rfl rfl fldF47x1) ?_
   refine Tops_step rfl (OpT_loadC rfl rfl rfl rfl tyF45 (i := 3) rfl rfl) ?_
   refine Tops_step rfl (OpT_cnv rfl rfl rfl rfl (cnv_u32_i (n := s1.Len) Try.underlying45 Try.underlying3)) ?_
   refine Tops_step rfl (OpT_assign rfl rfl rfl rfl) ?_
   refine Tops_nil ?_
   refine Tk_wkS (fr' := [(0, some (.pointer (some ⟨b_m, 0, none⟩))), (2, some (vb1)), (10, some (vI n1)), (25, some (v4)), (26, some (vI (len eat1.1))), (27, some (vI x1)), (12, some (.pointer (some ⟨b2, 0, none⟩))), (13, some (vI (i32 s1.Len)))]) (own' := [some (cellsR b_m 71 [vm1, vm2]), some (rowsX u8S true vm2 vsm1 rows1 none), some (rowS SegS v4 l1), some (cellsR b2 47 [vU64 s1.At, vU32 s1.Len, vB s1.Write])]) (shr' := [Fact.sl RegionS vm1 m.l, Fact.sl u8S vb1 b]) [0, 2, 10, 25, 26, 27, 12, 13] [0, 1, 2, 3] [0, 1] rfl rfl rfl rfl ?_
   refine Tk_seq ?_
   refine Tk_drawT (by kernel_rfl) ?_
   refine TA_tb [0, 0, 2, 0, 0, 0, 0, 96, 248, 511] (by kernel_rfl) fun htb => ?_
   obtain ⟨hc1, h⟩ := chk_e h
   refine TA_seg (lo := 0) (hi := 9) htb rfl rfl (by kernel_rfl) (fun c L a w => ∃ (v5 : Value), Sat c ⟨[(0, some (.pointer (some ⟨b_m, 0, none⟩))), (2, some (vb1)), (10, some (vI n1)), (25, some (v4)), (26, some (vI (len eat1.1))), (27, some (vI x1)), (12, some (.pointer (some ⟨b2, 0, none⟩))), (13, some (vI (i32 s1.Len))), (34, bif L 0 then some (.pointer (some ⟨b_m, 0, none⟩)) else none), (35, bif L 1 then some (.pointer (some ⟨b2, 0, none⟩)) else none), (36, bif L 2 then some (vU64 s1.At) else none), (37, bif L 3 then some (vb1) else none), (38, bif L 4 then some (vI n1) else none), (39, bif L 5 then some (vI n1) else none), (40, bif L 6 then some (vI (i32 s1.Len)) else none), (41, bif L 7 then some (vI (wi (n1 + (i32 s1.Len)))) else none), (42, bif L 8 then some (v5) else none)], [(some (cellsR b_m 71 [vm1, vm2]) : Option Res), (some (rowsX u8S true vm2 vsm1 rows1 none) : Option Res), (some (rowS SegS v4 l1) : Option Res), (some (cellsR b2 47 [vU64 s1.At, vU32 s1.Len, vB s1.Write]) : Option Res)], [Fact.sl RegionS vm1 m.l, Fact.sl u8S vb1 b, (bif L 8 then Fact.sl u8S v5 (sub b n1 (wi (n1 + (i32 s1.Len)))) else Fact.tt)]⟩ a w) [([], []), ([], [2]), ([1], []), ([], [8]), ([], [8]), ([], [7, 8]), ([], [7, 8]), ([5, 6], [8]), ([3, 4, 5, 6, 7], [])] rfl (by kernel_rfl) ?_ (steps_cons ?_ (steps_cons ?_ (steps_cons ?_ (steps_cons ?_ (steps_cons ?_ (steps_cons ?_ (steps_cons ?_ (steps_cons ?_ (steps_cons ?_ (steps_nil)))))))))) ?_
   ·intro a w hs
    exact ⟨undef, hs.startF [34, 35, 36, 37, 38, 39, 40, 41, 42] [0, 1, 2, 3] [0, 1, 2] rfl rfl rfl rfl⟩
   ·intro L a w hv K Q hK
    obtain ⟨v5, hs⟩ := hv
    refine wpOp_go rfl rfl hs (OpT_move rfl rfl rfl rfl) ?_
    rintro _ rfl a' w' hs'
    exact hK a' w' ⟨v5, hs'.putF (i := 8) rfl [0, 1, 2, 3] [0, 1, 2] rfl rfl rfl rfl⟩
   ·intro L a w hv K Q hK
    obtain ⟨v5, hs⟩ := hv
    refine wpOp_go rfl rfl hs (OpT_fieldC rfl rfl rfl rfl fldF47x0) ?_
    rintro _ rfl a' w' hs'
    exact hK a' w' ⟨v5, hs'.putF (i := 9) rfl [0, 1, 2, 3] [0, 1, 2] rfl rfl rfl rfl⟩
   ·intro L a w hv K Q hK
    obtain ⟨v5, hs⟩ := hv
    refine wpOp_go rfl rfl hs (OpT_loadC rfl rfl rfl rfl tyF23 (i := 3) rfl rfl) ?_
    rintro _ rfl a' w' hs'
    exact hK a' w' ⟨v5, hs'.putF (i := 10) rfl [0, 1, 2, 3] [0, 1, 2] rfl rfl rfl rfl⟩
   ·intro L a w hv K Q hK
    obtain ⟨v5, hs⟩ := hv
    refine wpOp_go rfl rfl hs (OpT_move rfl rfl rfl rfl) ?_
    rintro _ rfl a' w' hs'
    exact hK a' w' ⟨v5, hs'.putF (i := 11) rfl [0, 1, 2, 3] [0, 1, 2] rfl rfl rfl rfl⟩
   ·intro L a w hv K Q hK
    obtain ⟨v5, hs⟩ := hv
    refine wpOp_go rfl rfl hs (OpT_move rfl rfl rfl rfl) ?_
    rintro _ rfl a' w' hs'
    exact hK a' w' ⟨v5, hs'.putF (i := 12) rfl [0, 1, 2, 3] [0, 1, 2] rfl rfl rfl rfl⟩
   ·intro L a w hv K Q hK
    obtain ⟨v5, hs⟩ := hv
    refine wpOp_go rfl rfl hs (OpT_move rfl rfl rfl rfl) ?_
    rintro _ rfl a' w' hs'
    exact hK a' w' ⟨v5, hs'.putF (i := 13) rfl [0, 1, 2, 3] [0, 1, 2] rfl rfl rfl rfl⟩
   ·intro L a w hv K Q hK
    obtain ⟨v5, hs⟩ := hv
    refine wpOp_go rfl rfl hs (OpT_move rfl rfl rfl rfl) ?_
    rintro _ rfl a' w' hs'
    exact hK a' w' ⟨v5, hs'.putF (i := 14) rfl [0, 1, 2, 3] [0, 1, 2] rfl rfl rfl rfl⟩
   ·intro L a w hv K Q hK
    obtain ⟨v5, hs⟩ := hv
    refine wpOp_go rfl rfl hs (OpT_bin rfl rfl rfl rfl rfl (bin_add_i (a := n1) (b := i32 s1.Len))) ?_
    rintro _ rfl a' w' hs'
    exact hK a' w' ⟨v5, hs'.putF (i := 15) rfl [0, 1, 2, 3] [0, 1, 2] rfl rfl rfl rfl⟩
   ·intro L a w hv K Q hK
    obtain ⟨v5, hs⟩ := hv
    refine wpOp_go rfl rfl hs (OpT_sliceLH (l := n1) (m := wi (n1 + (i32 s1.Len))) rfl rfl rfl rfl rfl rfl slF33 (i := 1) rfl hc1) ?_
    rintro _ ⟨v5', rfl⟩ a' w' hs'
    exact hK a' w' ⟨v5', hs'.putF (i := 16) rfl [0, 1, 2, 3] [0, 1, 3] rfl rfl rfl rfl⟩
   ·intro L a w hL hv
    rw [allTrue hL] at hv
    obtain ⟨v5, hs⟩ := hv
    refine (show TA _ _ _ 9 ⟨[(0, some (.pointer (some ⟨b_m, 0, none⟩))), (2, some (vb1)), (10, some (vI n1)), (25, some (v4)), (26, some (vI (len eat1.1))), (27, some (vI x1)), (13, some (vI (i32 s1.Len))), (34, some (.pointer (some ⟨b_m, 0, none⟩))), (36, some (vU64 s1.At)), (42, some (v5))], [some (cellsR b_m 71 [vm1, vm2]), some (rowsX u8S true vm2 vsm1 rows1 none), some (rowS SegS v4 l1)], [Fact.sl RegionS vm1 m.l, Fact.sl u8S vb1 b, Fact.sl u8S v5 (sub b n1 (wi (n1 + (i32 s1.Len))))]⟩ from ?_) a w (hs.wkS [0, 2, 10, 25, 26, 27, 13, 34, 36, 42] [0, 1, 2] [0, 1, 2] rfl rfl rfl rfl)
    clear hs hL
    obtain ⟨write1, hx5, h⟩ := ob_e h
    refine TA_exP htb (by kernel_rfl) rfl rfl (OpT_callP [3, 4, 2] (w_gmem_Mem_Write hx5) [0, 1] [0, 2] rfl rfl rfl rfl rfl callee16 rfl rfl rfl rfl rfl) ?_
    rintro _ ⟨_, _, _, ⟨rfl, rfl, rfl⟩, rfl⟩
    refine TA_end rfl ?_
    refine Tk_wkS (fr' := [(0, some (.pointer (some ⟨b_m, 0, none⟩))), (2, some (vb1)), (10, some (vI n1)), (25, some (v4)), (26, some (vI (len eat1.1))), (27, some (vI x1)), (13, some (vI (i32 s1.Len)))]) (own' := [some (cellsR b_m 71 [vm1, vm2]), some (rowsX u8S true vm2 vsm1 write1.2 none), some (rowS SegS v4 l1)]) (shr' := [Fact.sl RegionS vm1 m.l, Fact.sl u8S vb1 b]) [0, 2, 10, 25, 26, 27, 13] [0, 1, 2] [0, 1] rfl rfl rfl rfl ?_
    refine Tk_region ?_
    refine Tops_step rfl (OpT_move rfl rfl rfl rfl) ?_
    refine Tops_step rfl (OpT_move rfl rfl rfl rfl) ?_
    refine Tops_step rfl (OpT_bin rfl rfl rfl rfl rfl (bin_add_i (a := n1) (b := i32 s1.Len))) ?_
    refine Tops_step rfl (OpT_assign rfl rfl rfl rfl) ?_
    refine Tops_nil ?_
    refine Tk_wkS (fr' := [(0, some (.pointer (some ⟨b_m, 0, none⟩))), (2, some (vb1)), (10, some (vI (wi (n1 + (i32 s1.Len))))), (25, some (v4)), (26, some (vI (len eat1.1))), (27, some (vI x1))]) (own' := [some (cellsR b_m 71 [vm1, vm2]), some (rowsX u8S true vm2 vsm1 write1.2 none), some (rowS SegS v4 l1)]) (shr' := [Fact.sl RegionS vm1 m.l, Fact.sl u8S vb1 b]) [0, 2, 10, 25, 26, 27] [0, 1, 2] [0, 1] rfl rfl rfl rfl ?_
    refine Tk_blk ?_
    refine Tk_region ?_
    refine Tops_step rfl (OpT_bin rfl rfl rfl rfl rfl (bin_add_i (a := x1) (b := (1 : Int)))) ?_
    refine Tops_step rfl (OpT_move rfl rfl rfl rfl) ?_
    refine Tops_nil ?_
    refine Tk_wkS (fr' := [(0, some (.pointer (some ⟨b_m, 0, none⟩))), (2, some (vb1)), (10, some (vI (wi (n1 + (i32 s1.Len))))), (25, some (v4)), (26, some (vI (len eat1.1))), (27, some (vI (wi (x1 + (1 : Int)))))]) (own' := [some (cellsR b_m 71 [vm1, vm2]), some (rowsX u8S true vm2 vsm1 write1.2 none), some (rowS SegS v4 l1)]) (shr' := [Fact.sl RegionS vm1 m.l, Fact.sl u8S vb1 b]) [0, 2, 10, 25, 26, 27] [0, 1, 2] [0, 1] rfl rfl rfl rfl ?_
    exact Tk_backS (write1.2, wi (n1 + (i32 s1.Len)), l1, wi (x1 + (1 : Int)), v4) h [0, 2, 10, 25, 26, 27] [0, 1, 2] [0, 1] rfl rfl rfl rfl rfl
  ·replace h := br_f hg2 h
   refine Tk_condF (congrArg (fun b => some (Value.bool b)) hg2) ?_
   refine Tk_exit _ rfl ?_
   refine Tk_seq ?_
   refine Tk_region ?_
   refine Tops_step rfl (OpT_move rfl rfl rfl rfl) ?_
   refine Tops_step rfl (OpT_assign rfl rfl rfl rfl) ?_
   refine Tops_step rfl (OpT_assign rfl rfl rfl rfl) ?_
   refine Tops_nil ?_
   refine Tk_wkS (fr' := [(6, some (vI n1)), (7, some (vI (0 : Int)))]) (own' := [some (cellsR b_m 71 [vm1, vm2]), some (rowsX u8S true vm2 vsm1 rows1 none)]) (shr' := [Fact.sl RegionS vm1 m.l]) [6, 7] [0, 1] [0] rfl rfl rfl rfl ?_
   obtain rfl := Option.some.inj h
   exact Tk_retV rfl rfl (resA (vs := [vI n1, vI (0 : Int)]) rfl ⟨rfl, rfl, trivial⟩) [0, 1] [] rfl rfl rfl ⟨rfl, rfl, rfl⟩

set_option maxRecDepth 100000 in
set_option maxHeartbeats 4000000 in
theorem w_slices_Grow_bytebyten0 {np1 : Int} {r : (List UInt8)} (h : slices_Grow_bytebyten0 np1 = some r) :
  Ctr Try.prog 52 #[.slice none 0 0, vI np1] [] []
   (fun rv own shr => ∃ (w1 : Value), rv = w1 ∧ own = [(rowS u8S w1 r)] ∧ shr = []) := by
 unfold slices_Grow_bytebyten0 at h
 refine Ctr.mk (args := [.slice none 0 0, vI np1]) Try.func52 rfl rfl (fun R0 w0 B => ?_)
 refine Tk_seq ?_
 refine Tk_region ?_
 refine Tops_step rfl (OpT_assign rfl rfl rfl rfl) ?_
 refine Tops_nil ?_
 refine Tk_wkS (fr' := [(0, some (.slice none 0 0)), (1, some (vI np1))]) (own' := []) (shr' := []) [0, 1] [] [] rfl rfl rfl rfl ?_
 refine Tk_seq ?_
 refine Tk_seq ?_
 refine Tk_region ?_
 refine Tops_step rfl (OpT_move rfl rfl rfl rfl) ?_
 refine Tops_step rfl (OpT_bin rfl rfl rfl rfl rfl (bin_lss_i (a := np1) (b := (0 : Int)))) ?_
 refine Tops_nil ?_
 refine Tk_wkS (fr' := [(0, some (.slice none 0 0)), (1, some (vI np1)), (6, some (vB (decide (np1 < (0 : Int)))))]) (own' := []) (shr' := []) [0, 1, 6] [] [] rfl rfl rfl rfl ?_
 refine Tk_join (α := Unit) (fun s => ⟨[(0, some (.slice none 0 0)), (1, some (vI np1))], [], []⟩) (fun s => slices_Grow_bytebyten0J1 np1 = some r) ?_ ?_
 ·rintro _ h
  replace h : slices_Grow_bytebyten0J1 np1 = some r := h
  unfold slices_Grow_bytebyten0J1 at h
  refine Tk_seq ?_
  refine Tk_seq ?_
  refine Tk_region ?_
  refine Tops_step rfl (OpT_move rfl rfl rfl rfl) ?_
  refine Tops_step rfl (OpT_move rfl rfl rfl rfl) ?_
  refine Tops_step rfl (OpT_capN rfl rfl rfl rfl Try.underlying33) ?_
  refine Tops_step rfl (OpT_move rfl rfl rfl rfl) ?_
  refine Tops_step rfl (OpT_lenE rfl rfl rfl rfl Try.underlying33) ?_
  refine Tops_step rfl (OpT_bin rfl rfl rfl rfl rfl (bin_sub_i (a := (0 : Int)) (b := (0 : Int)))) ?_
  refine Tops_step rfl (OpT_bin rfl rfl rfl rfl rfl (bin_sub_i (a := np1) (b := wi ((0 : Int) - (0 : Int))))) ?_
  refine Tops_step rfl (OpT_assign rfl rfl rfl rfl) ?_
  refine Tops_nil ?_
  refine Tk_wkS (fr' := [(0, some (.slice none 0 0)), (1, some (vI (wi (np1 - (wi ((0 : Int) - (0 : Int)))))))]) (own' := []) (shr' := []) [0, 1] [] [] rfl rfl rfl rfl ?_
  refine Tk_seq ?_
  refine Tk_region ?_
  refine Tops_step rfl (OpT_move rfl rfl rfl rfl) ?_
  refine Tops_step rfl (OpT_bin rfl rfl rfl rfl rfl (bin_gtr_i (a := wi (np1 - (wi ((0 : Int) - (0 : Int))))) (b := (0 : Int)))) ?_
  refine Tops_nil ?_
  refine Tk_wkS (fr' := [(0, some (.slice none 0 0)), (1, some (vI (wi (np1 - (wi ((0 : Int) - (0 : Int))))))), (16, some (vB (decide ((wi (np1 - (wi ((0 : Int) - (0 : Int))))) > (0 : Int)))))]) (own' := []) (shr' := []) [0, 1, 16] [] [] rfl rfl rfl rfl ?_
  rcases Bool.eq_false_or_eq_true (decide ((wi (np1 - (wi ((0 : Int) - (0 : Int))))) > (0 : Int))) with hg1 | hg1
  ·replace h := br_t hg1 h
   refine Tk_condT (congrArg (fun b => some (Value.bool b)) hg1) ?_
   refine Tk_region ?_
   refine Tops_step rfl (OpT_move rfl rfl rfl rfl) ?_
   refine Tops_step rfl (OpT_move rfl rfl rfl rfl) ?_
   refine Tops_step rfl (OpT_capN rfl rfl rfl rfl Try.underlying33) ?_
   refine Tops_step rfl (OpT_sliceN rfl rfl rfl rfl rfl Try.underlying33 ⟨_, (slF33).sz⟩) ?_
   refine Tops_step rfl (OpT_move rfl rfl rfl rfl) ?_
   obtain ⟨hc1, h⟩ := chk_e h
   refine Tops_ex rfl (OpT_appendZ u8S rfl (l := wi (np1 - (wi ((0 : Int) - (0 : Int))))) (u := (0 : UInt8)) rfl rfl rfl rfl rfl slF33 Try.underlying3 rfl hc1) fun v1 => ?_
   refine Tops_step rfl (OpT_move rfl rfl rfl rfl) ?_
   refine Tops_step rfl (OpT_lenE rfl rfl rfl rfl Try.underlying33) ?_
   obtain ⟨hc2, h⟩ := chk_e h
   refine Tops_ex rfl (OpT_sliceO (m := (0 : Int)) rfl rfl rfl rfl rfl slF33 (i := 0) rfl hc2) fun v2 => ?_
   refine Tops_step rfl (OpT_assign rfl rfl rfl rfl) ?_
   refine Tops_nil ?_
   refine Tk_wkS (fr' := [(0, some (v2))]) (own' := [some (rowS u8S v2 ((List.replicate (wi (np1 - (wi ((0 : Int) - (0 : Int))))).toNat (0 : UInt8)).take (0 : Int).toNat))]) (shr' := []) [0] [0] [] rfl rfl rfl rfl ?_
   refine Tk_seq ?_
   refine Tk_region ?_
   refine Tops_step rfl (OpT_move rfl rfl rfl rfl) ?_
   refine Tops_step rfl (OpT_assign rfl rfl rfl rfl) ?_
   refine Tops_nil ?_
   refine Tk_wkS (fr' := [(4, some (v2))]) (own' := [some (rowS u8S v2 ((List.replicate (wi (np1 - (wi ((0 : Int) - (0 : Int))))).toNat (0 : UInt8)).take (0 : Int).toNat))]) (shr' := []) [4] [0] [] rfl rfl rfl rfl ?_
   obtain rfl := Option.some.inj h
   exact Tk_retV rfl rfl (resA (vs := [v2]) rfl ⟨rfl, trivial⟩) [0] [] rfl rfl rfl ⟨v2, rfl, rfl, rfl⟩
  ·replace h := br_f hg1 h
   refine Tk_condF (congrArg (fun b => some (Value.bool b)) hg1) ?_
   refine Tk_skip ?_
   refine Tk_seq ?_
   refine Tk_region ?_
   refine Tops_step rfl (OpT_move rfl rfl rfl rfl) ?_
   refine Tops_step rfl (OpT_assign rfl rfl rfl rfl) ?_
   refine Tops_nil ?_
   refine Tk_wkS (fr' := [(4, some (.slice none 0 0))]) (own' := []) (shr' := []) [4] [] [] rfl rfl rfl rfl ?_
   refine Tk_nilrow u8S ?_
   obtain rfl := Option.some.inj h
   exact Tk_retV rfl rfl (resA (vs := [.slice none 0 0]) rfl ⟨rfl, trivial⟩) [0] [] rfl rfl rfl ⟨(.slice none 0 0), rfl, rfl, rfl⟩
 ·intro HJ1
  obtain ⟨hg2, h⟩ := chk_e h
  replace hg2 := not_t hg2
  refine Tk_condF (congrArg (fun b => some (Value.bool b)) hg2) ?_
  refine Tk_skip ?_
  exact Tk_jmpS (HJ1 () h) [0, 1] [] [] rfl rfl rfl rfl

set_option maxRecDepth 100000 in
set_option maxHeartbeats 4000000 in
theorem w_slices_Concat_bytebyte {slices : List (List UInt8)} {vslices1 : Value} {r : (List UInt8)} (h : slices_Concat_bytebyte slices = some r) :
  Ctr Try.prog 44 #[vslices1] [] [Fact.sl (Shape.slice u8S) vslices1 slices]
   (fun rv own shr => ∃ (w1 : Value), rv = w1 ∧ own = [(rowS u8S w1 r)] ∧ shr = []) := by
 unfold slices_Concat_bytebyte at h
 refine Ctr.mk (args := [vslices1]) Try.func44 rfl rfl (fun R0 w0 B => ?_)
 refine Tk_seq ?_
 refine Tk_region ?_
 refine Tops_step rfl (OpT_assign rfl rfl rfl rfl) ?_
 refine Tops_nil ?_
 refine Tk_wkS (fr' := [(0, some (vslices1))]) (own' := []) (shr' := [Fact.sl (Shape.slice u8S) vslices1 slices]) [0] [] [0] rfl rfl rfl rfl ?_
 refine Tk_seq ?_
 refine Tk_region ?_
 refine Tops_step rfl (OpT_assign rfl rfl rfl rfl) ?_
 refine Tops_nil ?_
 refine Tk_seq ?_
 refine Tk_seq ?_
 refine Tk_region ?_
 refine Tops_step rfl (OpT_move rfl rfl rfl rfl) ?_
 refine Tops_step rfl (OpT_lenS rfl rfl rfl rfl Try.underlying69 (i := 0) rfl) ?_
 refine Tops_step rfl (OpT_move rfl rfl rfl rfl) ?_
 refine Tops_nil ?_
 refine Tk_block ?_
 refine Tk_loopS (σ := Int × Int) [0, 3, 9, 10, 11] [] [0] (fun s => ⟨[(0, some (vslices1)), (3, some (vI s.1)), (9, some (vslices1)), (10, some (vI (len slices))), (11, some (vI s.2))], [], [Fact.sl (Shape.slice u8S) vslices1 slices]⟩) (fun nf1 s => slices_Concat_bytebyteL1 slices nf1 s.1 s.2 = some r) fuel ((0 : Int), (0 : Int)) h rfl rfl rfl rfl rfl (fun s h => by cases h) ?_
 rintro nf1 ⟨size1, x1⟩ h
 replace h : slices_Concat_bytebyteL1B slices (slices_Concat_bytebyteL1 slices nf1) size1 x1 = some r := h
 unfold slices_Concat_bytebyteL1B at h
 refine Tk_seq ?_
 refine Tk_region ?_
 refine Tops_step rfl (OpT_bin rfl rfl rfl rfl rfl (bin_lss_i (a := x1) (b := len slices))) ?_
 refine Tops_nil ?_
 refine Tk_seq ?_
 rcases Bool.eq_false_or_eq_true (decide (x1 < (len slices))) with hg1 | hg1
 ·replace h := br_t hg1 h
  refine Tk_condT (congrArg (fun b => some (Value.bool b)) hg1) ?_
  refine Tk_skip ?_
  refine Tk_seq ?_
  refine Tk_join (α := Int) (fun s => ⟨[(0, some (vslices1)), (3, some (vI s)), (9, some (vslices1)), (10, some (vI (len slices))), (11, some (vI x1))], [], [Fact.sl (Shape.slice u8S) vslices1 slices]⟩) (fun s => slices_Concat_bytebyteJ2 x1 (slices_Concat_bytebyteL1 slices nf1) s = some r) ?_ ?_
  ·rintro size2 h
   replace h : slices_Concat_bytebyteJ2 x1 (slices_Concat_bytebyteL1 slices nf1) size2 = some r := h
   unfold slices_Concat_bytebyteJ2 at h
   refine Tk_region ?_
   refine Tops_step rfl (OpT_bin rfl rfl rfl rfl rfl (bin_add_i (a := x1) (b := (1 : Int)))) ?_
   refine Tops_step rfl (OpT_move rfl rfl rfl rfl) ?_
   refine Tops_nil ?_
   refine Tk_wkS (fr' := [(0, some (vslices1)), (3, some (vI size2)), (9, some (vslices1)), (10, some (vI (len slices))), (11, some (vI (wi (x1 + (1 : Int)))))]) (own' := []) (shr' := [Fact.sl (Shape.slice u8S) vslices1 slices]) [0, 3, 9, 10, 11] [] [0] rfl rfl rfl rfl ?_
   exact Tk_backS (size2, wi (x1 + (1 : Int))) h [0, 3, 9, 10, 11] [] [0] rfl rfl rfl rfl rfl
  ·intro HJ1
   refine Tk_block ?_
   refine Tk_seq ?_
   refine Tk_region ?_
   obtain ⟨y1, hx1, h⟩ := ob_e h
   refine Tops_ex rfl (OpT_idxS rfl rfl rfl rfl rfl slF69 (i := 0) rfl hx1) fun p1 => ?_
   refine Tops_ex rfl (OpT_loadPS rfl rfl rfl rfl tyF33 (i := 1) rfl) fun v1 => ?_
   refine Tops_step rfl (OpT_assign rfl rfl rfl rfl) ?_
   refine Tops_nil ?_
   refine Tk_wkS (fr' := [(0, some (vslices1)), (3, some (vI size1)), (9, some (vslices1)), (10, some (vI (len slices))), (11, some (vI x1)), (5, some (v1))]) (own' := []) (shr' := [Fact.sl (Shape.slice u8S) vslices1 slices, Fact.sl u8S v1 y1]) [0, 3, 9, 10, 11, 5] [] [0, 2] rfl rfl rfl rfl ?_
   refine Tk_seq ?_
   refine Tk_region ?_
   refine Tops_step rfl (OpT_move rfl rfl rfl rfl) ?_
   refine Tops_step rfl (OpT_move rfl rfl rfl rfl) ?_
   refine Tops_step rfl (OpT_lenS rfl rfl rfl rfl Try.underlying33 (i := 1) rfl) ?_
   refine Tops_step rfl (OpT_bin rfl rfl rfl rfl rfl (bin_add_i (a := size1) (b := len y1))) ?_
   refine Tops_step rfl (OpT_assign rfl rfl rfl rfl) ?_
   refine Tops_nil ?_
   refine Tk_wkS (fr' := [(0, some (vslices1)), (3, some (vI (wi (size1 + (len y1))))), (9, some (vslices1)), (10, some (vI (len slices))), (11, some (vI x1))]) (own' := []) (shr' := [Fact.sl (Shape.slice u8S) vslices1 slices]) [0, 3, 9, 10, 11] [] [0] rfl rfl rfl rfl ?_
   refine Tk_seq ?_
   refine Tk_region ?_
   refine Tops_step rfl (OpT_move rfl rfl rfl rfl) ?_
   refine Tops_step rfl (OpT_bin rfl rfl rfl rfl rfl (bin_lss_i (a := wi (size1 + (len y1))) (b := (0 : Int)))) ?_
   refine Tops_nil ?_
   refine Tk_wkS (fr' := [(0, some (vslices1)), (3, some (vI (wi (size1 + (len y1))))), (9, some (vslices1)), (10, some (vI (len slices))), (11, some (vI x1)), (20, some (vB (decide ((wi (size1 + (len y1))) < (0 : Int)))))]) (own' := []) (shr' := [Fact.sl (Shape.slice u8S) vslices1 slices]) [0, 3, 9, 10, 11, 20] [] [0] rfl rfl rfl rfl ?_
   refine Tk_join (α := Unit) (fun s => ⟨[(0, some (vslices1)), (3, some (vI (wi (size1 + (len y1))))), (9, some (vslices1)), (10, some (vI (len slices))), (11, some (vI x1))], [], [Fact.sl (Shape.slice u8S) vslices1 slices]⟩) (fun s => slices_Concat_bytebyteJ3 size1 x1 (slices_Concat_bytebyteL1 slices nf1) y1 = some r) ?_ ?_
   ·rintro _ h
    replace h : slices_Concat_bytebyteJ3 size1 x1 (slices_Concat_bytebyteL1 slices nf1) y1 = some r := h
    unfold slices_Concat_bytebyteJ3 at h
    refine Tk_blk ?_
    exact Tk_jmpS (HJ1 (wi (size1 + (len y1))) h) [0, 3, 9, 10, 11] [] [0] rfl rfl rfl rfl
   ·intro HJ2
    obtain ⟨hg2, h⟩ := chk_e h
    replace hg2 := not_t hg2
    refine Tk_condF (congrArg (fun b => some (Value.bool b)) hg2) ?_
    refine Tk_skip ?_
    exact Tk_jmpS (HJ2 () h) [0, 3, 9, 10, 11] [] [0] rfl rfl rfl rfl
 ·replace h := br_f hg1 h
  refine Tk_condF (congrArg (fun b => some (Value.bool b)) hg1) ?_
  refine Tk_exit _ rfl ?_
  refine Tk_seq ?_
  refine Tk_region ?_
  refine Tops_step rfl (OpT_move rfl rfl rfl rfl) ?_
  obtain ⟨growby1, hx2, h⟩ := ob_e h
  refine Tops_exP rfl (OpT_call (w_slices_Grow_bytebyten0 hx2) [] [] rfl rfl rfl rfl rfl callee52 rfl rfl rfl rfl) ?_
  rintro _ ⟨v2, _, _, ⟨_, rfl, rfl, rfl⟩, rfl⟩
  refine Tops_step rfl (OpT_assign rfl rfl rfl rfl) ?_
  refine Tops_nil ?_
  refine Tk_wkS (fr' := [(0, some (vslices1)), (6, some (v2))]) (own' := [some (rowS u8S v2 growby1)]) (shr' := [Fact.sl (Shape.slice u8S) vslices1 slices]) [0, 6] [0] [0] rfl rfl rfl rfl ?_
  refine Tk_seq ?_
  refine Tk_seq ?_
  refine Tk_region ?_
  refine Tops_step rfl (OpT_move rfl rfl rfl rfl) ?_
  refine Tops_step rfl (OpT_lenS rfl rfl rfl rfl Try.underlying69 (i := 0) rfl) ?_
  refine Tops_step rfl (OpT_move rfl rfl rfl rfl) ?_
  refine Tops_nil ?_
  refine Tk_wkS (fr' := [(6, some (v2)), (25, some (vslices1)), (26, some (vI (len slices))), (27, some (vI (0 : Int)))]) (own' := [some (rowS u8S v2 growby1)]) (shr' := [Fact.sl (Shape.slice u8S) vslices1 slices]) [6, 25, 26, 27] [0] [0] rfl rfl rfl rfl ?_
  refine Tk_block ?_
  refine Tk_loopS (σ := (List UInt8) × Int × Value) [6, 25, 26, 27] [0] [0] (fun s => ⟨[(6, some (s.2.2)), (25, some (vslices1)), (26, some (vI (len slices))), (27, some (vI s.2.1))], [some (rowS u8S s.2.2 s.1)], [Fact.sl (Shape.slice u8S) vslices1 slices]⟩) (fun nf4 s => slices_Concat_bytebyteL4 slices nf4 s.1 s.2.1 = some r) fuel (growby1, (0 : Int), v2) h rfl rfl rfl rfl rfl (fun s h => by cases h) ?_
  rintro nf4 ⟨newslice1, x2, v3⟩ h
  replace h : slices_Concat_bytebyteL4B slices (slices_Concat_bytebyteL4 slices nf4) newslice1 x2 = some r := h
  unfold slices_Concat_bytebyteL4B at h
  refine Tk_seq ?_
  refine Tk_region ?_
  refine Tops_step rfl (OpT_bin rfl rfl rfl rfl rfl (bin_lss_i (a := x2) (b := len slices))) ?_
  refine Tops_nil ?_
  refine Tk_seq ?_
  rcases Bool.eq_false_or_eq_true (decide (x2 < (len slices))) with hg3 | hg3
  ·replace h := br_t hg3 h
   refine Tk_condT (congrArg (fun b => some (Value.bool b)) hg3) ?_
   refine Tk_skip ?_
   refine Tk_seq ?_
   refine Tk_block ?_
   refine Tk_seq ?_
   refine Tk_region ?_
   obtain ⟨y2, hx3, h⟩ := ob_e h
   refine Tops_ex rfl (OpT_idxS rfl rfl rfl rfl rfl slF69 (i := 0) rfl hx3) fun p2 => ?_
   refine Tops_ex rfl (OpT_loadPS rfl rfl rfl rfl tyF33 (i := 1) rfl) fun v4 => ?_
   refine Tops_step rfl (OpT_assign rfl rfl rfl rfl) ?_
   refine Tops_nil ?_
   refine Tk_wkS (fr' := [(6, some (v3)), (25, some (vslices1)), (26, some (vI (len slices))), (27, some (vI x2)), (8, some (v4))]) (own' := [some (rowS u8S v3 newslice1)]) (shr' := [Fact.sl (Shape.slice u8S) vslices1 slices, Fact.sl u8S v4 y2]) [6, 25, 26, 27, 8] [0] [0, 2] rfl rfl rfl rfl ?_
   refine Tk_region ?_
   refine Tops_step rfl (OpT_move rfl rfl rfl rfl) ?_
   refine Tops_step rfl (OpT_move rfl rfl rfl rfl) ?_
   obtain ⟨hc1, h⟩ := chk_e h
   refine Tops_ex rfl (OpT_append rfl rfl rfl rfl rfl slF33 (i := 0) (j := 1) rfl rfl hc1) fun v5 => ?_
   refine Tops_step rfl (OpT_assign rfl rfl rfl rfl) ?_
   refine Tops_nil ?_
   refine Tk_wkS (fr' := [(6, some (v5)), (25, some (vslices1)), (26, some (vI (len slices))), (27, some (vI x2))]) (own' := [some (rowS u8S v5 (newslice1 ++ y2))]) (shr' := [Fact.sl (Shape.slice u8S) vslices1 slices]) [6, 25, 26, 27] [0] [0] rfl rfl rfl rfl ?_
   refine Tk_blk ?_
   refine Tk_region ?_
   refine Tops_step rfl (OpT_bin rfl rfl rfl rfl rfl (bin_add_i (a := x2) (b := (1 : Int)))) ?_
   refine Tops_step rfl (OpT_move rfl rfl rfl rfl) ?_
   refine Tops_nil ?_
   refine Tk_wkS (fr' := [(6, some (v5)), (25, some (vslices1)), (26, some (vI (len slices))), (27, some (vI (wi (x2 + (1 : Int)))))]) (own' := [some (rowS u8S v5 (newslice1 ++ y2))]) (shr' := [Fact.sl (Shape.slice u8S) vslices1 slices]) [6, 25, 26, 27] [0] [0] rfl rfl rfl rfl ?_
   exact Tk_backS (newslice1 ++ y2, wi (x2 + (1 : Int)), v5) h [6, 25, 26, 27] [0] [0] rfl rfl rfl rfl rfl
  ·replace h := br_f hg3 h
   refine Tk_condF (congrArg (fun b => some (Value.bool b)) hg3) ?_
   refine Tk_exit _ rfl ?_
   refine Tk_seq ?_
   refine Tk_region ?_
   refine Tops_step rfl (OpT_move rfl rfl rfl rfl) ?_
   refine Tops_step rfl (OpT_assign rfl rfl rfl rfl) ?_
   refine Tops_nil ?_
   refine Tk_wkS (fr' := [(2, some (v3))]) (own' := [some (rowS u8S v3 newslice1)]) (shr' := []) [2] [0] [] rfl rfl rfl rfl ?_
   obtain rfl := Option.some.inj h
   exact Tk_retV rfl rfl (resA (vs := [v3]) rfl ⟨rfl, trivial⟩) [0] [] rfl rfl rfl ⟨v3, rfl, rfl, rfl⟩

set_option maxRecDepth 100000 in
set_option maxHeartbeats 4000000 in
theorem w_seg_Gather {m : gmem_Mem} {l : List Seg} {b_m : Nat} {vm1 : Value} {vm2 : Value} {vsm1 : List Value} {vl1 : Value} {r : ((List UInt8) × Int)} (h : seg_Gather m l = some r) :
  Ctr Try.prog 19 #[.pointer (some ⟨b_m, 0, none⟩), vl1] [(cellsR b_m 71 [vm1, vm2]), (rowsX u8S true vm2 vsm1 m.b none)] [Fact.sl RegionS vm1 m.l, Fact.sl SegS vl1 l]
   (fun rv own shr => ∃ (w1 : Value), rv = .tuple #[w1, vI r.2] ∧ own = [(cellsR b_m 71 [vm1, vm2]), (rowsX u8S true vm2 vsm1 m.b none), (rowS u8S w1 r.1)] ∧ shr = []) := by
 unfold seg_Gather at h
 refine Ctr.mk (args := [.pointer (some ⟨b_m, 0, none⟩), vl1]) Try.func19 rfl rfl (fun R0 w0 B => ?_)
 refine Tk_seq ?_
 refine Tk_region ?_
 refine Tops_step rfl (OpT_assign rfl rfl rfl rfl) ?_
 refine Tops_step rfl (OpT_assign rfl rfl rfl rfl) ?_
 refine Tops_nil ?_
 refine Tk_wkS (fr' := [(0, some (.pointer (some ⟨b_m, 0, none⟩))), (1, some (vl1))]) (own' := [some (cellsR b_m 71 [vm1, vm2]), some (rowsX u8S true vm2 vsm1 m.b none)]) (shr' := [Fact.sl RegionS vm1 m.l, Fact.sl SegS vl1 l]) [0, 1] [0, 1] [0, 1] rfl rfl rfl rfl ?_
 refine Tk_seq ?_
 refine Tk_seq ?_
 refine Tk_region ?_
 refine Tops_step rfl (OpT_move rfl rfl rfl rfl) ?_
 refine Tops_step rfl (OpT_move rfl rfl rfl rfl) ?_
 obtain ⟨in1, hx1, h⟩ := ob_e h
 refine Tops_exP rfl (OpT_callP [2, 3] (w_seg_In hx1) [0, 1] [0, 1] rfl rfl rfl rfl rfl callee15 rfl rfl rfl rfl rfl) ?_
 rintro _ ⟨_, _, _, ⟨rfl, rfl, rfl⟩, rfl⟩
 refine Tops_step rfl (OpT_assign rfl rfl rfl rfl) ?_
 refine Tops_nil ?_
 refine Tk_wkS (fr' := [(0, some (.pointer (some ⟨b_m, 0, none⟩))), (1, some (vl1)), (6, some (vI in1))]) (own' := [some (cellsR b_m 71 [vm1, vm2]), some (rowsX u8S true vm2 vsm1 m.b none)]) (shr' := [Fact.sl RegionS vm1 m.l, Fact.sl SegS vl1 l]) [0, 1, 6] [0, 1] [0, 1] rfl rfl rfl rfl ?_
 refine Tk_seq ?_
 refine Tk_region ?_
 refine Tops_step rfl (OpT_move rfl rfl rfl rfl) ?_
 refine Tops_step rfl (OpT_bin rfl rfl rfl rfl rfl (bin_neq_i (a := in1) (b := (0 : Int)))) ?_
 refine Tops_nil ?_
 refine Tk_wkS (fr' := [(0, some (.pointer (some ⟨b_m, 0, none⟩))), (1, some (vl1)), (6, some (vI in1)), (16, some (vB (in1 != (0 : Int))))]) (own' := [some (cellsR b_m 71 [vm1, vm2]), some (rowsX u8S true vm2 vsm1 m.b none)]) (shr' := [Fact.sl RegionS vm1 m.l, Fact.sl SegS vl1 l]) [0, 1, 6, 16] [0, 1] [0, 1] rfl rfl rfl rfl ?_
 rcases Bool.eq_false_or_eq_true (in1 != (0 : Int)) with hg1 | hg1
 ·replace h := br_t hg1 h
  refine Tk_condT (congrArg (fun b => some (Value.bool b)) hg1) ?_
  refine Tk_seq ?_
  refine Tk_region ?_
  refine Tops_step rfl (OpT_move rfl rfl rfl rfl) ?_
  refine Tops_step rfl (OpT_assign rfl rfl rfl rfl) ?_
  refine Tops_step rfl (OpT_assign rfl rfl rfl rfl) ?_
  refine Tops_nil ?_
  refine Tk_wkS (fr' := [(4, some (.slice none 0 0)), (5, some (vI in1))]) (own' := [some (cellsR b_m 71 [vm1, vm2]), some (rowsX u8S true vm2 vsm1 m.b none)]) (shr' := [Fact.sl RegionS vm1 m.l]) [4, 5] [0, 1] [0] rfl rfl rfl rfl ?_
  refine Tk_nilrow u8S ?_
  obtain rfl := Option.some.inj h
  exact Tk_retV rfl rfl (resA (vs := [.slice none 0 0, vI in1]) rfl ⟨rfl, rfl, trivial⟩) [0, 1, 2] [] rfl rfl rfl ⟨(.slice none 0 0), rfl, rfl, rfl⟩
 ·replace h := br_f hg1 h
  refine Tk_condF (congrArg (fun b => some (Value.bool b)) hg1) ?_
  refine Tk_skip ?_
  refine Tk_seq ?_
  refine Tk_region ?_
  refine Tops_step rfl (OpT_assign rfl rfl rfl rfl) ?_
  refine Tops_nil ?_
  refine Tk_wkS (fr' := [(0, some (.pointer (some ⟨b_m, 0, none⟩))), (1, some (vl1)), (7, some (.slice none 0 0))]) (own' := [some (cellsR b_m 71 [vm1, vm2]), some (rowsX u8S true vm2 vsm1 m.b none)]) (shr' := [Fact.sl RegionS vm1 m.l, Fact.sl SegS vl1 l]) [0, 1, 7] [0, 1] [0, 1] rfl rfl rfl rfl ?_
  refine Tk_seq ?_
  refine Tk_seq ?_
  refine Tk_region ?_
  refine Tops_step rfl (OpT_move rfl rfl rfl rfl) ?_
  obtain ⟨part1, hx2, h⟩ := ob_e h
  refine Tops_exP rfl (OpT_call (w_seg_Part hx2) [] [1] rfl rfl rfl rfl rfl callee13 rfl rfl rfl rfl) ?_
  rintro _ ⟨v1, _, _, ⟨_, rfl, rfl, rfl⟩, rfl⟩
  refine Tops_step rfl (OpT_lenO rfl rfl rfl rfl Try.underlying22 (i := 2) rfl) ?_
  refine Tops_step rfl (OpT_move rfl rfl rfl rfl) ?_
  refine Tops_nil ?_
  refine Tk_wkS (fr' := [(0, some (.pointer (some ⟨b_m, 0, none⟩))), (7, some (.slice none 0 0)), (19, some (v1)), (20, some (vI (len part1))), (21, some (vI (0 : Int)))]) (own' := [some (cellsR b_m 71 [vm1, vm2]), some (rowsX u8S true vm2 vsm1 m.b none), some (rowS SegS v1 part1)]) (shr' := [Fact.sl RegionS vm1 m.l]) [0, 7, 19, 20, 21] [0, 1, 2] [0] rfl rfl rfl rfl ?_
  refine Tk_block ?_
  refine Tk_nilrow (Shape.slice u8S) ?_
  refine Tk_loopS (σ := (List (List UInt8)) × (List Seg) × Int × Value × Value) [0, 7, 19, 20, 21] [0, 1, 3, 2] [0] (fun s => ⟨[(0, some (.pointer (some ⟨b_m, 0, none⟩))), (7, some (s.2.2.2.1)), (19, some (s.2.2.2.2)), (20, some (vI (len part1))), (21, some (vI s.2.2.1))], [some (cellsR b_m 71 [vm1, vm2]), some (rowsX u8S true vm2 vsm1 m.b none), some (rowS (Shape.slice u8S) s.2.2.2.1 s.1), some (rowS SegS s.2.2.2.2 s.2.1)], [Fact.sl RegionS vm1 m.l]⟩) (fun nf1 s => seg_GatherL1 m part1 nf1 s.1 s.2.1 s.2.2.1 = some r) fuel ([], part1, (0 : Int), (.slice none 0 0), v1) h rfl rfl rfl rfl rfl (fun s h => by cases h) ?_
  rintro nf1 ⟨parts1, l1, x1, v2, v3⟩ h
  replace h : seg_GatherL1B m part1 (seg_GatherL1 m part1 nf1) parts1 l1 x1 = some r := h
  unfold seg_GatherL1B at h
  refine Tk_seq ?_
  refine Tk_region ?_
  refine Tops_step rfl (OpT_bin rfl rfl rfl rfl rfl (bin_lss_i (a := x1) (b := len part1))) ?_
  refine Tops_nil ?_
  refine Tk_seq ?_
  rcases Bool.eq_false_or_eq_true (decide (x1 < (len part1))) with hg2 | hg2
  ·replace h := br_t hg2 h
   refine Tk_condT (congrArg (fun b => some (Value.bool b)) hg2) ?_
   refine Tk_skip ?_
   refine Tk_seq ?_
   refine Tk_block ?_
   refine Tk_seq ?_
   refine Tk_region ?_
   obtain ⟨s1, hx3, h⟩ := ob_e h
   refine Tops_step rfl (OpT_idxO rfl rfl rfl rfl rfl slF22 (i := 3) rfl hx3) ?_
   refine Tops_step rfl (OpT_loadOA (S := SegS) (vs := [vU64 s1.At, vU32 s1.Len, vB s1.Write]) rfl rfl rfl rfl rfl tyF47 (i := 3) rfl hx3 rfl) ?_
   refine Tops_ex rfl (OpT_alloc rfl rfl rfl tyZ47) fun b1 => ?_
   refine Tops_step rfl (OpT_storeC (cs' := [vU64 s1.At, vU32 s1.Len, vB s1.Write]) rfl rfl rfl rfl tyF47 (i := 4) rfl rfl rfl (one_of rfl) rfl) ?_
   refine Tops_nil ?_
   refine Tk_wkS (fr' := [(0, some (.pointer (some ⟨b_m, 0, none⟩))), (7, some (v2)), (19, some (v3)), (20, some (vI (len part1))), (21, some (vI x1)), (9, some (.pointer (some ⟨b1, 0, none⟩)))]) (own' := [some (cellsR b_m 71 [vm1, vm2]), some (rowsX u8S true vm2 vsm1 m.b none), some (rowS (Shape.slice u8S) v2 parts1), some (rowS SegS v3 l1), some (cellsR b1 47 [vU64 s1.At, vU32 s1.Len, vB s1.Write])]) (shr' := [Fact.sl RegionS vm1 m.l]) [0, 7, 19, 20, 21, 9] [0, 1, 2, 3, 4] [0] rfl rfl rfl rfl ?_
   refine Tk_seq ?_
   refine Tk_region ?_
   refine Tops_step rfl (OpT_move rfl rfl rfl rfl) ?_
   refine Tops_step rfl (OpT_fieldC rfl rfl rfl rfl fldF47x0) ?_
   refine Tops_step rfl (OpT_loadC rfl rfl rfl rfl tyF23 (i := 4) rfl rfl) ?_
   refine Tops_step rfl (OpT_fieldC rfl rfl rfl rfl fldF47x1) ?_
   refine Tops_step rfl (OpT_loadC rfl rfl rfl rfl tyF45 (i := 4) rfl rfl) ?_
   refine Tops_step rfl (OpT_cnv rfl rfl rfl rfl (cnv_u32_i (n := s1.Len) Try.underlying45 Try.underlying3)) ?_
   obtain ⟨read1, hx4, h⟩ := ob_e h
   refine Tops_exP rfl (OpT_callP [5, 6, 2, 3, 4, 7] (w_gmem_Mem_Read hx4) [0, 1] [0] rfl rfl rfl rfl rfl callee21 rfl rfl rfl rfl rfl) ?_
   rintro _ ⟨_, _, _, ⟨v4, rfl, rfl, rfl⟩, rfl⟩
   refine Tops_step rfl (OpT_move rfl rfl rfl rfl) ?_
   refine Tops_step rfl (OpT_extract rfl rfl rfl rfl rfl) ?_
   refine Tops_step rfl (OpT_extract rfl rfl rfl rfl rfl) ?_
   refine Tops_step rfl (OpT_assign rfl rfl rfl rfl) ?_
   refine Tops_step rfl (OpT_assign rfl rfl rfl rfl) ?_
   refine Tops_nil ?_
   refine Tk_wkS (fr' := [(0, some (.pointer (some ⟨b_m, 0, none⟩))), (7, some (v2)), (19, some (v3)), (20, some (vI (len part1))), (21, some (vI x1)), (10, some (v4)), (11, some (vI read1.2))]) (own' := [some (cellsR b_m 71 [vm1, vm2]), some (rowsX u8S true vm2 vsm1 m.b none), some (rowS (Shape.slice u8S) v2 parts1), some (rowS SegS v3 l1), some (rowS u8S v4 read1.1)]) (shr' := [Fact.sl RegionS vm1 m.l]) [0, 7, 19, 20, 21, 10, 11] [0, 1, 2, 3, 5] [0] rfl rfl rfl rfl ?_
   refine Tk_seq ?_
   refine Tk_seq ?_
   refine Tk_region ?_
   refine Tops_step rfl (OpT_move rfl rfl rfl rfl) ?_
   refine Tops_step rfl (OpT_bin rfl rfl rfl rfl rfl (bin_neq_i (a := read1.2) (b := (0 : Int)))) ?_
   refine Tops_nil ?_
   refine Tk_wkS (fr' := [(0, some (.pointer (some ⟨b_m, 0, none⟩))), (7, some (v2)), (19, some (v3)), (20, some (vI (len part1))), (21, some (vI x1)), (10, some (v4)), (11, some (vI read1.2)), (36, some (vB (read1.2 != (0 : Int))))]) (own' := [some (cellsR b_m 71 [vm1, vm2]), some (rowsX u8S true vm2 vsm1 m.b none), some (rowS (Shape.slice u8S) v2 parts1), some (rowS SegS v3 l1), some (rowS u8S v4 read1.1)]) (shr' := [Fact.sl RegionS vm1 m.l]) [0, 7, 19, 20, 21, 10, 11, 36] [0, 1, 2, 3, 4] [0] rfl rfl rfl rfl ?_
   rcases Bool.eq_false_or_eq_true (read1.2 != (0 : Int)) with hg3 | hg3
   ·replace h := br_t hg3 h
    refine Tk_condT (congrArg (fun b => some (Value.bool b)) hg3) ?_
    refine Tk_seq ?_
    refine Tk_region ?_
    refine Tops_step rfl (OpT_move rfl rfl rfl rfl) ?_
    refine Tops_step rfl (OpT_assign rfl rfl rfl rfl) ?_
    refine Tops_step rfl (OpT_assign rfl rfl rfl rfl) ?_
    refine Tops_nil ?_
    refine Tk_wkS (fr' := [(4, some (.slice none 0 0)), (5, some (vI read1.2))]) (own' := [some (cellsR b_m 71 [vm1, vm2]), some (rowsX u8S true vm2 vsm1 m.b none)]) (shr' := [Fact.sl RegionS vm1 m.l]) [4, 5] [0, 1] [0] rfl rfl rfl rfl ?_
    refine Tk_nilrow u8S ?_
    obtain rfl := Option.some.inj h
    exact Tk_retV rfl rfl (resA (vs := [.slice none 0 0, vI read1.2]) rfl ⟨rfl, rfl, trivial⟩) [0, 1, 2] [] rfl rfl rfl ⟨(.slice none 0 0), rfl, rfl, rfl⟩
   ·replace h := br_f hg3 h
    refine Tk_condF (congrArg (fun b => some (Value.bool b)) hg3) ?_
    refine Tk_skip ?_
    refine Tk_region ?_
    refine Tops_step rfl (OpT_move rfl rfl rfl rfl) ?_
    refine Tops_step rfl (OpT_move rfl rfl rfl rfl) ?_
    refine Tops_retire (i := 4) rfl ?_
    refine Tops_ex rfl (OpT_buildSl (Shape.slice u8S) (vs := [v4]) (xs := [read1.1]) rfl rfl rfl rfl rfl slF69 (isl_cons (is_sl (i := 1) rfl) isl_nil) rfl rfl rfl (rel_cons (rel_sl (i := 1) rfl) (rel_nil rfl))) fun v5 => ?_
    refine Tops_retire (i := 5) rfl ?_
    obtain ⟨hc1, h⟩ := chk_e h
    refine Tops_ex rfl (OpT_append rfl rfl rfl rfl rfl slF69 (i := 2) (j := 2) rfl rfl hc1) fun v6 => ?_
    refine Tops_step rfl (OpT_assign rfl rfl rfl rfl) ?_
    refine Tops_nil ?_
    refine Tk_wkS (fr' := [(0, some (.pointer (some ⟨b_m, 0, none⟩))), (7, some (v6)), (19, some (v3)), (20, some (vI (len part1))), (21, some (vI x1))]) (own' := [some (cellsR b_m 71 [vm1, vm2]), some (rowsX u8S true vm2 vsm1 m.b none), some (rowS (Shape.slice u8S) v6 (parts1 ++ [read1.1])), some (rowS SegS v3 l1)]) (shr' := [Fact.sl RegionS vm1 m.l]) [0, 7, 19, 20, 21] [0, 1, 2, 3] [0] rfl rfl rfl rfl ?_
    refine Tk_blk ?_
    refine Tk_region ?_
    refine Tops_step rfl (OpT_bin rfl rfl rfl rfl rfl (bin_add_i (a := x1) (b := (1 : Int)))) ?_
    refine Tops_step rfl (OpT_move rfl rfl rfl rfl) ?_
    refine Tops_nil ?_
    refine Tk_wkS (fr' := [(0, some (.pointer (some ⟨b_m, 0, none⟩))), (7, some (v6)), (19, some (v3)), (20, some (vI (len part1))), (21, some (vI (wi (x1 + (1 : Int)))))]) (own' := [some (cellsR b_m 71 [vm1, vm2]), some (rowsX u8S true vm2 vsm1 m.b none), some (rowS (Shape.slice u8S) v6 (parts1 ++ [read1.1])), some (rowS SegS v3 l1)]) (shr' := [Fact.sl RegionS vm1 m.l]) [0, 7, 19, 20, 21] [0, 1, 2, 3] [0] rfl rfl rfl rfl ?_
    exact Tk_backS (parts1 ++ [read1.1], l1, wi (x1 + (1 : Int)), v6, v3) h [0, 7, 19, 20, 21] [0, 1, 2, 3] [0] rfl rfl rfl rfl rfl
  ·replace h := br_f hg2 h
   refine Tk_condF (congrArg (fun b => some (Value.bool b)) hg2) ?_
   refine Tk_exit _ rfl ?_
   refine Tk_seq ?_
   refine Tk_region ?_
   refine Tops_step rfl (OpT_move rfl rfl rfl rfl) ?_
   obtain ⟨concat1, hx5, h⟩ := ob_e h
   refine Tops_exP rfl (OpT_callB [2] [0, 1, 2, 3, 4] (w_slices_Concat_bytebyte hx5) [] rfl rfl rfl rfl rfl callee44 rfl rfl rfl rfl rfl rfl (bor_cons (bor_row 2 rfl rfl) bor_nil) (by rintro _ _ _ ⟨_, rfl, rfl, rfl⟩; exact ⟨rfl, (ri_cons (ri_row (S := u8S) rfl _ _) ri_nil)⟩)) ?_
   rintro _ ⟨v7, _, _, ⟨_, rfl, rfl, rfl⟩, rfl⟩
   refine Tops_step rfl (OpT_assign rfl rfl rfl rfl) ?_
   refine Tops_step rfl (OpT_assign rfl rfl rfl rfl) ?_
   refine Tops_nil ?_
   refine Tk_wkS (fr' := [(4, some (v7)), (5, some (vI (0 : Int)))]) (own' := [some (cellsR b_m 71 [vm1, vm2]), some (rowsX u8S true vm2 vsm1 m.b none), some (rowS u8S v7 concat1)]) (shr' := [Fact.sl RegionS vm1 m.l]) [4, 5] [0, 1, 4] [0] rfl rfl rfl rfl ?_
   obtain rfl := Option.some.inj h
   exact Tk_retV rfl rfl (resA (vs := [v7, vI (0 : Int)]) rfl ⟨rfl, rfl, trivial⟩) [0, 1, 2] [] rfl rfl rfl ⟨v7, rfl, rfl, rfl⟩

set_option maxRecDepth 100000 in
set_option maxHeartbeats 4000000 in
theorem w_slices_Clone_apiSegapiSeg {sp0 : List Seg} {vsp01 : Value} {r : (List Seg)} (h : slices_Clone_apiSegapiSeg sp0 = some r) :
  Ctr Try.prog 36 #[vsp01] [] [Fact.sl SegS vsp01 sp0]
   (fun rv own shr => ∃ (w1 : Value), rv = w1 ∧ own = [(rowS SegS w1 r)] ∧ shr = []) := by
 unfold slices_Clone_apiSegapiSeg at h
 refine Ctr.mk (args := [vsp01]) Try.func36 rfl rfl (fun R0 w0 B => ?_)
 refine Tk_seq ?_
 refine Tk_region ?_
 refine Tops_step rfl (OpT_assign rfl rfl rfl rfl) ?_
 refine Tops_nil ?_
 refine Tk_wkS (fr' := [(0, some (vsp01))]) (own' := []) (shr' := [Fact.sl SegS vsp01 sp0]) [0] [] [0] rfl rfl rfl rfl ?_
 refine Tk_seq ?_
 refine Tk_seq ?_
 refine Tk_region ?_
 refine Tops_step rfl (OpT_move rfl rfl rfl rfl) ?_
 refine Tops_exP rfl (OpT_eqNil rfl rfl rfl (.inl rfl) rfl rfl Try.underlying22 (i := 0) rfl) ?_
 rintro _ ⟨q1, hq1, rfl⟩
 refine Tops_nil ?_
 refine Tk_wkS (fr' := [(0, some (vsp01)), (4, some (vB q1))]) (own' := []) (shr' := [Fact.sl SegS vsp01 sp0]) [0, 4] [] [0] rfl rfl rfl rfl ?_
 rcases Bool.eq_false_or_eq_true q1 with hg1 | hg1
 ·obtain rfl := hq1 hg1
  replace h : some ([] : List Seg) = some r := h
  refine Tk_condT (congrArg (fun b => some (Value.bool b)) hg1) ?_
  refine Tk_seq ?_
  refine Tk_region ?_
  refine Tops_step rfl (OpT_assign rfl rfl rfl rfl) ?_
  refine Tops_nil ?_
  refine Tk_wkS (fr' := [(2, some (.slice none 0 0))]) (own' := []) (shr' := []) [2] [] [] rfl rfl rfl rfl ?_
  refine Tk_nilrow SegS ?_
  obtain rfl := Option.some.inj h
  exact Tk_retV rfl rfl (resA (vs := [.slice none 0 0]) rfl ⟨rfl, trivial⟩) [0] [] rfl rfl rfl ⟨(.slice none 0 0), rfl, rfl, rfl⟩
 ·refine Tk_condF (congrArg (fun b => some (Value.bool b)) hg1) ?_
  refine Tk_skip ?_
  refine Tk_seq ?_
  refine Tk_region ?_
  refine Tops_ex rfl (OpT_buildSlice (S := SegS) (xs := ([] : List Seg)) (css := []) (cs := []) (e := 47) rfl rfl rfl rfl (bldF slF22 (by decide) (by kernel_rfl)) rfl rfl rfl rfl (rel_plainD (S := SegS) (xs := ([] : List Seg)) (css := []) rfl rfl)) fun v1 => ?_
  refine Tops_step rfl (OpT_move rfl rfl rfl rfl) ?_
  obtain ⟨hc1, h⟩ := chk_e h
  refine Tops_ex rfl (OpT_append rfl rfl rfl rfl rfl slF22 (i := 0) (j := 0) rfl rfl hc1) fun v2 => ?_
  refine Tops_step rfl (OpT_assign rfl rfl rfl rfl) ?_
  refine Tops_nil ?_
  refine Tk_wkS (fr' := [(2, some (v2))]) (own' := [some (rowS SegS v2 sp0)]) (shr' := []) [2] [0] [] rfl rfl rfl rfl ?_
  obtain rfl := Option.some.inj h
  exact Tk_retV rfl rfl (resA (vs := [v2]) rfl ⟨rfl, trivial⟩) [0] [] rfl rfl rfl ⟨v2, rfl, rfl, rfl⟩

set_option maxRecDepth 100000 in
set_option maxHeartbeats 4000000 in
theorem w_seg_Cut {l : List Seg} {fromp1 : UInt64} {np2 : UInt64} {vl1 : Value} {r : (List Seg)} (h : seg_Cut l fromp1 np2 = some r) :
  Ctr Try.prog 11 #[vl1, vU64 fromp1, vU64 np2] [] [Fact.sl SegS vl1 l]
   (fun rv own shr => ∃ (w1 : Value), rv = w1 ∧ own = [(rowS SegS w1 r)] ∧ shr = []) := by
 unfold seg_Cut at h
 refine Ctr.mk (args := [vl1, vU64 fromp1, vU64 np2]) Try.func11 rfl rfl (fun R0 w0 B => ?_)
 refine Tk_seq ?_
 refine Tk_region ?_
 refine Tops_step rfl (OpT_assign rfl rfl rfl rfl) ?_
 refine Tops_nil ?_
 refine Tk_wkS (fr' := [(0, some (vl1)), (1, some (vU64 fromp1)), (2, some (vU64 np2))]) (own' := []) (shr' := [Fact.sl SegS vl1 l]) [0, 1, 2] [] [0] rfl rfl rfl rfl ?_
 refine Tk_seq ?_
 refine Tk_seq ?_
 refine Tk_region ?_
 refine Tops_step rfl (OpT_move rfl rfl rfl rfl) ?_
 obtain ⟨check1, hx1, h⟩ := ob_e h
 refine Tops_exP rfl (OpT_call (w_seg_Check hx1) [] [0] rfl rfl rfl rfl rfl callee9 rfl rfl rfl rfl) ?_
 rintro _ ⟨_, _, _, ⟨rfl, rfl, rfl⟩, rfl⟩
 refine Tops_step rfl (OpT_bin rfl rfl rfl rfl rfl (bin_neq_i (a := check1) (b := (0 : Int)))) ?_
 refine Tops_nil ?_
 refine Tk_wkS (fr' := [(0, some (vl1)), (1, some (vU64 fromp1)), (2, some (vU64 np2)), (10, some (vB (check1 != (0 : Int))))]) (own' := []) (shr' := [Fact.sl SegS vl1 l]) [0, 1, 2, 10] [] [0] rfl rfl rfl rfl ?_
 rcases Bool.eq_false_or_eq_true (check1 != (0 : Int)) with hg1 | hg1
 ·replace h := br_t hg1 h
  refine Tk_condT (congrArg (fun b => some (Value.bool b)) hg1) ?_
  refine Tk_seq ?_
  refine Tk_region ?_
  refine Tops_step rfl (OpT_assign rfl rfl rfl rfl) ?_
  refine Tops_nil ?_
  refine Tk_wkS (fr' := [(6, some (.slice none 0 0))]) (own' := []) (shr' := []) [6] [] [] rfl rfl rfl rfl ?_
  refine Tk_nilrow SegS ?_
  obtain rfl := Option.some.inj h
  exact Tk_retV rfl rfl (resA (vs := [.slice none 0 0]) rfl ⟨rfl, trivial⟩) [0] [] rfl rfl rfl ⟨(.slice none 0 0), rfl, rfl, rfl⟩
 ·replace h := br_f hg1 h
  refine Tk_condF (congrArg (fun b => some (Value.bool b)) hg1) ?_
  refine Tk_skip ?_
  refine Tk_seq ?_
  refine Tk_region ?_
  refine Tops_step rfl (OpT_move rfl rfl rfl rfl) ?_
  obtain ⟨seg1, hx2, h⟩ := ob_e h
  refine Tops_exP rfl (OpT_call (w_slices_Clone_apiSegapiSeg hx2) [] [0] rfl rfl rfl rfl rfl callee36 rfl rfl rfl rfl) ?_
  rintro _ ⟨v1, _, _, ⟨_, rfl, rfl, rfl⟩, rfl⟩
  refine Tops_ex rfl (OpT_alloc rfl rfl rfl tyZ66) fun b1 => ?_
  refine Tops_step rfl (OpT_storeV (cs' := [v1]) rfl rfl rfl rfl tyF66 (i := 1) rfl (is_row (i := 0) rfl) rfl rfl) ?_
  refine Tops_nil ?_
  refine Tk_wkS (fr' := [(1, some (vU64 fromp1)), (2, some (vU64 np2)), (7, some (.pointer (some ⟨b1, 0, none⟩)))]) (own' := [some (rowS SegS v1 seg1), some (cellsR b1 66 [v1])]) (shr' := []) [1, 2, 7] [0, 1] [] rfl rfl rfl rfl ?_
  refine Tk_seq ?_
  refine Tk_region ?_
  refine Tops_step rfl (OpT_move rfl rfl rfl rfl) ?_
  refine Tops_retire (i := 0) rfl ?_
  obtain ⟨eat1, hx3, h⟩ := ob_e h
  refine Tops_exP rfl (OpT_callP [0, 2, 3] (w_seg_row_eat hx3) [1] [0] rfl rfl rfl rfl rfl callee37 rfl rfl rfl rfl rfl) ?_
  rintro _ ⟨v2, _, _, ⟨_, v3, rfl, rfl, rfl⟩, rfl⟩
  refine Tops_nil ?_
  refine Tk_wkS (fr' := [(2, some (vU64 np2)), (7, some (.pointer (some ⟨b1, 0, none⟩)))]) (own' := [some (cellsR b1 66 [v3])]) (shr' := [Fact.sl SegS v3 eat1.2]) [2, 7] [1] [1] rfl rfl rfl rfl ?_
  refine Tk_seq ?_
  refine Tk_region ?_
  refine Tops_step rfl (OpT_move rfl rfl rfl rfl) ?_
  obtain ⟨eat2, hx4, h⟩ := ob_e h
  refine Tops_exP rfl (OpT_callP [1, 2] (w_seg_row_eat hx4) [0] [0] rfl rfl rfl rfl rfl callee37 rfl rfl rfl rfl rfl) ?_
  rintro _ ⟨v4, _, _, ⟨_, v5, rfl, rfl, rfl⟩, rfl⟩
  refine Tops_step rfl (OpT_assign rfl rfl rfl rfl) ?_
  refine Tops_nil ?_
  refine Tk_wkS (fr' := [(6, some (v4))]) (own' := [some (rowS SegS v4 eat2.1)]) (shr' := []) [6] [1] [] rfl rfl rfl rfl ?_
  obtain rfl := Option.some.inj h
  exact Tk_retV rfl rfl (resA (vs := [v4]) rfl ⟨rfl, trivial⟩) [0] [] rfl rfl rfl ⟨v4, rfl, rfl, rfl⟩

set_option maxRecDepth 100000 in
set_option maxHeartbeats 4000000 in
theorem w_kit_SameSegs {ap0 : List Seg} {b : List Seg} {vap01 : Value} {vb1 : Value} {r : Bool} (h : kit_SameSegs ap0 b = some r) :
  Ctr Try.prog 28 #[vap01, vb1] [] [Fact.sl SegS vap01 ap0, Fact.sl SegS vb1 b]
   (fun rv own shr => rv = vB r ∧ own = [] ∧ shr = []) := by
 unfold kit_SameSegs at h
 refine Ctr.mk (args := [vap01, vb1]) Try.func28 rfl rfl (fun R0 w0 B => ?_)
 refine Tk_seq ?_
 refine Tk_region ?_
 refine Tops_step rfl (OpT_assign rfl rfl rfl rfl) ?_
 refine Tops_nil ?_
 refine Tk_wkS (fr' := [(0, some (vap01)), (1, some (vb1))]) (own' := []) (shr' := [Fact.sl SegS vap01 ap0, Fact.sl SegS vb1 b]) [0, 1] [] [0, 1] rfl rfl rfl rfl ?_
 refine Tk_seq ?_
 refine Tk_seq ?_
 refine Tk_region ?_
 refine Tops_step rfl (OpT_move rfl rfl rfl rfl) ?_
 refine Tops_step rfl (OpT_lenS rfl rfl rfl rfl Try.underlying22 (i := 0) rfl) ?_
 refine Tops_step rfl (OpT_move rfl rfl rfl rfl) ?_
 refine Tops_step rfl (OpT_lenS rfl rfl rfl rfl Try.underlying22 (i := 1) rfl) ?_
 refine Tops_step rfl (OpT_bin rfl rfl rfl rfl rfl (bin_neq_i (a := len ap0) (b := len b))) ?_
 refine Tops_nil ?_
 refine Tk_wkS (fr' := [(0, some (vap01)), (1, some (vb1)), (10, some (vB ((len ap0) != (len b))))]) (own' := []) (shr' := [Fact.sl SegS vap01 ap0, Fact.sl SegS vb1 b]) [0, 1, 10] [] [0, 1] rfl rfl rfl rfl ?_
 rcases Bool.eq_false_or_eq_true ((len ap0) != (len b)) with hg1 | hg1
 ·replace h := br_t hg1 h
  refine Tk_condT (congrArg (fun b => some (Value.bool b)) hg1) ?_
  refine Tk_seq ?_
  refine Tk_region ?_
  refine Tops_step rfl (OpT_assign rfl rfl rfl rfl) ?_
  refine Tops_nil ?_
  refine Tk_wkS (fr' := [(4, some (vB false))]) (own' := []) (shr' := []) [4] [] [] rfl rfl rfl rfl ?_
  obtain rfl := Option.some.inj h
  exact Tk_retV rfl rfl (resA (vs := [vB false]) rfl ⟨rfl, trivial⟩) [] [] rfl rfl rfl ⟨rfl, rfl, rfl⟩
 ·replace h := br_f hg1 h
  refine Tk_condF (congrArg (fun b => some (Value.bool b)) hg1) ?_
  refine Tk_skip ?_
  refine Tk_seq ?_
  refine Tk_seq ?_
  refine Tk_region ?_
  refine Tops_step rfl (OpT_assign rfl rfl rfl rfl) ?_
  refine Tops_nil ?_
  refine Tk_wkS (fr' := [(0, some (vap01)), (1, some (vb1)), (5, some (vI (0 : Int)))]) (own' := []) (shr' := [Fact.sl SegS vap01 ap0, Fact.sl SegS vb1 b]) [0, 1, 5] [] [0, 1] rfl rfl rfl rfl ?_
  refine Tk_block ?_
  refine Tk_loopS (σ := Int) [0, 1, 5] [] [0, 1] (fun s => ⟨[(0, some (vap01)), (1, some (vb1)), (5, some (vI s))], [], [Fact.sl SegS vap01 ap0, Fact.sl SegS vb1 b]⟩) (fun nf1 s => kit_SameSegsL1 ap0 b nf1 s = some r) fuel (0 : Int) h rfl rfl rfl rfl rfl (fun s h => by cases h) ?_
  rintro nf1 i1 h
  replace h : kit_SameSegsL1B ap0 b (kit_SameSegsL1 ap0 b nf1) i1 = some r := h
  unfold kit_SameSegsL1B at h
  refine Tk_seq ?_
  refine Tk_seq ?_
  refine Tk_region ?_
  refine Tops_step rfl (OpT_move rfl rfl rfl rfl) ?_
  refine Tops_step rfl (OpT_move rfl rfl rfl rfl) ?_
  refine Tops_step rfl (OpT_lenS rfl rfl rfl rfl Try.underlying22 (i := 0) rfl) ?_
  refine Tops_step rfl (OpT_bin rfl rfl rfl rfl rfl (bin_lss_i (a := i1) (b := len ap0))) ?_
  refine Tops_nil ?_
  refine Tk_wkS (fr' := [(0, some (vap01)), (1, some (vb1)), (5, some (vI i1)), (14, some (vB (decide (i1 < (len ap0)))))]) (own' := []) (shr' := [Fact.sl SegS vap01 ap0, Fact.sl SegS vb1 b]) [0, 1, 5, 14] [] [0, 1] rfl rfl rfl rfl ?_
  rcases Bool.eq_false_or_eq_true (decide (i1 < (len ap0))) with hg2 | hg2
  ·replace h := br_t hg2 h
   refine Tk_condT (congrArg (fun b => some (Value.bool b)) hg2) ?_
   refine Tk_skip ?_
   refine Tk_seq ?_
   refine Tk_block ?_
   refine Tk_seq ?_
   refine Tk_drawT (by kernel_rfl) ?_
   refine TA_tb [0, 0, 3, 7, 0, 0, 48, 112, 255] (by kernel_rfl) fun htb => ?_
   refine TA_wkS (fr' := [(0, some (vap01)), (1, some (vb1)), (5, some (vI i1))]) (own' := []) (shr' := [Fact.sl SegS vap01 ap0, Fact.sl SegS vb1 b]) [0, 1, 5] [] [0, 1] rfl rfl rfl rfl ?_
   obtain ⟨s1, hx1, h⟩ := ob_e h
   obtain ⟨s2, hx2, h⟩ := ob_e h
   refine TA_seg (lo := 0) (hi := 8) htb rfl rfl (by kernel_rfl) (fun c L a w => ∃ (p1 : Value), ∃ (p2 : Value), Sat c ⟨[(0, some (vap01)), (1, some (vb1)), (5, some (vI i1)), (17, bif L 0 then some (vap01) else none), (18, bif L 1 then some (vI i1) else none), (19, bif L 2 then some (p1) else none), (20, bif L 3 then some (.agg #[vU64 s1.At, vU32 s1.Len, vB s1.Write]) else none), (21, bif L 4 then some (vb1) else none), (22, bif L 5 then some (vI i1) else none), (23, bif L 6 then some (p2) else none), (24, bif L 7 then some (.agg #[vU64 s2.At, vU32 s2.Len, vB s2.Write]) else none)], [], [Fact.sl SegS vap01 ap0, Fact.sl SegS vb1 b, (bif L 2 then Fact.pt SegS p1 s1 else Fact.tt), (bif L 6 then Fact.pt SegS p2 s2 else Fact.tt)]⟩ a w) [([], [2, 3]), ([], [2, 3]), ([0, 1], [3]), ([0, 1, 2], []), ([], [6, 7]), ([], [6, 7]), ([4, 5], [7]), ([4, 5, 6], [])] rfl (by kernel_rfl) ?_ (steps_cons ?_ (steps_cons ?_ (steps_cons ?_ (steps_cons ?_ (steps_cons ?_ (steps_cons ?_ (steps_cons ?_ (steps_cons ?_ (steps_nil))))))))) ?_
   ·intro a w hs
    exact ⟨undef, undef, hs.startF [17, 18, 19, 20, 21, 22, 23, 24] [] [0, 1, 2, 3] rfl rfl rfl rfl⟩
   ·intro L a w hv K Q hK
    obtain ⟨p1, p2, hs⟩ := hv
    refine wpOp_go rfl rfl hs (OpT_move rfl rfl rfl rfl) ?_
    rintro _ rfl a' w' hs'
    exact hK a' w' ⟨p1, p2, hs'.putF (i := 3) rfl [] [0, 1, 2, 3] rfl rfl rfl rfl⟩
   ·intro L a w hv K Q hK
    obtain ⟨p1, p2, hs⟩ := hv
    refine wpOp_go rfl rfl hs (OpT_move rfl rfl rfl rfl) ?_
    rintro _ rfl a' w' hs'
    exact hK a' w' ⟨p1, p2, hs'.putF (i := 4) rfl [] [0, 1, 2, 3] rfl rfl rfl rfl⟩
   ·intro L a w hv K Q hK
    obtain ⟨p1, p2, hs⟩ := hv
    refine wpOp_go rfl rfl hs (OpT_idxS rfl rfl rfl rfl rfl slF22 (i := 0) rfl hx1) ?_
    rintro _ ⟨p1', rfl⟩ a' w' hs'
    exact hK a' w' ⟨p1', p2, hs'.putF (i := 5) rfl [] [0, 1, 4, 3] rfl rfl rfl rfl⟩
   ·intro L a w hv K Q hK
    obtain ⟨p1, p2, hs⟩ := hv
    refine wpOp_go rfl rfl hs (OpT_loadPA (vs := [vU64 s1.At, vU32 s1.Len, vB s1.Write]) rfl rfl rfl rfl tyF47 (i := 2) rfl rfl) ?_
    rintro _ rfl a' w' hs'
    exact hK a' w' ⟨p1, p2, hs'.putF (i := 6) rfl [] [0, 1, 2, 3] rfl rfl rfl rfl⟩
   ·intro L a w hv K Q hK
    obtain ⟨p1, p2, hs⟩ := hv
    refine wpOp_go rfl rfl hs (OpT_move rfl rfl rfl rfl) ?_
    rintro _ rfl a' w' hs'
    exact hK a' w' ⟨p1, p2, hs'.putF (i := 7) rfl [] [0, 1, 2, 3] rfl rfl rfl rfl⟩
   ·intro L a w hv K Q hK
    obtain ⟨p1, p2, hs⟩ := hv
    refine wpOp_go rfl rfl hs (OpT_move rfl rfl rfl rfl) ?_
    rintro _ rfl a' w' hs'
    exact hK a' w' ⟨p1, p2, hs'.putF (i := 8) rfl [] [0, 1, 2, 3] rfl rfl rfl rfl⟩
   ·intro L a w hv K Q hK
    obtain ⟨p1, p2, hs⟩ := hv
    refine wpOp_go rfl rfl hs (OpT_idxS rfl rfl rfl rfl rfl slF22 (i := 1) rfl hx2) ?_
    rintro _ ⟨p2', rfl⟩ a' w' hs'
    exact hK a' w' ⟨p1, p2', hs'.putF (i := 9) rfl [] [0, 1, 2, 4] rfl rfl rfl rfl⟩
   ·intro L a w hv K Q hK
    obtain ⟨p1, p2, hs⟩ := hv
    refine wpOp_go rfl rfl hs (OpT_loadPA (vs := [vU64 s2.At, vU32 s2.Len, vB s2.Write]) rfl rfl rfl rfl tyF47 (i := 3) rfl rfl) ?_
    rintro _ rfl a' w' hs'
    exact hK a' w' ⟨p1, p2, hs'.putF (i := 10) rfl [] [0, 1, 2, 3] rfl rfl rfl rfl⟩
   ·intro L a w hL hv
    rw [allTrue hL] at hv
    obtain ⟨p1, p2, hs⟩ := hv
    refine (show TA _ _ _ 8 ⟨[(0, some (vap01)), (1, some (vb1)), (5, some (vI i1)), (20, some (.agg #[vU64 s1.At, vU32 s1.Len, vB s1.Write])), (24, some (.agg #[vU64 s2.At, vU32 s2.Len, vB s2.Write]))], [], [Fact.sl SegS vap01 ap0, Fact.sl SegS vb1 b]⟩ from ?_) a w (hs.wkS [0, 1, 5, 20, 24] [] [0, 1] rfl rfl rfl rfl)
    clear hs hL
    refine TA_step htb (by kernel_rfl) rfl rfl (OpT_bin rfl rfl rfl rfl rfl (eqT47_neq s1 s2)) ?_
    refine TA_end rfl ?_
    refine Tk_wkS (fr' := [(0, some (vap01)), (1, some (vb1)), (5, some (vI i1)), (25, some (vB (s1 != s2)))]) (own' := []) (shr' := [Fact.sl SegS vap01 ap0, Fact.sl SegS vb1 b]) [0, 1, 5, 25] [] [0, 1] rfl rfl rfl rfl ?_
    rcases Bool.eq_false_or_eq_true (s1 != s2) with hg3 | hg3
    ·replace h := br_t hg3 h
     refine Tk_condT (congrArg (fun b => some (Value.bool b)) hg3) ?_
     refine Tk_seq ?_
     refine Tk_region ?_
     refine Tops_step rfl (OpT_assign rfl rfl rfl rfl) ?_
     refine Tops_nil ?_
     refine Tk_wkS (fr' := [(4, some (vB false))]) (own' := []) (shr' := []) [4] [] [] rfl rfl rfl rfl ?_
     obtain rfl := Option.some.inj h
     exact Tk_retV rfl rfl (resA (vs := [vB false]) rfl ⟨rfl, trivial⟩) [] [] rfl rfl rfl ⟨rfl, rfl, rfl⟩
    ·replace h := br_f hg3 h
     refine Tk_condF (congrArg (fun b => some (Value.bool b)) hg3) ?_
     refine Tk_skip ?_
     refine Tk_blk ?_
     refine Tk_region ?_
     refine Tops_step rfl (OpT_move rfl rfl rfl rfl) ?_
     refine Tops_step rfl (OpT_bin rfl rfl rfl rfl rfl (bin_add_i (a := i1) (b := (1 : Int)))) ?_
     refine Tops_step rfl (OpT_assign rfl rfl rfl rfl) ?_
     refine Tops_nil ?_
     refine Tk_wkS (fr' := [(0, some (vap01)), (1, some (vb1)), (5, some (vI (wi (i1 + (1 : Int)))))]) (own' := []) (shr' := [Fact.sl SegS vap01 ap0, Fact.sl SegS vb1 b]) [0, 1, 5] [] [0, 1] rfl rfl rfl rfl ?_
     exact Tk_backS (wi (i1 + (1 : Int))) h [0, 1, 5] [] [0, 1] rfl rfl rfl rfl rfl
  ·replace h := br_f hg2 h
   refine Tk_condF (congrArg (fun b => some (Value.bool b)) hg2) ?_
   refine Tk_exit _ rfl ?_
   refine Tk_seq ?_
   refine Tk_region ?_
   refine Tops_step rfl (OpT_assign rfl rfl rfl rfl) ?_
   refine Tops_nil ?_
   refine Tk_wkS (fr' := [(4, some (vB true))]) (own' := []) (shr' := []) [4] [] [] rfl rfl rfl rfl ?_
   obtain rfl := Option.some.inj h
   exact Tk_retV rfl rfl (resA (vs := [vB true]) rfl ⟨rfl, trivial⟩) [] [] rfl rfl rfl ⟨rfl, rfl, rfl⟩

set_option maxRecDepth 100000 in
set_option maxHeartbeats 4000000 in
theorem w_law05zlives  {r : Bool} (h : law05zlives = some r) :
  Ctr Try.prog 8 #[] [] []
   (fun rv own shr => rv = vB r ∧ own = [] ∧ shr = []) := by
 unfold law05zlives at h
 refine Ctr.mk (args := []) Try.func8 rfl rfl (fun R0 w0 B => ?_)
 refine Tk_seq ?_
 refine Tk_region ?_
 refine Tops_step rfl (OpT_assign rfl rfl rfl rfl) ?_
 refine Tops_nil ?_
 refine Tk_wkS (fr' := []) (own' := []) (shr' := []) [] [] [] rfl rfl rfl rfl ?_
 refine Tk_seq ?_
 refine Tk_region ?_
 refine Tops_step rfl (OpT_build (v := .agg #[vU64 (10 : UInt64), vU32 (4 : UInt32), vB false]) rfl rfl rfl rfl (bldV (by kernel_rfl))) ?_
 refine Tops_step rfl (OpT_build (v := .agg #[vU64 (50 : UInt64), vU32 (6 : UInt32), vB false]) rfl rfl rfl rfl (bldV (by kernel_rfl))) ?_
 refine Tops_ex rfl (OpT_buildSlice (S := SegS) (xs := [(Seg.mk (10 : UInt64) (4 : UInt32) false), (Seg.mk (50 : UInt64) (6 : UInt32) false)]) (css := [[vU64 (10 : UInt64), vU32 (4 : UInt32), vB false], [vU64 (50 : UInt64), vU32 (6 : UInt32), vB false]]) (cs := [vU64 (10 : UInt64), vU32 (4 : UInt32), vB false, vU64 (50 : UInt64), vU32 (6 : UInt32), vB false]) (e := 47) rfl rfl rfl rfl (bldF slF22 (by decide) (by kernel_rfl)) rfl rfl rfl rfl (rel_plainD (S := SegS) (xs := [(Seg.mk (10 : UInt64) (4 : UInt32) false), (Seg.mk (50 : UInt64) (6 : UInt32) false)]) (css := [[vU64 (10 : UInt64), vU32 (4 : UInt32), vB false], [vU64 (50 : UInt64), vU32 (6 : UInt32), vB false]]) rfl rfl)) fun v1 => ?_
 obtain ⟨cut1, hx1, h⟩ := ob_e h
 refine Tops_exP rfl (OpT_callB [0] [0, 1] (w_seg_Cut hx1) [] rfl rfl rfl rfl rfl callee11 rfl rfl rfl rfl rfl rfl (bor_cons (bor_row 0 rfl rfl) bor_nil) (by rintro _ _ _ ⟨_, rfl, rfl, rfl⟩; exact ⟨rfl, (ri_cons (ri_row (S := SegS) rfl _ _) ri_nil)⟩)) ?_
 rintro _ ⟨v2, _, _, ⟨_, rfl, rfl, rfl⟩, rfl⟩
 refine Tops_step rfl (OpT_assign rfl rfl rfl rfl) ?_
 refine Tops_nil ?_
 refine Tk_wkS (fr' := [(1, some (v2))]) (own' := [some (rowS SegS v2 cut1)]) (shr' := []) [1] [1] [] rfl rfl rfl rfl ?_
 refine Tk_seq ?_
 refine Tk_region ?_
 refine Tops_step rfl (OpT_move rfl rfl rfl rfl) ?_
 refine Tops_step rfl (OpT_build (v := .agg #[vU64 (12 : UInt64), vU32 (2 : UInt32), vB false]) rfl rfl rfl rfl (bldV (by kernel_rfl))) ?_
 refine Tops_step rfl (OpT_build (v := .agg #[vU64 (50 : UInt64), vU32 (3 : UInt32), vB false]) rfl rfl rfl rfl (bldV (by kernel_rfl))) ?_
 refine Tops_ex rfl (OpT_buildSlice (S := SegS) (xs := [(Seg.mk (12 : UInt64) (2 : UInt32) false), (Seg.mk (50 : UInt64) (3 : UInt32) false)]) (css := [[vU64 (12 : UInt64), vU32 (2 : UInt32), vB false], [vU64 (50 : UInt64), vU32 (3 : UInt32), vB false]]) (cs := [vU64 (12 : UInt64), vU32 (2 : UInt32), vB false, vU64 (50 : UInt64), vU32 (3 : UInt32), vB false]) (e := 47) rfl rfl rfl rfl (bldF slF22 (by decide) (by kernel_rfl)) rfl rfl rfl rfl (rel_plainD (S := SegS) (xs := [(Seg.mk (12 : UInt64) (2 : UInt32) false), (Seg.mk (50 : UInt64) (3 : UInt32) false)]) (css := [[vU64 (12 : UInt64), vU32 (2 : UInt32), vB false], [vU64 (50 : UInt64), vU32 (3 : UInt32), vB false]]) rfl rfl)) fun v3 => ?_
 obtain ⟨samese1, hx2, h⟩ := ob_e h
 refine Tops_exP rfl (OpT_callB [0, 1] [0, 1] (w_kit_SameSegs hx2) [] rfl rfl rfl rfl rfl callee28 rfl rfl rfl rfl rfl rfl (bor_cons (bor_row 0 rfl rfl) (bor_cons (bor_row 1 rfl rfl) bor_nil)) (by rintro _ _ _ ⟨rfl, rfl, rfl⟩; exact ⟨rfl, ri_nil⟩)) ?_
 rintro _ ⟨_, _, _, ⟨rfl, rfl, rfl⟩, rfl⟩
 refine Tops_step rfl (OpT_move rfl rfl rfl rfl) ?_
 rcases Bool.eq_false_or_eq_true (samese1) with hg1 | hg1
 ·replace h := br_t hg1 h
  refine Tops_yes rfl rfl (congrArg (fun b => some (Value.bool b)) hg1) (OpT_build (v := .agg #[vU64 (1 : UInt64), vU32 (1 : UInt32), vB true]) rfl rfl rfl rfl (bldV (by kernel_rfl))) ?_
  rintro _ rfl
  refine Tops_yes rfl rfl (congrArg (fun b => some (Value.bool b)) hg1) (OpT_build (v := .agg #[vU64 (5 : UInt64), vU32 (1 : UInt32), vB false]) rfl rfl rfl rfl (bldV (by kernel_rfl))) ?_
  rintro _ rfl
  refine Tops_yes rfl rfl (congrArg (fun b => some (Value.bool b)) hg1) (OpT_buildSlice (S := SegS) (xs := [(Seg.mk (1 : UInt64) (1 : UInt32) true), (Seg.mk (5 : UInt64) (1 : UInt32) false)]) (css := [[vU64 (1 : UInt64), vU32 (1 : UInt32), vB true], [vU64 (5 : UInt64), vU32 (1 : UInt32), vB false]]) (cs := [vU64 (1 : UInt64), vU32 (1 : UInt32), vB true, vU64 (5 : UInt64), vU32 (1 : UInt32), vB false]) (e := 47) rfl rfl rfl rfl (bldF slF22 (by decide) (by kernel_rfl)) rfl rfl rfl rfl (rel_plainD (S := SegS) (xs := [(Seg.mk (1 : UInt64) (1 : UInt32) true), (Seg.mk (5 : UInt64) (1 : UInt32) false)]) (css := [[vU64 (1 : UInt64), vU32 (1 : UInt32), vB true], [vU64 (5 : UInt64), vU32 (1 : UInt32), vB false]]) rfl rfl)) ?_
  rintro _ ⟨v4, rfl⟩
  obtain ⟨check1, hx3, h⟩ := ob_e h
  refine Tops_yes rfl rfl (congrArg (fun b => some (Value.bool b)) hg1) (OpT_callB [2] [0, 1, 2] (w_seg_Check hx3) [] rfl rfl rfl rfl rfl callee9 rfl rfl rfl rfl rfl rfl (bor_cons (bor_row 2 rfl rfl) bor_nil) (by rintro _ _ _ ⟨rfl, rfl, rfl⟩; exact ⟨rfl, ri_nil⟩)) ?_
  rintro _ ⟨_, _, _, ⟨rfl, rfl, rfl⟩, rfl⟩
  refine Tops_yes rfl rfl (congrArg (fun b => some (Value.bool b)) hg1) (OpT_bin rfl rfl rfl rfl rfl (bin_eql_i (a := check1) (b := (2 : Int)))) ?_
  rintro _ rfl
  refine Tops_step rfl (OpT_pickT rfl rfl rfl (congrArg (fun b => some (Value.bool b)) hg1) rfl) ?_
  refine Tops_step rfl (OpT_assign rfl rfl rfl rfl) ?_
  refine Tops_nil ?_
  refine Tk_wkS (fr' := [(0, some (vB (check1 == (2 : Int))))]) (own' := []) (shr' := []) [0] [] [] rfl rfl rfl rfl ?_
  obtain rfl := Option.some.inj h
  exact Tk_retV rfl rfl (resA (vs := [vB (check1 == (2 : Int))]) rfl ⟨rfl, trivial⟩) [] [] rfl rfl rfl ⟨rfl, rfl, rfl⟩
 ·replace h := br_f hg1 h
  refine Tops_no rfl rfl (congrArg (fun b => some (Value.bool b)) hg1) rfl rfl ?_
  refine Tops_no rfl rfl (congrArg (fun b => some (Value.bool b)) hg1) rfl rfl ?_
  refine Tops_no rfl rfl (congrArg (fun b => some (Value.bool b)) hg1) rfl rfl ?_
  refine Tops_no rfl rfl (congrArg (fun b => some (Value.bool b)) hg1) rfl rfl ?_
  refine Tops_no rfl rfl (congrArg (fun b => some (Value.bool b)) hg1) rfl rfl ?_
  refine Tops_step rfl (OpT_pickF rfl rfl rfl (congrArg (fun b => some (Value.bool b)) hg1) rfl) ?_
  refine Tops_step rfl (OpT_assign rfl rfl rfl rfl) ?_
  refine Tops_nil ?_
  refine Tk_wkS (fr' := [(0, some (vB false))]) (own' := []) (shr' := []) [0] [] [] rfl rfl rfl rfl ?_
  obtain rfl := Option.some.inj h
  exact Tk_retV rfl rfl (resA (vs := [vB false]) rfl ⟨rfl, trivial⟩) [] [] rfl rfl rfl ⟨rfl, rfl, rfl⟩

set_option maxRecDepth 100000 in
set_option maxHeartbeats 4000000 in
theorem w_gmem_Mem_Image {m : gmem_Mem} {b_m : Nat} {vm1 : Value} {vm2 : Value} {vsm1 : List Value} {r : (List UInt8)} (h : gmem_Mem_Image m = some r) :
  Ctr Try.prog 20 #[.pointer (some ⟨b_m, 0, none⟩)] [(cellsR b_m 71 [vm1, vm2]), (rowsX u8S true vm2 vsm1 m.b none)] [Fact.sl RegionS vm1 m.l]
   (fun rv own shr => ∃ (w1 : Value), rv = w1 ∧ own = [(cellsR b_m 71 [vm1, vm2]), (rowsX u8S true vm2 vsm1 m.b none), (rowS u8S w1 r)] ∧ shr = []) := by
 unfold gmem_Mem_Image at h
 refine Ctr.mk (args := [.pointer (some ⟨b_m, 0, none⟩)]) Try.func20 rfl rfl (fun R0 w0 B => ?_)
 refine Tk_seq ?_
 refine Tk_region ?_
 refine Tops_step rfl (OpT_assign rfl rfl rfl rfl) ?_
 refine Tops_nil ?_
 refine Tk_wkS (fr' := [(0, some (.pointer (some ⟨b_m, 0, none⟩)))]) (own' := [some (cellsR b_m 71 [vm1, vm2]), some (rowsX u8S true vm2 vsm1 m.b none)]) (shr' := [Fact.sl RegionS vm1 m.l]) [0] [0, 1] [0] rfl rfl rfl rfl ?_
 refine Tk_seq ?_
 refine Tk_seq ?_
 refine Tk_region ?_
 refine Tops_step rfl (OpT_move rfl rfl rfl rfl) ?_
 obtain ⟨made1, hx1, h⟩ := ob_e h
 refine Tops_exP rfl (OpT_callP [2, 3] (w_gmem_Mem_made hx1) [0, 1] [0] rfl rfl rfl rfl rfl callee42 rfl rfl rfl rfl rfl) ?_
 rintro _ ⟨_, _, _, ⟨rfl, rfl, rfl⟩, rfl⟩
 refine Tops_step rfl (OpT_not rfl rfl rfl rfl) ?_
 refine Tops_nil ?_
 refine Tk_wkS (fr' := [(0, some (.pointer (some ⟨b_m, 0, none⟩))), (5, some (vB (!made1)))]) (own' := [some (cellsR b_m 71 [vm1, vm2]), some (rowsX u8S true vm2 vsm1 m.b none)]) (shr' := [Fact.sl RegionS vm1 m.l]) [0, 5] [0, 1] [0] rfl rfl rfl rfl ?_
 refine Tk_condF (congrArg (fun b => some (Value.bool b)) (congrArg (!·) (Option.some.inj (show some true = some made1 from hx1)).symm)) ?_
 refine Tk_skip ?_
 refine Tk_seq ?_
 refine Tk_region ?_
 refine Tops_step rfl (OpT_move rfl rfl rfl rfl) ?_
 refine Tops_step rfl (OpT_nilCheckP rfl rfl rfl rfl) ?_
 refine Tops_step rfl (OpT_fieldC rfl rfl rfl rfl fldF71x1) ?_
 refine Tops_step rfl (OpT_loadC rfl rfl rfl rfl tyF69 (i := 0) rfl rfl) ?_
 obtain ⟨concat1, hx2, h⟩ := ob_e h
 refine Tops_exP rfl (OpT_callB [1] [0, 1, 2] (w_slices_Concat_bytebyte hx2) [] rfl rfl rfl rfl rfl callee44 rfl rfl rfl rfl rfl rfl (bor_cons (bor_rows 1 rfl rfl) bor_nil) (by rintro _ _ _ ⟨_, rfl, rfl, rfl⟩; exact ⟨rfl, (ri_cons (ri_row (S := u8S) rfl _ _) ri_nil)⟩)) ?_
 rintro _ ⟨v1, _, _, ⟨_, rfl, rfl, rfl⟩, rfl⟩
 refine Tops_step rfl (OpT_assign rfl rfl rfl rfl) ?_
 refine Tops_nil ?_
 refine Tk_wkS (fr' := [(2, some (v1))]) (own' := [some (cellsR b_m 71 [vm1, vm2]), some (rowsX u8S true vm2 vsm1 m.b none), some (rowS u8S v1 concat1)]) (shr' := [Fact.sl RegionS vm1 m.l]) [2] [0, 1, 2] [0] rfl rfl rfl rfl ?_
 obtain rfl := Option.some.inj h
 exact Tk_retV rfl rfl (resA (vs := [v1]) rfl ⟨rfl, trivial⟩) [0, 1, 2] [] rfl rfl rfl ⟨v1, rfl, rfl, rfl⟩

theorem ws_gmem_Mem_Image {m : gmem_Mem} {b_m : Nat} {vm1 : Value} {vm2 : Value} {vsm1 : List Value} {r : (List UInt8)} (h : gmem_Mem_Image m = some r) :
  Ctr Try.prog 20 #[.pointer (some ⟨b_m, 0, none⟩)] [(cellsR b_m 71 [vm1, vm2]), (rowsX u8S true vm2 vsm1 m.b none)] [Fact.sl RegionS vm1 m.l]
   (fun rv own shr => ∃ (w1 : Value), rv = w1 ∧ own = [(cellsR b_m 71 [vm1, vm2]), (rowsX u8S true vm2 vsm1 m.b none)] ∧ shr = [Fact.sl u8S w1 r]) :=
 Ctr.sh (w_gmem_Mem_Image h) (by rintro w1 _ _ ⟨_, rfl, rfl, rfl⟩; exact ⟨[(cellsR b_m 71 [vm1, vm2]), (rowsX u8S true vm2 vsm1 m.b none)], _, _, _, _, rfl, w1, rfl, rfl, rfl⟩)

end Go.Proofs.Ytkdekmjcfoahjaa
