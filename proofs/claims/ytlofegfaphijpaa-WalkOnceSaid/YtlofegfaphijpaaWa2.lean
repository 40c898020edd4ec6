/- The functions do what the plain words say: each is walked once. No statement of the seat is proved here; no condition. -/
import Derived.Test.YtlofegfaphijpaaWa1
namespace Go.Proofs.Ytlofegfaphijpaa
attribute [local irreducible] sub
set_option maxRecDepth 100000 in
set_option maxHeartbeats 4000000 in
theorem w_sort_SearchFgmem_Mem_bytes_1 {np0 : Int} {fc0 : gmem_Mem} {fc1 : UInt64} {b_fc0 : Nat} {vfc01 : Value} {vfc02 : Value} {vsfc01 : List Value} {bb_fc0 : Nat} {b_fc1 : Nat} {r : Int} (h : sort_SearchFgmem_Mem_bytes_1 np0 fc0 fc1 = some r) :
  Ctr Try.prog 80 #[vI np0, .func (.func 81) #[] #[.pointer (some ⟨bb_fc0, 0, none⟩), .pointer (some ⟨b_fc1, 0, none⟩)]] [(cellsR bb_fc0 25 [.pointer (some ⟨b_fc0, 0, none⟩)]), (cellsR b_fc0 113 [vfc01, vfc02]), (rowsX u8S true vfc02 vsfc01 fc0.b none), (cellsR b_fc1 27 [vU64 fc1])] [Fact.sl RegionS vfc01 fc0.l]
   (fun rv own shr => rv = vI r ∧ own = [(cellsR bb_fc0 25 [.pointer (some ⟨b_fc0, 0, none⟩)]), (cellsR b_fc0 113 [vfc01, vfc02]), (rowsX u8S true vfc02 vsfc01 fc0.b none), (cellsR b_fc1 27 [vU64 fc1])] ∧ shr = []) := by
 unfold sort_SearchFgmem_Mem_bytes_1 at h
 refine Ctr.mk (args := [vI np0, .func (.func 81) #[] #[.pointer (some ⟨bb_fc0, 0, none⟩), .pointer (some ⟨b_fc1, 0, none⟩)]]) Try.func80 rfl rfl (fun R0 w0 B => ?_)
 refine Tk_seq (Tk_region (Tops_step rfl (OpT_assign rfl rfl rfl rfl) ?_))
 refine Tops_nil (Tk_wkS (fr' := [(0, some (vI np0)), (1, some (.func (.func 81) #[] #[.pointer (some ⟨bb_fc0, 0, none⟩), .pointer (some ⟨b_fc1, 0, none⟩)]))]) (own' := [some (cellsR bb_fc0 25 [.pointer (some ⟨b_fc0, 0, none⟩)]), some (cellsR b_fc0 113 [vfc01, vfc02]), some (rowsX u8S true vfc02 vsfc01 fc0.b none), some (cellsR b_fc1 27 [vU64 fc1])]) (shr' := [Fact.sl RegionS vfc01 fc0.l]) [0, 1] [0, 1, 2, 3] [0] rfl rfl rfl rfl ?_)
 refine Tk_seq (Tk_region (Tops_step rfl (OpT_move rfl rfl rfl rfl) ?_))
 refine Tops_step rfl (OpT_assign rfl rfl rfl rfl) ?_
 refine Tops_step rfl (OpT_assign rfl rfl rfl rfl) ?_
 refine Tops_nil (Tk_wkS (fr' := [(1, some (.func (.func 81) #[] #[.pointer (some ⟨bb_fc0, 0, none⟩), .pointer (some ⟨b_fc1, 0, none⟩)])), (5, some (vI (0 : Int))), (6, some (vI np0))]) (own' := [some (cellsR bb_fc0 25 [.pointer (some ⟨b_fc0, 0, none⟩)]), some (cellsR b_fc0 113 [vfc01, vfc02]), some (rowsX u8S true vfc02 vsfc01 fc0.b none), some (cellsR b_fc1 27 [vU64 fc1])]) (shr' := [Fact.sl RegionS vfc01 fc0.l]) [1, 5, 6] [0, 1, 2, 3] [0] rfl rfl rfl rfl ?_)
 refine Tk_seq (Tk_block (Tk_loopS (σ := Int × Int) [1, 5, 6] [0, 1, 2, 3] [0] (fun s => ⟨[(1, some (.func (.func 81) #[] #[.pointer (some ⟨bb_fc0, 0, none⟩), .pointer (some ⟨b_fc1, 0, none⟩)])), (5, some (vI s.1)), (6, some (vI s.2))], [some (cellsR bb_fc0 25 [.pointer (some ⟨b_fc0, 0, none⟩)]), some (cellsR b_fc0 113 [vfc01, vfc02]), some (rowsX u8S true vfc02 vsfc01 fc0.b none), some (cellsR b_fc1 27 [vU64 fc1])], [Fact.sl RegionS vfc01 fc0.l]⟩) (fun nf1 s => sort_SearchFgmem_Mem_bytes_1L1 fc0 fc1 nf1 s.1 s.2 = some r) fuel ((0 : Int), np0) h rfl rfl rfl rfl rfl (fun s h => by cases h) ?_))
 rintro nf1 ⟨i1, j1⟩ h
 replace h : sort_SearchFgmem_Mem_bytes_1L1B fc0 fc1 (sort_SearchFgmem_Mem_bytes_1L1 fc0 fc1 nf1) i1 j1 = some r := h
 unfold sort_SearchFgmem_Mem_bytes_1L1B at h
 refine Tk_seq (Tk_seq (Tk_region (Tops_step rfl (OpT_move rfl rfl rfl rfl) ?_)))
 refine Tops_step rfl (OpT_move rfl rfl rfl rfl) ?_
 refine Tops_step rfl (OpT_bin rfl rfl rfl rfl rfl (bin_lss_i (a := i1) (b := j1))) ?_
 refine Tops_nil (Tk_wkS (fr' := [(1, some (.func (.func 81) #[] #[.pointer (some ⟨bb_fc0, 0, none⟩), .pointer (some ⟨b_fc1, 0, none⟩)])), (5, some (vI i1)), (6, some (vI j1)), (11, some (vB (decide (i1 < j1))))]) (own' := [some (cellsR bb_fc0 25 [.pointer (some ⟨b_fc0, 0, none⟩)]), some (cellsR b_fc0 113 [vfc01, vfc02]), some (rowsX u8S true vfc02 vsfc01 fc0.b none), some (cellsR b_fc1 27 [vU64 fc1])]) (shr' := [Fact.sl RegionS vfc01 fc0.l]) [1, 5, 6, 11] [0, 1, 2, 3] [0] rfl rfl rfl rfl ?_)
 rcases Bool.eq_false_or_eq_true (decide (i1 < j1)) with hg1 | hg1
 ·replace h := br_t hg1 h
  refine Tk_condT (congrArg (fun b => some (Value.bool b)) hg1) ?_
  refine Tk_skip (Tk_block (Tk_seq (Tk_region (Tops_step rfl (OpT_move rfl rfl rfl rfl) ?_))))
  refine Tops_step rfl (OpT_move rfl rfl rfl rfl) ?_
  refine Tops_step rfl (OpT_bin rfl rfl rfl rfl rfl (bin_add_i (a := i1) (b := j1))) ?_
  refine Tops_step rfl (OpT_cnv rfl rfl rfl rfl (cnv_i_u64 (n := wi (i1 + j1)) Try.underlying3 Try.underlying23)) ?_
  refine Tops_step rfl (OpT_bin rfl rfl rfl rfl rfl (bin_shr_u64_u64 (a := u64 (wi (i1 + j1))) (n := (1 : UInt64)))) ?_
  refine Tops_step rfl (OpT_cnv rfl rfl rfl rfl (cnv_u64_i (n := shr64 (u64 (wi (i1 + j1))) ((1 : UInt64).toNat)) Try.underlying23 Try.underlying3)) ?_
  refine Tops_step rfl (OpT_assign rfl rfl rfl rfl) ?_
  refine Tops_nil (Tk_wkS (fr' := [(1, some (.func (.func 81) #[] #[.pointer (some ⟨bb_fc0, 0, none⟩), .pointer (some ⟨b_fc1, 0, none⟩)])), (5, some (vI i1)), (6, some (vI j1)), (7, some (vI (i64 (shr64 (u64 (wi (i1 + j1))) ((1 : UInt64).toNat)))))]) (own' := [some (cellsR bb_fc0 25 [.pointer (some ⟨b_fc0, 0, none⟩)]), some (cellsR b_fc0 113 [vfc01, vfc02]), some (rowsX u8S true vfc02 vsfc01 fc0.b none), some (cellsR b_fc1 27 [vU64 fc1])]) (shr' := [Fact.sl RegionS vfc01 fc0.l]) [1, 5, 6, 7] [0, 1, 2, 3] [0] rfl rfl rfl rfl ?_)
  refine Tk_seq (Tk_region (Tops_step rfl (OpT_move rfl rfl rfl rfl) ?_))
  refine Tops_step rfl (OpT_move rfl rfl rfl rfl) ?_
  obtain ⟨bytes1, hx1, h⟩ := ob_e h
  refine Tops_exP rfl (OpT_callP [4, 5, 6, 7] (w_gmem_Mem_bytes_1 hx1) [0, 1, 2, 3] [0] rfl rfl rfl rfl rfl callee81 rfl rfl rfl rfl rfl) ?_
  rintro _ ⟨_, _, _, ⟨rfl, rfl, rfl⟩, rfl⟩
  refine Tops_step rfl (OpT_not rfl rfl rfl rfl) ?_
  refine Tops_nil (Tk_wkS (fr' := [(1, some (.func (.func 81) #[] #[.pointer (some ⟨bb_fc0, 0, none⟩), .pointer (some ⟨b_fc1, 0, none⟩)])), (5, some (vI i1)), (6, some (vI j1)), (7, some (vI (i64 (shr64 (u64 (wi (i1 + j1))) ((1 : UInt64).toNat))))), (21, some (vB (!bytes1)))]) (own' := [some (cellsR bb_fc0 25 [.pointer (some ⟨b_fc0, 0, none⟩)]), some (cellsR b_fc0 113 [vfc01, vfc02]), some (rowsX u8S true vfc02 vsfc01 fc0.b none), some (cellsR b_fc1 27 [vU64 fc1])]) (shr' := [Fact.sl RegionS vfc01 fc0.l]) [1, 5, 6, 7, 21] [0, 1, 2, 3] [0] rfl rfl rfl rfl ?_)
  rcases Bool.eq_false_or_eq_true ((!bytes1)) with hg2 | hg2
  ·replace h := br_t hg2 h
   refine Tk_condT (congrArg (fun b => some (Value.bool b)) hg2) ?_
   refine Tk_region (Tops_step rfl (OpT_move rfl rfl rfl rfl) ?_)
   refine Tops_step rfl (OpT_bin rfl rfl rfl rfl rfl (bin_add_i (a := i64 (shr64 (u64 (wi (i1 + j1))) ((1 : UInt64).toNat))) (b := (1 : Int)))) ?_
   refine Tops_step rfl (OpT_assign rfl rfl rfl rfl) ?_
   refine Tops_nil (Tk_wkS (fr' := [(1, some (.func (.func 81) #[] #[.pointer (some ⟨bb_fc0, 0, none⟩), .pointer (some ⟨b_fc1, 0, none⟩)])), (5, some (vI (wi ((i64 (shr64 (u64 (wi (i1 + j1))) ((1 : UInt64).toNat))) + (1 : Int))))), (6, some (vI j1))]) (own' := [some (cellsR bb_fc0 25 [.pointer (some ⟨b_fc0, 0, none⟩)]), some (cellsR b_fc0 113 [vfc01, vfc02]), some (rowsX u8S true vfc02 vsfc01 fc0.b none), some (cellsR b_fc1 27 [vU64 fc1])]) (shr' := [Fact.sl RegionS vfc01 fc0.l]) [1, 5, 6] [0, 1, 2, 3] [0] rfl rfl rfl rfl ?_)
   refine Tk_blk ?_
   exact Tk_backS (wi ((i64 (shr64 (u64 (wi (i1 + j1))) ((1 : UInt64).toNat))) + (1 : Int)), j1) h [1, 5, 6] [0, 1, 2, 3] [0] rfl rfl rfl rfl rfl
  ·replace h := br_f hg2 h
   refine Tk_condF (congrArg (fun b => some (Value.bool b)) hg2) ?_
   refine Tk_region (Tops_step rfl (OpT_move rfl rfl rfl rfl) ?_)
   refine Tops_step rfl (OpT_assign rfl rfl rfl rfl) ?_
   refine Tops_nil (Tk_wkS (fr' := [(1, some (.func (.func 81) #[] #[.pointer (some ⟨bb_fc0, 0, none⟩), .pointer (some ⟨b_fc1, 0, none⟩)])), (5, some (vI i1)), (6, some (vI (i64 (shr64 (u64 (wi (i1 + j1))) ((1 : UInt64).toNat)))))]) (own' := [some (cellsR bb_fc0 25 [.pointer (some ⟨b_fc0, 0, none⟩)]), some (cellsR b_fc0 113 [vfc01, vfc02]), some (rowsX u8S true vfc02 vsfc01 fc0.b none), some (cellsR b_fc1 27 [vU64 fc1])]) (shr' := [Fact.sl RegionS vfc01 fc0.l]) [1, 5, 6] [0, 1, 2, 3] [0] rfl rfl rfl rfl ?_)
   refine Tk_blk ?_
   exact Tk_backS (i1, i64 (shr64 (u64 (wi (i1 + j1))) ((1 : UInt64).toNat))) h [1, 5, 6] [0, 1, 2, 3] [0] rfl rfl rfl rfl rfl
 ·replace h := br_f hg1 h
  refine Tk_condF (congrArg (fun b => some (Value.bool b)) hg1) ?_
  refine Tk_exit _ rfl ?_
  refine Tk_seq (Tk_region (Tops_step rfl (OpT_move rfl rfl rfl rfl) ?_))
  refine Tops_step rfl (OpT_assign rfl rfl rfl rfl) ?_
  refine Tops_nil (Tk_wkS (fr' := [(4, some (vI i1))]) (own' := [some (cellsR bb_fc0 25 [.pointer (some ⟨b_fc0, 0, none⟩)]), some (cellsR b_fc0 113 [vfc01, vfc02]), some (rowsX u8S true vfc02 vsfc01 fc0.b none), some (cellsR b_fc1 27 [vU64 fc1])]) (shr' := [Fact.sl RegionS vfc01 fc0.l]) [4] [0, 1, 2, 3] [0] rfl rfl rfl rfl ?_)
  obtain rfl := Option.some.inj h
  exact Tk_retV rfl rfl (resA (vs := [vI i1]) rfl ⟨rfl, trivial⟩) [0, 1, 2, 3] [] rfl rfl rfl ⟨rfl, rfl, rfl⟩

set_option maxRecDepth 100000 in
set_option maxHeartbeats 4000000 in
theorem w_gmem_Mem_bytes {m : gmem_Mem} {atp1 : UInt64} {np2 : UInt64} {b_m : Nat} {vm1 : Value} {vm2 : Value} {vsm1 : List Value} {r : (Option (Int × Int × Int))} (h : gmem_Mem_bytes m atp1 np2 = some r) :
  Ctr Try.prog 38 #[.pointer (some ⟨b_m, 0, none⟩), vU64 atp1, vU64 np2] [(cellsR b_m 113 [vm1, vm2]), (rowsX u8S true vm2 vsm1 m.b none)] [Fact.sl RegionS vm1 m.l]
   (fun rv own shr => rv = winV 1 vsm1 r ∧ own = [(cellsR b_m 113 [vm1, vm2]), (rowsX u8S true vm2 vsm1 m.b none)] ∧ shr = []) := by
 unfold gmem_Mem_bytes at h
 refine Ctr.mk (args := [.pointer (some ⟨b_m, 0, none⟩), vU64 atp1, vU64 np2]) Try.func38 rfl rfl (fun R0 w0 B => ?_)
 refine Tk_seq (Tk_region (Tops_ex rfl (OpT_box rfl rfl rfl rfl) fun b1 => ?_))
 refine Tops_ex rfl (OpT_box rfl rfl rfl rfl) fun b2 => ?_
 refine Tops_step rfl (OpT_assign rfl rfl rfl rfl) ?_
 refine Tops_nil (Tk_wkS (fr' := [(2, some (vU64 np2)), (3, some (.pointer (some ⟨b1, 0, none⟩))), (4, some (.pointer (some ⟨b2, 0, none⟩)))]) (own' := [some (cellsR b_m 113 [vm1, vm2]), some (rowsX u8S true vm2 vsm1 m.b none), some (cellsR b1 25 [.pointer (some ⟨b_m, 0, none⟩)]), some (cellsR b2 27 [vU64 atp1])]) (shr' := [Fact.sl RegionS vm1 m.l]) [2, 3, 4] [0, 1, 2, 3] [0] rfl rfl rfl rfl ?_)
 refine Tk_seq (Tk_seq (Tk_region (Tops_step rfl (OpT_move rfl rfl rfl rfl) ?_)))
 refine Tops_step rfl (OpT_bin rfl rfl rfl rfl rfl (bin_lss_u64 (a := np2) (b := (1 : UInt64)))) ?_
 refine Tops_nil (Tk_wkS (fr' := [(2, some (vU64 np2)), (3, some (.pointer (some ⟨b1, 0, none⟩))), (4, some (.pointer (some ⟨b2, 0, none⟩))), (10, some (vB (decide (np2 < (1 : UInt64)))))]) (own' := [some (cellsR b_m 113 [vm1, vm2]), some (rowsX u8S true vm2 vsm1 m.b none), some (cellsR b1 25 [.pointer (some ⟨b_m, 0, none⟩)]), some (cellsR b2 27 [vU64 atp1])]) (shr' := [Fact.sl RegionS vm1 m.l]) [2, 3, 4, 10] [0, 1, 2, 3] [0] rfl rfl rfl rfl ?_)
 rcases Bool.eq_false_or_eq_true (decide (np2 < (1 : UInt64))) with hg1 | hg1
 ·replace h := br_t hg1 h
  refine Tk_condT (congrArg (fun b => some (Value.bool b)) hg1) ?_
  refine Tk_seq (Tk_region (Tops_step rfl (OpT_assign rfl rfl rfl rfl) ?_))
  refine Tops_nil (Tk_wkS (fr' := [(6, some (.slice none 0 0))]) (own' := [some (cellsR b_m 113 [vm1, vm2]), some (rowsX u8S true vm2 vsm1 m.b none)]) (shr' := [Fact.sl RegionS vm1 m.l]) [6] [0, 1] [0] rfl rfl rfl rfl ?_)
  obtain rfl := Option.some.inj h
  exact Tk_retV rfl rfl (resA (vs := [.slice none 0 0]) rfl ⟨rfl, trivial⟩) [0, 1] [] rfl rfl rfl ⟨rfl, rfl, rfl⟩
 ·replace h := br_f hg1 h
  refine Tk_condF (congrArg (fun b => some (Value.bool b)) hg1) ?_
  refine Tk_skip (Tk_seq (Tk_region (Tops_step rfl (OpT_loadC rfl rfl rfl rfl tyF25 (i := 2) rfl rfl) ?_)))
  refine Tops_step rfl (OpT_nilCheckP rfl rfl rfl rfl) ?_
  refine Tops_step rfl (OpT_fieldC rfl rfl rfl rfl fldF113x0) ?_
  refine Tops_step rfl (OpT_loadC rfl rfl rfl rfl tyF54 (i := 0) rfl rfl) ?_
  refine Tops_step rfl (OpT_lenS rfl rfl rfl rfl Try.underlying54 (i := 0) rfl) ?_
  refine Tops_step rfl (OpT_makeFunc (vs := [.pointer (some ⟨b1, 0, none⟩), .pointer (some ⟨b2, 0, none⟩)]) rfl rfl rfl rfl) ?_
  obtain ⟨search1, hx1, h⟩ := ob_e h
  refine Tops_exP rfl (OpT_callP [5, 6, 4, 7] (w_sort_SearchFgmem_Mem_bytes_1 hx1) [2, 0, 1, 3] [0] rfl rfl rfl rfl rfl callee80 rfl rfl rfl rfl rfl) ?_
  rintro _ ⟨_, _, _, ⟨rfl, rfl, rfl⟩, rfl⟩
  refine Tops_step rfl (OpT_assign rfl rfl rfl rfl) ?_
  refine Tops_nil (Tk_wkS (fr' := [(2, some (vU64 np2)), (3, some (.pointer (some ⟨b1, 0, none⟩))), (4, some (.pointer (some ⟨b2, 0, none⟩))), (7, some (vI search1))]) (own' := [some (cellsR b_m 113 [vm1, vm2]), some (rowsX u8S true vm2 vsm1 m.b none), some (cellsR b1 25 [.pointer (some ⟨b_m, 0, none⟩)]), some (cellsR b2 27 [vU64 atp1])]) (shr' := [Fact.sl RegionS vm1 m.l]) [2, 3, 4, 7] [0, 1, 2, 3] [0] rfl rfl rfl rfl ?_)
  refine Tk_seq (Tk_seq (Tk_drawT (by kernel_rfl) ?_))
  refine TA_tb [0, 0, 2, 6, 14, 30, 63, 127, 255, 255, 767, 1791, 3839, 255, 16127, 32511, 65279, 131071, 262143] (by kernel_rfl) fun htb => ?_
  refine TA_seg (lo := 0) (hi := 6) htb rfl rfl (by kernel_rfl) (fun c L a w => Sat c ⟨[(2, some (vU64 np2)), (3, some (.pointer (some ⟨b1, 0, none⟩))), (4, some (.pointer (some ⟨b2, 0, none⟩))), (7, some (vI search1)), (18, bif L 0 then some (vI search1) else none), (19, bif L 1 then some (.pointer (some ⟨b_m, 0, none⟩)) else none), (20, bif L 2 then some (.pointer (some ⟨b_m, 0, none⟩)) else none), (21, bif L 3 then some (.pointer (some ⟨b_m, 0, none⟩)) else none), (22, bif L 4 then some (vm1) else none), (23, bif L 5 then some (vI (len m.l)) else none)], [(some (cellsR b_m 113 [vm1, vm2]) : Option Res), (some (rowsX u8S true vm2 vsm1 m.b none) : Option Res), (some (cellsR b1 25 [.pointer (some ⟨b_m, 0, none⟩)]) : Option Res), (some (cellsR b2 27 [vU64 atp1]) : Option Res)], [Fact.sl RegionS vm1 m.l]⟩ a w) [([], []), ([], [2, 3, 4, 5]), ([1], [3, 4, 5]), ([1, 2], [4, 5]), ([1, 2, 3], [5]), ([1, 2, 3, 4], [])] rfl (by kernel_rfl) ?_ (steps_cons ?_ (steps_cons ?_ (steps_cons ?_ (steps_cons ?_ (steps_cons ?_ (steps_cons ?_ (steps_nil))))))) ?_
  ·intro a w hs
   exact hs.startF [18, 19, 20, 21, 22, 23] [0, 1, 2, 3] [0] rfl rfl rfl rfl
  ·intro L a w hv K Q hK
   have hs := hv
   refine wpOp_go rfl rfl hs (OpT_move rfl rfl rfl rfl) ?_
   rintro _ rfl a' w' hs'
   exact hK a' w' (hs'.putF (i := 4) rfl [0, 1, 2, 3] [0] rfl rfl rfl rfl)
  ·intro L a w hv K Q hK
   have hs := hv
   refine wpOp_go rfl rfl hs (OpT_loadC rfl rfl rfl rfl tyF25 (i := 2) rfl rfl) ?_
   rintro _ rfl a' w' hs'
   exact hK a' w' (hs'.putF (i := 5) rfl [0, 1, 2, 3] [0] rfl rfl rfl rfl)
  ·intro L a w hv K Q hK
   have hs := hv
   refine wpOp_go rfl rfl hs (OpT_nilCheckP rfl rfl rfl rfl) ?_
   rintro _ rfl a' w' hs'
   exact hK a' w' (hs'.putF (i := 6) rfl [0, 1, 2, 3] [0] rfl rfl rfl rfl)
  ·intro L a w hv K Q hK
   have hs := hv
   refine wpOp_go rfl rfl hs (OpT_fieldC rfl rfl rfl rfl fldF113x0) ?_
   rintro _ rfl a' w' hs'
   exact hK a' w' (hs'.putF (i := 7) rfl [0, 1, 2, 3] [0] rfl rfl rfl rfl)
  ·intro L a w hv K Q hK
   have hs := hv
   refine wpOp_go rfl rfl hs (OpT_loadC rfl rfl rfl rfl tyF54 (i := 0) rfl rfl) ?_
   rintro _ rfl a' w' hs'
   exact hK a' w' (hs'.putF (i := 8) rfl [0, 1, 2, 3] [0] rfl rfl rfl rfl)
  ·intro L a w hv K Q hK
   have hs := hv
   refine wpOp_go rfl rfl hs (OpT_lenS rfl rfl rfl rfl Try.underlying54 (i := 0) rfl) ?_
   rintro _ rfl a' w' hs'
   exact hK a' w' (hs'.putF (i := 9) rfl [0, 1, 2, 3] [0] rfl rfl rfl rfl)
  ·intro L a w hL hv
   rw [allTrue hL] at hv
   have hs := hv
   refine (show TA _ _ _ 6 ⟨[(2, some (vU64 np2)), (3, some (.pointer (some ⟨b1, 0, none⟩))), (4, some (.pointer (some ⟨b2, 0, none⟩))), (7, some (vI search1)), (18, some (vI search1)), (23, some (vI (len m.l)))], [some (cellsR b_m 113 [vm1, vm2]), some (rowsX u8S true vm2 vsm1 m.b none), some (cellsR b1 25 [.pointer (some ⟨b_m, 0, none⟩)]), some (cellsR b2 27 [vU64 atp1])], [Fact.sl RegionS vm1 m.l]⟩ from ?_) a w (hs.wkS [2, 3, 4, 7, 18, 23] [0, 1, 2, 3] [0] rfl rfl rfl rfl)
   clear hs hL
   refine TA_step htb (by kernel_rfl) rfl rfl (OpT_bin rfl rfl rfl rfl rfl (bin_eql_i (a := search1) (b := len m.l))) ?_
   refine TA_step htb (by kernel_rfl) rfl rfl (OpT_move rfl rfl rfl rfl) ?_
   refine TA_wkS (fr' := [(2, some (vU64 np2)), (3, some (.pointer (some ⟨b1, 0, none⟩))), (4, some (.pointer (some ⟨b2, 0, none⟩))), (7, some (vI search1)), (25, some (vB (search1 == (len m.l))))]) (own' := [some (cellsR b_m 113 [vm1, vm2]), some (rowsX u8S true vm2 vsm1 m.b none), some (cellsR b1 25 [.pointer (some ⟨b_m, 0, none⟩)]), some (cellsR b2 27 [vU64 atp1])]) (shr' := [Fact.sl RegionS vm1 m.l]) [2, 3, 4, 7, 25] [0, 1, 2, 3] [0] rfl rfl rfl rfl ?_
   rcases Bool.eq_false_or_eq_true (search1 == (len m.l)) with hg2 | hg2
   ·replace h := br_t hg2 h
    refine TA_seg (lo := 8) (hi := 17) htb rfl rfl (by kernel_rfl) (fun c L a w => Sat c ⟨[(2, some (vU64 np2)), (3, some (.pointer (some ⟨b1, 0, none⟩))), (4, some (.pointer (some ⟨b2, 0, none⟩))), (7, some (vI search1)), (25, some (vB (search1 == (len m.l)))), (26, bif L 8 then some (undef) else none), (27, bif L 9 then some (undef) else none), (28, bif L 10 then some (undef) else none), (29, bif L 11 then some (undef) else none), (30, bif L 12 then some (undef) else none), (31, bif L 13 then some (undef) else none), (32, bif L 14 then some (undef) else none), (33, bif L 15 then some (undef) else none), (34, bif L 16 then some (undef) else none)], [(some (cellsR b_m 113 [vm1, vm2]) : Option Res), (some (rowsX u8S true vm2 vsm1 m.b none) : Option Res), (some (cellsR b1 25 [.pointer (some ⟨b_m, 0, none⟩)]) : Option Res), (some (cellsR b2 27 [vU64 atp1]) : Option Res)], [Fact.sl RegionS vm1 m.l]⟩ a w) [([], []), ([], [10, 11, 12, 14, 15, 16]), ([9], [11, 12, 14, 15, 16]), ([9, 10], [12, 14, 15, 16]), ([9, 10, 11], [14, 15, 16]), ([], [14, 15, 16]), ([9, 10, 11, 12, 13], [15, 16]), ([9, 10, 11, 12, 13, 14], [16]), ([9, 10, 11, 12, 13, 14, 15], [])] rfl (by kernel_rfl) ?_ (steps_cons ?_ (steps_cons ?_ (steps_cons ?_ (steps_cons ?_ (steps_cons ?_ (steps_cons ?_ (steps_cons ?_ (steps_cons ?_ (steps_cons ?_ (steps_nil)))))))))) ?_
    ·intro a w hs
     exact hs.startF [26, 27, 28, 29, 30, 31, 32, 33, 34] [0, 1, 2, 3] [0] rfl rfl rfl rfl
    ·intro L a w hv K Q hK
     have hs := hv
     refine wpOp_no rfl rfl rfl hs (congrArg (fun b => some (Value.bool b)) hg2) rfl rfl ?_
     intro a' w' hs'
     exact hK a' w' (hs'.putF (i := 5) rfl [0, 1, 2, 3] [0] rfl rfl rfl rfl)
    ·intro L a w hv K Q hK
     have hs := hv
     refine wpOp_no rfl rfl rfl hs (congrArg (fun b => some (Value.bool b)) hg2) rfl rfl ?_
     intro a' w' hs'
     exact hK a' w' (hs'.putF (i := 6) rfl [0, 1, 2, 3] [0] rfl rfl rfl rfl)
    ·intro L a w hv K Q hK
     have hs := hv
     refine wpOp_no rfl rfl rfl hs (congrArg (fun b => some (Value.bool b)) hg2) rfl rfl ?_
     intro a' w' hs'
     exact hK a' w' (hs'.putF (i := 7) rfl [0, 1, 2, 3] [0] rfl rfl rfl rfl)
    ·intro L a w hv K Q hK
     have hs := hv
     refine wpOp_no rfl rfl rfl hs (congrArg (fun b => some (Value.bool b)) hg2) rfl rfl ?_
     intro a' w' hs'
     exact hK a' w' (hs'.putF (i := 8) rfl [0, 1, 2, 3] [0] rfl rfl rfl rfl)
    ·intro L a w hv K Q hK
     have hs := hv
     refine wpOp_no rfl rfl rfl hs (congrArg (fun b => some (Value.bool b)) hg2) rfl rfl ?_
     intro a' w' hs'
     exact hK a' w' (hs'.putF (i := 9) rfl [0, 1, 2, 3] [0] rfl rfl rfl rfl)
    ·intro L a w hv K Q hK
     have hs := hv
     refine wpOp_no rfl rfl rfl hs (congrArg (fun b => some (Value.bool b)) hg2) rfl rfl ?_
     intro a' w' hs'
     exact hK a' w' (hs'.putF (i := 10) rfl [0, 1, 2, 3] [0] rfl rfl rfl rfl)
    ·intro L a w hv K Q hK
     have hs := hv
     refine wpOp_no rfl rfl rfl hs (congrArg (fun b => some (Value.bool b)) hg2) rfl rfl ?_
     intro a' w' hs'
     exact hK a' w' (hs'.putF (i := 11) rfl [0, 1, 2, 3] [0] rfl rfl rfl rfl)
    ·intro L a w hv K Q hK
     have hs := hv
     refine wpOp_no rfl rfl rfl hs (congrArg (fun b => some (Value.bool b)) hg2) rfl rfl ?_
     intro a' w' hs'
     exact hK a' w' (hs'.putF (i := 12) rfl [0, 1, 2, 3] [0] rfl rfl rfl rfl)
    ·intro L a w hv K Q hK
     have hs := hv
     refine wpOp_no rfl rfl rfl hs (congrArg (fun b => some (Value.bool b)) hg2) rfl rfl ?_
     intro a' w' hs'
     exact hK a' w' (hs'.putF (i := 13) rfl [0, 1, 2, 3] [0] rfl rfl rfl rfl)
    ·intro L a w hL hv
     rw [allTrue hL] at hv
     have hs := hv
     refine (show TA _ _ _ 17 ⟨[(2, some (vU64 np2)), (3, some (.pointer (some ⟨b1, 0, none⟩))), (4, some (.pointer (some ⟨b2, 0, none⟩))), (7, some (vI search1)), (25, some (vB (search1 == (len m.l)))), (26, some (undef)), (34, some (undef))], [some (cellsR b_m 113 [vm1, vm2]), some (rowsX u8S true vm2 vsm1 m.b none), some (cellsR b1 25 [.pointer (some ⟨b_m, 0, none⟩)]), some (cellsR b2 27 [vU64 atp1])], [Fact.sl RegionS vm1 m.l]⟩ from ?_) a w (hs.wkS [2, 3, 4, 7, 25, 26, 34] [0, 1, 2, 3] [0] rfl rfl rfl rfl)
     clear hs hL
     refine TA_no htb (by kernel_rfl) rfl rfl rfl (congrArg (fun b => some (Value.bool b)) hg2) rfl rfl ?_
     refine TA_step htb (by kernel_rfl) rfl rfl (OpT_pickT rfl rfl rfl (congrArg (fun b => some (Value.bool b)) hg2) rfl) ?_
     refine TA_end rfl ?_
     refine Tk_wkS (fr' := [(2, some (vU64 np2)), (3, some (.pointer (some ⟨b1, 0, none⟩))), (4, some (.pointer (some ⟨b2, 0, none⟩))), (7, some (vI search1)), (36, some (vB true))]) (own' := [some (cellsR b_m 113 [vm1, vm2]), some (rowsX u8S true vm2 vsm1 m.b none), some (cellsR b1 25 [.pointer (some ⟨b_m, 0, none⟩)]), some (cellsR b2 27 [vU64 atp1])]) (shr' := [Fact.sl RegionS vm1 m.l]) [2, 3, 4, 7, 36] [0, 1, 2, 3] [0] rfl rfl rfl rfl ?_
     refine Tk_condT rfl ?_
     refine Tk_seq (Tk_region (Tops_step rfl (OpT_assign rfl rfl rfl rfl) ?_))
     refine Tops_nil (Tk_wkS (fr' := [(6, some (.slice none 0 0))]) (own' := [some (cellsR b_m 113 [vm1, vm2]), some (rowsX u8S true vm2 vsm1 m.b none)]) (shr' := [Fact.sl RegionS vm1 m.l]) [6] [0, 1] [0] rfl rfl rfl rfl ?_)
     obtain rfl := Option.some.inj h
     exact Tk_retV rfl rfl (resA (vs := [.slice none 0 0]) rfl ⟨rfl, trivial⟩) [0, 1] [] rfl rfl rfl ⟨rfl, rfl, rfl⟩
   ·replace h := br_f hg2 h
    obtain ⟨r1, hx2, h⟩ := ob_e h
    refine TA_seg (lo := 8) (hi := 17) htb rfl rfl (by kernel_rfl) (fun c L a w => ∃ (p1 : Value), ∃ (p2 : Value), Sat c ⟨[(2, some (vU64 np2)), (3, some (.pointer (some ⟨b1, 0, none⟩))), (4, some (.pointer (some ⟨b2, 0, none⟩))), (7, some (vI search1)), (25, some (vB (search1 == (len m.l)))), (26, bif L 8 then some (vU64 atp1) else none), (27, bif L 9 then some (.pointer (some ⟨b_m, 0, none⟩)) else none), (28, bif L 10 then some (.pointer (some ⟨b_m, 0, none⟩)) else none), (29, bif L 11 then some (.pointer (some ⟨b_m, 0, none⟩)) else none), (30, bif L 12 then some (vm1) else none), (31, bif L 13 then some (vI search1) else none), (32, bif L 14 then some (p1) else none), (33, bif L 15 then some (p2) else none), (34, bif L 16 then some (vU64 r1.At) else none)], [(some (cellsR b_m 113 [vm1, vm2]) : Option Res), (some (rowsX u8S true vm2 vsm1 m.b none) : Option Res), (some (cellsR b1 25 [.pointer (some ⟨b_m, 0, none⟩)]) : Option Res), (some (cellsR b2 27 [vU64 atp1]) : Option Res)], [Fact.sl RegionS vm1 m.l, (bif L 14 then Fact.pt RegionS p1 r1 else Fact.tt), (bif L 15 then Fact.pt u64S p2 r1.At else Fact.tt)]⟩ a w) [([], []), ([], [10, 11, 12, 14, 15, 16]), ([9], [11, 12, 14, 15, 16]), ([9, 10], [12, 14, 15, 16]), ([9, 10, 11], [14, 15, 16]), ([], [14, 15, 16]), ([9, 10, 11, 12, 13], [15, 16]), ([9, 10, 11, 12, 13, 14], [16]), ([9, 10, 11, 12, 13, 14, 15], [])] rfl (by kernel_rfl) ?_ (steps_cons ?_ (steps_cons ?_ (steps_cons ?_ (steps_cons ?_ (steps_cons ?_ (steps_cons ?_ (steps_cons ?_ (steps_cons ?_ (steps_cons ?_ (steps_nil)))))))))) ?_
    ·intro a w hs
     exact ⟨undef, undef, hs.startF [26, 27, 28, 29, 30, 31, 32, 33, 34] [0, 1, 2, 3] [0, 1, 2] rfl rfl rfl rfl⟩
    ·intro L a w hv K Q hK
     obtain ⟨p1, p2, hs⟩ := hv
     refine wpOp_yes rfl rfl rfl hs (congrArg (fun b => some (Value.bool b)) hg2) (OpT_loadC rfl rfl rfl rfl tyF27 (i := 3) rfl rfl) ?_
     rintro _ rfl a' w' hs'
     exact hK a' w' ⟨p1, p2, hs'.putF (i := 5) rfl [0, 1, 2, 3] [0, 1, 2] rfl rfl rfl rfl⟩
    ·intro L a w hv K Q hK
     obtain ⟨p1, p2, hs⟩ := hv
     refine wpOp_yes rfl rfl rfl hs (congrArg (fun b => some (Value.bool b)) hg2) (OpT_loadC rfl rfl rfl rfl tyF25 (i := 2) rfl rfl) ?_
     rintro _ rfl a' w' hs'
     exact hK a' w' ⟨p1, p2, hs'.putF (i := 6) rfl [0, 1, 2, 3] [0, 1, 2] rfl rfl rfl rfl⟩
    ·intro L a w hv K Q hK
     obtain ⟨p1, p2, hs⟩ := hv
     refine wpOp_yes rfl rfl rfl hs (congrArg (fun b => some (Value.bool b)) hg2) (OpT_nilCheckP rfl rfl rfl rfl) ?_
     rintro _ rfl a' w' hs'
     exact hK a' w' ⟨p1, p2, hs'.putF (i := 7) rfl [0, 1, 2, 3] [0, 1, 2] rfl rfl rfl rfl⟩
    ·intro L a w hv K Q hK
     obtain ⟨p1, p2, hs⟩ := hv
     refine wpOp_yes rfl rfl rfl hs (congrArg (fun b => some (Value.bool b)) hg2) (OpT_fieldC rfl rfl rfl rfl fldF113x0) ?_
     rintro _ rfl a' w' hs'
     exact hK a' w' ⟨p1, p2, hs'.putF (i := 8) rfl [0, 1, 2, 3] [0, 1, 2] rfl rfl rfl rfl⟩
    ·intro L a w hv K Q hK
     obtain ⟨p1, p2, hs⟩ := hv
     refine wpOp_yes rfl rfl rfl hs (congrArg (fun b => some (Value.bool b)) hg2) (OpT_loadC rfl rfl rfl rfl tyF54 (i := 0) rfl rfl) ?_
     rintro _ rfl a' w' hs'
     exact hK a' w' ⟨p1, p2, hs'.putF (i := 9) rfl [0, 1, 2, 3] [0, 1, 2] rfl rfl rfl rfl⟩
    ·intro L a w hv K Q hK
     obtain ⟨p1, p2, hs⟩ := hv
     refine wpOp_yes rfl rfl rfl hs (congrArg (fun b => some (Value.bool b)) hg2) (OpT_move rfl rfl rfl rfl) ?_
     rintro _ rfl a' w' hs'
     exact hK a' w' ⟨p1, p2, hs'.putF (i := 10) rfl [0, 1, 2, 3] [0, 1, 2] rfl rfl rfl rfl⟩
    ·intro L a w hv K Q hK
     obtain ⟨p1, p2, hs⟩ := hv
     refine wpOp_yes rfl rfl rfl hs (congrArg (fun b => some (Value.bool b)) hg2) (OpT_idxS rfl rfl rfl rfl rfl slF54 (i := 0) rfl hx2) ?_
     rintro _ ⟨p1', rfl⟩ a' w' hs'
     exact hK a' w' ⟨p1', p2, hs'.putF (i := 11) rfl [0, 1, 2, 3] [0, 3, 2] rfl rfl rfl rfl⟩
    ·intro L a w hv K Q hK
     obtain ⟨p1, p2, hs⟩ := hv
     refine wpOp_yes rfl rfl rfl hs (congrArg (fun b => some (Value.bool b)) hg2) (OpT_fieldP (S' := u64S) (y := r1.At) rfl rfl rfl rfl fldF53x0 (i := 1) rfl (by intro h cs hr; subst hr; rfl)) ?_
     rintro _ ⟨p2', rfl⟩ a' w' hs'
     exact hK a' w' ⟨p1, p2', hs'.putF (i := 12) rfl [0, 1, 2, 3] [0, 1, 3] rfl rfl rfl rfl⟩
    ·intro L a w hv K Q hK
     obtain ⟨p1, p2, hs⟩ := hv
     refine wpOp_yes rfl rfl rfl hs (congrArg (fun b => some (Value.bool b)) hg2) (OpT_loadP rfl rfl rfl rfl tyF27 (i := 2) rfl rfl) ?_
     rintro _ rfl a' w' hs'
     exact hK a' w' ⟨p1, p2, hs'.putF (i := 13) rfl [0, 1, 2, 3] [0, 1, 2] rfl rfl rfl rfl⟩
    ·intro L a w hL hv
     rw [allTrue hL] at hv
     obtain ⟨p1, p2, hs⟩ := hv
     refine (show TA _ _ _ 17 ⟨[(2, some (vU64 np2)), (3, some (.pointer (some ⟨b1, 0, none⟩))), (4, some (.pointer (some ⟨b2, 0, none⟩))), (7, some (vI search1)), (25, some (vB (search1 == (len m.l)))), (26, some (vU64 atp1)), (34, some (vU64 r1.At))], [some (cellsR b_m 113 [vm1, vm2]), some (rowsX u8S true vm2 vsm1 m.b none), some (cellsR b1 25 [.pointer (some ⟨b_m, 0, none⟩)]), some (cellsR b2 27 [vU64 atp1])], [Fact.sl RegionS vm1 m.l]⟩ from ?_) a w (hs.wkS [2, 3, 4, 7, 25, 26, 34] [0, 1, 2, 3] [0] rfl rfl rfl rfl)
     clear hs hL
     refine TA_yes htb (by kernel_rfl) rfl rfl rfl (congrArg (fun b => some (Value.bool b)) hg2) (OpT_bin rfl rfl rfl rfl rfl (bin_lss_u64 (a := atp1) (b := r1.At))) ?_
     rintro _ rfl
     refine TA_step htb (by kernel_rfl) rfl rfl (OpT_pickF rfl rfl rfl (congrArg (fun b => some (Value.bool b)) hg2) rfl) ?_
     refine TA_end rfl ?_
     refine Tk_wkS (fr' := [(2, some (vU64 np2)), (3, some (.pointer (some ⟨b1, 0, none⟩))), (4, some (.pointer (some ⟨b2, 0, none⟩))), (7, some (vI search1)), (36, some (vB (decide (atp1 < r1.At))))]) (own' := [some (cellsR b_m 113 [vm1, vm2]), some (rowsX u8S true vm2 vsm1 m.b none), some (cellsR b1 25 [.pointer (some ⟨b_m, 0, none⟩)]), some (cellsR b2 27 [vU64 atp1])]) (shr' := [Fact.sl RegionS vm1 m.l]) [2, 3, 4, 7, 36] [0, 1, 2, 3] [0] rfl rfl rfl rfl ?_
     rcases Bool.eq_false_or_eq_true (decide (atp1 < r1.At)) with hg3 | hg3
     ·replace h := br_t hg3 h
      refine Tk_condT (congrArg (fun b => some (Value.bool b)) hg3) ?_
      refine Tk_seq (Tk_region (Tops_step rfl (OpT_assign rfl rfl rfl rfl) ?_))
      refine Tops_nil (Tk_wkS (fr' := [(6, some (.slice none 0 0))]) (own' := [some (cellsR b_m 113 [vm1, vm2]), some (rowsX u8S true vm2 vsm1 m.b none)]) (shr' := [Fact.sl RegionS vm1 m.l]) [6] [0, 1] [0] rfl rfl rfl rfl ?_)
      obtain rfl := Option.some.inj h
      exact Tk_retV rfl rfl (resA (vs := [.slice none 0 0]) rfl ⟨rfl, trivial⟩) [0, 1] [] rfl rfl rfl ⟨rfl, rfl, rfl⟩
     ·replace h := br_f hg3 h
      refine Tk_condF (congrArg (fun b => some (Value.bool b)) hg3) ?_
      refine Tk_skip (Tk_seq (Tk_drawT (by kernel_rfl) ?_))
      refine TA_tb [0, 0, 2, 6, 14, 0, 62, 126, 254, 511, 1023] (by kernel_rfl) fun htb => ?_
      refine TA_wkS (fr' := [(2, some (vU64 np2)), (3, some (.pointer (some ⟨b1, 0, none⟩))), (4, some (.pointer (some ⟨b2, 0, none⟩))), (7, some (vI search1))]) (own' := [some (cellsR b_m 113 [vm1, vm2]), some (rowsX u8S true vm2 vsm1 m.b none), some (cellsR b1 25 [.pointer (some ⟨b_m, 0, none⟩)]), some (cellsR b2 27 [vU64 atp1])]) (shr' := [Fact.sl RegionS vm1 m.l]) [2, 3, 4, 7] [0, 1, 2, 3] [0] rfl rfl rfl rfl ?_
      obtain ⟨r2, hx3, h⟩ := ob_e h
      refine TA_seg (lo := 0) (hi := 9) htb rfl rfl (by kernel_rfl) (fun c L a w => ∃ (p3 : Value), ∃ (p4 : Value), Sat c ⟨[(2, some (vU64 np2)), (3, some (.pointer (some ⟨b1, 0, none⟩))), (4, some (.pointer (some ⟨b2, 0, none⟩))), (7, some (vI search1)), (37, bif L 0 then some (vU64 atp1) else none), (38, bif L 1 then some (.pointer (some ⟨b_m, 0, none⟩)) else none), (39, bif L 2 then some (.pointer (some ⟨b_m, 0, none⟩)) else none), (40, bif L 3 then some (.pointer (some ⟨b_m, 0, none⟩)) else none), (41, bif L 4 then some (vm1) else none), (42, bif L 5 then some (vI search1) else none), (43, bif L 6 then some (p3) else none), (44, bif L 7 then some (p4) else none), (45, bif L 8 then some (vU64 r2.At) else none)], [(some (cellsR b_m 113 [vm1, vm2]) : Option Res), (some (rowsX u8S true vm2 vsm1 m.b none) : Option Res), (some (cellsR b1 25 [.pointer (some ⟨b_m, 0, none⟩)]) : Option Res), (some (cellsR b2 27 [vU64 atp1]) : Option Res)], [Fact.sl RegionS vm1 m.l, (bif L 6 then Fact.pt RegionS p3 r2 else Fact.tt), (bif L 7 then Fact.pt u64S p4 r2.At else Fact.tt)]⟩ a w) [([], []), ([], [2, 3, 4, 6, 7, 8]), ([1], [3, 4, 6, 7, 8]), ([1, 2], [4, 6, 7, 8]), ([1, 2, 3], [6, 7, 8]), ([], [6, 7, 8]), ([1, 2, 3, 4, 5], [7, 8]), ([1, 2, 3, 4, 5, 6], [8]), ([1, 2, 3, 4, 5, 6, 7], [])] rfl (by kernel_rfl) ?_ (steps_cons ?_ (steps_cons ?_ (steps_cons ?_ (steps_cons ?_ (steps_cons ?_ (steps_cons ?_ (steps_cons ?_ (steps_cons ?_ (steps_cons ?_ (steps_nil)))))))))) ?_
      ·intro a w hs
       exact ⟨undef, undef, hs.startF [37, 38, 39, 40, 41, 42, 43, 44, 45] [0, 1, 2, 3] [0, 1, 2] rfl rfl rfl rfl⟩
      ·intro L a w hv K Q hK
       obtain ⟨p3, p4, hs⟩ := hv
       refine wpOp_go rfl rfl hs (OpT_loadC rfl rfl rfl rfl tyF27 (i := 3) rfl rfl) ?_
       rintro _ rfl a' w' hs'
       exact hK a' w' ⟨p3, p4, hs'.putF (i := 4) rfl [0, 1, 2, 3] [0, 1, 2] rfl rfl rfl rfl⟩
      ·intro L a w hv K Q hK
       obtain ⟨p3, p4, hs⟩ := hv
       refine wpOp_go rfl rfl hs (OpT_loadC rfl rfl rfl rfl tyF25 (i := 2) rfl rfl) ?_
       rintro _ rfl a' w' hs'
       exact hK a' w' ⟨p3, p4, hs'.putF (i := 5) rfl [0, 1, 2, 3] [0, 1, 2] rfl rfl rfl rfl⟩
      ·intro L a w hv K Q hK
       obtain ⟨p3, p4, hs⟩ := hv
       refine wpOp_go rfl rfl hs (OpT_nilCheckP rfl rfl rfl rfl) ?_
       rintro _ rfl a' w' hs'
       exact hK a' w' ⟨p3, p4, hs'.putF (i := 6) rfl [0, 1, 2, 3] [0, 1, 2] rfl rfl rfl rfl⟩
      ·intro L a w hv K Q hK
       obtain ⟨p3, p4, hs⟩ := hv
       refine wpOp_go rfl rfl hs (OpT_fieldC rfl rfl rfl rfl fldF113x0) ?_
       rintro _ rfl a' w' hs'
       exact hK a' w' ⟨p3, p4, hs'.putF (i := 7) rfl [0, 1, 2, 3] [0, 1, 2] rfl rfl rfl rfl⟩
      ·intro L a w hv K Q hK
       obtain ⟨p3, p4, hs⟩ := hv
       refine wpOp_go rfl rfl hs (OpT_loadC rfl rfl rfl rfl tyF54 (i := 0) rfl rfl) ?_
       rintro _ rfl a' w' hs'
       exact hK a' w' ⟨p3, p4, hs'.putF (i := 8) rfl [0, 1, 2, 3] [0, 1, 2] rfl rfl rfl rfl⟩
      ·intro L a w hv K Q hK
       obtain ⟨p3, p4, hs⟩ := hv
       refine wpOp_go rfl rfl hs (OpT_move rfl rfl rfl rfl) ?_
       rintro _ rfl a' w' hs'
       exact hK a' w' ⟨p3, p4, hs'.putF (i := 9) rfl [0, 1, 2, 3] [0, 1, 2] rfl rfl rfl rfl⟩
      ·intro L a w hv K Q hK
       obtain ⟨p3, p4, hs⟩ := hv
       refine wpOp_go rfl rfl hs (OpT_idxS rfl rfl rfl rfl rfl slF54 (i := 0) rfl hx3) ?_
       rintro _ ⟨p3', rfl⟩ a' w' hs'
       exact hK a' w' ⟨p3', p4, hs'.putF (i := 10) rfl [0, 1, 2, 3] [0, 3, 2] rfl rfl rfl rfl⟩
      ·intro L a w hv K Q hK
       obtain ⟨p3, p4, hs⟩ := hv
       refine wpOp_go rfl rfl hs (OpT_fieldP (S' := u64S) (y := r2.At) rfl rfl rfl rfl fldF53x0 (i := 1) rfl (by intro h cs hr; subst hr; rfl)) ?_
       rintro _ ⟨p4', rfl⟩ a' w' hs'
       exact hK a' w' ⟨p3, p4', hs'.putF (i := 11) rfl [0, 1, 2, 3] [0, 1, 3] rfl rfl rfl rfl⟩
      ·intro L a w hv K Q hK
       obtain ⟨p3, p4, hs⟩ := hv
       refine wpOp_go rfl rfl hs (OpT_loadP rfl rfl rfl rfl tyF27 (i := 2) rfl rfl) ?_
       rintro _ rfl a' w' hs'
       exact hK a' w' ⟨p3, p4, hs'.putF (i := 12) rfl [0, 1, 2, 3] [0, 1, 2] rfl rfl rfl rfl⟩
      ·intro L a w hL hv
       rw [allTrue hL] at hv
       obtain ⟨p3, p4, hs⟩ := hv
       refine (show TA _ _ _ 9 ⟨[(2, some (vU64 np2)), (3, some (.pointer (some ⟨b1, 0, none⟩))), (7, some (vI search1)), (37, some (vU64 atp1)), (45, some (vU64 r2.At))], [some (cellsR b_m 113 [vm1, vm2]), some (rowsX u8S true vm2 vsm1 m.b none), some (cellsR b1 25 [.pointer (some ⟨b_m, 0, none⟩)])], [Fact.sl RegionS vm1 m.l]⟩ from ?_) a w (hs.wkS [2, 3, 7, 37, 45] [0, 1, 2] [0] rfl rfl rfl rfl)
       clear hs hL
       refine TA_step htb (by kernel_rfl) rfl rfl (OpT_bin rfl rfl rfl rfl rfl (bin_sub_u64 (a := atp1) (b := r2.At))) ?_
       refine TA_step htb (by kernel_rfl) rfl rfl (OpT_assign rfl rfl rfl rfl) ?_
       refine TA_end rfl ?_
       refine Tk_wkS (fr' := [(2, some (vU64 np2)), (3, some (.pointer (some ⟨b1, 0, none⟩))), (7, some (vI search1)), (8, some (vU64 (atp1 - r2.At)))]) (own' := [some (cellsR b_m 113 [vm1, vm2]), some (rowsX u8S true vm2 vsm1 m.b none), some (cellsR b1 25 [.pointer (some ⟨b_m, 0, none⟩)])]) (shr' := [Fact.sl RegionS vm1 m.l]) [2, 3, 7, 8] [0, 1, 2] [0] rfl rfl rfl rfl ?_
       refine Tk_seq (Tk_seq (Tk_region (Tops_step rfl (OpT_move rfl rfl rfl rfl) ?_)))
       refine Tops_step rfl (OpT_loadC rfl rfl rfl rfl tyF25 (i := 2) rfl rfl) ?_
       refine Tops_step rfl (OpT_nilCheckP rfl rfl rfl rfl) ?_
       refine Tops_step rfl (OpT_fieldC rfl rfl rfl rfl fldF113x0) ?_
       refine Tops_step rfl (OpT_loadC rfl rfl rfl rfl tyF54 (i := 0) rfl rfl) ?_
       refine Tops_step rfl (OpT_move rfl rfl rfl rfl) ?_
       obtain ⟨r3, hx4, h⟩ := ob_e h
       refine Tops_ex rfl (OpT_idxS rfl rfl rfl rfl rfl slF54 (i := 0) rfl hx4) fun p5 => ?_
       refine Tops_ex rfl (OpT_fieldP (S' := u64S) (y := r3.Len) rfl rfl rfl rfl fldF53x1 (i := 1) rfl (by intro h cs hr; subst hr; rfl)) fun p6 => ?_
       refine Tops_step rfl (OpT_loadP rfl rfl rfl rfl tyF27 (i := 2) rfl rfl) ?_
       refine Tops_step rfl (OpT_move rfl rfl rfl rfl) ?_
       refine Tops_step rfl (OpT_bin rfl rfl rfl rfl rfl (bin_sub_u64 (a := r3.Len) (b := atp1 - r2.At))) ?_
       refine Tops_step rfl (OpT_bin rfl rfl rfl rfl rfl (bin_gtr_u64 (a := np2) (b := r3.Len - (atp1 - r2.At)))) ?_
       refine Tops_nil (Tk_wkS (fr' := [(2, some (vU64 np2)), (3, some (.pointer (some ⟨b1, 0, none⟩))), (7, some (vI search1)), (8, some (vU64 (atp1 - r2.At))), (58, some (vB (decide (np2 > (r3.Len - (atp1 - r2.At))))))]) (own' := [some (cellsR b_m 113 [vm1, vm2]), some (rowsX u8S true vm2 vsm1 m.b none), some (cellsR b1 25 [.pointer (some ⟨b_m, 0, none⟩)])]) (shr' := [Fact.sl RegionS vm1 m.l]) [2, 3, 7, 8, 58] [0, 1, 2] [0] rfl rfl rfl rfl ?_)
       rcases Bool.eq_false_or_eq_true (decide (np2 > (r3.Len - (atp1 - r2.At)))) with hg4 | hg4
       ·replace h := br_t hg4 h
        refine Tk_condT (congrArg (fun b => some (Value.bool b)) hg4) ?_
        refine Tk_seq (Tk_region (Tops_step rfl (OpT_assign rfl rfl rfl rfl) ?_))
        refine Tops_nil (Tk_wkS (fr' := [(6, some (.slice none 0 0))]) (own' := [some (cellsR b_m 113 [vm1, vm2]), some (rowsX u8S true vm2 vsm1 m.b none)]) (shr' := [Fact.sl RegionS vm1 m.l]) [6] [0, 1] [0] rfl rfl rfl rfl ?_)
        obtain rfl := Option.some.inj h
        exact Tk_retV rfl rfl (resA (vs := [.slice none 0 0]) rfl ⟨rfl, trivial⟩) [0, 1] [] rfl rfl rfl ⟨rfl, rfl, rfl⟩
       ·replace h := br_f hg4 h
        refine Tk_condF (congrArg (fun b => some (Value.bool b)) hg4) ?_
        refine Tk_skip (Tk_seq (Tk_region (Tops_step rfl (OpT_loadC rfl rfl rfl rfl tyF25 (i := 2) rfl rfl) ?_)))
        refine Tops_step rfl (OpT_nilCheckP rfl rfl rfl rfl) ?_
        refine Tops_step rfl (OpT_fieldC rfl rfl rfl rfl fldF113x1) ?_
        refine Tops_step rfl (OpT_loadC rfl rfl rfl rfl tyF111 (i := 0) rfl rfl) ?_
        refine Tops_step rfl (OpT_move rfl rfl rfl rfl) ?_
        obtain ⟨row1, hx5, h⟩ := ob_e h
        refine Tops_step rfl (OpT_idxRows rfl rfl rfl rfl rfl slF111 (i := 1) rfl hx5) ?_
        refine Tops_vs (vs_focus (i := 1) (j := search1) rfl hx5) ?_
        refine Tops_step rfl (OpT_loadRow (m := search1) rfl rfl rfl rfl tyF39 (i := 1) rfl) ?_
        refine Tops_step rfl (OpT_move rfl rfl rfl rfl) ?_
        refine Tops_step rfl (OpT_move rfl rfl rfl rfl) ?_
        refine Tops_step rfl (OpT_move rfl rfl rfl rfl) ?_
        refine Tops_step rfl (OpT_bin rfl rfl rfl rfl rfl (bin_add_u64 (a := atp1 - r2.At) (b := np2))) ?_
        obtain ⟨hc1, h⟩ := chk_e h
        refine Tops_step rfl (OpT_subLH (S := u8S) (l := ((atp1 - r2.At).toNat : Int)) (m := (((atp1 - r2.At) + np2).toNat : Int)) rfl rfl rfl rfl rfl rfl slF39 (i := 3) rfl hc1) ?_
        refine Tops_step rfl (OpT_assign rfl rfl rfl rfl) ?_
        refine Tops_nil (Tk_wkS (fr' := [(6, some (subV (vsAt vsm1 (Int.toNat search1)) 1 (Int.toNat ((atp1 - r2.At).toNat : Int)) (Int.toNat (((atp1 - r2.At) + np2).toNat : Int))))]) (own' := [some (cellsR b_m 113 [vm1, vm2]), some (rowsX u8S true vm2 vsm1 m.b (some (Int.toNat search1, vsAt vsm1 (Int.toNat search1)))), some (rowS u8S (vsAt vsm1 (Int.toNat search1)) row1)]) (shr' := [Fact.sl RegionS vm1 m.l]) [6] [0, 1, 3] [0] rfl rfl rfl rfl ?_)
        refine Tk_vs (vs_unfocus0 (i := 1) (q := 2) rfl rfl rfl hx5) ?_
        obtain rfl := Option.some.inj h
        exact Tk_retV rfl rfl (resA (vs := [subV (vsAt vsm1 (Int.toNat search1)) 1 (Int.toNat ((atp1 - r2.At).toNat : Int)) (Int.toNat (((atp1 - r2.At) + np2).toNat : Int))]) rfl ⟨rfl, trivial⟩) [0, 1] [] rfl rfl rfl ⟨rfl, rfl, rfl⟩

set_option maxRecDepth 100000 in
set_option maxHeartbeats 4000000 in
theorem w_gmem_Mem_Write {m : gmem_Mem} {atp1 : UInt64} {arg2 : List UInt8} {b_m : Nat} {vm1 : Value} {vm2 : Value} {vsm1 : List Value} {varg21 : Value} {r : (Int × (List (List UInt8)))} (h : gmem_Mem_Write m atp1 arg2 = some r) :
  Ctr Try.prog 11 #[.pointer (some ⟨b_m, 0, none⟩), vU64 atp1, varg21] [(cellsR b_m 113 [vm1, vm2]), (rowsX u8S true vm2 vsm1 m.b none)] [Fact.sl RegionS vm1 m.l, Fact.sl u8S varg21 arg2]
   (fun rv own shr => rv = vI r.1 ∧ own = [(cellsR b_m 113 [vm1, vm2]), (rowsX u8S true vm2 vsm1 r.2 none)] ∧ shr = []) := by
 unfold gmem_Mem_Write at h
 refine Ctr.mk (args := [.pointer (some ⟨b_m, 0, none⟩), vU64 atp1, varg21]) Try.func11 rfl rfl (fun R0 w0 B => ?_)
 refine Tk_seq (Tk_region (Tops_step rfl (OpT_assign rfl rfl rfl rfl) ?_))
 refine Tops_nil (Tk_wkS (fr' := [(0, some (.pointer (some ⟨b_m, 0, none⟩))), (1, some (vU64 atp1)), (2, some (varg21))]) (own' := [some (cellsR b_m 113 [vm1, vm2]), some (rowsX u8S true vm2 vsm1 m.b none)]) (shr' := [Fact.sl RegionS vm1 m.l, Fact.sl u8S varg21 arg2]) [0, 1, 2] [0, 1] [0, 1] rfl rfl rfl rfl ?_)
 refine Tk_seq (Tk_seq (Tk_region (Tops_step rfl (OpT_move rfl rfl rfl rfl) ?_)))
 obtain ⟨made1, hx1, h⟩ := ob_e h
 refine Tops_exP rfl (OpT_callP [2, 3] (w_gmem_Mem_made hx1) [0, 1] [0] rfl rfl rfl rfl rfl callee37 rfl rfl rfl rfl rfl) ?_
 rintro _ ⟨_, _, _, ⟨rfl, rfl, rfl⟩, rfl⟩
 refine Tops_step rfl (OpT_not rfl rfl rfl rfl) ?_
 refine Tops_nil (Tk_wkS (fr' := [(0, some (.pointer (some ⟨b_m, 0, none⟩))), (1, some (vU64 atp1)), (2, some (varg21)), (10, some (vB (!made1)))]) (own' := [some (cellsR b_m 113 [vm1, vm2]), some (rowsX u8S true vm2 vsm1 m.b none)]) (shr' := [Fact.sl RegionS vm1 m.l, Fact.sl u8S varg21 arg2]) [0, 1, 2, 10] [0, 1] [0, 1] rfl rfl rfl rfl ?_)
 refine Tk_condF (congrArg (fun b => some (Value.bool b)) (congrArg (!·) (Option.some.inj (show some true = some made1 from hx1)).symm)) ?_
 refine Tk_skip (Tk_seq (Tk_seq (Tk_region (Tops_step rfl (OpT_move rfl rfl rfl rfl) ?_))))
 refine Tops_step rfl (OpT_lenS rfl rfl rfl rfl Try.underlying39 (i := 1) rfl) ?_
 refine Tops_step rfl (OpT_bin rfl rfl rfl rfl rfl (bin_eql_i (a := len arg2) (b := (0 : Int)))) ?_
 refine Tops_nil (Tk_wkS (fr' := [(0, some (.pointer (some ⟨b_m, 0, none⟩))), (1, some (vU64 atp1)), (2, some (varg21)), (13, some (vB ((len arg2) == (0 : Int))))]) (own' := [some (cellsR b_m 113 [vm1, vm2]), some (rowsX u8S true vm2 vsm1 m.b none)]) (shr' := [Fact.sl RegionS vm1 m.l, Fact.sl u8S varg21 arg2]) [0, 1, 2, 13] [0, 1] [0, 1] rfl rfl rfl rfl ?_)
 rcases Bool.eq_false_or_eq_true ((len arg2) == (0 : Int)) with hg1 | hg1
 ·replace h := br_t hg1 h
  refine Tk_condT (congrArg (fun b => some (Value.bool b)) hg1) ?_
  refine Tk_seq (Tk_region (Tops_step rfl (OpT_assign rfl rfl rfl rfl) ?_))
  refine Tops_nil (Tk_wkS (fr' := [(6, some (vI (0 : Int)))]) (own' := [some (cellsR b_m 113 [vm1, vm2]), some (rowsX u8S true vm2 vsm1 m.b none)]) (shr' := [Fact.sl RegionS vm1 m.l]) [6] [0, 1] [0] rfl rfl rfl rfl ?_)
  obtain rfl := Option.some.inj h
  exact Tk_retV rfl rfl (resA (vs := [vI (0 : Int)]) rfl ⟨rfl, trivial⟩) [0, 1] [] rfl rfl rfl ⟨rfl, rfl, rfl⟩
 ·replace h := br_f hg1 h
  refine Tk_condF (congrArg (fun b => some (Value.bool b)) hg1) ?_
  refine Tk_skip (Tk_seq (Tk_region (Tops_step rfl (OpT_move rfl rfl rfl rfl) ?_)))
  refine Tops_step rfl (OpT_move rfl rfl rfl rfl) ?_
  refine Tops_step rfl (OpT_move rfl rfl rfl rfl) ?_
  refine Tops_step rfl (OpT_lenS rfl rfl rfl rfl Try.underlying39 (i := 1) rfl) ?_
  refine Tops_step rfl (OpT_cnv rfl rfl rfl rfl (cnv_i_u64 (n := len arg2) Try.underlying3 Try.underlying27)) ?_
  obtain ⟨bytes1, hx2, h⟩ := ob_e h
  refine Tops_exP rfl (OpT_callP [2, 3] (w_gmem_Mem_bytes hx2) [0, 1] [0] rfl rfl rfl rfl rfl callee38 rfl rfl rfl rfl rfl) ?_
  rintro _ ⟨_, _, _, ⟨rfl, rfl, rfl⟩, rfl⟩
  refine Tops_step rfl (OpT_assign rfl rfl rfl rfl) ?_
  refine Tops_nil (Tk_wkS (fr' := [(2, some (varg21)), (7, some (winV 1 vsm1 bytes1))]) (own' := [some (cellsR b_m 113 [vm1, vm2]), some (rowsX u8S true vm2 vsm1 m.b none)]) (shr' := [Fact.sl RegionS vm1 m.l, Fact.sl u8S varg21 arg2]) [2, 7] [0, 1] [0, 1] rfl rfl rfl rfl ?_)
  rcases onO_cases h with ⟨ho1, h⟩ | ⟨w1, ho1, h⟩
  ·refine Tk_eqv (x := winV 1 vsm1 bytes1) (y := .slice none 0 0) (by rw [ho1]; rfl) (fun z => ⟨[(2, some (varg21)), (7, some (z))], [some (cellsR b_m 113 [vm1, vm2]), some (rowsX u8S true vm2 vsm1 m.b none)], [Fact.sl RegionS vm1 m.l, Fact.sl u8S varg21 arg2]⟩) ?_
   refine Tk_seq (Tk_seq (Tk_region (Tops_step rfl (OpT_move rfl rfl rfl rfl) ?_)))
   refine Tops_step rfl (OpT_eqNilN rfl rfl rfl (.inl rfl) rfl rfl Try.underlying39) ?_
   refine Tops_nil (Tk_wkS (fr' := [(2, some (varg21)), (7, some (.slice none 0 0)), (21, some (vB true))]) (own' := [some (cellsR b_m 113 [vm1, vm2]), some (rowsX u8S true vm2 vsm1 m.b none)]) (shr' := [Fact.sl RegionS vm1 m.l, Fact.sl u8S varg21 arg2]) [2, 7, 21] [0, 1] [0, 1] rfl rfl rfl rfl ?_)
   refine Tk_condT rfl ?_
   refine Tk_seq (Tk_region (Tops_step rfl (OpT_assign rfl rfl rfl rfl) ?_))
   refine Tops_nil (Tk_wkS (fr' := [(6, some (vI (5 : Int)))]) (own' := [some (cellsR b_m 113 [vm1, vm2]), some (rowsX u8S true vm2 vsm1 m.b none)]) (shr' := [Fact.sl RegionS vm1 m.l]) [6] [0, 1] [0] rfl rfl rfl rfl ?_)
   obtain rfl := Option.some.inj h
   exact Tk_retV rfl rfl (resA (vs := [vI (5 : Int)]) rfl ⟨rfl, trivial⟩) [0, 1] [] rfl rfl rfl ⟨rfl, rfl, rfl⟩
  ·refine Tk_eqv (x := winV 1 vsm1 bytes1) (y := subV (vsAt vsm1 (Int.toNat w1.1)) 1 (Int.toNat w1.2.1) (Int.toNat w1.2.2)) (by rw [ho1]; rfl) (fun z => ⟨[(2, some (varg21)), (7, some (z))], [some (cellsR b_m 113 [vm1, vm2]), some (rowsX u8S true vm2 vsm1 m.b none)], [Fact.sl RegionS vm1 m.l, Fact.sl u8S varg21 arg2]⟩) ?_
   obtain ⟨row1, hx3, h⟩ := ob_e h
   refine Tk_vs (vs_focus (i := 1) (j := w1.1) rfl hx3) ?_
   obtain ⟨hc1, h⟩ := chk_e h
   refine Tk_seq (Tk_seq (Tk_region (Tops_step rfl (OpT_move rfl rfl rfl rfl) ?_)))
   obtain ⟨hc2, h⟩ := chk_e h
   refine Tops_step rfl (OpT_eqSub (S := u8S) (l := w1.2.1) (m := w1.2.2) rfl rfl rfl (.inl rfl) rfl rfl Try.underlying39 (i := 2) rfl hc1 hc2) ?_
   refine Tops_nil (Tk_wkS (fr' := [(2, some (varg21)), (7, some (subV (vsAt vsm1 (Int.toNat w1.1)) 1 (Int.toNat w1.2.1) (Int.toNat w1.2.2))), (21, some (vB false))]) (own' := [some (cellsR b_m 113 [vm1, vm2]), some (rowsX u8S true vm2 vsm1 m.b (some (Int.toNat w1.1, vsAt vsm1 (Int.toNat w1.1)))), some (rowS u8S (vsAt vsm1 (Int.toNat w1.1)) row1)]) (shr' := [Fact.sl RegionS vm1 m.l, Fact.sl u8S varg21 arg2]) [2, 7, 21] [0, 1, 2] [0, 1] rfl rfl rfl rfl ?_)
   refine Tk_condF rfl ?_
   refine Tk_skip (Tk_seq (Tk_region (Tops_step rfl (OpT_move rfl rfl rfl rfl) ?_)))
   refine Tops_step rfl (OpT_move rfl rfl rfl rfl) ?_
   refine Tops_step rfl (OpT_copyS (S := u8S) (l := w1.2.1) (m := w1.2.2) rfl rfl rfl rfl rfl rfl slF39 (i := 2) (j := 1) rfl rfl hc1) ?_
   refine Tops_nil (Tk_wkS (fr' := []) (own' := [some (cellsR b_m 113 [vm1, vm2]), some (rowsX u8S true vm2 vsm1 m.b (some (Int.toNat w1.1, vsAt vsm1 (Int.toNat w1.1)))), some (rowS u8S (vsAt vsm1 (Int.toNat w1.1)) (copyAt row1 w1.2.1 w1.2.2 arg2))]) (shr' := [Fact.sl RegionS vm1 m.l]) [] [0, 1, 2] [0] rfl rfl rfl rfl ?_)
   refine Tk_vs (vs_unfocus (i := 1) (q := 2) rfl rfl rfl) ?_
   refine Tk_seq (Tk_region (Tops_step rfl (OpT_assign rfl rfl rfl rfl) ?_))
   refine Tops_nil (Tk_wkS (fr' := [(6, some (vI (0 : Int)))]) (own' := [some (cellsR b_m 113 [vm1, vm2]), some (rowsX u8S true vm2 vsm1 (m.b.set (Int.toNat w1.1) (copyAt row1 w1.2.1 w1.2.2 arg2)) none)]) (shr' := [Fact.sl RegionS vm1 m.l]) [6] [0, 1] [0] rfl rfl rfl rfl ?_)
   obtain rfl := Option.some.inj h
   exact Tk_retV rfl rfl (resA (vs := [vI (0 : Int)]) rfl ⟨rfl, trivial⟩) [0, 1] [] rfl rfl rfl ⟨rfl, rfl, rfl⟩

set_option maxRecDepth 100000 in
set_option maxHeartbeats 4000000 in
theorem w_slices_Clone_bytebyte {sp0 : List UInt8} {vsp01 : Value} {r : (List UInt8)} (h : slices_Clone_bytebyte sp0 = some r) :
  Ctr Try.prog 107 #[vsp01] [] [Fact.sl u8S vsp01 sp0]
   (fun rv own shr => ∃ (w1 : Value), rv = w1 ∧ own = [(rowS u8S w1 r)] ∧ shr = []) := by
 unfold slices_Clone_bytebyte at h
 refine Ctr.mk (args := [vsp01]) Try.func107 rfl rfl (fun R0 w0 B => ?_)
 refine Tk_seq (Tk_region (Tops_step rfl (OpT_assign rfl rfl rfl rfl) ?_))
 refine Tops_nil (Tk_wkS (fr' := [(0, some (vsp01))]) (own' := []) (shr' := [Fact.sl u8S vsp01 sp0]) [0] [] [0] rfl rfl rfl rfl ?_)
 refine Tk_seq (Tk_seq (Tk_region (Tops_step rfl (OpT_move rfl rfl rfl rfl) ?_)))
 refine Tops_exP rfl (OpT_eqNil rfl rfl rfl (.inl rfl) rfl rfl Try.underlying39 (i := 0) rfl) ?_
 rintro _ ⟨q1, hq1, rfl⟩
 refine Tops_nil (Tk_wkS (fr' := [(0, some (vsp01)), (4, some (vB q1))]) (own' := []) (shr' := [Fact.sl u8S vsp01 sp0]) [0, 4] [] [0] rfl rfl rfl rfl ?_)
 rcases Bool.eq_false_or_eq_true q1 with hg1 | hg1
 ·obtain rfl := hq1 hg1
  replace h : some ([] : List UInt8) = some r := h
  refine Tk_condT (congrArg (fun b => some (Value.bool b)) hg1) ?_
  refine Tk_seq (Tk_region (Tops_step rfl (OpT_assign rfl rfl rfl rfl) ?_))
  refine Tops_nil (Tk_wkS (fr' := [(2, some (.slice none 0 0))]) (own' := []) (shr' := []) [2] [] [] rfl rfl rfl rfl ?_)
  refine Tk_nilrow u8S ?_
  obtain rfl := Option.some.inj h
  exact Tk_retV rfl rfl (resA (vs := [.slice none 0 0]) rfl ⟨rfl, trivial⟩) [0] [] rfl rfl rfl ⟨(.slice none 0 0), rfl, rfl, rfl⟩
 ·refine Tk_condF (congrArg (fun b => some (Value.bool b)) hg1) ?_
  refine Tk_skip (Tk_seq (Tk_region (Tops_ex rfl (OpT_buildSlice (S := u8S) (xs := ([] : List UInt8)) (css := []) (cs := []) (e := 5) rfl rfl rfl rfl (bldF slF39 (by decide) (by kernel_rfl)) rfl rfl rfl rfl (rel_plainD (S := u8S) (xs := ([] : List UInt8)) (css := []) rfl rfl)) fun v1 => ?_)))
  refine Tops_step rfl (OpT_move rfl rfl rfl rfl) ?_
  obtain ⟨hc1, h⟩ := chk_e h
  refine Tops_ex rfl (OpT_append rfl rfl rfl rfl rfl slF39 (i := 0) (j := 0) rfl rfl hc1) fun v2 => ?_
  refine Tops_step rfl (OpT_assign rfl rfl rfl rfl) ?_
  refine Tops_nil (Tk_wkS (fr' := [(2, some (v2))]) (own' := [some (rowS u8S v2 sp0)]) (shr' := []) [2] [0] [] rfl rfl rfl rfl ?_)
  obtain rfl := Option.some.inj h
  exact Tk_retV rfl rfl (resA (vs := [v2]) rfl ⟨rfl, trivial⟩) [0] [] rfl rfl rfl ⟨v2, rfl, rfl, rfl⟩

set_option maxRecDepth 100000 in
set_option maxHeartbeats 4000000 in
theorem w_gmem_Mem_Read {m : gmem_Mem} {atp1 : UInt64} {np2 : Int} {b_m : Nat} {vm1 : Value} {vm2 : Value} {vsm1 : List Value} {r : ((List UInt8) × Int)} (h : gmem_Mem_Read m atp1 np2 = some r) :
  Ctr Try.prog 82 #[.pointer (some ⟨b_m, 0, none⟩), vU64 atp1, vI np2] [(cellsR b_m 113 [vm1, vm2]), (rowsX u8S true vm2 vsm1 m.b none)] [Fact.sl RegionS vm1 m.l]
   (fun rv own shr => ∃ (w1 : Value), rv = .tuple #[w1, vI r.2] ∧ own = [(cellsR b_m 113 [vm1, vm2]), (rowsX u8S true vm2 vsm1 m.b none), (rowS u8S w1 r.1)] ∧ shr = []) := by
 unfold gmem_Mem_Read at h
 refine Ctr.mk (args := [.pointer (some ⟨b_m, 0, none⟩), vU64 atp1, vI np2]) Try.func82 rfl rfl (fun R0 w0 B => ?_)
 refine Tk_seq (Tk_region (Tops_step rfl (OpT_assign rfl rfl rfl rfl) ?_))
 refine Tops_step rfl (OpT_assign rfl rfl rfl rfl) ?_
 refine Tops_nil (Tk_wkS (fr' := [(0, some (.pointer (some ⟨b_m, 0, none⟩))), (1, some (vU64 atp1)), (2, some (vI np2))]) (own' := [some (cellsR b_m 113 [vm1, vm2]), some (rowsX u8S true vm2 vsm1 m.b none)]) (shr' := [Fact.sl RegionS vm1 m.l]) [0, 1, 2] [0, 1] [0] rfl rfl rfl rfl ?_)
 refine Tk_seq (Tk_seq (Tk_region (Tops_step rfl (OpT_move rfl rfl rfl rfl) ?_)))
 obtain ⟨made1, hx1, h⟩ := ob_e h
 refine Tops_exP rfl (OpT_callP [2, 3] (w_gmem_Mem_made hx1) [0, 1] [0] rfl rfl rfl rfl rfl callee37 rfl rfl rfl rfl rfl) ?_
 rintro _ ⟨_, _, _, ⟨rfl, rfl, rfl⟩, rfl⟩
 refine Tops_step rfl (OpT_not rfl rfl rfl rfl) ?_
 refine Tops_nil (Tk_wkS (fr' := [(0, some (.pointer (some ⟨b_m, 0, none⟩))), (1, some (vU64 atp1)), (2, some (vI np2)), (11, some (vB (!made1)))]) (own' := [some (cellsR b_m 113 [vm1, vm2]), some (rowsX u8S true vm2 vsm1 m.b none)]) (shr' := [Fact.sl RegionS vm1 m.l]) [0, 1, 2, 11] [0, 1] [0] rfl rfl rfl rfl ?_)
 refine Tk_condF (congrArg (fun b => some (Value.bool b)) (congrArg (!·) (Option.some.inj (show some true = some made1 from hx1)).symm)) ?_
 refine Tk_skip (Tk_seq (Tk_block (Tk_seq (Tk_region (Tops_step rfl (OpT_move rfl rfl rfl rfl) ?_)))))
 refine Tops_step rfl (OpT_bin rfl rfl rfl rfl rfl (bin_lss_i (a := np2) (b := (0 : Int)))) ?_
 refine Tops_step rfl (OpT_assign rfl rfl rfl rfl) ?_
 refine Tops_nil (Tk_wkS (fr' := [(0, some (.pointer (some ⟨b_m, 0, none⟩))), (1, some (vU64 atp1)), (2, some (vI np2)), (12, some (vB (decide (np2 < (0 : Int)))))]) (own' := [some (cellsR b_m 113 [vm1, vm2]), some (rowsX u8S true vm2 vsm1 m.b none)]) (shr' := [Fact.sl RegionS vm1 m.l]) [0, 1, 2, 12] [0, 1] [0] rfl rfl rfl rfl ?_)
 rcases Bool.eq_false_or_eq_true (decide (np2 < (0 : Int))) with hg1 | hg1
 ·replace h := br_t hg1 h
  refine Tk_condT (congrArg (fun b => some (Value.bool b)) hg1) ?_
  refine Tk_seq (Tk_region (Tops_step rfl (OpT_assign rfl rfl rfl rfl) ?_))
  refine Tops_step rfl (OpT_assign rfl rfl rfl rfl) ?_
  refine Tops_nil (Tk_wkS (fr' := [(6, some (.slice none 0 0)), (7, some (vI (2 : Int)))]) (own' := [some (cellsR b_m 113 [vm1, vm2]), some (rowsX u8S true vm2 vsm1 m.b none)]) (shr' := [Fact.sl RegionS vm1 m.l]) [6, 7] [0, 1] [0] rfl rfl rfl rfl ?_)
  refine Tk_nilrow u8S ?_
  obtain rfl := Option.some.inj h
  exact Tk_retV rfl rfl (resA (vs := [.slice none 0 0, vI (2 : Int)]) rfl ⟨rfl, rfl, trivial⟩) [0, 1, 2] [] rfl rfl rfl ⟨(.slice none 0 0), rfl, rfl, rfl⟩
 ·replace h := br_f hg1 h
  refine Tk_condF (congrArg (fun b => some (Value.bool b)) hg1) ?_
  refine Tk_seq (Tk_region (Tops_step rfl (OpT_move rfl rfl rfl rfl) ?_))
  refine Tops_step rfl (OpT_bin rfl rfl rfl rfl rfl (bin_eql_i (a := np2) (b := (0 : Int)))) ?_
  refine Tops_step rfl (OpT_assign rfl rfl rfl rfl) ?_
  refine Tops_nil (Tk_wkS (fr' := [(0, some (.pointer (some ⟨b_m, 0, none⟩))), (1, some (vU64 atp1)), (2, some (vI np2)), (15, some (vB (np2 == (0 : Int))))]) (own' := [some (cellsR b_m 113 [vm1, vm2]), some (rowsX u8S true vm2 vsm1 m.b none)]) (shr' := [Fact.sl RegionS vm1 m.l]) [0, 1, 2, 15] [0, 1] [0] rfl rfl rfl rfl ?_)
  rcases Bool.eq_false_or_eq_true (np2 == (0 : Int)) with hg2 | hg2
  ·replace h := br_t hg2 h
   refine Tk_condT (congrArg (fun b => some (Value.bool b)) hg2) ?_
   refine Tk_seq (Tk_region (Tops_step rfl (OpT_assign rfl rfl rfl rfl) ?_))
   refine Tops_step rfl (OpT_assign rfl rfl rfl rfl) ?_
   refine Tops_nil (Tk_wkS (fr' := [(6, some (.slice none 0 0)), (7, some (vI (0 : Int)))]) (own' := [some (cellsR b_m 113 [vm1, vm2]), some (rowsX u8S true vm2 vsm1 m.b none)]) (shr' := [Fact.sl RegionS vm1 m.l]) [6, 7] [0, 1] [0] rfl rfl rfl rfl ?_)
   refine Tk_nilrow u8S ?_
   obtain rfl := Option.some.inj h
   exact Tk_retV rfl rfl (resA (vs := [.slice none 0 0, vI (0 : Int)]) rfl ⟨rfl, rfl, trivial⟩) [0, 1, 2] [] rfl rfl rfl ⟨(.slice none 0 0), rfl, rfl, rfl⟩
  ·replace h := br_f hg2 h
   refine Tk_condF (congrArg (fun b => some (Value.bool b)) hg2) ?_
   refine Tk_skip (Tk_blk (Tk_seq (Tk_region (Tops_step rfl (OpT_move rfl rfl rfl rfl) ?_))))
   refine Tops_step rfl (OpT_move rfl rfl rfl rfl) ?_
   refine Tops_step rfl (OpT_move rfl rfl rfl rfl) ?_
   refine Tops_step rfl (OpT_cnv rfl rfl rfl rfl (cnv_i_u64 (n := np2) Try.underlying3 Try.underlying27)) ?_
   obtain ⟨bytes1, hx2, h⟩ := ob_e h
   refine Tops_exP rfl (OpT_callP [2, 3] (w_gmem_Mem_bytes hx2) [0, 1] [0] rfl rfl rfl rfl rfl callee38 rfl rfl rfl rfl rfl) ?_
   rintro _ ⟨_, _, _, ⟨rfl, rfl, rfl⟩, rfl⟩
   refine Tops_step rfl (OpT_assign rfl rfl rfl rfl) ?_
   refine Tops_nil (Tk_wkS (fr' := [(8, some (winV 1 vsm1 bytes1))]) (own' := [some (cellsR b_m 113 [vm1, vm2]), some (rowsX u8S true vm2 vsm1 m.b none)]) (shr' := [Fact.sl RegionS vm1 m.l]) [8] [0, 1] [0] rfl rfl rfl rfl ?_)
   rcases onO_cases h with ⟨ho1, h⟩ | ⟨w1, ho1, h⟩
   ·refine Tk_eqv (x := winV 1 vsm1 bytes1) (y := .slice none 0 0) (by rw [ho1]; rfl) (fun z => ⟨[(8, some (z))], [some (cellsR b_m 113 [vm1, vm2]), some (rowsX u8S true vm2 vsm1 m.b none)], [Fact.sl RegionS vm1 m.l]⟩) ?_
    refine Tk_seq (Tk_seq (Tk_region (Tops_step rfl (OpT_move rfl rfl rfl rfl) ?_)))
    refine Tops_step rfl (OpT_eqNilN rfl rfl rfl (.inl rfl) rfl rfl Try.underlying39) ?_
    refine Tops_nil (Tk_wkS (fr' := [(8, some (.slice none 0 0)), (24, some (vB true))]) (own' := [some (cellsR b_m 113 [vm1, vm2]), some (rowsX u8S true vm2 vsm1 m.b none)]) (shr' := [Fact.sl RegionS vm1 m.l]) [8, 24] [0, 1] [0] rfl rfl rfl rfl ?_)
    refine Tk_condT rfl ?_
    refine Tk_seq (Tk_region (Tops_step rfl (OpT_assign rfl rfl rfl rfl) ?_))
    refine Tops_step rfl (OpT_assign rfl rfl rfl rfl) ?_
    refine Tops_nil (Tk_wkS (fr' := [(6, some (.slice none 0 0)), (7, some (vI (5 : Int)))]) (own' := [some (cellsR b_m 113 [vm1, vm2]), some (rowsX u8S true vm2 vsm1 m.b none)]) (shr' := [Fact.sl RegionS vm1 m.l]) [6, 7] [0, 1] [0] rfl rfl rfl rfl ?_)
    refine Tk_nilrow u8S ?_
    obtain rfl := Option.some.inj h
    exact Tk_retV rfl rfl (resA (vs := [.slice none 0 0, vI (5 : Int)]) rfl ⟨rfl, rfl, trivial⟩) [0, 1, 2] [] rfl rfl rfl ⟨(.slice none 0 0), rfl, rfl, rfl⟩
   ·refine Tk_eqv (x := winV 1 vsm1 bytes1) (y := subV (vsAt vsm1 (Int.toNat w1.1)) 1 (Int.toNat w1.2.1) (Int.toNat w1.2.2)) (by rw [ho1]; rfl) (fun z => ⟨[(8, some (z))], [some (cellsR b_m 113 [vm1, vm2]), some (rowsX u8S true vm2 vsm1 m.b none)], [Fact.sl RegionS vm1 m.l]⟩) ?_
    obtain ⟨row1, hx3, h⟩ := ob_e h
    refine Tk_vs (vs_focus (i := 1) (j := w1.1) rfl hx3) ?_
    obtain ⟨hc1, h⟩ := chk_e h
    refine Tk_seq (Tk_seq (Tk_region (Tops_step rfl (OpT_move rfl rfl rfl rfl) ?_)))
    obtain ⟨hc2, h⟩ := chk_e h
    refine Tops_step rfl (OpT_eqSub (S := u8S) (l := w1.2.1) (m := w1.2.2) rfl rfl rfl (.inl rfl) rfl rfl Try.underlying39 (i := 2) rfl hc1 hc2) ?_
    refine Tops_nil (Tk_wkS (fr' := [(8, some (subV (vsAt vsm1 (Int.toNat w1.1)) 1 (Int.toNat w1.2.1) (Int.toNat w1.2.2))), (24, some (vB false))]) (own' := [some (cellsR b_m 113 [vm1, vm2]), some (rowsX u8S true vm2 vsm1 m.b (some (Int.toNat w1.1, vsAt vsm1 (Int.toNat w1.1)))), some (rowS u8S (vsAt vsm1 (Int.toNat w1.1)) row1)]) (shr' := [Fact.sl RegionS vm1 m.l]) [8, 24] [0, 1, 2] [0] rfl rfl rfl rfl ?_)
    refine Tk_condF rfl ?_
    refine Tk_skip (Tk_seq (Tk_region (Tops_step rfl (OpT_move rfl rfl rfl rfl) ?_)))
    obtain ⟨cloneb1, hx4, h⟩ := ob_e h
    refine Tops_exP rfl (OpT_callB [2] [0, 1, 2, 3] (w_slices_Clone_bytebyte hx4) [] rfl rfl rfl rfl rfl callee107 rfl rfl rfl rfl rfl rfl (bor_cons (bor_sub (S := u8S) (l := w1.2.1) (m := w1.2.2) 2 rfl rfl hc1) bor_nil) (by rintro _ _ _ ⟨_, rfl, rfl, rfl⟩; exact ⟨rfl, (ri_cons (ri_row (S := u8S) rfl _ _) ri_nil)⟩)) ?_
    rintro _ ⟨v1, _, _, ⟨_, rfl, rfl, rfl⟩, rfl⟩
    refine Tops_step rfl (OpT_assign rfl rfl rfl rfl) ?_
    refine Tops_step rfl (OpT_assign rfl rfl rfl rfl) ?_
    refine Tops_nil (Tk_wkS (fr' := [(6, some (v1)), (7, some (vI (0 : Int)))]) (own' := [some (cellsR b_m 113 [vm1, vm2]), some (rowsX u8S true vm2 vsm1 m.b (some (Int.toNat w1.1, vsAt vsm1 (Int.toNat w1.1)))), some (rowS u8S (vsAt vsm1 (Int.toNat w1.1)) row1), some (rowS u8S v1 cloneb1)]) (shr' := [Fact.sl RegionS vm1 m.l]) [6, 7] [0, 1, 2, 3] [0] rfl rfl rfl rfl ?_)
    refine Tk_vs (vs_unfocus0 (i := 1) (q := 2) rfl rfl rfl hx3) ?_
    obtain rfl := Option.some.inj h
    exact Tk_retV rfl rfl (resA (vs := [v1, vI (0 : Int)]) rfl ⟨rfl, rfl, trivial⟩) [0, 1, 3] [] rfl rfl rfl ⟨v1, rfl, rfl, rfl⟩

set_option maxRecDepth 100000 in
set_option maxHeartbeats 4000000 in
theorem w_serial_isSize {np0 : Int} {r : Bool} (h : serial_isSize np0 = some r) :
  Ctr Try.prog 91 #[vI np0] [] []
   (fun rv own shr => rv = vB r ∧ own = [] ∧ shr = []) := by
 unfold serial_isSize at h
 refine Ctr.mk (args := [vI np0]) Try.func91 rfl rfl (fun R0 w0 B => ?_)
 refine Tk_seq (Tk_region (Tops_step rfl (OpT_assign rfl rfl rfl rfl) ?_))
 refine Tops_nil (Tk_wkS (fr' := [(0, some (vI np0))]) (own' := []) (shr' := []) [0] [] [] rfl rfl rfl rfl ?_)
 refine Tk_seq (Tk_region (Tops_step rfl (OpT_move rfl rfl rfl rfl) ?_))
 refine Tops_step rfl (OpT_bin rfl rfl rfl rfl rfl (bin_geq_i (a := np0) (b := (1 : Int)))) ?_
 refine Tops_step rfl (OpT_move rfl rfl rfl rfl) ?_
 rcases Bool.eq_false_or_eq_true (decide (np0 ≥ (1 : Int))) with hg1 | hg1
 ·replace h := br_t hg1 h
  refine Tops_yes rfl rfl (congrArg (fun b => some (Value.bool b)) hg1) (OpT_move rfl rfl rfl rfl) ?_
  rintro _ rfl
  refine Tops_yes rfl rfl (congrArg (fun b => some (Value.bool b)) hg1) (OpT_bin rfl rfl rfl rfl rfl (bin_leq_i (a := np0) (b := (32768 : Int)))) ?_
  rintro _ rfl
  refine Tops_step rfl (OpT_pickT rfl rfl rfl (congrArg (fun b => some (Value.bool b)) hg1) rfl) ?_
  refine Tops_step rfl (OpT_assign rfl rfl rfl rfl) ?_
  refine Tops_nil (Tk_wkS (fr' := [(2, some (vB (decide (np0 ≤ (32768 : Int)))))]) (own' := []) (shr' := []) [2] [] [] rfl rfl rfl rfl ?_)
  obtain rfl := Option.some.inj h
  exact Tk_retV rfl rfl (resA (vs := [vB (decide (np0 ≤ (32768 : Int)))]) rfl ⟨rfl, trivial⟩) [] [] rfl rfl rfl ⟨rfl, rfl, rfl⟩
 ·replace h := br_f hg1 h
  refine Tops_no rfl rfl (congrArg (fun b => some (Value.bool b)) hg1) rfl rfl ?_
  refine Tops_no rfl rfl (congrArg (fun b => some (Value.bool b)) hg1) rfl rfl ?_
  refine Tops_step rfl (OpT_pickF rfl rfl rfl (congrArg (fun b => some (Value.bool b)) hg1) rfl) ?_
  refine Tops_step rfl (OpT_assign rfl rfl rfl rfl) ?_
  refine Tops_nil (Tk_wkS (fr' := [(2, some (vB false))]) (own' := []) (shr' := []) [2] [] [] rfl rfl rfl rfl ?_)
  obtain rfl := Option.some.inj h
  exact Tk_retV rfl rfl (resA (vs := [vB false]) rfl ⟨rfl, trivial⟩) [] [] rfl rfl rfl ⟨rfl, rfl, rfl⟩

set_option maxRecDepth 100000 in
set_option maxHeartbeats 4000000 in
theorem w_serial_Power {np0 : Int} {r : Bool} (h : serial_Power np0 = some r) :
  Ctr Try.prog 117 #[vI np0] [] []
   (fun rv own shr => rv = vB r ∧ own = [] ∧ shr = []) := by
 unfold serial_Power at h
 refine Ctr.mk (args := [vI np0]) Try.func117 rfl rfl (fun R0 w0 B => ?_)
 refine Tk_seq (Tk_region (Tops_step rfl (OpT_assign rfl rfl rfl rfl) ?_))
 refine Tops_nil (Tk_wkS (fr' := [(0, some (vI np0))]) (own' := []) (shr' := []) [0] [] [] rfl rfl rfl rfl ?_)
 refine Tk_seq (Tk_region (Tops_step rfl (OpT_move rfl rfl rfl rfl) ?_))
 obtain ⟨issize1, hx1, h⟩ := ob_e h
 refine Tops_exP rfl (OpT_call (w_serial_isSize hx1) [] [] rfl rfl rfl rfl rfl callee91 rfl rfl rfl rfl) ?_
 rintro _ ⟨_, _, _, ⟨rfl, rfl, rfl⟩, rfl⟩
 refine Tops_step rfl (OpT_move rfl rfl rfl rfl) ?_
 rcases Bool.eq_false_or_eq_true (issize1) with hg1 | hg1
 ·replace h := br_t hg1 h
  refine Tops_yes rfl rfl (congrArg (fun b => some (Value.bool b)) hg1) (OpT_move rfl rfl rfl rfl) ?_
  rintro _ rfl
  refine Tops_yes rfl rfl (congrArg (fun b => some (Value.bool b)) hg1) (OpT_move rfl rfl rfl rfl) ?_
  rintro _ rfl
  refine Tops_yes rfl rfl (congrArg (fun b => some (Value.bool b)) hg1) (OpT_bin rfl rfl rfl rfl rfl (bin_sub_i (a := np0) (b := (1 : Int)))) ?_
  rintro _ rfl
  refine Tops_yes rfl rfl (congrArg (fun b => some (Value.bool b)) hg1) (OpT_bin rfl rfl rfl rfl rfl (bin_and_i (a := np0) (b := wi (np0 - (1 : Int))))) ?_
  rintro _ rfl
  refine Tops_yes rfl rfl (congrArg (fun b => some (Value.bool b)) hg1) (OpT_bin rfl rfl rfl rfl rfl (bin_eql_i (a := andi np0 (wi (np0 - (1 : Int)))) (b := (0 : Int)))) ?_
  rintro _ rfl
  refine Tops_step rfl (OpT_pickT rfl rfl rfl (congrArg (fun b => some (Value.bool b)) hg1) rfl) ?_
  refine Tops_step rfl (OpT_assign rfl rfl rfl rfl) ?_
  refine Tops_nil (Tk_wkS (fr' := [(2, some (vB ((andi np0 (wi (np0 - (1 : Int)))) == (0 : Int))))]) (own' := []) (shr' := []) [2] [] [] rfl rfl rfl rfl ?_)
  obtain rfl := Option.some.inj h
  exact Tk_retV rfl rfl (resA (vs := [vB ((andi np0 (wi (np0 - (1 : Int)))) == (0 : Int))]) rfl ⟨rfl, trivial⟩) [] [] rfl rfl rfl ⟨rfl, rfl, rfl⟩
 ·replace h := br_f hg1 h
  refine Tops_no rfl rfl (congrArg (fun b => some (Value.bool b)) hg1) rfl rfl ?_
  refine Tops_no rfl rfl (congrArg (fun b => some (Value.bool b)) hg1) rfl rfl ?_
  refine Tops_no rfl rfl (congrArg (fun b => some (Value.bool b)) hg1) rfl rfl ?_
  refine Tops_no rfl rfl (congrArg (fun b => some (Value.bool b)) hg1) rfl rfl ?_
  refine Tops_no rfl rfl (congrArg (fun b => some (Value.bool b)) hg1) rfl rfl ?_
  refine Tops_step rfl (OpT_pickF rfl rfl rfl (congrArg (fun b => some (Value.bool b)) hg1) rfl) ?_
  refine Tops_step rfl (OpT_assign rfl rfl rfl rfl) ?_
  refine Tops_nil (Tk_wkS (fr' := [(2, some (vB false))]) (own' := []) (shr' := []) [2] [] [] rfl rfl rfl rfl ?_)
  obtain rfl := Option.some.inj h
  exact Tk_retV rfl rfl (resA (vs := [vB false]) rfl ⟨rfl, trivial⟩) [] [] rfl rfl rfl ⟨rfl, rfl, rfl⟩

set_option maxRecDepth 100000 in
set_option maxHeartbeats 4000000 in
theorem w_layout_isSize {rp0 : Rings} {r : Bool} (h : layout_isSize rp0 = some r) :
  Ctr Try.prog 108 #[.agg #[vB rp0.Packed, vI rp0.Size, vU64 rp0.Desc, vU64 rp0.Driver, vU64 rp0.Device]] [] []
   (fun rv own shr => rv = vB r ∧ own = [] ∧ shr = []) := by
 unfold layout_isSize at h
 refine Ctr.mk (args := [.agg #[vB rp0.Packed, vI rp0.Size, vU64 rp0.Desc, vU64 rp0.Driver, vU64 rp0.Device]]) Try.func108 rfl rfl (fun R0 w0 B => ?_)
 refine Tk_seq (Tk_region (Tops_ex rfl (OpT_box rfl rfl rfl rfl) fun b1 => ?_))
 refine Tops_step rfl (OpT_assign rfl rfl rfl rfl) ?_
 refine Tops_nil (Tk_wkS (fr' := [(1, some (.pointer (some ⟨b1, 0, none⟩)))]) (own' := [some (cellsR b1 29 [vB rp0.Packed, vI rp0.Size, vU64 rp0.Desc, vU64 rp0.Driver, vU64 rp0.Device])]) (shr' := []) [1] [0] [] rfl rfl rfl rfl ?_)
 refine Tk_seq (Tk_seq (Tk_region (Tops_step rfl (OpT_fieldC rfl rfl rfl rfl fldF29x0) ?_)))
 refine Tops_step rfl (OpT_loadC rfl rfl rfl rfl tyF4 (i := 0) rfl rfl) ?_
 refine Tops_nil (Tk_wkS (fr' := [(1, some (.pointer (some ⟨b1, 0, none⟩))), (4, some (vB rp0.Packed))]) (own' := [some (cellsR b1 29 [vB rp0.Packed, vI rp0.Size, vU64 rp0.Desc, vU64 rp0.Driver, vU64 rp0.Device])]) (shr' := []) [1, 4] [0] [] rfl rfl rfl rfl ?_)
 rcases Bool.eq_false_or_eq_true (rp0.Packed) with hg1 | hg1
 ·replace h := br_t hg1 h
  refine Tk_condT (congrArg (fun b => some (Value.bool b)) hg1) ?_
  refine Tk_seq (Tk_region (Tops_step rfl (OpT_fieldC rfl rfl rfl rfl fldF29x1) ?_))
  refine Tops_step rfl (OpT_loadC rfl rfl rfl rfl tyF3 (i := 0) rfl rfl) ?_
  refine Tops_step rfl (OpT_bin rfl rfl rfl rfl rfl (bin_geq_i (a := rp0.Size) (b := (1 : Int)))) ?_
  refine Tops_step rfl (OpT_move rfl rfl rfl rfl) ?_
  rcases Bool.eq_false_or_eq_true (decide (rp0.Size ≥ (1 : Int))) with hg2 | hg2
  ·replace h := br_t hg2 h
   refine Tops_yes rfl rfl (congrArg (fun b => some (Value.bool b)) hg2) (OpT_fieldC rfl rfl rfl rfl fldF29x1) ?_
   rintro _ rfl
   refine Tops_yes rfl rfl (congrArg (fun b => some (Value.bool b)) hg2) (OpT_loadC rfl rfl rfl rfl tyF3 (i := 0) rfl rfl) ?_
   rintro _ rfl
   refine Tops_yes rfl rfl (congrArg (fun b => some (Value.bool b)) hg2) (OpT_bin rfl rfl rfl rfl rfl (bin_leq_i (a := rp0.Size) (b := (32768 : Int)))) ?_
   rintro _ rfl
   refine Tops_step rfl (OpT_pickT rfl rfl rfl (congrArg (fun b => some (Value.bool b)) hg2) rfl) ?_
   refine Tops_step rfl (OpT_assign rfl rfl rfl rfl) ?_
   refine Tops_nil (Tk_wkS (fr' := [(2, some (vB (decide (rp0.Size ≤ (32768 : Int)))))]) (own' := []) (shr' := []) [2] [] [] rfl rfl rfl rfl ?_)
   obtain rfl := Option.some.inj h
   exact Tk_retV rfl rfl (resA (vs := [vB (decide (rp0.Size ≤ (32768 : Int)))]) rfl ⟨rfl, trivial⟩) [] [] rfl rfl rfl ⟨rfl, rfl, rfl⟩
  ·replace h := br_f hg2 h
   refine Tops_no rfl rfl (congrArg (fun b => some (Value.bool b)) hg2) rfl rfl ?_
   refine Tops_no rfl rfl (congrArg (fun b => some (Value.bool b)) hg2) rfl rfl ?_
   refine Tops_no rfl rfl (congrArg (fun b => some (Value.bool b)) hg2) rfl rfl ?_
   refine Tops_step rfl (OpT_pickF rfl rfl rfl (congrArg (fun b => some (Value.bool b)) hg2) rfl) ?_
   refine Tops_step rfl (OpT_assign rfl rfl rfl rfl) ?_
   refine Tops_nil (Tk_wkS (fr' := [(2, some (vB false))]) (own' := []) (shr' := []) [2] [] [] rfl rfl rfl rfl ?_)
   obtain rfl := Option.some.inj h
   exact Tk_retV rfl rfl (resA (vs := [vB false]) rfl ⟨rfl, trivial⟩) [] [] rfl rfl rfl ⟨rfl, rfl, rfl⟩
 ·replace h := br_f hg1 h
  refine Tk_condF (congrArg (fun b => some (Value.bool b)) hg1) ?_
  refine Tk_skip (Tk_seq (Tk_region (Tops_step rfl (OpT_fieldC rfl rfl rfl rfl fldF29x1) ?_)))
  refine Tops_step rfl (OpT_loadC rfl rfl rfl rfl tyF3 (i := 0) rfl rfl) ?_
  obtain ⟨power1, hx1, h⟩ := ob_e h
  refine Tops_exP rfl (OpT_call (w_serial_Power hx1) [] [] rfl rfl rfl rfl rfl callee117 rfl rfl rfl rfl) ?_
  rintro _ ⟨_, _, _, ⟨rfl, rfl, rfl⟩, rfl⟩
  refine Tops_step rfl (OpT_assign rfl rfl rfl rfl) ?_
  refine Tops_nil (Tk_wkS (fr' := [(2, some (vB power1))]) (own' := []) (shr' := []) [2] [] [] rfl rfl rfl rfl ?_)
  obtain rfl := Option.some.inj h
  exact Tk_retV rfl rfl (resA (vs := [vB power1]) rfl ⟨rfl, trivial⟩) [] [] rfl rfl rfl ⟨rfl, rfl, rfl⟩

set_option maxRecDepth 100000 in
set_option maxHeartbeats 4000000 in
theorem w_layout_Parts {rp0 : Rings} {r : (UInt64 × UInt64 × UInt64)} (h : layout_Parts rp0 = some r) :
  Ctr Try.prog 118 #[.agg #[vB rp0.Packed, vI rp0.Size, vU64 rp0.Desc, vU64 rp0.Driver, vU64 rp0.Device]] [] []
   (fun rv own shr => rv = .tuple #[vU64 r.1, vU64 r.2.1, vU64 r.2.2] ∧ own = [] ∧ shr = []) := by
 unfold layout_Parts at h
 refine Ctr.mk (args := [.agg #[vB rp0.Packed, vI rp0.Size, vU64 rp0.Desc, vU64 rp0.Driver, vU64 rp0.Device]]) Try.func118 rfl rfl (fun R0 w0 B => ?_)
 refine Tk_seq (Tk_region (Tops_ex rfl (OpT_box rfl rfl rfl rfl) fun b1 => ?_))
 refine Tops_step rfl (OpT_assign rfl rfl rfl rfl) ?_
 refine Tops_step rfl (OpT_assign rfl rfl rfl rfl) ?_
 refine Tops_step rfl (OpT_assign rfl rfl rfl rfl) ?_
 refine Tops_nil (Tk_wkS (fr' := [(1, some (.pointer (some ⟨b1, 0, none⟩)))]) (own' := [some (cellsR b1 29 [vB rp0.Packed, vI rp0.Size, vU64 rp0.Desc, vU64 rp0.Driver, vU64 rp0.Device])]) (shr' := []) [1] [0] [] rfl rfl rfl rfl ?_)
 refine Tk_seq (Tk_seq (Tk_region (Tops_step rfl (OpT_loadCA (vs := [vB rp0.Packed, vI rp0.Size, vU64 rp0.Desc, vU64 rp0.Driver, vU64 rp0.Device]) rfl rfl rfl rfl tyF29 (i := 0) rfl rfl rfl) ?_)))
 obtain ⟨issize1, hx1, h⟩ := ob_e h
 refine Tops_exP rfl (OpT_call (w_layout_isSize hx1) [] [] rfl rfl rfl rfl rfl callee108 rfl rfl rfl rfl) ?_
 rintro _ ⟨_, _, _, ⟨rfl, rfl, rfl⟩, rfl⟩
 refine Tops_step rfl (OpT_not rfl rfl rfl rfl) ?_
 refine Tops_nil (Tk_wkS (fr' := [(1, some (.pointer (some ⟨b1, 0, none⟩))), (8, some (vB (!issize1)))]) (own' := [some (cellsR b1 29 [vB rp0.Packed, vI rp0.Size, vU64 rp0.Desc, vU64 rp0.Driver, vU64 rp0.Device])]) (shr' := []) [1, 8] [0] [] rfl rfl rfl rfl ?_)
 rcases Bool.eq_false_or_eq_true ((!issize1)) with hg1 | hg1
 ·replace h := br_t hg1 h
  refine Tk_condT (congrArg (fun b => some (Value.bool b)) hg1) ?_
  refine Tk_seq (Tk_region (Tops_step rfl (OpT_assign rfl rfl rfl rfl) ?_))
  refine Tops_step rfl (OpT_assign rfl rfl rfl rfl) ?_
  refine Tops_step rfl (OpT_assign rfl rfl rfl rfl) ?_
  refine Tops_nil (Tk_wkS (fr' := [(2, some (vU64 (0 : UInt64))), (3, some (vU64 (0 : UInt64))), (4, some (vU64 (0 : UInt64)))]) (own' := []) (shr' := []) [2, 3, 4] [] [] rfl rfl rfl rfl ?_)
  obtain rfl := Option.some.inj h
  exact Tk_retV rfl rfl (resA (vs := [vU64 (0 : UInt64), vU64 (0 : UInt64), vU64 (0 : UInt64)]) rfl ⟨rfl, rfl, rfl, trivial⟩) [] [] rfl rfl rfl ⟨rfl, rfl, rfl⟩
 ·replace h := br_f hg1 h
  refine Tk_condF (congrArg (fun b => some (Value.bool b)) hg1) ?_
  refine Tk_skip (Tk_seq (Tk_region (Tops_step rfl (OpT_fieldC rfl rfl rfl rfl fldF29x1) ?_)))
  refine Tops_step rfl (OpT_loadC rfl rfl rfl rfl tyF3 (i := 0) rfl rfl) ?_
  refine Tops_step rfl (OpT_cnv rfl rfl rfl rfl (cnv_i_u64 (n := rp0.Size) Try.underlying3 Try.underlying27)) ?_
  refine Tops_step rfl (OpT_assign rfl rfl rfl rfl) ?_
  refine Tops_nil (Tk_wkS (fr' := [(1, some (.pointer (some ⟨b1, 0, none⟩))), (5, some (vU64 (u64 rp0.Size)))]) (own' := [some (cellsR b1 29 [vB rp0.Packed, vI rp0.Size, vU64 rp0.Desc, vU64 rp0.Driver, vU64 rp0.Device])]) (shr' := []) [1, 5] [0] [] rfl rfl rfl rfl ?_)
  refine Tk_seq (Tk_seq (Tk_region (Tops_step rfl (OpT_fieldC rfl rfl rfl rfl fldF29x0) ?_)))
  refine Tops_step rfl (OpT_loadC rfl rfl rfl rfl tyF4 (i := 0) rfl rfl) ?_
  refine Tops_nil (Tk_wkS (fr' := [(5, some (vU64 (u64 rp0.Size))), (13, some (vB rp0.Packed))]) (own' := []) (shr' := []) [5, 13] [] [] rfl rfl rfl rfl ?_)
  rcases Bool.eq_false_or_eq_true (rp0.Packed) with hg2 | hg2
  ·replace h := br_t hg2 h
   refine Tk_condT (congrArg (fun b => some (Value.bool b)) hg2) ?_
   refine Tk_seq (Tk_region (Tops_step rfl (OpT_move rfl rfl rfl rfl) ?_))
   refine Tops_step rfl (OpT_bin rfl rfl rfl rfl rfl (bin_mul_u64 (a := (16 : UInt64)) (b := u64 rp0.Size))) ?_
   refine Tops_step rfl (OpT_assign rfl rfl rfl rfl) ?_
   refine Tops_step rfl (OpT_assign rfl rfl rfl rfl) ?_
   refine Tops_step rfl (OpT_assign rfl rfl rfl rfl) ?_
   refine Tops_nil (Tk_wkS (fr' := [(2, some (vU64 ((16 : UInt64) * (u64 rp0.Size)))), (3, some (vU64 (4 : UInt64))), (4, some (vU64 (4 : UInt64)))]) (own' := []) (shr' := []) [2, 3, 4] [] [] rfl rfl rfl rfl ?_)
   obtain rfl := Option.some.inj h
   exact Tk_retV rfl rfl (resA (vs := [vU64 ((16 : UInt64) * (u64 rp0.Size)), vU64 (4 : UInt64), vU64 (4 : UInt64)]) rfl ⟨rfl, rfl, rfl, trivial⟩) [] [] rfl rfl rfl ⟨rfl, rfl, rfl⟩
  ·replace h := br_f hg2 h
   refine Tk_condF (congrArg (fun b => some (Value.bool b)) hg2) ?_
   refine Tk_skip (Tk_seq (Tk_region (Tops_step rfl (OpT_move rfl rfl rfl rfl) ?_)))
   refine Tops_step rfl (OpT_bin rfl rfl rfl rfl rfl (bin_mul_u64 (a := (16 : UInt64)) (b := u64 rp0.Size))) ?_
   refine Tops_step rfl (OpT_move rfl rfl rfl rfl) ?_
   refine Tops_step rfl (OpT_bin rfl rfl rfl rfl rfl (bin_mul_u64 (a := (2 : UInt64)) (b := u64 rp0.Size))) ?_
   refine Tops_step rfl (OpT_bin rfl rfl rfl rfl rfl (bin_add_u64 (a := (6 : UInt64)) (b := (2 : UInt64) * (u64 rp0.Size)))) ?_
   refine Tops_step rfl (OpT_move rfl rfl rfl rfl) ?_
   refine Tops_step rfl (OpT_bin rfl rfl rfl rfl rfl (bin_mul_u64 (a := (8 : UInt64)) (b := u64 rp0.Size))) ?_
   refine Tops_step rfl (OpT_bin rfl rfl rfl rfl rfl (bin_add_u64 (a := (6 : UInt64)) (b := (8 : UInt64) * (u64 rp0.Size)))) ?_
   refine Tops_step rfl (OpT_assign rfl rfl rfl rfl) ?_
   refine Tops_step rfl (OpT_assign rfl rfl rfl rfl) ?_
   refine Tops_step rfl (OpT_assign rfl rfl rfl rfl) ?_
   refine Tops_nil (Tk_wkS (fr' := [(2, some (vU64 ((16 : UInt64) * (u64 rp0.Size)))), (3, some (vU64 ((6 : UInt64) + ((2 : UInt64) * (u64 rp0.Size))))), (4, some (vU64 ((6 : UInt64) + ((8 : UInt64) * (u64 rp0.Size)))))]) (own' := []) (shr' := []) [2, 3, 4] [] [] rfl rfl rfl rfl ?_)
   obtain rfl := Option.some.inj h
   exact Tk_retV rfl rfl (resA (vs := [vU64 ((16 : UInt64) * (u64 rp0.Size)), vU64 ((6 : UInt64) + ((2 : UInt64) * (u64 rp0.Size))), vU64 ((6 : UInt64) + ((8 : UInt64) * (u64 rp0.Size)))]) rfl ⟨rfl, rfl, rfl, trivial⟩) [] [] rfl rfl rfl ⟨rfl, rfl, rfl⟩

set_option maxRecDepth 100000 in
set_option maxHeartbeats 4000000 in
theorem w_layout_spans {rp0 : Rings} {r : (A3 (A2 UInt64))} (h : layout_spans rp0 = some r) :
  Ctr Try.prog 109 #[.agg #[vB rp0.Packed, vI rp0.Size, vU64 rp0.Desc, vU64 rp0.Driver, vU64 rp0.Device]] [] []
   (fun rv own shr => rv = .agg #[vU64 r.a0.a0, vU64 r.a0.a1, vU64 r.a1.a0, vU64 r.a1.a1, vU64 r.a2.a0, vU64 r.a2.a1] ∧ own = [] ∧ shr = []) := by
 unfold layout_spans at h
 refine Ctr.mk (args := [.agg #[vB rp0.Packed, vI rp0.Size, vU64 rp0.Desc, vU64 rp0.Driver, vU64 rp0.Device]]) Try.func109 rfl rfl (fun R0 w0 B => ?_)
 refine Tk_seq (Tk_region (Tops_ex rfl (OpT_box rfl rfl rfl rfl) fun b1 => ?_))
 refine Tops_ex rfl (OpT_alloc rfl rfl rfl tyZ184) fun b2 => ?_
 refine Tops_nil (Tk_wkS (fr' := [(1, some (.pointer (some ⟨b1, 0, none⟩))), (2, some (.pointer (some ⟨b2, 0, none⟩)))]) (own' := [some (cellsR b1 29 [vB rp0.Packed, vI rp0.Size, vU64 rp0.Desc, vU64 rp0.Driver, vU64 rp0.Device]), some (cellsR b2 184 [vU64 (0 : UInt64), vU64 (0 : UInt64), vU64 (0 : UInt64), vU64 (0 : UInt64), vU64 (0 : UInt64), vU64 (0 : UInt64)])]) (shr' := []) [1, 2] [0, 1] [] rfl rfl rfl rfl ?_)
 refine Tk_seq (Tk_region (Tops_step rfl (OpT_loadCA (vs := [vB rp0.Packed, vI rp0.Size, vU64 rp0.Desc, vU64 rp0.Driver, vU64 rp0.Device]) rfl rfl rfl rfl tyF29 (i := 0) rfl rfl rfl) ?_))
 obtain ⟨parts1, hx1, h⟩ := ob_e h
 refine Tops_exP rfl (OpT_call (w_layout_Parts hx1) [] [] rfl rfl rfl rfl rfl callee118 rfl rfl rfl rfl) ?_
 rintro _ ⟨_, _, _, ⟨rfl, rfl, rfl⟩, rfl⟩
 refine Tops_step rfl (OpT_move rfl rfl rfl rfl) ?_
 refine Tops_step rfl (OpT_extract rfl rfl rfl rfl rfl) ?_
 refine Tops_step rfl (OpT_extract rfl rfl rfl rfl rfl) ?_
 refine Tops_step rfl (OpT_extract rfl rfl rfl rfl rfl) ?_
 refine Tops_step rfl (OpT_assign rfl rfl rfl rfl) ?_
 refine Tops_step rfl (OpT_assign rfl rfl rfl rfl) ?_
 refine Tops_step rfl (OpT_assign rfl rfl rfl rfl) ?_
 refine Tops_nil (Tk_wkS (fr' := [(1, some (.pointer (some ⟨b1, 0, none⟩))), (2, some (.pointer (some ⟨b2, 0, none⟩))), (3, some (vU64 parts1.1)), (4, some (vU64 parts1.2.1)), (5, some (vU64 parts1.2.2))]) (own' := [some (cellsR b1 29 [vB rp0.Packed, vI rp0.Size, vU64 rp0.Desc, vU64 rp0.Driver, vU64 rp0.Device]), some (cellsR b2 184 [vU64 (0 : UInt64), vU64 (0 : UInt64), vU64 (0 : UInt64), vU64 (0 : UInt64), vU64 (0 : UInt64), vU64 (0 : UInt64)])]) (shr' := []) [1, 2, 3, 4, 5] [0, 1] [] rfl rfl rfl rfl ?_)
 refine Tk_seq (Tk_region (Tops_step rfl (OpT_fieldC rfl rfl rfl rfl fldF29x2) ?_))
 refine Tops_step rfl (OpT_loadC rfl rfl rfl rfl tyF27 (i := 0) rfl rfl) ?_
 refine Tops_step rfl (OpT_move rfl rfl rfl rfl) ?_
 refine Tops_step rfl (OpT_build (v := .agg #[vU64 rp0.Desc, vU64 parts1.1]) rfl rfl rfl rfl (bldV (by kernel_rfl))) ?_
 refine Tops_step rfl (OpT_fieldC rfl rfl rfl rfl fldF29x3) ?_
 refine Tops_step rfl (OpT_loadC rfl rfl rfl rfl tyF27 (i := 0) rfl rfl) ?_
 refine Tops_step rfl (OpT_move rfl rfl rfl rfl) ?_
 refine Tops_step rfl (OpT_build (v := .agg #[vU64 rp0.Driver, vU64 parts1.2.1]) rfl rfl rfl rfl (bldV (by kernel_rfl))) ?_
 refine Tops_step rfl (OpT_fieldC rfl rfl rfl rfl fldF29x4) ?_
 refine Tops_step rfl (OpT_loadC rfl rfl rfl rfl tyF27 (i := 0) rfl rfl) ?_
 refine Tops_step rfl (OpT_move rfl rfl rfl rfl) ?_
 refine Tops_step rfl (OpT_build (v := .agg #[vU64 rp0.Device, vU64 parts1.2.2]) rfl rfl rfl rfl (bldV (by kernel_rfl))) ?_
 refine Tops_step rfl (OpT_build (v := .agg #[vU64 rp0.Desc, vU64 parts1.1, vU64 rp0.Driver, vU64 parts1.2.1, vU64 rp0.Device, vU64 parts1.2.2]) rfl rfl rfl rfl (bldV (by kernel_rfl))) ?_
 refine Tops_step rfl (OpT_storeC (cs' := [vU64 rp0.Desc, vU64 parts1.1, vU64 rp0.Driver, vU64 parts1.2.1, vU64 rp0.Device, vU64 parts1.2.2]) rfl rfl rfl rfl tyF184 (i := 1) rfl rfl rfl (one_of rfl) rfl) ?_
 refine Tops_nil (Tk_wkS (fr' := [(2, some (.pointer (some ⟨b2, 0, none⟩)))]) (own' := [some (cellsR b2 184 [vU64 rp0.Desc, vU64 parts1.1, vU64 rp0.Driver, vU64 parts1.2.1, vU64 rp0.Device, vU64 parts1.2.2])]) (shr' := []) [2] [1] [] rfl rfl rfl rfl ?_)
 obtain rfl := Option.some.inj h
 exact Tk_retV rfl rfl (resA (vs := [.agg #[vU64 rp0.Desc, vU64 parts1.1, vU64 rp0.Driver, vU64 parts1.2.1, vU64 rp0.Device, vU64 parts1.2.2]]) rfl ⟨⟨_, 0, _, _, _, rfl, rfl, .inl ⟨tyF184, rfl, rfl⟩⟩, trivial⟩) [] [] rfl rfl rfl ⟨rfl, rfl, rfl⟩

set_option maxRecDepth 100000 in
set_option maxHeartbeats 4000000 in
theorem w_layout_steps {rp0 : Rings} {r : (A3 UInt64)} (h : layout_steps rp0 = some r) :
  Ctr Try.prog 110 #[.agg #[vB rp0.Packed, vI rp0.Size, vU64 rp0.Desc, vU64 rp0.Driver, vU64 rp0.Device]] [] []
   (fun rv own shr => rv = .agg #[vU64 r.a0, vU64 r.a1, vU64 r.a2] ∧ own = [] ∧ shr = []) := by
 unfold layout_steps at h
 refine Ctr.mk (args := [.agg #[vB rp0.Packed, vI rp0.Size, vU64 rp0.Desc, vU64 rp0.Driver, vU64 rp0.Device]]) Try.func110 rfl rfl (fun R0 w0 B => ?_)
 refine Tk_seq (Tk_region (Tops_ex rfl (OpT_box rfl rfl rfl rfl) fun b1 => ?_))
 refine Tops_ex rfl (OpT_alloc rfl rfl rfl tyZ186) fun b2 => ?_
 refine Tops_nil (Tk_wkS (fr' := [(1, some (.pointer (some ⟨b1, 0, none⟩))), (2, some (.pointer (some ⟨b2, 0, none⟩)))]) (own' := [some (cellsR b1 29 [vB rp0.Packed, vI rp0.Size, vU64 rp0.Desc, vU64 rp0.Driver, vU64 rp0.Device]), some (cellsR b2 186 [vU64 (0 : UInt64), vU64 (0 : UInt64), vU64 (0 : UInt64)])]) (shr' := []) [1, 2] [0, 1] [] rfl rfl rfl rfl ?_)
 refine Tk_seq (Tk_seq (Tk_region (Tops_step rfl (OpT_fieldC rfl rfl rfl rfl fldF29x0) ?_)))
 refine Tops_step rfl (OpT_loadC rfl rfl rfl rfl tyF4 (i := 0) rfl rfl) ?_
 refine Tops_nil (Tk_wkS (fr' := [(2, some (.pointer (some ⟨b2, 0, none⟩))), (4, some (vB rp0.Packed))]) (own' := [some (cellsR b2 186 [vU64 (0 : UInt64), vU64 (0 : UInt64), vU64 (0 : UInt64)])]) (shr' := []) [2, 4] [1] [] rfl rfl rfl rfl ?_)
 rcases Bool.eq_false_or_eq_true (rp0.Packed) with hg1 | hg1
 ·replace h := br_t hg1 h
  refine Tk_condT (congrArg (fun b => some (Value.bool b)) hg1) ?_
  refine Tk_seq (Tk_region (Tops_step rfl (OpT_build (v := .agg #[vU64 (16 : UInt64), vU64 (4 : UInt64), vU64 (4 : UInt64)]) rfl rfl rfl rfl (bldV (by kernel_rfl))) ?_))
  refine Tops_step rfl (OpT_storeC (cs' := [vU64 (16 : UInt64), vU64 (4 : UInt64), vU64 (4 : UInt64)]) rfl rfl rfl rfl tyF186 (i := 0) rfl rfl rfl (one_of rfl) rfl) ?_
  refine Tops_nil (Tk_wkS (fr' := [(2, some (.pointer (some ⟨b2, 0, none⟩)))]) (own' := [some (cellsR b2 186 [vU64 (16 : UInt64), vU64 (4 : UInt64), vU64 (4 : UInt64)])]) (shr' := []) [2] [0] [] rfl rfl rfl rfl ?_)
  obtain rfl := Option.some.inj h
  exact Tk_retV rfl rfl (resA (vs := [.agg #[vU64 (16 : UInt64), vU64 (4 : UInt64), vU64 (4 : UInt64)]]) rfl ⟨⟨_, 0, _, _, _, rfl, rfl, .inl ⟨tyF186, rfl, rfl⟩⟩, trivial⟩) [] [] rfl rfl rfl ⟨rfl, rfl, rfl⟩
 ·replace h := br_f hg1 h
  refine Tk_condF (congrArg (fun b => some (Value.bool b)) hg1) ?_
  refine Tk_skip (Tk_seq (Tk_region (Tops_step rfl (OpT_build (v := .agg #[vU64 (16 : UInt64), vU64 (2 : UInt64), vU64 (4 : UInt64)]) rfl rfl rfl rfl (bldV (by kernel_rfl))) ?_)))
  refine Tops_step rfl (OpT_storeC (cs' := [vU64 (16 : UInt64), vU64 (2 : UInt64), vU64 (4 : UInt64)]) rfl rfl rfl rfl tyF186 (i := 0) rfl rfl rfl (one_of rfl) rfl) ?_
  refine Tops_nil (Tk_wkS (fr' := [(2, some (.pointer (some ⟨b2, 0, none⟩)))]) (own' := [some (cellsR b2 186 [vU64 (16 : UInt64), vU64 (2 : UInt64), vU64 (4 : UInt64)])]) (shr' := []) [2] [0] [] rfl rfl rfl rfl ?_)
  obtain rfl := Option.some.inj h
  exact Tk_retV rfl rfl (resA (vs := [.agg #[vU64 (16 : UInt64), vU64 (2 : UInt64), vU64 (4 : UInt64)]]) rfl ⟨⟨_, 0, _, _, _, rfl, rfl, .inl ⟨tyF186, rfl, rfl⟩⟩, trivial⟩) [] [] rfl rfl rfl ⟨rfl, rfl, rfl⟩

set_option maxRecDepth 100000 in
set_option maxHeartbeats 4000000 in
theorem w_layout_beyond {atp0 : UInt64} {np1 : UInt64} {r : Bool} (h : layout_beyond atp0 np1 = some r) :
  Ctr Try.prog 111 #[vU64 atp0, vU64 np1] [] []
   (fun rv own shr => rv = vB r ∧ own = [] ∧ shr = []) := by
 unfold layout_beyond at h
 refine Ctr.mk (args := [vU64 atp0, vU64 np1]) Try.func111 rfl rfl (fun R0 w0 B => ?_)
 refine Tk_seq (Tk_region (Tops_step rfl (OpT_assign rfl rfl rfl rfl) ?_))
 refine Tops_nil (Tk_wkS (fr' := [(0, some (vU64 atp0)), (1, some (vU64 np1))]) (own' := []) (shr' := []) [0, 1] [] [] rfl rfl rfl rfl ?_)
 refine Tk_seq (Tk_region (Tops_step rfl (OpT_move rfl rfl rfl rfl) ?_))
 refine Tops_step rfl (OpT_bin rfl rfl rfl rfl rfl (bin_gtr_u64 (a := np1) (b := (0 : UInt64)))) ?_
 refine Tops_step rfl (OpT_move rfl rfl rfl rfl) ?_
 rcases Bool.eq_false_or_eq_true (decide (np1 > (0 : UInt64))) with hg1 | hg1
 ·replace h := br_t hg1 h
  refine Tops_yes rfl rfl (congrArg (fun b => some (Value.bool b)) hg1) (OpT_move rfl rfl rfl rfl) ?_
  rintro _ rfl
  refine Tops_yes rfl rfl (congrArg (fun b => some (Value.bool b)) hg1) (OpT_bin rfl rfl rfl rfl rfl (bin_sub_u64 (a := np1) (b := (1 : UInt64)))) ?_
  rintro _ rfl
  refine Tops_yes rfl rfl (congrArg (fun b => some (Value.bool b)) hg1) (OpT_move rfl rfl rfl rfl) ?_
  rintro _ rfl
  refine Tops_yes rfl rfl (congrArg (fun b => some (Value.bool b)) hg1) (OpT_bin rfl rfl rfl rfl rfl (bin_sub_u64 (a := (18446744073709551615 : UInt64)) (b := atp0))) ?_
  rintro _ rfl
  refine Tops_yes rfl rfl (congrArg (fun b => some (Value.bool b)) hg1) (OpT_bin rfl rfl rfl rfl rfl (bin_gtr_u64 (a := np1 - (1 : UInt64)) (b := (18446744073709551615 : UInt64) - atp0))) ?_
  rintro _ rfl
  refine Tops_step rfl (OpT_pickT rfl rfl rfl (congrArg (fun b => some (Value.bool b)) hg1) rfl) ?_
  refine Tops_step rfl (OpT_assign rfl rfl rfl rfl) ?_
  refine Tops_nil (Tk_wkS (fr' := [(4, some (vB (decide ((np1 - (1 : UInt64)) > ((18446744073709551615 : UInt64) - atp0)))))]) (own' := []) (shr' := []) [4] [] [] rfl rfl rfl rfl ?_)
  obtain rfl := Option.some.inj h
  exact Tk_retV rfl rfl (resA (vs := [vB (decide ((np1 - (1 : UInt64)) > ((18446744073709551615 : UInt64) - atp0)))]) rfl ⟨rfl, trivial⟩) [] [] rfl rfl rfl ⟨rfl, rfl, rfl⟩
 ·replace h := br_f hg1 h
  refine Tops_no rfl rfl (congrArg (fun b => some (Value.bool b)) hg1) rfl rfl ?_
  refine Tops_no rfl rfl (congrArg (fun b => some (Value.bool b)) hg1) rfl rfl ?_
  refine Tops_no rfl rfl (congrArg (fun b => some (Value.bool b)) hg1) rfl rfl ?_
  refine Tops_no rfl rfl (congrArg (fun b => some (Value.bool b)) hg1) rfl rfl ?_
  refine Tops_no rfl rfl (congrArg (fun b => some (Value.bool b)) hg1) rfl rfl ?_
  refine Tops_step rfl (OpT_pickF rfl rfl rfl (congrArg (fun b => some (Value.bool b)) hg1) rfl) ?_
  refine Tops_step rfl (OpT_assign rfl rfl rfl rfl) ?_
  refine Tops_nil (Tk_wkS (fr' := [(4, some (vB false))]) (own' := []) (shr' := []) [4] [] [] rfl rfl rfl rfl ?_)
  obtain rfl := Option.some.inj h
  exact Tk_retV rfl rfl (resA (vs := [vB false]) rfl ⟨rfl, trivial⟩) [] [] rfl rfl rfl ⟨rfl, rfl, rfl⟩

set_option maxRecDepth 100000 in
set_option maxHeartbeats 4000000 in
theorem w_layout_common {atp0 : UInt64} {np1 : UInt64} {top2 : UInt64} {m : UInt64} {r : Bool} (h : layout_common atp0 np1 top2 m = some r) :
  Ctr Try.prog 112 #[vU64 atp0, vU64 np1, vU64 top2, vU64 m] [] []
   (fun rv own shr => rv = vB r ∧ own = [] ∧ shr = []) := by
 unfold layout_common at h
 refine Ctr.mk (args := [vU64 atp0, vU64 np1, vU64 top2, vU64 m]) Try.func112 rfl rfl (fun R0 w0 B => ?_)
 refine Tk_seq (Tk_region (Tops_step rfl (OpT_assign rfl rfl rfl rfl) ?_))
 refine Tops_nil (Tk_wkS (fr' := [(0, some (vU64 atp0)), (1, some (vU64 np1)), (2, some (vU64 top2)), (3, some (vU64 m))]) (own' := []) (shr' := []) [0, 1, 2, 3] [] [] rfl rfl rfl rfl ?_)
 refine Tk_seq (Tk_seq (Tk_region (Tops_step rfl (OpT_move rfl rfl rfl rfl) ?_)))
 refine Tops_step rfl (OpT_move rfl rfl rfl rfl) ?_
 refine Tops_step rfl (OpT_bin rfl rfl rfl rfl rfl (bin_leq_u64 (a := atp0) (b := top2))) ?_
 refine Tops_nil (Tk_wkS (fr' := [(0, some (vU64 atp0)), (1, some (vU64 np1)), (2, some (vU64 top2)), (3, some (vU64 m)), (11, some (vB (decide (atp0 ≤ top2))))]) (own' := []) (shr' := []) [0, 1, 2, 3, 11] [] [] rfl rfl rfl rfl ?_)
 rcases Bool.eq_false_or_eq_true (decide (atp0 ≤ top2)) with hg1 | hg1
 ·replace h := br_t hg1 h
  refine Tk_condT (congrArg (fun b => some (Value.bool b)) hg1) ?_
  refine Tk_seq (Tk_region (Tops_step rfl (OpT_move rfl rfl rfl rfl) ?_))
  refine Tops_step rfl (OpT_move rfl rfl rfl rfl) ?_
  refine Tops_step rfl (OpT_bin rfl rfl rfl rfl rfl (bin_sub_u64 (a := top2) (b := atp0))) ?_
  refine Tops_step rfl (OpT_move rfl rfl rfl rfl) ?_
  refine Tops_step rfl (OpT_bin rfl rfl rfl rfl rfl (bin_lss_u64 (a := top2 - atp0) (b := np1))) ?_
  refine Tops_step rfl (OpT_assign rfl rfl rfl rfl) ?_
  refine Tops_nil (Tk_wkS (fr' := [(8, some (vB (decide ((top2 - atp0) < np1))))]) (own' := []) (shr' := []) [8] [] [] rfl rfl rfl rfl ?_)
  obtain rfl := Option.some.inj h
  exact Tk_retV rfl rfl (resA (vs := [vB (decide ((top2 - atp0) < np1))]) rfl ⟨rfl, trivial⟩) [] [] rfl rfl rfl ⟨rfl, rfl, rfl⟩
 ·replace h := br_f hg1 h
  refine Tk_condF (congrArg (fun b => some (Value.bool b)) hg1) ?_
  refine Tk_skip (Tk_seq (Tk_region (Tops_step rfl (OpT_move rfl rfl rfl rfl) ?_)))
  refine Tops_step rfl (OpT_move rfl rfl rfl rfl) ?_
  refine Tops_step rfl (OpT_bin rfl rfl rfl rfl rfl (bin_sub_u64 (a := atp0) (b := top2))) ?_
  refine Tops_step rfl (OpT_move rfl rfl rfl rfl) ?_
  refine Tops_step rfl (OpT_bin rfl rfl rfl rfl rfl (bin_lss_u64 (a := atp0 - top2) (b := m))) ?_
  refine Tops_step rfl (OpT_assign rfl rfl rfl rfl) ?_
  refine Tops_nil (Tk_wkS (fr' := [(8, some (vB (decide ((atp0 - top2) < m))))]) (own' := []) (shr' := []) [8] [] [] rfl rfl rfl rfl ?_)
  obtain rfl := Option.some.inj h
  exact Tk_retV rfl rfl (resA (vs := [vB (decide ((atp0 - top2) < m))]) rfl ⟨rfl, trivial⟩) [] [] rfl rfl rfl ⟨rfl, rfl, rfl⟩

set_option maxRecDepth 100000 in
set_option maxHeartbeats 4000000 in
theorem w_layout_Check {rp0 : Rings} {r : Int} (h : layout_Check rp0 = some r) :
  Ctr Try.prog 83 #[.agg #[vB rp0.Packed, vI rp0.Size, vU64 rp0.Desc, vU64 rp0.Driver, vU64 rp0.Device]] [] []
   (fun rv own shr => rv = vI r ∧ own = [] ∧ shr = []) := by
 unfold layout_Check at h
 refine Ctr.mk (args := [.agg #[vB rp0.Packed, vI rp0.Size, vU64 rp0.Desc, vU64 rp0.Driver, vU64 rp0.Device]]) Try.func83 rfl rfl (fun R0 w0 B => ?_)
 refine Tk_seq (Tk_region (Tops_ex rfl (OpT_box rfl rfl rfl rfl) fun b1 => ?_))
 refine Tops_step rfl (OpT_assign rfl rfl rfl rfl) ?_
 refine Tops_nil (Tk_wkS (fr' := [(1, some (.pointer (some ⟨b1, 0, none⟩)))]) (own' := [some (cellsR b1 29 [vB rp0.Packed, vI rp0.Size, vU64 rp0.Desc, vU64 rp0.Driver, vU64 rp0.Device])]) (shr' := []) [1] [0] [] rfl rfl rfl rfl ?_)
 refine Tk_seq (Tk_seq (Tk_region (Tops_step rfl (OpT_loadCA (vs := [vB rp0.Packed, vI rp0.Size, vU64 rp0.Desc, vU64 rp0.Driver, vU64 rp0.Device]) rfl rfl rfl rfl tyF29 (i := 0) rfl rfl rfl) ?_)))
 obtain ⟨issize1, hx1, h⟩ := ob_e h
 refine Tops_exP rfl (OpT_call (w_layout_isSize hx1) [] [] rfl rfl rfl rfl rfl callee108 rfl rfl rfl rfl) ?_
 rintro _ ⟨_, _, _, ⟨rfl, rfl, rfl⟩, rfl⟩
 refine Tops_step rfl (OpT_not rfl rfl rfl rfl) ?_
 refine Tops_nil (Tk_wkS (fr' := [(1, some (.pointer (some ⟨b1, 0, none⟩))), (11, some (vB (!issize1)))]) (own' := [some (cellsR b1 29 [vB rp0.Packed, vI rp0.Size, vU64 rp0.Desc, vU64 rp0.Driver, vU64 rp0.Device])]) (shr' := []) [1, 11] [0] [] rfl rfl rfl rfl ?_)
 rcases Bool.eq_false_or_eq_true ((!issize1)) with hg1 | hg1
 ·replace h := br_t hg1 h
  refine Tk_condT (congrArg (fun b => some (Value.bool b)) hg1) ?_
  refine Tk_seq (Tk_region (Tops_step rfl (OpT_assign rfl rfl rfl rfl) ?_))
  refine Tops_nil (Tk_wkS (fr' := [(2, some (vI (2 : Int)))]) (own' := []) (shr' := []) [2] [] [] rfl rfl rfl rfl ?_)
  obtain rfl := Option.some.inj h
  exact Tk_retV rfl rfl (resA (vs := [vI (2 : Int)]) rfl ⟨rfl, trivial⟩) [] [] rfl rfl rfl ⟨rfl, rfl, rfl⟩
 ·replace h := br_f hg1 h
  refine Tk_condF (congrArg (fun b => some (Value.bool b)) hg1) ?_
  refine Tk_skip (Tk_seq (Tk_drawT (by kernel_rfl) ?_))
  refine TA_tb [0, 1, 0, 7, 0, 0, 63, 127] (by kernel_rfl) fun htb => ?_
  refine TA_wkS (fr' := [(1, some (.pointer (some ⟨b1, 0, none⟩)))]) (own' := [some (cellsR b1 29 [vB rp0.Packed, vI rp0.Size, vU64 rp0.Desc, vU64 rp0.Driver, vU64 rp0.Device])]) (shr' := []) [1] [0] [] rfl rfl rfl rfl ?_
  obtain ⟨spans1, hx2, h⟩ := ob_e h
  obtain ⟨steps1, hx3, h⟩ := ob_e h
  refine TA_seg (lo := 0) (hi := 6) htb rfl rfl (by kernel_rfl) (fun c L a w => ∃ (b2 : Nat), ∃ (b3 : Nat), Sat c ⟨[(1, some (.pointer (some ⟨b1, 0, none⟩))), (12, bif L 0 then some (.agg #[vB rp0.Packed, vI rp0.Size, vU64 rp0.Desc, vU64 rp0.Driver, vU64 rp0.Device]) else none), (13, bif L 1 then some (.agg #[vU64 spans1.a0.a0, vU64 spans1.a0.a1, vU64 spans1.a1.a0, vU64 spans1.a1.a1, vU64 spans1.a2.a0, vU64 spans1.a2.a1]) else none), (14, bif L 2 then some (.agg #[vB rp0.Packed, vI rp0.Size, vU64 rp0.Desc, vU64 rp0.Driver, vU64 rp0.Device]) else none), (15, bif L 3 then some (.agg #[vU64 steps1.a0, vU64 steps1.a1, vU64 steps1.a2]) else none), (3, bif L 4 then some (.pointer (some ⟨b2, 0, none⟩)) else none), (4, bif L 5 then some (.pointer (some ⟨b3, 0, none⟩)) else none)], [(some (cellsR b1 29 [vB rp0.Packed, vI rp0.Size, vU64 rp0.Desc, vU64 rp0.Driver, vU64 rp0.Device]) : Option Res), (bif L 4 then some (cellsR b2 184 [vU64 (0 : UInt64), vU64 (0 : UInt64), vU64 (0 : UInt64), vU64 (0 : UInt64), vU64 (0 : UInt64), vU64 (0 : UInt64)]) else none : Option Res), (bif L 5 then some (cellsR b3 186 [vU64 (0 : UInt64), vU64 (0 : UInt64), vU64 (0 : UInt64)]) else none : Option Res)], []⟩ a w) [([], [1, 3]), ([0], [3]), ([], [3]), ([0, 1, 2], []), ([], []), ([], [])] rfl (by kernel_rfl) ?_ (steps_cons ?_ (steps_cons ?_ (steps_cons ?_ (steps_cons ?_ (steps_cons ?_ (steps_cons ?_ (steps_nil))))))) ?_
  ·intro a w hs
   exact ⟨0, 0, hs.startF [12, 13, 14, 15, 3, 4] [0, 1, 2] [] rfl rfl rfl rfl⟩
  ·intro L a w hv K Q hK
   obtain ⟨b2, b3, hs⟩ := hv
   refine wpOp_go rfl rfl hs (OpT_loadCA (vs := [vB rp0.Packed, vI rp0.Size, vU64 rp0.Desc, vU64 rp0.Driver, vU64 rp0.Device]) rfl rfl rfl rfl tyF29 (i := 0) rfl rfl rfl) ?_
   rintro _ rfl a' w' hs'
   exact hK a' w' ⟨b2, b3, hs'.putF (i := 1) rfl [0, 1, 2] [] rfl rfl rfl rfl⟩
  ·intro L a w hv K Q hK
   obtain ⟨b2, b3, hs⟩ := hv
   refine wpOp_go rfl rfl hs (OpT_call (w_layout_spans hx2) [] [] rfl rfl rfl rfl rfl callee109 rfl rfl rfl rfl) ?_
   rintro _ ⟨_, _, _, ⟨rfl, rfl, rfl⟩, rfl⟩ a' w' hs'
   exact hK a' w' ⟨b2, b3, hs'.putF (i := 2) rfl [0, 1, 2] [] rfl rfl rfl rfl⟩
  ·intro L a w hv K Q hK
   obtain ⟨b2, b3, hs⟩ := hv
   refine wpOp_go rfl rfl hs (OpT_loadCA (vs := [vB rp0.Packed, vI rp0.Size, vU64 rp0.Desc, vU64 rp0.Driver, vU64 rp0.Device]) rfl rfl rfl rfl tyF29 (i := 0) rfl rfl rfl) ?_
   rintro _ rfl a' w' hs'
   exact hK a' w' ⟨b2, b3, hs'.putF (i := 3) rfl [0, 1, 2] [] rfl rfl rfl rfl⟩
  ·intro L a w hv K Q hK
   obtain ⟨b2, b3, hs⟩ := hv
   refine wpOp_go rfl rfl hs (OpT_call (w_layout_steps hx3) [] [] rfl rfl rfl rfl rfl callee110 rfl rfl rfl rfl) ?_
   rintro _ ⟨_, _, _, ⟨rfl, rfl, rfl⟩, rfl⟩ a' w' hs'
   exact hK a' w' ⟨b2, b3, hs'.putF (i := 4) rfl [0, 1, 2] [] rfl rfl rfl rfl⟩
  ·intro L a w hv K Q hK
   obtain ⟨b2, b3, hs⟩ := hv
   refine wpOp_go rfl rfl hs (OpT_alloc rfl rfl rfl tyZ184) ?_
   rintro _ ⟨b2', rfl⟩ a' w' hs'
   exact hK a' w' ⟨b2', b3, hs'.putF (i := 5) rfl [0, 3, 2] [] rfl rfl rfl rfl⟩
  ·intro L a w hv K Q hK
   obtain ⟨b2, b3, hs⟩ := hv
   refine wpOp_go rfl rfl hs (OpT_alloc rfl rfl rfl tyZ186) ?_
   rintro _ ⟨b3', rfl⟩ a' w' hs'
   exact hK a' w' ⟨b2, b3', hs'.putF (i := 6) rfl [0, 1, 3] [] rfl rfl rfl rfl⟩
  ·intro L a w hL hv
   rw [allTrue hL] at hv
   obtain ⟨b2, b3, hs⟩ := hv
   refine (show TA _ _ _ 6 ⟨[(13, some (.agg #[vU64 spans1.a0.a0, vU64 spans1.a0.a1, vU64 spans1.a1.a0, vU64 spans1.a1.a1, vU64 spans1.a2.a0, vU64 spans1.a2.a1])), (15, some (.agg #[vU64 steps1.a0, vU64 steps1.a1, vU64 steps1.a2])), (3, some (.pointer (some ⟨b2, 0, none⟩))), (4, some (.pointer (some ⟨b3, 0, none⟩)))], [some (cellsR b2 184 [vU64 (0 : UInt64), vU64 (0 : UInt64), vU64 (0 : UInt64), vU64 (0 : UInt64), vU64 (0 : UInt64), vU64 (0 : UInt64)]), some (cellsR b3 186 [vU64 (0 : UInt64), vU64 (0 : UInt64), vU64 (0 : UInt64)])], []⟩ from ?_) a w (hs.wkS [13, 15, 3, 4] [1, 2] [] rfl rfl rfl rfl)
   clear hs hL
   refine TA_step htb (by kernel_rfl) rfl rfl (OpT_storeC (cs' := [vU64 spans1.a0.a0, vU64 spans1.a0.a1, vU64 spans1.a1.a0, vU64 spans1.a1.a1, vU64 spans1.a2.a0, vU64 spans1.a2.a1]) rfl rfl rfl rfl tyF184 (i := 0) rfl rfl rfl (one_of rfl) rfl) ?_
   refine TA_step htb (by kernel_rfl) rfl rfl (OpT_storeC (cs' := [vU64 steps1.a0, vU64 steps1.a1, vU64 steps1.a2]) rfl rfl rfl rfl tyF186 (i := 1) rfl rfl rfl (one_of rfl) rfl) ?_
   refine TA_end rfl ?_
   refine Tk_wkS (fr' := [(3, some (.pointer (some ⟨b2, 0, none⟩))), (4, some (.pointer (some ⟨b3, 0, none⟩)))]) (own' := [some (cellsR b2 184 [vU64 spans1.a0.a0, vU64 spans1.a0.a1, vU64 spans1.a1.a0, vU64 spans1.a1.a1, vU64 spans1.a2.a0, vU64 spans1.a2.a1]), some (cellsR b3 186 [vU64 steps1.a0, vU64 steps1.a1, vU64 steps1.a2])]) (shr' := []) [3, 4] [0, 1] [] rfl rfl rfl rfl ?_
   refine Tk_seq (Tk_seq (Tk_region (Tops_step rfl (OpT_loadCA (vs := [vU64 spans1.a0.a0, vU64 spans1.a0.a1, vU64 spans1.a1.a0, vU64 spans1.a1.a1, vU64 spans1.a2.a0, vU64 spans1.a2.a1]) rfl rfl rfl rfl tyF184 (i := 0) rfl rfl rfl) ?_)))
   refine Tops_step rfl (OpT_move rfl rfl rfl rfl) ?_
   refine Tops_nil (Tk_block (Tk_unroll 3 ?_))
   refine Tk_seq (Tk_region (Tops_step rfl (OpT_bin rfl rfl rfl rfl rfl (bin_lss_i (a := (0 : Int)) (b := (3 : Int)))) ?_))
   refine Tops_nil (Tk_seq (Tk_condT rfl ?_))
   refine Tk_skip (Tk_seq (Tk_block (Tk_seq (Tk_region (Tops_step rfl (OpT_move rfl rfl rfl rfl) ?_)))))
   refine Tops_step rfl (OpT_idxKA (cs := [vU64 spans1.a0.a0, vU64 spans1.a0.a1, vU64 spans1.a1.a0, vU64 spans1.a1.a1, vU64 spans1.a2.a0, vU64 spans1.a2.a1]) (vs := [vU64 spans1.a0.a0, vU64 spans1.a0.a1]) rfl rfl rfl rfl rfl arrF184 tyF183 (by decide) rfl) ?_
   refine Tops_ex rfl (OpT_alloc rfl rfl rfl tyZ183) fun b4 => ?_
   refine Tops_step rfl (OpT_assign rfl rfl rfl rfl) ?_
   refine Tops_step rfl (OpT_storeC (cs' := [vU64 spans1.a0.a0, vU64 spans1.a0.a1]) rfl rfl rfl rfl tyF183 (i := 2) rfl rfl rfl (one_of rfl) rfl) ?_
   refine Tops_nil (Tk_wkS (fr' := [(3, some (.pointer (some ⟨b2, 0, none⟩))), (4, some (.pointer (some ⟨b3, 0, none⟩))), (16, some (.agg #[vU64 spans1.a0.a0, vU64 spans1.a0.a1, vU64 spans1.a1.a0, vU64 spans1.a1.a1, vU64 spans1.a2.a0, vU64 spans1.a2.a1])), (17, some (vI (0 : Int))), (6, some (.pointer (some ⟨b4, 0, none⟩))), (5, some (vI (0 : Int)))]) (own' := [some (cellsR b2 184 [vU64 spans1.a0.a0, vU64 spans1.a0.a1, vU64 spans1.a1.a0, vU64 spans1.a1.a1, vU64 spans1.a2.a0, vU64 spans1.a2.a1]), some (cellsR b3 186 [vU64 steps1.a0, vU64 steps1.a1, vU64 steps1.a2]), some (cellsR b4 183 [vU64 spans1.a0.a0, vU64 spans1.a0.a1])]) (shr' := []) [3, 4, 16, 17, 6, 5] [0, 1, 2] [] rfl rfl rfl rfl ?_)
   refine Tk_seq (Tk_seq (Tk_drawT (by kernel_rfl) ?_))
   refine TA_tb [0, 1, 0, 4, 12, 31, 63, 127, 255, 511, 255, 1279, 4095, 8191] (by kernel_rfl) fun htb => ?_
   refine TA_seg (lo := 0) (hi := 5) htb rfl rfl (by kernel_rfl) (fun c L a w => Sat c ⟨[(3, some (.pointer (some ⟨b2, 0, none⟩))), (4, some (.pointer (some ⟨b3, 0, none⟩))), (16, some (.agg #[vU64 spans1.a0.a0, vU64 spans1.a0.a1, vU64 spans1.a1.a0, vU64 spans1.a1.a1, vU64 spans1.a2.a0, vU64 spans1.a2.a1])), (17, some (vI (0 : Int))), (6, some (.pointer (some ⟨b4, 0, none⟩))), (5, some (vI (0 : Int))), (21, bif L 0 then some (.pointer (some ⟨b4, 0, none⟩)) else none), (22, bif L 1 then some (vU64 spans1.a0.a0) else none), (23, bif L 2 then some (vI (0 : Int)) else none), (24, bif L 3 then some (.pointer (some ⟨b3, 0, none⟩)) else none), (25, bif L 4 then some (vU64 steps1.a0) else none)], [(some (cellsR b2 184 [vU64 spans1.a0.a0, vU64 spans1.a0.a1, vU64 spans1.a1.a0, vU64 spans1.a1.a1, vU64 spans1.a2.a0, vU64 spans1.a2.a1]) : Option Res), (some (cellsR b3 186 [vU64 steps1.a0, vU64 steps1.a1, vU64 steps1.a2]) : Option Res), (some (cellsR b4 183 [vU64 spans1.a0.a0, vU64 spans1.a0.a1]) : Option Res)], []⟩ a w) [([], [1]), ([0], []), ([], [3, 4]), ([2], [4]), ([2, 3], [])] rfl (by kernel_rfl) ?_ (steps_cons ?_ (steps_cons ?_ (steps_cons ?_ (steps_cons ?_ (steps_cons ?_ (steps_nil)))))) ?_
   ·intro a w hs
    exact hs.startF [21, 22, 23, 24, 25] [0, 1, 2] [] rfl rfl rfl rfl
   ·intro L a w hv K Q hK
    have hs := hv
    refine wpOp_go rfl rfl hs (OpT_indexC rfl rfl rfl rfl rfl arrF183 (by decide)) ?_
    rintro _ rfl a' w' hs'
    exact hK a' w' (hs'.putF (i := 6) rfl [0, 1, 2] [] rfl rfl rfl rfl)
   ·intro L a w hv K Q hK
    have hs := hv
    refine wpOp_go rfl rfl hs (OpT_loadC rfl rfl rfl rfl tyF27 (i := 2) rfl rfl) ?_
    rintro _ rfl a' w' hs'
    exact hK a' w' (hs'.putF (i := 7) rfl [0, 1, 2] [] rfl rfl rfl rfl)
   ·intro L a w hv K Q hK
    have hs := hv
    refine wpOp_go rfl rfl hs (OpT_move rfl rfl rfl rfl) ?_
    rintro _ rfl a' w' hs'
    exact hK a' w' (hs'.putF (i := 8) rfl [0, 1, 2] [] rfl rfl rfl rfl)
   ·intro L a w hv K Q hK
    have hs := hv
    refine wpOp_go rfl rfl hs (OpT_indexC rfl rfl rfl rfl rfl arrF186 (by decide)) ?_
    rintro _ rfl a' w' hs'
    exact hK a' w' (hs'.putF (i := 9) rfl [0, 1, 2] [] rfl rfl rfl rfl)
   ·intro L a w hv K Q hK
    have hs := hv
    refine wpOp_go rfl rfl hs (OpT_loadC rfl rfl rfl rfl tyF27 (i := 1) rfl rfl) ?_
    rintro _ rfl a' w' hs'
    exact hK a' w' (hs'.putF (i := 10) rfl [0, 1, 2] [] rfl rfl rfl rfl)
   ·intro L a w hL hv
    rw [allTrue hL] at hv
    have hs := hv
    refine (show TA _ _ _ 5 ⟨[(3, some (.pointer (some ⟨b2, 0, none⟩))), (4, some (.pointer (some ⟨b3, 0, none⟩))), (16, some (.agg #[vU64 spans1.a0.a0, vU64 spans1.a0.a1, vU64 spans1.a1.a0, vU64 spans1.a1.a1, vU64 spans1.a2.a0, vU64 spans1.a2.a1])), (17, some (vI (0 : Int))), (6, some (.pointer (some ⟨b4, 0, none⟩))), (5, some (vI (0 : Int))), (22, some (vU64 spans1.a0.a0)), (25, some (vU64 steps1.a0))], [some (cellsR b2 184 [vU64 spans1.a0.a0, vU64 spans1.a0.a1, vU64 spans1.a1.a0, vU64 spans1.a1.a1, vU64 spans1.a2.a0, vU64 spans1.a2.a1]), some (cellsR b3 186 [vU64 steps1.a0, vU64 steps1.a1, vU64 steps1.a2]), some (cellsR b4 183 [vU64 spans1.a0.a0, vU64 spans1.a0.a1])], []⟩ from ?_) a w (hs.wkS [3, 4, 16, 17, 6, 5, 22, 25] [0, 1, 2] [] rfl rfl rfl rfl)
    clear hs hL
    obtain ⟨hc1, h⟩ := chk_e h
    refine TA_step htb (by kernel_rfl) rfl rfl (OpT_bin rfl rfl rfl rfl rfl (bin_rem_u64 (a := spans1.a0.a0) (b := steps1.a0) (not_t hc1))) ?_
    refine TA_step htb (by kernel_rfl) rfl rfl (OpT_bin rfl rfl rfl rfl rfl (bin_neq_u64 (a := spans1.a0.a0 % steps1.a0) (b := (0 : UInt64)))) ?_
    refine TA_step htb (by kernel_rfl) rfl rfl (OpT_move rfl rfl rfl rfl) ?_
    refine TA_wkS (fr' := [(3, some (.pointer (some ⟨b2, 0, none⟩))), (4, some (.pointer (some ⟨b3, 0, none⟩))), (16, some (.agg #[vU64 spans1.a0.a0, vU64 spans1.a0.a1, vU64 spans1.a1.a0, vU64 spans1.a1.a1, vU64 spans1.a2.a0, vU64 spans1.a2.a1])), (17, some (vI (0 : Int))), (6, some (.pointer (some ⟨b4, 0, none⟩))), (5, some (vI (0 : Int))), (28, some (vB ((spans1.a0.a0 % steps1.a0) != (0 : UInt64))))]) (own' := [some (cellsR b2 184 [vU64 spans1.a0.a0, vU64 spans1.a0.a1, vU64 spans1.a1.a0, vU64 spans1.a1.a1, vU64 spans1.a2.a0, vU64 spans1.a2.a1]), some (cellsR b3 186 [vU64 steps1.a0, vU64 steps1.a1, vU64 steps1.a2]), some (cellsR b4 183 [vU64 spans1.a0.a0, vU64 spans1.a0.a1])]) (shr' := []) [3, 4, 16, 17, 6, 5, 28] [0, 1, 2] [] rfl rfl rfl rfl ?_
    rcases Bool.eq_false_or_eq_true ((spans1.a0.a0 % steps1.a0) != (0 : UInt64)) with hg2 | hg2
    ·replace h := br_t hg2 h
     refine TA_seg (lo := 8) (hi := 12) htb rfl rfl (by kernel_rfl) (fun c L a w => Sat c ⟨[(3, some (.pointer (some ⟨b2, 0, none⟩))), (4, some (.pointer (some ⟨b3, 0, none⟩))), (16, some (.agg #[vU64 spans1.a0.a0, vU64 spans1.a0.a1, vU64 spans1.a1.a0, vU64 spans1.a1.a1, vU64 spans1.a2.a0, vU64 spans1.a2.a1])), (17, some (vI (0 : Int))), (6, some (.pointer (some ⟨b4, 0, none⟩))), (5, some (vI (0 : Int))), (28, some (vB ((spans1.a0.a0 % steps1.a0) != (0 : UInt64)))), (29, bif L 8 then some (undef) else none), (30, bif L 9 then some (undef) else none), (31, bif L 10 then some (undef) else none), (32, bif L 11 then some (undef) else none)], [(some (cellsR b2 184 [vU64 spans1.a0.a0, vU64 spans1.a0.a1, vU64 spans1.a1.a0, vU64 spans1.a1.a1, vU64 spans1.a2.a0, vU64 spans1.a2.a1]) : Option Res), (some (cellsR b3 186 [vU64 steps1.a0, vU64 steps1.a1, vU64 steps1.a2]) : Option Res), (some (cellsR b4 183 [vU64 spans1.a0.a0, vU64 spans1.a0.a1]) : Option Res)], []⟩ a w) [([], [9]), ([8], []), ([], [11]), ([10], [])] rfl (by kernel_rfl) ?_ (steps_cons ?_ (steps_cons ?_ (steps_cons ?_ (steps_cons ?_ (steps_nil))))) ?_
     ·intro a w hs
      exact hs.startF [29, 30, 31, 32] [0, 1, 2] [] rfl rfl rfl rfl
     ·intro L a w hv K Q hK
      have hs := hv
      refine wpOp_no rfl rfl rfl hs (congrArg (fun b => some (Value.bool b)) hg2) rfl rfl ?_
      intro a' w' hs'
      exact hK a' w' (hs'.putF (i := 7) rfl [0, 1, 2] [] rfl rfl rfl rfl)
     ·intro L a w hv K Q hK
      have hs := hv
      refine wpOp_no rfl rfl rfl hs (congrArg (fun b => some (Value.bool b)) hg2) rfl rfl ?_
      intro a' w' hs'
      exact hK a' w' (hs'.putF (i := 8) rfl [0, 1, 2] [] rfl rfl rfl rfl)
     ·intro L a w hv K Q hK
      have hs := hv
      refine wpOp_no rfl rfl rfl hs (congrArg (fun b => some (Value.bool b)) hg2) rfl rfl ?_
      intro a' w' hs'
      exact hK a' w' (hs'.putF (i := 9) rfl [0, 1, 2] [] rfl rfl rfl rfl)
     ·intro L a w hv K Q hK
      have hs := hv
      refine wpOp_no rfl rfl rfl hs (congrArg (fun b => some (Value.bool b)) hg2) rfl rfl ?_
      intro a' w' hs'
      exact hK a' w' (hs'.putF (i := 10) rfl [0, 1, 2] [] rfl rfl rfl rfl)
     ·intro L a w hL hv
      rw [allTrue hL] at hv
      have hs := hv
      refine (show TA _ _ _ 12 ⟨[(3, some (.pointer (some ⟨b2, 0, none⟩))), (4, some (.pointer (some ⟨b3, 0, none⟩))), (16, some (.agg #[vU64 spans1.a0.a0, vU64 spans1.a0.a1, vU64 spans1.a1.a0, vU64 spans1.a1.a1, vU64 spans1.a2.a0, vU64 spans1.a2.a1])), (17, some (vI (0 : Int))), (6, some (.pointer (some ⟨b4, 0, none⟩))), (5, some (vI (0 : Int))), (28, some (vB ((spans1.a0.a0 % steps1.a0) != (0 : UInt64)))), (30, some (undef)), (32, some (undef))], [some (cellsR b2 184 [vU64 spans1.a0.a0, vU64 spans1.a0.a1, vU64 spans1.a1.a0, vU64 spans1.a1.a1, vU64 spans1.a2.a0, vU64 spans1.a2.a1]), some (cellsR b3 186 [vU64 steps1.a0, vU64 steps1.a1, vU64 steps1.a2]), some (cellsR b4 183 [vU64 spans1.a0.a0, vU64 spans1.a0.a1])], []⟩ from ?_) a w (hs.wkS [3, 4, 16, 17, 6, 5, 28, 30, 32] [0, 1, 2] [] rfl rfl rfl rfl)
      clear hs hL
      refine TA_no htb (by kernel_rfl) rfl rfl rfl (congrArg (fun b => some (Value.bool b)) hg2) rfl rfl ?_
      refine TA_step htb (by kernel_rfl) rfl rfl (OpT_pickT rfl rfl rfl (congrArg (fun b => some (Value.bool b)) hg2) rfl) ?_
      refine TA_end rfl ?_
      refine Tk_wkS (fr' := [(3, some (.pointer (some ⟨b2, 0, none⟩))), (4, some (.pointer (some ⟨b3, 0, none⟩))), (16, some (.agg #[vU64 spans1.a0.a0, vU64 spans1.a0.a1, vU64 spans1.a1.a0, vU64 spans1.a1.a1, vU64 spans1.a2.a0, vU64 spans1.a2.a1])), (17, some (vI (0 : Int))), (6, some (.pointer (some ⟨b4, 0, none⟩))), (5, some (vI (0 : Int))), (34, some (vB true))]) (own' := [some (cellsR b2 184 [vU64 spans1.a0.a0, vU64 spans1.a0.a1, vU64 spans1.a1.a0, vU64 spans1.a1.a1, vU64 spans1.a2.a0, vU64 spans1.a2.a1]), some (cellsR b3 186 [vU64 steps1.a0, vU64 steps1.a1, vU64 steps1.a2]), some (cellsR b4 183 [vU64 spans1.a0.a0, vU64 spans1.a0.a1])]) (shr' := []) [3, 4, 16, 17, 6, 5, 34] [0, 1, 2] [] rfl rfl rfl rfl ?_
      refine Tk_condT rfl ?_
      refine Tk_seq (Tk_region (Tops_step rfl (OpT_assign rfl rfl rfl rfl) ?_))
      refine Tops_nil (Tk_wkS (fr' := [(2, some (vI (2 : Int)))]) (own' := []) (shr' := []) [2] [] [] rfl rfl rfl rfl ?_)
      obtain rfl := Option.some.inj h
      exact Tk_retV rfl rfl (resA (vs := [vI (2 : Int)]) rfl ⟨rfl, trivial⟩) [] [] rfl rfl rfl ⟨rfl, rfl, rfl⟩
    ·replace h := br_f hg2 h
     refine TA_seg (lo := 8) (hi := 12) htb rfl rfl (by kernel_rfl) (fun c L a w => Sat c ⟨[(3, some (.pointer (some ⟨b2, 0, none⟩))), (4, some (.pointer (some ⟨b3, 0, none⟩))), (16, some (.agg #[vU64 spans1.a0.a0, vU64 spans1.a0.a1, vU64 spans1.a1.a0, vU64 spans1.a1.a1, vU64 spans1.a2.a0, vU64 spans1.a2.a1])), (17, some (vI (0 : Int))), (6, some (.pointer (some ⟨b4, 0, none⟩))), (5, some (vI (0 : Int))), (28, some (vB ((spans1.a0.a0 % steps1.a0) != (0 : UInt64)))), (29, bif L 8 then some (.pointer (some ⟨b4, 0, none⟩)) else none), (30, bif L 9 then some (vU64 spans1.a0.a0) else none), (31, bif L 10 then some (.pointer (some ⟨b4, 1, none⟩)) else none), (32, bif L 11 then some (vU64 spans1.a0.a1) else none)], [(some (cellsR b2 184 [vU64 spans1.a0.a0, vU64 spans1.a0.a1, vU64 spans1.a1.a0, vU64 spans1.a1.a1, vU64 spans1.a2.a0, vU64 spans1.a2.a1]) : Option Res), (some (cellsR b3 186 [vU64 steps1.a0, vU64 steps1.a1, vU64 steps1.a2]) : Option Res), (some (cellsR b4 183 [vU64 spans1.a0.a0, vU64 spans1.a0.a1]) : Option Res)], []⟩ a w) [([], [9]), ([8], []), ([], [11]), ([10], [])] rfl (by kernel_rfl) ?_ (steps_cons ?_ (steps_cons ?_ (steps_cons ?_ (steps_cons ?_ (steps_nil))))) ?_
     ·intro a w hs
      exact hs.startF [29, 30, 31, 32] [0, 1, 2] [] rfl rfl rfl rfl
     ·intro L a w hv K Q hK
      have hs := hv
      refine wpOp_yes rfl rfl rfl hs (congrArg (fun b => some (Value.bool b)) hg2) (OpT_indexC rfl rfl rfl rfl rfl arrF183 (by decide)) ?_
      rintro _ rfl a' w' hs'
      exact hK a' w' (hs'.putF (i := 7) rfl [0, 1, 2] [] rfl rfl rfl rfl)
     ·intro L a w hv K Q hK
      have hs := hv
      refine wpOp_yes rfl rfl rfl hs (congrArg (fun b => some (Value.bool b)) hg2) (OpT_loadC rfl rfl rfl rfl tyF27 (i := 2) rfl rfl) ?_
      rintro _ rfl a' w' hs'
      exact hK a' w' (hs'.putF (i := 8) rfl [0, 1, 2] [] rfl rfl rfl rfl)
     ·intro L a w hv K Q hK
      have hs := hv
      refine wpOp_yes rfl rfl rfl hs (congrArg (fun b => some (Value.bool b)) hg2) (OpT_indexC rfl rfl rfl rfl rfl arrF183 (by decide)) ?_
      rintro _ rfl a' w' hs'
      exact hK a' w' (hs'.putF (i := 9) rfl [0, 1, 2] [] rfl rfl rfl rfl)
     ·intro L a w hv K Q hK
      have hs := hv
      refine wpOp_yes rfl rfl rfl hs (congrArg (fun b => some (Value.bool b)) hg2) (OpT_loadC rfl rfl rfl rfl tyF27 (i := 2) rfl rfl) ?_
      rintro _ rfl a' w' hs'
      exact hK a' w' (hs'.putF (i := 10) rfl [0, 1, 2] [] rfl rfl rfl rfl)
     ·intro L a w hL hv
      rw [allTrue hL] at hv
      have hs := hv
      refine (show TA _ _ _ 12 ⟨[(3, some (.pointer (some ⟨b2, 0, none⟩))), (4, some (.pointer (some ⟨b3, 0, none⟩))), (16, some (.agg #[vU64 spans1.a0.a0, vU64 spans1.a0.a1, vU64 spans1.a1.a0, vU64 spans1.a1.a1, vU64 spans1.a2.a0, vU64 spans1.a2.a1])), (17, some (vI (0 : Int))), (6, some (.pointer (some ⟨b4, 0, none⟩))), (5, some (vI (0 : Int))), (28, some (vB ((spans1.a0.a0 % steps1.a0) != (0 : UInt64)))), (30, some (vU64 spans1.a0.a0)), (32, some (vU64 spans1.a0.a1))], [some (cellsR b2 184 [vU64 spans1.a0.a0, vU64 spans1.a0.a1, vU64 spans1.a1.a0, vU64 spans1.a1.a1, vU64 spans1.a2.a0, vU64 spans1.a2.a1]), some (cellsR b3 186 [vU64 steps1.a0, vU64 steps1.a1, vU64 steps1.a2]), some (cellsR b4 183 [vU64 spans1.a0.a0, vU64 spans1.a0.a1])], []⟩ from ?_) a w (hs.wkS [3, 4, 16, 17, 6, 5, 28, 30, 32] [0, 1, 2] [] rfl rfl rfl rfl)
      clear hs hL
      obtain ⟨beyond1, hx4, h⟩ := ob_e h
      refine TA_yes htb (by kernel_rfl) rfl rfl rfl (congrArg (fun b => some (Value.bool b)) hg2) (OpT_call (w_layout_beyond hx4) [] [] rfl rfl rfl rfl rfl callee111 rfl rfl rfl rfl) ?_
      rintro _ ⟨_, _, _, ⟨rfl, rfl, rfl⟩, rfl⟩
      refine TA_step htb (by kernel_rfl) rfl rfl (OpT_pickF rfl rfl rfl (congrArg (fun b => some (Value.bool b)) hg2) rfl) ?_
      refine TA_end rfl ?_
      refine Tk_wkS (fr' := [(3, some (.pointer (some ⟨b2, 0, none⟩))), (4, some (.pointer (some ⟨b3, 0, none⟩))), (16, some (.agg #[vU64 spans1.a0.a0, vU64 spans1.a0.a1, vU64 spans1.a1.a0, vU64 spans1.a1.a1, vU64 spans1.a2.a0, vU64 spans1.a2.a1])), (17, some (vI (0 : Int))), (6, some (.pointer (some ⟨b4, 0, none⟩))), (5, some (vI (0 : Int))), (34, some (vB beyond1))]) (own' := [some (cellsR b2 184 [vU64 spans1.a0.a0, vU64 spans1.a0.a1, vU64 spans1.a1.a0, vU64 spans1.a1.a1, vU64 spans1.a2.a0, vU64 spans1.a2.a1]), some (cellsR b3 186 [vU64 steps1.a0, vU64 steps1.a1, vU64 steps1.a2]), some (cellsR b4 183 [vU64 spans1.a0.a0, vU64 spans1.a0.a1])]) (shr' := []) [3, 4, 16, 17, 6, 5, 34] [0, 1, 2] [] rfl rfl rfl rfl ?_
      rcases Bool.eq_false_or_eq_true (beyond1) with hg3 | hg3
      ·replace h := br_t hg3 h
       refine Tk_condT (congrArg (fun b => some (Value.bool b)) hg3) ?_
       refine Tk_seq (Tk_region (Tops_step rfl (OpT_assign rfl rfl rfl rfl) ?_))
       refine Tops_nil (Tk_wkS (fr' := [(2, some (vI (2 : Int)))]) (own' := []) (shr' := []) [2] [] [] rfl rfl rfl rfl ?_)
       obtain rfl := Option.some.inj h
       exact Tk_retV rfl rfl (resA (vs := [vI (2 : Int)]) rfl ⟨rfl, trivial⟩) [] [] rfl rfl rfl ⟨rfl, rfl, rfl⟩
      ·replace h := br_f hg3 h
       refine Tk_condF (congrArg (fun b => some (Value.bool b)) hg3) ?_
       refine Tk_skip (Tk_seq (Tk_region (Tops_step rfl (OpT_move rfl rfl rfl rfl) ?_)))
       refine Tops_step rfl (OpT_sliceArrH (m := (0 : Int)) rfl rfl rfl rfl rfl arrF184 (by decide) rfl) ?_
       refine Tops_step rfl (OpT_lenE rfl rfl rfl rfl Try.underlying188) ?_
       refine Tops_step rfl (OpT_move rfl rfl rfl rfl) ?_
       refine Tops_nil (Tk_wkS (fr' := [(3, some (.pointer (some ⟨b2, 0, none⟩))), (4, some (.pointer (some ⟨b3, 0, none⟩))), (16, some (.agg #[vU64 spans1.a0.a0, vU64 spans1.a0.a1, vU64 spans1.a1.a0, vU64 spans1.a1.a1, vU64 spans1.a2.a0, vU64 spans1.a2.a1])), (17, some (vI (0 : Int))), (6, some (.pointer (some ⟨b4, 0, none⟩))), (36, some (.slice (some ⟨b2, 0, none⟩) 0 3)), (37, some (vI (0 : Int))), (38, some (vI (0 : Int)))]) (own' := [some (cellsR b2 184 [vU64 spans1.a0.a0, vU64 spans1.a0.a1, vU64 spans1.a1.a0, vU64 spans1.a1.a1, vU64 spans1.a2.a0, vU64 spans1.a2.a1]), some (cellsR b3 186 [vU64 steps1.a0, vU64 steps1.a1, vU64 steps1.a2]), some (cellsR b4 183 [vU64 spans1.a0.a0, vU64 spans1.a0.a1])]) (shr' := []) [3, 4, 16, 17, 6, 36, 37, 38] [0, 1, 2] [] rfl rfl rfl rfl ?_)
       refine Tk_block (Tk_unroll 0 ?_)
       refine Tk_seq (Tk_region (Tops_step rfl (OpT_bin rfl rfl rfl rfl rfl (bin_lss_i (a := (0 : Int)) (b := (0 : Int)))) ?_))
       refine Tops_nil (Tk_seq (Tk_condF rfl ?_))
       refine Tk_exit _ rfl ?_
       refine Tk_blk (Tk_region (Tops_step rfl (OpT_bin rfl rfl rfl rfl rfl (bin_add_i (a := (0 : Int)) (b := (1 : Int)))) ?_))
       refine Tops_step rfl (OpT_move rfl rfl rfl rfl) ?_
       refine Tops_nil (Tk_wkS (fr' := [(3, some (.pointer (some ⟨b2, 0, none⟩))), (4, some (.pointer (some ⟨b3, 0, none⟩))), (16, some (.agg #[vU64 spans1.a0.a0, vU64 spans1.a0.a1, vU64 spans1.a1.a0, vU64 spans1.a1.a1, vU64 spans1.a2.a0, vU64 spans1.a2.a1])), (17, some (vI (1 : Int)))]) (own' := [some (cellsR b2 184 [vU64 spans1.a0.a0, vU64 spans1.a0.a1, vU64 spans1.a1.a0, vU64 spans1.a1.a1, vU64 spans1.a2.a0, vU64 spans1.a2.a1]), some (cellsR b3 186 [vU64 steps1.a0, vU64 steps1.a1, vU64 steps1.a2])]) (shr' := []) [3, 4, 16, 17] [0, 1] [] rfl rfl rfl rfl ?_)
       refine Tk_round ?_
       refine Tk_seq (Tk_region (Tops_step rfl (OpT_bin rfl rfl rfl rfl rfl (bin_lss_i (a := (1 : Int)) (b := (3 : Int)))) ?_))
       refine Tops_nil (Tk_seq (Tk_condT rfl ?_))
       refine Tk_skip (Tk_seq (Tk_block (Tk_seq (Tk_region (Tops_step rfl (OpT_move rfl rfl rfl rfl) ?_)))))
       refine Tops_step rfl (OpT_idxKA (cs := [vU64 spans1.a0.a0, vU64 spans1.a0.a1, vU64 spans1.a1.a0, vU64 spans1.a1.a1, vU64 spans1.a2.a0, vU64 spans1.a2.a1]) (vs := [vU64 spans1.a1.a0, vU64 spans1.a1.a1]) rfl rfl rfl rfl rfl arrF184 tyF183 (by decide) rfl) ?_
       refine Tops_ex rfl (OpT_alloc rfl rfl rfl tyZ183) fun b5 => ?_
       refine Tops_step rfl (OpT_assign rfl rfl rfl rfl) ?_
       refine Tops_step rfl (OpT_storeC (cs' := [vU64 spans1.a1.a0, vU64 spans1.a1.a1]) rfl rfl rfl rfl tyF183 (i := 2) rfl rfl rfl (one_of rfl) rfl) ?_
       refine Tops_nil (Tk_wkS (fr' := [(3, some (.pointer (some ⟨b2, 0, none⟩))), (4, some (.pointer (some ⟨b3, 0, none⟩))), (16, some (.agg #[vU64 spans1.a0.a0, vU64 spans1.a0.a1, vU64 spans1.a1.a0, vU64 spans1.a1.a1, vU64 spans1.a2.a0, vU64 spans1.a2.a1])), (17, some (vI (1 : Int))), (6, some (.pointer (some ⟨b5, 0, none⟩))), (5, some (vI (1 : Int)))]) (own' := [some (cellsR b2 184 [vU64 spans1.a0.a0, vU64 spans1.a0.a1, vU64 spans1.a1.a0, vU64 spans1.a1.a1, vU64 spans1.a2.a0, vU64 spans1.a2.a1]), some (cellsR b3 186 [vU64 steps1.a0, vU64 steps1.a1, vU64 steps1.a2]), some (cellsR b5 183 [vU64 spans1.a1.a0, vU64 spans1.a1.a1])]) (shr' := []) [3, 4, 16, 17, 6, 5] [0, 1, 2] [] rfl rfl rfl rfl ?_)
       refine Tk_seq (Tk_seq (Tk_drawT (by kernel_rfl) ?_))
       refine TA_tb [0, 1, 0, 4, 12, 31, 63, 127, 255, 511, 255, 1279, 4095, 8191] (by kernel_rfl) fun htb => ?_
       refine TA_seg (lo := 0) (hi := 5) htb rfl rfl (by kernel_rfl) (fun c L a w => Sat c ⟨[(3, some (.pointer (some ⟨b2, 0, none⟩))), (4, some (.pointer (some ⟨b3, 0, none⟩))), (16, some (.agg #[vU64 spans1.a0.a0, vU64 spans1.a0.a1, vU64 spans1.a1.a0, vU64 spans1.a1.a1, vU64 spans1.a2.a0, vU64 spans1.a2.a1])), (17, some (vI (1 : Int))), (6, some (.pointer (some ⟨b5, 0, none⟩))), (5, some (vI (1 : Int))), (21, bif L 0 then some (.pointer (some ⟨b5, 0, none⟩)) else none), (22, bif L 1 then some (vU64 spans1.a1.a0) else none), (23, bif L 2 then some (vI (1 : Int)) else none), (24, bif L 3 then some (.pointer (some ⟨b3, 1, none⟩)) else none), (25, bif L 4 then some (vU64 steps1.a1) else none)], [(some (cellsR b2 184 [vU64 spans1.a0.a0, vU64 spans1.a0.a1, vU64 spans1.a1.a0, vU64 spans1.a1.a1, vU64 spans1.a2.a0, vU64 spans1.a2.a1]) : Option Res), (some (cellsR b3 186 [vU64 steps1.a0, vU64 steps1.a1, vU64 steps1.a2]) : Option Res), (some (cellsR b5 183 [vU64 spans1.a1.a0, vU64 spans1.a1.a1]) : Option Res)], []⟩ a w) [([], [1]), ([0], []), ([], [3, 4]), ([2], [4]), ([2, 3], [])] rfl (by kernel_rfl) ?_ (steps_cons ?_ (steps_cons ?_ (steps_cons ?_ (steps_cons ?_ (steps_cons ?_ (steps_nil)))))) ?_
       ·intro a w hs
        exact hs.startF [21, 22, 23, 24, 25] [0, 1, 2] [] rfl rfl rfl rfl
       ·intro L a w hv K Q hK
        have hs := hv
        refine wpOp_go rfl rfl hs (OpT_indexC rfl rfl rfl rfl rfl arrF183 (by decide)) ?_
        rintro _ rfl a' w' hs'
        exact hK a' w' (hs'.putF (i := 6) rfl [0, 1, 2] [] rfl rfl rfl rfl)
       ·intro L a w hv K Q hK
        have hs := hv
        refine wpOp_go rfl rfl hs (OpT_loadC rfl rfl rfl rfl tyF27 (i := 2) rfl rfl) ?_
        rintro _ rfl a' w' hs'
        exact hK a' w' (hs'.putF (i := 7) rfl [0, 1, 2] [] rfl rfl rfl rfl)
       ·intro L a w hv K Q hK
        have hs := hv
        refine wpOp_go rfl rfl hs (OpT_move rfl rfl rfl rfl) ?_
        rintro _ rfl a' w' hs'
        exact hK a' w' (hs'.putF (i := 8) rfl [0, 1, 2] [] rfl rfl rfl rfl)
       ·intro L a w hv K Q hK
        have hs := hv
        refine wpOp_go rfl rfl hs (OpT_indexC rfl rfl rfl rfl rfl arrF186 (by decide)) ?_
        rintro _ rfl a' w' hs'
        exact hK a' w' (hs'.putF (i := 9) rfl [0, 1, 2] [] rfl rfl rfl rfl)
       ·intro L a w hv K Q hK
        have hs := hv
        refine wpOp_go rfl rfl hs (OpT_loadC rfl rfl rfl rfl tyF27 (i := 1) rfl rfl) ?_
        rintro _ rfl a' w' hs'
        exact hK a' w' (hs'.putF (i := 10) rfl [0, 1, 2] [] rfl rfl rfl rfl)
       ·intro L a w hL hv
        rw [allTrue hL] at hv
        have hs := hv
        refine (show TA _ _ _ 5 ⟨[(3, some (.pointer (some ⟨b2, 0, none⟩))), (4, some (.pointer (some ⟨b3, 0, none⟩))), (16, some (.agg #[vU64 spans1.a0.a0, vU64 spans1.a0.a1, vU64 spans1.a1.a0, vU64 spans1.a1.a1, vU64 spans1.a2.a0, vU64 spans1.a2.a1])), (17, some (vI (1 : Int))), (6, some (.pointer (some ⟨b5, 0, none⟩))), (5, some (vI (1 : Int))), (22, some (vU64 spans1.a1.a0)), (25, some (vU64 steps1.a1))], [some (cellsR b2 184 [vU64 spans1.a0.a0, vU64 spans1.a0.a1, vU64 spans1.a1.a0, vU64 spans1.a1.a1, vU64 spans1.a2.a0, vU64 spans1.a2.a1]), some (cellsR b3 186 [vU64 steps1.a0, vU64 steps1.a1, vU64 steps1.a2]), some (cellsR b5 183 [vU64 spans1.a1.a0, vU64 spans1.a1.a1])], []⟩ from ?_) a w (hs.wkS [3, 4, 16, 17, 6, 5, 22, 25] [0, 1, 2] [] rfl rfl rfl rfl)
        clear hs hL
        obtain ⟨hc2, h⟩ := chk_e h
        refine TA_step htb (by kernel_rfl) rfl rfl (OpT_bin rfl rfl rfl rfl rfl (bin_rem_u64 (a := spans1.a1.a0) (b := steps1.a1) (not_t hc2))) ?_
        refine TA_step htb (by kernel_rfl) rfl rfl (OpT_bin rfl rfl rfl rfl rfl (bin_neq_u64 (a := spans1.a1.a0 % steps1.a1) (b := (0 : UInt64)))) ?_
        refine TA_step htb (by kernel_rfl) rfl rfl (OpT_move rfl rfl rfl rfl) ?_
        refine TA_wkS (fr' := [(3, some (.pointer (some ⟨b2, 0, none⟩))), (4, some (.pointer (some ⟨b3, 0, none⟩))), (16, some (.agg #[vU64 spans1.a0.a0, vU64 spans1.a0.a1, vU64 spans1.a1.a0, vU64 spans1.a1.a1, vU64 spans1.a2.a0, vU64 spans1.a2.a1])), (17, some (vI (1 : Int))), (6, some (.pointer (some ⟨b5, 0, none⟩))), (5, some (vI (1 : Int))), (28, some (vB ((spans1.a1.a0 % steps1.a1) != (0 : UInt64))))]) (own' := [some (cellsR b2 184 [vU64 spans1.a0.a0, vU64 spans1.a0.a1, vU64 spans1.a1.a0, vU64 spans1.a1.a1, vU64 spans1.a2.a0, vU64 spans1.a2.a1]), some (cellsR b3 186 [vU64 steps1.a0, vU64 steps1.a1, vU64 steps1.a2]), some (cellsR b5 183 [vU64 spans1.a1.a0, vU64 spans1.a1.a1])]) (shr' := []) [3, 4, 16, 17, 6, 5, 28] [0, 1, 2] [] rfl rfl rfl rfl ?_
        rcases Bool.eq_false_or_eq_true ((spans1.a1.a0 % steps1.a1) != (0 : UInt64)) with hg4 | hg4
        ·replace h := br_t hg4 h
         refine TA_seg (lo := 8) (hi := 12) htb rfl rfl (by kernel_rfl) (fun c L a w => Sat c ⟨[(3, some (.pointer (some ⟨b2, 0, none⟩))), (4, some (.pointer (some ⟨b3, 0, none⟩))), (16, some (.agg #[vU64 spans1.a0.a0, vU64 spans1.a0.a1, vU64 spans1.a1.a0, vU64 spans1.a1.a1, vU64 spans1.a2.a0, vU64 spans1.a2.a1])), (17, some (vI (1 : Int))), (6, some (.pointer (some ⟨b5, 0, none⟩))), (5, some (vI (1 : Int))), (28, some (vB ((spans1.a1.a0 % steps1.a1) != (0 : UInt64)))), (29, bif L 8 then some (undef) else none), (30, bif L 9 then some (undef) else none), (31, bif L 10 then some (undef) else none), (32, bif L 11 then some (undef) else none)], [(some (cellsR b2 184 [vU64 spans1.a0.a0, vU64 spans1.a0.a1, vU64 spans1.a1.a0, vU64 spans1.a1.a1, vU64 spans1.a2.a0, vU64 spans1.a2.a1]) : Option Res), (some (cellsR b3 186 [vU64 steps1.a0, vU64 steps1.a1, vU64 steps1.a2]) : Option Res), (some (cellsR b5 183 [vU64 spans1.a1.a0, vU64 spans1.a1.a1]) : Option Res)], []⟩ a w) [([], [9]), ([8], []), ([], [11]), ([10], [])] rfl (by kernel_rfl) ?_ (steps_cons ?_ (steps_cons ?_ (steps_cons ?_ (steps_cons ?_ (steps_nil))))) ?_
         ·intro a w hs
          exact hs.startF [29, 30, 31, 32] [0, 1, 2] [] rfl rfl rfl rfl
         ·intro L a w hv K Q hK
          have hs := hv
          refine wpOp_no rfl rfl rfl hs (congrArg (fun b => some (Value.bool b)) hg4) rfl rfl ?_
          intro a' w' hs'
          exact hK a' w' (hs'.putF (i := 7) rfl [0, 1, 2] [] rfl rfl rfl rfl)
         ·intro L a w hv K Q hK
          have hs := hv
          refine wpOp_no rfl rfl rfl hs (congrArg (fun b => some (Value.bool b)) hg4) rfl rfl ?_
          intro a' w' hs'
          exact hK a' w' (hs'.putF (i := 8) rfl [0, 1, 2] [] rfl rfl rfl rfl)
         ·intro L a w hv K Q hK
          have hs := hv
          refine wpOp_no rfl rfl rfl hs (congrArg (fun b => some (Value.bool b)) hg4) rfl rfl ?_
          intro a' w' hs'
          exact hK a' w' (hs'.putF (i := 9) rfl [0, 1, 2] [] rfl rfl rfl rfl)
         ·intro L a w hv K Q hK
          have hs := hv
          refine wpOp_no rfl rfl rfl hs (congrArg (fun b => some (Value.bool b)) hg4) rfl rfl ?_
          intro a' w' hs'
          exact hK a' w' (hs'.putF (i := 10) rfl [0, 1, 2] [] rfl rfl rfl rfl)
         ·intro L a w hL hv
          rw [allTrue hL] at hv
          have hs := hv
          refine (show TA _ _ _ 12 ⟨[(3, some (.pointer (some ⟨b2, 0, none⟩))), (4, some (.pointer (some ⟨b3, 0, none⟩))), (16, some (.agg #[vU64 spans1.a0.a0, vU64 spans1.a0.a1, vU64 spans1.a1.a0, vU64 spans1.a1.a1, vU64 spans1.a2.a0, vU64 spans1.a2.a1])), (17, some (vI (1 : Int))), (6, some (.pointer (some ⟨b5, 0, none⟩))), (5, some (vI (1 : Int))), (28, some (vB ((spans1.a1.a0 % steps1.a1) != (0 : UInt64)))), (30, some (undef)), (32, some (undef))], [some (cellsR b2 184 [vU64 spans1.a0.a0, vU64 spans1.a0.a1, vU64 spans1.a1.a0, vU64 spans1.a1.a1, vU64 spans1.a2.a0, vU64 spans1.a2.a1]), some (cellsR b3 186 [vU64 steps1.a0, vU64 steps1.a1, vU64 steps1.a2]), some (cellsR b5 183 [vU64 spans1.a1.a0, vU64 spans1.a1.a1])], []⟩ from ?_) a w (hs.wkS [3, 4, 16, 17, 6, 5, 28, 30, 32] [0, 1, 2] [] rfl rfl rfl rfl)
          clear hs hL
          refine TA_no htb (by kernel_rfl) rfl rfl rfl (congrArg (fun b => some (Value.bool b)) hg4) rfl rfl ?_
          refine TA_step htb (by kernel_rfl) rfl rfl (OpT_pickT rfl rfl rfl (congrArg (fun b => some (Value.bool b)) hg4) rfl) ?_
          refine TA_end rfl ?_
          refine Tk_wkS (fr' := [(3, some (.pointer (some ⟨b2, 0, none⟩))), (4, some (.pointer (some ⟨b3, 0, none⟩))), (16, some (.agg #[vU64 spans1.a0.a0, vU64 spans1.a0.a1, vU64 spans1.a1.a0, vU64 spans1.a1.a1, vU64 spans1.a2.a0, vU64 spans1.a2.a1])), (17, some (vI (1 : Int))), (6, some (.pointer (some ⟨b5, 0, none⟩))), (5, some (vI (1 : Int))), (34, some (vB true))]) (own' := [some (cellsR b2 184 [vU64 spans1.a0.a0, vU64 spans1.a0.a1, vU64 spans1.a1.a0, vU64 spans1.a1.a1, vU64 spans1.a2.a0, vU64 spans1.a2.a1]), some (cellsR b3 186 [vU64 steps1.a0, vU64 steps1.a1, vU64 steps1.a2]), some (cellsR b5 183 [vU64 spans1.a1.a0, vU64 spans1.a1.a1])]) (shr' := []) [3, 4, 16, 17, 6, 5, 34] [0, 1, 2] [] rfl rfl rfl rfl ?_
          refine Tk_condT rfl ?_
          refine Tk_seq (Tk_region (Tops_step rfl (OpT_assign rfl rfl rfl rfl) ?_))
          refine Tops_nil (Tk_wkS (fr' := [(2, some (vI (2 : Int)))]) (own' := []) (shr' := []) [2] [] [] rfl rfl rfl rfl ?_)
          obtain rfl := Option.some.inj h
          exact Tk_retV rfl rfl (resA (vs := [vI (2 : Int)]) rfl ⟨rfl, trivial⟩) [] [] rfl rfl rfl ⟨rfl, rfl, rfl⟩
        ·replace h := br_f hg4 h
         refine TA_seg (lo := 8) (hi := 12) htb rfl rfl (by kernel_rfl) (fun c L a w => Sat c ⟨[(3, some (.pointer (some ⟨b2, 0, none⟩))), (4, some (.pointer (some ⟨b3, 0, none⟩))), (16, some (.agg #[vU64 spans1.a0.a0, vU64 spans1.a0.a1, vU64 spans1.a1.a0, vU64 spans1.a1.a1, vU64 spans1.a2.a0, vU64 spans1.a2.a1])), (17, some (vI (1 : Int))), (6, some (.pointer (some ⟨b5, 0, none⟩))), (5, some (vI (1 : Int))), (28, some (vB ((spans1.a1.a0 % steps1.a1) != (0 : UInt64)))), (29, bif L 8 then some (.pointer (some ⟨b5, 0, none⟩)) else none), (30, bif L 9 then some (vU64 spans1.a1.a0) else none), (31, bif L 10 then some (.pointer (some ⟨b5, 1, none⟩)) else none), (32, bif L 11 then some (vU64 spans1.a1.a1) else none)], [(some (cellsR b2 184 [vU64 spans1.a0.a0, vU64 spans1.a0.a1, vU64 spans1.a1.a0, vU64 spans1.a1.a1, vU64 spans1.a2.a0, vU64 spans1.a2.a1]) : Option Res), (some (cellsR b3 186 [vU64 steps1.a0, vU64 steps1.a1, vU64 steps1.a2]) : Option Res), (some (cellsR b5 183 [vU64 spans1.a1.a0, vU64 spans1.a1.a1]) : Option Res)], []⟩ a w) [([], [9]), ([8], []), ([], [11]), ([10], [])] rfl (by kernel_rfl) ?_ (steps_cons ?_ (steps_cons ?_ (steps_cons ?_ (steps_cons ?_ (steps_nil))))) ?_
         ·intro a w hs
          exact hs.startF [29, 30, 31, 32] [0, 1, 2] [] rfl rfl rfl rfl
         ·intro L a w hv K Q hK
          have hs := hv
          refine wpOp_yes rfl rfl rfl hs (congrArg (fun b => some (Value.bool b)) hg4) (OpT_indexC rfl rfl rfl rfl rfl arrF183 (by decide)) ?_
          rintro _ rfl a' w' hs'
          exact hK a' w' (hs'.putF (i := 7) rfl [0, 1, 2] [] rfl rfl rfl rfl)
         ·intro L a w hv K Q hK
          have hs := hv
          refine wpOp_yes rfl rfl rfl hs (congrArg (fun b => some (Value.bool b)) hg4) (OpT_loadC rfl rfl rfl rfl tyF27 (i := 2) rfl rfl) ?_
          rintro _ rfl a' w' hs'
          exact hK a' w' (hs'.putF (i := 8) rfl [0, 1, 2] [] rfl rfl rfl rfl)
         ·intro L a w hv K Q hK
          have hs := hv
          refine wpOp_yes rfl rfl rfl hs (congrArg (fun b => some (Value.bool b)) hg4) (OpT_indexC rfl rfl rfl rfl rfl arrF183 (by decide)) ?_
          rintro _ rfl a' w' hs'
          exact hK a' w' (hs'.putF (i := 9) rfl [0, 1, 2] [] rfl rfl rfl rfl)
         ·intro L a w hv K Q hK
          have hs := hv
          refine wpOp_yes rfl rfl rfl hs (congrArg (fun b => some (Value.bool b)) hg4) (OpT_loadC rfl rfl rfl rfl tyF27 (i := 2) rfl rfl) ?_
          rintro _ rfl a' w' hs'
          exact hK a' w' (hs'.putF (i := 10) rfl [0, 1, 2] [] rfl rfl rfl rfl)
         ·intro L a w hL hv
          rw [allTrue hL] at hv
          have hs := hv
          refine (show TA _ _ _ 12 ⟨[(3, some (.pointer (some ⟨b2, 0, none⟩))), (4, some (.pointer (some ⟨b3, 0, none⟩))), (16, some (.agg #[vU64 spans1.a0.a0, vU64 spans1.a0.a1, vU64 spans1.a1.a0, vU64 spans1.a1.a1, vU64 spans1.a2.a0, vU64 spans1.a2.a1])), (17, some (vI (1 : Int))), (6, some (.pointer (some ⟨b5, 0, none⟩))), (5, some (vI (1 : Int))), (28, some (vB ((spans1.a1.a0 % steps1.a1) != (0 : UInt64)))), (30, some (vU64 spans1.a1.a0)), (32, some (vU64 spans1.a1.a1))], [some (cellsR b2 184 [vU64 spans1.a0.a0, vU64 spans1.a0.a1, vU64 spans1.a1.a0, vU64 spans1.a1.a1, vU64 spans1.a2.a0, vU64 spans1.a2.a1]), some (cellsR b3 186 [vU64 steps1.a0, vU64 steps1.a1, vU64 steps1.a2]), some (cellsR b5 183 [vU64 spans1.a1.a0, vU64 spans1.a1.a1])], []⟩ from ?_) a w (hs.wkS [3, 4, 16, 17, 6, 5, 28, 30, 32] [0, 1, 2] [] rfl rfl rfl rfl)
          clear hs hL
          obtain ⟨beyond2, hx5, h⟩ := ob_e h
          refine TA_yes htb (by kernel_rfl) rfl rfl rfl (congrArg (fun b => some (Value.bool b)) hg4) (OpT_call (w_layout_beyond hx5) [] [] rfl rfl rfl rfl rfl callee111 rfl rfl rfl rfl) ?_
          rintro _ ⟨_, _, _, ⟨rfl, rfl, rfl⟩, rfl⟩
          refine TA_step htb (by kernel_rfl) rfl rfl (OpT_pickF rfl rfl rfl (congrArg (fun b => some (Value.bool b)) hg4) rfl) ?_
          refine TA_end rfl ?_
          refine Tk_wkS (fr' := [(3, some (.pointer (some ⟨b2, 0, none⟩))), (4, some (.pointer (some ⟨b3, 0, none⟩))), (16, some (.agg #[vU64 spans1.a0.a0, vU64 spans1.a0.a1, vU64 spans1.a1.a0, vU64 spans1.a1.a1, vU64 spans1.a2.a0, vU64 spans1.a2.a1])), (17, some (vI (1 : Int))), (6, some (.pointer (some ⟨b5, 0, none⟩))), (5, some (vI (1 : Int))), (34, some (vB beyond2))]) (own' := [some (cellsR b2 184 [vU64 spans1.a0.a0, vU64 spans1.a0.a1, vU64 spans1.a1.a0, vU64 spans1.a1.a1, vU64 spans1.a2.a0, vU64 spans1.a2.a1]), some (cellsR b3 186 [vU64 steps1.a0, vU64 steps1.a1, vU64 steps1.a2]), some (cellsR b5 183 [vU64 spans1.a1.a0, vU64 spans1.a1.a1])]) (shr' := []) [3, 4, 16, 17, 6, 5, 34] [0, 1, 2] [] rfl rfl rfl rfl ?_
          rcases Bool.eq_false_or_eq_true (beyond2) with hg5 | hg5
          ·replace h := br_t hg5 h
           refine Tk_condT (congrArg (fun b => some (Value.bool b)) hg5) ?_
           refine Tk_seq (Tk_region (Tops_step rfl (OpT_assign rfl rfl rfl rfl) ?_))
           refine Tops_nil (Tk_wkS (fr' := [(2, some (vI (2 : Int)))]) (own' := []) (shr' := []) [2] [] [] rfl rfl rfl rfl ?_)
           obtain rfl := Option.some.inj h
           exact Tk_retV rfl rfl (resA (vs := [vI (2 : Int)]) rfl ⟨rfl, trivial⟩) [] [] rfl rfl rfl ⟨rfl, rfl, rfl⟩
          ·replace h := br_f hg5 h
           refine Tk_condF (congrArg (fun b => some (Value.bool b)) hg5) ?_
           refine Tk_skip (Tk_seq (Tk_region (Tops_step rfl (OpT_move rfl rfl rfl rfl) ?_)))
           refine Tops_step rfl (OpT_sliceArrH (m := (1 : Int)) rfl rfl rfl rfl rfl arrF184 (by decide) rfl) ?_
           refine Tops_step rfl (OpT_lenE rfl rfl rfl rfl Try.underlying188) ?_
           refine Tops_step rfl (OpT_move rfl rfl rfl rfl) ?_
           refine Tops_nil (Tk_wkS (fr' := [(3, some (.pointer (some ⟨b2, 0, none⟩))), (4, some (.pointer (some ⟨b3, 0, none⟩))), (16, some (.agg #[vU64 spans1.a0.a0, vU64 spans1.a0.a1, vU64 spans1.a1.a0, vU64 spans1.a1.a1, vU64 spans1.a2.a0, vU64 spans1.a2.a1])), (17, some (vI (1 : Int))), (6, some (.pointer (some ⟨b5, 0, none⟩))), (36, some (.slice (some ⟨b2, 0, none⟩) 1 3)), (37, some (vI (1 : Int))), (38, some (vI (0 : Int)))]) (own' := [some (cellsR b2 184 [vU64 spans1.a0.a0, vU64 spans1.a0.a1, vU64 spans1.a1.a0, vU64 spans1.a1.a1, vU64 spans1.a2.a0, vU64 spans1.a2.a1]), some (cellsR b3 186 [vU64 steps1.a0, vU64 steps1.a1, vU64 steps1.a2]), some (cellsR b5 183 [vU64 spans1.a1.a0, vU64 spans1.a1.a1])]) (shr' := []) [3, 4, 16, 17, 6, 36, 37, 38] [0, 1, 2] [] rfl rfl rfl rfl ?_)
           refine Tk_block (Tk_unroll 1 ?_)
           refine Tk_seq (Tk_region (Tops_step rfl (OpT_bin rfl rfl rfl rfl rfl (bin_lss_i (a := (0 : Int)) (b := (1 : Int)))) ?_))
           refine Tops_nil (Tk_seq (Tk_condT rfl ?_))
           refine Tk_skip (Tk_seq (Tk_block (Tk_seq (Tk_region (Tops_step rfl (OpT_idxSl (m := (0 : Int)) rfl rfl rfl rfl rfl slF188 (by decide)) ?_)))))
           refine Tops_step rfl (OpT_loadCA (vs := [vU64 spans1.a0.a0, vU64 spans1.a0.a1]) rfl rfl rfl rfl tyF183 (i := 0) rfl rfl rfl) ?_
           refine Tops_ex rfl (OpT_alloc rfl rfl rfl tyZ183) fun b6 => ?_
           refine Tops_step rfl (OpT_storeC (cs' := [vU64 spans1.a0.a0, vU64 spans1.a0.a1]) rfl rfl rfl rfl tyF183 (i := 3) rfl rfl rfl (one_of rfl) rfl) ?_
           refine Tops_nil (Tk_wkS (fr' := [(3, some (.pointer (some ⟨b2, 0, none⟩))), (4, some (.pointer (some ⟨b3, 0, none⟩))), (16, some (.agg #[vU64 spans1.a0.a0, vU64 spans1.a0.a1, vU64 spans1.a1.a0, vU64 spans1.a1.a1, vU64 spans1.a2.a0, vU64 spans1.a2.a1])), (17, some (vI (1 : Int))), (6, some (.pointer (some ⟨b5, 0, none⟩))), (36, some (.slice (some ⟨b2, 0, none⟩) 1 3)), (37, some (vI (1 : Int))), (38, some (vI (0 : Int))), (8, some (.pointer (some ⟨b6, 0, none⟩)))]) (own' := [some (cellsR b2 184 [vU64 spans1.a0.a0, vU64 spans1.a0.a1, vU64 spans1.a1.a0, vU64 spans1.a1.a1, vU64 spans1.a2.a0, vU64 spans1.a2.a1]), some (cellsR b3 186 [vU64 steps1.a0, vU64 steps1.a1, vU64 steps1.a2]), some (cellsR b5 183 [vU64 spans1.a1.a0, vU64 spans1.a1.a1]), some (cellsR b6 183 [vU64 spans1.a0.a0, vU64 spans1.a0.a1])]) (shr' := []) [3, 4, 16, 17, 6, 36, 37, 38, 8] [0, 1, 2, 3] [] rfl rfl rfl rfl ?_)
           refine Tk_seq (Tk_region (Tops_step rfl (OpT_indexC rfl rfl rfl rfl rfl arrF183 (by decide)) ?_))
           refine Tops_step rfl (OpT_loadC rfl rfl rfl rfl tyF27 (i := 2) rfl rfl) ?_
           refine Tops_step rfl (OpT_indexC rfl rfl rfl rfl rfl arrF183 (by decide)) ?_
           refine Tops_step rfl (OpT_loadC rfl rfl rfl rfl tyF27 (i := 2) rfl rfl) ?_
           refine Tops_step rfl (OpT_indexC rfl rfl rfl rfl rfl arrF183 (by decide)) ?_
           refine Tops_step rfl (OpT_loadC rfl rfl rfl rfl tyF27 (i := 3) rfl rfl) ?_
           refine Tops_step rfl (OpT_indexC rfl rfl rfl rfl rfl arrF183 (by decide)) ?_
           refine Tops_step rfl (OpT_loadC rfl rfl rfl rfl tyF27 (i := 3) rfl rfl) ?_
           obtain ⟨common1, hx6, h⟩ := ob_e h
           refine Tops_exP rfl (OpT_call (w_layout_common hx6) [] [] rfl rfl rfl rfl rfl callee112 rfl rfl rfl rfl) ?_
           rintro _ ⟨_, _, _, ⟨rfl, rfl, rfl⟩, rfl⟩
           refine Tops_nil (Tk_wkS (fr' := [(3, some (.pointer (some ⟨b2, 0, none⟩))), (4, some (.pointer (some ⟨b3, 0, none⟩))), (16, some (.agg #[vU64 spans1.a0.a0, vU64 spans1.a0.a1, vU64 spans1.a1.a0, vU64 spans1.a1.a1, vU64 spans1.a2.a0, vU64 spans1.a2.a1])), (17, some (vI (1 : Int))), (6, some (.pointer (some ⟨b5, 0, none⟩))), (36, some (.slice (some ⟨b2, 0, none⟩) 1 3)), (37, some (vI (1 : Int))), (38, some (vI (0 : Int))), (50, some (vB common1))]) (own' := [some (cellsR b2 184 [vU64 spans1.a0.a0, vU64 spans1.a0.a1, vU64 spans1.a1.a0, vU64 spans1.a1.a1, vU64 spans1.a2.a0, vU64 spans1.a2.a1]), some (cellsR b3 186 [vU64 steps1.a0, vU64 steps1.a1, vU64 steps1.a2]), some (cellsR b5 183 [vU64 spans1.a1.a0, vU64 spans1.a1.a1])]) (shr' := []) [3, 4, 16, 17, 6, 36, 37, 38, 50] [0, 1, 2] [] rfl rfl rfl rfl ?_)
           rcases Bool.eq_false_or_eq_true (common1) with hg6 | hg6
           ·replace h := br_t hg6 h
            refine Tk_condT (congrArg (fun b => some (Value.bool b)) hg6) ?_
            refine Tk_seq (Tk_region (Tops_step rfl (OpT_assign rfl rfl rfl rfl) ?_))
            refine Tops_nil (Tk_wkS (fr' := [(2, some (vI (2 : Int)))]) (own' := []) (shr' := []) [2] [] [] rfl rfl rfl rfl ?_)
            obtain rfl := Option.some.inj h
            exact Tk_retV rfl rfl (resA (vs := [vI (2 : Int)]) rfl ⟨rfl, trivial⟩) [] [] rfl rfl rfl ⟨rfl, rfl, rfl⟩
           ·replace h := br_f hg6 h
            refine Tk_condF (congrArg (fun b => some (Value.bool b)) hg6) ?_
            refine Tk_skip (Tk_blk (Tk_region (Tops_step rfl (OpT_bin rfl rfl rfl rfl rfl (bin_add_i (a := (0 : Int)) (b := (1 : Int)))) ?_)))
            refine Tops_step rfl (OpT_move rfl rfl rfl rfl) ?_
            refine Tops_nil (Tk_wkS (fr' := [(3, some (.pointer (some ⟨b2, 0, none⟩))), (4, some (.pointer (some ⟨b3, 0, none⟩))), (16, some (.agg #[vU64 spans1.a0.a0, vU64 spans1.a0.a1, vU64 spans1.a1.a0, vU64 spans1.a1.a1, vU64 spans1.a2.a0, vU64 spans1.a2.a1])), (17, some (vI (1 : Int))), (6, some (.pointer (some ⟨b5, 0, none⟩))), (36, some (.slice (some ⟨b2, 0, none⟩) 1 3)), (37, some (vI (1 : Int))), (38, some (vI (1 : Int)))]) (own' := [some (cellsR b2 184 [vU64 spans1.a0.a0, vU64 spans1.a0.a1, vU64 spans1.a1.a0, vU64 spans1.a1.a1, vU64 spans1.a2.a0, vU64 spans1.a2.a1]), some (cellsR b3 186 [vU64 steps1.a0, vU64 steps1.a1, vU64 steps1.a2]), some (cellsR b5 183 [vU64 spans1.a1.a0, vU64 spans1.a1.a1])]) (shr' := []) [3, 4, 16, 17, 6, 36, 37, 38] [0, 1, 2] [] rfl rfl rfl rfl ?_)
            refine Tk_round ?_
            refine Tk_seq (Tk_region (Tops_step rfl (OpT_bin rfl rfl rfl rfl rfl (bin_lss_i (a := (1 : Int)) (b := (1 : Int)))) ?_))
            refine Tops_nil (Tk_seq (Tk_condF rfl ?_))
            refine Tk_exit _ rfl ?_
            refine Tk_blk (Tk_region (Tops_step rfl (OpT_bin rfl rfl rfl rfl rfl (bin_add_i (a := (1 : Int)) (b := (1 : Int)))) ?_))
            refine Tops_step rfl (OpT_move rfl rfl rfl rfl) ?_
            refine Tops_nil (Tk_wkS (fr' := [(3, some (.pointer (some ⟨b2, 0, none⟩))), (4, some (.pointer (some ⟨b3, 0, none⟩))), (16, some (.agg #[vU64 spans1.a0.a0, vU64 spans1.a0.a1, vU64 spans1.a1.a0, vU64 spans1.a1.a1, vU64 spans1.a2.a0, vU64 spans1.a2.a1])), (17, some (vI (2 : Int)))]) (own' := [some (cellsR b2 184 [vU64 spans1.a0.a0, vU64 spans1.a0.a1, vU64 spans1.a1.a0, vU64 spans1.a1.a1, vU64 spans1.a2.a0, vU64 spans1.a2.a1]), some (cellsR b3 186 [vU64 steps1.a0, vU64 steps1.a1, vU64 steps1.a2])]) (shr' := []) [3, 4, 16, 17] [0, 1] [] rfl rfl rfl rfl ?_)
            refine Tk_round ?_
            refine Tk_seq (Tk_region (Tops_step rfl (OpT_bin rfl rfl rfl rfl rfl (bin_lss_i (a := (2 : Int)) (b := (3 : Int)))) ?_))
            refine Tops_nil (Tk_seq (Tk_condT rfl ?_))
            refine Tk_skip (Tk_seq (Tk_block (Tk_seq (Tk_region (Tops_step rfl (OpT_move rfl rfl rfl rfl) ?_)))))
            refine Tops_step rfl (OpT_idxKA (cs := [vU64 spans1.a0.a0, vU64 spans1.a0.a1, vU64 spans1.a1.a0, vU64 spans1.a1.a1, vU64 spans1.a2.a0, vU64 spans1.a2.a1]) (vs := [vU64 spans1.a2.a0, vU64 spans1.a2.a1]) rfl rfl rfl rfl rfl arrF184 tyF183 (by decide) rfl) ?_
            refine Tops_ex rfl (OpT_alloc rfl rfl rfl tyZ183) fun b7 => ?_
            refine Tops_step rfl (OpT_assign rfl rfl rfl rfl) ?_
            refine Tops_step rfl (OpT_storeC (cs' := [vU64 spans1.a2.a0, vU64 spans1.a2.a1]) rfl rfl rfl rfl tyF183 (i := 2) rfl rfl rfl (one_of rfl) rfl) ?_
            refine Tops_nil (Tk_wkS (fr' := [(3, some (.pointer (some ⟨b2, 0, none⟩))), (4, some (.pointer (some ⟨b3, 0, none⟩))), (16, some (.agg #[vU64 spans1.a0.a0, vU64 spans1.a0.a1, vU64 spans1.a1.a0, vU64 spans1.a1.a1, vU64 spans1.a2.a0, vU64 spans1.a2.a1])), (17, some (vI (2 : Int))), (6, some (.pointer (some ⟨b7, 0, none⟩))), (5, some (vI (2 : Int)))]) (own' := [some (cellsR b2 184 [vU64 spans1.a0.a0, vU64 spans1.a0.a1, vU64 spans1.a1.a0, vU64 spans1.a1.a1, vU64 spans1.a2.a0, vU64 spans1.a2.a1]), some (cellsR b3 186 [vU64 steps1.a0, vU64 steps1.a1, vU64 steps1.a2]), some (cellsR b7 183 [vU64 spans1.a2.a0, vU64 spans1.a2.a1])]) (shr' := []) [3, 4, 16, 17, 6, 5] [0, 1, 2] [] rfl rfl rfl rfl ?_)
            refine Tk_seq (Tk_seq (Tk_drawT (by kernel_rfl) ?_))
            refine TA_tb [0, 1, 0, 4, 12, 31, 63, 127, 255, 511, 255, 1279, 4095, 8191] (by kernel_rfl) fun htb => ?_
            refine TA_seg (lo := 0) (hi := 5) htb rfl rfl (by kernel_rfl) (fun c L a w => Sat c ⟨[(3, some (.pointer (some ⟨b2, 0, none⟩))), (4, some (.pointer (some ⟨b3, 0, none⟩))), (16, some (.agg #[vU64 spans1.a0.a0, vU64 spans1.a0.a1, vU64 spans1.a1.a0, vU64 spans1.a1.a1, vU64 spans1.a2.a0, vU64 spans1.a2.a1])), (17, some (vI (2 : Int))), (6, some (.pointer (some ⟨b7, 0, none⟩))), (5, some (vI (2 : Int))), (21, bif L 0 then some (.pointer (some ⟨b7, 0, none⟩)) else none), (22, bif L 1 then some (vU64 spans1.a2.a0) else none), (23, bif L 2 then some (vI (2 : Int)) else none), (24, bif L 3 then some (.pointer (some ⟨b3, 2, none⟩)) else none), (25, bif L 4 then some (vU64 steps1.a2) else none)], [(some (cellsR b2 184 [vU64 spans1.a0.a0, vU64 spans1.a0.a1, vU64 spans1.a1.a0, vU64 spans1.a1.a1, vU64 spans1.a2.a0, vU64 spans1.a2.a1]) : Option Res), (some (cellsR b3 186 [vU64 steps1.a0, vU64 steps1.a1, vU64 steps1.a2]) : Option Res), (some (cellsR b7 183 [vU64 spans1.a2.a0, vU64 spans1.a2.a1]) : Option Res)], []⟩ a w) [([], [1]), ([0], []), ([], [3, 4]), ([2], [4]), ([2, 3], [])] rfl (by kernel_rfl) ?_ (steps_cons ?_ (steps_cons ?_ (steps_cons ?_ (steps_cons ?_ (steps_cons ?_ (steps_nil)))))) ?_
            ·intro a w hs
             exact hs.startF [21, 22, 23, 24, 25] [0, 1, 2] [] rfl rfl rfl rfl
            ·intro L a w hv K Q hK
             have hs := hv
             refine wpOp_go rfl rfl hs (OpT_indexC rfl rfl rfl rfl rfl arrF183 (by decide)) ?_
             rintro _ rfl a' w' hs'
             exact hK a' w' (hs'.putF (i := 6) rfl [0, 1, 2] [] rfl rfl rfl rfl)
            ·intro L a w hv K Q hK
             have hs := hv
             refine wpOp_go rfl rfl hs (OpT_loadC rfl rfl rfl rfl tyF27 (i := 2) rfl rfl) ?_
             rintro _ rfl a' w' hs'
             exact hK a' w' (hs'.putF (i := 7) rfl [0, 1, 2] [] rfl rfl rfl rfl)
            ·intro L a w hv K Q hK
             have hs := hv
             refine wpOp_go rfl rfl hs (OpT_move rfl rfl rfl rfl) ?_
             rintro _ rfl a' w' hs'
             exact hK a' w' (hs'.putF (i := 8) rfl [0, 1, 2] [] rfl rfl rfl rfl)
            ·intro L a w hv K Q hK
             have hs := hv
             refine wpOp_go rfl rfl hs (OpT_indexC rfl rfl rfl rfl rfl arrF186 (by decide)) ?_
             rintro _ rfl a' w' hs'
             exact hK a' w' (hs'.putF (i := 9) rfl [0, 1, 2] [] rfl rfl rfl rfl)
            ·intro L a w hv K Q hK
             have hs := hv
             refine wpOp_go rfl rfl hs (OpT_loadC rfl rfl rfl rfl tyF27 (i := 1) rfl rfl) ?_
             rintro _ rfl a' w' hs'
             exact hK a' w' (hs'.putF (i := 10) rfl [0, 1, 2] [] rfl rfl rfl rfl)
            ·intro L a w hL hv
             rw [allTrue hL] at hv
             have hs := hv
             refine (show TA _ _ _ 5 ⟨[(3, some (.pointer (some ⟨b2, 0, none⟩))), (4, some (.pointer (some ⟨b3, 0, none⟩))), (16, some (.agg #[vU64 spans1.a0.a0, vU64 spans1.a0.a1, vU64 spans1.a1.a0, vU64 spans1.a1.a1, vU64 spans1.a2.a0, vU64 spans1.a2.a1])), (17, some (vI (2 : Int))), (6, some (.pointer (some ⟨b7, 0, none⟩))), (5, some (vI (2 : Int))), (22, some (vU64 spans1.a2.a0)), (25, some (vU64 steps1.a2))], [some (cellsR b2 184 [vU64 spans1.a0.a0, vU64 spans1.a0.a1, vU64 spans1.a1.a0, vU64 spans1.a1.a1, vU64 spans1.a2.a0, vU64 spans1.a2.a1]), some (cellsR b3 186 [vU64 steps1.a0, vU64 steps1.a1, vU64 steps1.a2]), some (cellsR b7 183 [vU64 spans1.a2.a0, vU64 spans1.a2.a1])], []⟩ from ?_) a w (hs.wkS [3, 4, 16, 17, 6, 5, 22, 25] [0, 1, 2] [] rfl rfl rfl rfl)
             clear hs hL
             obtain ⟨hc3, h⟩ := chk_e h
             refine TA_step htb (by kernel_rfl) rfl rfl (OpT_bin rfl rfl rfl rfl rfl (bin_rem_u64 (a := spans1.a2.a0) (b := steps1.a2) (not_t hc3))) ?_
             refine TA_step htb (by kernel_rfl) rfl rfl (OpT_bin rfl rfl rfl rfl rfl (bin_neq_u64 (a := spans1.a2.a0 % steps1.a2) (b := (0 : UInt64)))) ?_
             refine TA_step htb (by kernel_rfl) rfl rfl (OpT_move rfl rfl rfl rfl) ?_
             refine TA_wkS (fr' := [(3, some (.pointer (some ⟨b2, 0, none⟩))), (4, some (.pointer (some ⟨b3, 0, none⟩))), (16, some (.agg #[vU64 spans1.a0.a0, vU64 spans1.a0.a1, vU64 spans1.a1.a0, vU64 spans1.a1.a1, vU64 spans1.a2.a0, vU64 spans1.a2.a1])), (17, some (vI (2 : Int))), (6, some (.pointer (some ⟨b7, 0, none⟩))), (5, some (vI (2 : Int))), (28, some (vB ((spans1.a2.a0 % steps1.a2) != (0 : UInt64))))]) (own' := [some (cellsR b2 184 [vU64 spans1.a0.a0, vU64 spans1.a0.a1, vU64 spans1.a1.a0, vU64 spans1.a1.a1, vU64 spans1.a2.a0, vU64 spans1.a2.a1]), some (cellsR b3 186 [vU64 steps1.a0, vU64 steps1.a1, vU64 steps1.a2]), some (cellsR b7 183 [vU64 spans1.a2.a0, vU64 spans1.a2.a1])]) (shr' := []) [3, 4, 16, 17, 6, 5, 28] [0, 1, 2] [] rfl rfl rfl rfl ?_
             rcases Bool.eq_false_or_eq_true ((spans1.a2.a0 % steps1.a2) != (0 : UInt64)) with hg7 | hg7
             ·replace h := br_t hg7 h
              refine TA_seg (lo := 8) (hi := 12) htb rfl rfl (by kernel_rfl) (fun c L a w => Sat c ⟨[(3, some (.pointer (some ⟨b2, 0, none⟩))), (4, some (.pointer (some ⟨b3, 0, none⟩))), (16, some (.agg #[vU64 spans1.a0.a0, vU64 spans1.a0.a1, vU64 spans1.a1.a0, vU64 spans1.a1.a1, vU64 spans1.a2.a0, vU64 spans1.a2.a1])), (17, some (vI (2 : Int))), (6, some (.pointer (some ⟨b7, 0, none⟩))), (5, some (vI (2 : Int))), (28, some (vB ((spans1.a2.a0 % steps1.a2) != (0 : UInt64)))), (29, bif L 8 then some (undef) else none), (30, bif L 9 then some (undef) else none), (31, bif L 10 then some (undef) else none), (32, bif L 11 then some (undef) else none)], [(some (cellsR b2 184 [vU64 spans1.a0.a0, vU64 spans1.a0.a1, vU64 spans1.a1.a0, vU64 spans1.a1.a1, vU64 spans1.a2.a0, vU64 spans1.a2.a1]) : Option Res), (some (cellsR b3 186 [vU64 steps1.a0, vU64 steps1.a1, vU64 steps1.a2]) : Option Res), (some (cellsR b7 183 [vU64 spans1.a2.a0, vU64 spans1.a2.a1]) : Option Res)], []⟩ a w) [([], [9]), ([8], []), ([], [11]), ([10], [])] rfl (by kernel_rfl) ?_ (steps_cons ?_ (steps_cons ?_ (steps_cons ?_ (steps_cons ?_ (steps_nil))))) ?_
              ·intro a w hs
               exact hs.startF [29, 30, 31, 32] [0, 1, 2] [] rfl rfl rfl rfl
              ·intro L a w hv K Q hK
               have hs := hv
               refine wpOp_no rfl rfl rfl hs (congrArg (fun b => some (Value.bool b)) hg7) rfl rfl ?_
               intro a' w' hs'
               exact hK a' w' (hs'.putF (i := 7) rfl [0, 1, 2] [] rfl rfl rfl rfl)
              ·intro L a w hv K Q hK
               have hs := hv
               refine wpOp_no rfl rfl rfl hs (congrArg (fun b => some (Value.bool b)) hg7) rfl rfl ?_
               intro a' w' hs'
               exact hK a' w' (hs'.putF (i := 8) rfl [0, 1, 2] [] rfl rfl rfl rfl)
              ·intro L a w hv K Q hK
               have hs := hv
               refine wpOp_no rfl rfl rfl hs (congrArg (fun b => some (Value.bool b)) hg7) rfl rfl ?_
               intro a' w' hs'
               exact hK a' w' (hs'.putF (i := 9) rfl [0, 1, 2] [] rfl rfl rfl rfl)
              ·intro L a w hv K Q hK
               have hs := hv
               refine wpOp_no rfl rfl rfl hs (congrArg (fun b => some (Value.bool b)) hg7) rfl rfl ?_
               intro a' w' hs'
               exact hK a' w' (hs'.putF (i := 10) rfl [0, 1, 2] [] rfl rfl rfl rfl)
              ·intro L a w hL hv
               rw [allTrue hL] at hv
               have hs := hv
               refine (show TA _ _ _ 12 ⟨[(3, some (.pointer (some ⟨b2, 0, none⟩))), (4, some (.pointer (some ⟨b3, 0, none⟩))), (16, some (.agg #[vU64 spans1.a0.a0, vU64 spans1.a0.a1, vU64 spans1.a1.a0, vU64 spans1.a1.a1, vU64 spans1.a2.a0, vU64 spans1.a2.a1])), (17, some (vI (2 : Int))), (6, some (.pointer (some ⟨b7, 0, none⟩))), (5, some (vI (2 : Int))), (28, some (vB ((spans1.a2.a0 % steps1.a2) != (0 : UInt64)))), (30, some (undef)), (32, some (undef))], [some (cellsR b2 184 [vU64 spans1.a0.a0, vU64 spans1.a0.a1, vU64 spans1.a1.a0, vU64 spans1.a1.a1, vU64 spans1.a2.a0, vU64 spans1.a2.a1]), some (cellsR b3 186 [vU64 steps1.a0, vU64 steps1.a1, vU64 steps1.a2]), some (cellsR b7 183 [vU64 spans1.a2.a0, vU64 spans1.a2.a1])], []⟩ from ?_) a w (hs.wkS [3, 4, 16, 17, 6, 5, 28, 30, 32] [0, 1, 2] [] rfl rfl rfl rfl)
               clear hs hL
               refine TA_no htb (by kernel_rfl) rfl rfl rfl (congrArg (fun b => some (Value.bool b)) hg7) rfl rfl ?_
               refine TA_step htb (by kernel_rfl) rfl rfl (OpT_pickT rfl rfl rfl (congrArg (fun b => some (Value.bool b)) hg7) rfl) ?_
               refine TA_end rfl ?_
               refine Tk_wkS (fr' := [(3, some (.pointer (some ⟨b2, 0, none⟩))), (4, some (.pointer (some ⟨b3, 0, none⟩))), (16, some (.agg #[vU64 spans1.a0.a0, vU64 spans1.a0.a1, vU64 spans1.a1.a0, vU64 spans1.a1.a1, vU64 spans1.a2.a0, vU64 spans1.a2.a1])), (17, some (vI (2 : Int))), (6, some (.pointer (some ⟨b7, 0, none⟩))), (5, some (vI (2 : Int))), (34, some (vB true))]) (own' := [some (cellsR b2 184 [vU64 spans1.a0.a0, vU64 spans1.a0.a1, vU64 spans1.a1.a0, vU64 spans1.a1.a1, vU64 spans1.a2.a0, vU64 spans1.a2.a1]), some (cellsR b3 186 [vU64 steps1.a0, vU64 steps1.a1, vU64 steps1.a2]), some (cellsR b7 183 [vU64 spans1.a2.a0, vU64 spans1.a2.a1])]) (shr' := []) [3, 4, 16, 17, 6, 5, 34] [0, 1, 2] [] rfl rfl rfl rfl ?_
               refine Tk_condT rfl ?_
               refine Tk_seq (Tk_region (Tops_step rfl (OpT_assign rfl rfl rfl rfl) ?_))
               refine Tops_nil (Tk_wkS (fr' := [(2, some (vI (2 : Int)))]) (own' := []) (shr' := []) [2] [] [] rfl rfl rfl rfl ?_)
               obtain rfl := Option.some.inj h
               exact Tk_retV rfl rfl (resA (vs := [vI (2 : Int)]) rfl ⟨rfl, trivial⟩) [] [] rfl rfl rfl ⟨rfl, rfl, rfl⟩
             ·replace h := br_f hg7 h
              refine TA_seg (lo := 8) (hi := 12) htb rfl rfl (by kernel_rfl) (fun c L a w => Sat c ⟨[(3, some (.pointer (some ⟨b2, 0, none⟩))), (4, some (.pointer (some ⟨b3, 0, none⟩))), (16, some (.agg #[vU64 spans1.a0.a0, vU64 spans1.a0.a1, vU64 spans1.a1.a0, vU64 spans1.a1.a1, vU64 spans1.a2.a0, vU64 spans1.a2.a1])), (17, some (vI (2 : Int))), (6, some (.pointer (some ⟨b7, 0, none⟩))), (5, some (vI (2 : Int))), (28, some (vB ((spans1.a2.a0 % steps1.a2) != (0 : UInt64)))), (29, bif L 8 then some (.pointer (some ⟨b7, 0, none⟩)) else none), (30, bif L 9 then some (vU64 spans1.a2.a0) else none), (31, bif L 10 then some (.pointer (some ⟨b7, 1, none⟩)) else none), (32, bif L 11 then some (vU64 spans1.a2.a1) else none)], [(some (cellsR b2 184 [vU64 spans1.a0.a0, vU64 spans1.a0.a1, vU64 spans1.a1.a0, vU64 spans1.a1.a1, vU64 spans1.a2.a0, vU64 spans1.a2.a1]) : Option Res), (some (cellsR b3 186 [vU64 steps1.a0, vU64 steps1.a1, vU64 steps1.a2]) : Option Res), (some (cellsR b7 183 [vU64 spans1.a2.a0, vU64 spans1.a2.a1]) : Option Res)], []⟩ a w) [([], [9]), ([8], []), ([], [11]), ([10], [])] rfl (by kernel_rfl) ?_ (steps_cons ?_ (steps_cons ?_ (steps_cons ?_ (steps_cons ?_ (steps_nil))))) ?_
              ·intro a w hs
               exact hs.startF [29, 30, 31, 32] [0, 1, 2] [] rfl rfl rfl rfl
              ·intro L a w hv K Q hK
               have hs := hv
               refine wpOp_yes rfl rfl rfl hs (congrArg (fun b => some (Value.bool b)) hg7) (OpT_indexC rfl rfl rfl rfl rfl arrF183 (by decide)) ?_
               rintro _ rfl a' w' hs'
               exact hK a' w' (hs'.putF (i := 7) rfl [0, 1, 2] [] rfl rfl rfl rfl)
              ·intro L a w hv K Q hK
               have hs := hv
               refine wpOp_yes rfl rfl rfl hs (congrArg (fun b => some (Value.bool b)) hg7) (OpT_loadC rfl rfl rfl rfl tyF27 (i := 2) rfl rfl) ?_
               rintro _ rfl a' w' hs'
               exact hK a' w' (hs'.putF (i := 8) rfl [0, 1, 2] [] rfl rfl rfl rfl)
              ·intro L a w hv K Q hK
               have hs := hv
               refine wpOp_yes rfl rfl rfl hs (congrArg (fun b => some (Value.bool b)) hg7) (OpT_indexC rfl rfl rfl rfl rfl arrF183 (by decide)) ?_
               rintro _ rfl a' w' hs'
               exact hK a' w' (hs'.putF (i := 9) rfl [0, 1, 2] [] rfl rfl rfl rfl)
              ·intro L a w hv K Q hK
               have hs := hv
               refine wpOp_yes rfl rfl rfl hs (congrArg (fun b => some (Value.bool b)) hg7) (OpT_loadC rfl rfl rfl rfl tyF27 (i := 2) rfl rfl) ?_
               rintro _ rfl a' w' hs'
               exact hK a' w' (hs'.putF (i := 10) rfl [0, 1, 2] [] rfl rfl rfl rfl)
              ·intro L a w hL hv
               rw [allTrue hL] at hv
               have hs := hv
               refine (show TA _ _ _ 12 ⟨[(3, some (.pointer (some ⟨b2, 0, none⟩))), (4, some (.pointer (some ⟨b3, 0, none⟩))), (16, some (.agg #[vU64 spans1.a0.a0, vU64 spans1.a0.a1, vU64 spans1.a1.a0, vU64 spans1.a1.a1, vU64 spans1.a2.a0, vU64 spans1.a2.a1])), (17, some (vI (2 : Int))), (6, some (.pointer (some ⟨b7, 0, none⟩))), (5, some (vI (2 : Int))), (28, some (vB ((spans1.a2.a0 % steps1.a2) != (0 : UInt64)))), (30, some (vU64 spans1.a2.a0)), (32, some (vU64 spans1.a2.a1))], [some (cellsR b2 184 [vU64 spans1.a0.a0, vU64 spans1.a0.a1, vU64 spans1.a1.a0, vU64 spans1.a1.a1, vU64 spans1.a2.a0, vU64 spans1.a2.a1]), some (cellsR b3 186 [vU64 steps1.a0, vU64 steps1.a1, vU64 steps1.a2]), some (cellsR b7 183 [vU64 spans1.a2.a0, vU64 spans1.a2.a1])], []⟩ from ?_) a w (hs.wkS [3, 4, 16, 17, 6, 5, 28, 30, 32] [0, 1, 2] [] rfl rfl rfl rfl)
               clear hs hL
               obtain ⟨beyond3, hx7, h⟩ := ob_e h
               refine TA_yes htb (by kernel_rfl) rfl rfl rfl (congrArg (fun b => some (Value.bool b)) hg7) (OpT_call (w_layout_beyond hx7) [] [] rfl rfl rfl rfl rfl callee111 rfl rfl rfl rfl) ?_
               rintro _ ⟨_, _, _, ⟨rfl, rfl, rfl⟩, rfl⟩
               refine TA_step htb (by kernel_rfl) rfl rfl (OpT_pickF rfl rfl rfl (congrArg (fun b => some (Value.bool b)) hg7) rfl) ?_
               refine TA_end rfl ?_
               refine Tk_wkS (fr' := [(3, some (.pointer (some ⟨b2, 0, none⟩))), (4, some (.pointer (some ⟨b3, 0, none⟩))), (16, some (.agg #[vU64 spans1.a0.a0, vU64 spans1.a0.a1, vU64 spans1.a1.a0, vU64 spans1.a1.a1, vU64 spans1.a2.a0, vU64 spans1.a2.a1])), (17, some (vI (2 : Int))), (6, some (.pointer (some ⟨b7, 0, none⟩))), (5, some (vI (2 : Int))), (34, some (vB beyond3))]) (own' := [some (cellsR b2 184 [vU64 spans1.a0.a0, vU64 spans1.a0.a1, vU64 spans1.a1.a0, vU64 spans1.a1.a1, vU64 spans1.a2.a0, vU64 spans1.a2.a1]), some (cellsR b3 186 [vU64 steps1.a0, vU64 steps1.a1, vU64 steps1.a2]), some (cellsR b7 183 [vU64 spans1.a2.a0, vU64 spans1.a2.a1])]) (shr' := []) [3, 4, 16, 17, 6, 5, 34] [0, 1, 2] [] rfl rfl rfl rfl ?_
               rcases Bool.eq_false_or_eq_true (beyond3) with hg8 | hg8
               ·replace h := br_t hg8 h
                refine Tk_condT (congrArg (fun b => some (Value.bool b)) hg8) ?_
                refine Tk_seq (Tk_region (Tops_step rfl (OpT_assign rfl rfl rfl rfl) ?_))
                refine Tops_nil (Tk_wkS (fr' := [(2, some (vI (2 : Int)))]) (own' := []) (shr' := []) [2] [] [] rfl rfl rfl rfl ?_)
                obtain rfl := Option.some.inj h
                exact Tk_retV rfl rfl (resA (vs := [vI (2 : Int)]) rfl ⟨rfl, trivial⟩) [] [] rfl rfl rfl ⟨rfl, rfl, rfl⟩
               ·replace h := br_f hg8 h
                refine Tk_condF (congrArg (fun b => some (Value.bool b)) hg8) ?_
                refine Tk_skip (Tk_seq (Tk_region (Tops_step rfl (OpT_move rfl rfl rfl rfl) ?_)))
                refine Tops_step rfl (OpT_sliceArrH (m := (2 : Int)) rfl rfl rfl rfl rfl arrF184 (by decide) rfl) ?_
                refine Tops_step rfl (OpT_lenE rfl rfl rfl rfl Try.underlying188) ?_
                refine Tops_step rfl (OpT_move rfl rfl rfl rfl) ?_
                refine Tops_nil (Tk_wkS (fr' := [(3, some (.pointer (some ⟨b2, 0, none⟩))), (4, some (.pointer (some ⟨b3, 0, none⟩))), (16, some (.agg #[vU64 spans1.a0.a0, vU64 spans1.a0.a1, vU64 spans1.a1.a0, vU64 spans1.a1.a1, vU64 spans1.a2.a0, vU64 spans1.a2.a1])), (17, some (vI (2 : Int))), (6, some (.pointer (some ⟨b7, 0, none⟩))), (36, some (.slice (some ⟨b2, 0, none⟩) 2 3)), (37, some (vI (2 : Int))), (38, some (vI (0 : Int)))]) (own' := [some (cellsR b2 184 [vU64 spans1.a0.a0, vU64 spans1.a0.a1, vU64 spans1.a1.a0, vU64 spans1.a1.a1, vU64 spans1.a2.a0, vU64 spans1.a2.a1]), some (cellsR b3 186 [vU64 steps1.a0, vU64 steps1.a1, vU64 steps1.a2]), some (cellsR b7 183 [vU64 spans1.a2.a0, vU64 spans1.a2.a1])]) (shr' := []) [3, 4, 16, 17, 6, 36, 37, 38] [0, 1, 2] [] rfl rfl rfl rfl ?_)
                refine Tk_block (Tk_unroll 2 ?_)
                refine Tk_seq (Tk_region (Tops_step rfl (OpT_bin rfl rfl rfl rfl rfl (bin_lss_i (a := (0 : Int)) (b := (2 : Int)))) ?_))
                refine Tops_nil (Tk_seq (Tk_condT rfl ?_))
                refine Tk_skip (Tk_seq (Tk_block (Tk_seq (Tk_region (Tops_step rfl (OpT_idxSl (m := (0 : Int)) rfl rfl rfl rfl rfl slF188 (by decide)) ?_)))))
                refine Tops_step rfl (OpT_loadCA (vs := [vU64 spans1.a0.a0, vU64 spans1.a0.a1]) rfl rfl rfl rfl tyF183 (i := 0) rfl rfl rfl) ?_
                refine Tops_ex rfl (OpT_alloc rfl rfl rfl tyZ183) fun b8 => ?_
                refine Tops_step rfl (OpT_storeC (cs' := [vU64 spans1.a0.a0, vU64 spans1.a0.a1]) rfl rfl rfl rfl tyF183 (i := 3) rfl rfl rfl (one_of rfl) rfl) ?_
                refine Tops_nil (Tk_wkS (fr' := [(3, some (.pointer (some ⟨b2, 0, none⟩))), (4, some (.pointer (some ⟨b3, 0, none⟩))), (16, some (.agg #[vU64 spans1.a0.a0, vU64 spans1.a0.a1, vU64 spans1.a1.a0, vU64 spans1.a1.a1, vU64 spans1.a2.a0, vU64 spans1.a2.a1])), (17, some (vI (2 : Int))), (6, some (.pointer (some ⟨b7, 0, none⟩))), (36, some (.slice (some ⟨b2, 0, none⟩) 2 3)), (37, some (vI (2 : Int))), (38, some (vI (0 : Int))), (8, some (.pointer (some ⟨b8, 0, none⟩)))]) (own' := [some (cellsR b2 184 [vU64 spans1.a0.a0, vU64 spans1.a0.a1, vU64 spans1.a1.a0, vU64 spans1.a1.a1, vU64 spans1.a2.a0, vU64 spans1.a2.a1]), some (cellsR b3 186 [vU64 steps1.a0, vU64 steps1.a1, vU64 steps1.a2]), some (cellsR b7 183 [vU64 spans1.a2.a0, vU64 spans1.a2.a1]), some (cellsR b8 183 [vU64 spans1.a0.a0, vU64 spans1.a0.a1])]) (shr' := []) [3, 4, 16, 17, 6, 36, 37, 38, 8] [0, 1, 2, 3] [] rfl rfl rfl rfl ?_)
                refine Tk_seq (Tk_region (Tops_step rfl (OpT_indexC rfl rfl rfl rfl rfl arrF183 (by decide)) ?_))
                refine Tops_step rfl (OpT_loadC rfl rfl rfl rfl tyF27 (i := 2) rfl rfl) ?_
                refine Tops_step rfl (OpT_indexC rfl rfl rfl rfl rfl arrF183 (by decide)) ?_
                refine Tops_step rfl (OpT_loadC rfl rfl rfl rfl tyF27 (i := 2) rfl rfl) ?_
                refine Tops_step rfl (OpT_indexC rfl rfl rfl rfl rfl arrF183 (by decide)) ?_
                refine Tops_step rfl (OpT_loadC rfl rfl rfl rfl tyF27 (i := 3) rfl rfl) ?_
                refine Tops_step rfl (OpT_indexC rfl rfl rfl rfl rfl arrF183 (by decide)) ?_
                refine Tops_step rfl (OpT_loadC rfl rfl rfl rfl tyF27 (i := 3) rfl rfl) ?_
                obtain ⟨common2, hx8, h⟩ := ob_e h
                refine Tops_exP rfl (OpT_call (w_layout_common hx8) [] [] rfl rfl rfl rfl rfl callee112 rfl rfl rfl rfl) ?_
                rintro _ ⟨_, _, _, ⟨rfl, rfl, rfl⟩, rfl⟩
                refine Tops_nil (Tk_wkS (fr' := [(3, some (.pointer (some ⟨b2, 0, none⟩))), (4, some (.pointer (some ⟨b3, 0, none⟩))), (16, some (.agg #[vU64 spans1.a0.a0, vU64 spans1.a0.a1, vU64 spans1.a1.a0, vU64 spans1.a1.a1, vU64 spans1.a2.a0, vU64 spans1.a2.a1])), (17, some (vI (2 : Int))), (6, some (.pointer (some ⟨b7, 0, none⟩))), (36, some (.slice (some ⟨b2, 0, none⟩) 2 3)), (37, some (vI (2 : Int))), (38, some (vI (0 : Int))), (50, some (vB common2))]) (own' := [some (cellsR b2 184 [vU64 spans1.a0.a0, vU64 spans1.a0.a1, vU64 spans1.a1.a0, vU64 spans1.a1.a1, vU64 spans1.a2.a0, vU64 spans1.a2.a1]), some (cellsR b3 186 [vU64 steps1.a0, vU64 steps1.a1, vU64 steps1.a2]), some (cellsR b7 183 [vU64 spans1.a2.a0, vU64 spans1.a2.a1])]) (shr' := []) [3, 4, 16, 17, 6, 36, 37, 38, 50] [0, 1, 2] [] rfl rfl rfl rfl ?_)
                rcases Bool.eq_false_or_eq_true (common2) with hg9 | hg9
                ·replace h := br_t hg9 h
                 refine Tk_condT (congrArg (fun b => some (Value.bool b)) hg9) ?_
                 refine Tk_seq (Tk_region (Tops_step rfl (OpT_assign rfl rfl rfl rfl) ?_))
                 refine Tops_nil (Tk_wkS (fr' := [(2, some (vI (2 : Int)))]) (own' := []) (shr' := []) [2] [] [] rfl rfl rfl rfl ?_)
                 obtain rfl := Option.some.inj h
                 exact Tk_retV rfl rfl (resA (vs := [vI (2 : Int)]) rfl ⟨rfl, trivial⟩) [] [] rfl rfl rfl ⟨rfl, rfl, rfl⟩
                ·replace h := br_f hg9 h
                 refine Tk_condF (congrArg (fun b => some (Value.bool b)) hg9) ?_
                 refine Tk_skip (Tk_blk (Tk_region (Tops_step rfl (OpT_bin rfl rfl rfl rfl rfl (bin_add_i (a := (0 : Int)) (b := (1 : Int)))) ?_)))
                 refine Tops_step rfl (OpT_move rfl rfl rfl rfl) ?_
                 refine Tops_nil (Tk_wkS (fr' := [(3, some (.pointer (some ⟨b2, 0, none⟩))), (4, some (.pointer (some ⟨b3, 0, none⟩))), (16, some (.agg #[vU64 spans1.a0.a0, vU64 spans1.a0.a1, vU64 spans1.a1.a0, vU64 spans1.a1.a1, vU64 spans1.a2.a0, vU64 spans1.a2.a1])), (17, some (vI (2 : Int))), (6, some (.pointer (some ⟨b7, 0, none⟩))), (36, some (.slice (some ⟨b2, 0, none⟩) 2 3)), (37, some (vI (2 : Int))), (38, some (vI (1 : Int)))]) (own' := [some (cellsR b2 184 [vU64 spans1.a0.a0, vU64 spans1.a0.a1, vU64 spans1.a1.a0, vU64 spans1.a1.a1, vU64 spans1.a2.a0, vU64 spans1.a2.a1]), some (cellsR b3 186 [vU64 steps1.a0, vU64 steps1.a1, vU64 steps1.a2]), some (cellsR b7 183 [vU64 spans1.a2.a0, vU64 spans1.a2.a1])]) (shr' := []) [3, 4, 16, 17, 6, 36, 37, 38] [0, 1, 2] [] rfl rfl rfl rfl ?_)
                 refine Tk_round ?_
                 refine Tk_seq (Tk_region (Tops_step rfl (OpT_bin rfl rfl rfl rfl rfl (bin_lss_i (a := (1 : Int)) (b := (2 : Int)))) ?_))
                 refine Tops_nil (Tk_seq (Tk_condT rfl ?_))
                 refine Tk_skip (Tk_seq (Tk_block (Tk_seq (Tk_region (Tops_step rfl (OpT_idxSl (m := (1 : Int)) rfl rfl rfl rfl rfl slF188 (by decide)) ?_)))))
                 refine Tops_step rfl (OpT_loadCA (vs := [vU64 spans1.a1.a0, vU64 spans1.a1.a1]) rfl rfl rfl rfl tyF183 (i := 0) rfl rfl rfl) ?_
                 refine Tops_ex rfl (OpT_alloc rfl rfl rfl tyZ183) fun b9 => ?_
                 refine Tops_step rfl (OpT_storeC (cs' := [vU64 spans1.a1.a0, vU64 spans1.a1.a1]) rfl rfl rfl rfl tyF183 (i := 3) rfl rfl rfl (one_of rfl) rfl) ?_
                 refine Tops_nil (Tk_wkS (fr' := [(3, some (.pointer (some ⟨b2, 0, none⟩))), (4, some (.pointer (some ⟨b3, 0, none⟩))), (16, some (.agg #[vU64 spans1.a0.a0, vU64 spans1.a0.a1, vU64 spans1.a1.a0, vU64 spans1.a1.a1, vU64 spans1.a2.a0, vU64 spans1.a2.a1])), (17, some (vI (2 : Int))), (6, some (.pointer (some ⟨b7, 0, none⟩))), (36, some (.slice (some ⟨b2, 0, none⟩) 2 3)), (37, some (vI (2 : Int))), (38, some (vI (1 : Int))), (8, some (.pointer (some ⟨b9, 0, none⟩)))]) (own' := [some (cellsR b2 184 [vU64 spans1.a0.a0, vU64 spans1.a0.a1, vU64 spans1.a1.a0, vU64 spans1.a1.a1, vU64 spans1.a2.a0, vU64 spans1.a2.a1]), some (cellsR b3 186 [vU64 steps1.a0, vU64 steps1.a1, vU64 steps1.a2]), some (cellsR b7 183 [vU64 spans1.a2.a0, vU64 spans1.a2.a1]), some (cellsR b9 183 [vU64 spans1.a1.a0, vU64 spans1.a1.a1])]) (shr' := []) [3, 4, 16, 17, 6, 36, 37, 38, 8] [0, 1, 2, 3] [] rfl rfl rfl rfl ?_)
                 refine Tk_seq (Tk_region (Tops_step rfl (OpT_indexC rfl rfl rfl rfl rfl arrF183 (by decide)) ?_))
                 refine Tops_step rfl (OpT_loadC rfl rfl rfl rfl tyF27 (i := 2) rfl rfl) ?_
                 refine Tops_step rfl (OpT_indexC rfl rfl rfl rfl rfl arrF183 (by decide)) ?_
                 refine Tops_step rfl (OpT_loadC rfl rfl rfl rfl tyF27 (i := 2) rfl rfl) ?_
                 refine Tops_step rfl (OpT_indexC rfl rfl rfl rfl rfl arrF183 (by decide)) ?_
                 refine Tops_step rfl (OpT_loadC rfl rfl rfl rfl tyF27 (i := 3) rfl rfl) ?_
                 refine Tops_step rfl (OpT_indexC rfl rfl rfl rfl rfl arrF183 (by decide)) ?_
                 refine Tops_step rfl (OpT_loadC rfl rfl rfl rfl tyF27 (i := 3) rfl rfl) ?_
                 obtain ⟨common3, hx9, h⟩ := ob_e h
                 refine Tops_exP rfl (OpT_call (w_layout_common hx9) [] [] rfl rfl rfl rfl rfl callee112 rfl rfl rfl rfl) ?_
                 rintro _ ⟨_, _, _, ⟨rfl, rfl, rfl⟩, rfl⟩
                 refine Tops_nil (Tk_wkS (fr' := [(3, some (.pointer (some ⟨b2, 0, none⟩))), (4, some (.pointer (some ⟨b3, 0, none⟩))), (16, some (.agg #[vU64 spans1.a0.a0, vU64 spans1.a0.a1, vU64 spans1.a1.a0, vU64 spans1.a1.a1, vU64 spans1.a2.a0, vU64 spans1.a2.a1])), (17, some (vI (2 : Int))), (6, some (.pointer (some ⟨b7, 0, none⟩))), (36, some (.slice (some ⟨b2, 0, none⟩) 2 3)), (37, some (vI (2 : Int))), (38, some (vI (1 : Int))), (50, some (vB common3))]) (own' := [some (cellsR b2 184 [vU64 spans1.a0.a0, vU64 spans1.a0.a1, vU64 spans1.a1.a0, vU64 spans1.a1.a1, vU64 spans1.a2.a0, vU64 spans1.a2.a1]), some (cellsR b3 186 [vU64 steps1.a0, vU64 steps1.a1, vU64 steps1.a2]), some (cellsR b7 183 [vU64 spans1.a2.a0, vU64 spans1.a2.a1])]) (shr' := []) [3, 4, 16, 17, 6, 36, 37, 38, 50] [0, 1, 2] [] rfl rfl rfl rfl ?_)
                 rcases Bool.eq_false_or_eq_true (common3) with hg10 | hg10
                 ·replace h := br_t hg10 h
                  refine Tk_condT (congrArg (fun b => some (Value.bool b)) hg10) ?_
                  refine Tk_seq (Tk_region (Tops_step rfl (OpT_assign rfl rfl rfl rfl) ?_))
                  refine Tops_nil (Tk_wkS (fr' := [(2, some (vI (2 : Int)))]) (own' := []) (shr' := []) [2] [] [] rfl rfl rfl rfl ?_)
                  obtain rfl := Option.some.inj h
                  exact Tk_retV rfl rfl (resA (vs := [vI (2 : Int)]) rfl ⟨rfl, trivial⟩) [] [] rfl rfl rfl ⟨rfl, rfl, rfl⟩
                 ·replace h := br_f hg10 h
                  refine Tk_condF (congrArg (fun b => some (Value.bool b)) hg10) ?_
                  refine Tk_skip (Tk_blk (Tk_region (Tops_step rfl (OpT_bin rfl rfl rfl rfl rfl (bin_add_i (a := (1 : Int)) (b := (1 : Int)))) ?_)))
                  refine Tops_step rfl (OpT_move rfl rfl rfl rfl) ?_
                  refine Tops_nil (Tk_wkS (fr' := [(3, some (.pointer (some ⟨b2, 0, none⟩))), (4, some (.pointer (some ⟨b3, 0, none⟩))), (16, some (.agg #[vU64 spans1.a0.a0, vU64 spans1.a0.a1, vU64 spans1.a1.a0, vU64 spans1.a1.a1, vU64 spans1.a2.a0, vU64 spans1.a2.a1])), (17, some (vI (2 : Int))), (6, some (.pointer (some ⟨b7, 0, none⟩))), (36, some (.slice (some ⟨b2, 0, none⟩) 2 3)), (37, some (vI (2 : Int))), (38, some (vI (2 : Int)))]) (own' := [some (cellsR b2 184 [vU64 spans1.a0.a0, vU64 spans1.a0.a1, vU64 spans1.a1.a0, vU64 spans1.a1.a1, vU64 spans1.a2.a0, vU64 spans1.a2.a1]), some (cellsR b3 186 [vU64 steps1.a0, vU64 steps1.a1, vU64 steps1.a2]), some (cellsR b7 183 [vU64 spans1.a2.a0, vU64 spans1.a2.a1])]) (shr' := []) [3, 4, 16, 17, 6, 36, 37, 38] [0, 1, 2] [] rfl rfl rfl rfl ?_)
                  refine Tk_round ?_
                  refine Tk_seq (Tk_region (Tops_step rfl (OpT_bin rfl rfl rfl rfl rfl (bin_lss_i (a := (2 : Int)) (b := (2 : Int)))) ?_))
                  refine Tops_nil (Tk_seq (Tk_condF rfl ?_))
                  refine Tk_exit _ rfl ?_
                  refine Tk_blk (Tk_region (Tops_step rfl (OpT_bin rfl rfl rfl rfl rfl (bin_add_i (a := (2 : Int)) (b := (1 : Int)))) ?_))
                  refine Tops_step rfl (OpT_move rfl rfl rfl rfl) ?_
                  refine Tops_nil (Tk_wkS (fr' := [(3, some (.pointer (some ⟨b2, 0, none⟩))), (4, some (.pointer (some ⟨b3, 0, none⟩))), (16, some (.agg #[vU64 spans1.a0.a0, vU64 spans1.a0.a1, vU64 spans1.a1.a0, vU64 spans1.a1.a1, vU64 spans1.a2.a0, vU64 spans1.a2.a1])), (17, some (vI (3 : Int)))]) (own' := [some (cellsR b2 184 [vU64 spans1.a0.a0, vU64 spans1.a0.a1, vU64 spans1.a1.a0, vU64 spans1.a1.a1, vU64 spans1.a2.a0, vU64 spans1.a2.a1]), some (cellsR b3 186 [vU64 steps1.a0, vU64 steps1.a1, vU64 steps1.a2])]) (shr' := []) [3, 4, 16, 17] [0, 1] [] rfl rfl rfl rfl ?_)
                  refine Tk_round ?_
                  refine Tk_seq (Tk_region (Tops_step rfl (OpT_bin rfl rfl rfl rfl rfl (bin_lss_i (a := (3 : Int)) (b := (3 : Int)))) ?_))
                  refine Tops_nil (Tk_seq (Tk_condF rfl ?_))
                  refine Tk_exit _ rfl ?_
                  refine Tk_seq (Tk_region (Tops_step rfl (OpT_assign rfl rfl rfl rfl) ?_))
                  refine Tops_nil (Tk_wkS (fr' := [(2, some (vI (0 : Int)))]) (own' := []) (shr' := []) [2] [] [] rfl rfl rfl rfl ?_)
                  obtain rfl := Option.some.inj h
                  exact Tk_retV rfl rfl (resA (vs := [vI (0 : Int)]) rfl ⟨rfl, trivial⟩) [] [] rfl rfl rfl ⟨rfl, rfl, rfl⟩

set_option maxRecDepth 100000 in
set_option maxHeartbeats 4000000 in
theorem w_walk_refuse {m : gmem_Mem} {rp1 : Rings} {packed : Bool} {b_m : Nat} {vm1 : Value} {vm2 : Value} {vsm1 : List Value} {r : Int} (h : walk_refuse m rp1 packed = some r) :
  Ctr Try.prog 40 #[.pointer (some ⟨b_m, 0, none⟩), .agg #[vB rp1.Packed, vI rp1.Size, vU64 rp1.Desc, vU64 rp1.Driver, vU64 rp1.Device], vB packed] [(cellsR b_m 113 [vm1, vm2]), (rowsX u8S true vm2 vsm1 m.b none)] [Fact.sl RegionS vm1 m.l]
   (fun rv own shr => rv = vI r ∧ own = [(cellsR b_m 113 [vm1, vm2]), (rowsX u8S true vm2 vsm1 m.b none)] ∧ shr = []) := by
 unfold walk_refuse at h
 refine Ctr.mk (args := [.pointer (some ⟨b_m, 0, none⟩), .agg #[vB rp1.Packed, vI rp1.Size, vU64 rp1.Desc, vU64 rp1.Driver, vU64 rp1.Device], vB packed]) Try.func40 rfl rfl (fun R0 w0 B => ?_)
 refine Tk_seq (Tk_region (Tops_ex rfl (OpT_box rfl rfl rfl rfl) fun b1 => ?_))
 refine Tops_step rfl (OpT_assign rfl rfl rfl rfl) ?_
 refine Tops_nil (Tk_wkS (fr' := [(0, some (.pointer (some ⟨b_m, 0, none⟩))), (2, some (vB packed)), (4, some (.pointer (some ⟨b1, 0, none⟩)))]) (own' := [some (cellsR b_m 113 [vm1, vm2]), some (rowsX u8S true vm2 vsm1 m.b none), some (cellsR b1 29 [vB rp1.Packed, vI rp1.Size, vU64 rp1.Desc, vU64 rp1.Driver, vU64 rp1.Device])]) (shr' := [Fact.sl RegionS vm1 m.l]) [0, 2, 4] [0, 1, 2] [0] rfl rfl rfl rfl ?_)
 refine Tk_seq (Tk_seq (Tk_region (Tops_step rfl (OpT_move rfl rfl rfl rfl) ?_)))
 obtain ⟨read1, hx1, h⟩ := ob_e h
 refine Tops_exP rfl (OpT_callP [3, 4, 2, 5] (w_gmem_Mem_Read hx1) [0, 1] [0] rfl rfl rfl rfl rfl callee82 rfl rfl rfl rfl rfl) ?_
 rintro _ ⟨_, _, _, ⟨v1, rfl, rfl, rfl⟩, rfl⟩
 refine Tops_step rfl (OpT_move rfl rfl rfl rfl) ?_
 refine Tops_step rfl (OpT_extract rfl rfl rfl rfl rfl) ?_
 refine Tops_step rfl (OpT_extract rfl rfl rfl rfl rfl) ?_
 refine Tops_step rfl (OpT_assign rfl rfl rfl rfl) ?_
 refine Tops_step rfl (OpT_assign rfl rfl rfl rfl) ?_
 refine Tops_nil (Tk_wkS (fr' := [(2, some (vB packed)), (4, some (.pointer (some ⟨b1, 0, none⟩))), (8, some (vI read1.2))]) (own' := [some (cellsR b_m 113 [vm1, vm2]), some (rowsX u8S true vm2 vsm1 m.b none), some (cellsR b1 29 [vB rp1.Packed, vI rp1.Size, vU64 rp1.Desc, vU64 rp1.Driver, vU64 rp1.Device])]) (shr' := [Fact.sl RegionS vm1 m.l]) [2, 4, 8] [0, 1, 2] [0] rfl rfl rfl rfl ?_)
 refine Tk_seq (Tk_region (Tops_step rfl (OpT_move rfl rfl rfl rfl) ?_))
 refine Tops_step rfl (OpT_bin rfl rfl rfl rfl rfl (bin_neq_i (a := read1.2) (b := (0 : Int)))) ?_
 refine Tops_nil (Tk_wkS (fr' := [(2, some (vB packed)), (4, some (.pointer (some ⟨b1, 0, none⟩))), (8, some (vI read1.2)), (16, some (vB (read1.2 != (0 : Int))))]) (own' := [some (cellsR b_m 113 [vm1, vm2]), some (rowsX u8S true vm2 vsm1 m.b none), some (cellsR b1 29 [vB rp1.Packed, vI rp1.Size, vU64 rp1.Desc, vU64 rp1.Driver, vU64 rp1.Device])]) (shr' := [Fact.sl RegionS vm1 m.l]) [2, 4, 8, 16] [0, 1, 2] [0] rfl rfl rfl rfl ?_)
 rcases Bool.eq_false_or_eq_true (read1.2 != (0 : Int)) with hg1 | hg1
 ·replace h := br_t hg1 h
  refine Tk_condT (congrArg (fun b => some (Value.bool b)) hg1) ?_
  refine Tk_seq (Tk_region (Tops_step rfl (OpT_move rfl rfl rfl rfl) ?_))
  refine Tops_step rfl (OpT_assign rfl rfl rfl rfl) ?_
  refine Tops_nil (Tk_wkS (fr' := [(6, some (vI read1.2))]) (own' := [some (cellsR b_m 113 [vm1, vm2]), some (rowsX u8S true vm2 vsm1 m.b none)]) (shr' := [Fact.sl RegionS vm1 m.l]) [6] [0, 1] [0] rfl rfl rfl rfl ?_)
  obtain rfl := Option.some.inj h
  exact Tk_retV rfl rfl (resA (vs := [vI read1.2]) rfl ⟨rfl, trivial⟩) [0, 1] [] rfl rfl rfl ⟨rfl, rfl, rfl⟩
 ·replace h := br_f hg1 h
  refine Tk_condF (congrArg (fun b => some (Value.bool b)) hg1) ?_
  refine Tk_skip (Tk_seq (Tk_seq (Tk_region (Tops_step rfl (OpT_loadCA (vs := [vB rp1.Packed, vI rp1.Size, vU64 rp1.Desc, vU64 rp1.Driver, vU64 rp1.Device]) rfl rfl rfl rfl tyF29 (i := 2) rfl rfl rfl) ?_))))
  obtain ⟨check1, hx2, h⟩ := ob_e h
  refine Tops_exP rfl (OpT_call (w_layout_Check hx2) [] [] rfl rfl rfl rfl rfl callee83 rfl rfl rfl rfl) ?_
  rintro _ ⟨_, _, _, ⟨rfl, rfl, rfl⟩, rfl⟩
  refine Tops_step rfl (OpT_assign rfl rfl rfl rfl) ?_
  refine Tops_nil (Tk_wkS (fr' := [(2, some (vB packed)), (4, some (.pointer (some ⟨b1, 0, none⟩))), (9, some (vI check1))]) (own' := [some (cellsR b_m 113 [vm1, vm2]), some (rowsX u8S true vm2 vsm1 m.b none), some (cellsR b1 29 [vB rp1.Packed, vI rp1.Size, vU64 rp1.Desc, vU64 rp1.Driver, vU64 rp1.Device])]) (shr' := [Fact.sl RegionS vm1 m.l]) [2, 4, 9] [0, 1, 2] [0] rfl rfl rfl rfl ?_)
  refine Tk_seq (Tk_region (Tops_step rfl (OpT_move rfl rfl rfl rfl) ?_))
  refine Tops_step rfl (OpT_bin rfl rfl rfl rfl rfl (bin_neq_i (a := check1) (b := (0 : Int)))) ?_
  refine Tops_nil (Tk_wkS (fr' := [(2, some (vB packed)), (4, some (.pointer (some ⟨b1, 0, none⟩))), (9, some (vI check1)), (21, some (vB (check1 != (0 : Int))))]) (own' := [some (cellsR b_m 113 [vm1, vm2]), some (rowsX u8S true vm2 vsm1 m.b none), some (cellsR b1 29 [vB rp1.Packed, vI rp1.Size, vU64 rp1.Desc, vU64 rp1.Driver, vU64 rp1.Device])]) (shr' := [Fact.sl RegionS vm1 m.l]) [2, 4, 9, 21] [0, 1, 2] [0] rfl rfl rfl rfl ?_)
  rcases Bool.eq_false_or_eq_true (check1 != (0 : Int)) with hg2 | hg2
  ·replace h := br_t hg2 h
   refine Tk_condT (congrArg (fun b => some (Value.bool b)) hg2) ?_
   refine Tk_seq (Tk_region (Tops_step rfl (OpT_move rfl rfl rfl rfl) ?_))
   refine Tops_step rfl (OpT_assign rfl rfl rfl rfl) ?_
   refine Tops_nil (Tk_wkS (fr' := [(6, some (vI check1))]) (own' := [some (cellsR b_m 113 [vm1, vm2]), some (rowsX u8S true vm2 vsm1 m.b none)]) (shr' := [Fact.sl RegionS vm1 m.l]) [6] [0, 1] [0] rfl rfl rfl rfl ?_)
   obtain rfl := Option.some.inj h
   exact Tk_retV rfl rfl (resA (vs := [vI check1]) rfl ⟨rfl, trivial⟩) [0, 1] [] rfl rfl rfl ⟨rfl, rfl, rfl⟩
  ·replace h := br_f hg2 h
   refine Tk_condF (congrArg (fun b => some (Value.bool b)) hg2) ?_
   refine Tk_skip (Tk_seq (Tk_seq (Tk_region (Tops_step rfl (OpT_fieldC rfl rfl rfl rfl fldF29x0) ?_))))
   refine Tops_step rfl (OpT_loadC rfl rfl rfl rfl tyF4 (i := 2) rfl rfl) ?_
   refine Tops_step rfl (OpT_move rfl rfl rfl rfl) ?_
   refine Tops_step rfl (OpT_bin rfl rfl rfl rfl rfl (bin_neq_b (a := rp1.Packed) (b := packed) Try.underlying4)) ?_
   refine Tops_nil (Tk_wkS (fr' := [(26, some (vB (rp1.Packed != packed)))]) (own' := [some (cellsR b_m 113 [vm1, vm2]), some (rowsX u8S true vm2 vsm1 m.b none)]) (shr' := [Fact.sl RegionS vm1 m.l]) [26] [0, 1] [0] rfl rfl rfl rfl ?_)
   rcases Bool.eq_false_or_eq_true (rp1.Packed != packed) with hg3 | hg3
   ·replace h := br_t hg3 h
    refine Tk_condT (congrArg (fun b => some (Value.bool b)) hg3) ?_
    refine Tk_seq (Tk_region (Tops_step rfl (OpT_assign rfl rfl rfl rfl) ?_))
    refine Tops_nil (Tk_wkS (fr' := [(6, some (vI (2 : Int)))]) (own' := [some (cellsR b_m 113 [vm1, vm2]), some (rowsX u8S true vm2 vsm1 m.b none)]) (shr' := [Fact.sl RegionS vm1 m.l]) [6] [0, 1] [0] rfl rfl rfl rfl ?_)
    obtain rfl := Option.some.inj h
    exact Tk_retV rfl rfl (resA (vs := [vI (2 : Int)]) rfl ⟨rfl, trivial⟩) [0, 1] [] rfl rfl rfl ⟨rfl, rfl, rfl⟩
   ·replace h := br_f hg3 h
    refine Tk_condF (congrArg (fun b => some (Value.bool b)) hg3) ?_
    refine Tk_skip (Tk_seq (Tk_region (Tops_step rfl (OpT_assign rfl rfl rfl rfl) ?_)))
    refine Tops_nil (Tk_wkS (fr' := [(6, some (vI (0 : Int)))]) (own' := [some (cellsR b_m 113 [vm1, vm2]), some (rowsX u8S true vm2 vsm1 m.b none)]) (shr' := [Fact.sl RegionS vm1 m.l]) [6] [0, 1] [0] rfl rfl rfl rfl ?_)
    obtain rfl := Option.some.inj h
    exact Tk_retV rfl rfl (resA (vs := [vI (0 : Int)]) rfl ⟨rfl, trivial⟩) [0, 1] [] rfl rfl rfl ⟨rfl, rfl, rfl⟩

set_option maxRecDepth 100000 in
set_option maxHeartbeats 4000000 in
theorem w_desc_raw_get {rp0 : List UInt8} {atp1 : Int} {np2 : Int} {b_rp0 : Nat} {r : UInt64} (h : desc_raw_get rp0 atp1 np2 = some r) :
  Ctr Try.prog 113 #[.pointer (some ⟨b_rp0, 0, none⟩), vI atp1, vI np2] [(cellsR b_rp0 180 (rp0.map vU8))] []
   (fun rv own shr => rv = vU64 r ∧ own = [(cellsR b_rp0 180 (rp0.map vU8))] ∧ shr = []) := by
 unfold desc_raw_get at h
 refine Ctr.mk (args := [.pointer (some ⟨b_rp0, 0, none⟩), vI atp1, vI np2]) Try.func113 rfl rfl (fun R0 w0 B => ?_)
 refine Tk_seq (Tk_region (Tops_step rfl (OpT_assign rfl rfl rfl rfl) ?_))
 refine Tops_nil (Tk_seq (Tk_seq (Tk_region (Tops_step rfl (OpT_move rfl rfl rfl rfl) ?_))))
 refine Tops_step rfl (OpT_move rfl rfl rfl rfl) ?_
 refine Tops_nil (Tk_wkS (fr' := [(0, some (.pointer (some ⟨b_rp0, 0, none⟩))), (1, some (vI atp1)), (6, some (vU64 (0 : UInt64))), (8, some (vI np2)), (9, some (vI (0 : Int)))]) (own' := [some (cellsR b_rp0 180 (rp0.map vU8))]) (shr' := []) [0, 1, 6, 8, 9] [0] [] rfl rfl rfl rfl ?_)
 refine Tk_block (Tk_loopS (σ := UInt64 × Int) [0, 1, 6, 8, 9] [0] [] (fun s => ⟨[(0, some (.pointer (some ⟨b_rp0, 0, none⟩))), (1, some (vI atp1)), (6, some (vU64 s.1)), (8, some (vI np2)), (9, some (vI s.2))], [some (cellsR b_rp0 180 (rp0.map vU8))], []⟩) (fun nf1 s => desc_raw_getL1 rp0 atp1 np2 nf1 s.1 s.2 = some r) fuel ((0 : UInt64), (0 : Int)) h rfl rfl rfl rfl rfl (fun s h => by cases h) ?_)
 rintro nf1 ⟨v1, x1⟩ h
 replace h : desc_raw_getL1B rp0 atp1 np2 (desc_raw_getL1 rp0 atp1 np2 nf1) v1 x1 = some r := h
 unfold desc_raw_getL1B at h
 refine Tk_seq (Tk_region (Tops_step rfl (OpT_bin rfl rfl rfl rfl rfl (bin_lss_i (a := x1) (b := np2))) ?_))
 refine Tops_nil (Tk_seq ?_)
 rcases Bool.eq_false_or_eq_true (decide (x1 < np2)) with hg1 | hg1
 ·replace h := br_t hg1 h
  refine Tk_condT (congrArg (fun b => some (Value.bool b)) hg1) ?_
  refine Tk_skip (Tk_seq (Tk_block (Tk_seq (Tk_region (Tops_step rfl (OpT_move rfl rfl rfl rfl) ?_)))))
  refine Tops_step rfl (OpT_assign rfl rfl rfl rfl) ?_
  refine Tops_nil (Tk_wkS (fr' := [(0, some (.pointer (some ⟨b_rp0, 0, none⟩))), (1, some (vI atp1)), (6, some (vU64 v1)), (8, some (vI np2)), (9, some (vI x1)), (7, some (vI x1))]) (own' := [some (cellsR b_rp0 180 (rp0.map vU8))]) (shr' := []) [0, 1, 6, 8, 9, 7] [0] [] rfl rfl rfl rfl ?_)
  refine Tk_region (Tops_step rfl (OpT_move rfl rfl rfl rfl) ?_)
  refine Tops_step rfl (OpT_move rfl rfl rfl rfl) ?_
  refine Tops_step rfl (OpT_move rfl rfl rfl rfl) ?_
  refine Tops_step rfl (OpT_move rfl rfl rfl rfl) ?_
  refine Tops_step rfl (OpT_bin rfl rfl rfl rfl rfl (bin_add_i (a := atp1) (b := x1))) ?_
  refine Tops_step rfl (OpT_nilCheckP rfl rfl rfl rfl) ?_
  obtain ⟨hc1, h⟩ := chk_e h
  refine Tops_step rfl (OpT_indexC rfl rfl rfl rfl rfl arrF180 hc1) ?_
  obtain ⟨u1, hx1, h⟩ := ob_e h
  refine Tops_step rfl (OpT_loadLA (f := vU8) rfl rfl rfl rfl tyF5 (i := 0) rfl hx1) ?_
  refine Tops_step rfl (OpT_cnv rfl rfl rfl rfl (cnv_u8_u64 (n := u1) Try.underlying5 Try.underlying27)) ?_
  refine Tops_step rfl (OpT_move rfl rfl rfl rfl) ?_
  refine Tops_step rfl (OpT_bin rfl rfl rfl rfl rfl (bin_mul_i (a := (8 : Int)) (b := x1))) ?_
  obtain ⟨hc2, h⟩ := chk_e h
  refine Tops_step rfl (OpT_bin rfl rfl rfl rfl rfl (bin_shl_u64_i64 (a := u1.toUInt64) (n := wi ((8 : Int) * x1)) hc2)) ?_
  refine Tops_step rfl (OpT_bin rfl rfl rfl rfl rfl (bin_or_u64 (a := v1) (b := shl64 u1.toUInt64 ((wi ((8 : Int) * x1)).toNat)))) ?_
  refine Tops_step rfl (OpT_assign rfl rfl rfl rfl) ?_
  refine Tops_nil (Tk_wkS (fr' := [(0, some (.pointer (some ⟨b_rp0, 0, none⟩))), (1, some (vI atp1)), (6, some (vU64 (v1 ||| (shl64 u1.toUInt64 ((wi ((8 : Int) * x1)).toNat))))), (8, some (vI np2)), (9, some (vI x1))]) (own' := [some (cellsR b_rp0 180 (rp0.map vU8))]) (shr' := []) [0, 1, 6, 8, 9] [0] [] rfl rfl rfl rfl ?_)
  refine Tk_blk (Tk_region (Tops_step rfl (OpT_bin rfl rfl rfl rfl rfl (bin_add_i (a := x1) (b := (1 : Int)))) ?_))
  refine Tops_step rfl (OpT_move rfl rfl rfl rfl) ?_
  refine Tops_nil (Tk_wkS (fr' := [(0, some (.pointer (some ⟨b_rp0, 0, none⟩))), (1, some (vI atp1)), (6, some (vU64 (v1 ||| (shl64 u1.toUInt64 ((wi ((8 : Int) * x1)).toNat))))), (8, some (vI np2)), (9, some (vI (wi (x1 + (1 : Int)))))]) (own' := [some (cellsR b_rp0 180 (rp0.map vU8))]) (shr' := []) [0, 1, 6, 8, 9] [0] [] rfl rfl rfl rfl ?_)
  exact Tk_backS (v1 ||| (shl64 u1.toUInt64 ((wi ((8 : Int) * x1)).toNat)), wi (x1 + (1 : Int))) h [0, 1, 6, 8, 9] [0] [] rfl rfl rfl rfl rfl
 ·replace h := br_f hg1 h
  refine Tk_condF (congrArg (fun b => some (Value.bool b)) hg1) ?_
  refine Tk_exit _ rfl ?_
  refine Tk_seq (Tk_region (Tops_step rfl (OpT_move rfl rfl rfl rfl) ?_))
  refine Tops_step rfl (OpT_assign rfl rfl rfl rfl) ?_
  refine Tops_nil (Tk_wkS (fr' := [(6, some (vU64 v1))]) (own' := [some (cellsR b_rp0 180 (rp0.map vU8))]) (shr' := []) [6] [0] [] rfl rfl rfl rfl ?_)
  obtain rfl := Option.some.inj h
  exact Tk_retV rfl rfl (resA (vs := [vU64 v1]) rfl ⟨rfl, trivial⟩) [0] [] rfl rfl rfl ⟨rfl, rfl, rfl⟩
end Go.Proofs.Ytlofegfaphijpaa
