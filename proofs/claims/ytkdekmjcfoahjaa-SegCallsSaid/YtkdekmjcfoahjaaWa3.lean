/- The functions do what the plain words say: each is walked once. No statement of the seat is proved here; no condition. -/
import Derived.Test.YtkdekmjcfoahjaaWa2
namespace Go.Proofs.Ytkdekmjcfoahjaa

set_option maxRecDepth 100000 in
set_option maxHeartbeats 4000000 in
theorem w_ref_New02 {l : List Region} {vl1 : Value} {r : ((Option dumbwaiterref02_Mem) × Int)} (h : ref_New02 l = some r) :
  Ctr Try.prog 24 #[vl1] [] [Fact.sl RegionS vl1 l]
   (fun rv own shr => ∃ (w1 : Value), rv = .tuple #[w1, vI r.2] ∧ own = [(optR 76 RegionS u8S false dumbwaiterref02_Mem.L dumbwaiterref02_Mem.B w1 r.1)] ∧ shr = []) := by
 unfold ref_New02 at h
 refine Ctr.mk (args := [vl1]) Try.func24 rfl rfl (fun R0 w0 B => ?_)
 refine Tk_seq ?_
 refine Tk_region ?_
 refine Tops_step rfl (OpT_assign rfl rfl rfl rfl) ?_
 refine Tops_step rfl (OpT_assign rfl rfl rfl rfl) ?_
 refine Tops_nil ?_
 refine Tk_wkS (fr' := [(0, some (vl1))]) (own' := []) (shr' := [Fact.sl RegionS vl1 l]) [0] [] [0] rfl rfl rfl rfl ?_
 refine Tk_seq ?_
 refine Tk_seq ?_
 refine Tk_region ?_
 refine Tops_step rfl (OpT_move rfl rfl rfl rfl) ?_
 obtain ⟨check1, hx1, h⟩ := ob_e h
 refine Tops_exP rfl (OpT_call (w_ref_Check02 hx1) [] [0] rfl rfl rfl rfl rfl callee46 rfl rfl rfl rfl) ?_
 rintro _ ⟨_, _, _, ⟨rfl, rfl, rfl⟩, rfl⟩
 refine Tops_step rfl (OpT_bin rfl rfl rfl rfl rfl (bin_neq_i (a := check1) (b := (0 : Int)))) ?_
 refine Tops_nil ?_
 refine Tk_wkS (fr' := [(0, some (vl1)), (8, some (vB (check1 != (0 : Int))))]) (own' := []) (shr' := [Fact.sl RegionS vl1 l]) [0, 8] [] [0] rfl rfl rfl rfl ?_
 rcases Bool.eq_false_or_eq_true (check1 != (0 : Int)) with hg1 | hg1
 ·replace h := br_t hg1 h
  refine Tk_condT (congrArg (fun b => some (Value.bool b)) hg1) ?_
  refine Tk_seq ?_
  refine Tk_region ?_
  refine Tops_step rfl (OpT_assign rfl rfl rfl rfl) ?_
  refine Tops_step rfl (OpT_assign rfl rfl rfl rfl) ?_
  refine Tops_nil ?_
  refine Tk_wkS (fr' := [(2, some (.pointer none)), (3, some (vI (2 : Int)))]) (own' := []) (shr' := []) [2, 3] [] [] rfl rfl rfl rfl ?_
  refine Tk_nilopt 76 RegionS u8S false dumbwaiterref02_Mem.L dumbwaiterref02_Mem.B ?_
  obtain rfl := Option.some.inj h
  exact Tk_retV rfl rfl (resA (vs := [.pointer none, vI (2 : Int)]) rfl ⟨rfl, rfl, trivial⟩) [0] [] rfl rfl rfl ⟨(.pointer none), rfl, rfl, rfl⟩
 ·replace h := br_f hg1 h
  refine Tk_condF (congrArg (fun b => some (Value.bool b)) hg1) ?_
  refine Tk_skip ?_
  refine Tk_seq ?_
  refine Tk_region ?_
  refine Tops_ex rfl (OpT_buildSlice (S := RegionS) (xs := ([] : List Region)) (css := []) (cs := []) (e := 38) rfl rfl rfl rfl (bldF slF39 (by decide) (by kernel_rfl)) rfl rfl rfl rfl (rel_plainD (S := RegionS) (xs := ([] : List Region)) (css := []) rfl rfl)) fun v1 => ?_
  refine Tops_step rfl (OpT_move rfl rfl rfl rfl) ?_
  obtain ⟨hc1, h⟩ := chk_e h
  refine Tops_ex rfl (OpT_append rfl rfl rfl rfl rfl slF39 (i := 0) (j := 0) rfl rfl hc1) fun v2 => ?_
  refine Tops_step rfl (OpT_build1 (fun z0 => [(0, z0)]) (fun z0 => [z0, .slice none 0 0]) rfl rfl rfl rfl (is_row (i := 0) rfl) (by intros; kernel_rfl)) ?_
  refine Tops_vs (vs_nilrows (S := u8S)) ?_
  refine Tops_ex rfl (OpT_box rfl rfl rfl rfl) fun b1 => ?_
  refine Tops_step rfl (OpT_assign rfl rfl rfl rfl) ?_
  refine Tops_nil ?_
  refine Tk_wkS (fr' := [(0, some (vl1)), (4, some (.pointer (some ⟨b1, 0, none⟩)))]) (own' := [some (rowS RegionS v2 l), some (rowsX u8S false (.slice none 0 0) [] ([] : List (List UInt8)) none), some (cellsR b1 76 [v2, .slice none 0 0])]) (shr' := [Fact.sl RegionS vl1 l]) [0, 4] [0, 1, 2] [0] rfl rfl rfl rfl ?_
  refine Tk_seq ?_
  refine Tk_seq ?_
  refine Tk_region ?_
  refine Tops_step rfl (OpT_assign rfl rfl rfl rfl) ?_
  refine Tops_nil ?_
  refine Tk_block ?_
  refine Tk_loopS (σ := (List Region) × (List (List UInt8)) × Int × Value × Value × (List Value)) [0, 4, 5] [2, 0, 1] [0] (fun s => ⟨[(0, some (vl1)), (4, some (.pointer (some ⟨b1, 0, none⟩))), (5, some (vI s.2.2.1))], [some (cellsR b1 76 [s.2.2.2.1, s.2.2.2.2.1]), some (rowS RegionS s.2.2.2.1 s.1), some (rowsX u8S false s.2.2.2.2.1 s.2.2.2.2.2 s.2.1 none)], [Fact.sl RegionS vl1 l]⟩) (fun nf s => ref_New02L1 l nf s.1 s.2.1 s.2.2.1 = some r) fuel (l, ([] : List (List UInt8)), (0 : Int), v2, (.slice none 0 0), []) h rfl rfl rfl rfl rfl (fun s h => by cases h) ?_
  rintro nf ⟨l1, rows1, i1, v3, v4, vs1⟩ h
  replace h : ref_New02L1B l (ref_New02L1 l nf) l1 rows1 i1 = some r := h
  unfold ref_New02L1B at h
  refine Tk_seq ?_
  refine Tk_seq ?_
  refine Tk_region ?_
  refine Tops_step rfl (OpT_move rfl rfl rfl rfl) ?_
  refine Tops_step rfl (OpT_move rfl rfl rfl rfl) ?_
  refine Tops_step rfl (OpT_lenS rfl rfl rfl rfl Try.underlying39 (i := 0) rfl) ?_
  refine Tops_step rfl (OpT_bin rfl rfl rfl rfl rfl (bin_lss_i (a := i1) (b := len l))) ?_
  refine Tops_nil ?_
  refine Tk_wkS (fr' := [(0, some (vl1)), (4, some (.pointer (some ⟨b1, 0, none⟩))), (5, some (vI i1)), (17, some (vB (decide (i1 < (len l)))))]) (own' := [some (cellsR b1 76 [v3, v4]), some (rowS RegionS v3 l1), some (rowsX u8S false v4 vs1 rows1 none)]) (shr' := [Fact.sl RegionS vl1 l]) [0, 4, 5, 17] [0, 1, 2] [0] rfl rfl rfl rfl ?_
  rcases Bool.eq_false_or_eq_true (decide (i1 < (len l))) with hg2 | hg2
  ·replace h := br_t hg2 h
   refine Tk_condT (congrArg (fun b => some (Value.bool b)) hg2) ?_
   refine Tk_skip ?_
   refine Tk_seq ?_
   refine Tk_block ?_
   refine Tk_drawT (by kernel_rfl) ?_
   refine TA_tb [0, 0, 2, 6, 14, 0, 0, 96, 224, 480, 992, 2016, 4094, 8191, 16383, 32767] (by kernel_rfl) fun htb => ?_
   refine TA_wkS (fr' := [(0, some (vl1)), (4, some (.pointer (some ⟨b1, 0, none⟩))), (5, some (vI i1))]) (own' := [some (cellsR b1 76 [v3, v4]), some (rowS RegionS v3 l1), some (rowsX u8S false v4 vs1 rows1 none)]) (shr' := [Fact.sl RegionS vl1 l]) [0, 4, 5] [0, 1, 2] [0] rfl rfl rfl rfl ?_
   obtain ⟨r1, hx2, h⟩ := ob_e h
   obtain ⟨hc2, h⟩ := chk_e h
   obtain ⟨hc3, h⟩ := chk_e h
   refine TA_seg (lo := 0) (hi := 13) htb rfl rfl (by kernel_rfl) (fun c L a w => ∃ (p1 : Value), ∃ (p2 : Value), ∃ (v5 : Value), ∃ (v6 : Value), ∃ (pp1 : Value × List Value), Sat c ⟨[(0, some (vl1)), (4, some (.pointer (some ⟨b1, 0, none⟩))), (5, some (vI i1)), (20, bif L 0 then some (.pointer (some ⟨b1, 0, none⟩)) else none), (21, bif L 1 then some (.pointer (some ⟨b1, 0, none⟩)) else none), (22, bif L 2 then some (.pointer (some ⟨b1, 0, none⟩)) else none), (23, bif L 3 then some (.pointer (some ⟨b1, 1, none⟩)) else none), (24, bif L 4 then some (v4) else none), (25, bif L 5 then some (vl1) else none), (26, bif L 6 then some (vI i1) else none), (27, bif L 7 then some (p1) else none), (28, bif L 8 then some (p2) else none), (29, bif L 9 then some (vU64 r1.Len) else none), (30, bif L 10 then some (v5) else none), (31, bif L 11 then some (v6) else none), (32, bif L 12 then some (pp1.1) else none)], [(some (cellsR b1 76 [v3, v4]) : Option Res), (some (rowS RegionS v3 l1) : Option Res), (bif L 12 then some (rowsX u8S false pp1.1 pp1.2 (rows1 ++ [List.replicate (Int.toNat (r1.Len.toNat : Int)) (0 : UInt8)]) none) else some (rowsX u8S false v4 vs1 rows1 none) : Option Res), (bif L 12 then none else bif L 10 then some (rowS u8S v5 (List.replicate (Int.toNat (r1.Len.toNat : Int)) (0 : UInt8))) else none : Option Res), (bif L 12 then none else bif L 11 then some (rowS valS v6 [v5]) else none : Option Res)], [Fact.sl RegionS vl1 l, (bif L 7 then Fact.pt RegionS p1 r1 else Fact.tt), (bif L 8 then Fact.pt u64S p2 r1.Len else Fact.tt)]⟩ a w) [([], []), ([], [2, 3, 4, 12]), ([1], [3, 4, 12]), ([1, 2], [4, 12]), ([1, 2, 3], [12]), ([], [7, 8, 9, 10, 11, 12]), ([], [7, 8, 9, 10, 11, 12]), ([5, 6], [8, 9, 10, 11, 12]), ([5, 6, 7], [9, 10, 11, 12]), ([5, 6, 7, 8], [10, 11, 12]), ([5, 6, 7, 8, 9], [11, 12]), ([5, 6, 7, 8, 9, 10], [12]), ([1, 2, 3, 4, 5, 6, 7, 8, 9, 10, 11], [])] rfl (by kernel_rfl) ?_ (steps_cons ?_ (steps_cons ?_ (steps_cons ?_ (steps_cons ?_ (steps_cons ?_ (steps_cons ?_ (steps_cons ?_ (steps_cons ?_ (steps_cons ?_ (steps_cons ?_ (steps_cons ?_ (steps_cons ?_ (steps_cons ?_ (steps_nil)))))))))))))) ?_
   ·intro a w hs
    exact ⟨undef, undef, undef, undef, (undef, []), hs.startF [20, 21, 22, 23, 24, 25, 26, 27, 28, 29, 30, 31, 32] [0, 1, 2, 3, 4] [0, 1, 2] rfl rfl rfl rfl⟩
   ·intro L a w hv K Q hK
    obtain ⟨p1, p2, v5, v6, pp1, hs⟩ := hv
    refine wpOp_go rfl rfl hs (OpT_move rfl rfl rfl rfl) ?_
    rintro _ rfl a' w' hs'
    exact hK a' w' ⟨p1, p2, v5, v6, pp1, hs'.putF (i := 3) rfl [0, 1, 2, 3, 4] [0, 1, 2] rfl rfl rfl rfl⟩
   ·intro L a w hv K Q hK
    obtain ⟨p1, p2, v5, v6, pp1, hs⟩ := hv
    refine wpOp_go rfl rfl hs (OpT_move rfl rfl rfl rfl) ?_
    rintro _ rfl a' w' hs'
    exact hK a' w' ⟨p1, p2, v5, v6, pp1, hs'.putF (i := 4) rfl [0, 1, 2, 3, 4] [0, 1, 2] rfl rfl rfl rfl⟩
   ·intro L a w hv K Q hK
    obtain ⟨p1, p2, v5, v6, pp1, hs⟩ := hv
    refine wpOp_go rfl rfl hs (OpT_nilCheckP rfl rfl rfl rfl) ?_
    rintro _ rfl a' w' hs'
    exact hK a' w' ⟨p1, p2, v5, v6, pp1, hs'.putF (i := 5) rfl [0, 1, 2, 3, 4] [0, 1, 2] rfl rfl rfl rfl⟩
   ·intro L a w hv K Q hK
    obtain ⟨p1, p2, v5, v6, pp1, hs⟩ := hv
    refine wpOp_go rfl rfl hs (OpT_fieldC rfl rfl rfl rfl fldF76x1) ?_
    rintro _ rfl a' w' hs'
    exact hK a' w' ⟨p1, p2, v5, v6, pp1, hs'.putF (i := 6) rfl [0, 1, 2, 3, 4] [0, 1, 2] rfl rfl rfl rfl⟩
   ·intro L a w hv K Q hK
    obtain ⟨p1, p2, v5, v6, pp1, hs⟩ := hv
    refine wpOp_go rfl rfl hs (OpT_loadC rfl rfl rfl rfl tyF69 (i := 0) rfl rfl) ?_
    rintro _ rfl a' w' hs'
    exact hK a' w' ⟨p1, p2, v5, v6, pp1, hs'.putF (i := 7) rfl [0, 1, 2, 3, 4] [0, 1, 2] rfl rfl rfl rfl⟩
   ·intro L a w hv K Q hK
    obtain ⟨p1, p2, v5, v6, pp1, hs⟩ := hv
    refine wpOp_go rfl rfl hs (OpT_move rfl rfl rfl rfl) ?_
    rintro _ rfl a' w' hs'
    exact hK a' w' ⟨p1, p2, v5, v6, pp1, hs'.putF (i := 8) rfl [0, 1, 2, 3, 4] [0, 1, 2] rfl rfl rfl rfl⟩
   ·intro L a w hv K Q hK
    obtain ⟨p1, p2, v5, v6, pp1, hs⟩ := hv
    refine wpOp_go rfl rfl hs (OpT_move rfl rfl rfl rfl) ?_
    rintro _ rfl a' w' hs'
    exact hK a' w' ⟨p1, p2, v5, v6, pp1, hs'.putF (i := 9) rfl [0, 1, 2, 3, 4] [0, 1, 2] rfl rfl rfl rfl⟩
   ·intro L a w hv K Q hK
    obtain ⟨p1, p2, v5, v6, pp1, hs⟩ := hv
    refine wpOp_go rfl rfl hs (OpT_idxS rfl rfl rfl rfl rfl slF39 (i := 0) rfl hx2) ?_
    rintro _ ⟨p1', rfl⟩ a' w' hs'
    exact hK a' w' ⟨p1', p2, v5, v6, pp1, hs'.putF (i := 10) rfl [0, 1, 2, 3, 4] [0, 3, 2] rfl rfl rfl rfl⟩
   ·intro L a w hv K Q hK
    obtain ⟨p1, p2, v5, v6, pp1, hs⟩ := hv
    refine wpOp_go rfl rfl hs (OpT_fieldP (S' := u64S) (y := r1.Len) rfl rfl rfl rfl fldF38x1 (i := 1) rfl (by intro h cs hr; subst hr; rfl)) ?_
    rintro _ ⟨p2', rfl⟩ a' w' hs'
    exact hK a' w' ⟨p1, p2', v5, v6, pp1, hs'.putF (i := 11) rfl [0, 1, 2, 3, 4] [0, 1, 3] rfl rfl rfl rfl⟩
   ·intro L a w hv K Q hK
    obtain ⟨p1, p2, v5, v6, pp1, hs⟩ := hv
    refine wpOp_go rfl rfl hs (OpT_loadP rfl rfl rfl rfl tyF23 (i := 2) rfl rfl) ?_
    rintro _ rfl a' w' hs'
    exact hK a' w' ⟨p1, p2, v5, v6, pp1, hs'.putF (i := 12) rfl [0, 1, 2, 3, 4] [0, 1, 2] rfl rfl rfl rfl⟩
   ·intro L a w hv K Q hK
    obtain ⟨p1, p2, v5, v6, pp1, hs⟩ := hv
    refine wpOp_go rfl rfl hs (OpT_makeK u8S rfl (u := (0 : UInt8)) rfl rfl rfl rfl rfl slF33 rfl hc2) ?_
    rintro _ ⟨v5', rfl⟩ a' w' hs'
    exact hK a' w' ⟨p1, p2, v5', v6, pp1, hs'.putF (i := 13) rfl [0, 1, 2, 5, 4] [0, 1, 2] rfl rfl rfl rfl⟩
   ·intro L a w hv K Q hK
    obtain ⟨p1, p2, v5, v6, pp1, hs⟩ := hv
    refine wpOp_go rfl rfl hs (OpT_buildV (u := v5) rfl rfl rfl rfl slF69 (i := 3) rfl) ?_
    rintro _ ⟨v6', rfl⟩ a' w' hs'
    exact hK a' w' ⟨p1, p2, v5, v6', pp1, hs'.putF (i := 14) rfl [0, 1, 2, 3, 5] [0, 1, 2] rfl rfl rfl rfl⟩
   ·intro L a w hv K Q hK
    obtain ⟨p1, p2, v5, v6, pp1, hs⟩ := hv
    refine wpOp_go rfl rfl hs (OpT_appendRows (u := v5) rfl rfl rfl rfl rfl slF69 (i := 2) (j := 4) (q := 3) rfl rfl rfl rfl rfl rfl hc3) ?_
    rintro _ ⟨pp1', rfl⟩ a' w' hs'
    exact hK a' w' ⟨p1, p2, v5, v6, pp1', hs'.putF (i := 15) rfl [0, 1, 2, 3, 4] [0, 1, 2] rfl rfl rfl rfl⟩
   ·intro L a w hL hv
    rw [allTrue hL] at hv
    obtain ⟨p1, p2, v5, v6, pp1, hs⟩ := hv
    refine (show TA _ _ _ 13 ⟨[(0, some (vl1)), (4, some (.pointer (some ⟨b1, 0, none⟩))), (5, some (vI i1)), (20, some (.pointer (some ⟨b1, 0, none⟩))), (32, some (pp1.1))], [some (cellsR b1 76 [v3, v4]), some (rowS RegionS v3 l1), some (rowsX u8S false pp1.1 pp1.2 (rows1 ++ [List.replicate (Int.toNat (r1.Len.toNat : Int)) (0 : UInt8)]) none)], [Fact.sl RegionS vl1 l]⟩ from ?_) a w (hs.wkS [0, 4, 5, 20, 32] [0, 1, 2] [0] rfl rfl rfl rfl)
    clear hs hL
    refine TA_step htb (by kernel_rfl) rfl rfl (OpT_nilCheckP rfl rfl rfl rfl) ?_
    refine TA_step htb (by kernel_rfl) rfl rfl (OpT_fieldC rfl rfl rfl rfl fldF76x1) ?_
    refine TA_step htb (by kernel_rfl) rfl rfl (OpT_storeV (cs' := [v3, pp1.1]) rfl rfl rfl rfl tyF69 (i := 0) rfl (is_rows (i := 2) rfl) rfl rfl) ?_
    refine TA_end rfl ?_
    refine Tk_wkS (fr' := [(0, some (vl1)), (4, some (.pointer (some ⟨b1, 0, none⟩))), (5, some (vI i1))]) (own' := [some (cellsR b1 76 [v3, pp1.1]), some (rowS RegionS v3 l1), some (rowsX u8S false pp1.1 pp1.2 (rows1 ++ [List.replicate (Int.toNat (r1.Len.toNat : Int)) (0 : UInt8)]) none)]) (shr' := [Fact.sl RegionS vl1 l]) [0, 4, 5] [0, 1, 2] [0] rfl rfl rfl rfl ?_
    refine Tk_blk ?_
    refine Tk_region ?_
    refine Tops_step rfl (OpT_move rfl rfl rfl rfl) ?_
    refine Tops_step rfl (OpT_bin rfl rfl rfl rfl rfl (bin_add_i (a := i1) (b := (1 : Int)))) ?_
    refine Tops_step rfl (OpT_assign rfl rfl rfl rfl) ?_
    refine Tops_nil ?_
    refine Tk_wkS (fr' := [(0, some (vl1)), (4, some (.pointer (some ⟨b1, 0, none⟩))), (5, some (vI (wi (i1 + (1 : Int)))))]) (own' := [some (cellsR b1 76 [v3, pp1.1]), some (rowS RegionS v3 l1), some (rowsX u8S false pp1.1 pp1.2 (rows1 ++ [List.replicate (Int.toNat (r1.Len.toNat : Int)) (0 : UInt8)]) none)]) (shr' := [Fact.sl RegionS vl1 l]) [0, 4, 5] [0, 1, 2] [0] rfl rfl rfl rfl ?_
    exact Tk_backS (l1, rows1 ++ [List.replicate (Int.toNat (r1.Len.toNat : Int)) (0 : UInt8)], wi (i1 + (1 : Int)), v3, pp1.1, pp1.2) h [0, 4, 5] [0, 1, 2] [0] rfl rfl rfl rfl rfl
  ·replace h := br_f hg2 h
   refine Tk_condF (congrArg (fun b => some (Value.bool b)) hg2) ?_
   refine Tk_exit _ rfl ?_
   refine Tk_seq ?_
   refine Tk_region ?_
   refine Tops_step rfl (OpT_move rfl rfl rfl rfl) ?_
   refine Tops_step rfl (OpT_assign rfl rfl rfl rfl) ?_
   refine Tops_step rfl (OpT_assign rfl rfl rfl rfl) ?_
   refine Tops_nil ?_
   refine Tk_wkS (fr' := [(2, some (.pointer (some ⟨b1, 0, none⟩))), (3, some (vI (0 : Int)))]) (own' := [some (cellsR b1 76 [v3, v4]), some (rowS RegionS v3 l1), some (rowsX u8S false v4 vs1 rows1 none)]) (shr' := []) [2, 3] [0, 1, 2] [] rfl rfl rfl rfl ?_
   refine Tk_retire (i := 1) rfl ?_
   refine Tk_vs (vs_fold (fl := dumbwaiterref02_Mem.L) (fb := dumbwaiterref02_Mem.B) (dumbwaiterref02_Mem.mk l1 rows1) (i := 0) (j := 2) rfl rfl rfl (q := 0) rfl rfl rfl) ?_
   obtain rfl := Option.some.inj h
   exact Tk_retV rfl rfl (resA (vs := [.pointer (some ⟨b1, 0, none⟩), vI (0 : Int)]) rfl ⟨rfl, rfl, trivial⟩) [0] [] rfl rfl rfl ⟨(.pointer (some ⟨b1, 0, none⟩)), rfl, rfl, rfl⟩

set_option maxRecDepth 100000 in
set_option maxHeartbeats 4000000 in
theorem w_ref_Check05 {l : List Seg} {vl1 : Value} {r : Int} (h : ref_Check05 l = some r) :
  Ctr Try.prog 26 #[vl1] [] [Fact.sl SegS vl1 l]
   (fun rv own shr => rv = vI r ∧ own = [] ∧ shr = []) := by
 unfold ref_Check05 at h
 refine Ctr.mk (args := [vl1]) Try.func26 rfl rfl (fun R0 w0 B => ?_)
 refine Tk_seq ?_
 refine Tk_region ?_
 refine Tops_step rfl (OpT_assign rfl rfl rfl rfl) ?_
 refine Tops_nil ?_
 refine Tk_wkS (fr' := [(0, some (vl1))]) (own' := []) (shr' := [Fact.sl SegS vl1 l]) [0] [] [0] rfl rfl rfl rfl ?_
 refine Tk_seq ?_
 refine Tk_seq ?_
 refine Tk_region ?_
 refine Tops_step rfl (OpT_move rfl rfl rfl rfl) ?_
 refine Tops_step rfl (OpT_lenS rfl rfl rfl rfl Try.underlying22 (i := 0) rfl) ?_
 refine Tops_step rfl (OpT_bin rfl rfl rfl rfl rfl (bin_gtr_i (a := len l) (b := (64 : Int)))) ?_
 refine Tops_nil ?_
 refine Tk_wkS (fr' := [(0, some (vl1)), (7, some (vB (decide ((len l) > (64 : Int)))))]) (own' := []) (shr' := [Fact.sl SegS vl1 l]) [0, 7] [] [0] rfl rfl rfl rfl ?_
 rcases Bool.eq_false_or_eq_true (decide ((len l) > (64 : Int))) with hg1 | hg1
 ·replace h := br_t hg1 h
  refine Tk_condT (congrArg (fun b => some (Value.bool b)) hg1) ?_
  refine Tk_seq ?_
  refine Tk_region ?_
  refine Tops_step rfl (OpT_assign rfl rfl rfl rfl) ?_
  refine Tops_nil ?_
  refine Tk_wkS (fr' := [(2, some (vI (3 : Int)))]) (own' := []) (shr' := []) [2] [] [] rfl rfl rfl rfl ?_
  obtain rfl := Option.some.inj h
  exact Tk_retV rfl rfl (resA (vs := [vI (3 : Int)]) rfl ⟨rfl, trivial⟩) [] [] rfl rfl rfl ⟨rfl, rfl, rfl⟩
 ·replace h := br_f hg1 h
  refine Tk_condF (congrArg (fun b => some (Value.bool b)) hg1) ?_
  refine Tk_skip ?_
  refine Tk_seq ?_
  refine Tk_region ?_
  refine Tops_step rfl (OpT_assign rfl rfl rfl rfl) ?_
  refine Tops_nil ?_
  refine Tk_wkS (fr' := [(0, some (vl1)), (3, some (vU64 (0 : UInt64)))]) (own' := []) (shr' := [Fact.sl SegS vl1 l]) [0, 3] [] [0] rfl rfl rfl rfl ?_
  refine Tk_seq ?_
  refine Tk_seq ?_
  refine Tk_region ?_
  refine Tops_step rfl (OpT_assign rfl rfl rfl rfl) ?_
  refine Tops_nil ?_
  refine Tk_block ?_
  refine Tk_loopS (σ := UInt64 × Int) [0, 3, 4] [] [0] (fun s => ⟨[(0, some (vl1)), (3, some (vU64 s.1)), (4, some (vI s.2))], [], [Fact.sl SegS vl1 l]⟩) (fun nf s => ref_Check05L1 l nf s.1 s.2 = some r) fuel ((0 : UInt64), (0 : Int)) h rfl rfl rfl rfl rfl (fun s h => by cases h) ?_
  rintro nf ⟨sum1, i1⟩ h
  replace h : ref_Check05L1B l (ref_Check05L1 l nf) sum1 i1 = some r := h
  unfold ref_Check05L1B at h
  refine Tk_seq ?_
  refine Tk_seq ?_
  refine Tk_region ?_
  refine Tops_step rfl (OpT_move rfl rfl rfl rfl) ?_
  refine Tops_step rfl (OpT_move rfl rfl rfl rfl) ?_
  refine Tops_step rfl (OpT_lenS rfl rfl rfl rfl Try.underlying22 (i := 0) rfl) ?_
  refine Tops_step rfl (OpT_bin rfl rfl rfl rfl rfl (bin_lss_i (a := i1) (b := len l))) ?_
  refine Tops_nil ?_
  refine Tk_wkS (fr' := [(0, some (vl1)), (3, some (vU64 sum1)), (4, some (vI i1)), (11, some (vB (decide (i1 < (len l)))))]) (own' := []) (shr' := [Fact.sl SegS vl1 l]) [0, 3, 4, 11] [] [0] rfl rfl rfl rfl ?_
  rcases Bool.eq_false_or_eq_true (decide (i1 < (len l))) with hg2 | hg2
  ·replace h := br_t hg2 h
   refine Tk_condT (congrArg (fun b => some (Value.bool b)) hg2) ?_
   refine Tk_skip ?_
   refine Tk_seq ?_
   refine Tk_block ?_
   refine Tk_seq ?_
   refine Tk_seq ?_
   refine Tk_drawT (by kernel_rfl) ?_
   refine TA_tb [0, 0, 3, 7, 15, 31, 63, 127, 127, 511, 1023, 2047, 127, 127, 12415, 28799, 61567, 127103, 258175, 524287, 127, 127, 3145855, 7340159, 15728767, 33554431, 67108863, 134217727, 268435455, 536870911, 1073741823, 2147483647, 2147483647, 6442450943, 17179869183, 34359738367, 68719476735, 137438953471, 274877906943, 549755813887, 549755813887, 2199023255551, 4398046511103, 8796093022207, 17592186044415, 35184372088831, 70368744177663] (by kernel_rfl) fun htb => ?_
   refine TA_wkS (fr' := [(0, some (vl1)), (3, some (vU64 sum1)), (4, some (vI i1))]) (own' := []) (shr' := [Fact.sl SegS vl1 l]) [0, 3, 4] [] [0] rfl rfl rfl rfl ?_
   refine TA_seg (lo := 0) (hi := 2) htb rfl rfl (by kernel_rfl) (fun c L a w => Sat c ⟨[(0, some (vl1)), (3, some (vU64 sum1)), (4, some (vI i1)), (14, bif L 0 then some (vl1) else none), (15, bif L 1 then some (vI i1) else none)], [], [Fact.sl SegS vl1 l]⟩ a w) [([], []), ([], [])] rfl (by kernel_rfl) ?_ (steps_cons ?_ (steps_cons ?_ (steps_nil))) ?_
   ·intro a w hs
    exact hs.startF [14, 15] [] [0] rfl rfl rfl rfl
   ·intro L a w hv K Q hK
    have hs := hv
    refine wpOp_go rfl rfl hs (OpT_move rfl rfl rfl rfl) ?_
    rintro _ rfl a' w' hs'
    exact hK a' w' (hs'.putF (i := 3) rfl [] [0] rfl rfl rfl rfl)
   ·intro L a w hv K Q hK
    have hs := hv
    refine wpOp_go rfl rfl hs (OpT_move rfl rfl rfl rfl) ?_
    rintro _ rfl a' w' hs'
    exact hK a' w' (hs'.putF (i := 4) rfl [] [0] rfl rfl rfl rfl)
   ·intro L a w hL hv
    rw [allTrue hL] at hv
    have hs := hv
    refine (show TA _ _ _ 2 ⟨[(0, some (vl1)), (3, some (vU64 sum1)), (4, some (vI i1)), (14, some (vl1)), (15, some (vI i1))], [], [Fact.sl SegS vl1 l]⟩ from ?_) a w (hs.wkS [0, 3, 4, 14, 15] [] [0] rfl rfl rfl rfl)
    clear hs hL
    obtain ⟨s1, hx1, h⟩ := ob_e h
    refine TA_ex htb (by kernel_rfl) rfl rfl (OpT_idxS rfl rfl rfl rfl rfl slF22 (i := 0) rfl hx1) fun p1 => ?_
    refine TA_ex htb (by kernel_rfl) rfl rfl (OpT_fieldP (S' := u32S) (y := s1.Len) rfl rfl rfl rfl fldF47x1 (i := 1) rfl (by intro h cs hr; subst hr; rfl)) fun p2 => ?_
    refine TA_step htb (by kernel_rfl) rfl rfl (OpT_loadP rfl rfl rfl rfl tyF45 (i := 2) rfl rfl) ?_
    refine TA_step htb (by kernel_rfl) rfl rfl (OpT_bin rfl rfl rfl rfl rfl (bin_eql_u32 (a := s1.Len) (b := (0 : UInt32)))) ?_
    refine TA_step htb (by kernel_rfl) rfl rfl (OpT_move rfl rfl rfl rfl) ?_
    refine TA_wkS (fr' := [(0, some (vl1)), (3, some (vU64 sum1)), (4, some (vI i1)), (20, some (vB (s1.Len == (0 : UInt32))))]) (own' := []) (shr' := [Fact.sl SegS vl1 l]) [0, 3, 4, 20] [] [0] rfl rfl rfl rfl ?_
    rcases Bool.eq_false_or_eq_true (s1.Len == (0 : UInt32)) with hg3 | hg3
    ·replace h := br_t hg3 h
     refine TA_seg (lo := 7) (hi := 25) htb rfl rfl (by kernel_rfl) (fun c L a w => Sat c ⟨[(0, some (vl1)), (3, some (vU64 sum1)), (4, some (vI i1)), (20, some (vB (s1.Len == (0 : UInt32)))), (21, bif L 7 then some (undef) else none), (22, bif L 8 then some (undef) else none), (23, bif L 9 then some (undef) else none), (24, bif L 10 then some (undef) else none), (25, bif L 11 then some (undef) else none), (26, bif L 12 then some (undef) else none), (27, bif L 13 then some (undef) else none), (28, bif L 14 then some (undef) else none), (29, bif L 15 then some (undef) else none), (30, bif L 16 then some (undef) else none), (31, bif L 17 then some (undef) else none), (32, bif L 18 then some (undef) else none), (33, bif L 19 then some (undef) else none), (34, bif L 20 then some (undef) else none), (35, bif L 21 then some (undef) else none), (36, bif L 22 then some (undef) else none), (37, bif L 23 then some (undef) else none), (38, bif L 24 then some (undef) else none)], [], [Fact.sl SegS vl1 l]⟩ a w) [([], [9, 10, 11, 19]), ([], [9, 10, 11, 19]), ([7, 8], [10, 11, 19]), ([7, 8, 9], [11, 19]), ([7, 8, 9, 10], [19]), ([], [14, 15, 16, 17, 18, 19]), ([], [14, 15, 16, 17, 18, 19]), ([12, 13], [15, 16, 17, 18, 19]), ([12, 13, 14], [16, 17, 18, 19]), ([12, 13, 14, 15], [17, 18, 19]), ([12, 13, 14, 15, 16], [18, 19]), ([12, 13, 14, 15, 16, 17], [19]), ([7, 8, 9, 10, 11, 12, 13, 14, 15, 16, 17, 18], []), ([], [22, 23, 24]), ([], [22, 23, 24]), ([20, 21], [23, 24]), ([20, 21, 22], [24]), ([20, 21, 22, 23], [])] rfl (by kernel_rfl) ?_ (steps_cons ?_ (steps_cons ?_ (steps_cons ?_ (steps_cons ?_ (steps_cons ?_ (steps_cons ?_ (steps_cons ?_ (steps_cons ?_ (steps_cons ?_ (steps_cons ?_ (steps_cons ?_ (steps_cons ?_ (steps_cons ?_ (steps_cons ?_ (steps_cons ?_ (steps_cons ?_ (steps_cons ?_ (steps_cons ?_ (steps_nil))))))))))))))))))) ?_
     ·intro a w hs
      exact hs.startF [21, 22, 23, 24, 25, 26, 27, 28, 29, 30, 31, 32, 33, 34, 35, 36, 37, 38] [] [0] rfl rfl rfl rfl
     ·intro L a w hv K Q hK
      have hs := hv
      refine wpOp_no rfl rfl rfl hs (congrArg (fun b => some (Value.bool b)) hg3) rfl rfl ?_
      intro a' w' hs'
      exact hK a' w' (hs'.putF (i := 4) rfl [] [0] rfl rfl rfl rfl)
     ·intro L a w hv K Q hK
      have hs := hv
      refine wpOp_no rfl rfl rfl hs (congrArg (fun b => some (Value.bool b)) hg3) rfl rfl ?_
      intro a' w' hs'
      exact hK a' w' (hs'.putF (i := 5) rfl [] [0] rfl rfl rfl rfl)
     ·intro L a w hv K Q hK
      have hs := hv
      refine wpOp_no rfl rfl rfl hs (congrArg (fun b => some (Value.bool b)) hg3) rfl rfl ?_
      intro a' w' hs'
      exact hK a' w' (hs'.putF (i := 6) rfl [] [0] rfl rfl rfl rfl)
     ·intro L a w hv K Q hK
      have hs := hv
      refine wpOp_no rfl rfl rfl hs (congrArg (fun b => some (Value.bool b)) hg3) rfl rfl ?_
      intro a' w' hs'
      exact hK a' w' (hs'.putF (i := 7) rfl [] [0] rfl rfl rfl rfl)
     ·intro L a w hv K Q hK
      have hs := hv
      refine wpOp_no rfl rfl rfl hs (congrArg (fun b => some (Value.bool b)) hg3) rfl rfl ?_
      intro a' w' hs'
      exact hK a' w' (hs'.putF (i := 8) rfl [] [0] rfl rfl rfl rfl)
     ·intro L a w hv K Q hK
      have hs := hv
      refine wpOp_no rfl rfl rfl hs (congrArg (fun b => some (Value.bool b)) hg3) rfl rfl ?_
      intro a' w' hs'
      exact hK a' w' (hs'.putF (i := 9) rfl [] [0] rfl rfl rfl rfl)
     ·intro L a w hv K Q hK
      have hs := hv
      refine wpOp_no rfl rfl rfl hs (congrArg (fun b => some (Value.bool b)) hg3) rfl rfl ?_
      intro a' w' hs'
      exact hK a' w' (hs'.putF (i := 10) rfl [] [0] rfl rfl rfl rfl)
     ·intro L a w hv K Q hK
      have hs := hv
      refine wpOp_no rfl rfl rfl hs (congrArg (fun b => some (Value.bool b)) hg3) rfl rfl ?_
      intro a' w' hs'
      exact hK a' w' (hs'.putF (i := 11) rfl [] [0] rfl rfl rfl rfl)
     ·intro L a w hv K Q hK
      have hs := hv
      refine wpOp_no rfl rfl rfl hs (congrArg (fun b => some (Value.bool b)) hg3) rfl rfl ?_
      intro a' w' hs'
      exact hK a' w' (hs'.putF (i := 12) rfl [] [0] rfl rfl rfl rfl)
     ·intro L a w hv K Q hK
      have hs := hv
      refine wpOp_no rfl rfl rfl hs (congrArg (fun b => some (Value.bool b)) hg3) rfl rfl ?_
      intro a' w' hs'
      exact hK a' w' (hs'.putF (i := 13) rfl [] [0] rfl rfl rfl rfl)
     ·intro L a w hv K Q hK
      have hs := hv
      refine wpOp_no rfl rfl rfl hs (congrArg (fun b => some (Value.bool b)) hg3) rfl rfl ?_
      intro a' w' hs'
      exact hK a' w' (hs'.putF (i := 14) rfl [] [0] rfl rfl rfl rfl)
     ·intro L a w hv K Q hK
      have hs := hv
      refine wpOp_no rfl rfl rfl hs (congrArg (fun b => some (Value.bool b)) hg3) rfl rfl ?_
      intro a' w' hs'
      exact hK a' w' (hs'.putF (i := 15) rfl [] [0] rfl rfl rfl rfl)
     ·intro L a w hv K Q hK
      have hs := hv
      refine wpOp_no rfl rfl rfl hs (congrArg (fun b => some (Value.bool b)) hg3) rfl rfl ?_
      intro a' w' hs'
      exact hK a' w' (hs'.putF (i := 16) rfl [] [0] rfl rfl rfl rfl)
     ·intro L a w hv K Q hK
      have hs := hv
      refine wpOp_no rfl rfl rfl hs (congrArg (fun b => some (Value.bool b)) hg3) rfl rfl ?_
      intro a' w' hs'
      exact hK a' w' (hs'.putF (i := 17) rfl [] [0] rfl rfl rfl rfl)
     ·intro L a w hv K Q hK
      have hs := hv
      refine wpOp_no rfl rfl rfl hs (congrArg (fun b => some (Value.bool b)) hg3) rfl rfl ?_
      intro a' w' hs'
      exact hK a' w' (hs'.putF (i := 18) rfl [] [0] rfl rfl rfl rfl)
     ·intro L a w hv K Q hK
      have hs := hv
      refine wpOp_no rfl rfl rfl hs (congrArg (fun b => some (Value.bool b)) hg3) rfl rfl ?_
      intro a' w' hs'
      exact hK a' w' (hs'.putF (i := 19) rfl [] [0] rfl rfl rfl rfl)
     ·intro L a w hv K Q hK
      have hs := hv
      refine wpOp_no rfl rfl rfl hs (congrArg (fun b => some (Value.bool b)) hg3) rfl rfl ?_
      intro a' w' hs'
      exact hK a' w' (hs'.putF (i := 20) rfl [] [0] rfl rfl rfl rfl)
     ·intro L a w hv K Q hK
      have hs := hv
      refine wpOp_no rfl rfl rfl hs (congrArg (fun b => some (Value.bool b)) hg3) rfl rfl ?_
      intro a' w' hs'
      exact hK a' w' (hs'.putF (i := 21) rfl [] [0] rfl rfl rfl rfl)
     ·intro L a w hL hv
      rw [allTrue hL] at hv
      have hs := hv
      refine (show TA _ _ _ 25 ⟨[(0, some (vl1)), (3, some (vU64 sum1)), (4, some (vI i1)), (20, some (vB (s1.Len == (0 : UInt32)))), (33, some (undef)), (38, some (undef))], [], [Fact.sl SegS vl1 l]⟩ from ?_) a w (hs.wkS [0, 3, 4, 20, 33, 38] [] [0] rfl rfl rfl rfl)
      clear hs hL
      refine TA_no htb (by kernel_rfl) rfl rfl rfl (congrArg (fun b => some (Value.bool b)) hg3) rfl rfl ?_
      refine TA_step htb (by kernel_rfl) rfl rfl (OpT_pickT rfl rfl rfl (congrArg (fun b => some (Value.bool b)) hg3) rfl) ?_
      refine TA_step htb (by kernel_rfl) rfl rfl (OpT_move rfl rfl rfl rfl) ?_
      refine TA_no htb (by kernel_rfl) rfl rfl rfl rfl rfl rfl ?_
      refine TA_no htb (by kernel_rfl) rfl rfl rfl rfl rfl rfl ?_
      refine TA_no htb (by kernel_rfl) rfl rfl rfl rfl rfl rfl ?_
      refine TA_wkS (fr' := [(0, some (vl1)), (3, some (vU64 sum1)), (4, some (vI i1)), (41, some (vB true)), (44, some (undef))]) (own' := []) (shr' := [Fact.sl SegS vl1 l]) [0, 3, 4, 41, 44] [] [0] rfl rfl rfl rfl ?_
      refine TA_seg (lo := 31) (hi := 34) htb rfl rfl (by kernel_rfl) (fun c L a w => Sat c ⟨[(0, some (vl1)), (3, some (vU64 sum1)), (4, some (vI i1)), (41, some (vB true)), (44, some (undef)), (45, bif L 31 then some (undef) else none), (46, bif L 32 then some (undef) else none), (47, bif L 33 then some (undef) else none)], [], [Fact.sl SegS vl1 l]⟩ a w) [([], []), ([], [33]), ([32], [])] rfl (by kernel_rfl) ?_ (steps_cons ?_ (steps_cons ?_ (steps_cons ?_ (steps_nil)))) ?_
      ·intro a w hs
       exact hs.startF [45, 46, 47] [] [0] rfl rfl rfl rfl
      ·intro L a w hv K Q hK
       have hs := hv
       refine wpOp_noU rfl rfl rfl hs rfl rfl rfl ?_
       intro a' w' hs'
       exact hK a' w' (hs'.putF (i := 5) rfl [] [0] rfl rfl rfl rfl)
      ·intro L a w hv K Q hK
       have hs := hv
       refine wpOp_noU rfl rfl rfl hs rfl rfl rfl ?_
       intro a' w' hs'
       exact hK a' w' (hs'.putF (i := 6) rfl [] [0] rfl rfl rfl rfl)
      ·intro L a w hv K Q hK
       have hs := hv
       refine wpOp_noU rfl rfl rfl hs rfl rfl rfl ?_
       intro a' w' hs'
       exact hK a' w' (hs'.putF (i := 7) rfl [] [0] rfl rfl rfl rfl)
      ·intro L a w hL hv
       rw [allTrue hL] at hv
       have hs := hv
       refine (show TA _ _ _ 34 ⟨[(0, some (vl1)), (3, some (vU64 sum1)), (4, some (vI i1)), (41, some (vB true)), (44, some (undef)), (45, some (undef)), (47, some (undef))], [], [Fact.sl SegS vl1 l]⟩ from ?_) a w (hs.wkS [0, 3, 4, 41, 44, 45, 47] [] [0] rfl rfl rfl rfl)
       clear hs hL
       refine TA_noU htb (by kernel_rfl) rfl rfl rfl rfl rfl rfl ?_
       refine TA_noU htb (by kernel_rfl) rfl rfl rfl rfl rfl rfl ?_
       refine TA_noU htb (by kernel_rfl) rfl rfl rfl rfl rfl rfl ?_
       refine TA_no htb (by kernel_rfl) rfl rfl rfl rfl rfl rfl ?_
       refine TA_no htb (by kernel_rfl) rfl rfl rfl rfl rfl rfl ?_
       refine TA_wkS (fr' := [(0, some (vl1)), (3, some (vU64 sum1)), (4, some (vI i1)), (41, some (vB true)), (52, some (undef))]) (own' := []) (shr' := [Fact.sl SegS vl1 l]) [0, 3, 4, 41, 52] [] [0] rfl rfl rfl rfl ?_
       refine TA_seg (lo := 39) (hi := 41) htb rfl rfl (by kernel_rfl) (fun c L a w => Sat c ⟨[(0, some (vl1)), (3, some (vU64 sum1)), (4, some (vI i1)), (41, some (vB true)), (52, some (undef)), (53, bif L 39 then some (undef) else none), (54, bif L 40 then some (undef) else none)], [], [Fact.sl SegS vl1 l]⟩ a w) [([], []), ([], [])] rfl (by kernel_rfl) ?_ (steps_cons ?_ (steps_cons ?_ (steps_nil))) ?_
       ·intro a w hs
        exact hs.startF [53, 54] [] [0] rfl rfl rfl rfl
       ·intro L a w hv K Q hK
        have hs := hv
        refine wpOp_noU rfl rfl rfl hs rfl rfl rfl ?_
        intro a' w' hs'
        exact hK a' w' (hs'.putF (i := 5) rfl [] [0] rfl rfl rfl rfl)
       ·intro L a w hv K Q hK
        have hs := hv
        refine wpOp_noU rfl rfl rfl hs rfl rfl rfl ?_
        intro a' w' hs'
        exact hK a' w' (hs'.putF (i := 6) rfl [] [0] rfl rfl rfl rfl)
       ·intro L a w hL hv
        rw [allTrue hL] at hv
        have hs := hv
        refine (show TA _ _ _ 41 ⟨[(0, some (vl1)), (3, some (vU64 sum1)), (4, some (vI i1)), (41, some (vB true)), (52, some (undef)), (53, some (undef)), (54, some (undef))], [], [Fact.sl SegS vl1 l]⟩ from ?_) a w (hs.wkS [0, 3, 4, 41, 52, 53, 54] [] [0] rfl rfl rfl rfl)
        clear hs hL
        refine TA_noU htb (by kernel_rfl) rfl rfl rfl rfl rfl rfl ?_
        refine TA_noU htb (by kernel_rfl) rfl rfl rfl rfl rfl rfl ?_
        refine TA_noU htb (by kernel_rfl) rfl rfl rfl rfl rfl rfl ?_
        refine TA_noU htb (by kernel_rfl) rfl rfl rfl rfl rfl rfl ?_
        refine TA_no htb (by kernel_rfl) rfl rfl rfl rfl rfl rfl ?_
        refine TA_step htb (by kernel_rfl) rfl rfl (OpT_pickT rfl rfl rfl rfl rfl) ?_
        refine TA_end rfl ?_
        refine Tk_wkS (fr' := [(0, some (vl1)), (3, some (vU64 sum1)), (4, some (vI i1)), (60, some (vB true))]) (own' := []) (shr' := [Fact.sl SegS vl1 l]) [0, 3, 4, 60] [] [0] rfl rfl rfl rfl ?_
        refine Tk_condT rfl ?_
        refine Tk_seq ?_
        refine Tk_region ?_
        refine Tops_step rfl (OpT_assign rfl rfl rfl rfl) ?_
        refine Tops_nil ?_
        refine Tk_wkS (fr' := [(2, some (vI (2 : Int)))]) (own' := []) (shr' := []) [2] [] [] rfl rfl rfl rfl ?_
        obtain rfl := Option.some.inj h
        exact Tk_retV rfl rfl (resA (vs := [vI (2 : Int)]) rfl ⟨rfl, trivial⟩) [] [] rfl rfl rfl ⟨rfl, rfl, rfl⟩
    ·replace h := br_f hg3 h
     obtain ⟨s2, hx2, h⟩ := ob_e h
     obtain ⟨s3, hx3, h⟩ := ob_e h
     obtain ⟨s4, hx4, h⟩ := ob_e h
     refine TA_seg (lo := 7) (hi := 25) htb rfl rfl (by kernel_rfl) (fun c L a w => ∃ (p3 : Value), ∃ (p4 : Value), ∃ (p5 : Value), ∃ (p6 : Value), ∃ (p7 : Value), ∃ (p8 : Value), Sat c ⟨[(0, some (vl1)), (3, some (vU64 sum1)), (4, some (vI i1)), (20, some (vB (s1.Len == (0 : UInt32)))), (21, bif L 7 then some (vl1) else none), (22, bif L 8 then some (vI i1) else none), (23, bif L 9 then some (p3) else none), (24, bif L 10 then some (p4) else none), (25, bif L 11 then some (vU64 s2.At) else none), (26, bif L 12 then some (vl1) else none), (27, bif L 13 then some (vI i1) else none), (28, bif L 14 then some (p5) else none), (29, bif L 15 then some (p6) else none), (30, bif L 16 then some (vU32 s3.Len) else none), (31, bif L 17 then some (vU64 s3.Len.toUInt64) else none), (32, bif L 18 then some (vU64 (s3.Len.toUInt64 - (1 : UInt64))) else none), (33, bif L 19 then some (vU64 (s2.At + (s3.Len.toUInt64 - (1 : UInt64)))) else none), (34, bif L 20 then some (vl1) else none), (35, bif L 21 then some (vI i1) else none), (36, bif L 22 then some (p7) else none), (37, bif L 23 then some (p8) else none), (38, bif L 24 then some (vU64 s4.At) else none)], [], [Fact.sl SegS vl1 l, (bif L 9 then Fact.pt SegS p3 s2 else Fact.tt), (bif L 10 then Fact.pt u64S p4 s2.At else Fact.tt), (bif L 14 then Fact.pt SegS p5 s3 else Fact.tt), (bif L 15 then Fact.pt u32S p6 s3.Len else Fact.tt), (bif L 22 then Fact.pt SegS p7 s4 else Fact.tt), (bif L 23 then Fact.pt u64S p8 s4.At else Fact.tt)]⟩ a w) [([], [9, 10, 11, 19]), ([], [9, 10, 11, 19]), ([7, 8], [10, 11, 19]), ([7, 8, 9], [11, 19]), ([7, 8, 9, 10], [19]), ([], [14, 15, 16, 17, 18, 19]), ([], [14, 15, 16, 17, 18, 19]), ([12, 13], [15, 16, 17, 18, 19]), ([12, 13, 14], [16, 17, 18, 19]), ([12, 13, 14, 15], [17, 18, 19]), ([12, 13, 14, 15, 16], [18, 19]), ([12, 13, 14, 15, 16, 17], [19]), ([7, 8, 9, 10, 11, 12, 13, 14, 15, 16, 17, 18], []), ([], [22, 23, 24]), ([], [22, 23, 24]), ([20, 21], [23, 24]), ([20, 21, 22], [24]), ([20, 21, 22, 23], [])] rfl (by kernel_rfl) ?_ (steps_cons ?_ (steps_cons ?_ (steps_cons ?_ (steps_cons ?_ (steps_cons ?_ (steps_cons ?_ (steps_cons ?_ (steps_cons ?_ (steps_cons ?_ (steps_cons ?_ (steps_cons ?_ (steps_cons ?_ (steps_cons ?_ (steps_cons ?_ (steps_cons ?_ (steps_cons ?_ (steps_cons ?_ (steps_cons ?_ (steps_nil))))))))))))))))))) ?_
     ·intro a w hs
      exact ⟨undef, undef, undef, undef, undef, undef, hs.startF [21, 22, 23, 24, 25, 26, 27, 28, 29, 30, 31, 32, 33, 34, 35, 36, 37, 38] [] [0, 1, 2, 3, 4, 5, 6] rfl rfl rfl rfl⟩
     ·intro L a w hv K Q hK
      obtain ⟨p3, p4, p5, p6, p7, p8, hs⟩ := hv
      refine wpOp_yes rfl rfl rfl hs (congrArg (fun b => some (Value.bool b)) hg3) (OpT_move rfl rfl rfl rfl) ?_
      rintro _ rfl a' w' hs'
      exact hK a' w' ⟨p3, p4, p5, p6, p7, p8, hs'.putF (i := 4) rfl [] [0, 1, 2, 3, 4, 5, 6] rfl rfl rfl rfl⟩
     ·intro L a w hv K Q hK
      obtain ⟨p3, p4, p5, p6, p7, p8, hs⟩ := hv
      refine wpOp_yes rfl rfl rfl hs (congrArg (fun b => some (Value.bool b)) hg3) (OpT_move rfl rfl rfl rfl) ?_
      rintro _ rfl a' w' hs'
      exact hK a' w' ⟨p3, p4, p5, p6, p7, p8, hs'.putF (i := 5) rfl [] [0, 1, 2, 3, 4, 5, 6] rfl rfl rfl rfl⟩
     ·intro L a w hv K Q hK
      obtain ⟨p3, p4, p5, p6, p7, p8, hs⟩ := hv
      refine wpOp_yes rfl rfl rfl hs (congrArg (fun b => some (Value.bool b)) hg3) (OpT_idxS rfl rfl rfl rfl rfl slF22 (i := 0) rfl hx2) ?_
      rintro _ ⟨p3', rfl⟩ a' w' hs'
      exact hK a' w' ⟨p3', p4, p5, p6, p7, p8, hs'.putF (i := 6) rfl [] [0, 7, 2, 3, 4, 5, 6] rfl rfl rfl rfl⟩
     ·intro L a w hv K Q hK
      obtain ⟨p3, p4, p5, p6, p7, p8, hs⟩ := hv
      refine wpOp_yes rfl rfl rfl hs (congrArg (fun b => some (Value.bool b)) hg3) (OpT_fieldP (S' := u64S) (y := s2.At) rfl rfl rfl rfl fldF47x0 (i := 1) rfl (by intro h cs hr; subst hr; rfl)) ?_
      rintro _ ⟨p4', rfl⟩ a' w' hs'
      exact hK a' w' ⟨p3, p4', p5, p6, p7, p8, hs'.putF (i := 7) rfl [] [0, 1, 7, 3, 4, 5, 6] rfl rfl rfl rfl⟩
     ·intro L a w hv K Q hK
      obtain ⟨p3, p4, p5, p6, p7, p8, hs⟩ := hv
      refine wpOp_yes rfl rfl rfl hs (congrArg (fun b => some (Value.bool b)) hg3) (OpT_loadP rfl rfl rfl rfl tyF23 (i := 2) rfl rfl) ?_
      rintro _ rfl a' w' hs'
      exact hK a' w' ⟨p3, p4, p5, p6, p7, p8, hs'.putF (i := 8) rfl [] [0, 1, 2, 3, 4, 5, 6] rfl rfl rfl rfl⟩
     ·intro L a w hv K Q hK
      obtain ⟨p3, p4, p5, p6, p7, p8, hs⟩ := hv
      refine wpOp_yes rfl rfl rfl hs (congrArg (fun b => some (Value.bool b)) hg3) (OpT_move rfl rfl rfl rfl) ?_
      rintro _ rfl a' w' hs'
      exact hK a' w' ⟨p3, p4, p5, p6, p7, p8, hs'.putF (i := 9) rfl [] [0, 1, 2, 3, 4, 5, 6] rfl rfl rfl rfl⟩
     ·intro L a w hv K Q hK
      obtain ⟨p3, p4, p5, p6, p7, p8, hs⟩ := hv
      refine wpOp_yes rfl rfl rfl hs (congrArg (fun b => some (Value.bool b)) hg3) (OpT_move rfl rfl rfl rfl) ?_
      rintro _ rfl a' w' hs'
      exact hK a' w' ⟨p3, p4, p5, p6, p7, p8, hs'.putF (i := 10) rfl [] [0, 1, 2, 3, 4, 5, 6] rfl rfl rfl rfl⟩
     ·intro L a w hv K Q hK
      obtain ⟨p3, p4, p5, p6, p7, p8, hs⟩ := hv
      refine wpOp_yes rfl rfl rfl hs (congrArg (fun b => some (Value.bool b)) hg3) (OpT_idxS rfl rfl rfl rfl rfl slF22 (i := 0) rfl hx3) ?_
      rintro _ ⟨p5', rfl⟩ a' w' hs'
      exact hK a' w' ⟨p3, p4, p5', p6, p7, p8, hs'.putF (i := 11) rfl [] [0, 1, 2, 7, 4, 5, 6] rfl rfl rfl rfl⟩
     ·intro L a w hv K Q hK
      obtain ⟨p3, p4, p5, p6, p7, p8, hs⟩ := hv
      refine wpOp_yes rfl rfl rfl hs (congrArg (fun b => some (Value.bool b)) hg3) (OpT_fieldP (S' := u32S) (y := s3.Len) rfl rfl rfl rfl fldF47x1 (i := 3) rfl (by intro h cs hr; subst hr; rfl)) ?_
      rintro _ ⟨p6', rfl⟩ a' w' hs'
      exact hK a' w' ⟨p3, p4, p5, p6', p7, p8, hs'.putF (i := 12) rfl [] [0, 1, 2, 3, 7, 5, 6] rfl rfl rfl rfl⟩
     ·intro L a w hv K Q hK
      obtain ⟨p3, p4, p5, p6, p7, p8, hs⟩ := hv
      refine wpOp_yes rfl rfl rfl hs (congrArg (fun b => some (Value.bool b)) hg3) (OpT_loadP rfl rfl rfl rfl tyF45 (i := 4) rfl rfl) ?_
      rintro _ rfl a' w' hs'
      exact hK a' w' ⟨p3, p4, p5, p6, p7, p8, hs'.putF (i := 13) rfl [] [0, 1, 2, 3, 4, 5, 6] rfl rfl rfl rfl⟩
     ·intro L a w hv K Q hK
      obtain ⟨p3, p4, p5, p6, p7, p8, hs⟩ := hv
      refine wpOp_yes rfl rfl rfl hs (congrArg (fun b => some (Value.bool b)) hg3) (OpT_cnv rfl rfl rfl rfl (cnv_u32_u64 (n := s3.Len) Try.underlying45 Try.underlying23)) ?_
      rintro _ rfl a' w' hs'
      exact hK a' w' ⟨p3, p4, p5, p6, p7, p8, hs'.putF (i := 14) rfl [] [0, 1, 2, 3, 4, 5, 6] rfl rfl rfl rfl⟩
     ·intro L a w hv K Q hK
      obtain ⟨p3, p4, p5, p6, p7, p8, hs⟩ := hv
      refine wpOp_yes rfl rfl rfl hs (congrArg (fun b => some (Value.bool b)) hg3) (OpT_bin rfl rfl rfl rfl rfl (bin_sub_u64 (a := s3.Len.toUInt64) (b := (1 : UInt64)))) ?_
      rintro _ rfl a' w' hs'
      exact hK a' w' ⟨p3, p4, p5, p6, p7, p8, hs'.putF (i := 15) rfl [] [0, 1, 2, 3, 4, 5, 6] rfl rfl rfl rfl⟩
     ·intro L a w hv K Q hK
      obtain ⟨p3, p4, p5, p6, p7, p8, hs⟩ := hv
      refine wpOp_yes rfl rfl rfl hs (congrArg (fun b => some (Value.bool b)) hg3) (OpT_bin rfl rfl rfl rfl rfl (bin_add_u64 (a := s2.At) (b := s3.Len.toUInt64 - (1 : UInt64)))) ?_
      rintro _ rfl a' w' hs'
      exact hK a' w' ⟨p3, p4, p5, p6, p7, p8, hs'.putF (i := 16) rfl [] [0, 1, 2, 3, 4, 5, 6] rfl rfl rfl rfl⟩
     ·intro L a w hv K Q hK
      obtain ⟨p3, p4, p5, p6, p7, p8, hs⟩ := hv
      refine wpOp_yes rfl rfl rfl hs (congrArg (fun b => some (Value.bool b)) hg3) (OpT_move rfl rfl rfl rfl) ?_
      rintro _ rfl a' w' hs'
      exact hK a' w' ⟨p3, p4, p5, p6, p7, p8, hs'.putF (i := 17) rfl [] [0, 1, 2, 3, 4, 5, 6] rfl rfl rfl rfl⟩
     ·intro L a w hv K Q hK
      obtain ⟨p3, p4, p5, p6, p7, p8, hs⟩ := hv
      refine wpOp_yes rfl rfl rfl hs (congrArg (fun b => some (Value.bool b)) hg3) (OpT_move rfl rfl rfl rfl) ?_
      rintro _ rfl a' w' hs'
      exact hK a' w' ⟨p3, p4, p5, p6, p7, p8, hs'.putF (i := 18) rfl [] [0, 1, 2, 3, 4, 5, 6] rfl rfl rfl rfl⟩
     ·intro L a w hv K Q hK
      obtain ⟨p3, p4, p5, p6, p7, p8, hs⟩ := hv
      refine wpOp_yes rfl rfl rfl hs (congrArg (fun b => some (Value.bool b)) hg3) (OpT_idxS rfl rfl rfl rfl rfl slF22 (i := 0) rfl hx4) ?_
      rintro _ ⟨p7', rfl⟩ a' w' hs'
      exact hK a' w' ⟨p3, p4, p5, p6, p7', p8, hs'.putF (i := 19) rfl [] [0, 1, 2, 3, 4, 7, 6] rfl rfl rfl rfl⟩
     ·intro L a w hv K Q hK
      obtain ⟨p3, p4, p5, p6, p7, p8, hs⟩ := hv
      refine wpOp_yes rfl rfl rfl hs (congrArg (fun b => some (Value.bool b)) hg3) (OpT_fieldP (S' := u64S) (y := s4.At) rfl rfl rfl rfl fldF47x0 (i := 5) rfl (by intro h cs hr; subst hr; rfl)) ?_
      rintro _ ⟨p8', rfl⟩ a' w' hs'
      exact hK a' w' ⟨p3, p4, p5, p6, p7, p8', hs'.putF (i := 20) rfl [] [0, 1, 2, 3, 4, 5, 7] rfl rfl rfl rfl⟩
     ·intro L a w hv K Q hK
      obtain ⟨p3, p4, p5, p6, p7, p8, hs⟩ := hv
      refine wpOp_yes rfl rfl rfl hs (congrArg (fun b => some (Value.bool b)) hg3) (OpT_loadP rfl rfl rfl rfl tyF23 (i := 6) rfl rfl) ?_
      rintro _ rfl a' w' hs'
      exact hK a' w' ⟨p3, p4, p5, p6, p7, p8, hs'.putF (i := 21) rfl [] [0, 1, 2, 3, 4, 5, 6] rfl rfl rfl rfl⟩
     ·intro L a w hL hv
      rw [allTrue hL] at hv
      obtain ⟨p3, p4, p5, p6, p7, p8, hs⟩ := hv
      refine (show TA _ _ _ 25 ⟨[(0, some (vl1)), (3, some (vU64 sum1)), (4, some (vI i1)), (20, some (vB (s1.Len == (0 : UInt32)))), (33, some (vU64 (s2.At + (s3.Len.toUInt64 - (1 : UInt64))))), (38, some (vU64 s4.At))], [], [Fact.sl SegS vl1 l]⟩ from ?_) a w (hs.wkS [0, 3, 4, 20, 33, 38] [] [0] rfl rfl rfl rfl)
      clear hs hL
      refine TA_yes htb (by kernel_rfl) rfl rfl rfl (congrArg (fun b => some (Value.bool b)) hg3) (OpT_bin rfl rfl rfl rfl rfl (bin_lss_u64 (a := s2.At + (s3.Len.toUInt64 - (1 : UInt64))) (b := s4.At))) ?_
      rintro _ rfl
      refine TA_step htb (by kernel_rfl) rfl rfl (OpT_pickF rfl rfl rfl (congrArg (fun b => some (Value.bool b)) hg3) rfl) ?_
      refine TA_step htb (by kernel_rfl) rfl rfl (OpT_move rfl rfl rfl rfl) ?_
      rcases Bool.eq_false_or_eq_true (decide ((s2.At + (s3.Len.toUInt64 - (1 : UInt64))) < s4.At)) with hg4 | hg4
      ·replace h := br_t hg4 h
       refine TA_no htb (by kernel_rfl) rfl rfl rfl (congrArg (fun b => some (Value.bool b)) hg4) rfl rfl ?_
       refine TA_no htb (by kernel_rfl) rfl rfl rfl (congrArg (fun b => some (Value.bool b)) hg4) rfl rfl ?_
       refine TA_no htb (by kernel_rfl) rfl rfl rfl (congrArg (fun b => some (Value.bool b)) hg4) rfl rfl ?_
       refine TA_wkS (fr' := [(0, some (vl1)), (3, some (vU64 sum1)), (4, some (vI i1)), (41, some (vB (decide ((s2.At + (s3.Len.toUInt64 - (1 : UInt64))) < s4.At)))), (44, some (undef))]) (own' := []) (shr' := [Fact.sl SegS vl1 l]) [0, 3, 4, 41, 44] [] [0] rfl rfl rfl rfl ?_
       refine TA_seg (lo := 31) (hi := 34) htb rfl rfl (by kernel_rfl) (fun c L a w => Sat c ⟨[(0, some (vl1)), (3, some (vU64 sum1)), (4, some (vI i1)), (41, some (vB (decide ((s2.At + (s3.Len.toUInt64 - (1 : UInt64))) < s4.At)))), (44, some (undef)), (45, bif L 31 then some (undef) else none), (46, bif L 32 then some (undef) else none), (47, bif L 33 then some (undef) else none)], [], [Fact.sl SegS vl1 l]⟩ a w) [([], []), ([], [33]), ([32], [])] rfl (by kernel_rfl) ?_ (steps_cons ?_ (steps_cons ?_ (steps_cons ?_ (steps_nil)))) ?_
       ·intro a w hs
        exact hs.startF [45, 46, 47] [] [0] rfl rfl rfl rfl
       ·intro L a w hv K Q hK
        have hs := hv
        refine wpOp_noU rfl rfl rfl hs rfl rfl rfl ?_
        intro a' w' hs'
        exact hK a' w' (hs'.putF (i := 5) rfl [] [0] rfl rfl rfl rfl)
       ·intro L a w hv K Q hK
        have hs := hv
        refine wpOp_noU rfl rfl rfl hs rfl rfl rfl ?_
        intro a' w' hs'
        exact hK a' w' (hs'.putF (i := 6) rfl [] [0] rfl rfl rfl rfl)
       ·intro L a w hv K Q hK
        have hs := hv
        refine wpOp_noU rfl rfl rfl hs rfl rfl rfl ?_
        intro a' w' hs'
        exact hK a' w' (hs'.putF (i := 7) rfl [] [0] rfl rfl rfl rfl)
       ·intro L a w hL hv
        rw [allTrue hL] at hv
        have hs := hv
        refine (show TA _ _ _ 34 ⟨[(0, some (vl1)), (3, some (vU64 sum1)), (4, some (vI i1)), (41, some (vB (decide ((s2.At + (s3.Len.toUInt64 - (1 : UInt64))) < s4.At)))), (44, some (undef)), (45, some (undef)), (47, some (undef))], [], [Fact.sl SegS vl1 l]⟩ from ?_) a w (hs.wkS [0, 3, 4, 41, 44, 45, 47] [] [0] rfl rfl rfl rfl)
        clear hs hL
        refine TA_noU htb (by kernel_rfl) rfl rfl rfl rfl rfl rfl ?_
        refine TA_noU htb (by kernel_rfl) rfl rfl rfl rfl rfl rfl ?_
        refine TA_noU htb (by kernel_rfl) rfl rfl rfl rfl rfl rfl ?_
        refine TA_no htb (by kernel_rfl) rfl rfl rfl (congrArg (fun b => some (Value.bool b)) hg4) rfl rfl ?_
        refine TA_no htb (by kernel_rfl) rfl rfl rfl (congrArg (fun b => some (Value.bool b)) hg4) rfl rfl ?_
        refine TA_wkS (fr' := [(0, some (vl1)), (3, some (vU64 sum1)), (4, some (vI i1)), (41, some (vB (decide ((s2.At + (s3.Len.toUInt64 - (1 : UInt64))) < s4.At)))), (52, some (undef))]) (own' := []) (shr' := [Fact.sl SegS vl1 l]) [0, 3, 4, 41, 52] [] [0] rfl rfl rfl rfl ?_
        refine TA_seg (lo := 39) (hi := 41) htb rfl rfl (by kernel_rfl) (fun c L a w => Sat c ⟨[(0, some (vl1)), (3, some (vU64 sum1)), (4, some (vI i1)), (41, some (vB (decide ((s2.At + (s3.Len.toUInt64 - (1 : UInt64))) < s4.At)))), (52, some (undef)), (53, bif L 39 then some (undef) else none), (54, bif L 40 then some (undef) else none)], [], [Fact.sl SegS vl1 l]⟩ a w) [([], []), ([], [])] rfl (by kernel_rfl) ?_ (steps_cons ?_ (steps_cons ?_ (steps_nil))) ?_
        ·intro a w hs
         exact hs.startF [53, 54] [] [0] rfl rfl rfl rfl
        ·intro L a w hv K Q hK
         have hs := hv
         refine wpOp_noU rfl rfl rfl hs rfl rfl rfl ?_
         intro a' w' hs'
         exact hK a' w' (hs'.putF (i := 5) rfl [] [0] rfl rfl rfl rfl)
        ·intro L a w hv K Q hK
         have hs := hv
         refine wpOp_noU rfl rfl rfl hs rfl rfl rfl ?_
         intro a' w' hs'
         exact hK a' w' (hs'.putF (i := 6) rfl [] [0] rfl rfl rfl rfl)
        ·intro L a w hL hv
         rw [allTrue hL] at hv
         have hs := hv
         refine (show TA _ _ _ 41 ⟨[(0, some (vl1)), (3, some (vU64 sum1)), (4, some (vI i1)), (41, some (vB (decide ((s2.At + (s3.Len.toUInt64 - (1 : UInt64))) < s4.At)))), (52, some (undef)), (53, some (undef)), (54, some (undef))], [], [Fact.sl SegS vl1 l]⟩ from ?_) a w (hs.wkS [0, 3, 4, 41, 52, 53, 54] [] [0] rfl rfl rfl rfl)
         clear hs hL
         refine TA_noU htb (by kernel_rfl) rfl rfl rfl rfl rfl rfl ?_
         refine TA_noU htb (by kernel_rfl) rfl rfl rfl rfl rfl rfl ?_
         refine TA_noU htb (by kernel_rfl) rfl rfl rfl rfl rfl rfl ?_
         refine TA_noU htb (by kernel_rfl) rfl rfl rfl rfl rfl rfl ?_
         refine TA_no htb (by kernel_rfl) rfl rfl rfl (congrArg (fun b => some (Value.bool b)) hg4) rfl rfl ?_
         refine TA_step htb (by kernel_rfl) rfl rfl (OpT_pickT rfl rfl rfl (congrArg (fun b => some (Value.bool b)) hg4) rfl) ?_
         refine TA_end rfl ?_
         refine Tk_wkS (fr' := [(0, some (vl1)), (3, some (vU64 sum1)), (4, some (vI i1)), (60, some (vB true))]) (own' := []) (shr' := [Fact.sl SegS vl1 l]) [0, 3, 4, 60] [] [0] rfl rfl rfl rfl ?_
         refine Tk_condT rfl ?_
         refine Tk_seq ?_
         refine Tk_region ?_
         refine Tops_step rfl (OpT_assign rfl rfl rfl rfl) ?_
         refine Tops_nil ?_
         refine Tk_wkS (fr' := [(2, some (vI (2 : Int)))]) (own' := []) (shr' := []) [2] [] [] rfl rfl rfl rfl ?_
         obtain rfl := Option.some.inj h
         exact Tk_retV rfl rfl (resA (vs := [vI (2 : Int)]) rfl ⟨rfl, trivial⟩) [] [] rfl rfl rfl ⟨rfl, rfl, rfl⟩
      ·replace h := br_f hg4 h
       refine TA_yes htb (by kernel_rfl) rfl rfl rfl (congrArg (fun b => some (Value.bool b)) hg4) (OpT_move rfl rfl rfl rfl) ?_
       rintro _ rfl
       refine TA_yes htb (by kernel_rfl) rfl rfl rfl (congrArg (fun b => some (Value.bool b)) hg4) (OpT_bin rfl rfl rfl rfl rfl (bin_gtr_i (a := i1) (b := (0 : Int)))) ?_
       rintro _ rfl
       refine TA_yes htb (by kernel_rfl) rfl rfl rfl (congrArg (fun b => some (Value.bool b)) hg4) (OpT_move rfl rfl rfl rfl) ?_
       rintro _ rfl
       refine TA_wkS (fr' := [(0, some (vl1)), (3, some (vU64 sum1)), (4, some (vI i1)), (41, some (vB (decide ((s2.At + (s3.Len.toUInt64 - (1 : UInt64))) < s4.At)))), (44, some (vB (decide (i1 > (0 : Int)))))]) (own' := []) (shr' := [Fact.sl SegS vl1 l]) [0, 3, 4, 41, 44] [] [0] rfl rfl rfl rfl ?_
       rcases Bool.eq_false_or_eq_true (decide (i1 > (0 : Int))) with hg5 | hg5
       ·replace h := br_t hg5 h
        refine TA_seg (lo := 31) (hi := 34) htb rfl rfl (by kernel_rfl) (fun c L a w => Sat c ⟨[(0, some (vl1)), (3, some (vU64 sum1)), (4, some (vI i1)), (41, some (vB (decide ((s2.At + (s3.Len.toUInt64 - (1 : UInt64))) < s4.At)))), (44, some (vB (decide (i1 > (0 : Int))))), (45, bif L 31 then some (vl1) else none), (46, bif L 32 then some (vI i1) else none), (47, bif L 33 then some (vI (wi (i1 - (1 : Int)))) else none)], [], [Fact.sl SegS vl1 l]⟩ a w) [([], []), ([], [33]), ([32], [])] rfl (by kernel_rfl) ?_ (steps_cons ?_ (steps_cons ?_ (steps_cons ?_ (steps_nil)))) ?_
        ·intro a w hs
         exact hs.startF [45, 46, 47] [] [0] rfl rfl rfl rfl
        ·intro L a w hv K Q hK
         have hs := hv
         refine wpOp_yes rfl rfl rfl hs (congrArg (fun b => some (Value.bool b)) hg5) (OpT_move rfl rfl rfl rfl) ?_
         rintro _ rfl a' w' hs'
         exact hK a' w' (hs'.putF (i := 5) rfl [] [0] rfl rfl rfl rfl)
        ·intro L a w hv K Q hK
         have hs := hv
         refine wpOp_yes rfl rfl rfl hs (congrArg (fun b => some (Value.bool b)) hg5) (OpT_move rfl rfl rfl rfl) ?_
         rintro _ rfl a' w' hs'
         exact hK a' w' (hs'.putF (i := 6) rfl [] [0] rfl rfl rfl rfl)
        ·intro L a w hv K Q hK
         have hs := hv
         refine wpOp_yes rfl rfl rfl hs (congrArg (fun b => some (Value.bool b)) hg5) (OpT_bin rfl rfl rfl rfl rfl (bin_sub_i (a := i1) (b := (1 : Int)))) ?_
         rintro _ rfl a' w' hs'
         exact hK a' w' (hs'.putF (i := 7) rfl [] [0] rfl rfl rfl rfl)
        ·intro L a w hL hv
         rw [allTrue hL] at hv
         have hs := hv
         refine (show TA _ _ _ 34 ⟨[(0, some (vl1)), (3, some (vU64 sum1)), (4, some (vI i1)), (41, some (vB (decide ((s2.At + (s3.Len.toUInt64 - (1 : UInt64))) < s4.At)))), (44, some (vB (decide (i1 > (0 : Int))))), (45, some (vl1)), (47, some (vI (wi (i1 - (1 : Int)))))], [], [Fact.sl SegS vl1 l]⟩ from ?_) a w (hs.wkS [0, 3, 4, 41, 44, 45, 47] [] [0] rfl rfl rfl rfl)
         clear hs hL
         obtain ⟨s5, hx5, h⟩ := ob_e h
         refine TA_yes htb (by kernel_rfl) rfl rfl rfl (congrArg (fun b => some (Value.bool b)) hg5) (OpT_idxS rfl rfl rfl rfl rfl slF22 (i := 0) rfl hx5) ?_
         rintro _ ⟨p9, rfl⟩
         refine TA_yes htb (by kernel_rfl) rfl rfl rfl (congrArg (fun b => some (Value.bool b)) hg5) (OpT_fieldP (S' := bS) (y := s5.Write) rfl rfl rfl rfl fldF47x2 (i := 1) rfl (by intro h cs hr; subst hr; rfl)) ?_
         rintro _ ⟨p10, rfl⟩
         refine TA_yes htb (by kernel_rfl) rfl rfl rfl (congrArg (fun b => some (Value.bool b)) hg5) (OpT_loadP rfl rfl rfl rfl tyF4 (i := 2) rfl rfl) ?_
         rintro _ rfl
         refine TA_yes htb (by kernel_rfl) rfl rfl rfl (congrArg (fun b => some (Value.bool b)) hg4) (OpT_pickT rfl rfl rfl (congrArg (fun b => some (Value.bool b)) hg5) rfl) ?_
         rintro _ rfl
         refine TA_yes htb (by kernel_rfl) rfl rfl rfl (congrArg (fun b => some (Value.bool b)) hg4) (OpT_move rfl rfl rfl rfl) ?_
         rintro _ rfl
         refine TA_wkS (fr' := [(0, some (vl1)), (3, some (vU64 sum1)), (4, some (vI i1)), (41, some (vB (decide ((s2.At + (s3.Len.toUInt64 - (1 : UInt64))) < s4.At)))), (52, some (vB s5.Write))]) (own' := []) (shr' := [Fact.sl SegS vl1 l]) [0, 3, 4, 41, 52] [] [0] rfl rfl rfl rfl ?_
         rcases Bool.eq_false_or_eq_true (s5.Write) with hg6 | hg6
         ·replace h := br_t hg6 h
          refine TA_seg (lo := 39) (hi := 41) htb rfl rfl (by kernel_rfl) (fun c L a w => Sat c ⟨[(0, some (vl1)), (3, some (vU64 sum1)), (4, some (vI i1)), (41, some (vB (decide ((s2.At + (s3.Len.toUInt64 - (1 : UInt64))) < s4.At)))), (52, some (vB s5.Write)), (53, bif L 39 then some (vl1) else none), (54, bif L 40 then some (vI i1) else none)], [], [Fact.sl SegS vl1 l]⟩ a w) [([], []), ([], [])] rfl (by kernel_rfl) ?_ (steps_cons ?_ (steps_cons ?_ (steps_nil))) ?_
          ·intro a w hs
           exact hs.startF [53, 54] [] [0] rfl rfl rfl rfl
          ·intro L a w hv K Q hK
           have hs := hv
           refine wpOp_yes rfl rfl rfl hs (congrArg (fun b => some (Value.bool b)) hg6) (OpT_move rfl rfl rfl rfl) ?_
           rintro _ rfl a' w' hs'
           exact hK a' w' (hs'.putF (i := 5) rfl [] [0] rfl rfl rfl rfl)
          ·intro L a w hv K Q hK
           have hs := hv
           refine wpOp_yes rfl rfl rfl hs (congrArg (fun b => some (Value.bool b)) hg6) (OpT_move rfl rfl rfl rfl) ?_
           rintro _ rfl a' w' hs'
           exact hK a' w' (hs'.putF (i := 6) rfl [] [0] rfl rfl rfl rfl)
          ·intro L a w hL hv
           rw [allTrue hL] at hv
           have hs := hv
           refine (show TA _ _ _ 41 ⟨[(0, some (vl1)), (3, some (vU64 sum1)), (4, some (vI i1)), (41, some (vB (decide ((s2.At + (s3.Len.toUInt64 - (1 : UInt64))) < s4.At)))), (52, some (vB s5.Write)), (53, some (vl1)), (54, some (vI i1))], [], [Fact.sl SegS vl1 l]⟩ from ?_) a w (hs.wkS [0, 3, 4, 41, 52, 53, 54] [] [0] rfl rfl rfl rfl)
           clear hs hL
           obtain ⟨s6, hx6, h⟩ := ob_e h
           refine TA_yes htb (by kernel_rfl) rfl rfl rfl (congrArg (fun b => some (Value.bool b)) hg6) (OpT_idxS rfl rfl rfl rfl rfl slF22 (i := 0) rfl hx6) ?_
           rintro _ ⟨p11, rfl⟩
           refine TA_yes htb (by kernel_rfl) rfl rfl rfl (congrArg (fun b => some (Value.bool b)) hg6) (OpT_fieldP (S' := bS) (y := s6.Write) rfl rfl rfl rfl fldF47x2 (i := 1) rfl (by intro h cs hr; subst hr; rfl)) ?_
           rintro _ ⟨p12, rfl⟩
           refine TA_yes htb (by kernel_rfl) rfl rfl rfl (congrArg (fun b => some (Value.bool b)) hg6) (OpT_loadP rfl rfl rfl rfl tyF4 (i := 2) rfl rfl) ?_
           rintro _ rfl
           refine TA_yes htb (by kernel_rfl) rfl rfl rfl (congrArg (fun b => some (Value.bool b)) hg6) (OpT_not rfl rfl rfl rfl) ?_
           rintro _ rfl
           refine TA_yes htb (by kernel_rfl) rfl rfl rfl (congrArg (fun b => some (Value.bool b)) hg4) (OpT_pickT rfl rfl rfl (congrArg (fun b => some (Value.bool b)) hg6) rfl) ?_
           rintro _ rfl
           refine TA_step htb (by kernel_rfl) rfl rfl (OpT_pickF rfl rfl rfl (congrArg (fun b => some (Value.bool b)) hg4) rfl) ?_
           refine TA_end rfl ?_
           refine Tk_wkS (fr' := [(0, some (vl1)), (3, some (vU64 sum1)), (4, some (vI i1)), (60, some (vB (!s6.Write)))]) (own' := []) (shr' := [Fact.sl SegS vl1 l]) [0, 3, 4, 60] [] [0] rfl rfl rfl rfl ?_
           rcases Bool.eq_false_or_eq_true ((!s6.Write)) with hg7 | hg7
           ·replace h := br_t hg7 h
            refine Tk_condT (congrArg (fun b => some (Value.bool b)) hg7) ?_
            refine Tk_seq ?_
            refine Tk_region ?_
            refine Tops_step rfl (OpT_assign rfl rfl rfl rfl) ?_
            refine Tops_nil ?_
            refine Tk_wkS (fr' := [(2, some (vI (2 : Int)))]) (own' := []) (shr' := []) [2] [] [] rfl rfl rfl rfl ?_
            obtain rfl := Option.some.inj h
            exact Tk_retV rfl rfl (resA (vs := [vI (2 : Int)]) rfl ⟨rfl, trivial⟩) [] [] rfl rfl rfl ⟨rfl, rfl, rfl⟩
           ·replace h := br_f hg7 h
            refine Tk_condF (congrArg (fun b => some (Value.bool b)) hg7) ?_
            refine Tk_skip ?_
            refine Tk_region ?_
            refine Tops_step rfl (OpT_move rfl rfl rfl rfl) ?_
            refine Tops_step rfl (OpT_move rfl rfl rfl rfl) ?_
            refine Tops_step rfl (OpT_move rfl rfl rfl rfl) ?_
            obtain ⟨s7, hx7, h⟩ := ob_e h
            refine Tops_ex rfl (OpT_idxS rfl rfl rfl rfl rfl slF22 (i := 0) rfl hx7) fun p13 => ?_
            refine Tops_ex rfl (OpT_fieldP (S' := u32S) (y := s7.Len) rfl rfl rfl rfl fldF47x1 (i := 1) rfl (by intro h cs hr; subst hr; rfl)) fun p14 => ?_
            refine Tops_step rfl (OpT_loadP rfl rfl rfl rfl tyF45 (i := 2) rfl rfl) ?_
            refine Tops_step rfl (OpT_cnv rfl rfl rfl rfl (cnv_u32_u64 (n := s7.Len) Try.underlying45 Try.underlying23)) ?_
            refine Tops_step rfl (OpT_bin rfl rfl rfl rfl rfl (bin_add_u64 (a := sum1) (b := s7.Len.toUInt64))) ?_
            refine Tops_step rfl (OpT_assign rfl rfl rfl rfl) ?_
            refine Tops_nil ?_
            refine Tk_wkS (fr' := [(0, some (vl1)), (3, some (vU64 (sum1 + s7.Len.toUInt64))), (4, some (vI i1))]) (own' := []) (shr' := [Fact.sl SegS vl1 l]) [0, 3, 4] [] [0] rfl rfl rfl rfl ?_
            refine Tk_blk ?_
            refine Tk_region ?_
            refine Tops_step rfl (OpT_move rfl rfl rfl rfl) ?_
            refine Tops_step rfl (OpT_bin rfl rfl rfl rfl rfl (bin_add_i (a := i1) (b := (1 : Int)))) ?_
            refine Tops_step rfl (OpT_assign rfl rfl rfl rfl) ?_
            refine Tops_nil ?_
            refine Tk_wkS (fr' := [(0, some (vl1)), (3, some (vU64 (sum1 + s7.Len.toUInt64))), (4, some (vI (wi (i1 + (1 : Int)))))]) (own' := []) (shr' := [Fact.sl SegS vl1 l]) [0, 3, 4] [] [0] rfl rfl rfl rfl ?_
            exact Tk_backS (sum1 + s7.Len.toUInt64, wi (i1 + (1 : Int))) h [0, 3, 4] [] [0] rfl rfl rfl rfl rfl
         ·replace h := br_f hg6 h
          refine TA_seg (lo := 39) (hi := 41) htb rfl rfl (by kernel_rfl) (fun c L a w => Sat c ⟨[(0, some (vl1)), (3, some (vU64 sum1)), (4, some (vI i1)), (41, some (vB (decide ((s2.At + (s3.Len.toUInt64 - (1 : UInt64))) < s4.At)))), (52, some (vB s5.Write)), (53, bif L 39 then some (undef) else none), (54, bif L 40 then some (undef) else none)], [], [Fact.sl SegS vl1 l]⟩ a w) [([], []), ([], [])] rfl (by kernel_rfl) ?_ (steps_cons ?_ (steps_cons ?_ (steps_nil))) ?_
          ·intro a w hs
           exact hs.startF [53, 54] [] [0] rfl rfl rfl rfl
          ·intro L a w hv K Q hK
           have hs := hv
           refine wpOp_no rfl rfl rfl hs (congrArg (fun b => some (Value.bool b)) hg6) rfl rfl ?_
           intro a' w' hs'
           exact hK a' w' (hs'.putF (i := 5) rfl [] [0] rfl rfl rfl rfl)
          ·intro L a w hv K Q hK
           have hs := hv
           refine wpOp_no rfl rfl rfl hs (congrArg (fun b => some (Value.bool b)) hg6) rfl rfl ?_
           intro a' w' hs'
           exact hK a' w' (hs'.putF (i := 6) rfl [] [0] rfl rfl rfl rfl)
          ·intro L a w hL hv
           rw [allTrue hL] at hv
           have hs := hv
           refine (show TA _ _ _ 41 ⟨[(0, some (vl1)), (3, some (vU64 sum1)), (4, some (vI i1)), (41, some (vB (decide ((s2.At + (s3.Len.toUInt64 - (1 : UInt64))) < s4.At)))), (52, some (vB s5.Write)), (53, some (undef)), (54, some (undef))], [], [Fact.sl SegS vl1 l]⟩ from ?_) a w (hs.wkS [0, 3, 4, 41, 52, 53, 54] [] [0] rfl rfl rfl rfl)
           clear hs hL
           refine TA_no htb (by kernel_rfl) rfl rfl rfl (congrArg (fun b => some (Value.bool b)) hg6) rfl rfl ?_
           refine TA_no htb (by kernel_rfl) rfl rfl rfl (congrArg (fun b => some (Value.bool b)) hg6) rfl rfl ?_
           refine TA_no htb (by kernel_rfl) rfl rfl rfl (congrArg (fun b => some (Value.bool b)) hg6) rfl rfl ?_
           refine TA_no htb (by kernel_rfl) rfl rfl rfl (congrArg (fun b => some (Value.bool b)) hg6) rfl rfl ?_
           refine TA_yes htb (by kernel_rfl) rfl rfl rfl (congrArg (fun b => some (Value.bool b)) hg4) (OpT_pickF rfl rfl rfl (congrArg (fun b => some (Value.bool b)) hg6) rfl) ?_
           rintro _ rfl
           refine TA_step htb (by kernel_rfl) rfl rfl (OpT_pickF rfl rfl rfl (congrArg (fun b => some (Value.bool b)) hg4) rfl) ?_
           refine TA_end rfl ?_
           refine Tk_wkS (fr' := [(0, some (vl1)), (3, some (vU64 sum1)), (4, some (vI i1)), (60, some (vB false))]) (own' := []) (shr' := [Fact.sl SegS vl1 l]) [0, 3, 4, 60] [] [0] rfl rfl rfl rfl ?_
           refine Tk_condF rfl ?_
           refine Tk_skip ?_
           refine Tk_region ?_
           refine Tops_step rfl (OpT_move rfl rfl rfl rfl) ?_
           refine Tops_step rfl (OpT_move rfl rfl rfl rfl) ?_
           refine Tops_step rfl (OpT_move rfl rfl rfl rfl) ?_
           obtain ⟨s8, hx8, h⟩ := ob_e h
           refine Tops_ex rfl (OpT_idxS rfl rfl rfl rfl rfl slF22 (i := 0) rfl hx8) fun p15 => ?_
           refine Tops_ex rfl (OpT_fieldP (S' := u32S) (y := s8.Len) rfl rfl rfl rfl fldF47x1 (i := 1) rfl (by intro h cs hr; subst hr; rfl)) fun p16 => ?_
           refine Tops_step rfl (OpT_loadP rfl rfl rfl rfl tyF45 (i := 2) rfl rfl) ?_
           refine Tops_step rfl (OpT_cnv rfl rfl rfl rfl (cnv_u32_u64 (n := s8.Len) Try.underlying45 Try.underlying23)) ?_
           refine Tops_step rfl (OpT_bin rfl rfl rfl rfl rfl (bin_add_u64 (a := sum1) (b := s8.Len.toUInt64))) ?_
           refine Tops_step rfl (OpT_assign rfl rfl rfl rfl) ?_
           refine Tops_nil ?_
           refine Tk_wkS (fr' := [(0, some (vl1)), (3, some (vU64 (sum1 + s8.Len.toUInt64))), (4, some (vI i1))]) (own' := []) (shr' := [Fact.sl SegS vl1 l]) [0, 3, 4] [] [0] rfl rfl rfl rfl ?_
           refine Tk_blk ?_
           refine Tk_region ?_
           refine Tops_step rfl (OpT_move rfl rfl rfl rfl) ?_
           refine Tops_step rfl (OpT_bin rfl rfl rfl rfl rfl (bin_add_i (a := i1) (b := (1 : Int)))) ?_
           refine Tops_step rfl (OpT_assign rfl rfl rfl rfl) ?_
           refine Tops_nil ?_
           refine Tk_wkS (fr' := [(0, some (vl1)), (3, some (vU64 (sum1 + s8.Len.toUInt64))), (4, some (vI (wi (i1 + (1 : Int)))))]) (own' := []) (shr' := [Fact.sl SegS vl1 l]) [0, 3, 4] [] [0] rfl rfl rfl rfl ?_
           exact Tk_backS (sum1 + s8.Len.toUInt64, wi (i1 + (1 : Int))) h [0, 3, 4] [] [0] rfl rfl rfl rfl rfl
       ·replace h := br_f hg5 h
        refine TA_seg (lo := 31) (hi := 34) htb rfl rfl (by kernel_rfl) (fun c L a w => Sat c ⟨[(0, some (vl1)), (3, some (vU64 sum1)), (4, some (vI i1)), (41, some (vB (decide ((s2.At + (s3.Len.toUInt64 - (1 : UInt64))) < s4.At)))), (44, some (vB (decide (i1 > (0 : Int))))), (45, bif L 31 then some (undef) else none), (46, bif L 32 then some (undef) else none), (47, bif L 33 then some (undef) else none)], [], [Fact.sl SegS vl1 l]⟩ a w) [([], []), ([], [33]), ([32], [])] rfl (by kernel_rfl) ?_ (steps_cons ?_ (steps_cons ?_ (steps_cons ?_ (steps_nil)))) ?_
        ·intro a w hs
         exact hs.startF [45, 46, 47] [] [0] rfl rfl rfl rfl
        ·intro L a w hv K Q hK
         have hs := hv
         refine wpOp_no rfl rfl rfl hs (congrArg (fun b => some (Value.bool b)) hg5) rfl rfl ?_
         intro a' w' hs'
         exact hK a' w' (hs'.putF (i := 5) rfl [] [0] rfl rfl rfl rfl)
        ·intro L a w hv K Q hK
         have hs := hv
         refine wpOp_no rfl rfl rfl hs (congrArg (fun b => some (Value.bool b)) hg5) rfl rfl ?_
         intro a' w' hs'
         exact hK a' w' (hs'.putF (i := 6) rfl [] [0] rfl rfl rfl rfl)
        ·intro L a w hv K Q hK
         have hs := hv
         refine wpOp_no rfl rfl rfl hs (congrArg (fun b => some (Value.bool b)) hg5) rfl rfl ?_
         intro a' w' hs'
         exact hK a' w' (hs'.putF (i := 7) rfl [] [0] rfl rfl rfl rfl)
        ·intro L a w hL hv
         rw [allTrue hL] at hv
         have hs := hv
         refine (show TA _ _ _ 34 ⟨[(0, some (vl1)), (3, some (vU64 sum1)), (4, some (vI i1)), (41, some (vB (decide ((s2.At + (s3.Len.toUInt64 - (1 : UInt64))) < s4.At)))), (44, some (vB (decide (i1 > (0 : Int))))), (45, some (undef)), (47, some (undef))], [], [Fact.sl SegS vl1 l]⟩ from ?_) a w (hs.wkS [0, 3, 4, 41, 44, 45, 47] [] [0] rfl rfl rfl rfl)
         clear hs hL
         refine TA_no htb (by kernel_rfl) rfl rfl rfl (congrArg (fun b => some (Value.bool b)) hg5) rfl rfl ?_
         refine TA_no htb (by kernel_rfl) rfl rfl rfl (congrArg (fun b => some (Value.bool b)) hg5) rfl rfl ?_
         refine TA_no htb (by kernel_rfl) rfl rfl rfl (congrArg (fun b => some (Value.bool b)) hg5) rfl rfl ?_
         refine TA_yes htb (by kernel_rfl) rfl rfl rfl (congrArg (fun b => some (Value.bool b)) hg4) (OpT_pickF rfl rfl rfl (congrArg (fun b => some (Value.bool b)) hg5) rfl) ?_
         rintro _ rfl
         refine TA_yes htb (by kernel_rfl) rfl rfl rfl (congrArg (fun b => some (Value.bool b)) hg4) (OpT_move rfl rfl rfl rfl) ?_
         rintro _ rfl
         refine TA_wkS (fr' := [(0, some (vl1)), (3, some (vU64 sum1)), (4, some (vI i1)), (41, some (vB (decide ((s2.At + (s3.Len.toUInt64 - (1 : UInt64))) < s4.At)))), (52, some (vB false))]) (own' := []) (shr' := [Fact.sl SegS vl1 l]) [0, 3, 4, 41, 52] [] [0] rfl rfl rfl rfl ?_
         refine TA_seg (lo := 39) (hi := 41) htb rfl rfl (by kernel_rfl) (fun c L a w => Sat c ⟨[(0, some (vl1)), (3, some (vU64 sum1)), (4, some (vI i1)), (41, some (vB (decide ((s2.At + (s3.Len.toUInt64 - (1 : UInt64))) < s4.At)))), (52, some (vB false)), (53, bif L 39 then some (undef) else none), (54, bif L 40 then some (undef) else none)], [], [Fact.sl SegS vl1 l]⟩ a w) [([], []), ([], [])] rfl (by kernel_rfl) ?_ (steps_cons ?_ (steps_cons ?_ (steps_nil))) ?_
         ·intro a w hs
          exact hs.startF [53, 54] [] [0] rfl rfl rfl rfl
         ·intro L a w hv K Q hK
          have hs := hv
          refine wpOp_no rfl rfl rfl hs rfl rfl rfl ?_
          intro a' w' hs'
          exact hK a' w' (hs'.putF (i := 5) rfl [] [0] rfl rfl rfl rfl)
         ·intro L a w hv K Q hK
          have hs := hv
          refine wpOp_no rfl rfl rfl hs rfl rfl rfl ?_
          intro a' w' hs'
          exact hK a' w' (hs'.putF (i := 6) rfl [] [0] rfl rfl rfl rfl)
         ·intro L a w hL hv
          rw [allTrue hL] at hv
          have hs := hv
          refine (show TA _ _ _ 41 ⟨[(0, some (vl1)), (3, some (vU64 sum1)), (4, some (vI i1)), (41, some (vB (decide ((s2.At + (s3.Len.toUInt64 - (1 : UInt64))) < s4.At)))), (52, some (vB false)), (53, some (undef)), (54, some (undef))], [], [Fact.sl SegS vl1 l]⟩ from ?_) a w (hs.wkS [0, 3, 4, 41, 52, 53, 54] [] [0] rfl rfl rfl rfl)
          clear hs hL
          refine TA_no htb (by kernel_rfl) rfl rfl rfl rfl rfl rfl ?_
          refine TA_no htb (by kernel_rfl) rfl rfl rfl rfl rfl rfl ?_
          refine TA_no htb (by kernel_rfl) rfl rfl rfl rfl rfl rfl ?_
          refine TA_no htb (by kernel_rfl) rfl rfl rfl rfl rfl rfl ?_
          refine TA_yes htb (by kernel_rfl) rfl rfl rfl (congrArg (fun b => some (Value.bool b)) hg4) (OpT_pickF rfl rfl rfl rfl rfl) ?_
          rintro _ rfl
          refine TA_step htb (by kernel_rfl) rfl rfl (OpT_pickF rfl rfl rfl (congrArg (fun b => some (Value.bool b)) hg4) rfl) ?_
          refine TA_end rfl ?_
          refine Tk_wkS (fr' := [(0, some (vl1)), (3, some (vU64 sum1)), (4, some (vI i1)), (60, some (vB false))]) (own' := []) (shr' := [Fact.sl SegS vl1 l]) [0, 3, 4, 60] [] [0] rfl rfl rfl rfl ?_
          refine Tk_condF rfl ?_
          refine Tk_skip ?_
          refine Tk_region ?_
          refine Tops_step rfl (OpT_move rfl rfl rfl rfl) ?_
          refine Tops_step rfl (OpT_move rfl rfl rfl rfl) ?_
          refine Tops_step rfl (OpT_move rfl rfl rfl rfl) ?_
          obtain ⟨s9, hx9, h⟩ := ob_e h
          refine Tops_ex rfl (OpT_idxS rfl rfl rfl rfl rfl slF22 (i := 0) rfl hx9) fun p17 => ?_
          refine Tops_ex rfl (OpT_fieldP (S' := u32S) (y := s9.Len) rfl rfl rfl rfl fldF47x1 (i := 1) rfl (by intro h cs hr; subst hr; rfl)) fun p18 => ?_
          refine Tops_step rfl (OpT_loadP rfl rfl rfl rfl tyF45 (i := 2) rfl rfl) ?_
          refine Tops_step rfl (OpT_cnv rfl rfl rfl rfl (cnv_u32_u64 (n := s9.Len) Try.underlying45 Try.underlying23)) ?_
          refine Tops_step rfl (OpT_bin rfl rfl rfl rfl rfl (bin_add_u64 (a := sum1) (b := s9.Len.toUInt64))) ?_
          refine Tops_step rfl (OpT_assign rfl rfl rfl rfl) ?_
          refine Tops_nil ?_
          refine Tk_wkS (fr' := [(0, some (vl1)), (3, some (vU64 (sum1 + s9.Len.toUInt64))), (4, some (vI i1))]) (own' := []) (shr' := [Fact.sl SegS vl1 l]) [0, 3, 4] [] [0] rfl rfl rfl rfl ?_
          refine Tk_blk ?_
          refine Tk_region ?_
          refine Tops_step rfl (OpT_move rfl rfl rfl rfl) ?_
          refine Tops_step rfl (OpT_bin rfl rfl rfl rfl rfl (bin_add_i (a := i1) (b := (1 : Int)))) ?_
          refine Tops_step rfl (OpT_assign rfl rfl rfl rfl) ?_
          refine Tops_nil ?_
          refine Tk_wkS (fr' := [(0, some (vl1)), (3, some (vU64 (sum1 + s9.Len.toUInt64))), (4, some (vI (wi (i1 + (1 : Int)))))]) (own' := []) (shr' := [Fact.sl SegS vl1 l]) [0, 3, 4] [] [0] rfl rfl rfl rfl ?_
          exact Tk_backS (sum1 + s9.Len.toUInt64, wi (i1 + (1 : Int))) h [0, 3, 4] [] [0] rfl rfl rfl rfl rfl
  ·replace h := br_f hg2 h
   refine Tk_condF (congrArg (fun b => some (Value.bool b)) hg2) ?_
   refine Tk_exit _ rfl ?_
   refine Tk_seq ?_
   refine Tk_seq ?_
   refine Tk_region ?_
   refine Tops_step rfl (OpT_move rfl rfl rfl rfl) ?_
   refine Tops_step rfl (OpT_bin rfl rfl rfl rfl rfl (bin_geq_u64 (a := sum1) (b := (4294967296 : UInt64)))) ?_
   refine Tops_nil ?_
   refine Tk_wkS (fr' := [(70, some (vB (decide (sum1 ≥ (4294967296 : UInt64)))))]) (own' := []) (shr' := []) [70] [] [] rfl rfl rfl rfl ?_
   rcases Bool.eq_false_or_eq_true (decide (sum1 ≥ (4294967296 : UInt64))) with hg8 | hg8
   ·replace h := br_t hg8 h
    refine Tk_condT (congrArg (fun b => some (Value.bool b)) hg8) ?_
    refine Tk_seq ?_
    refine Tk_region ?_
    refine Tops_step rfl (OpT_assign rfl rfl rfl rfl) ?_
    refine Tops_nil ?_
    refine Tk_wkS (fr' := [(2, some (vI (2 : Int)))]) (own' := []) (shr' := []) [2] [] [] rfl rfl rfl rfl ?_
    obtain rfl := Option.some.inj h
    exact Tk_retV rfl rfl (resA (vs := [vI (2 : Int)]) rfl ⟨rfl, trivial⟩) [] [] rfl rfl rfl ⟨rfl, rfl, rfl⟩
   ·replace h := br_f hg8 h
    refine Tk_condF (congrArg (fun b => some (Value.bool b)) hg8) ?_
    refine Tk_skip ?_
    refine Tk_seq ?_
    refine Tk_region ?_
    refine Tops_step rfl (OpT_assign rfl rfl rfl rfl) ?_
    refine Tops_nil ?_
    refine Tk_wkS (fr' := [(2, some (vI (0 : Int)))]) (own' := []) (shr' := []) [2] [] [] rfl rfl rfl rfl ?_
    obtain rfl := Option.some.inj h
    exact Tk_retV rfl rfl (resA (vs := [vI (0 : Int)]) rfl ⟨rfl, trivial⟩) [] [] rfl rfl rfl ⟨rfl, rfl, rfl⟩

set_option maxRecDepth 100000 in
set_option maxHeartbeats 4000000 in
theorem w_ref_Total05 {l : List Seg} {vl1 : Value} {r : (UInt64 × UInt64)} (h : ref_Total05 l = some r) :
  Ctr Try.prog 25 #[vl1] [] [Fact.sl SegS vl1 l]
   (fun rv own shr => rv = .tuple #[vU64 r.1, vU64 r.2] ∧ own = [] ∧ shr = []) := by
 unfold ref_Total05 at h
 refine Ctr.mk (args := [vl1]) Try.func25 rfl rfl (fun R0 w0 B => ?_)
 refine Tk_seq ?_
 refine Tk_region ?_
 refine Tops_step rfl (OpT_assign rfl rfl rfl rfl) ?_
 refine Tops_step rfl (OpT_assign rfl rfl rfl rfl) ?_
 refine Tops_nil ?_
 refine Tk_wkS (fr' := [(0, some (vl1))]) (own' := []) (shr' := [Fact.sl SegS vl1 l]) [0] [] [0] rfl rfl rfl rfl ?_
 refine Tk_seq ?_
 refine Tk_region ?_
 refine Tops_step rfl (OpT_assign rfl rfl rfl rfl) ?_
 refine Tops_step rfl (OpT_assign rfl rfl rfl rfl) ?_
 refine Tops_nil ?_
 refine Tk_seq ?_
 refine Tk_seq ?_
 refine Tk_region ?_
 refine Tops_step rfl (OpT_assign rfl rfl rfl rfl) ?_
 refine Tops_nil ?_
 refine Tk_block ?_
 refine Tk_loopS (σ := UInt64 × UInt64 × Int) [0, 4, 5, 6] [] [0] (fun s => ⟨[(0, some (vl1)), (4, some (vU64 s.1)), (5, some (vU64 s.2.1)), (6, some (vI s.2.2))], [], [Fact.sl SegS vl1 l]⟩) (fun nf s => ref_Total05L1 l nf s.1 s.2.1 s.2.2 = some r) fuel ((0 : UInt64), (0 : UInt64), (0 : Int)) h rfl rfl rfl rfl rfl (fun s h => by cases h) ?_
 rintro nf ⟨read1, write1, i1⟩ h
 replace h : ref_Total05L1B l (ref_Total05L1 l nf) read1 write1 i1 = some r := h
 unfold ref_Total05L1B at h
 refine Tk_seq ?_
 refine Tk_seq ?_
 refine Tk_region ?_
 refine Tops_step rfl (OpT_move rfl rfl rfl rfl) ?_
 refine Tops_step rfl (OpT_move rfl rfl rfl rfl) ?_
 refine Tops_step rfl (OpT_lenS rfl rfl rfl rfl Try.underlying22 (i := 0) rfl) ?_
 refine Tops_step rfl (OpT_bin rfl rfl rfl rfl rfl (bin_lss_i (a := i1) (b := len l))) ?_
 refine Tops_step rfl (OpT_move rfl rfl rfl rfl) ?_
 rcases Bool.eq_false_or_eq_true (decide (i1 < (len l))) with hg1 | hg1
 ·replace h := br_t hg1 h
  refine Tops_yes rfl rfl (congrArg (fun b => some (Value.bool b)) hg1) (OpT_move rfl rfl rfl rfl) ?_
  rintro _ rfl
  obtain ⟨check1, hx1, h⟩ := ob_e h
  refine Tops_yes rfl rfl (congrArg (fun b => some (Value.bool b)) hg1) (OpT_call (w_ref_Check05 hx1) [] [0] rfl rfl rfl rfl rfl callee26 rfl rfl rfl rfl) ?_
  rintro _ ⟨_, _, _, ⟨rfl, rfl, rfl⟩, rfl⟩
  refine Tops_yes rfl rfl (congrArg (fun b => some (Value.bool b)) hg1) (OpT_bin rfl rfl rfl rfl rfl (bin_eql_i (a := check1) (b := (0 : Int)))) ?_
  rintro _ rfl
  refine Tops_step rfl (OpT_pickT rfl rfl rfl (congrArg (fun b => some (Value.bool b)) hg1) rfl) ?_
  refine Tops_nil ?_
  refine Tk_wkS (fr' := [(0, some (vl1)), (4, some (vU64 read1)), (5, some (vU64 write1)), (6, some (vI i1)), (15, some (vB (check1 == (0 : Int))))]) (own' := []) (shr' := [Fact.sl SegS vl1 l]) [0, 4, 5, 6, 15] [] [0] rfl rfl rfl rfl ?_
  rcases Bool.eq_false_or_eq_true (check1 == (0 : Int)) with hg2 | hg2
  ·replace h := br_t hg2 h
   refine Tk_condT (congrArg (fun b => some (Value.bool b)) hg2) ?_
   refine Tk_skip ?_
   refine Tk_seq ?_
   refine Tk_join (α := UInt64 × UInt64) (fun s => ⟨[(0, some (vl1)), (4, some (vU64 s.1)), (5, some (vU64 s.2)), (6, some (vI i1))], [], [Fact.sl SegS vl1 l]⟩) (fun s => ref_Total05J2 i1 (ref_Total05L1 l nf) s.1 s.2 = some r) ?_ ?_
   ·rintro ⟨read2, write2⟩ h
    replace h : ref_Total05J2 i1 (ref_Total05L1 l nf) read2 write2 = some r := h
    unfold ref_Total05J2 at h
    refine Tk_region ?_
    refine Tops_step rfl (OpT_move rfl rfl rfl rfl) ?_
    refine Tops_step rfl (OpT_bin rfl rfl rfl rfl rfl (bin_add_i (a := i1) (b := (1 : Int)))) ?_
    refine Tops_step rfl (OpT_assign rfl rfl rfl rfl) ?_
    refine Tops_nil ?_
    refine Tk_wkS (fr' := [(0, some (vl1)), (4, some (vU64 read2)), (5, some (vU64 write2)), (6, some (vI (wi (i1 + (1 : Int)))))]) (own' := []) (shr' := [Fact.sl SegS vl1 l]) [0, 4, 5, 6] [] [0] rfl rfl rfl rfl ?_
    exact Tk_backS (read2, write2, wi (i1 + (1 : Int))) h [0, 4, 5, 6] [] [0] rfl rfl rfl rfl rfl
   ·intro HJ1
    refine Tk_block ?_
    refine Tk_seq ?_
    refine Tk_region ?_
    refine Tops_step rfl (OpT_move rfl rfl rfl rfl) ?_
    refine Tops_step rfl (OpT_move rfl rfl rfl rfl) ?_
    obtain ⟨s1, hx2, h⟩ := ob_e h
    refine Tops_ex rfl (OpT_idxS rfl rfl rfl rfl rfl slF22 (i := 0) rfl hx2) fun p1 => ?_
    refine Tops_ex rfl (OpT_fieldP (S' := bS) (y := s1.Write) rfl rfl rfl rfl fldF47x2 (i := 1) rfl (by intro h cs hr; subst hr; rfl)) fun p2 => ?_
    refine Tops_step rfl (OpT_loadP rfl rfl rfl rfl tyF4 (i := 2) rfl rfl) ?_
    refine Tops_nil ?_
    refine Tk_wkS (fr' := [(0, some (vl1)), (4, some (vU64 read1)), (5, some (vU64 write1)), (6, some (vI i1)), (22, some (vB s1.Write))]) (own' := []) (shr' := [Fact.sl SegS vl1 l]) [0, 4, 5, 6, 22] [] [0] rfl rfl rfl rfl ?_
    refine Tk_join (α := UInt64 × UInt64) (fun s => ⟨[(0, some (vl1)), (4, some (vU64 s.1)), (5, some (vU64 s.2)), (6, some (vI i1))], [], [Fact.sl SegS vl1 l]⟩) (fun s => ref_Total05J3 i1 (ref_Total05L1 l nf) s.1 s.2 = some r) ?_ ?_
    ·rintro ⟨read3, write3⟩ h
     replace h : ref_Total05J3 i1 (ref_Total05L1 l nf) read3 write3 = some r := h
     unfold ref_Total05J3 at h
     refine Tk_blk ?_
     exact Tk_jmpS (HJ1 (read3, write3) h) [0, 4, 5, 6] [] [0] rfl rfl rfl rfl
    ·intro HJ2
     rcases Bool.eq_false_or_eq_true (s1.Write) with hg3 | hg3
     ·replace h := br_t hg3 h
      refine Tk_condT (congrArg (fun b => some (Value.bool b)) hg3) ?_
      refine Tk_region ?_
      refine Tops_step rfl (OpT_move rfl rfl rfl rfl) ?_
      refine Tops_step rfl (OpT_move rfl rfl rfl rfl) ?_
      refine Tops_step rfl (OpT_move rfl rfl rfl rfl) ?_
      obtain ⟨s2, hx3, h⟩ := ob_e h
      refine Tops_ex rfl (OpT_idxS rfl rfl rfl rfl rfl slF22 (i := 0) rfl hx3) fun p3 => ?_
      refine Tops_ex rfl (OpT_fieldP (S' := u32S) (y := s2.Len) rfl rfl rfl rfl fldF47x1 (i := 1) rfl (by intro h cs hr; subst hr; rfl)) fun p4 => ?_
      refine Tops_step rfl (OpT_loadP rfl rfl rfl rfl tyF45 (i := 2) rfl rfl) ?_
      refine Tops_step rfl (OpT_cnv rfl rfl rfl rfl (cnv_u32_u64 (n := s2.Len) Try.underlying45 Try.underlying23)) ?_
      refine Tops_step rfl (OpT_bin rfl rfl rfl rfl rfl (bin_add_u64 (a := write1) (b := s2.Len.toUInt64))) ?_
      refine Tops_step rfl (OpT_assign rfl rfl rfl rfl) ?_
      refine Tops_nil ?_
      refine Tk_wkS (fr' := [(0, some (vl1)), (4, some (vU64 read1)), (5, some (vU64 (write1 + s2.Len.toUInt64))), (6, some (vI i1))]) (own' := []) (shr' := [Fact.sl SegS vl1 l]) [0, 4, 5, 6] [] [0] rfl rfl rfl rfl ?_
      exact Tk_jmpS (HJ2 (read1, write1 + s2.Len.toUInt64) h) [0, 4, 5, 6] [] [0] rfl rfl rfl rfl
     ·replace h := br_f hg3 h
      refine Tk_condF (congrArg (fun b => some (Value.bool b)) hg3) ?_
      refine Tk_region ?_
      refine Tops_step rfl (OpT_move rfl rfl rfl rfl) ?_
      refine Tops_step rfl (OpT_move rfl rfl rfl rfl) ?_
      refine Tops_step rfl (OpT_move rfl rfl rfl rfl) ?_
      obtain ⟨s3, hx4, h⟩ := ob_e h
      refine Tops_ex rfl (OpT_idxS rfl rfl rfl rfl rfl slF22 (i := 0) rfl hx4) fun p5 => ?_
      refine Tops_ex rfl (OpT_fieldP (S' := u32S) (y := s3.Len) rfl rfl rfl rfl fldF47x1 (i := 1) rfl (by intro h cs hr; subst hr; rfl)) fun p6 => ?_
      refine Tops_step rfl (OpT_loadP rfl rfl rfl rfl tyF45 (i := 2) rfl rfl) ?_
      refine Tops_step rfl (OpT_cnv rfl rfl rfl rfl (cnv_u32_u64 (n := s3.Len) Try.underlying45 Try.underlying23)) ?_
      refine Tops_step rfl (OpT_bin rfl rfl rfl rfl rfl (bin_add_u64 (a := read1) (b := s3.Len.toUInt64))) ?_
      refine Tops_step rfl (OpT_assign rfl rfl rfl rfl) ?_
      refine Tops_nil ?_
      refine Tk_wkS (fr' := [(0, some (vl1)), (4, some (vU64 (read1 + s3.Len.toUInt64))), (5, some (vU64 write1)), (6, some (vI i1))]) (own' := []) (shr' := [Fact.sl SegS vl1 l]) [0, 4, 5, 6] [] [0] rfl rfl rfl rfl ?_
      exact Tk_jmpS (HJ2 (read1 + s3.Len.toUInt64, write1) h) [0, 4, 5, 6] [] [0] rfl rfl rfl rfl
  ·replace h := br_f hg2 h
   refine Tk_condF (congrArg (fun b => some (Value.bool b)) hg2) ?_
   refine Tk_exit _ rfl ?_
   refine Tk_seq ?_
   refine Tk_region ?_
   refine Tops_step rfl (OpT_move rfl rfl rfl rfl) ?_
   refine Tops_step rfl (OpT_move rfl rfl rfl rfl) ?_
   refine Tops_step rfl (OpT_assign rfl rfl rfl rfl) ?_
   refine Tops_step rfl (OpT_assign rfl rfl rfl rfl) ?_
   refine Tops_nil ?_
   refine Tk_wkS (fr' := [(2, some (vU64 read1)), (3, some (vU64 write1))]) (own' := []) (shr' := []) [2, 3] [] [] rfl rfl rfl rfl ?_
   obtain rfl := Option.some.inj h
   exact Tk_retV rfl rfl (resA (vs := [vU64 read1, vU64 write1]) rfl ⟨rfl, rfl, trivial⟩) [] [] rfl rfl rfl ⟨rfl, rfl, rfl⟩
 ·replace h := br_f hg1 h
  refine Tops_no rfl rfl (congrArg (fun b => some (Value.bool b)) hg1) rfl rfl ?_
  refine Tops_no rfl rfl (congrArg (fun b => some (Value.bool b)) hg1) rfl rfl ?_
  refine Tops_no rfl rfl (congrArg (fun b => some (Value.bool b)) hg1) rfl rfl ?_
  refine Tops_step rfl (OpT_pickF rfl rfl rfl (congrArg (fun b => some (Value.bool b)) hg1) rfl) ?_
  refine Tops_nil ?_
  refine Tk_wkS (fr' := [(0, some (vl1)), (4, some (vU64 read1)), (5, some (vU64 write1)), (6, some (vI i1)), (15, some (vB false))]) (own' := []) (shr' := [Fact.sl SegS vl1 l]) [0, 4, 5, 6, 15] [] [0] rfl rfl rfl rfl ?_
  refine Tk_condF rfl ?_
  refine Tk_exit _ rfl ?_
  refine Tk_seq ?_
  refine Tk_region ?_
  refine Tops_step rfl (OpT_move rfl rfl rfl rfl) ?_
  refine Tops_step rfl (OpT_move rfl rfl rfl rfl) ?_
  refine Tops_step rfl (OpT_assign rfl rfl rfl rfl) ?_
  refine Tops_step rfl (OpT_assign rfl rfl rfl rfl) ?_
  refine Tops_nil ?_
  refine Tk_wkS (fr' := [(2, some (vU64 read1)), (3, some (vU64 write1))]) (own' := []) (shr' := []) [2, 3] [] [] rfl rfl rfl rfl ?_
  obtain rfl := Option.some.inj h
  exact Tk_retV rfl rfl (resA (vs := [vU64 read1, vU64 write1]) rfl ⟨rfl, rfl, trivial⟩) [] [] rfl rfl rfl ⟨rfl, rfl, rfl⟩

set_option maxRecDepth 100000 in
set_option maxHeartbeats 4000000 in
theorem w_ref_Mem_find02 {m : dumbwaiterref02_Mem} {atp1 : UInt64} {np2 : UInt64} {b_m : Nat} {vm1 : Value} {vm2 : Value} {vsm1 : List Value} {r : (Int × Int)} (h : ref_Mem_find02 m atp1 np2 = some r) :
  Ctr Try.prog 53 #[.pointer (some ⟨b_m, 0, none⟩), vU64 atp1, vU64 np2] [(cellsR b_m 76 [vm1, vm2]), (rowsX u8S false vm2 vsm1 m.B none)] [Fact.sl RegionS vm1 m.L]
   (fun rv own shr => rv = .tuple #[vI r.1, vI r.2] ∧ own = [(cellsR b_m 76 [vm1, vm2]), (rowsX u8S false vm2 vsm1 m.B none)] ∧ shr = []) := by
 unfold ref_Mem_find02 at h
 refine Ctr.mk (args := [.pointer (some ⟨b_m, 0, none⟩), vU64 atp1, vU64 np2]) Try.func53 rfl rfl (fun R0 w0 B => ?_)
 refine Tk_seq ?_
 refine Tk_region ?_
 refine Tops_step rfl (OpT_assign rfl rfl rfl rfl) ?_
 refine Tops_step rfl (OpT_assign rfl rfl rfl rfl) ?_
 refine Tops_nil ?_
 refine Tk_wkS (fr' := [(0, some (.pointer (some ⟨b_m, 0, none⟩))), (1, some (vU64 atp1)), (2, some (vU64 np2))]) (own' := [some (cellsR b_m 76 [vm1, vm2]), some (rowsX u8S false vm2 vsm1 m.B none)]) (shr' := [Fact.sl RegionS vm1 m.L]) [0, 1, 2] [0, 1] [0] rfl rfl rfl rfl ?_
 refine Tk_seq ?_
 refine Tk_seq ?_
 refine Tk_region ?_
 refine Tops_step rfl (OpT_assign rfl rfl rfl rfl) ?_
 refine Tops_nil ?_
 refine Tk_block ?_
 refine Tk_loopS (σ := Int) [0, 1, 2, 8] [0, 1] [0] (fun s => ⟨[(0, some (.pointer (some ⟨b_m, 0, none⟩))), (1, some (vU64 atp1)), (2, some (vU64 np2)), (8, some (vI s))], [some (cellsR b_m 76 [vm1, vm2]), some (rowsX u8S false vm2 vsm1 m.B none)], [Fact.sl RegionS vm1 m.L]⟩) (fun nf s => ref_Mem_find02L1 m atp1 np2 nf s = some r) fuel (0 : Int) h rfl rfl rfl rfl rfl (fun s h => by cases h) ?_
 rintro nf i1 h
 replace h : ref_Mem_find02L1B m atp1 np2 (ref_Mem_find02L1 m atp1 np2 nf) i1 = some r := h
 unfold ref_Mem_find02L1B at h
 refine Tk_seq ?_
 refine Tk_seq ?_
 refine Tk_region ?_
 refine Tops_step rfl (OpT_move rfl rfl rfl rfl) ?_
 refine Tops_step rfl (OpT_move rfl rfl rfl rfl) ?_
 refine Tops_step rfl (OpT_nilCheckP rfl rfl rfl rfl) ?_
 refine Tops_step rfl (OpT_fieldC rfl rfl rfl rfl fldF76x0) ?_
 refine Tops_step rfl (OpT_loadC rfl rfl rfl rfl tyF39 (i := 0) rfl rfl) ?_
 refine Tops_step rfl (OpT_lenS rfl rfl rfl rfl Try.underlying39 (i := 0) rfl) ?_
 refine Tops_step rfl (OpT_bin rfl rfl rfl rfl rfl (bin_lss_i (a := i1) (b := len m.L))) ?_
 refine Tops_nil ?_
 refine Tk_wkS (fr' := [(0, some (.pointer (some ⟨b_m, 0, none⟩))), (1, some (vU64 atp1)), (2, some (vU64 np2)), (8, some (vI i1)), (16, some (vB (decide (i1 < (len m.L)))))]) (own' := [some (cellsR b_m 76 [vm1, vm2]), some (rowsX u8S false vm2 vsm1 m.B none)]) (shr' := [Fact.sl RegionS vm1 m.L]) [0, 1, 2, 8, 16] [0, 1] [0] rfl rfl rfl rfl ?_
 rcases Bool.eq_false_or_eq_true (decide (i1 < (len m.L))) with hg1 | hg1
 ·replace h := br_t hg1 h
  refine Tk_condT (congrArg (fun b => some (Value.bool b)) hg1) ?_
  refine Tk_skip ?_
  refine Tk_seq ?_
  refine Tk_block ?_
  refine Tk_seq ?_
  refine Tk_region ?_
  refine Tops_step rfl (OpT_move rfl rfl rfl rfl) ?_
  refine Tops_step rfl (OpT_nilCheckP rfl rfl rfl rfl) ?_
  refine Tops_step rfl (OpT_fieldC rfl rfl rfl rfl fldF76x0) ?_
  refine Tops_step rfl (OpT_loadC rfl rfl rfl rfl tyF39 (i := 0) rfl rfl) ?_
  refine Tops_step rfl (OpT_move rfl rfl rfl rfl) ?_
  obtain ⟨r1, hx1, h⟩ := ob_e h
  refine Tops_ex rfl (OpT_idxS rfl rfl rfl rfl rfl slF39 (i := 0) rfl hx1) fun p1 => ?_
  refine Tops_step rfl (OpT_loadPA (vs := [vU64 r1.At, vU64 r1.Len]) rfl rfl rfl rfl tyF38 (i := 1) rfl rfl) ?_
  refine Tops_ex rfl (OpT_alloc rfl rfl rfl tyZ38) fun b1 => ?_
  refine Tops_step rfl (OpT_storeC (cs' := [vU64 r1.At, vU64 r1.Len]) rfl rfl rfl rfl tyF38 (i := 2) rfl rfl rfl (one_of rfl) rfl) ?_
  refine Tops_nil ?_
  refine Tk_wkS (fr' := [(0, some (.pointer (some ⟨b_m, 0, none⟩))), (1, some (vU64 atp1)), (2, some (vU64 np2)), (8, some (vI i1)), (9, some (.pointer (some ⟨b1, 0, none⟩)))]) (own' := [some (cellsR b_m 76 [vm1, vm2]), some (rowsX u8S false vm2 vsm1 m.B none), some (cellsR b1 38 [vU64 r1.At, vU64 r1.Len])]) (shr' := [Fact.sl RegionS vm1 m.L]) [0, 1, 2, 8, 9] [0, 1, 2] [0] rfl rfl rfl rfl ?_
  refine Tk_seq ?_
  refine Tk_region ?_
  refine Tops_step rfl (OpT_move rfl rfl rfl rfl) ?_
  refine Tops_step rfl (OpT_bin rfl rfl rfl rfl rfl (bin_geq_u64 (a := np2) (b := (1 : UInt64)))) ?_
  refine Tops_step rfl (OpT_move rfl rfl rfl rfl) ?_
  rcases Bool.eq_false_or_eq_true (decide (np2 ≥ (1 : UInt64))) with hg2 | hg2
  ·replace h := br_t hg2 h
   refine Tops_yes rfl rfl (congrArg (fun b => some (Value.bool b)) hg2) (OpT_move rfl rfl rfl rfl) ?_
   rintro _ rfl
   refine Tops_yes rfl rfl (congrArg (fun b => some (Value.bool b)) hg2) (OpT_fieldC rfl rfl rfl rfl fldF38x0) ?_
   rintro _ rfl
   refine Tops_yes rfl rfl (congrArg (fun b => some (Value.bool b)) hg2) (OpT_loadC rfl rfl rfl rfl tyF23 (i := 2) rfl rfl) ?_
   rintro _ rfl
   refine Tops_yes rfl rfl (congrArg (fun b => some (Value.bool b)) hg2) (OpT_bin rfl rfl rfl rfl rfl (bin_geq_u64 (a := atp1) (b := r1.At))) ?_
   rintro _ rfl
   refine Tops_step rfl (OpT_pickT rfl rfl rfl (congrArg (fun b => some (Value.bool b)) hg2) rfl) ?_
   refine Tops_step rfl (OpT_move rfl rfl rfl rfl) ?_
   rcases Bool.eq_false_or_eq_true (decide (atp1 ≥ r1.At)) with hg3 | hg3
   ·replace h := br_t hg3 h
    refine Tops_yes rfl rfl (congrArg (fun b => some (Value.bool b)) hg3) (OpT_move rfl rfl rfl rfl) ?_
    rintro _ rfl
    refine Tops_yes rfl rfl (congrArg (fun b => some (Value.bool b)) hg3) (OpT_fieldC rfl rfl rfl rfl fldF38x1) ?_
    rintro _ rfl
    refine Tops_yes rfl rfl (congrArg (fun b => some (Value.bool b)) hg3) (OpT_loadC rfl rfl rfl rfl tyF23 (i := 2) rfl rfl) ?_
    rintro _ rfl
    refine Tops_yes rfl rfl (congrArg (fun b => some (Value.bool b)) hg3) (OpT_bin rfl rfl rfl rfl rfl (bin_leq_u64 (a := np2) (b := r1.Len))) ?_
    rintro _ rfl
    refine Tops_step rfl (OpT_pickT rfl rfl rfl (congrArg (fun b => some (Value.bool b)) hg3) rfl) ?_
    refine Tops_step rfl (OpT_move rfl rfl rfl rfl) ?_
    rcases Bool.eq_false_or_eq_true (decide (np2 ≤ r1.Len)) with hg4 | hg4
    ·replace h := br_t hg4 h
     refine Tops_yes rfl rfl (congrArg (fun b => some (Value.bool b)) hg4) (OpT_move rfl rfl rfl rfl) ?_
     rintro _ rfl
     refine Tops_yes rfl rfl (congrArg (fun b => some (Value.bool b)) hg4) (OpT_fieldC rfl rfl rfl rfl fldF38x0) ?_
     rintro _ rfl
     refine Tops_yes rfl rfl (congrArg (fun b => some (Value.bool b)) hg4) (OpT_loadC rfl rfl rfl rfl tyF23 (i := 2) rfl rfl) ?_
     rintro _ rfl
     refine Tops_yes rfl rfl (congrArg (fun b => some (Value.bool b)) hg4) (OpT_bin rfl rfl rfl rfl rfl (bin_sub_u64 (a := atp1) (b := r1.At))) ?_
     rintro _ rfl
     refine Tops_yes rfl rfl (congrArg (fun b => some (Value.bool b)) hg4) (OpT_fieldC rfl rfl rfl rfl fldF38x1) ?_
     rintro _ rfl
     refine Tops_yes rfl rfl (congrArg (fun b => some (Value.bool b)) hg4) (OpT_loadC rfl rfl rfl rfl tyF23 (i := 2) rfl rfl) ?_
     rintro _ rfl
     refine Tops_yes rfl rfl (congrArg (fun b => some (Value.bool b)) hg4) (OpT_move rfl rfl rfl rfl) ?_
     rintro _ rfl
     refine Tops_yes rfl rfl (congrArg (fun b => some (Value.bool b)) hg4) (OpT_bin rfl rfl rfl rfl rfl (bin_sub_u64 (a := r1.Len) (b := np2))) ?_
     rintro _ rfl
     refine Tops_yes rfl rfl (congrArg (fun b => some (Value.bool b)) hg4) (OpT_bin rfl rfl rfl rfl rfl (bin_leq_u64 (a := atp1 - r1.At) (b := r1.Len - np2))) ?_
     rintro _ rfl
     refine Tops_step rfl (OpT_pickT rfl rfl rfl (congrArg (fun b => some (Value.bool b)) hg4) rfl) ?_
     refine Tops_nil ?_
     refine Tk_wkS (fr' := [(0, some (.pointer (some ⟨b_m, 0, none⟩))), (1, some (vU64 atp1)), (2, some (vU64 np2)), (8, some (vI i1)), (9, some (.pointer (some ⟨b1, 0, none⟩))), (50, some (vB (decide ((atp1 - r1.At) ≤ (r1.Len - np2)))))]) (own' := [some (cellsR b_m 76 [vm1, vm2]), some (rowsX u8S false vm2 vsm1 m.B none), some (cellsR b1 38 [vU64 r1.At, vU64 r1.Len])]) (shr' := [Fact.sl RegionS vm1 m.L]) [0, 1, 2, 8, 9, 50] [0, 1, 2] [0] rfl rfl rfl rfl ?_
     rcases Bool.eq_false_or_eq_true (decide ((atp1 - r1.At) ≤ (r1.Len - np2))) with hg5 | hg5
     ·replace h := br_t hg5 h
      refine Tk_condT (congrArg (fun b => some (Value.bool b)) hg5) ?_
      refine Tk_seq ?_
      refine Tk_drawT (by kernel_rfl) ?_
      refine TA_tb [0, 0, 0, 4, 14, 30, 1, 127] (by kernel_rfl) fun htb => ?_
      refine TA_wkS (fr' := [(1, some (vU64 atp1)), (8, some (vI i1)), (9, some (.pointer (some ⟨b1, 0, none⟩)))]) (own' := [some (cellsR b_m 76 [vm1, vm2]), some (rowsX u8S false vm2 vsm1 m.B none), some (cellsR b1 38 [vU64 r1.At, vU64 r1.Len])]) (shr' := [Fact.sl RegionS vm1 m.L]) [1, 8, 9] [0, 1, 2] [0] rfl rfl rfl rfl ?_
      refine TA_seg (lo := 0) (hi := 7) htb rfl rfl (by kernel_rfl) (fun c L a w => Sat c ⟨[(1, some (vU64 atp1)), (8, some (vI i1)), (9, some (.pointer (some ⟨b1, 0, none⟩))), (51, bif L 0 then some (vI i1) else none), (52, bif L 1 then some (vU64 atp1) else none), (53, bif L 2 then some (.pointer (some ⟨b1, 0, none⟩)) else none), (54, bif L 3 then some (vU64 r1.At) else none), (55, bif L 4 then some (vU64 (atp1 - r1.At)) else none), (56, bif L 5 then some (vI (i64 (atp1 - r1.At))) else none), (6, bif L 6 then some (vI i1) else none)], [(some (cellsR b_m 76 [vm1, vm2]) : Option Res), (some (rowsX u8S false vm2 vsm1 m.B none) : Option Res), (some (cellsR b1 38 [vU64 r1.At, vU64 r1.Len]) : Option Res)], [Fact.sl RegionS vm1 m.L]⟩ a w) [([], [6]), ([], [4, 5]), ([], [3, 4, 5]), ([2], [4, 5]), ([1, 2, 3], [5]), ([1, 2, 3, 4], []), ([0], [])] rfl (by kernel_rfl) ?_ (steps_cons ?_ (steps_cons ?_ (steps_cons ?_ (steps_cons ?_ (steps_cons ?_ (steps_cons ?_ (steps_cons ?_ (steps_nil)))))))) ?_
      ·intro a w hs
       exact hs.startF [51, 52, 53, 54, 55, 56, 6] [0, 1, 2] [0] rfl rfl rfl rfl
      ·intro L a w hv K Q hK
       have hs := hv
       refine wpOp_go rfl rfl hs (OpT_move rfl rfl rfl rfl) ?_
       rintro _ rfl a' w' hs'
       exact hK a' w' (hs'.putF (i := 3) rfl [0, 1, 2] [0] rfl rfl rfl rfl)
      ·intro L a w hv K Q hK
       have hs := hv
       refine wpOp_go rfl rfl hs (OpT_move rfl rfl rfl rfl) ?_
       rintro _ rfl a' w' hs'
       exact hK a' w' (hs'.putF (i := 4) rfl [0, 1, 2] [0] rfl rfl rfl rfl)
      ·intro L a w hv K Q hK
       have hs := hv
       refine wpOp_go rfl rfl hs (OpT_fieldC rfl rfl rfl rfl fldF38x0) ?_
       rintro _ rfl a' w' hs'
       exact hK a' w' (hs'.putF (i := 5) rfl [0, 1, 2] [0] rfl rfl rfl rfl)
      ·intro L a w hv K Q hK
       have hs := hv
       refine wpOp_go rfl rfl hs (OpT_loadC rfl rfl rfl rfl tyF23 (i := 2) rfl rfl) ?_
       rintro _ rfl a' w' hs'
       exact hK a' w' (hs'.putF (i := 6) rfl [0, 1, 2] [0] rfl rfl rfl rfl)
      ·intro L a w hv K Q hK
       have hs := hv
       refine wpOp_go rfl rfl hs (OpT_bin rfl rfl rfl rfl rfl (bin_sub_u64 (a := atp1) (b := r1.At))) ?_
       rintro _ rfl a' w' hs'
       exact hK a' w' (hs'.putF (i := 7) rfl [0, 1, 2] [0] rfl rfl rfl rfl)
      ·intro L a w hv K Q hK
       have hs := hv
       refine wpOp_go rfl rfl hs (OpT_cnv rfl rfl rfl rfl (cnv_u64_i (n := atp1 - r1.At) Try.underlying23 Try.underlying3)) ?_
       rintro _ rfl a' w' hs'
       exact hK a' w' (hs'.putF (i := 8) rfl [0, 1, 2] [0] rfl rfl rfl rfl)
      ·intro L a w hv K Q hK
       have hs := hv
       refine wpOp_go rfl rfl hs (OpT_assign rfl rfl rfl rfl) ?_
       rintro _ rfl a' w' hs'
       exact hK a' w' (hs'.putF (i := 9) rfl [0, 1, 2] [0] rfl rfl rfl rfl)
      ·intro L a w hL hv
       rw [allTrue hL] at hv
       have hs := hv
       refine (show TA _ _ _ 7 ⟨[(56, some (vI (i64 (atp1 - r1.At)))), (6, some (vI i1))], [some (cellsR b_m 76 [vm1, vm2]), some (rowsX u8S false vm2 vsm1 m.B none)], [Fact.sl RegionS vm1 m.L]⟩ from ?_) a w (hs.wkS [56, 6] [0, 1] [0] rfl rfl rfl rfl)
       clear hs hL
       refine TA_step htb (by kernel_rfl) rfl rfl (OpT_assign rfl rfl rfl rfl) ?_
       refine TA_end rfl ?_
       refine Tk_wkS (fr' := [(6, some (vI i1)), (7, some (vI (i64 (atp1 - r1.At))))]) (own' := [some (cellsR b_m 76 [vm1, vm2]), some (rowsX u8S false vm2 vsm1 m.B none)]) (shr' := [Fact.sl RegionS vm1 m.L]) [6, 7] [0, 1] [0] rfl rfl rfl rfl ?_
       obtain rfl := Option.some.inj h
       exact Tk_retV rfl rfl (resA (vs := [vI i1, vI (i64 (atp1 - r1.At))]) rfl ⟨rfl, rfl, trivial⟩) [0, 1] [] rfl rfl rfl ⟨rfl, rfl, rfl⟩
     ·replace h := br_f hg5 h
      refine Tk_condF (congrArg (fun b => some (Value.bool b)) hg5) ?_
      refine Tk_skip ?_
      refine Tk_blk ?_
      refine Tk_region ?_
      refine Tops_step rfl (OpT_move rfl rfl rfl rfl) ?_
      refine Tops_step rfl (OpT_bin rfl rfl rfl rfl rfl (bin_add_i (a := i1) (b := (1 : Int)))) ?_
      refine Tops_step rfl (OpT_assign rfl rfl rfl rfl) ?_
      refine Tops_nil ?_
      refine Tk_wkS (fr' := [(0, some (.pointer (some ⟨b_m, 0, none⟩))), (1, some (vU64 atp1)), (2, some (vU64 np2)), (8, some (vI (wi (i1 + (1 : Int)))))]) (own' := [some (cellsR b_m 76 [vm1, vm2]), some (rowsX u8S false vm2 vsm1 m.B none)]) (shr' := [Fact.sl RegionS vm1 m.L]) [0, 1, 2, 8] [0, 1] [0] rfl rfl rfl rfl ?_
      exact Tk_backS (wi (i1 + (1 : Int))) h [0, 1, 2, 8] [0, 1] [0] rfl rfl rfl rfl rfl
    ·replace h := br_f hg4 h
     refine Tops_no rfl rfl (congrArg (fun b => some (Value.bool b)) hg4) rfl rfl ?_
     refine Tops_no rfl rfl (congrArg (fun b => some (Value.bool b)) hg4) rfl rfl ?_
     refine Tops_no rfl rfl (congrArg (fun b => some (Value.bool b)) hg4) rfl rfl ?_
     refine Tops_no rfl rfl (congrArg (fun b => some (Value.bool b)) hg4) rfl rfl ?_
     refine Tops_no rfl rfl (congrArg (fun b => some (Value.bool b)) hg4) rfl rfl ?_
     refine Tops_no rfl rfl (congrArg (fun b => some (Value.bool b)) hg4) rfl rfl ?_
     refine Tops_no rfl rfl (congrArg (fun b => some (Value.bool b)) hg4) rfl rfl ?_
     refine Tops_no rfl rfl (congrArg (fun b => some (Value.bool b)) hg4) rfl rfl ?_
     refine Tops_no rfl rfl (congrArg (fun b => some (Value.bool b)) hg4) rfl rfl ?_
     refine Tops_step rfl (OpT_pickF rfl rfl rfl (congrArg (fun b => some (Value.bool b)) hg4) rfl) ?_
     refine Tops_nil ?_
     refine Tk_wkS (fr' := [(0, some (.pointer (some ⟨b_m, 0, none⟩))), (1, some (vU64 atp1)), (2, some (vU64 np2)), (8, some (vI i1)), (9, some (.pointer (some ⟨b1, 0, none⟩))), (50, some (vB false))]) (own' := [some (cellsR b_m 76 [vm1, vm2]), some (rowsX u8S false vm2 vsm1 m.B none), some (cellsR b1 38 [vU64 r1.At, vU64 r1.Len])]) (shr' := [Fact.sl RegionS vm1 m.L]) [0, 1, 2, 8, 9, 50] [0, 1, 2] [0] rfl rfl rfl rfl ?_
     refine Tk_condF rfl ?_
     refine Tk_skip ?_
     refine Tk_blk ?_
     refine Tk_region ?_
     refine Tops_step rfl (OpT_move rfl rfl rfl rfl) ?_
     refine Tops_step rfl (OpT_bin rfl rfl rfl rfl rfl (bin_add_i (a := i1) (b := (1 : Int)))) ?_
     refine Tops_step rfl (OpT_assign rfl rfl rfl rfl) ?_
     refine Tops_nil ?_
     refine Tk_wkS (fr' := [(0, some (.pointer (some ⟨b_m, 0, none⟩))), (1, some (vU64 atp1)), (2, some (vU64 np2)), (8, some (vI (wi (i1 + (1 : Int)))))]) (own' := [some (cellsR b_m 76 [vm1, vm2]), some (rowsX u8S false vm2 vsm1 m.B none)]) (shr' := [Fact.sl RegionS vm1 m.L]) [0, 1, 2, 8] [0, 1] [0] rfl rfl rfl rfl ?_
     exact Tk_backS (wi (i1 + (1 : Int))) h [0, 1, 2, 8] [0, 1] [0] rfl rfl rfl rfl rfl
   ·replace h := br_f hg3 h
    refine Tops_no rfl rfl (congrArg (fun b => some (Value.bool b)) hg3) rfl rfl ?_
    refine Tops_no rfl rfl (congrArg (fun b => some (Value.bool b)) hg3) rfl rfl ?_
    refine Tops_no rfl rfl (congrArg (fun b => some (Value.bool b)) hg3) rfl rfl ?_
    refine Tops_no rfl rfl (congrArg (fun b => some (Value.bool b)) hg3) rfl rfl ?_
    refine Tops_step rfl (OpT_pickF rfl rfl rfl (congrArg (fun b => some (Value.bool b)) hg3) rfl) ?_
    refine Tops_step rfl (OpT_move rfl rfl rfl rfl) ?_
    refine Tops_no rfl rfl rfl rfl rfl ?_
    refine Tops_no rfl rfl rfl rfl rfl ?_
    refine Tops_no rfl rfl rfl rfl rfl ?_
    refine Tops_no rfl rfl rfl rfl rfl ?_
    refine Tops_no rfl rfl rfl rfl rfl ?_
    refine Tops_no rfl rfl rfl rfl rfl ?_
    refine Tops_no rfl rfl rfl rfl rfl ?_
    refine Tops_no rfl rfl rfl rfl rfl ?_
    refine Tops_no rfl rfl rfl rfl rfl ?_
    refine Tops_step rfl (OpT_pickF rfl rfl rfl rfl rfl) ?_
    refine Tops_nil ?_
    refine Tk_wkS (fr' := [(0, some (.pointer (some ⟨b_m, 0, none⟩))), (1, some (vU64 atp1)), (2, some (vU64 np2)), (8, some (vI i1)), (9, some (.pointer (some ⟨b1, 0, none⟩))), (50, some (vB false))]) (own' := [some (cellsR b_m 76 [vm1, vm2]), some (rowsX u8S false vm2 vsm1 m.B none), some (cellsR b1 38 [vU64 r1.At, vU64 r1.Len])]) (shr' := [Fact.sl RegionS vm1 m.L]) [0, 1, 2, 8, 9, 50] [0, 1, 2] [0] rfl rfl rfl rfl ?_
    refine Tk_condF rfl ?_
    refine Tk_skip ?_
    refine Tk_blk ?_
    refine Tk_region ?_
    refine Tops_step rfl (OpT_move rfl rfl rfl rfl) ?_
    refine Tops_step rfl (OpT_bin rfl rfl rfl rfl rfl (bin_add_i (a := i1) (b := (1 : Int)))) ?_
    refine Tops_step rfl (OpT_assign rfl rfl rfl rfl) ?_
    refine Tops_nil ?_
    refine Tk_wkS (fr' := [(0, some (.pointer (some ⟨b_m, 0, none⟩))), (1, some (vU64 atp1)), (2, some (vU64 np2)), (8, some (vI (wi (i1 + (1 : Int)))))]) (own' := [some (cellsR b_m 76 [vm1, vm2]), some (rowsX u8S false vm2 vsm1 m.B none)]) (shr' := [Fact.sl RegionS vm1 m.L]) [0, 1, 2, 8] [0, 1] [0] rfl rfl rfl rfl ?_
    exact Tk_backS (wi (i1 + (1 : Int))) h [0, 1, 2, 8] [0, 1] [0] rfl rfl rfl rfl rfl
  ·replace h := br_f hg2 h
   refine Tops_no rfl rfl (congrArg (fun b => some (Value.bool b)) hg2) rfl rfl ?_
   refine Tops_no rfl rfl (congrArg (fun b => some (Value.bool b)) hg2) rfl rfl ?_
   refine Tops_no rfl rfl (congrArg (fun b => some (Value.bool b)) hg2) rfl rfl ?_
   refine Tops_no rfl rfl (congrArg (fun b => some (Value.bool b)) hg2) rfl rfl ?_
   refine Tops_step rfl (OpT_pickF rfl rfl rfl (congrArg (fun b => some (Value.bool b)) hg2) rfl) ?_
   refine Tops_step rfl (OpT_move rfl rfl rfl rfl) ?_
   refine Tops_no rfl rfl rfl rfl rfl ?_
   refine Tops_no rfl rfl rfl rfl rfl ?_
   refine Tops_no rfl rfl rfl rfl rfl ?_
   refine Tops_no rfl rfl rfl rfl rfl ?_
   refine Tops_step rfl (OpT_pickF rfl rfl rfl rfl rfl) ?_
   refine Tops_step rfl (OpT_move rfl rfl rfl rfl) ?_
   refine Tops_no rfl rfl rfl rfl rfl ?_
   refine Tops_no rfl rfl rfl rfl rfl ?_
   refine Tops_no rfl rfl rfl rfl rfl ?_
   refine Tops_no rfl rfl rfl rfl rfl ?_
   refine Tops_no rfl rfl rfl rfl rfl ?_
   refine Tops_no rfl rfl rfl rfl rfl ?_
   refine Tops_no rfl rfl rfl rfl rfl ?_
   refine Tops_no rfl rfl rfl rfl rfl ?_
   refine Tops_no rfl rfl rfl rfl rfl ?_
   refine Tops_step rfl (OpT_pickF rfl rfl rfl rfl rfl) ?_
   refine Tops_nil ?_
   refine Tk_wkS (fr' := [(0, some (.pointer (some ⟨b_m, 0, none⟩))), (1, some (vU64 atp1)), (2, some (vU64 np2)), (8, some (vI i1)), (9, some (.pointer (some ⟨b1, 0, none⟩))), (50, some (vB false))]) (own' := [some (cellsR b_m 76 [vm1, vm2]), some (rowsX u8S false vm2 vsm1 m.B none), some (cellsR b1 38 [vU64 r1.At, vU64 r1.Len])]) (shr' := [Fact.sl RegionS vm1 m.L]) [0, 1, 2, 8, 9, 50] [0, 1, 2] [0] rfl rfl rfl rfl ?_
   refine Tk_condF rfl ?_
   refine Tk_skip ?_
   refine Tk_blk ?_
   refine Tk_region ?_
   refine Tops_step rfl (OpT_move rfl rfl rfl rfl) ?_
   refine Tops_step rfl (OpT_bin rfl rfl rfl rfl rfl (bin_add_i (a := i1) (b := (1 : Int)))) ?_
   refine Tops_step rfl (OpT_assign rfl rfl rfl rfl) ?_
   refine Tops_nil ?_
   refine Tk_wkS (fr' := [(0, some (.pointer (some ⟨b_m, 0, none⟩))), (1, some (vU64 atp1)), (2, some (vU64 np2)), (8, some (vI (wi (i1 + (1 : Int)))))]) (own' := [some (cellsR b_m 76 [vm1, vm2]), some (rowsX u8S false vm2 vsm1 m.B none)]) (shr' := [Fact.sl RegionS vm1 m.L]) [0, 1, 2, 8] [0, 1] [0] rfl rfl rfl rfl ?_
   exact Tk_backS (wi (i1 + (1 : Int))) h [0, 1, 2, 8] [0, 1] [0] rfl rfl rfl rfl rfl
 ·replace h := br_f hg1 h
  refine Tk_condF (congrArg (fun b => some (Value.bool b)) hg1) ?_
  refine Tk_exit _ rfl ?_
  refine Tk_seq ?_
  refine Tk_region ?_
  refine Tops_step rfl (OpT_assign rfl rfl rfl rfl) ?_
  refine Tops_step rfl (OpT_assign rfl rfl rfl rfl) ?_
  refine Tops_nil ?_
  refine Tk_wkS (fr' := [(6, some (vI ((-1) : Int))), (7, some (vI (0 : Int)))]) (own' := [some (cellsR b_m 76 [vm1, vm2]), some (rowsX u8S false vm2 vsm1 m.B none)]) (shr' := [Fact.sl RegionS vm1 m.L]) [6, 7] [0, 1] [0] rfl rfl rfl rfl ?_
  obtain rfl := Option.some.inj h
  exact Tk_retV rfl rfl (resA (vs := [vI ((-1) : Int), vI (0 : Int)]) rfl ⟨rfl, rfl, trivial⟩) [0, 1] [] rfl rfl rfl ⟨rfl, rfl, rfl⟩

set_option maxRecDepth 100000 in
set_option maxHeartbeats 4000000 in
theorem w_ref_Mem_Has02 {m : dumbwaiterref02_Mem} {atp1 : UInt64} {np2 : UInt64} {b_m : Nat} {vm1 : Value} {vm2 : Value} {vsm1 : List Value} {r : Bool} (h : ref_Mem_Has02 m atp1 np2 = some r) :
  Ctr Try.prog 47 #[.pointer (some ⟨b_m, 0, none⟩), vU64 atp1, vU64 np2] [(cellsR b_m 76 [vm1, vm2]), (rowsX u8S false vm2 vsm1 m.B none)] [Fact.sl RegionS vm1 m.L]
   (fun rv own shr => rv = vB r ∧ own = [(cellsR b_m 76 [vm1, vm2]), (rowsX u8S false vm2 vsm1 m.B none)] ∧ shr = []) := by
 unfold ref_Mem_Has02 at h
 refine Ctr.mk (args := [.pointer (some ⟨b_m, 0, none⟩), vU64 atp1, vU64 np2]) Try.func47 rfl rfl (fun R0 w0 B => ?_)
 refine Tk_seq ?_
 refine Tk_region ?_
 refine Tops_step rfl (OpT_assign rfl rfl rfl rfl) ?_
 refine Tops_nil ?_
 refine Tk_wkS (fr' := [(0, some (.pointer (some ⟨b_m, 0, none⟩))), (1, some (vU64 atp1)), (2, some (vU64 np2))]) (own' := [some (cellsR b_m 76 [vm1, vm2]), some (rowsX u8S false vm2 vsm1 m.B none)]) (shr' := [Fact.sl RegionS vm1 m.L]) [0, 1, 2] [0, 1] [0] rfl rfl rfl rfl ?_
 refine Tk_seq ?_
 refine Tk_region ?_
 refine Tops_step rfl (OpT_move rfl rfl rfl rfl) ?_
 refine Tops_step rfl (OpT_move rfl rfl rfl rfl) ?_
 refine Tops_step rfl (OpT_move rfl rfl rfl rfl) ?_
 obtain ⟨find1, hx1, h⟩ := ob_e h
 refine Tops_exP rfl (OpT_callP [2, 3] (w_ref_Mem_find02 hx1) [0, 1] [0] rfl rfl rfl rfl rfl callee53 rfl rfl rfl rfl rfl) ?_
 rintro _ ⟨_, _, _, ⟨rfl, rfl, rfl⟩, rfl⟩
 refine Tops_step rfl (OpT_move rfl rfl rfl rfl) ?_
 refine Tops_step rfl (OpT_extract rfl rfl rfl rfl rfl) ?_
 refine Tops_step rfl (OpT_extract rfl rfl rfl rfl rfl) ?_
 refine Tops_step rfl (OpT_assign rfl rfl rfl rfl) ?_
 refine Tops_step rfl (OpT_assign rfl rfl rfl rfl) ?_
 refine Tops_nil ?_
 refine Tk_wkS (fr' := [(7, some (vI find1.1))]) (own' := [some (cellsR b_m 76 [vm1, vm2]), some (rowsX u8S false vm2 vsm1 m.B none)]) (shr' := [Fact.sl RegionS vm1 m.L]) [7] [0, 1] [0] rfl rfl rfl rfl ?_
 refine Tk_seq ?_
 refine Tk_region ?_
 refine Tops_step rfl (OpT_move rfl rfl rfl rfl) ?_
 refine Tops_step rfl (OpT_bin rfl rfl rfl rfl rfl (bin_geq_i (a := find1.1) (b := (0 : Int)))) ?_
 refine Tops_step rfl (OpT_assign rfl rfl rfl rfl) ?_
 refine Tops_nil ?_
 refine Tk_wkS (fr' := [(6, some (vB (decide (find1.1 ≥ (0 : Int)))))]) (own' := [some (cellsR b_m 76 [vm1, vm2]), some (rowsX u8S false vm2 vsm1 m.B none)]) (shr' := [Fact.sl RegionS vm1 m.L]) [6] [0, 1] [0] rfl rfl rfl rfl ?_
 obtain rfl := Option.some.inj h
 exact Tk_retV rfl rfl (resA (vs := [vB (decide (find1.1 ≥ (0 : Int)))]) rfl ⟨rfl, trivial⟩) [0, 1] [] rfl rfl rfl ⟨rfl, rfl, rfl⟩

set_option maxRecDepth 100000 in
set_option maxHeartbeats 4000000 in
theorem w_ref_In05 {m : dumbwaiterref02_Mem} {l : List Seg} {b_m : Nat} {vm1 : Value} {vm2 : Value} {vsm1 : List Value} {vl1 : Value} {r : Int} (h : ref_In05 m l = some r) :
  Ctr Try.prog 27 #[.pointer (some ⟨b_m, 0, none⟩), vl1] [(cellsR b_m 76 [vm1, vm2]), (rowsX u8S false vm2 vsm1 m.B none)] [Fact.sl RegionS vm1 m.L, Fact.sl SegS vl1 l]
   (fun rv own shr => rv = vI r ∧ own = [(cellsR b_m 76 [vm1, vm2]), (rowsX u8S false vm2 vsm1 m.B none)] ∧ shr = []) := by
 unfold ref_In05 at h
 refine Ctr.mk (args := [.pointer (some ⟨b_m, 0, none⟩), vl1]) Try.func27 rfl rfl (fun R0 w0 B => ?_)
 refine Tk_seq ?_
 refine Tk_region ?_
 refine Tops_step rfl (OpT_assign rfl rfl rfl rfl) ?_
 refine Tops_nil ?_
 refine Tk_wkS (fr' := [(0, some (.pointer (some ⟨b_m, 0, none⟩))), (1, some (vl1))]) (own' := [some (cellsR b_m 76 [vm1, vm2]), some (rowsX u8S false vm2 vsm1 m.B none)]) (shr' := [Fact.sl RegionS vm1 m.L, Fact.sl SegS vl1 l]) [0, 1] [0, 1] [0, 1] rfl rfl rfl rfl ?_
 refine Tk_seq ?_
 refine Tk_seq ?_
 refine Tk_region ?_
 refine Tops_step rfl (OpT_move rfl rfl rfl rfl) ?_
 refine Tops_step rfl (OpT_ptrNil rfl rfl rfl (.inl rfl) rfl rfl ptrF58) ?_
 refine Tops_nil ?_
 refine Tk_wkS (fr' := [(0, some (.pointer (some ⟨b_m, 0, none⟩))), (1, some (vl1)), (8, some (vB false))]) (own' := [some (cellsR b_m 76 [vm1, vm2]), some (rowsX u8S false vm2 vsm1 m.B none)]) (shr' := [Fact.sl RegionS vm1 m.L, Fact.sl SegS vl1 l]) [0, 1, 8] [0, 1] [0, 1] rfl rfl rfl rfl ?_
 refine Tk_condF rfl ?_
 refine Tk_skip ?_
 refine Tk_seq ?_
 refine Tk_region ?_
 refine Tops_step rfl (OpT_move rfl rfl rfl rfl) ?_
 obtain ⟨check1, hx1, h⟩ := ob_e h
 refine Tops_exP rfl (OpT_call (w_ref_Check05 hx1) [] [1] rfl rfl rfl rfl rfl callee26 rfl rfl rfl rfl) ?_
 rintro _ ⟨_, _, _, ⟨rfl, rfl, rfl⟩, rfl⟩
 refine Tops_step rfl (OpT_assign rfl rfl rfl rfl) ?_
 refine Tops_nil ?_
 refine Tk_wkS (fr' := [(0, some (.pointer (some ⟨b_m, 0, none⟩))), (1, some (vl1)), (5, some (vI check1))]) (own' := [some (cellsR b_m 76 [vm1, vm2]), some (rowsX u8S false vm2 vsm1 m.B none)]) (shr' := [Fact.sl RegionS vm1 m.L, Fact.sl SegS vl1 l]) [0, 1, 5] [0, 1] [0, 1] rfl rfl rfl rfl ?_
 refine Tk_seq ?_
 refine Tk_seq ?_
 refine Tk_region ?_
 refine Tops_step rfl (OpT_assign rfl rfl rfl rfl) ?_
 refine Tops_nil ?_
 refine Tk_block ?_
 refine Tk_loopS (σ := Int × Int) [0, 1, 5, 6] [0, 1] [0, 1] (fun s => ⟨[(0, some (.pointer (some ⟨b_m, 0, none⟩))), (1, some (vl1)), (5, some (vI s.1)), (6, some (vI s.2))], [some (cellsR b_m 76 [vm1, vm2]), some (rowsX u8S false vm2 vsm1 m.B none)], [Fact.sl RegionS vm1 m.L, Fact.sl SegS vl1 l]⟩) (fun nf s => ref_In05L1 m l nf s.1 s.2 = some r) fuel (check1, (0 : Int)) h rfl rfl rfl rfl rfl (fun s h => by cases h) ?_
 rintro nf ⟨e1, i1⟩ h
 replace h : ref_In05L1B m l (ref_In05L1 m l nf) e1 i1 = some r := h
 unfold ref_In05L1B at h
 refine Tk_seq ?_
 refine Tk_seq ?_
 refine Tk_region ?_
 refine Tops_step rfl (OpT_move rfl rfl rfl rfl) ?_
 refine Tops_step rfl (OpT_move rfl rfl rfl rfl) ?_
 refine Tops_step rfl (OpT_lenS rfl rfl rfl rfl Try.underlying22 (i := 1) rfl) ?_
 refine Tops_step rfl (OpT_bin rfl rfl rfl rfl rfl (bin_lss_i (a := i1) (b := len l))) ?_
 refine Tops_step rfl (OpT_move rfl rfl rfl rfl) ?_
 rcases Bool.eq_false_or_eq_true (decide (i1 < (len l))) with hg1 | hg1
 ·replace h := br_t hg1 h
  refine Tops_yes rfl rfl (congrArg (fun b => some (Value.bool b)) hg1) (OpT_move rfl rfl rfl rfl) ?_
  rintro _ rfl
  refine Tops_yes rfl rfl (congrArg (fun b => some (Value.bool b)) hg1) (OpT_bin rfl rfl rfl rfl rfl (bin_eql_i (a := e1) (b := (0 : Int)))) ?_
  rintro _ rfl
  refine Tops_step rfl (OpT_pickT rfl rfl rfl (congrArg (fun b => some (Value.bool b)) hg1) rfl) ?_
  refine Tops_nil ?_
  refine Tk_wkS (fr' := [(0, some (.pointer (some ⟨b_m, 0, none⟩))), (1, some (vl1)), (5, some (vI e1)), (6, some (vI i1)), (18, some (vB (e1 == (0 : Int))))]) (own' := [some (cellsR b_m 76 [vm1, vm2]), some (rowsX u8S false vm2 vsm1 m.B none)]) (shr' := [Fact.sl RegionS vm1 m.L, Fact.sl SegS vl1 l]) [0, 1, 5, 6, 18] [0, 1] [0, 1] rfl rfl rfl rfl ?_
  rcases Bool.eq_false_or_eq_true (e1 == (0 : Int)) with hg2 | hg2
  ·replace h := br_t hg2 h
   refine Tk_condT (congrArg (fun b => some (Value.bool b)) hg2) ?_
   refine Tk_skip ?_
   refine Tk_seq ?_
   refine Tk_block ?_
   refine Tk_seq ?_
   refine Tk_drawT (by kernel_rfl) ?_
   refine TA_tb [0, 0, 0, 6, 14, 30, 0, 0, 192, 448, 960, 1984, 4095, 8191] (by kernel_rfl) fun htb => ?_
   refine TA_wkS (fr' := [(0, some (.pointer (some ⟨b_m, 0, none⟩))), (1, some (vl1)), (5, some (vI e1)), (6, some (vI i1))]) (own' := [some (cellsR b_m 76 [vm1, vm2]), some (rowsX u8S false vm2 vsm1 m.B none)]) (shr' := [Fact.sl RegionS vm1 m.L, Fact.sl SegS vl1 l]) [0, 1, 5, 6] [0, 1] [0, 1] rfl rfl rfl rfl ?_
   obtain ⟨s1, hx2, h⟩ := ob_e h
   obtain ⟨s2, hx3, h⟩ := ob_e h
   refine TA_seg (lo := 0) (hi := 12) htb rfl rfl (by kernel_rfl) (fun c L a w => ∃ (p1 : Value), ∃ (p2 : Value), ∃ (p3 : Value), ∃ (p4 : Value), Sat c ⟨[(0, some (.pointer (some ⟨b_m, 0, none⟩))), (1, some (vl1)), (5, some (vI e1)), (6, some (vI i1)), (21, bif L 0 then some (.pointer (some ⟨b_m, 0, none⟩)) else none), (22, bif L 1 then some (vl1) else none), (23, bif L 2 then some (vI i1) else none), (24, bif L 3 then some (p1) else none), (25, bif L 4 then some (p2) else none), (26, bif L 5 then some (vU64 s1.At) else none), (27, bif L 6 then some (vl1) else none), (28, bif L 7 then some (vI i1) else none), (29, bif L 8 then some (p3) else none), (30, bif L 9 then some (p4) else none), (31, bif L 10 then some (vU32 s2.Len) else none), (32, bif L 11 then some (vU64 s2.Len.toUInt64) else none)], [(some (cellsR b_m 76 [vm1, vm2]) : Option Res), (some (rowsX u8S false vm2 vsm1 m.B none) : Option Res)], [Fact.sl RegionS vm1 m.L, Fact.sl SegS vl1 l, (bif L 3 then Fact.pt SegS p1 s1 else Fact.tt), (bif L 4 then Fact.pt u64S p2 s1.At else Fact.tt), (bif L 8 then Fact.pt SegS p3 s2 else Fact.tt), (bif L 9 then Fact.pt u32S p4 s2.Len else Fact.tt)]⟩ a w) [([], []), ([], [3, 4, 5]), ([], [3, 4, 5]), ([1, 2], [4, 5]), ([1, 2, 3], [5]), ([1, 2, 3, 4], []), ([], [8, 9, 10, 11]), ([], [8, 9, 10, 11]), ([6, 7], [9, 10, 11]), ([6, 7, 8], [10, 11]), ([6, 7, 8, 9], [11]), ([6, 7, 8, 9, 10], [])] rfl (by kernel_rfl) ?_ (steps_cons ?_ (steps_cons ?_ (steps_cons ?_ (steps_cons ?_ (steps_cons ?_ (steps_cons ?_ (steps_cons ?_ (steps_cons ?_ (steps_cons ?_ (steps_cons ?_ (steps_cons ?_ (steps_cons ?_ (steps_nil))))))))))))) ?_
   ·intro a w hs
    exact ⟨undef, undef, undef, undef, hs.startF [21, 22, 23, 24, 25, 26, 27, 28, 29, 30, 31, 32] [0, 1] [0, 1, 2, 3, 4, 5] rfl rfl rfl rfl⟩
   ·intro L a w hv K Q hK
    obtain ⟨p1, p2, p3, p4, hs⟩ := hv
    refine wpOp_go rfl rfl hs (OpT_move rfl rfl rfl rfl) ?_
    rintro _ rfl a' w' hs'
    exact hK a' w' ⟨p1, p2, p3, p4, hs'.putF (i := 4) rfl [0, 1] [0, 1, 2, 3, 4, 5] rfl rfl rfl rfl⟩
   ·intro L a w hv K Q hK
    obtain ⟨p1, p2, p3, p4, hs⟩ := hv
    refine wpOp_go rfl rfl hs (OpT_move rfl rfl rfl rfl) ?_
    rintro _ rfl a' w' hs'
    exact hK a' w' ⟨p1, p2, p3, p4, hs'.putF (i := 5) rfl [0, 1] [0, 1, 2, 3, 4, 5] rfl rfl rfl rfl⟩
   ·intro L a w hv K Q hK
    obtain ⟨p1, p2, p3, p4, hs⟩ := hv
    refine wpOp_go rfl rfl hs (OpT_move rfl rfl rfl rfl) ?_
    rintro _ rfl a' w' hs'
    exact hK a' w' ⟨p1, p2, p3, p4, hs'.putF (i := 6) rfl [0, 1] [0, 1, 2, 3, 4, 5] rfl rfl rfl rfl⟩
   ·intro L a w hv K Q hK
    obtain ⟨p1, p2, p3, p4, hs⟩ := hv
    refine wpOp_go rfl rfl hs (OpT_idxS rfl rfl rfl rfl rfl slF22 (i := 1) rfl hx2) ?_
    rintro _ ⟨p1', rfl⟩ a' w' hs'
    exact hK a' w' ⟨p1', p2, p3, p4, hs'.putF (i := 7) rfl [0, 1] [0, 1, 6, 3, 4, 5] rfl rfl rfl rfl⟩
   ·intro L a w hv K Q hK
    obtain ⟨p1, p2, p3, p4, hs⟩ := hv
    refine wpOp_go rfl rfl hs (OpT_fieldP (S' := u64S) (y := s1.At) rfl rfl rfl rfl fldF47x0 (i := 2) rfl (by intro h cs hr; subst hr; rfl)) ?_
    rintro _ ⟨p2', rfl⟩ a' w' hs'
    exact hK a' w' ⟨p1, p2', p3, p4, hs'.putF (i := 8) rfl [0, 1] [0, 1, 2, 6, 4, 5] rfl rfl rfl rfl⟩
   ·intro L a w hv K Q hK
    obtain ⟨p1, p2, p3, p4, hs⟩ := hv
    refine wpOp_go rfl rfl hs (OpT_loadP rfl rfl rfl rfl tyF23 (i := 3) rfl rfl) ?_
    rintro _ rfl a' w' hs'
    exact hK a' w' ⟨p1, p2, p3, p4, hs'.putF (i := 9) rfl [0, 1] [0, 1, 2, 3, 4, 5] rfl rfl rfl rfl⟩
   ·intro L a w hv K Q hK
    obtain ⟨p1, p2, p3, p4, hs⟩ := hv
    refine wpOp_go rfl rfl hs (OpT_move rfl rfl rfl rfl) ?_
    rintro _ rfl a' w' hs'
    exact hK a' w' ⟨p1, p2, p3, p4, hs'.putF (i := 10) rfl [0, 1] [0, 1, 2, 3, 4, 5] rfl rfl rfl rfl⟩
   ·intro L a w hv K Q hK
    obtain ⟨p1, p2, p3, p4, hs⟩ := hv
    refine wpOp_go rfl rfl hs (OpT_move rfl rfl rfl rfl) ?_
    rintro _ rfl a' w' hs'
    exact hK a' w' ⟨p1, p2, p3, p4, hs'.putF (i := 11) rfl [0, 1] [0, 1, 2, 3, 4, 5] rfl rfl rfl rfl⟩
   ·intro L a w hv K Q hK
    obtain ⟨p1, p2, p3, p4, hs⟩ := hv
    refine wpOp_go rfl rfl hs (OpT_idxS rfl rfl rfl rfl rfl slF22 (i := 1) rfl hx3) ?_
    rintro _ ⟨p3', rfl⟩ a' w' hs'
    exact hK a' w' ⟨p1, p2, p3', p4, hs'.putF (i := 12) rfl [0, 1] [0, 1, 2, 3, 6, 5] rfl rfl rfl rfl⟩
   ·intro L a w hv K Q hK
    obtain ⟨p1, p2, p3, p4, hs⟩ := hv
    refine wpOp_go rfl rfl hs (OpT_fieldP (S' := u32S) (y := s2.Len) rfl rfl rfl rfl fldF47x1 (i := 4) rfl (by intro h cs hr; subst hr; rfl)) ?_
    rintro _ ⟨p4', rfl⟩ a' w' hs'
    exact hK a' w' ⟨p1, p2, p3, p4', hs'.putF (i := 13) rfl [0, 1] [0, 1, 2, 3, 4, 6] rfl rfl rfl rfl⟩
   ·intro L a w hv K Q hK
    obtain ⟨p1, p2, p3, p4, hs⟩ := hv
    refine wpOp_go rfl rfl hs (OpT_loadP rfl rfl rfl rfl tyF45 (i := 5) rfl rfl) ?_
    rintro _ rfl a' w' hs'
    exact hK a' w' ⟨p1, p2, p3, p4, hs'.putF (i := 14) rfl [0, 1] [0, 1, 2, 3, 4, 5] rfl rfl rfl rfl⟩
   ·intro L a w hv K Q hK
    obtain ⟨p1, p2, p3, p4, hs⟩ := hv
    refine wpOp_go rfl rfl hs (OpT_cnv rfl rfl rfl rfl (cnv_u32_u64 (n := s2.Len) Try.underlying45 Try.underlying23)) ?_
    rintro _ rfl a' w' hs'
    exact hK a' w' ⟨p1, p2, p3, p4, hs'.putF (i := 15) rfl [0, 1] [0, 1, 2, 3, 4, 5] rfl rfl rfl rfl⟩
   ·intro L a w hL hv
    rw [allTrue hL] at hv
    obtain ⟨p1, p2, p3, p4, hs⟩ := hv
    refine (show TA _ _ _ 12 ⟨[(0, some (.pointer (some ⟨b_m, 0, none⟩))), (1, some (vl1)), (5, some (vI e1)), (6, some (vI i1)), (21, some (.pointer (some ⟨b_m, 0, none⟩))), (26, some (vU64 s1.At)), (32, some (vU64 s2.Len.toUInt64))], [some (cellsR b_m 76 [vm1, vm2]), some (rowsX u8S false vm2 vsm1 m.B none)], [Fact.sl RegionS vm1 m.L, Fact.sl SegS vl1 l]⟩ from ?_) a w (hs.wkS [0, 1, 5, 6, 21, 26, 32] [0, 1] [0, 1] rfl rfl rfl rfl)
    clear hs hL
    obtain ⟨has1, hx4, h⟩ := ob_e h
    refine TA_exP htb (by kernel_rfl) rfl rfl (OpT_callP [2, 3] (w_ref_Mem_Has02 hx4) [0, 1] [0] rfl rfl rfl rfl rfl callee47 rfl rfl rfl rfl rfl) ?_
    rintro _ ⟨_, _, _, ⟨rfl, rfl, rfl⟩, rfl⟩
    refine TA_step htb (by kernel_rfl) rfl rfl (OpT_not rfl rfl rfl rfl) ?_
    refine TA_end rfl ?_
    refine Tk_wkS (fr' := [(0, some (.pointer (some ⟨b_m, 0, none⟩))), (1, some (vl1)), (5, some (vI e1)), (6, some (vI i1)), (34, some (vB (!has1)))]) (own' := [some (cellsR b_m 76 [vm1, vm2]), some (rowsX u8S false vm2 vsm1 m.B none)]) (shr' := [Fact.sl RegionS vm1 m.L, Fact.sl SegS vl1 l]) [0, 1, 5, 6, 34] [0, 1] [0, 1] rfl rfl rfl rfl ?_
    rcases Bool.eq_false_or_eq_true ((!has1)) with hg3 | hg3
    ·replace h := br_t hg3 h
     refine Tk_condT (congrArg (fun b => some (Value.bool b)) hg3) ?_
     refine Tk_region ?_
     refine Tops_step rfl (OpT_assign rfl rfl rfl rfl) ?_
     refine Tops_nil ?_
     refine Tk_wkS (fr' := [(0, some (.pointer (some ⟨b_m, 0, none⟩))), (1, some (vl1)), (5, some (vI (5 : Int))), (6, some (vI i1))]) (own' := [some (cellsR b_m 76 [vm1, vm2]), some (rowsX u8S false vm2 vsm1 m.B none)]) (shr' := [Fact.sl RegionS vm1 m.L, Fact.sl SegS vl1 l]) [0, 1, 5, 6] [0, 1] [0, 1] rfl rfl rfl rfl ?_
     refine Tk_blk ?_
     refine Tk_region ?_
     refine Tops_step rfl (OpT_move rfl rfl rfl rfl) ?_
     refine Tops_step rfl (OpT_bin rfl rfl rfl rfl rfl (bin_add_i (a := i1) (b := (1 : Int)))) ?_
     refine Tops_step rfl (OpT_assign rfl rfl rfl rfl) ?_
     refine Tops_nil ?_
     refine Tk_wkS (fr' := [(0, some (.pointer (some ⟨b_m, 0, none⟩))), (1, some (vl1)), (5, some (vI (5 : Int))), (6, some (vI (wi (i1 + (1 : Int)))))]) (own' := [some (cellsR b_m 76 [vm1, vm2]), some (rowsX u8S false vm2 vsm1 m.B none)]) (shr' := [Fact.sl RegionS vm1 m.L, Fact.sl SegS vl1 l]) [0, 1, 5, 6] [0, 1] [0, 1] rfl rfl rfl rfl ?_
     exact Tk_backS ((5 : Int), wi (i1 + (1 : Int))) h [0, 1, 5, 6] [0, 1] [0, 1] rfl rfl rfl rfl rfl
    ·replace h := br_f hg3 h
     refine Tk_condF (congrArg (fun b => some (Value.bool b)) hg3) ?_
     refine Tk_skip ?_
     refine Tk_blk ?_
     refine Tk_region ?_
     refine Tops_step rfl (OpT_move rfl rfl rfl rfl) ?_
     refine Tops_step rfl (OpT_bin rfl rfl rfl rfl rfl (bin_add_i (a := i1) (b := (1 : Int)))) ?_
     refine Tops_step rfl (OpT_assign rfl rfl rfl rfl) ?_
     refine Tops_nil ?_
     refine Tk_wkS (fr' := [(0, some (.pointer (some ⟨b_m, 0, none⟩))), (1, some (vl1)), (5, some (vI e1)), (6, some (vI (wi (i1 + (1 : Int)))))]) (own' := [some (cellsR b_m 76 [vm1, vm2]), some (rowsX u8S false vm2 vsm1 m.B none)]) (shr' := [Fact.sl RegionS vm1 m.L, Fact.sl SegS vl1 l]) [0, 1, 5, 6] [0, 1] [0, 1] rfl rfl rfl rfl ?_
     exact Tk_backS (e1, wi (i1 + (1 : Int))) h [0, 1, 5, 6] [0, 1] [0, 1] rfl rfl rfl rfl rfl
  ·replace h := br_f hg2 h
   refine Tk_condF (congrArg (fun b => some (Value.bool b)) hg2) ?_
   refine Tk_exit _ rfl ?_
   refine Tk_seq ?_
   refine Tk_region ?_
   refine Tops_step rfl (OpT_move rfl rfl rfl rfl) ?_
   refine Tops_step rfl (OpT_assign rfl rfl rfl rfl) ?_
   refine Tops_nil ?_
   refine Tk_wkS (fr' := [(4, some (vI e1))]) (own' := [some (cellsR b_m 76 [vm1, vm2]), some (rowsX u8S false vm2 vsm1 m.B none)]) (shr' := [Fact.sl RegionS vm1 m.L]) [4] [0, 1] [0] rfl rfl rfl rfl ?_
   obtain rfl := Option.some.inj h
   exact Tk_retV rfl rfl (resA (vs := [vI e1]) rfl ⟨rfl, trivial⟩) [0, 1] [] rfl rfl rfl ⟨rfl, rfl, rfl⟩
 ·replace h := br_f hg1 h
  refine Tops_no rfl rfl (congrArg (fun b => some (Value.bool b)) hg1) rfl rfl ?_
  refine Tops_no rfl rfl (congrArg (fun b => some (Value.bool b)) hg1) rfl rfl ?_
  refine Tops_step rfl (OpT_pickF rfl rfl rfl (congrArg (fun b => some (Value.bool b)) hg1) rfl) ?_
  refine Tops_nil ?_
  refine Tk_wkS (fr' := [(0, some (.pointer (some ⟨b_m, 0, none⟩))), (1, some (vl1)), (5, some (vI e1)), (6, some (vI i1)), (18, some (vB false))]) (own' := [some (cellsR b_m 76 [vm1, vm2]), some (rowsX u8S false vm2 vsm1 m.B none)]) (shr' := [Fact.sl RegionS vm1 m.L, Fact.sl SegS vl1 l]) [0, 1, 5, 6, 18] [0, 1] [0, 1] rfl rfl rfl rfl ?_
  refine Tk_condF rfl ?_
  refine Tk_exit _ rfl ?_
  refine Tk_seq ?_
  refine Tk_region ?_
  refine Tops_step rfl (OpT_move rfl rfl rfl rfl) ?_
  refine Tops_step rfl (OpT_assign rfl rfl rfl rfl) ?_
  refine Tops_nil ?_
  refine Tk_wkS (fr' := [(4, some (vI e1))]) (own' := [some (cellsR b_m 76 [vm1, vm2]), some (rowsX u8S false vm2 vsm1 m.B none)]) (shr' := [Fact.sl RegionS vm1 m.L]) [4] [0, 1] [0] rfl rfl rfl rfl ?_
  obtain rfl := Option.some.inj h
  exact Tk_retV rfl rfl (resA (vs := [vI e1]) rfl ⟨rfl, trivial⟩) [0, 1] [] rfl rfl rfl ⟨rfl, rfl, rfl⟩

set_option maxRecDepth 100000 in
set_option maxHeartbeats 4000000 in
theorem w_ref_Part05 {l : List Seg} {write : Bool} {vl1 : Value} {r : (List Seg)} (h : ref_Part05 l write = some r) :
  Ctr Try.prog 29 #[vl1, vB write] [] [Fact.sl SegS vl1 l]
   (fun rv own shr => ∃ (w1 : Value), rv = w1 ∧ own = [(rowS SegS w1 r)] ∧ shr = []) := by
 unfold ref_Part05 at h
 refine Ctr.mk (args := [vl1, vB write]) Try.func29 rfl rfl (fun R0 w0 B => ?_)
 refine Tk_seq ?_
 refine Tk_region ?_
 refine Tops_step rfl (OpT_assign rfl rfl rfl rfl) ?_
 refine Tops_nil ?_
 refine Tk_wkS (fr' := [(0, some (vl1)), (1, some (vB write))]) (own' := []) (shr' := [Fact.sl SegS vl1 l]) [0, 1] [] [0] rfl rfl rfl rfl ?_
 refine Tk_seq ?_
 refine Tk_region ?_
 refine Tops_step rfl (OpT_assign rfl rfl rfl rfl) ?_
 refine Tops_nil ?_
 refine Tk_seq ?_
 refine Tk_seq ?_
 refine Tk_region ?_
 refine Tops_step rfl (OpT_assign rfl rfl rfl rfl) ?_
 refine Tops_nil ?_
 refine Tk_block ?_
 refine Tk_nilrow SegS ?_
 refine Tk_loopS (σ := (List Seg) × Int × Value) [0, 1, 5, 6] [0] [0] (fun s => ⟨[(0, some (vl1)), (1, some (vB write)), (5, some (s.2.2)), (6, some (vI s.2.1))], [some (rowS SegS s.2.2 s.1)], [Fact.sl SegS vl1 l]⟩) (fun nf s => ref_Part05L1 l write nf s.1 s.2.1 = some r) fuel ([], (0 : Int), (.slice none 0 0)) h rfl rfl rfl rfl rfl (fun s h => by cases h) ?_
 rintro nf ⟨out1, i1, v1⟩ h
 replace h : ref_Part05L1B l write (ref_Part05L1 l write nf) out1 i1 = some r := h
 unfold ref_Part05L1B at h
 refine Tk_seq ?_
 refine Tk_seq ?_
 refine Tk_region ?_
 refine Tops_step rfl (OpT_move rfl rfl rfl rfl) ?_
 refine Tops_step rfl (OpT_move rfl rfl rfl rfl) ?_
 refine Tops_step rfl (OpT_lenS rfl rfl rfl rfl Try.underlying22 (i := 0) rfl) ?_
 refine Tops_step rfl (OpT_bin rfl rfl rfl rfl rfl (bin_lss_i (a := i1) (b := len l))) ?_
 refine Tops_step rfl (OpT_move rfl rfl rfl rfl) ?_
 rcases Bool.eq_false_or_eq_true (decide (i1 < (len l))) with hg1 | hg1
 ·replace h := br_t hg1 h
  refine Tops_yes rfl rfl (congrArg (fun b => some (Value.bool b)) hg1) (OpT_move rfl rfl rfl rfl) ?_
  rintro _ rfl
  obtain ⟨check1, hx1, h⟩ := ob_e h
  refine Tops_yes rfl rfl (congrArg (fun b => some (Value.bool b)) hg1) (OpT_call (w_ref_Check05 hx1) [] [0] rfl rfl rfl rfl rfl callee26 rfl rfl rfl rfl) ?_
  rintro _ ⟨_, _, _, ⟨rfl, rfl, rfl⟩, rfl⟩
  refine Tops_yes rfl rfl (congrArg (fun b => some (Value.bool b)) hg1) (OpT_bin rfl rfl rfl rfl rfl (bin_eql_i (a := check1) (b := (0 : Int)))) ?_
  rintro _ rfl
  refine Tops_step rfl (OpT_pickT rfl rfl rfl (congrArg (fun b => some (Value.bool b)) hg1) rfl) ?_
  refine Tops_nil ?_
  refine Tk_wkS (fr' := [(0, some (vl1)), (1, some (vB write)), (5, some (v1)), (6, some (vI i1)), (15, some (vB (check1 == (0 : Int))))]) (own' := [some (rowS SegS v1 out1)]) (shr' := [Fact.sl SegS vl1 l]) [0, 1, 5, 6, 15] [0] [0] rfl rfl rfl rfl ?_
  rcases Bool.eq_false_or_eq_true (check1 == (0 : Int)) with hg2 | hg2
  ·replace h := br_t hg2 h
   refine Tk_condT (congrArg (fun b => some (Value.bool b)) hg2) ?_
   refine Tk_skip ?_
   refine Tk_seq ?_
   refine Tk_block ?_
   refine Tk_seq ?_
   refine Tk_region ?_
   refine Tops_step rfl (OpT_move rfl rfl rfl rfl) ?_
   refine Tops_step rfl (OpT_move rfl rfl rfl rfl) ?_
   obtain ⟨s1, hx2, h⟩ := ob_e h
   refine Tops_ex rfl (OpT_idxS rfl rfl rfl rfl rfl slF22 (i := 0) rfl hx2) fun p1 => ?_
   refine Tops_ex rfl (OpT_fieldP (S' := bS) (y := s1.Write) rfl rfl rfl rfl fldF47x2 (i := 1) rfl (by intro h cs hr; subst hr; rfl)) fun p2 => ?_
   refine Tops_step rfl (OpT_loadP rfl rfl rfl rfl tyF4 (i := 2) rfl rfl) ?_
   refine Tops_step rfl (OpT_move rfl rfl rfl rfl) ?_
   refine Tops_step rfl (OpT_bin rfl rfl rfl rfl rfl (bin_eql_b (a := s1.Write) (b := write) Try.underlying4)) ?_
   refine Tops_nil ?_
   refine Tk_wkS (fr' := [(0, some (vl1)), (1, some (vB write)), (5, some (v1)), (6, some (vI i1)), (24, some (vB (s1.Write == write)))]) (own' := [some (rowS SegS v1 out1)]) (shr' := [Fact.sl SegS vl1 l]) [0, 1, 5, 6, 24] [0] [0] rfl rfl rfl rfl ?_
   rcases Bool.eq_false_or_eq_true (s1.Write == write) with hg3 | hg3
   ·replace h := br_t hg3 h
    refine Tk_condT (congrArg (fun b => some (Value.bool b)) hg3) ?_
    refine Tk_region ?_
    refine Tops_step rfl (OpT_move rfl rfl rfl rfl) ?_
    refine Tops_step rfl (OpT_move rfl rfl rfl rfl) ?_
    refine Tops_step rfl (OpT_move rfl rfl rfl rfl) ?_
    obtain ⟨s2, hx3, h⟩ := ob_e h
    refine Tops_ex rfl (OpT_idxS rfl rfl rfl rfl rfl slF22 (i := 0) rfl hx3) fun p3 => ?_
    refine Tops_step rfl (OpT_loadPA (vs := [vU64 s2.At, vU32 s2.Len, vB s2.Write]) rfl rfl rfl rfl tyF47 (i := 1) rfl rfl) ?_
    refine Tops_ex rfl (OpT_buildSlice (S := SegS) (xs := [s2]) (css := [[vU64 s2.At, vU32 s2.Len, vB s2.Write]]) (cs := [vU64 s2.At, vU32 s2.Len, vB s2.Write]) (e := 47) rfl rfl rfl rfl (bldF slF22 (by decide) (by kernel_rfl)) rfl rfl rfl rfl (rel_plainD (S := SegS) (xs := [s2]) (css := [[vU64 s2.At, vU32 s2.Len, vB s2.Write]]) rfl rfl)) fun v2 => ?_
    obtain ⟨hc1, h⟩ := chk_e h
    refine Tops_ex rfl (OpT_appendB (S := SegS) rfl rfl rfl rfl rfl rfl slF22 (i := 0) (j := 1) rfl rfl hc1) fun v3 => ?_
    refine Tops_step rfl (OpT_assign rfl rfl rfl rfl) ?_
    refine Tops_nil ?_
    refine Tk_wkS (fr' := [(0, some (vl1)), (1, some (vB write)), (5, some (v3)), (6, some (vI i1))]) (own' := [some (rowS SegS v3 (out1 ++ [s2]))]) (shr' := [Fact.sl SegS vl1 l]) [0, 1, 5, 6] [0] [0] rfl rfl rfl rfl ?_
    refine Tk_blk ?_
    refine Tk_region ?_
    refine Tops_step rfl (OpT_move rfl rfl rfl rfl) ?_
    refine Tops_step rfl (OpT_bin rfl rfl rfl rfl rfl (bin_add_i (a := i1) (b := (1 : Int)))) ?_
    refine Tops_step rfl (OpT_assign rfl rfl rfl rfl) ?_
    refine Tops_nil ?_
    refine Tk_wkS (fr' := [(0, some (vl1)), (1, some (vB write)), (5, some (v3)), (6, some (vI (wi (i1 + (1 : Int)))))]) (own' := [some (rowS SegS v3 (out1 ++ [s2]))]) (shr' := [Fact.sl SegS vl1 l]) [0, 1, 5, 6] [0] [0] rfl rfl rfl rfl ?_
    exact Tk_backS (out1 ++ [s2], wi (i1 + (1 : Int)), v3) h [0, 1, 5, 6] [0] [0] rfl rfl rfl rfl rfl
   ·replace h := br_f hg3 h
    refine Tk_condF (congrArg (fun b => some (Value.bool b)) hg3) ?_
    refine Tk_skip ?_
    refine Tk_blk ?_
    refine Tk_region ?_
    refine Tops_step rfl (OpT_move rfl rfl rfl rfl) ?_
    refine Tops_step rfl (OpT_bin rfl rfl rfl rfl rfl (bin_add_i (a := i1) (b := (1 : Int)))) ?_
    refine Tops_step rfl (OpT_assign rfl rfl rfl rfl) ?_
    refine Tops_nil ?_
    refine Tk_wkS (fr' := [(0, some (vl1)), (1, some (vB write)), (5, some (v1)), (6, some (vI (wi (i1 + (1 : Int)))))]) (own' := [some (rowS SegS v1 out1)]) (shr' := [Fact.sl SegS vl1 l]) [0, 1, 5, 6] [0] [0] rfl rfl rfl rfl ?_
    exact Tk_backS (out1, wi (i1 + (1 : Int)), v1) h [0, 1, 5, 6] [0] [0] rfl rfl rfl rfl rfl
  ·replace h := br_f hg2 h
   refine Tk_condF (congrArg (fun b => some (Value.bool b)) hg2) ?_
   refine Tk_exit _ rfl ?_
   refine Tk_seq ?_
   refine Tk_region ?_
   refine Tops_step rfl (OpT_move rfl rfl rfl rfl) ?_
   refine Tops_step rfl (OpT_assign rfl rfl rfl rfl) ?_
   refine Tops_nil ?_
   refine Tk_wkS (fr' := [(4, some (v1))]) (own' := [some (rowS SegS v1 out1)]) (shr' := []) [4] [0] [] rfl rfl rfl rfl ?_
   obtain rfl := Option.some.inj h
   exact Tk_retV rfl rfl (resA (vs := [v1]) rfl ⟨rfl, trivial⟩) [0] [] rfl rfl rfl ⟨v1, rfl, rfl, rfl⟩
 ·replace h := br_f hg1 h
  refine Tops_no rfl rfl (congrArg (fun b => some (Value.bool b)) hg1) rfl rfl ?_
  refine Tops_no rfl rfl (congrArg (fun b => some (Value.bool b)) hg1) rfl rfl ?_
  refine Tops_no rfl rfl (congrArg (fun b => some (Value.bool b)) hg1) rfl rfl ?_
  refine Tops_step rfl (OpT_pickF rfl rfl rfl (congrArg (fun b => some (Value.bool b)) hg1) rfl) ?_
  refine Tops_nil ?_
  refine Tk_wkS (fr' := [(0, some (vl1)), (1, some (vB write)), (5, some (v1)), (6, some (vI i1)), (15, some (vB false))]) (own' := [some (rowS SegS v1 out1)]) (shr' := [Fact.sl SegS vl1 l]) [0, 1, 5, 6, 15] [0] [0] rfl rfl rfl rfl ?_
  refine Tk_condF rfl ?_
  refine Tk_exit _ rfl ?_
  refine Tk_seq ?_
  refine Tk_region ?_
  refine Tops_step rfl (OpT_move rfl rfl rfl rfl) ?_
  refine Tops_step rfl (OpT_assign rfl rfl rfl rfl) ?_
  refine Tops_nil ?_
  refine Tk_wkS (fr' := [(4, some (v1))]) (own' := [some (rowS SegS v1 out1)]) (shr' := []) [4] [0] [] rfl rfl rfl rfl ?_
  obtain rfl := Option.some.inj h
  exact Tk_retV rfl rfl (resA (vs := [v1]) rfl ⟨rfl, trivial⟩) [0] [] rfl rfl rfl ⟨v1, rfl, rfl, rfl⟩

set_option maxRecDepth 100000 in
set_option maxHeartbeats 4000000 in
theorem w_ref_Cut05 {l : List Seg} {fromp1 : UInt64} {np2 : UInt64} {vl1 : Value} {r : (List Seg)} (h : ref_Cut05 l fromp1 np2 = some r) :
  Ctr Try.prog 30 #[vl1, vU64 fromp1, vU64 np2] [] [Fact.sl SegS vl1 l]
   (fun rv own shr => ∃ (w1 : Value), rv = w1 ∧ own = [(rowS SegS w1 r)] ∧ shr = []) := by
 unfold ref_Cut05 at h
 refine Ctr.mk (args := [vl1, vU64 fromp1, vU64 np2]) Try.func30 rfl rfl (fun R0 w0 B => ?_)
 refine Tk_seq ?_
 refine Tk_region ?_
 refine Tops_step rfl (OpT_assign rfl rfl rfl rfl) ?_
 refine Tops_nil ?_
 refine Tk_wkS (fr' := [(0, some (vl1)), (1, some (vU64 fromp1)), (2, some (vU64 np2))]) (own' := []) (shr' := [Fact.sl SegS vl1 l]) [0, 1, 2] [] [0] rfl rfl rfl rfl ?_
 refine Tk_seq ?_
 refine Tk_region ?_
 refine Tops_step rfl (OpT_assign rfl rfl rfl rfl) ?_
 refine Tops_nil ?_
 refine Tk_seq ?_
 refine Tk_seq ?_
 refine Tk_region ?_
 refine Tops_step rfl (OpT_assign rfl rfl rfl rfl) ?_
 refine Tops_nil ?_
 refine Tk_block ?_
 refine Tk_nilrow SegS ?_
 refine Tk_loopS (σ := UInt64 × UInt64 × (List Seg) × Int × Value) [0, 1, 2, 7, 8] [0] [0] (fun s => ⟨[(0, some (vl1)), (1, some (vU64 s.1)), (2, some (vU64 s.2.1)), (7, some (s.2.2.2.2)), (8, some (vI s.2.2.2.1))], [some (rowS SegS s.2.2.2.2 s.2.2.1)], [Fact.sl SegS vl1 l]⟩) (fun nf s => ref_Cut05L1 l nf s.1 s.2.1 s.2.2.1 s.2.2.2.1 = some r) fuel (fromp1, np2, [], (0 : Int), (.slice none 0 0)) h rfl rfl rfl rfl rfl (fun s h => by cases h) ?_
 rintro nf ⟨from1, n1, out1, i1, v1⟩ h
 replace h : ref_Cut05L1B l (ref_Cut05L1 l nf) from1 n1 out1 i1 = some r := h
 unfold ref_Cut05L1B at h
 refine Tk_seq ?_
 refine Tk_seq ?_
 refine Tk_region ?_
 refine Tops_step rfl (OpT_move rfl rfl rfl rfl) ?_
 refine Tops_step rfl (OpT_move rfl rfl rfl rfl) ?_
 refine Tops_step rfl (OpT_lenS rfl rfl rfl rfl Try.underlying22 (i := 0) rfl) ?_
 refine Tops_step rfl (OpT_bin rfl rfl rfl rfl rfl (bin_lss_i (a := i1) (b := len l))) ?_
 refine Tops_step rfl (OpT_move rfl rfl rfl rfl) ?_
 rcases Bool.eq_false_or_eq_true (decide (i1 < (len l))) with hg1 | hg1
 ·replace h := br_t hg1 h
  refine Tops_yes rfl rfl (congrArg (fun b => some (Value.bool b)) hg1) (OpT_move rfl rfl rfl rfl) ?_
  rintro _ rfl
  obtain ⟨check1, hx1, h⟩ := ob_e h
  refine Tops_yes rfl rfl (congrArg (fun b => some (Value.bool b)) hg1) (OpT_call (w_ref_Check05 hx1) [] [0] rfl rfl rfl rfl rfl callee26 rfl rfl rfl rfl) ?_
  rintro _ ⟨_, _, _, ⟨rfl, rfl, rfl⟩, rfl⟩
  refine Tops_yes rfl rfl (congrArg (fun b => some (Value.bool b)) hg1) (OpT_bin rfl rfl rfl rfl rfl (bin_eql_i (a := check1) (b := (0 : Int)))) ?_
  rintro _ rfl
  refine Tops_step rfl (OpT_pickT rfl rfl rfl (congrArg (fun b => some (Value.bool b)) hg1) rfl) ?_
  refine Tops_nil ?_
  refine Tk_wkS (fr' := [(0, some (vl1)), (1, some (vU64 from1)), (2, some (vU64 n1)), (7, some (v1)), (8, some (vI i1)), (20, some (vB (check1 == (0 : Int))))]) (own' := [some (rowS SegS v1 out1)]) (shr' := [Fact.sl SegS vl1 l]) [0, 1, 2, 7, 8, 20] [0] [0] rfl rfl rfl rfl ?_
  rcases Bool.eq_false_or_eq_true (check1 == (0 : Int)) with hg2 | hg2
  ·replace h := br_t hg2 h
   refine Tk_condT (congrArg (fun b => some (Value.bool b)) hg2) ?_
   refine Tk_skip ?_
   refine Tk_seq ?_
   refine Tk_block ?_
   refine Tk_seq ?_
   refine Tk_region ?_
   refine Tops_step rfl (OpT_move rfl rfl rfl rfl) ?_
   refine Tops_step rfl (OpT_move rfl rfl rfl rfl) ?_
   obtain ⟨s1, hx2, h⟩ := ob_e h
   refine Tops_ex rfl (OpT_idxS rfl rfl rfl rfl rfl slF22 (i := 0) rfl hx2) fun p1 => ?_
   refine Tops_step rfl (OpT_loadPA (vs := [vU64 s1.At, vU32 s1.Len, vB s1.Write]) rfl rfl rfl rfl tyF47 (i := 1) rfl rfl) ?_
   refine Tops_ex rfl (OpT_alloc rfl rfl rfl tyZ47) fun b1 => ?_
   refine Tops_step rfl (OpT_storeC (cs' := [vU64 s1.At, vU32 s1.Len, vB s1.Write]) rfl rfl rfl rfl tyF47 (i := 1) rfl rfl rfl (one_of rfl) rfl) ?_
   refine Tops_nil ?_
   refine Tk_wkS (fr' := [(0, some (vl1)), (1, some (vU64 from1)), (2, some (vU64 n1)), (7, some (v1)), (8, some (vI i1)), (9, some (.pointer (some ⟨b1, 0, none⟩)))]) (own' := [some (rowS SegS v1 out1), some (cellsR b1 47 [vU64 s1.At, vU32 s1.Len, vB s1.Write])]) (shr' := [Fact.sl SegS vl1 l]) [0, 1, 2, 7, 8, 9] [0, 1] [0] rfl rfl rfl rfl ?_
   refine Tk_seq ?_
   refine Tk_region ?_
   refine Tops_step rfl (OpT_fieldC rfl rfl rfl rfl fldF47x1) ?_
   refine Tops_step rfl (OpT_loadC rfl rfl rfl rfl tyF45 (i := 1) rfl rfl) ?_
   refine Tops_step rfl (OpT_cnv rfl rfl rfl rfl (cnv_u32_u64 (n := s1.Len) Try.underlying45 Try.underlying23)) ?_
   refine Tops_step rfl (OpT_assign rfl rfl rfl rfl) ?_
   refine Tops_nil ?_
   refine Tk_wkS (fr' := [(0, some (vl1)), (1, some (vU64 from1)), (2, some (vU64 n1)), (7, some (v1)), (8, some (vI i1)), (9, some (.pointer (some ⟨b1, 0, none⟩))), (10, some (vU64 s1.Len.toUInt64))]) (own' := [some (rowS SegS v1 out1), some (cellsR b1 47 [vU64 s1.At, vU32 s1.Len, vB s1.Write])]) (shr' := [Fact.sl SegS vl1 l]) [0, 1, 2, 7, 8, 9, 10] [0, 1] [0] rfl rfl rfl rfl ?_
   refine Tk_seq ?_
   refine Tk_seq ?_
   refine Tk_region ?_
   refine Tops_step rfl (OpT_move rfl rfl rfl rfl) ?_
   refine Tops_step rfl (OpT_move rfl rfl rfl rfl) ?_
   refine Tops_step rfl (OpT_bin rfl rfl rfl rfl rfl (bin_geq_u64 (a := from1) (b := s1.Len.toUInt64))) ?_
   refine Tops_nil ?_
   refine Tk_wkS (fr' := [(0, some (vl1)), (1, some (vU64 from1)), (2, some (vU64 n1)), (7, some (v1)), (8, some (vI i1)), (9, some (.pointer (some ⟨b1, 0, none⟩))), (10, some (vU64 s1.Len.toUInt64)), (32, some (vB (decide (from1 ≥ s1.Len.toUInt64))))]) (own' := [some (rowS SegS v1 out1), some (cellsR b1 47 [vU64 s1.At, vU32 s1.Len, vB s1.Write])]) (shr' := [Fact.sl SegS vl1 l]) [0, 1, 2, 7, 8, 9, 10, 32] [0, 1] [0] rfl rfl rfl rfl ?_
   rcases Bool.eq_false_or_eq_true (decide (from1 ≥ s1.Len.toUInt64)) with hg3 | hg3
   ·replace h := br_t hg3 h
    refine Tk_condT (congrArg (fun b => some (Value.bool b)) hg3) ?_
    refine Tk_seq ?_
    refine Tk_region ?_
    refine Tops_step rfl (OpT_move rfl rfl rfl rfl) ?_
    refine Tops_step rfl (OpT_move rfl rfl rfl rfl) ?_
    refine Tops_step rfl (OpT_bin rfl rfl rfl rfl rfl (bin_sub_u64 (a := from1) (b := s1.Len.toUInt64))) ?_
    refine Tops_step rfl (OpT_assign rfl rfl rfl rfl) ?_
    refine Tops_nil ?_
    refine Tk_wkS (fr' := [(0, some (vl1)), (1, some (vU64 (from1 - s1.Len.toUInt64))), (2, some (vU64 n1)), (7, some (v1)), (8, some (vI i1))]) (own' := [some (rowS SegS v1 out1)]) (shr' := [Fact.sl SegS vl1 l]) [0, 1, 2, 7, 8] [0] [0] rfl rfl rfl rfl ?_
    refine Tk_exit _ rfl ?_
    refine Tk_region ?_
    refine Tops_step rfl (OpT_move rfl rfl rfl rfl) ?_
    refine Tops_step rfl (OpT_bin rfl rfl rfl rfl rfl (bin_add_i (a := i1) (b := (1 : Int)))) ?_
    refine Tops_step rfl (OpT_assign rfl rfl rfl rfl) ?_
    refine Tops_nil ?_
    refine Tk_wkS (fr' := [(0, some (vl1)), (1, some (vU64 (from1 - s1.Len.toUInt64))), (2, some (vU64 n1)), (7, some (v1)), (8, some (vI (wi (i1 + (1 : Int)))))]) (own' := [some (rowS SegS v1 out1)]) (shr' := [Fact.sl SegS vl1 l]) [0, 1, 2, 7, 8] [0] [0] rfl rfl rfl rfl ?_
    exact Tk_backS (from1 - s1.Len.toUInt64, n1, out1, wi (i1 + (1 : Int)), v1) h [0, 1, 2, 7, 8] [0] [0] rfl rfl rfl rfl rfl
   ·replace h := br_f hg3 h
    refine Tk_condF (congrArg (fun b => some (Value.bool b)) hg3) ?_
    refine Tk_skip ?_
    refine Tk_seq ?_
    refine Tk_region ?_
    refine Tops_step rfl (OpT_move rfl rfl rfl rfl) ?_
    refine Tops_step rfl (OpT_move rfl rfl rfl rfl) ?_
    refine Tops_step rfl (OpT_bin rfl rfl rfl rfl rfl (bin_sub_u64 (a := s1.Len.toUInt64) (b := from1))) ?_
    refine Tops_step rfl (OpT_move rfl rfl rfl rfl) ?_
    refine Tops_step rfl (OpT_min_u64 (u := s1.Len.toUInt64 - from1) (v := n1) rfl rfl rfl rfl rfl) ?_
    refine Tops_step rfl (OpT_assign rfl rfl rfl rfl) ?_
    refine Tops_nil ?_
    refine Tk_wkS (fr' := [(0, some (vl1)), (1, some (vU64 from1)), (2, some (vU64 n1)), (7, some (v1)), (8, some (vI i1)), (9, some (.pointer (some ⟨b1, 0, none⟩))), (11, some (vU64 (minu64 (s1.Len.toUInt64 - from1) n1)))]) (own' := [some (rowS SegS v1 out1), some (cellsR b1 47 [vU64 s1.At, vU32 s1.Len, vB s1.Write])]) (shr' := [Fact.sl SegS vl1 l]) [0, 1, 2, 7, 8, 9, 11] [0, 1] [0] rfl rfl rfl rfl ?_
    refine Tk_seq ?_
    refine Tk_seq ?_
    refine Tk_region ?_
    refine Tops_step rfl (OpT_move rfl rfl rfl rfl) ?_
    refine Tops_step rfl (OpT_bin rfl rfl rfl rfl rfl (bin_gtr_u64 (a := minu64 (s1.Len.toUInt64 - from1) n1) (b := (0 : UInt64)))) ?_
    refine Tops_nil ?_
    refine Tk_wkS (fr' := [(0, some (vl1)), (1, some (vU64 from1)), (2, some (vU64 n1)), (7, some (v1)), (8, some (vI i1)), (9, some (.pointer (some ⟨b1, 0, none⟩))), (11, some (vU64 (minu64 (s1.Len.toUInt64 - from1) n1))), (42, some (vB (decide ((minu64 (s1.Len.toUInt64 - from1) n1) > (0 : UInt64)))))]) (own' := [some (rowS SegS v1 out1), some (cellsR b1 47 [vU64 s1.At, vU32 s1.Len, vB s1.Write])]) (shr' := [Fact.sl SegS vl1 l]) [0, 1, 2, 7, 8, 9, 11, 42] [0, 1] [0] rfl rfl rfl rfl ?_
    refine Tk_join (α := (List Seg) × Value) (fun s => ⟨[(0, some (vl1)), (2, some (vU64 n1)), (7, some (s.2)), (8, some (vI i1)), (11, some (vU64 (minu64 (s1.Len.toUInt64 - from1) n1)))], [some (rowS SegS s.2 s.1)], [Fact.sl SegS vl1 l]⟩) (fun s => ref_Cut05J2 from1 n1 i1 (ref_Cut05L1 l nf) s1 s.1 = some r) ?_ ?_
    ·rintro ⟨out2, v2⟩ h
     replace h : ref_Cut05J2 from1 n1 i1 (ref_Cut05L1 l nf) s1 out2 = some r := h
     unfold ref_Cut05J2 at h
     refine Tk_region ?_
     refine Tops_step rfl (OpT_move rfl rfl rfl rfl) ?_
     refine Tops_step rfl (OpT_move rfl rfl rfl rfl) ?_
     refine Tops_step rfl (OpT_bin rfl rfl rfl rfl rfl (bin_sub_u64 (a := n1) (b := minu64 (s1.Len.toUInt64 - from1) n1))) ?_
     refine Tops_step rfl (OpT_assign rfl rfl rfl rfl) ?_
     refine Tops_step rfl (OpT_assign rfl rfl rfl rfl) ?_
     refine Tops_nil ?_
     refine Tk_wkS (fr' := [(0, some (vl1)), (2, some (vU64 (n1 - (minu64 (s1.Len.toUInt64 - from1) n1)))), (7, some (v2)), (8, some (vI i1)), (1, some (vU64 (0 : UInt64)))]) (own' := [some (rowS SegS v2 out2)]) (shr' := [Fact.sl SegS vl1 l]) [0, 2, 7, 8, 1] [0] [0] rfl rfl rfl rfl ?_
     refine Tk_blk ?_
     refine Tk_region ?_
     refine Tops_step rfl (OpT_move rfl rfl rfl rfl) ?_
     refine Tops_step rfl (OpT_bin rfl rfl rfl rfl rfl (bin_add_i (a := i1) (b := (1 : Int)))) ?_
     refine Tops_step rfl (OpT_assign rfl rfl rfl rfl) ?_
     refine Tops_nil ?_
     refine Tk_wkS (fr' := [(0, some (vl1)), (2, some (vU64 (n1 - (minu64 (s1.Len.toUInt64 - from1) n1)))), (7, some (v2)), (8, some (vI (wi (i1 + (1 : Int))))), (1, some (vU64 (0 : UInt64)))]) (own' := [some (rowS SegS v2 out2)]) (shr' := [Fact.sl SegS vl1 l]) [0, 2, 7, 8, 1] [0] [0] rfl rfl rfl rfl ?_
     exact Tk_backS ((0 : UInt64), n1 - (minu64 (s1.Len.toUInt64 - from1) n1), out2, wi (i1 + (1 : Int)), v2) h [0, 1, 2, 7, 8] [0] [0] rfl rfl rfl rfl rfl
    ·intro HJ1
     rcases Bool.eq_false_or_eq_true (decide ((minu64 (s1.Len.toUInt64 - from1) n1) > (0 : UInt64))) with hg4 | hg4
     ·replace h := br_t hg4 h
      refine Tk_condT (congrArg (fun b => some (Value.bool b)) hg4) ?_
      refine Tk_region ?_
      refine Tops_step rfl (OpT_move rfl rfl rfl rfl) ?_
      refine Tops_step rfl (OpT_fieldC rfl rfl rfl rfl fldF47x0) ?_
      refine Tops_step rfl (OpT_loadC rfl rfl rfl rfl tyF23 (i := 1) rfl rfl) ?_
      refine Tops_step rfl (OpT_move rfl rfl rfl rfl) ?_
      refine Tops_step rfl (OpT_bin rfl rfl rfl rfl rfl (bin_add_u64 (a := s1.At) (b := from1))) ?_
      refine Tops_step rfl (OpT_move rfl rfl rfl rfl) ?_
      refine Tops_step rfl (OpT_cnv rfl rfl rfl rfl (cnv_u64_u32 (n := minu64 (s1.Len.toUInt64 - from1) n1) Try.underlying23 Try.underlying45)) ?_
      refine Tops_step rfl (OpT_fieldC rfl rfl rfl rfl fldF47x2) ?_
      refine Tops_step rfl (OpT_loadC rfl rfl rfl rfl tyF4 (i := 1) rfl rfl) ?_
      refine Tops_step rfl (OpT_build (v := .agg #[vU64 (s1.At + from1), vU32 ((minu64 (s1.Len.toUInt64 - from1) n1).toUInt32), vB s1.Write]) rfl rfl rfl rfl (bldV (by kernel_rfl))) ?_
      refine Tops_ex rfl (OpT_buildSlice (S := SegS) (xs := [(Seg.mk (s1.At + from1) ((minu64 (s1.Len.toUInt64 - from1) n1).toUInt32) s1.Write)]) (css := [[vU64 (s1.At + from1), vU32 ((minu64 (s1.Len.toUInt64 - from1) n1).toUInt32), vB s1.Write]]) (cs := [vU64 (s1.At + from1), vU32 ((minu64 (s1.Len.toUInt64 - from1) n1).toUInt32), vB s1.Write]) (e := 47) rfl rfl rfl rfl (bldF slF22 (by decide) (by kernel_rfl)) rfl rfl rfl rfl (rel_plainD (S := SegS) (xs := [(Seg.mk (s1.At + from1) ((minu64 (s1.Len.toUInt64 - from1) n1).toUInt32) s1.Write)]) (css := [[vU64 (s1.At + from1), vU32 ((minu64 (s1.Len.toUInt64 - from1) n1).toUInt32), vB s1.Write]]) rfl rfl)) fun v3 => ?_
      obtain ⟨hc1, h⟩ := chk_e h
      refine Tops_ex rfl (OpT_appendB (S := SegS) rfl rfl rfl rfl rfl rfl slF22 (i := 0) (j := 2) rfl rfl hc1) fun v4 => ?_
      refine Tops_step rfl (OpT_assign rfl rfl rfl rfl) ?_
      refine Tops_nil ?_
      refine Tk_wkS (fr' := [(0, some (vl1)), (2, some (vU64 n1)), (7, some (v4)), (8, some (vI i1)), (11, some (vU64 (minu64 (s1.Len.toUInt64 - from1) n1)))]) (own' := [some (rowS SegS v4 (out1 ++ [(Seg.mk (s1.At + from1) ((minu64 (s1.Len.toUInt64 - from1) n1).toUInt32) s1.Write)]))]) (shr' := [Fact.sl SegS vl1 l]) [0, 2, 7, 8, 11] [0] [0] rfl rfl rfl rfl ?_
      exact Tk_jmpS (HJ1 (out1 ++ [(Seg.mk (s1.At + from1) ((minu64 (s1.Len.toUInt64 - from1) n1).toUInt32) s1.Write)], v4) h) [0, 2, 7, 8, 11] [0] [0] rfl rfl rfl rfl
     ·replace h := br_f hg4 h
      refine Tk_condF (congrArg (fun b => some (Value.bool b)) hg4) ?_
      refine Tk_skip ?_
      exact Tk_jmpS (HJ1 (out1, v1) h) [0, 2, 7, 8, 11] [0] [0] rfl rfl rfl rfl
  ·replace h := br_f hg2 h
   refine Tk_condF (congrArg (fun b => some (Value.bool b)) hg2) ?_
   refine Tk_exit _ rfl ?_
   refine Tk_seq ?_
   refine Tk_region ?_
   refine Tops_step rfl (OpT_move rfl rfl rfl rfl) ?_
   refine Tops_step rfl (OpT_assign rfl rfl rfl rfl) ?_
   refine Tops_nil ?_
   refine Tk_wkS (fr' := [(6, some (v1))]) (own' := [some (rowS SegS v1 out1)]) (shr' := []) [6] [0] [] rfl rfl rfl rfl ?_
   obtain rfl := Option.some.inj h
   exact Tk_retV rfl rfl (resA (vs := [v1]) rfl ⟨rfl, trivial⟩) [0] [] rfl rfl rfl ⟨v1, rfl, rfl, rfl⟩
 ·replace h := br_f hg1 h
  refine Tops_no rfl rfl (congrArg (fun b => some (Value.bool b)) hg1) rfl rfl ?_
  refine Tops_no rfl rfl (congrArg (fun b => some (Value.bool b)) hg1) rfl rfl ?_
  refine Tops_no rfl rfl (congrArg (fun b => some (Value.bool b)) hg1) rfl rfl ?_
  refine Tops_step rfl (OpT_pickF rfl rfl rfl (congrArg (fun b => some (Value.bool b)) hg1) rfl) ?_
  refine Tops_nil ?_
  refine Tk_wkS (fr' := [(0, some (vl1)), (1, some (vU64 from1)), (2, some (vU64 n1)), (7, some (v1)), (8, some (vI i1)), (20, some (vB false))]) (own' := [some (rowS SegS v1 out1)]) (shr' := [Fact.sl SegS vl1 l]) [0, 1, 2, 7, 8, 20] [0] [0] rfl rfl rfl rfl ?_
  refine Tk_condF rfl ?_
  refine Tk_exit _ rfl ?_
  refine Tk_seq ?_
  refine Tk_region ?_
  refine Tops_step rfl (OpT_move rfl rfl rfl rfl) ?_
  refine Tops_step rfl (OpT_assign rfl rfl rfl rfl) ?_
  refine Tops_nil ?_
  refine Tk_wkS (fr' := [(6, some (v1))]) (own' := [some (rowS SegS v1 out1)]) (shr' := []) [6] [0] [] rfl rfl rfl rfl ?_
  obtain rfl := Option.some.inj h
  exact Tk_retV rfl rfl (resA (vs := [v1]) rfl ⟨rfl, trivial⟩) [0] [] rfl rfl rfl ⟨v1, rfl, rfl, rfl⟩

set_option maxRecDepth 100000 in
set_option maxHeartbeats 4000000 in
theorem w_kit_Segs {l : List Seg} {vl1 : Value} {r : (List Seg)} (h : kit_Segs l = some r) :
  Ctr Try.prog 31 #[vl1] [] [Fact.sl SegS vl1 l]
   (fun rv own shr => ∃ (w1 : Value), rv = w1 ∧ own = [(rowS SegS w1 r)] ∧ shr = []) := by
 unfold kit_Segs at h
 refine Ctr.mk (args := [vl1]) Try.func31 rfl rfl (fun R0 w0 B => ?_)
 refine Tk_seq ?_
 refine Tk_region ?_
 refine Tops_step rfl (OpT_assign rfl rfl rfl rfl) ?_
 refine Tops_nil ?_
 refine Tk_wkS (fr' := [(0, some (vl1))]) (own' := []) (shr' := [Fact.sl SegS vl1 l]) [0] [] [0] rfl rfl rfl rfl ?_
 refine Tk_seq ?_
 refine Tk_region ?_
 refine Tops_ex rfl (OpT_buildSlice (S := SegS) (xs := ([] : List Seg)) (css := []) (cs := []) (e := 47) rfl rfl rfl rfl (bldF slF22 (by decide) (by kernel_rfl)) rfl rfl rfl rfl (rel_plainD (S := SegS) (xs := ([] : List Seg)) (css := []) rfl rfl)) fun v1 => ?_
 refine Tops_step rfl (OpT_move rfl rfl rfl rfl) ?_
 obtain ⟨hc1, h⟩ := chk_e h
 refine Tops_ex rfl (OpT_append rfl rfl rfl rfl rfl slF22 (i := 0) (j := 0) rfl rfl hc1) fun v2 => ?_
 refine Tops_step rfl (OpT_assign rfl rfl rfl rfl) ?_
 refine Tops_nil ?_
 refine Tk_wkS (fr' := [(2, some (v2))]) (own' := [some (rowS SegS v2 l)]) (shr' := []) [2] [0] [] rfl rfl rfl rfl ?_
 obtain rfl := Option.some.inj h
 exact Tk_retV rfl rfl (resA (vs := [v2]) rfl ⟨rfl, trivial⟩) [0] [] rfl rfl rfl ⟨v2, rfl, rfl, rfl⟩

set_option maxRecDepth 100000 in
set_option maxHeartbeats 4000000 in
theorem w_ref_Mem_Write02 {m : dumbwaiterref02_Mem} {atp1 : UInt64} {b : List UInt8} {b_m : Nat} {vm1 : Value} {vm2 : Value} {vsm1 : List Value} {vb1 : Value} {r : (Int × (List (List UInt8)))} (h : ref_Mem_Write02 m atp1 b = some r) :
  Ctr Try.prog 48 #[.pointer (some ⟨b_m, 0, none⟩), vU64 atp1, vb1] [(cellsR b_m 76 [vm1, vm2]), (rowsX u8S false vm2 vsm1 m.B none)] [Fact.sl RegionS vm1 m.L, Fact.sl u8S vb1 b]
   (fun rv own shr => rv = vI r.1 ∧ own = [(cellsR b_m 76 [vm1, vm2]), (rowsX u8S false vm2 vsm1 r.2 none)] ∧ shr = []) := by
 unfold ref_Mem_Write02 at h
 refine Ctr.mk (args := [.pointer (some ⟨b_m, 0, none⟩), vU64 atp1, vb1]) Try.func48 rfl rfl (fun R0 w0 B => ?_)
 refine Tk_seq ?_
 refine Tk_region ?_
 refine Tops_step rfl (OpT_assign rfl rfl rfl rfl) ?_
 refine Tops_nil ?_
 refine Tk_wkS (fr' := [(0, some (.pointer (some ⟨b_m, 0, none⟩))), (1, some (vU64 atp1)), (2, some (vb1))]) (own' := [some (cellsR b_m 76 [vm1, vm2]), some (rowsX u8S false vm2 vsm1 m.B none)]) (shr' := [Fact.sl RegionS vm1 m.L, Fact.sl u8S vb1 b]) [0, 1, 2] [0, 1] [0, 1] rfl rfl rfl rfl ?_
 refine Tk_seq ?_
 refine Tk_seq ?_
 refine Tk_region ?_
 refine Tops_step rfl (OpT_move rfl rfl rfl rfl) ?_
 refine Tops_step rfl (OpT_lenS rfl rfl rfl rfl Try.underlying33 (i := 1) rfl) ?_
 refine Tops_step rfl (OpT_bin rfl rfl rfl rfl rfl (bin_eql_i (a := len b) (b := (0 : Int)))) ?_
 refine Tops_nil ?_
 refine Tk_wkS (fr' := [(0, some (.pointer (some ⟨b_m, 0, none⟩))), (1, some (vU64 atp1)), (2, some (vb1)), (11, some (vB ((len b) == (0 : Int))))]) (own' := [some (cellsR b_m 76 [vm1, vm2]), some (rowsX u8S false vm2 vsm1 m.B none)]) (shr' := [Fact.sl RegionS vm1 m.L, Fact.sl u8S vb1 b]) [0, 1, 2, 11] [0, 1] [0, 1] rfl rfl rfl rfl ?_
 rcases Bool.eq_false_or_eq_true ((len b) == (0 : Int)) with hg1 | hg1
 ·replace h := br_t hg1 h
  refine Tk_condT (congrArg (fun b => some (Value.bool b)) hg1) ?_
  refine Tk_seq ?_
  refine Tk_region ?_
  refine Tops_step rfl (OpT_assign rfl rfl rfl rfl) ?_
  refine Tops_nil ?_
  refine Tk_wkS (fr' := [(6, some (vI (0 : Int)))]) (own' := [some (cellsR b_m 76 [vm1, vm2]), some (rowsX u8S false vm2 vsm1 m.B none)]) (shr' := [Fact.sl RegionS vm1 m.L]) [6] [0, 1] [0] rfl rfl rfl rfl ?_
  obtain rfl := Option.some.inj h
  exact Tk_retV rfl rfl (resA (vs := [vI (0 : Int)]) rfl ⟨rfl, trivial⟩) [0, 1] [] rfl rfl rfl ⟨rfl, rfl, rfl⟩
 ·replace h := br_f hg1 h
  refine Tk_condF (congrArg (fun b => some (Value.bool b)) hg1) ?_
  refine Tk_skip ?_
  refine Tk_seq ?_
  refine Tk_region ?_
  refine Tops_step rfl (OpT_move rfl rfl rfl rfl) ?_
  refine Tops_step rfl (OpT_move rfl rfl rfl rfl) ?_
  refine Tops_step rfl (OpT_move rfl rfl rfl rfl) ?_
  refine Tops_step rfl (OpT_lenS rfl rfl rfl rfl Try.underlying33 (i := 1) rfl) ?_
  refine Tops_step rfl (OpT_cnv rfl rfl rfl rfl (cnv_i_u64 (n := len b) Try.underlying3 Try.underlying23)) ?_
  obtain ⟨find1, hx1, h⟩ := ob_e h
  refine Tops_exP rfl (OpT_callP [2, 3] (w_ref_Mem_find02 hx1) [0, 1] [0] rfl rfl rfl rfl rfl callee53 rfl rfl rfl rfl rfl) ?_
  rintro _ ⟨_, _, _, ⟨rfl, rfl, rfl⟩, rfl⟩
  refine Tops_step rfl (OpT_move rfl rfl rfl rfl) ?_
  refine Tops_step rfl (OpT_extract rfl rfl rfl rfl rfl) ?_
  refine Tops_step rfl (OpT_extract rfl rfl rfl rfl rfl) ?_
  refine Tops_step rfl (OpT_assign rfl rfl rfl rfl) ?_
  refine Tops_step rfl (OpT_assign rfl rfl rfl rfl) ?_
  refine Tops_nil ?_
  refine Tk_wkS (fr' := [(0, some (.pointer (some ⟨b_m, 0, none⟩))), (2, some (vb1)), (7, some (vI find1.1)), (8, some (vI find1.2))]) (own' := [some (cellsR b_m 76 [vm1, vm2]), some (rowsX u8S false vm2 vsm1 m.B none)]) (shr' := [Fact.sl RegionS vm1 m.L, Fact.sl u8S vb1 b]) [0, 2, 7, 8] [0, 1] [0, 1] rfl rfl rfl rfl ?_
  refine Tk_seq ?_
  refine Tk_seq ?_
  refine Tk_region ?_
  refine Tops_step rfl (OpT_move rfl rfl rfl rfl) ?_
  refine Tops_step rfl (OpT_bin rfl rfl rfl rfl rfl (bin_lss_i (a := find1.1) (b := (0 : Int)))) ?_
  refine Tops_nil ?_
  refine Tk_wkS (fr' := [(0, some (.pointer (some ⟨b_m, 0, none⟩))), (2, some (vb1)), (7, some (vI find1.1)), (8, some (vI find1.2)), (22, some (vB (decide (find1.1 < (0 : Int)))))]) (own' := [some (cellsR b_m 76 [vm1, vm2]), some (rowsX u8S false vm2 vsm1 m.B none)]) (shr' := [Fact.sl RegionS vm1 m.L, Fact.sl u8S vb1 b]) [0, 2, 7, 8, 22] [0, 1] [0, 1] rfl rfl rfl rfl ?_
  rcases Bool.eq_false_or_eq_true (decide (find1.1 < (0 : Int))) with hg2 | hg2
  ·replace h := br_t hg2 h
   refine Tk_condT (congrArg (fun b => some (Value.bool b)) hg2) ?_
   refine Tk_seq ?_
   refine Tk_region ?_
   refine Tops_step rfl (OpT_assign rfl rfl rfl rfl) ?_
   refine Tops_nil ?_
   refine Tk_wkS (fr' := [(6, some (vI (5 : Int)))]) (own' := [some (cellsR b_m 76 [vm1, vm2]), some (rowsX u8S false vm2 vsm1 m.B none)]) (shr' := [Fact.sl RegionS vm1 m.L]) [6] [0, 1] [0] rfl rfl rfl rfl ?_
   obtain rfl := Option.some.inj h
   exact Tk_retV rfl rfl (resA (vs := [vI (5 : Int)]) rfl ⟨rfl, trivial⟩) [0, 1] [] rfl rfl rfl ⟨rfl, rfl, rfl⟩
  ·replace h := br_f hg2 h
   refine Tk_condF (congrArg (fun b => some (Value.bool b)) hg2) ?_
   refine Tk_skip ?_
   refine Tk_seq ?_
   refine Tk_region ?_
   refine Tops_step rfl (OpT_move rfl rfl rfl rfl) ?_
   refine Tops_step rfl (OpT_nilCheckP rfl rfl rfl rfl) ?_
   refine Tops_step rfl (OpT_fieldC rfl rfl rfl rfl fldF76x1) ?_
   refine Tops_step rfl (OpT_loadC rfl rfl rfl rfl tyF69 (i := 0) rfl rfl) ?_
   refine Tops_step rfl (OpT_move rfl rfl rfl rfl) ?_
   obtain ⟨row1, hx2, h⟩ := ob_e h
   refine Tops_step rfl (OpT_idxRows rfl rfl rfl rfl rfl slF69 (i := 1) rfl hx2) ?_
   refine Tops_vs (vs_focus (i := 1) (j := find1.1) rfl hx2) ?_
   refine Tops_step rfl (OpT_loadRow (m := find1.1) rfl rfl rfl rfl tyF33 (i := 1) rfl) ?_
   refine Tops_step rfl (OpT_move rfl rfl rfl rfl) ?_
   obtain ⟨hc1, h⟩ := chk_e h
   refine Tops_step rfl (OpT_subL (S := u8S) (l := find1.2) rfl rfl rfl rfl rfl slF33 (i := 2) rfl hc1) ?_
   refine Tops_step rfl (OpT_move rfl rfl rfl rfl) ?_
   refine Tops_step rfl (OpT_copyS (S := u8S) (l := find1.2) (m := (len row1)) rfl rfl rfl rfl rfl rfl slF33 (i := 2) (j := 1) rfl rfl hc1) ?_
   refine Tops_nil ?_
   refine Tk_wkS (fr' := []) (own' := [some (cellsR b_m 76 [vm1, vm2]), some (rowsX u8S false vm2 vsm1 m.B (some (Int.toNat find1.1, vsAt vsm1 (Int.toNat find1.1)))), some (rowS u8S (vsAt vsm1 (Int.toNat find1.1)) (copyAt row1 find1.2 (len row1) b))]) (shr' := [Fact.sl RegionS vm1 m.L]) [] [0, 1, 2] [0] rfl rfl rfl rfl ?_
   refine Tk_vs (vs_unfocus (i := 1) (q := 2) rfl rfl rfl) ?_
   refine Tk_seq ?_
   refine Tk_region ?_
   refine Tops_step rfl (OpT_assign rfl rfl rfl rfl) ?_
   refine Tops_nil ?_
   refine Tk_wkS (fr' := [(6, some (vI (0 : Int)))]) (own' := [some (cellsR b_m 76 [vm1, vm2]), some (rowsX u8S false vm2 vsm1 (m.B.set (Int.toNat find1.1) (copyAt row1 find1.2 (len row1) b)) none)]) (shr' := [Fact.sl RegionS vm1 m.L]) [6] [0, 1] [0] rfl rfl rfl rfl ?_
   obtain rfl := Option.some.inj h
   exact Tk_retV rfl rfl (resA (vs := [vI (0 : Int)]) rfl ⟨rfl, trivial⟩) [0, 1] [] rfl rfl rfl ⟨rfl, rfl, rfl⟩

set_option maxRecDepth 100000 in
set_option maxHeartbeats 4000000 in
theorem w_ref_Scatter05 {m : dumbwaiterref02_Mem} {l : List Seg} {b : List UInt8} {b_m : Nat} {vm1 : Value} {vm2 : Value} {vsm1 : List Value} {vl1 : Value} {vb1 : Value} {r : (Int × Int × (List (List UInt8)))} (h : ref_Scatter05 m l b = some r) :
  Ctr Try.prog 32 #[.pointer (some ⟨b_m, 0, none⟩), vl1, vb1] [(cellsR b_m 76 [vm1, vm2]), (rowsX u8S false vm2 vsm1 m.B none)] [Fact.sl RegionS vm1 m.L, Fact.sl SegS vl1 l, Fact.sl u8S vb1 b]
   (fun rv own shr => rv = .tuple #[vI r.1, vI r.2.1] ∧ own = [(cellsR b_m 76 [vm1, vm2]), (rowsX u8S false vm2 vsm1 r.2.2 none)] ∧ shr = []) := by
 unfold ref_Scatter05 at h
 refine Ctr.mk (args := [.pointer (some ⟨b_m, 0, none⟩), vl1, vb1]) Try.func32 rfl rfl (fun R0 w0 B => ?_)
 refine Tk_seq ?_
 refine Tk_region ?_
 refine Tops_step rfl (OpT_assign rfl rfl rfl rfl) ?_
 refine Tops_step rfl (OpT_assign rfl rfl rfl rfl) ?_
 refine Tops_nil ?_
 refine Tk_wkS (fr' := [(0, some (.pointer (some ⟨b_m, 0, none⟩))), (1, some (vl1)), (2, some (vb1))]) (own' := [some (cellsR b_m 76 [vm1, vm2]), some (rowsX u8S false vm2 vsm1 m.B none)]) (shr' := [Fact.sl RegionS vm1 m.L, Fact.sl SegS vl1 l, Fact.sl u8S vb1 b]) [0, 1, 2] [0, 1] [0, 1, 2] rfl rfl rfl rfl ?_
 refine Tk_seq ?_
 refine Tk_region ?_
 refine Tops_step rfl (OpT_move rfl rfl rfl rfl) ?_
 refine Tops_step rfl (OpT_move rfl rfl rfl rfl) ?_
 obtain ⟨in1, hx1, h⟩ := ob_e h
 refine Tops_exP rfl (OpT_callP [2, 3] (w_ref_In05 hx1) [0, 1] [0, 1] rfl rfl rfl rfl rfl callee27 rfl rfl rfl rfl rfl) ?_
 rintro _ ⟨_, _, _, ⟨rfl, rfl, rfl⟩, rfl⟩
 refine Tops_step rfl (OpT_assign rfl rfl rfl rfl) ?_
 refine Tops_nil ?_
 refine Tk_wkS (fr' := [(0, some (.pointer (some ⟨b_m, 0, none⟩))), (1, some (vl1)), (2, some (vb1)), (8, some (vI in1))]) (own' := [some (cellsR b_m 76 [vm1, vm2]), some (rowsX u8S false vm2 vsm1 m.B none)]) (shr' := [Fact.sl RegionS vm1 m.L, Fact.sl SegS vl1 l, Fact.sl u8S vb1 b]) [0, 1, 2, 8] [0, 1] [0, 1, 2] rfl rfl rfl rfl ?_
 refine Tk_seq ?_
 refine Tk_seq ?_
 refine Tk_region ?_
 refine Tops_step rfl (OpT_move rfl rfl rfl rfl) ?_
 refine Tops_step rfl (OpT_bin rfl rfl rfl rfl rfl (bin_neq_i (a := in1) (b := (0 : Int)))) ?_
 refine Tops_nil ?_
 refine Tk_wkS (fr' := [(0, some (.pointer (some ⟨b_m, 0, none⟩))), (1, some (vl1)), (2, some (vb1)), (8, some (vI in1)), (16, some (vB (in1 != (0 : Int))))]) (own' := [some (cellsR b_m 76 [vm1, vm2]), some (rowsX u8S false vm2 vsm1 m.B none)]) (shr' := [Fact.sl RegionS vm1 m.L, Fact.sl SegS vl1 l, Fact.sl u8S vb1 b]) [0, 1, 2, 8, 16] [0, 1] [0, 1, 2] rfl rfl rfl rfl ?_
 rcases Bool.eq_false_or_eq_true (in1 != (0 : Int)) with hg1 | hg1
 ·replace h := br_t hg1 h
  refine Tk_condT (congrArg (fun b => some (Value.bool b)) hg1) ?_
  refine Tk_seq ?_
  refine Tk_region ?_
  refine Tops_step rfl (OpT_move rfl rfl rfl rfl) ?_
  refine Tops_step rfl (OpT_assign rfl rfl rfl rfl) ?_
  refine Tops_step rfl (OpT_assign rfl rfl rfl rfl) ?_
  refine Tops_nil ?_
  refine Tk_wkS (fr' := [(6, some (vI (0 : Int))), (7, some (vI in1))]) (own' := [some (cellsR b_m 76 [vm1, vm2]), some (rowsX u8S false vm2 vsm1 m.B none)]) (shr' := [Fact.sl RegionS vm1 m.L]) [6, 7] [0, 1] [0] rfl rfl rfl rfl ?_
  obtain rfl := Option.some.inj h
  exact Tk_retV rfl rfl (resA (vs := [vI (0 : Int), vI in1]) rfl ⟨rfl, rfl, trivial⟩) [0, 1] [] rfl rfl rfl ⟨rfl, rfl, rfl⟩
 ·replace h := br_f hg1 h
  refine Tk_condF (congrArg (fun b => some (Value.bool b)) hg1) ?_
  refine Tk_skip ?_
  refine Tk_seq ?_
  refine Tk_region ?_
  refine Tops_step rfl (OpT_assign rfl rfl rfl rfl) ?_
  refine Tops_nil ?_
  refine Tk_wkS (fr' := [(0, some (.pointer (some ⟨b_m, 0, none⟩))), (1, some (vl1)), (2, some (vb1)), (9, some (vI (0 : Int)))]) (own' := [some (cellsR b_m 76 [vm1, vm2]), some (rowsX u8S false vm2 vsm1 m.B none)]) (shr' := [Fact.sl RegionS vm1 m.L, Fact.sl SegS vl1 l, Fact.sl u8S vb1 b]) [0, 1, 2, 9] [0, 1] [0, 1, 2] rfl rfl rfl rfl ?_
  refine Tk_seq ?_
  refine Tk_seq ?_
  refine Tk_region ?_
  refine Tops_step rfl (OpT_assign rfl rfl rfl rfl) ?_
  refine Tops_nil ?_
  refine Tk_block ?_
  refine Tk_loopS (σ := (List (List UInt8)) × Int × Int) [0, 1, 2, 9, 10] [0, 1] [0, 1, 2] (fun s => ⟨[(0, some (.pointer (some ⟨b_m, 0, none⟩))), (1, some (vl1)), (2, some (vb1)), (9, some (vI s.2.1)), (10, some (vI s.2.2))], [some (cellsR b_m 76 [vm1, vm2]), some (rowsX u8S false vm2 vsm1 s.1 none)], [Fact.sl RegionS vm1 m.L, Fact.sl SegS vl1 l, Fact.sl u8S vb1 b]⟩) (fun nf s => ref_Scatter05L1 m l b nf s.1 s.2.1 s.2.2 = some r) fuel (m.B, (0 : Int), (0 : Int)) h rfl rfl rfl rfl rfl (fun s h => by cases h) ?_
  rintro nf ⟨rows1, n1, i1⟩ h
  replace h : ref_Scatter05L1B m l b (ref_Scatter05L1 m l b nf) rows1 n1 i1 = some r := h
  unfold ref_Scatter05L1B at h
  refine Tk_seq ?_
  refine Tk_seq ?_
  refine Tk_region ?_
  refine Tops_step rfl (OpT_move rfl rfl rfl rfl) ?_
  refine Tops_step rfl (OpT_move rfl rfl rfl rfl) ?_
  refine Tops_step rfl (OpT_lenS rfl rfl rfl rfl Try.underlying22 (i := 1) rfl) ?_
  refine Tops_step rfl (OpT_bin rfl rfl rfl rfl rfl (bin_lss_i (a := i1) (b := len l))) ?_
  refine Tops_nil ?_
  refine Tk_wkS (fr' := [(0, some (.pointer (some ⟨b_m, 0, none⟩))), (1, some (vl1)), (2, some (vb1)), (9, some (vI n1)), (10, some (vI i1)), (21, some (vB (decide (i1 < (len l)))))]) (own' := [some (cellsR b_m 76 [vm1, vm2]), some (rowsX u8S false vm2 vsm1 rows1 none)]) (shr' := [Fact.sl RegionS vm1 m.L, Fact.sl SegS vl1 l, Fact.sl u8S vb1 b]) [0, 1, 2, 9, 10, 21] [0, 1] [0, 1, 2] rfl rfl rfl rfl ?_
  rcases Bool.eq_false_or_eq_true (decide (i1 < (len l))) with hg2 | hg2
  ·replace h := br_t hg2 h
   refine Tk_condT (congrArg (fun b => some (Value.bool b)) hg2) ?_
   refine Tk_skip ?_
   refine Tk_seq ?_
   refine Tk_join (α := (List (List UInt8)) × Int) (fun s => ⟨[(0, some (.pointer (some ⟨b_m, 0, none⟩))), (1, some (vl1)), (2, some (vb1)), (9, some (vI s.2)), (10, some (vI i1))], [some (cellsR b_m 76 [vm1, vm2]), some (rowsX u8S false vm2 vsm1 s.1 none)], [Fact.sl RegionS vm1 m.L, Fact.sl SegS vl1 l, Fact.sl u8S vb1 b]⟩) (fun s => ref_Scatter05J2 i1 (ref_Scatter05L1 m l b nf) s.1 s.2 = some r) ?_ ?_
   ·rintro ⟨rows2, n2⟩ h
    replace h : ref_Scatter05J2 i1 (ref_Scatter05L1 m l b nf) rows2 n2 = some r := h
    unfold ref_Scatter05J2 at h
    refine Tk_region ?_
    refine Tops_step rfl (OpT_move rfl rfl rfl rfl) ?_
    refine Tops_step rfl (OpT_bin rfl rfl rfl rfl rfl (bin_add_i (a := i1) (b := (1 : Int)))) ?_
    refine Tops_step rfl (OpT_assign rfl rfl rfl rfl) ?_
    refine Tops_nil ?_
    refine Tk_wkS (fr' := [(0, some (.pointer (some ⟨b_m, 0, none⟩))), (1, some (vl1)), (2, some (vb1)), (9, some (vI n2)), (10, some (vI (wi (i1 + (1 : Int)))))]) (own' := [some (cellsR b_m 76 [vm1, vm2]), some (rowsX u8S false vm2 vsm1 rows2 none)]) (shr' := [Fact.sl RegionS vm1 m.L, Fact.sl SegS vl1 l, Fact.sl u8S vb1 b]) [0, 1, 2, 9, 10] [0, 1] [0, 1, 2] rfl rfl rfl rfl ?_
    exact Tk_backS (rows2, n2, wi (i1 + (1 : Int))) h [0, 1, 2, 9, 10] [0, 1] [0, 1, 2] rfl rfl rfl rfl rfl
   ·intro HJ1
    refine Tk_block ?_
    refine Tk_seq ?_
    refine Tk_region ?_
    refine Tops_step rfl (OpT_move rfl rfl rfl rfl) ?_
    refine Tops_step rfl (OpT_move rfl rfl rfl rfl) ?_
    obtain ⟨s1, hx2, h⟩ := ob_e h
    refine Tops_ex rfl (OpT_idxS rfl rfl rfl rfl rfl slF22 (i := 1) rfl hx2) fun p1 => ?_
    refine Tops_ex rfl (OpT_fieldP (S' := bS) (y := s1.Write) rfl rfl rfl rfl fldF47x2 (i := 3) rfl (by intro h cs hr; subst hr; rfl)) fun p2 => ?_
    refine Tops_step rfl (OpT_loadP rfl rfl rfl rfl tyF4 (i := 4) rfl rfl) ?_
    refine Tops_nil ?_
    refine Tk_wkS (fr' := [(0, some (.pointer (some ⟨b_m, 0, none⟩))), (1, some (vl1)), (2, some (vb1)), (9, some (vI n1)), (10, some (vI i1)), (28, some (vB s1.Write))]) (own' := [some (cellsR b_m 76 [vm1, vm2]), some (rowsX u8S false vm2 vsm1 rows1 none)]) (shr' := [Fact.sl RegionS vm1 m.L, Fact.sl SegS vl1 l, Fact.sl u8S vb1 b]) [0, 1, 2, 9, 10, 28] [0, 1] [0, 1, 2] rfl rfl rfl rfl ?_
    refine Tk_join (α := (List (List UInt8)) × Int) (fun s => ⟨[(0, some (.pointer (some ⟨b_m, 0, none⟩))), (1, some (vl1)), (2, some (vb1)), (9, some (vI s.2)), (10, some (vI i1))], [some (cellsR b_m 76 [vm1, vm2]), some (rowsX u8S false vm2 vsm1 s.1 none)], [Fact.sl RegionS vm1 m.L, Fact.sl SegS vl1 l, Fact.sl u8S vb1 b]⟩) (fun s => ref_Scatter05J3 i1 (ref_Scatter05L1 m l b nf) s.1 s.2 = some r) ?_ ?_
    ·rintro ⟨rows3, n3⟩ h
     replace h : ref_Scatter05J3 i1 (ref_Scatter05L1 m l b nf) rows3 n3 = some r := h
     unfold ref_Scatter05J3 at h
     refine Tk_blk ?_
     exact Tk_jmpS (HJ1 (rows3, n3) h) [0, 1, 2, 9, 10] [0, 1] [0, 1, 2] rfl rfl rfl rfl
    ·intro HJ2
     rcases Bool.eq_false_or_eq_true (s1.Write) with hg3 | hg3
     ·replace h := br_t hg3 h
      refine Tk_condT (congrArg (fun b => some (Value.bool b)) hg3) ?_
      refine Tk_seq ?_
      refine Tk_region ?_
      refine Tops_step rfl (OpT_move rfl rfl rfl rfl) ?_
      refine Tops_step rfl (OpT_lenS rfl rfl rfl rfl Try.underlying33 (i := 2) rfl) ?_
      refine Tops_step rfl (OpT_move rfl rfl rfl rfl) ?_
      refine Tops_step rfl (OpT_bin rfl rfl rfl rfl rfl (bin_sub_i (a := len b) (b := n1))) ?_
      refine Tops_step rfl (OpT_move rfl rfl rfl rfl) ?_
      refine Tops_step rfl (OpT_move rfl rfl rfl rfl) ?_
      obtain ⟨s2, hx3, h⟩ := ob_e h
      refine Tops_ex rfl (OpT_idxS rfl rfl rfl rfl rfl slF22 (i := 1) rfl hx3) fun p3 => ?_
      refine Tops_ex rfl (OpT_fieldP (S' := u32S) (y := s2.Len) rfl rfl rfl rfl fldF47x1 (i := 3) rfl (by intro h cs hr; subst hr; rfl)) fun p4 => ?_
      refine Tops_step rfl (OpT_loadP rfl rfl rfl rfl tyF45 (i := 4) rfl rfl) ?_
      refine Tops_step rfl (OpT_cnv rfl rfl rfl rfl (cnv_u32_i (n := s2.Len) Try.underlying45 Try.underlying3)) ?_
      refine Tops_step rfl (OpT_min_i (u := wi ((len b) - n1)) (v := i32 s2.Len) rfl rfl rfl rfl rfl) ?_
      refine Tops_step rfl (OpT_assign rfl rfl rfl rfl) ?_
      refine Tops_nil ?_
      refine Tk_wkS (fr' := [(0, some (.pointer (some ⟨b_m, 0, none⟩))), (1, some (vl1)), (2, some (vb1)), (9, some (vI n1)), (10, some (vI i1)), (11, some (vI (mini (wi ((len b) - n1)) (i32 s2.Len))))]) (own' := [some (cellsR b_m 76 [vm1, vm2]), some (rowsX u8S false vm2 vsm1 rows1 none)]) (shr' := [Fact.sl RegionS vm1 m.L, Fact.sl SegS vl1 l, Fact.sl u8S vb1 b]) [0, 1, 2, 9, 10, 11] [0, 1] [0, 1, 2] rfl rfl rfl rfl ?_
      refine Tk_seq ?_
      refine Tk_drawT (by kernel_rfl) ?_
      refine TA_tb [0, 0, 0, 6, 14, 30, 0, 0, 0, 0, 768, 1984, 4095] (by kernel_rfl) fun htb => ?_
      obtain ⟨s3, hx4, h⟩ := ob_e h
      obtain ⟨hc1, h⟩ := chk_e h
      refine TA_seg (lo := 0) (hi := 12) htb rfl rfl (by kernel_rfl) (fun c L a w => ∃ (p5 : Value), ∃ (p6 : Value), ∃ (v1 : Value), Sat c ⟨[(0, some (.pointer (some ⟨b_m, 0, none⟩))), (1, some (vl1)), (2, some (vb1)), (9, some (vI n1)), (10, some (vI i1)), (11, some (vI (mini (wi ((len b) - n1)) (i32 s2.Len)))), (40, bif L 0 then some (.pointer (some ⟨b_m, 0, none⟩)) else none), (41, bif L 1 then some (vl1) else none), (42, bif L 2 then some (vI i1) else none), (43, bif L 3 then some (p5) else none), (44, bif L 4 then some (p6) else none), (45, bif L 5 then some (vU64 s3.At) else none), (46, bif L 6 then some (vb1) else none), (47, bif L 7 then some (vI n1) else none), (48, bif L 8 then some (vI n1) else none), (49, bif L 9 then some (vI (mini (wi ((len b) - n1)) (i32 s2.Len))) else none), (50, bif L 10 then some (vI (wi (n1 + (mini (wi ((len b) - n1)) (i32 s2.Len))))) else none), (51, bif L 11 then some (v1) else none)], [(some (cellsR b_m 76 [vm1, vm2]) : Option Res), (some (rowsX u8S false vm2 vsm1 rows1 none) : Option Res)], [Fact.sl RegionS vm1 m.L, Fact.sl SegS vl1 l, Fact.sl u8S vb1 b, (bif L 3 then Fact.pt SegS p5 s3 else Fact.tt), (bif L 4 then Fact.pt u64S p6 s3.At else Fact.tt), (bif L 11 then Fact.sl u8S v1 (sub b n1 (wi (n1 + (mini (wi ((len b) - n1)) (i32 s2.Len))))) else Fact.tt)]⟩ a w) [([], []), ([], [3, 4, 5]), ([], [3, 4, 5]), ([1, 2], [4, 5]), ([1, 2, 3], [5]), ([1, 2, 3, 4], []), ([], [11]), ([], [11]), ([], [10, 11]), ([], [10, 11]), ([8, 9], [11]), ([6, 7, 8, 9, 10], [])] rfl (by kernel_rfl) ?_ (steps_cons ?_ (steps_cons ?_ (steps_cons ?_ (steps_cons ?_ (steps_cons ?_ (steps_cons ?_ (steps_cons ?_ (steps_cons ?_ (steps_cons ?_ (steps_cons ?_ (steps_cons ?_ (steps_cons ?_ (steps_nil))))))))))))) ?_
      ·intro a w hs
       exact ⟨undef, undef, undef, hs.startF [40, 41, 42, 43, 44, 45, 46, 47, 48, 49, 50, 51] [0, 1] [0, 1, 2, 3, 4, 5] rfl rfl rfl rfl⟩
      ·intro L a w hv K Q hK
       obtain ⟨p5, p6, v1, hs⟩ := hv
       refine wpOp_go rfl rfl hs (OpT_move rfl rfl rfl rfl) ?_
       rintro _ rfl a' w' hs'
       exact hK a' w' ⟨p5, p6, v1, hs'.putF (i := 6) rfl [0, 1] [0, 1, 2, 3, 4, 5] rfl rfl rfl rfl⟩
      ·intro L a w hv K Q hK
       obtain ⟨p5, p6, v1, hs⟩ := hv
       refine wpOp_go rfl rfl hs (OpT_move rfl rfl rfl rfl) ?_
       rintro _ rfl a' w' hs'
       exact hK a' w' ⟨p5, p6, v1, hs'.putF (i := 7) rfl [0, 1] [0, 1, 2, 3, 4, 5] rfl rfl rfl rfl⟩
      ·intro L a w hv K Q hK
       obtain ⟨p5, p6, v1, hs⟩ := hv
       refine wpOp_go rfl rfl hs (OpT_move rfl rfl rfl rfl) ?_
       rintro _ rfl a' w' hs'
       exact hK a' w' ⟨p5, p6, v1, hs'.putF (i := 8) rfl [0, 1] [0, 1, 2, 3, 4, 5] rfl rfl rfl rfl⟩
      ·intro L a w hv K Q hK
       obtain ⟨p5, p6, v1, hs⟩ := hv
       refine wpOp_go rfl rfl hs (OpT_idxS rfl rfl rfl rfl rfl slF22 (i := 1) rfl hx4) ?_
       rintro _ ⟨p5', rfl⟩ a' w' hs'
       exact hK a' w' ⟨p5', p6, v1, hs'.putF (i := 9) rfl [0, 1] [0, 1, 2, 6, 4, 5] rfl rfl rfl rfl⟩
      ·intro L a w hv K Q hK
       obtain ⟨p5, p6, v1, hs⟩ := hv
       refine wpOp_go rfl rfl hs (OpT_fieldP (S' := u64S) (y := s3.At) rfl rfl rfl rfl fldF47x0 (i := 3) rfl (by intro h cs hr; subst hr; rfl)) ?_
       rintro _ ⟨p6', rfl⟩ a' w' hs'
       exact hK a' w' ⟨p5, p6', v1, hs'.putF (i := 10) rfl [0, 1] [0, 1, 2, 3, 6, 5] rfl rfl rfl rfl⟩
      ·intro L a w hv K Q hK
       obtain ⟨p5, p6, v1, hs⟩ := hv
       refine wpOp_go rfl rfl hs (OpT_loadP rfl rfl rfl rfl tyF23 (i := 4) rfl rfl) ?_
       rintro _ rfl a' w' hs'
       exact hK a' w' ⟨p5, p6, v1, hs'.putF (i := 11) rfl [0, 1] [0, 1, 2, 3, 4, 5] rfl rfl rfl rfl⟩
      ·intro L a w hv K Q hK
       obtain ⟨p5, p6, v1, hs⟩ := hv
       refine wpOp_go rfl rfl hs (OpT_move rfl rfl rfl rfl) ?_
       rintro _ rfl a' w' hs'
       exact hK a' w' ⟨p5, p6, v1, hs'.putF (i := 12) rfl [0, 1] [0, 1, 2, 3, 4, 5] rfl rfl rfl rfl⟩
      ·intro L a w hv K Q hK
       obtain ⟨p5, p6, v1, hs⟩ := hv
       refine wpOp_go rfl rfl hs (OpT_move rfl rfl rfl rfl) ?_
       rintro _ rfl a' w' hs'
       exact hK a' w' ⟨p5, p6, v1, hs'.putF (i := 13) rfl [0, 1] [0, 1, 2, 3, 4, 5] rfl rfl rfl rfl⟩
      ·intro L a w hv K Q hK
       obtain ⟨p5, p6, v1, hs⟩ := hv
       refine wpOp_go rfl rfl hs (OpT_move rfl rfl rfl rfl) ?_
       rintro _ rfl a' w' hs'
       exact hK a' w' ⟨p5, p6, v1, hs'.putF (i := 14) rfl [0, 1] [0, 1, 2, 3, 4, 5] rfl rfl rfl rfl⟩
      ·intro L a w hv K Q hK
       obtain ⟨p5, p6, v1, hs⟩ := hv
       refine wpOp_go rfl rfl hs (OpT_move rfl rfl rfl rfl) ?_
       rintro _ rfl a' w' hs'
       exact hK a' w' ⟨p5, p6, v1, hs'.putF (i := 15) rfl [0, 1] [0, 1, 2, 3, 4, 5] rfl rfl rfl rfl⟩
      ·intro L a w hv K Q hK
       obtain ⟨p5, p6, v1, hs⟩ := hv
       refine wpOp_go rfl rfl hs (OpT_bin rfl rfl rfl rfl rfl (bin_add_i (a := n1) (b := mini (wi ((len b) - n1)) (i32 s2.Len)))) ?_
       rintro _ rfl a' w' hs'
       exact hK a' w' ⟨p5, p6, v1, hs'.putF (i := 16) rfl [0, 1] [0, 1, 2, 3, 4, 5] rfl rfl rfl rfl⟩
      ·intro L a w hv K Q hK
       obtain ⟨p5, p6, v1, hs⟩ := hv
       refine wpOp_go rfl rfl hs (OpT_sliceLH (l := n1) (m := wi (n1 + (mini (wi ((len b) - n1)) (i32 s2.Len)))) rfl rfl rfl rfl rfl rfl slF33 (i := 2) rfl hc1) ?_
       rintro _ ⟨v1', rfl⟩ a' w' hs'
       exact hK a' w' ⟨p5, p6, v1', hs'.putF (i := 17) rfl [0, 1] [0, 1, 2, 3, 4, 6] rfl rfl rfl rfl⟩
      ·intro L a w hL hv
       rw [allTrue hL] at hv
       obtain ⟨p5, p6, v1, hs⟩ := hv
       refine (show TA _ _ _ 12 ⟨[(0, some (.pointer (some ⟨b_m, 0, none⟩))), (1, some (vl1)), (2, some (vb1)), (9, some (vI n1)), (10, some (vI i1)), (11, some (vI (mini (wi ((len b) - n1)) (i32 s2.Len)))), (40, some (.pointer (some ⟨b_m, 0, none⟩))), (45, some (vU64 s3.At)), (51, some (v1))], [some (cellsR b_m 76 [vm1, vm2]), some (rowsX u8S false vm2 vsm1 rows1 none)], [Fact.sl RegionS vm1 m.L, Fact.sl SegS vl1 l, Fact.sl u8S vb1 b, Fact.sl u8S v1 (sub b n1 (wi (n1 + (mini (wi ((len b) - n1)) (i32 s2.Len)))))]⟩ from ?_) a w (hs.wkS [0, 1, 2, 9, 10, 11, 40, 45, 51] [0, 1] [0, 1, 2, 5] rfl rfl rfl rfl)
       clear hs hL
       obtain ⟨write1, hx5, h⟩ := ob_e h
       refine TA_exP htb (by kernel_rfl) rfl rfl (OpT_callP [2, 3] (w_ref_Mem_Write02 hx5) [0, 1] [0, 3] rfl rfl rfl rfl rfl callee48 rfl rfl rfl rfl rfl) ?_
       rintro _ ⟨_, _, _, ⟨rfl, rfl, rfl⟩, rfl⟩
       refine TA_end rfl ?_
       refine Tk_wkS (fr' := [(0, some (.pointer (some ⟨b_m, 0, none⟩))), (1, some (vl1)), (2, some (vb1)), (9, some (vI n1)), (10, some (vI i1)), (11, some (vI (mini (wi ((len b) - n1)) (i32 s2.Len))))]) (own' := [some (cellsR b_m 76 [vm1, vm2]), some (rowsX u8S false vm2 vsm1 write1.2 none)]) (shr' := [Fact.sl RegionS vm1 m.L, Fact.sl SegS vl1 l, Fact.sl u8S vb1 b]) [0, 1, 2, 9, 10, 11] [0, 1] [0, 1, 2] rfl rfl rfl rfl ?_
       refine Tk_region ?_
       refine Tops_step rfl (OpT_move rfl rfl rfl rfl) ?_
       refine Tops_step rfl (OpT_move rfl rfl rfl rfl) ?_
       refine Tops_step rfl (OpT_bin rfl rfl rfl rfl rfl (bin_add_i (a := n1) (b := mini (wi ((len b) - n1)) (i32 s2.Len)))) ?_
       refine Tops_step rfl (OpT_assign rfl rfl rfl rfl) ?_
       refine Tops_nil ?_
       refine Tk_wkS (fr' := [(0, some (.pointer (some ⟨b_m, 0, none⟩))), (1, some (vl1)), (2, some (vb1)), (9, some (vI (wi (n1 + (mini (wi ((len b) - n1)) (i32 s2.Len)))))), (10, some (vI i1))]) (own' := [some (cellsR b_m 76 [vm1, vm2]), some (rowsX u8S false vm2 vsm1 write1.2 none)]) (shr' := [Fact.sl RegionS vm1 m.L, Fact.sl SegS vl1 l, Fact.sl u8S vb1 b]) [0, 1, 2, 9, 10] [0, 1] [0, 1, 2] rfl rfl rfl rfl ?_
       exact Tk_jmpS (HJ2 (write1.2, wi (n1 + (mini (wi ((len b) - n1)) (i32 s2.Len)))) h) [0, 1, 2, 9, 10] [0, 1] [0, 1, 2] rfl rfl rfl rfl
     ·replace h := br_f hg3 h
      refine Tk_condF (congrArg (fun b => some (Value.bool b)) hg3) ?_
      refine Tk_skip ?_
      exact Tk_jmpS (HJ2 (rows1, n1) h) [0, 1, 2, 9, 10] [0, 1] [0, 1, 2] rfl rfl rfl rfl
  ·replace h := br_f hg2 h
   refine Tk_condF (congrArg (fun b => some (Value.bool b)) hg2) ?_
   refine Tk_exit _ rfl ?_
   refine Tk_seq ?_
   refine Tk_region ?_
   refine Tops_step rfl (OpT_move rfl rfl rfl rfl) ?_
   refine Tops_step rfl (OpT_assign rfl rfl rfl rfl) ?_
   refine Tops_step rfl (OpT_assign rfl rfl rfl rfl) ?_
   refine Tops_nil ?_
   refine Tk_wkS (fr' := [(6, some (vI n1)), (7, some (vI (0 : Int)))]) (own' := [some (cellsR b_m 76 [vm1, vm2]), some (rowsX u8S false vm2 vsm1 rows1 none)]) (shr' := [Fact.sl RegionS vm1 m.L]) [6, 7] [0, 1] [0] rfl rfl rfl rfl ?_
   obtain rfl := Option.some.inj h
   exact Tk_retV rfl rfl (resA (vs := [vI n1, vI (0 : Int)]) rfl ⟨rfl, rfl, trivial⟩) [0, 1] [] rfl rfl rfl ⟨rfl, rfl, rfl⟩

set_option maxRecDepth 100000 in
set_option maxHeartbeats 4000000 in
theorem w_ref_Mem_Read02 {m : dumbwaiterref02_Mem} {atp1 : UInt64} {np2 : Int} {b_m : Nat} {vm1 : Value} {vm2 : Value} {vsm1 : List Value} {r : ((List UInt8) × Int)} (h : ref_Mem_Read02 m atp1 np2 = some r) :
  Ctr Try.prog 49 #[.pointer (some ⟨b_m, 0, none⟩), vU64 atp1, vI np2] [(cellsR b_m 76 [vm1, vm2]), (rowsX u8S false vm2 vsm1 m.B none)] [Fact.sl RegionS vm1 m.L]
   (fun rv own shr => ∃ (w1 : Value), rv = .tuple #[w1, vI r.2] ∧ own = [(cellsR b_m 76 [vm1, vm2]), (rowsX u8S false vm2 vsm1 m.B none), (rowS u8S w1 r.1)] ∧ shr = []) := by
 unfold ref_Mem_Read02 at h
 refine Ctr.mk (args := [.pointer (some ⟨b_m, 0, none⟩), vU64 atp1, vI np2]) Try.func49 rfl rfl (fun R0 w0 B => ?_)
 refine Tk_seq ?_
 refine Tk_region ?_
 refine Tops_step rfl (OpT_assign rfl rfl rfl rfl) ?_
 refine Tops_step rfl (OpT_assign rfl rfl rfl rfl) ?_
 refine Tops_nil ?_
 refine Tk_wkS (fr' := [(0, some (.pointer (some ⟨b_m, 0, none⟩))), (1, some (vU64 atp1)), (2, some (vI np2))]) (own' := [some (cellsR b_m 76 [vm1, vm2]), some (rowsX u8S false vm2 vsm1 m.B none)]) (shr' := [Fact.sl RegionS vm1 m.L]) [0, 1, 2] [0, 1] [0] rfl rfl rfl rfl ?_
 refine Tk_seq ?_
 refine Tk_seq ?_
 refine Tk_region ?_
 refine Tops_step rfl (OpT_move rfl rfl rfl rfl) ?_
 refine Tops_step rfl (OpT_bin rfl rfl rfl rfl rfl (bin_lss_i (a := np2) (b := (0 : Int)))) ?_
 refine Tops_nil ?_
 refine Tk_wkS (fr' := [(0, some (.pointer (some ⟨b_m, 0, none⟩))), (1, some (vU64 atp1)), (2, some (vI np2)), (11, some (vB (decide (np2 < (0 : Int)))))]) (own' := [some (cellsR b_m 76 [vm1, vm2]), some (rowsX u8S false vm2 vsm1 m.B none)]) (shr' := [Fact.sl RegionS vm1 m.L]) [0, 1, 2, 11] [0, 1] [0] rfl rfl rfl rfl ?_
 rcases Bool.eq_false_or_eq_true (decide (np2 < (0 : Int))) with hg1 | hg1
 ·replace h := br_t hg1 h
  refine Tk_condT (congrArg (fun b => some (Value.bool b)) hg1) ?_
  refine Tk_seq ?_
  refine Tk_region ?_
  refine Tops_step rfl (OpT_assign rfl rfl rfl rfl) ?_
  refine Tops_step rfl (OpT_assign rfl rfl rfl rfl) ?_
  refine Tops_nil ?_
  refine Tk_wkS (fr' := [(6, some (.slice none 0 0)), (7, some (vI (2 : Int)))]) (own' := [some (cellsR b_m 76 [vm1, vm2]), some (rowsX u8S false vm2 vsm1 m.B none)]) (shr' := [Fact.sl RegionS vm1 m.L]) [6, 7] [0, 1] [0] rfl rfl rfl rfl ?_
  refine Tk_nilrow u8S ?_
  obtain rfl := Option.some.inj h
  exact Tk_retV rfl rfl (resA (vs := [.slice none 0 0, vI (2 : Int)]) rfl ⟨rfl, rfl, trivial⟩) [0, 1, 2] [] rfl rfl rfl ⟨(.slice none 0 0), rfl, rfl, rfl⟩
 ·replace h := br_f hg1 h
  refine Tk_condF (congrArg (fun b => some (Value.bool b)) hg1) ?_
  refine Tk_skip ?_
  refine Tk_seq ?_
  refine Tk_seq ?_
  refine Tk_region ?_
  refine Tops_step rfl (OpT_move rfl rfl rfl rfl) ?_
  refine Tops_step rfl (OpT_bin rfl rfl rfl rfl rfl (bin_eql_i (a := np2) (b := (0 : Int)))) ?_
  refine Tops_nil ?_
  refine Tk_wkS (fr' := [(0, some (.pointer (some ⟨b_m, 0, none⟩))), (1, some (vU64 atp1)), (2, some (vI np2)), (13, some (vB (np2 == (0 : Int))))]) (own' := [some (cellsR b_m 76 [vm1, vm2]), some (rowsX u8S false vm2 vsm1 m.B none)]) (shr' := [Fact.sl RegionS vm1 m.L]) [0, 1, 2, 13] [0, 1] [0] rfl rfl rfl rfl ?_
  rcases Bool.eq_false_or_eq_true (np2 == (0 : Int)) with hg2 | hg2
  ·replace h := br_t hg2 h
   refine Tk_condT (congrArg (fun b => some (Value.bool b)) hg2) ?_
   refine Tk_seq ?_
   refine Tk_region ?_
   refine Tops_step rfl (OpT_assign rfl rfl rfl rfl) ?_
   refine Tops_step rfl (OpT_assign rfl rfl rfl rfl) ?_
   refine Tops_nil ?_
   refine Tk_wkS (fr' := [(6, some (.slice none 0 0)), (7, some (vI (0 : Int)))]) (own' := [some (cellsR b_m 76 [vm1, vm2]), some (rowsX u8S false vm2 vsm1 m.B none)]) (shr' := [Fact.sl RegionS vm1 m.L]) [6, 7] [0, 1] [0] rfl rfl rfl rfl ?_
   refine Tk_nilrow u8S ?_
   obtain rfl := Option.some.inj h
   exact Tk_retV rfl rfl (resA (vs := [.slice none 0 0, vI (0 : Int)]) rfl ⟨rfl, rfl, trivial⟩) [0, 1, 2] [] rfl rfl rfl ⟨(.slice none 0 0), rfl, rfl, rfl⟩
  ·replace h := br_f hg2 h
   refine Tk_condF (congrArg (fun b => some (Value.bool b)) hg2) ?_
   refine Tk_skip ?_
   refine Tk_seq ?_
   refine Tk_region ?_
   refine Tops_step rfl (OpT_move rfl rfl rfl rfl) ?_
   refine Tops_step rfl (OpT_move rfl rfl rfl rfl) ?_
   refine Tops_step rfl (OpT_move rfl rfl rfl rfl) ?_
   refine Tops_step rfl (OpT_cnv rfl rfl rfl rfl (cnv_i_u64 (n := np2) Try.underlying3 Try.underlying23)) ?_
   obtain ⟨find1, hx1, h⟩ := ob_e h
   refine Tops_exP rfl (OpT_callP [2, 3] (w_ref_Mem_find02 hx1) [0, 1] [0] rfl rfl rfl rfl rfl callee53 rfl rfl rfl rfl rfl) ?_
   rintro _ ⟨_, _, _, ⟨rfl, rfl, rfl⟩, rfl⟩
   refine Tops_step rfl (OpT_move rfl rfl rfl rfl) ?_
   refine Tops_step rfl (OpT_extract rfl rfl rfl rfl rfl) ?_
   refine Tops_step rfl (OpT_extract rfl rfl rfl rfl rfl) ?_
   refine Tops_step rfl (OpT_assign rfl rfl rfl rfl) ?_
   refine Tops_step rfl (OpT_assign rfl rfl rfl rfl) ?_
   refine Tops_nil ?_
   refine Tk_wkS (fr' := [(0, some (.pointer (some ⟨b_m, 0, none⟩))), (2, some (vI np2)), (8, some (vI find1.1)), (9, some (vI find1.2))]) (own' := [some (cellsR b_m 76 [vm1, vm2]), some (rowsX u8S false vm2 vsm1 m.B none)]) (shr' := [Fact.sl RegionS vm1 m.L]) [0, 2, 8, 9] [0, 1] [0] rfl rfl rfl rfl ?_
   refine Tk_seq ?_
   refine Tk_seq ?_
   refine Tk_region ?_
   refine Tops_step rfl (OpT_move rfl rfl rfl rfl) ?_
   refine Tops_step rfl (OpT_bin rfl rfl rfl rfl rfl (bin_lss_i (a := find1.1) (b := (0 : Int)))) ?_
   refine Tops_nil ?_
   refine Tk_wkS (fr' := [(0, some (.pointer (some ⟨b_m, 0, none⟩))), (2, some (vI np2)), (8, some (vI find1.1)), (9, some (vI find1.2)), (23, some (vB (decide (find1.1 < (0 : Int)))))]) (own' := [some (cellsR b_m 76 [vm1, vm2]), some (rowsX u8S false vm2 vsm1 m.B none)]) (shr' := [Fact.sl RegionS vm1 m.L]) [0, 2, 8, 9, 23] [0, 1] [0] rfl rfl rfl rfl ?_
   rcases Bool.eq_false_or_eq_true (decide (find1.1 < (0 : Int))) with hg3 | hg3
   ·replace h := br_t hg3 h
    refine Tk_condT (congrArg (fun b => some (Value.bool b)) hg3) ?_
    refine Tk_seq ?_
    refine Tk_region ?_
    refine Tops_step rfl (OpT_assign rfl rfl rfl rfl) ?_
    refine Tops_step rfl (OpT_assign rfl rfl rfl rfl) ?_
    refine Tops_nil ?_
    refine Tk_wkS (fr' := [(6, some (.slice none 0 0)), (7, some (vI (5 : Int)))]) (own' := [some (cellsR b_m 76 [vm1, vm2]), some (rowsX u8S false vm2 vsm1 m.B none)]) (shr' := [Fact.sl RegionS vm1 m.L]) [6, 7] [0, 1] [0] rfl rfl rfl rfl ?_
    refine Tk_nilrow u8S ?_
    obtain rfl := Option.some.inj h
    exact Tk_retV rfl rfl (resA (vs := [.slice none 0 0, vI (5 : Int)]) rfl ⟨rfl, rfl, trivial⟩) [0, 1, 2] [] rfl rfl rfl ⟨(.slice none 0 0), rfl, rfl, rfl⟩
   ·replace h := br_f hg3 h
    refine Tk_condF (congrArg (fun b => some (Value.bool b)) hg3) ?_
    refine Tk_skip ?_
    refine Tk_seq ?_
    refine Tk_region ?_
    refine Tops_ex rfl (OpT_buildSlice (S := u8S) (xs := ([] : List UInt8)) (css := []) (cs := []) (e := 5) rfl rfl rfl rfl (bldF slF33 (by decide) (by kernel_rfl)) rfl rfl rfl rfl (rel_plainD (S := u8S) (xs := ([] : List UInt8)) (css := []) rfl rfl)) fun v1 => ?_
    refine Tops_step rfl (OpT_move rfl rfl rfl rfl) ?_
    refine Tops_step rfl (OpT_nilCheckP rfl rfl rfl rfl) ?_
    refine Tops_step rfl (OpT_fieldC rfl rfl rfl rfl fldF76x1) ?_
    refine Tops_step rfl (OpT_loadC rfl rfl rfl rfl tyF69 (i := 0) rfl rfl) ?_
    refine Tops_step rfl (OpT_move rfl rfl rfl rfl) ?_
    obtain ⟨row1, hx2, h⟩ := ob_e h
    refine Tops_step rfl (OpT_idxRows rfl rfl rfl rfl rfl slF69 (i := 1) rfl hx2) ?_
    refine Tops_vs (vs_focus (i := 1) (j := find1.1) rfl hx2) ?_
    refine Tops_step rfl (OpT_loadRow (m := find1.1) rfl rfl rfl rfl tyF33 (i := 1) rfl) ?_
    refine Tops_step rfl (OpT_move rfl rfl rfl rfl) ?_
    refine Tops_step rfl (OpT_move rfl rfl rfl rfl) ?_
    refine Tops_step rfl (OpT_move rfl rfl rfl rfl) ?_
    refine Tops_step rfl (OpT_bin rfl rfl rfl rfl rfl (bin_add_i (a := find1.2) (b := np2))) ?_
    obtain ⟨hc1, h⟩ := chk_e h
    refine Tops_step rfl (OpT_subLH (S := u8S) (l := find1.2) (m := wi (find1.2 + np2)) rfl rfl rfl rfl rfl rfl slF33 (i := 3) rfl hc1) ?_
    obtain ⟨hc2, h⟩ := chk_e h
    refine Tops_ex rfl (OpT_appendBs (S := u8S) (l := find1.2) (m := (wi (find1.2 + np2))) rfl rfl rfl rfl rfl rfl slF33 (i := 2) (j := 3) rfl rfl hc1 hc2) fun v2 => ?_
    refine Tops_step rfl (OpT_assign rfl rfl rfl rfl) ?_
    refine Tops_step rfl (OpT_assign rfl rfl rfl rfl) ?_
    refine Tops_nil ?_
    refine Tk_wkS (fr' := [(6, some (v2)), (7, some (vI (0 : Int)))]) (own' := [some (cellsR b_m 76 [vm1, vm2]), some (rowsX u8S false vm2 vsm1 m.B (some (Int.toNat find1.1, vsAt vsm1 (Int.toNat find1.1)))), some (rowS u8S v2 (sub row1 find1.2 (wi (find1.2 + np2)))), some (rowS u8S (vsAt vsm1 (Int.toNat find1.1)) row1)]) (shr' := [Fact.sl RegionS vm1 m.L]) [6, 7] [0, 1, 2, 3] [0] rfl rfl rfl rfl ?_
    refine Tk_vs (vs_unfocus0 (i := 1) (q := 3) rfl rfl rfl hx2) ?_
    obtain rfl := Option.some.inj h
    exact Tk_retV rfl rfl (resA (vs := [v2, vI (0 : Int)]) rfl ⟨rfl, rfl, trivial⟩) [0, 1, 2] [] rfl rfl rfl ⟨v2, rfl, rfl, rfl⟩

set_option maxRecDepth 100000 in
set_option maxHeartbeats 4000000 in
theorem w_ref_Gather05 {m : dumbwaiterref02_Mem} {l : List Seg} {b_m : Nat} {vm1 : Value} {vm2 : Value} {vsm1 : List Value} {vl1 : Value} {r : ((List UInt8) × Int)} (h : ref_Gather05 m l = some r) :
  Ctr Try.prog 33 #[.pointer (some ⟨b_m, 0, none⟩), vl1] [(cellsR b_m 76 [vm1, vm2]), (rowsX u8S false vm2 vsm1 m.B none)] [Fact.sl RegionS vm1 m.L, Fact.sl SegS vl1 l]
   (fun rv own shr => ∃ (w1 : Value), rv = .tuple #[w1, vI r.2] ∧ own = [(cellsR b_m 76 [vm1, vm2]), (rowsX u8S false vm2 vsm1 m.B none), (rowS u8S w1 r.1)] ∧ shr = []) := by
 unfold ref_Gather05 at h
 refine Ctr.mk (args := [.pointer (some ⟨b_m, 0, none⟩), vl1]) Try.func33 rfl rfl (fun R0 w0 B => ?_)
 refine Tk_seq ?_
 refine Tk_region ?_
 refine Tops_step rfl (OpT_assign rfl rfl rfl rfl) ?_
 refine Tops_step rfl (OpT_assign rfl rfl rfl rfl) ?_
 refine Tops_nil ?_
 refine Tk_wkS (fr' := [(0, some (.pointer (some ⟨b_m, 0, none⟩))), (1, some (vl1))]) (own' := [some (cellsR b_m 76 [vm1, vm2]), some (rowsX u8S false vm2 vsm1 m.B none)]) (shr' := [Fact.sl RegionS vm1 m.L, Fact.sl SegS vl1 l]) [0, 1] [0, 1] [0, 1] rfl rfl rfl rfl ?_
 refine Tk_seq ?_
 refine Tk_region ?_
 refine Tops_step rfl (OpT_move rfl rfl rfl rfl) ?_
 refine Tops_step rfl (OpT_move rfl rfl rfl rfl) ?_
 obtain ⟨in1, hx1, h⟩ := ob_e h
 refine Tops_exP rfl (OpT_callP [2, 3] (w_ref_In05 hx1) [0, 1] [0, 1] rfl rfl rfl rfl rfl callee27 rfl rfl rfl rfl rfl) ?_
 rintro _ ⟨_, _, _, ⟨rfl, rfl, rfl⟩, rfl⟩
 refine Tops_step rfl (OpT_assign rfl rfl rfl rfl) ?_
 refine Tops_nil ?_
 refine Tk_wkS (fr' := [(0, some (.pointer (some ⟨b_m, 0, none⟩))), (1, some (vl1)), (6, some (vI in1))]) (own' := [some (cellsR b_m 76 [vm1, vm2]), some (rowsX u8S false vm2 vsm1 m.B none)]) (shr' := [Fact.sl RegionS vm1 m.L, Fact.sl SegS vl1 l]) [0, 1, 6] [0, 1] [0, 1] rfl rfl rfl rfl ?_
 refine Tk_seq ?_
 refine Tk_seq ?_
 refine Tk_region ?_
 refine Tops_step rfl (OpT_move rfl rfl rfl rfl) ?_
 refine Tops_step rfl (OpT_bin rfl rfl rfl rfl rfl (bin_neq_i (a := in1) (b := (0 : Int)))) ?_
 refine Tops_nil ?_
 refine Tk_wkS (fr' := [(0, some (.pointer (some ⟨b_m, 0, none⟩))), (1, some (vl1)), (6, some (vI in1)), (15, some (vB (in1 != (0 : Int))))]) (own' := [some (cellsR b_m 76 [vm1, vm2]), some (rowsX u8S false vm2 vsm1 m.B none)]) (shr' := [Fact.sl RegionS vm1 m.L, Fact.sl SegS vl1 l]) [0, 1, 6, 15] [0, 1] [0, 1] rfl rfl rfl rfl ?_
 rcases Bool.eq_false_or_eq_true (in1 != (0 : Int)) with hg1 | hg1
 ·replace h := br_t hg1 h
  refine Tk_condT (congrArg (fun b => some (Value.bool b)) hg1) ?_
  refine Tk_seq ?_
  refine Tk_region ?_
  refine Tops_step rfl (OpT_move rfl rfl rfl rfl) ?_
  refine Tops_step rfl (OpT_assign rfl rfl rfl rfl) ?_
  refine Tops_step rfl (OpT_assign rfl rfl rfl rfl) ?_
  refine Tops_nil ?_
  refine Tk_wkS (fr' := [(4, some (.slice none 0 0)), (5, some (vI in1))]) (own' := [some (cellsR b_m 76 [vm1, vm2]), some (rowsX u8S false vm2 vsm1 m.B none)]) (shr' := [Fact.sl RegionS vm1 m.L]) [4, 5] [0, 1] [0] rfl rfl rfl rfl ?_
  refine Tk_nilrow u8S ?_
  obtain rfl := Option.some.inj h
  exact Tk_retV rfl rfl (resA (vs := [.slice none 0 0, vI in1]) rfl ⟨rfl, rfl, trivial⟩) [0, 1, 2] [] rfl rfl rfl ⟨(.slice none 0 0), rfl, rfl, rfl⟩
 ·replace h := br_f hg1 h
  refine Tk_condF (congrArg (fun b => some (Value.bool b)) hg1) ?_
  refine Tk_skip ?_
  refine Tk_seq ?_
  refine Tk_region ?_
  refine Tops_step rfl (OpT_assign rfl rfl rfl rfl) ?_
  refine Tops_nil ?_
  refine Tk_wkS (fr' := [(0, some (.pointer (some ⟨b_m, 0, none⟩))), (1, some (vl1)), (7, some (.slice none 0 0))]) (own' := [some (cellsR b_m 76 [vm1, vm2]), some (rowsX u8S false vm2 vsm1 m.B none)]) (shr' := [Fact.sl RegionS vm1 m.L, Fact.sl SegS vl1 l]) [0, 1, 7] [0, 1] [0, 1] rfl rfl rfl rfl ?_
  refine Tk_seq ?_
  refine Tk_seq ?_
  refine Tk_region ?_
  refine Tops_step rfl (OpT_assign rfl rfl rfl rfl) ?_
  refine Tops_nil ?_
  refine Tk_block ?_
  refine Tk_nilrow u8S ?_
  refine Tk_loopS (σ := (List UInt8) × Int × Value) [0, 1, 7, 8] [0, 1, 2] [0, 1] (fun s => ⟨[(0, some (.pointer (some ⟨b_m, 0, none⟩))), (1, some (vl1)), (7, some (s.2.2)), (8, some (vI s.2.1))], [some (cellsR b_m 76 [vm1, vm2]), some (rowsX u8S false vm2 vsm1 m.B none), some (rowS u8S s.2.2 s.1)], [Fact.sl RegionS vm1 m.L, Fact.sl SegS vl1 l]⟩) (fun nf s => ref_Gather05L1 m l nf s.1 s.2.1 = some r) fuel ([], (0 : Int), (.slice none 0 0)) h rfl rfl rfl rfl rfl (fun s h => by cases h) ?_
  rintro nf ⟨out1, i1, v1⟩ h
  replace h : ref_Gather05L1B m l (ref_Gather05L1 m l nf) out1 i1 = some r := h
  unfold ref_Gather05L1B at h
  refine Tk_seq ?_
  refine Tk_seq ?_
  refine Tk_region ?_
  refine Tops_step rfl (OpT_move rfl rfl rfl rfl) ?_
  refine Tops_step rfl (OpT_move rfl rfl rfl rfl) ?_
  refine Tops_step rfl (OpT_lenS rfl rfl rfl rfl Try.underlying22 (i := 1) rfl) ?_
  refine Tops_step rfl (OpT_bin rfl rfl rfl rfl rfl (bin_lss_i (a := i1) (b := len l))) ?_
  refine Tops_nil ?_
  refine Tk_wkS (fr' := [(0, some (.pointer (some ⟨b_m, 0, none⟩))), (1, some (vl1)), (7, some (v1)), (8, some (vI i1)), (20, some (vB (decide (i1 < (len l)))))]) (own' := [some (cellsR b_m 76 [vm1, vm2]), some (rowsX u8S false vm2 vsm1 m.B none), some (rowS u8S v1 out1)]) (shr' := [Fact.sl RegionS vm1 m.L, Fact.sl SegS vl1 l]) [0, 1, 7, 8, 20] [0, 1, 2] [0, 1] rfl rfl rfl rfl ?_
  rcases Bool.eq_false_or_eq_true (decide (i1 < (len l))) with hg2 | hg2
  ·replace h := br_t hg2 h
   refine Tk_condT (congrArg (fun b => some (Value.bool b)) hg2) ?_
   refine Tk_skip ?_
   refine Tk_seq ?_
   refine Tk_join (α := (List UInt8) × Value) (fun s => ⟨[(0, some (.pointer (some ⟨b_m, 0, none⟩))), (1, some (vl1)), (7, some (s.2)), (8, some (vI i1))], [some (cellsR b_m 76 [vm1, vm2]), some (rowsX u8S false vm2 vsm1 m.B none), some (rowS u8S s.2 s.1)], [Fact.sl RegionS vm1 m.L, Fact.sl SegS vl1 l]⟩) (fun s => ref_Gather05J2 i1 (ref_Gather05L1 m l nf) s.1 = some r) ?_ ?_
   ·rintro ⟨out2, v2⟩ h
    replace h : ref_Gather05J2 i1 (ref_Gather05L1 m l nf) out2 = some r := h
    unfold ref_Gather05J2 at h
    refine Tk_region ?_
    refine Tops_step rfl (OpT_move rfl rfl rfl rfl) ?_
    refine Tops_step rfl (OpT_bin rfl rfl rfl rfl rfl (bin_add_i (a := i1) (b := (1 : Int)))) ?_
    refine Tops_step rfl (OpT_assign rfl rfl rfl rfl) ?_
    refine Tops_nil ?_
    refine Tk_wkS (fr' := [(0, some (.pointer (some ⟨b_m, 0, none⟩))), (1, some (vl1)), (7, some (v2)), (8, some (vI (wi (i1 + (1 : Int)))))]) (own' := [some (cellsR b_m 76 [vm1, vm2]), some (rowsX u8S false vm2 vsm1 m.B none), some (rowS u8S v2 out2)]) (shr' := [Fact.sl RegionS vm1 m.L, Fact.sl SegS vl1 l]) [0, 1, 7, 8] [0, 1, 2] [0, 1] rfl rfl rfl rfl ?_
    exact Tk_backS (out2, wi (i1 + (1 : Int)), v2) h [0, 1, 7, 8] [0, 1, 2] [0, 1] rfl rfl rfl rfl rfl
   ·intro HJ1
    refine Tk_block ?_
    refine Tk_seq ?_
    refine Tk_region ?_
    refine Tops_step rfl (OpT_move rfl rfl rfl rfl) ?_
    refine Tops_step rfl (OpT_move rfl rfl rfl rfl) ?_
    obtain ⟨s1, hx2, h⟩ := ob_e h
    refine Tops_ex rfl (OpT_idxS rfl rfl rfl rfl rfl slF22 (i := 1) rfl hx2) fun p1 => ?_
    refine Tops_ex rfl (OpT_fieldP (S' := bS) (y := s1.Write) rfl rfl rfl rfl fldF47x2 (i := 2) rfl (by intro h cs hr; subst hr; rfl)) fun p2 => ?_
    refine Tops_step rfl (OpT_loadP rfl rfl rfl rfl tyF4 (i := 3) rfl rfl) ?_
    refine Tops_step rfl (OpT_not rfl rfl rfl rfl) ?_
    refine Tops_nil ?_
    refine Tk_wkS (fr' := [(0, some (.pointer (some ⟨b_m, 0, none⟩))), (1, some (vl1)), (7, some (v1)), (8, some (vI i1)), (28, some (vB (!s1.Write)))]) (own' := [some (cellsR b_m 76 [vm1, vm2]), some (rowsX u8S false vm2 vsm1 m.B none), some (rowS u8S v1 out1)]) (shr' := [Fact.sl RegionS vm1 m.L, Fact.sl SegS vl1 l]) [0, 1, 7, 8, 28] [0, 1, 2] [0, 1] rfl rfl rfl rfl ?_
    refine Tk_join (α := (List UInt8) × Value) (fun s => ⟨[(0, some (.pointer (some ⟨b_m, 0, none⟩))), (1, some (vl1)), (7, some (s.2)), (8, some (vI i1))], [some (cellsR b_m 76 [vm1, vm2]), some (rowsX u8S false vm2 vsm1 m.B none), some (rowS u8S s.2 s.1)], [Fact.sl RegionS vm1 m.L, Fact.sl SegS vl1 l]⟩) (fun s => ref_Gather05J3 i1 (ref_Gather05L1 m l nf) s.1 = some r) ?_ ?_
    ·rintro ⟨out3, v3⟩ h
     replace h : ref_Gather05J3 i1 (ref_Gather05L1 m l nf) out3 = some r := h
     unfold ref_Gather05J3 at h
     refine Tk_blk ?_
     exact Tk_jmpS (HJ1 (out3, v3) h) [0, 1, 7, 8] [0, 1, 2] [0, 1] rfl rfl rfl rfl
    ·intro HJ2
     rcases Bool.eq_false_or_eq_true ((!s1.Write)) with hg3 | hg3
     ·replace h := br_t hg3 h
      refine Tk_condT (congrArg (fun b => some (Value.bool b)) hg3) ?_
      refine Tk_seq ?_
      refine Tk_drawT (by kernel_rfl) ?_
      refine TA_tb [0, 0, 0, 6, 14, 30, 0, 0, 192, 448, 960, 1984, 4095, 8191, 16383, 16383, 32767, 131071] (by kernel_rfl) fun htb => ?_
      refine TA_wkS (fr' := [(0, some (.pointer (some ⟨b_m, 0, none⟩))), (1, some (vl1)), (7, some (v1)), (8, some (vI i1))]) (own' := [some (cellsR b_m 76 [vm1, vm2]), some (rowsX u8S false vm2 vsm1 m.B none), some (rowS u8S v1 out1)]) (shr' := [Fact.sl RegionS vm1 m.L, Fact.sl SegS vl1 l]) [0, 1, 7, 8] [0, 1, 2] [0, 1] rfl rfl rfl rfl ?_
      obtain ⟨s2, hx3, h⟩ := ob_e h
      obtain ⟨s3, hx4, h⟩ := ob_e h
      refine TA_seg (lo := 0) (hi := 12) htb rfl rfl (by kernel_rfl) (fun c L a w => ∃ (p3 : Value), ∃ (p4 : Value), ∃ (p5 : Value), ∃ (p6 : Value), Sat c ⟨[(0, some (.pointer (some ⟨b_m, 0, none⟩))), (1, some (vl1)), (7, some (v1)), (8, some (vI i1)), (30, bif L 0 then some (.pointer (some ⟨b_m, 0, none⟩)) else none), (31, bif L 1 then some (vl1) else none), (32, bif L 2 then some (vI i1) else none), (33, bif L 3 then some (p3) else none), (34, bif L 4 then some (p4) else none), (35, bif L 5 then some (vU64 s2.At) else none), (36, bif L 6 then some (vl1) else none), (37, bif L 7 then some (vI i1) else none), (38, bif L 8 then some (p5) else none), (39, bif L 9 then some (p6) else none), (40, bif L 10 then some (vU32 s3.Len) else none), (41, bif L 11 then some (vI (i32 s3.Len)) else none)], [(some (cellsR b_m 76 [vm1, vm2]) : Option Res), (some (rowsX u8S false vm2 vsm1 m.B none) : Option Res), (some (rowS u8S v1 out1) : Option Res)], [Fact.sl RegionS vm1 m.L, Fact.sl SegS vl1 l, (bif L 3 then Fact.pt SegS p3 s2 else Fact.tt), (bif L 4 then Fact.pt u64S p4 s2.At else Fact.tt), (bif L 8 then Fact.pt SegS p5 s3 else Fact.tt), (bif L 9 then Fact.pt u32S p6 s3.Len else Fact.tt)]⟩ a w) [([], []), ([], [3, 4, 5]), ([], [3, 4, 5]), ([1, 2], [4, 5]), ([1, 2, 3], [5]), ([1, 2, 3, 4], []), ([], [8, 9, 10, 11]), ([], [8, 9, 10, 11]), ([6, 7], [9, 10, 11]), ([6, 7, 8], [10, 11]), ([6, 7, 8, 9], [11]), ([6, 7, 8, 9, 10], [])] rfl (by kernel_rfl) ?_ (steps_cons ?_ (steps_cons ?_ (steps_cons ?_ (steps_cons ?_ (steps_cons ?_ (steps_cons ?_ (steps_cons ?_ (steps_cons ?_ (steps_cons ?_ (steps_cons ?_ (steps_cons ?_ (steps_cons ?_ (steps_nil))))))))))))) ?_
      ·intro a w hs
       exact ⟨undef, undef, undef, undef, hs.startF [30, 31, 32, 33, 34, 35, 36, 37, 38, 39, 40, 41] [0, 1, 2] [0, 1, 2, 3, 4, 5] rfl rfl rfl rfl⟩
      ·intro L a w hv K Q hK
       obtain ⟨p3, p4, p5, p6, hs⟩ := hv
       refine wpOp_go rfl rfl hs (OpT_move rfl rfl rfl rfl) ?_
       rintro _ rfl a' w' hs'
       exact hK a' w' ⟨p3, p4, p5, p6, hs'.putF (i := 4) rfl [0, 1, 2] [0, 1, 2, 3, 4, 5] rfl rfl rfl rfl⟩
      ·intro L a w hv K Q hK
       obtain ⟨p3, p4, p5, p6, hs⟩ := hv
       refine wpOp_go rfl rfl hs (OpT_move rfl rfl rfl rfl) ?_
       rintro _ rfl a' w' hs'
       exact hK a' w' ⟨p3, p4, p5, p6, hs'.putF (i := 5) rfl [0, 1, 2] [0, 1, 2, 3, 4, 5] rfl rfl rfl rfl⟩
      ·intro L a w hv K Q hK
       obtain ⟨p3, p4, p5, p6, hs⟩ := hv
       refine wpOp_go rfl rfl hs (OpT_move rfl rfl rfl rfl) ?_
       rintro _ rfl a' w' hs'
       exact hK a' w' ⟨p3, p4, p5, p6, hs'.putF (i := 6) rfl [0, 1, 2] [0, 1, 2, 3, 4, 5] rfl rfl rfl rfl⟩
      ·intro L a w hv K Q hK
       obtain ⟨p3, p4, p5, p6, hs⟩ := hv
       refine wpOp_go rfl rfl hs (OpT_idxS rfl rfl rfl rfl rfl slF22 (i := 1) rfl hx3) ?_
       rintro _ ⟨p3', rfl⟩ a' w' hs'
       exact hK a' w' ⟨p3', p4, p5, p6, hs'.putF (i := 7) rfl [0, 1, 2] [0, 1, 6, 3, 4, 5] rfl rfl rfl rfl⟩
      ·intro L a w hv K Q hK
       obtain ⟨p3, p4, p5, p6, hs⟩ := hv
       refine wpOp_go rfl rfl hs (OpT_fieldP (S' := u64S) (y := s2.At) rfl rfl rfl rfl fldF47x0 (i := 2) rfl (by intro h cs hr; subst hr; rfl)) ?_
       rintro _ ⟨p4', rfl⟩ a' w' hs'
       exact hK a' w' ⟨p3, p4', p5, p6, hs'.putF (i := 8) rfl [0, 1, 2] [0, 1, 2, 6, 4, 5] rfl rfl rfl rfl⟩
      ·intro L a w hv K Q hK
       obtain ⟨p3, p4, p5, p6, hs⟩ := hv
       refine wpOp_go rfl rfl hs (OpT_loadP rfl rfl rfl rfl tyF23 (i := 3) rfl rfl) ?_
       rintro _ rfl a' w' hs'
       exact hK a' w' ⟨p3, p4, p5, p6, hs'.putF (i := 9) rfl [0, 1, 2] [0, 1, 2, 3, 4, 5] rfl rfl rfl rfl⟩
      ·intro L a w hv K Q hK
       obtain ⟨p3, p4, p5, p6, hs⟩ := hv
       refine wpOp_go rfl rfl hs (OpT_move rfl rfl rfl rfl) ?_
       rintro _ rfl a' w' hs'
       exact hK a' w' ⟨p3, p4, p5, p6, hs'.putF (i := 10) rfl [0, 1, 2] [0, 1, 2, 3, 4, 5] rfl rfl rfl rfl⟩
      ·intro L a w hv K Q hK
       obtain ⟨p3, p4, p5, p6, hs⟩ := hv
       refine wpOp_go rfl rfl hs (OpT_move rfl rfl rfl rfl) ?_
       rintro _ rfl a' w' hs'
       exact hK a' w' ⟨p3, p4, p5, p6, hs'.putF (i := 11) rfl [0, 1, 2] [0, 1, 2, 3, 4, 5] rfl rfl rfl rfl⟩
      ·intro L a w hv K Q hK
       obtain ⟨p3, p4, p5, p6, hs⟩ := hv
       refine wpOp_go rfl rfl hs (OpT_idxS rfl rfl rfl rfl rfl slF22 (i := 1) rfl hx4) ?_
       rintro _ ⟨p5', rfl⟩ a' w' hs'
       exact hK a' w' ⟨p3, p4, p5', p6, hs'.putF (i := 12) rfl [0, 1, 2] [0, 1, 2, 3, 6, 5] rfl rfl rfl rfl⟩
      ·intro L a w hv K Q hK
       obtain ⟨p3, p4, p5, p6, hs⟩ := hv
       refine wpOp_go rfl rfl hs (OpT_fieldP (S' := u32S) (y := s3.Len) rfl rfl rfl rfl fldF47x1 (i := 4) rfl (by intro h cs hr; subst hr; rfl)) ?_
       rintro _ ⟨p6', rfl⟩ a' w' hs'
       exact hK a' w' ⟨p3, p4, p5, p6', hs'.putF (i := 13) rfl [0, 1, 2] [0, 1, 2, 3, 4, 6] rfl rfl rfl rfl⟩
      ·intro L a w hv K Q hK
       obtain ⟨p3, p4, p5, p6, hs⟩ := hv
       refine wpOp_go rfl rfl hs (OpT_loadP rfl rfl rfl rfl tyF45 (i := 5) rfl rfl) ?_
       rintro _ rfl a' w' hs'
       exact hK a' w' ⟨p3, p4, p5, p6, hs'.putF (i := 14) rfl [0, 1, 2] [0, 1, 2, 3, 4, 5] rfl rfl rfl rfl⟩
      ·intro L a w hv K Q hK
       obtain ⟨p3, p4, p5, p6, hs⟩ := hv
       refine wpOp_go rfl rfl hs (OpT_cnv rfl rfl rfl rfl (cnv_u32_i (n := s3.Len) Try.underlying45 Try.underlying3)) ?_
       rintro _ rfl a' w' hs'
       exact hK a' w' ⟨p3, p4, p5, p6, hs'.putF (i := 15) rfl [0, 1, 2] [0, 1, 2, 3, 4, 5] rfl rfl rfl rfl⟩
      ·intro L a w hL hv
       rw [allTrue hL] at hv
       obtain ⟨p3, p4, p5, p6, hs⟩ := hv
       refine (show TA _ _ _ 12 ⟨[(0, some (.pointer (some ⟨b_m, 0, none⟩))), (1, some (vl1)), (7, some (v1)), (8, some (vI i1)), (30, some (.pointer (some ⟨b_m, 0, none⟩))), (35, some (vU64 s2.At)), (41, some (vI (i32 s3.Len)))], [some (cellsR b_m 76 [vm1, vm2]), some (rowsX u8S false vm2 vsm1 m.B none), some (rowS u8S v1 out1)], [Fact.sl RegionS vm1 m.L, Fact.sl SegS vl1 l]⟩ from ?_) a w (hs.wkS [0, 1, 7, 8, 30, 35, 41] [0, 1, 2] [0, 1] rfl rfl rfl rfl)
       clear hs hL
       obtain ⟨read1, hx5, h⟩ := ob_e h
       refine TA_exP htb (by kernel_rfl) rfl rfl (OpT_callP [3, 4, 2, 5] (w_ref_Mem_Read02 hx5) [0, 1] [0] rfl rfl rfl rfl rfl callee49 rfl rfl rfl rfl rfl) ?_
       rintro _ ⟨_, _, _, ⟨v4, rfl, rfl, rfl⟩, rfl⟩
       refine TA_step htb (by kernel_rfl) rfl rfl (OpT_move rfl rfl rfl rfl) ?_
       refine TA_wkS (fr' := [(0, some (.pointer (some ⟨b_m, 0, none⟩))), (1, some (vl1)), (7, some (v1)), (8, some (vI i1)), (29, some (.tuple #[v4, vI read1.2]))]) (own' := [some (cellsR b_m 76 [vm1, vm2]), some (rowsX u8S false vm2 vsm1 m.B none), some (rowS u8S v1 out1), some (rowS u8S v4 read1.1)]) (shr' := [Fact.sl RegionS vm1 m.L, Fact.sl SegS vl1 l]) [0, 1, 7, 8, 29] [0, 1, 2, 3] [0, 1] rfl rfl rfl rfl ?_
       refine TA_seg (lo := 14) (hi := 17) htb rfl rfl (by kernel_rfl) (fun c L a w => Sat c ⟨[(0, some (.pointer (some ⟨b_m, 0, none⟩))), (1, some (vl1)), (7, some (v1)), (8, some (vI i1)), (29, some (.tuple #[v4, vI read1.2])), (43, bif L 14 then some (v4) else none), (44, bif L 15 then some (vI read1.2) else none), (9, bif L 16 then some (v4) else none)], [(some (cellsR b_m 76 [vm1, vm2]) : Option Res), (some (rowsX u8S false vm2 vsm1 m.B none) : Option Res), (some (rowS u8S v1 out1) : Option Res), (some (rowS u8S v4 read1.1) : Option Res)], [Fact.sl RegionS vm1 m.L, Fact.sl SegS vl1 l]⟩ a w) [([], [16]), ([], []), ([14], [])] rfl (by kernel_rfl) ?_ (steps_cons ?_ (steps_cons ?_ (steps_cons ?_ (steps_nil)))) ?_
       ·intro a w hs
        exact hs.startF [43, 44, 9] [0, 1, 2, 3] [0, 1] rfl rfl rfl rfl
       ·intro L a w hv K Q hK
        have hs := hv
        refine wpOp_go rfl rfl hs (OpT_extract rfl rfl rfl rfl rfl) ?_
        rintro _ rfl a' w' hs'
        exact hK a' w' (hs'.putF (i := 5) rfl [0, 1, 2, 3] [0, 1] rfl rfl rfl rfl)
       ·intro L a w hv K Q hK
        have hs := hv
        refine wpOp_go rfl rfl hs (OpT_extract rfl rfl rfl rfl rfl) ?_
        rintro _ rfl a' w' hs'
        exact hK a' w' (hs'.putF (i := 6) rfl [0, 1, 2, 3] [0, 1] rfl rfl rfl rfl)
       ·intro L a w hv K Q hK
        have hs := hv
        refine wpOp_go rfl rfl hs (OpT_assign rfl rfl rfl rfl) ?_
        rintro _ rfl a' w' hs'
        exact hK a' w' (hs'.putF (i := 7) rfl [0, 1, 2, 3] [0, 1] rfl rfl rfl rfl)
       ·intro L a w hL hv
        rw [allTrue hL] at hv
        have hs := hv
        refine (show TA _ _ _ 17 ⟨[(0, some (.pointer (some ⟨b_m, 0, none⟩))), (1, some (vl1)), (7, some (v1)), (8, some (vI i1)), (44, some (vI read1.2)), (9, some (v4))], [some (cellsR b_m 76 [vm1, vm2]), some (rowsX u8S false vm2 vsm1 m.B none), some (rowS u8S v1 out1), some (rowS u8S v4 read1.1)], [Fact.sl RegionS vm1 m.L, Fact.sl SegS vl1 l]⟩ from ?_) a w (hs.wkS [0, 1, 7, 8, 44, 9] [0, 1, 2, 3] [0, 1] rfl rfl rfl rfl)
        clear hs hL
        refine TA_step htb (by kernel_rfl) rfl rfl (OpT_assign rfl rfl rfl rfl) ?_
        refine TA_end rfl ?_
        refine Tk_wkS (fr' := [(0, some (.pointer (some ⟨b_m, 0, none⟩))), (1, some (vl1)), (7, some (v1)), (8, some (vI i1)), (9, some (v4))]) (own' := [some (cellsR b_m 76 [vm1, vm2]), some (rowsX u8S false vm2 vsm1 m.B none), some (rowS u8S v1 out1), some (rowS u8S v4 read1.1)]) (shr' := [Fact.sl RegionS vm1 m.L, Fact.sl SegS vl1 l]) [0, 1, 7, 8, 9] [0, 1, 2, 3] [0, 1] rfl rfl rfl rfl ?_
        refine Tk_region ?_
        refine Tops_step rfl (OpT_move rfl rfl rfl rfl) ?_
        refine Tops_step rfl (OpT_move rfl rfl rfl rfl) ?_
        obtain ⟨hc1, h⟩ := chk_e h
        refine Tops_ex rfl (OpT_appendB (S := u8S) rfl rfl rfl rfl rfl rfl slF33 (i := 2) (j := 3) rfl rfl hc1) fun v5 => ?_
        refine Tops_step rfl (OpT_assign rfl rfl rfl rfl) ?_
        refine Tops_nil ?_
        refine Tk_wkS (fr' := [(0, some (.pointer (some ⟨b_m, 0, none⟩))), (1, some (vl1)), (7, some (v5)), (8, some (vI i1))]) (own' := [some (cellsR b_m 76 [vm1, vm2]), some (rowsX u8S false vm2 vsm1 m.B none), some (rowS u8S v5 (out1 ++ read1.1))]) (shr' := [Fact.sl RegionS vm1 m.L, Fact.sl SegS vl1 l]) [0, 1, 7, 8] [0, 1, 2] [0, 1] rfl rfl rfl rfl ?_
        exact Tk_jmpS (HJ2 (out1 ++ read1.1, v5) h) [0, 1, 7, 8] [0, 1, 2] [0, 1] rfl rfl rfl rfl
     ·replace h := br_f hg3 h
      refine Tk_condF (congrArg (fun b => some (Value.bool b)) hg3) ?_
      refine Tk_skip ?_
      exact Tk_jmpS (HJ2 (out1, v1) h) [0, 1, 7, 8] [0, 1, 2] [0, 1] rfl rfl rfl rfl
  ·replace h := br_f hg2 h
   refine Tk_condF (congrArg (fun b => some (Value.bool b)) hg2) ?_
   refine Tk_exit _ rfl ?_
   refine Tk_seq ?_
   refine Tk_region ?_
   refine Tops_step rfl (OpT_move rfl rfl rfl rfl) ?_
   refine Tops_step rfl (OpT_assign rfl rfl rfl rfl) ?_
   refine Tops_step rfl (OpT_assign rfl rfl rfl rfl) ?_
   refine Tops_nil ?_
   refine Tk_wkS (fr' := [(4, some (v1)), (5, some (vI (0 : Int)))]) (own' := [some (cellsR b_m 76 [vm1, vm2]), some (rowsX u8S false vm2 vsm1 m.B none), some (rowS u8S v1 out1)]) (shr' := [Fact.sl RegionS vm1 m.L]) [4, 5] [0, 1, 2] [0] rfl rfl rfl rfl ?_
   obtain rfl := Option.some.inj h
   exact Tk_retV rfl rfl (resA (vs := [v1, vI (0 : Int)]) rfl ⟨rfl, rfl, trivial⟩) [0, 1, 2] [] rfl rfl rfl ⟨v1, rfl, rfl, rfl⟩
end Go.Proofs.Ytkdekmjcfoahjaa
