/- The functions do what the plain words say: each is walked once. No statement of the seat is proved here; no condition. -/
import Derived.Test.YtkmjpgfbcklopaaWa3
namespace Go.Proofs.Ytkmjpgfbcklopaa
attribute [local irreducible] sub
set_option maxRecDepth 100000 in
set_option maxHeartbeats 4000000 in
theorem w_ref_New02 {l : List Region} {vl1 : Value} {r : ((Option dumbwaiterref02_Mem) × Int)} (h : ref_New02 l = some r) :
  Ctr Try.prog 26 #[vl1] [] [Fact.sl RegionS vl1 l]
   (fun rv own shr => ∃ (w1 : Value), rv = .tuple #[w1, vI r.2] ∧ own = [(optR 97 RegionS u8S false dumbwaiterref02_Mem.L dumbwaiterref02_Mem.B w1 r.1)] ∧ shr = []) := by
 unfold ref_New02 at h
 refine Ctr.mk (args := [vl1]) Try.func26 rfl rfl (fun R0 w0 B => ?_)
 refine Tk_seq (Tk_region (Tops_step rfl (OpT_assign rfl rfl rfl rfl) ?_))
 refine Tops_step rfl (OpT_assign rfl rfl rfl rfl) ?_
 refine Tops_nil (Tk_wkS (fr' := [(0, some (vl1))]) (own' := []) (shr' := [Fact.sl RegionS vl1 l]) [0] [] [0] rfl rfl rfl rfl ?_)
 refine Tk_seq (Tk_seq (Tk_region (Tops_step rfl (OpT_move rfl rfl rfl rfl) ?_)))
 obtain ⟨check1, hx1, h⟩ := ob_e h
 refine Tops_exP rfl (OpT_call (w_ref_Check02 hx1) [] [0] rfl rfl rfl rfl rfl callee55 rfl rfl rfl rfl) ?_
 rintro _ ⟨_, _, _, ⟨rfl, rfl, rfl⟩, rfl⟩
 refine Tops_step rfl (OpT_bin rfl rfl rfl rfl rfl (bin_neq_i (a := check1) (b := (0 : Int)))) ?_
 refine Tops_nil (Tk_wkS (fr' := [(0, some (vl1)), (8, some (vB (check1 != (0 : Int))))]) (own' := []) (shr' := [Fact.sl RegionS vl1 l]) [0, 8] [] [0] rfl rfl rfl rfl ?_)
 rcases Bool.eq_false_or_eq_true (check1 != (0 : Int)) with hg1 | hg1
 ·replace h := br_t hg1 h
  refine Tk_condT (congrArg (fun b => some (Value.bool b)) hg1) ?_
  refine Tk_seq (Tk_region (Tops_step rfl (OpT_assign rfl rfl rfl rfl) ?_))
  refine Tops_step rfl (OpT_assign rfl rfl rfl rfl) ?_
  refine Tops_nil (Tk_wkS (fr' := [(2, some (.pointer none)), (3, some (vI (2 : Int)))]) (own' := []) (shr' := []) [2, 3] [] [] rfl rfl rfl rfl ?_)
  refine Tk_nilopt 97 RegionS u8S false dumbwaiterref02_Mem.L dumbwaiterref02_Mem.B ?_
  obtain rfl := Option.some.inj h
  exact Tk_retV rfl rfl (resA (vs := [.pointer none, vI (2 : Int)]) rfl ⟨rfl, rfl, trivial⟩) [0] [] rfl rfl rfl ⟨(.pointer none), rfl, rfl, rfl⟩
 ·replace h := br_f hg1 h
  refine Tk_condF (congrArg (fun b => some (Value.bool b)) hg1) ?_
  refine Tk_skip (Tk_seq (Tk_region (Tops_ex rfl (OpT_buildSlice (S := RegionS) (xs := ([] : List Region)) (css := []) (cs := []) (e := 57) rfl rfl rfl rfl (bldF slF45 (by decide) (by kernel_rfl)) rfl rfl rfl rfl (rel_plainD (S := RegionS) (xs := ([] : List Region)) (css := []) rfl rfl)) fun v1 => ?_)))
  refine Tops_step rfl (OpT_move rfl rfl rfl rfl) ?_
  obtain ⟨hc1, h⟩ := chk_e h
  refine Tops_ex rfl (OpT_append rfl rfl rfl rfl rfl slF45 (i := 0) (j := 0) rfl rfl hc1) fun v2 => ?_
  refine Tops_step rfl (OpT_build1 (fun z0 => [(0, z0)]) (fun z0 => [z0, .slice none 0 0]) rfl rfl rfl rfl (is_row (i := 0) rfl) (by intros; kernel_rfl)) ?_
  refine Tops_vs (vs_nilrows (S := u8S)) ?_
  refine Tops_ex rfl (OpT_box rfl rfl rfl rfl) fun b1 => ?_
  refine Tops_step rfl (OpT_assign rfl rfl rfl rfl) ?_
  refine Tops_nil (Tk_wkS (fr' := [(0, some (vl1)), (4, some (.pointer (some ⟨b1, 0, none⟩)))]) (own' := [some (rowS RegionS v2 l), some (rowsX u8S false (.slice none 0 0) [] ([] : List (List UInt8)) none), some (cellsR b1 97 [v2, .slice none 0 0])]) (shr' := [Fact.sl RegionS vl1 l]) [0, 4] [0, 1, 2] [0] rfl rfl rfl rfl ?_)
  refine Tk_seq (Tk_seq (Tk_region (Tops_step rfl (OpT_assign rfl rfl rfl rfl) ?_)))
  refine Tops_nil (Tk_block (Tk_loopS (σ := (List Region) × (List (List UInt8)) × Int × Value × Value × (List Value)) [0, 4, 5] [2, 0, 1] [0] (fun s => ⟨[(0, some (vl1)), (4, some (.pointer (some ⟨b1, 0, none⟩))), (5, some (vI s.2.2.1))], [some (cellsR b1 97 [s.2.2.2.1, s.2.2.2.2.1]), some (rowS RegionS s.2.2.2.1 s.1), some (rowsX u8S false s.2.2.2.2.1 s.2.2.2.2.2 s.2.1 none)], [Fact.sl RegionS vl1 l]⟩) (fun nf1 s => ref_New02L1 l nf1 s.1 s.2.1 s.2.2.1 = some r) fuel (l, ([] : List (List UInt8)), (0 : Int), v2, (.slice none 0 0), []) h rfl rfl rfl rfl rfl (fun s h => by cases h) ?_))
  rintro nf1 ⟨l1, rows1, i1, v3, v4, vs1⟩ h
  replace h : ref_New02L1B l (ref_New02L1 l nf1) l1 rows1 i1 = some r := h
  unfold ref_New02L1B at h
  refine Tk_seq (Tk_seq (Tk_region (Tops_step rfl (OpT_move rfl rfl rfl rfl) ?_)))
  refine Tops_step rfl (OpT_move rfl rfl rfl rfl) ?_
  refine Tops_step rfl (OpT_lenS rfl rfl rfl rfl Try.underlying45 (i := 0) rfl) ?_
  refine Tops_step rfl (OpT_bin rfl rfl rfl rfl rfl (bin_lss_i (a := i1) (b := len l))) ?_
  refine Tops_nil (Tk_wkS (fr' := [(0, some (vl1)), (4, some (.pointer (some ⟨b1, 0, none⟩))), (5, some (vI i1)), (17, some (vB (decide (i1 < (len l)))))]) (own' := [some (cellsR b1 97 [v3, v4]), some (rowS RegionS v3 l1), some (rowsX u8S false v4 vs1 rows1 none)]) (shr' := [Fact.sl RegionS vl1 l]) [0, 4, 5, 17] [0, 1, 2] [0] rfl rfl rfl rfl ?_)
  rcases Bool.eq_false_or_eq_true (decide (i1 < (len l))) with hg2 | hg2
  ·replace h := br_t hg2 h
   refine Tk_condT (congrArg (fun b => some (Value.bool b)) hg2) ?_
   refine Tk_skip (Tk_seq (Tk_block (Tk_drawT (by kernel_rfl) ?_)))
   refine TA_tb [0, 0, 2, 6, 14, 0, 0, 96, 224, 480, 992, 2016, 4094, 8191, 16383, 32767] (by kernel_rfl) fun htb => ?_
   refine TA_wkS (fr' := [(0, some (vl1)), (4, some (.pointer (some ⟨b1, 0, none⟩))), (5, some (vI i1))]) (own' := [some (cellsR b1 97 [v3, v4]), some (rowS RegionS v3 l1), some (rowsX u8S false v4 vs1 rows1 none)]) (shr' := [Fact.sl RegionS vl1 l]) [0, 4, 5] [0, 1, 2] [0] rfl rfl rfl rfl ?_
   obtain ⟨r1, hx2, h⟩ := ob_e h
   obtain ⟨hc2, h⟩ := chk_e h
   obtain ⟨hc3, h⟩ := chk_e h
   refine TA_seg (lo := 0) (hi := 13) htb rfl rfl (by kernel_rfl) (fun c L a w => ∃ (p1 : Value), ∃ (p2 : Value), ∃ (v5 : Value), ∃ (v6 : Value), ∃ (pp1 : Value × List Value), Sat c ⟨[(0, some (vl1)), (4, some (.pointer (some ⟨b1, 0, none⟩))), (5, some (vI i1)), (20, bif L 0 then some (.pointer (some ⟨b1, 0, none⟩)) else none), (21, bif L 1 then some (.pointer (some ⟨b1, 0, none⟩)) else none), (22, bif L 2 then some (.pointer (some ⟨b1, 0, none⟩)) else none), (23, bif L 3 then some (.pointer (some ⟨b1, 1, none⟩)) else none), (24, bif L 4 then some (v4) else none), (25, bif L 5 then some (vl1) else none), (26, bif L 6 then some (vI i1) else none), (27, bif L 7 then some (p1) else none), (28, bif L 8 then some (p2) else none), (29, bif L 9 then some (vU64 r1.Len) else none), (30, bif L 10 then some (v5) else none), (31, bif L 11 then some (v6) else none), (32, bif L 12 then some (pp1.1) else none)], [(some (cellsR b1 97 [v3, v4]) : Option Res), (some (rowS RegionS v3 l1) : Option Res), (bif L 12 then some (rowsX u8S false pp1.1 pp1.2 (rows1 ++ [List.replicate (Int.toNat (r1.Len.toNat : Int)) (0 : UInt8)]) none) else some (rowsX u8S false v4 vs1 rows1 none) : Option Res), (bif L 12 then none else bif L 10 then some (rowS u8S v5 (List.replicate (Int.toNat (r1.Len.toNat : Int)) (0 : UInt8))) else none : Option Res), (bif L 12 then none else bif L 11 then some (rowS valS v6 [v5]) else none : Option Res)], [Fact.sl RegionS vl1 l, (bif L 7 then Fact.pt RegionS p1 r1 else Fact.tt), (bif L 8 then Fact.pt u64S p2 r1.Len else Fact.tt)]⟩ a w) [([], []), ([], [2, 3, 4, 12]), ([1], [3, 4, 12]), ([1, 2], [4, 12]), ([1, 2, 3], [12]), ([], [7, 8, 9, 10, 11, 12]), ([], [7, 8, 9, 10, 11, 12]), ([5, 6], [8, 9, 10, 11, 12]), ([5, 6, 7], [9, 10, 11, 12]), ([5, 6, 7, 8], [10, 11, 12]), ([5, 6, 7, 8, 9], [11, 12]), ([5, 6, 7, 8, 9, 10], [12]), ([1, 2, 3, 4, 5, 6, 7, 8, 9, 10, 11], [])] rfl (by kernel_rfl) ?_ (steps_cons ?_ (steps_cons ?_ (steps_cons ?_ (steps_cons ?_ (steps_cons ?_ (steps_cons ?_ (steps_cons ?_ (steps_cons ?_ (steps_cons ?_ (steps_cons ?_ (steps_cons ?_ (steps_cons ?_ (steps_cons ?_ (steps_nil)))))))))))))) ?_
   ·intro a w hs
    exact ⟨undef, undef, undef, undef, (undef, []), hs.startF [20, 21, 22, 23, 24, 25, 26, 27, 28, 29, 30, 31, 32] [0, 1, 2, 3, 4] [0, 1, 2] rfl rfl rfl rfl⟩
   ·intro L a w hv K Q hK
    obtain ⟨p1, p2, v5, v6, pp1, hs⟩ := hv
    refine wpOp_go rfl rfl hs (OpT_move rfl rfl rfl rfl) ?_
    rintro _ rfl a' w' hs'
    exact hK a' w' ⟨p1, p2, v5, v6, pp1, hs'.putF (i := 3) rfl [0, 1, 2, 3, 4] [0, 1, 2] rfl rfl rfl rfl⟩
   ·intro L a w hv K Q hK
    obtain ⟨p1, p2, v5, v6, pp1, hs⟩ := hv
    refine wpOp_go rfl rfl hs (OpT_move rfl rfl rfl rfl) ?_
    rintro _ rfl a' w' hs'
    exact hK a' w' ⟨p1, p2, v5, v6, pp1, hs'.putF (i := 4) rfl [0, 1, 2, 3, 4] [0, 1, 2] rfl rfl rfl rfl⟩
   ·intro L a w hv K Q hK
    obtain ⟨p1, p2, v5, v6, pp1, hs⟩ := hv
    refine wpOp_go rfl rfl hs (OpT_nilCheckP rfl rfl rfl rfl) ?_
    rintro _ rfl a' w' hs'
    exact hK a' w' ⟨p1, p2, v5, v6, pp1, hs'.putF (i := 5) rfl [0, 1, 2, 3, 4] [0, 1, 2] rfl rfl rfl rfl⟩
   ·intro L a w hv K Q hK
    obtain ⟨p1, p2, v5, v6, pp1, hs⟩ := hv
    refine wpOp_go rfl rfl hs (OpT_fieldC rfl rfl rfl rfl fldF97x1) ?_
    rintro _ rfl a' w' hs'
    exact hK a' w' ⟨p1, p2, v5, v6, pp1, hs'.putF (i := 6) rfl [0, 1, 2, 3, 4] [0, 1, 2] rfl rfl rfl rfl⟩
   ·intro L a w hv K Q hK
    obtain ⟨p1, p2, v5, v6, pp1, hs⟩ := hv
    refine wpOp_go rfl rfl hs (OpT_loadC rfl rfl rfl rfl tyF81 (i := 0) rfl rfl) ?_
    rintro _ rfl a' w' hs'
    exact hK a' w' ⟨p1, p2, v5, v6, pp1, hs'.putF (i := 7) rfl [0, 1, 2, 3, 4] [0, 1, 2] rfl rfl rfl rfl⟩
   ·intro L a w hv K Q hK
    obtain ⟨p1, p2, v5, v6, pp1, hs⟩ := hv
    refine wpOp_go rfl rfl hs (OpT_move rfl rfl rfl rfl) ?_
    rintro _ rfl a' w' hs'
    exact hK a' w' ⟨p1, p2, v5, v6, pp1, hs'.putF (i := 8) rfl [0, 1, 2, 3, 4] [0, 1, 2] rfl rfl rfl rfl⟩
   ·intro L a w hv K Q hK
    obtain ⟨p1, p2, v5, v6, pp1, hs⟩ := hv
    refine wpOp_go rfl rfl hs (OpT_move rfl rfl rfl rfl) ?_
    rintro _ rfl a' w' hs'
    exact hK a' w' ⟨p1, p2, v5, v6, pp1, hs'.putF (i := 9) rfl [0, 1, 2, 3, 4] [0, 1, 2] rfl rfl rfl rfl⟩
   ·intro L a w hv K Q hK
    obtain ⟨p1, p2, v5, v6, pp1, hs⟩ := hv
    refine wpOp_go rfl rfl hs (OpT_idxS rfl rfl rfl rfl rfl slF45 (i := 0) rfl hx2) ?_
    rintro _ ⟨p1', rfl⟩ a' w' hs'
    exact hK a' w' ⟨p1', p2, v5, v6, pp1, hs'.putF (i := 10) rfl [0, 1, 2, 3, 4] [0, 3, 2] rfl rfl rfl rfl⟩
   ·intro L a w hv K Q hK
    obtain ⟨p1, p2, v5, v6, pp1, hs⟩ := hv
    refine wpOp_go rfl rfl hs (OpT_fieldP (S' := u64S) (y := r1.Len) rfl rfl rfl rfl fldF57x1 (i := 1) rfl (by intro h cs hr; subst hr; rfl)) ?_
    rintro _ ⟨p2', rfl⟩ a' w' hs'
    exact hK a' w' ⟨p1, p2', v5, v6, pp1, hs'.putF (i := 11) rfl [0, 1, 2, 3, 4] [0, 1, 3] rfl rfl rfl rfl⟩
   ·intro L a w hv K Q hK
    obtain ⟨p1, p2, v5, v6, pp1, hs⟩ := hv
    refine wpOp_go rfl rfl hs (OpT_loadP rfl rfl rfl rfl tyF29 (i := 2) rfl rfl) ?_
    rintro _ rfl a' w' hs'
    exact hK a' w' ⟨p1, p2, v5, v6, pp1, hs'.putF (i := 12) rfl [0, 1, 2, 3, 4] [0, 1, 2] rfl rfl rfl rfl⟩
   ·intro L a w hv K Q hK
    obtain ⟨p1, p2, v5, v6, pp1, hs⟩ := hv
    refine wpOp_go rfl rfl hs (OpT_makeK u8S rfl (u := (0 : UInt8)) rfl rfl rfl rfl rfl slF35 rfl hc2) ?_
    rintro _ ⟨v5', rfl⟩ a' w' hs'
    exact hK a' w' ⟨p1, p2, v5', v6, pp1, hs'.putF (i := 13) rfl [0, 1, 2, 5, 4] [0, 1, 2] rfl rfl rfl rfl⟩
   ·intro L a w hv K Q hK
    obtain ⟨p1, p2, v5, v6, pp1, hs⟩ := hv
    refine wpOp_go rfl rfl hs (OpT_buildV (u := v5) rfl rfl rfl rfl slF81 (i := 3) rfl) ?_
    rintro _ ⟨v6', rfl⟩ a' w' hs'
    exact hK a' w' ⟨p1, p2, v5, v6', pp1, hs'.putF (i := 14) rfl [0, 1, 2, 3, 5] [0, 1, 2] rfl rfl rfl rfl⟩
   ·intro L a w hv K Q hK
    obtain ⟨p1, p2, v5, v6, pp1, hs⟩ := hv
    refine wpOp_go rfl rfl hs (OpT_appendRows (u := v5) rfl rfl rfl rfl rfl slF81 (i := 2) (j := 4) (q := 3) rfl rfl rfl rfl rfl rfl hc3) ?_
    rintro _ ⟨pp1', rfl⟩ a' w' hs'
    exact hK a' w' ⟨p1, p2, v5, v6, pp1', hs'.putF (i := 15) rfl [0, 1, 2, 3, 4] [0, 1, 2] rfl rfl rfl rfl⟩
   ·intro L a w hL hv
    rw [allTrue hL] at hv
    obtain ⟨p1, p2, v5, v6, pp1, hs⟩ := hv
    refine (show TA _ _ _ 13 ⟨[(0, some (vl1)), (4, some (.pointer (some ⟨b1, 0, none⟩))), (5, some (vI i1)), (20, some (.pointer (some ⟨b1, 0, none⟩))), (32, some (pp1.1))], [some (cellsR b1 97 [v3, v4]), some (rowS RegionS v3 l1), some (rowsX u8S false pp1.1 pp1.2 (rows1 ++ [List.replicate (Int.toNat (r1.Len.toNat : Int)) (0 : UInt8)]) none)], [Fact.sl RegionS vl1 l]⟩ from ?_) a w (hs.wkS [0, 4, 5, 20, 32] [0, 1, 2] [0] rfl rfl rfl rfl)
    clear hs hL
    refine TA_step htb (by kernel_rfl) rfl rfl (OpT_nilCheckP rfl rfl rfl rfl) ?_
    refine TA_step htb (by kernel_rfl) rfl rfl (OpT_fieldC rfl rfl rfl rfl fldF97x1) ?_
    refine TA_step htb (by kernel_rfl) rfl rfl (OpT_storeV (cs' := [v3, pp1.1]) rfl rfl rfl rfl tyF81 (i := 0) rfl (is_rows (i := 2) rfl) rfl rfl) ?_
    refine TA_end rfl ?_
    refine Tk_wkS (fr' := [(0, some (vl1)), (4, some (.pointer (some ⟨b1, 0, none⟩))), (5, some (vI i1))]) (own' := [some (cellsR b1 97 [v3, pp1.1]), some (rowS RegionS v3 l1), some (rowsX u8S false pp1.1 pp1.2 (rows1 ++ [List.replicate (Int.toNat (r1.Len.toNat : Int)) (0 : UInt8)]) none)]) (shr' := [Fact.sl RegionS vl1 l]) [0, 4, 5] [0, 1, 2] [0] rfl rfl rfl rfl ?_
    refine Tk_blk (Tk_region (Tops_step rfl (OpT_move rfl rfl rfl rfl) ?_))
    refine Tops_step rfl (OpT_bin rfl rfl rfl rfl rfl (bin_add_i (a := i1) (b := (1 : Int)))) ?_
    refine Tops_step rfl (OpT_assign rfl rfl rfl rfl) ?_
    refine Tops_nil (Tk_wkS (fr' := [(0, some (vl1)), (4, some (.pointer (some ⟨b1, 0, none⟩))), (5, some (vI (wi (i1 + (1 : Int)))))]) (own' := [some (cellsR b1 97 [v3, pp1.1]), some (rowS RegionS v3 l1), some (rowsX u8S false pp1.1 pp1.2 (rows1 ++ [List.replicate (Int.toNat (r1.Len.toNat : Int)) (0 : UInt8)]) none)]) (shr' := [Fact.sl RegionS vl1 l]) [0, 4, 5] [0, 1, 2] [0] rfl rfl rfl rfl ?_)
    exact Tk_backS (l1, rows1 ++ [List.replicate (Int.toNat (r1.Len.toNat : Int)) (0 : UInt8)], wi (i1 + (1 : Int)), v3, pp1.1, pp1.2) h [0, 4, 5] [0, 1, 2] [0] rfl rfl rfl rfl rfl
  ·replace h := br_f hg2 h
   refine Tk_condF (congrArg (fun b => some (Value.bool b)) hg2) ?_
   refine Tk_exit _ rfl ?_
   refine Tk_seq (Tk_region (Tops_step rfl (OpT_move rfl rfl rfl rfl) ?_))
   refine Tops_step rfl (OpT_assign rfl rfl rfl rfl) ?_
   refine Tops_step rfl (OpT_assign rfl rfl rfl rfl) ?_
   refine Tops_nil (Tk_wkS (fr' := [(2, some (.pointer (some ⟨b1, 0, none⟩))), (3, some (vI (0 : Int)))]) (own' := [some (cellsR b1 97 [v3, v4]), some (rowS RegionS v3 l1), some (rowsX u8S false v4 vs1 rows1 none)]) (shr' := []) [2, 3] [0, 1, 2] [] rfl rfl rfl rfl ?_)
   refine Tk_retire (i := 1) rfl ?_
   refine Tk_vs (vs_fold (fl := dumbwaiterref02_Mem.L) (fb := dumbwaiterref02_Mem.B) (dumbwaiterref02_Mem.mk l1 rows1) (i := 0) (j := 2) rfl rfl rfl (q := 0) rfl rfl rfl) ?_
   obtain rfl := Option.some.inj h
   exact Tk_retV rfl rfl (resA (vs := [.pointer (some ⟨b1, 0, none⟩), vI (0 : Int)]) rfl ⟨rfl, rfl, trivial⟩) [0] [] rfl rfl rfl ⟨(.pointer (some ⟨b1, 0, none⟩)), rfl, rfl, rfl⟩

set_option maxRecDepth 100000 in
set_option maxHeartbeats 4000000 in
theorem w_ref_Mem_find02 {m : dumbwaiterref02_Mem} {atp1 : UInt64} {np2 : UInt64} {b_m : Nat} {vm1 : Value} {vm2 : Value} {vsm1 : List Value} {r : (Int × Int)} (h : ref_Mem_find02 m atp1 np2 = some r) :
  Ctr Try.prog 56 #[.pointer (some ⟨b_m, 0, none⟩), vU64 atp1, vU64 np2] [(cellsR b_m 97 [vm1, vm2]), (rowsX u8S false vm2 vsm1 m.B none)] [Fact.sl RegionS vm1 m.L]
   (fun rv own shr => rv = .tuple #[vI r.1, vI r.2] ∧ own = [(cellsR b_m 97 [vm1, vm2]), (rowsX u8S false vm2 vsm1 m.B none)] ∧ shr = []) := by
 unfold ref_Mem_find02 at h
 refine Ctr.mk (args := [.pointer (some ⟨b_m, 0, none⟩), vU64 atp1, vU64 np2]) Try.func56 rfl rfl (fun R0 w0 B => ?_)
 refine Tk_seq (Tk_region (Tops_step rfl (OpT_assign rfl rfl rfl rfl) ?_))
 refine Tops_step rfl (OpT_assign rfl rfl rfl rfl) ?_
 refine Tops_nil (Tk_wkS (fr' := [(0, some (.pointer (some ⟨b_m, 0, none⟩))), (1, some (vU64 atp1)), (2, some (vU64 np2))]) (own' := [some (cellsR b_m 97 [vm1, vm2]), some (rowsX u8S false vm2 vsm1 m.B none)]) (shr' := [Fact.sl RegionS vm1 m.L]) [0, 1, 2] [0, 1] [0] rfl rfl rfl rfl ?_)
 refine Tk_seq (Tk_seq (Tk_region (Tops_step rfl (OpT_assign rfl rfl rfl rfl) ?_)))
 refine Tops_nil (Tk_block (Tk_loopS (σ := Int) [0, 1, 2, 8] [0, 1] [0] (fun s => ⟨[(0, some (.pointer (some ⟨b_m, 0, none⟩))), (1, some (vU64 atp1)), (2, some (vU64 np2)), (8, some (vI s))], [some (cellsR b_m 97 [vm1, vm2]), some (rowsX u8S false vm2 vsm1 m.B none)], [Fact.sl RegionS vm1 m.L]⟩) (fun nf1 s => ref_Mem_find02L1 m atp1 np2 nf1 s = some r) fuel (0 : Int) h rfl rfl rfl rfl rfl (fun s h => by cases h) ?_))
 rintro nf1 i1 h
 replace h : ref_Mem_find02L1B m atp1 np2 (ref_Mem_find02L1 m atp1 np2 nf1) i1 = some r := h
 unfold ref_Mem_find02L1B at h
 refine Tk_seq (Tk_seq (Tk_region (Tops_step rfl (OpT_move rfl rfl rfl rfl) ?_)))
 refine Tops_step rfl (OpT_move rfl rfl rfl rfl) ?_
 refine Tops_step rfl (OpT_nilCheckP rfl rfl rfl rfl) ?_
 refine Tops_step rfl (OpT_fieldC rfl rfl rfl rfl fldF97x0) ?_
 refine Tops_step rfl (OpT_loadC rfl rfl rfl rfl tyF45 (i := 0) rfl rfl) ?_
 refine Tops_step rfl (OpT_lenS rfl rfl rfl rfl Try.underlying45 (i := 0) rfl) ?_
 refine Tops_step rfl (OpT_bin rfl rfl rfl rfl rfl (bin_lss_i (a := i1) (b := len m.L))) ?_
 refine Tops_nil (Tk_wkS (fr' := [(0, some (.pointer (some ⟨b_m, 0, none⟩))), (1, some (vU64 atp1)), (2, some (vU64 np2)), (8, some (vI i1)), (16, some (vB (decide (i1 < (len m.L)))))]) (own' := [some (cellsR b_m 97 [vm1, vm2]), some (rowsX u8S false vm2 vsm1 m.B none)]) (shr' := [Fact.sl RegionS vm1 m.L]) [0, 1, 2, 8, 16] [0, 1] [0] rfl rfl rfl rfl ?_)
 rcases Bool.eq_false_or_eq_true (decide (i1 < (len m.L))) with hg1 | hg1
 ·replace h := br_t hg1 h
  refine Tk_condT (congrArg (fun b => some (Value.bool b)) hg1) ?_
  refine Tk_skip (Tk_seq (Tk_block (Tk_seq (Tk_region (Tops_step rfl (OpT_move rfl rfl rfl rfl) ?_)))))
  refine Tops_step rfl (OpT_nilCheckP rfl rfl rfl rfl) ?_
  refine Tops_step rfl (OpT_fieldC rfl rfl rfl rfl fldF97x0) ?_
  refine Tops_step rfl (OpT_loadC rfl rfl rfl rfl tyF45 (i := 0) rfl rfl) ?_
  refine Tops_step rfl (OpT_move rfl rfl rfl rfl) ?_
  obtain ⟨r1, hx1, h⟩ := ob_e h
  refine Tops_ex rfl (OpT_idxS rfl rfl rfl rfl rfl slF45 (i := 0) rfl hx1) fun p1 => ?_
  refine Tops_step rfl (OpT_loadPA (vs := [vU64 r1.At, vU64 r1.Len]) rfl rfl rfl rfl tyF57 (i := 1) rfl rfl) ?_
  refine Tops_ex rfl (OpT_alloc rfl rfl rfl tyZ57) fun b1 => ?_
  refine Tops_step rfl (OpT_storeC (cs' := [vU64 r1.At, vU64 r1.Len]) rfl rfl rfl rfl tyF57 (i := 2) rfl rfl rfl (one_of rfl) rfl) ?_
  refine Tops_nil (Tk_wkS (fr' := [(0, some (.pointer (some ⟨b_m, 0, none⟩))), (1, some (vU64 atp1)), (2, some (vU64 np2)), (8, some (vI i1)), (9, some (.pointer (some ⟨b1, 0, none⟩)))]) (own' := [some (cellsR b_m 97 [vm1, vm2]), some (rowsX u8S false vm2 vsm1 m.B none), some (cellsR b1 57 [vU64 r1.At, vU64 r1.Len])]) (shr' := [Fact.sl RegionS vm1 m.L]) [0, 1, 2, 8, 9] [0, 1, 2] [0] rfl rfl rfl rfl ?_)
  refine Tk_seq (Tk_region (Tops_step rfl (OpT_move rfl rfl rfl rfl) ?_))
  refine Tops_step rfl (OpT_bin rfl rfl rfl rfl rfl (bin_geq_u64 (a := np2) (b := (1 : UInt64)))) ?_
  refine Tops_step rfl (OpT_move rfl rfl rfl rfl) ?_
  rcases Bool.eq_false_or_eq_true (decide (np2 ≥ (1 : UInt64))) with hg2 | hg2
  ·replace h := br_t hg2 h
   refine Tops_yes rfl rfl (congrArg (fun b => some (Value.bool b)) hg2) (OpT_move rfl rfl rfl rfl) ?_
   rintro _ rfl
   refine Tops_yes rfl rfl (congrArg (fun b => some (Value.bool b)) hg2) (OpT_fieldC rfl rfl rfl rfl fldF57x0) ?_
   rintro _ rfl
   refine Tops_yes rfl rfl (congrArg (fun b => some (Value.bool b)) hg2) (OpT_loadC rfl rfl rfl rfl tyF29 (i := 2) rfl rfl) ?_
   rintro _ rfl
   refine Tops_yes rfl rfl (congrArg (fun b => some (Value.bool b)) hg2) (OpT_bin rfl rfl rfl rfl rfl (bin_geq_u64 (a := atp1) (b := r1.At))) ?_
   rintro _ rfl
   refine Tops_step rfl (OpT_pickT rfl rfl rfl (congrArg (fun b => some (Value.bool b)) hg2) rfl) ?_
   refine Tops_step rfl (OpT_move rfl rfl rfl rfl) ?_
   rcases Bool.eq_false_or_eq_true (decide (atp1 ≥ r1.At)) with hg3 | hg3
   ·replace h := br_t hg3 h
    refine Tops_yes rfl rfl (congrArg (fun b => some (Value.bool b)) hg3) (OpT_move rfl rfl rfl rfl) ?_
    rintro _ rfl
    refine Tops_yes rfl rfl (congrArg (fun b => some (Value.bool b)) hg3) (OpT_fieldC rfl rfl rfl rfl fldF57x1) ?_
    rintro _ rfl
    refine Tops_yes rfl rfl (congrArg (fun b => some (Value.bool b)) hg3) (OpT_loadC rfl rfl rfl rfl tyF29 (i := 2) rfl rfl) ?_
    rintro _ rfl
    refine Tops_yes rfl rfl (congrArg (fun b => some (Value.bool b)) hg3) (OpT_bin rfl rfl rfl rfl rfl (bin_leq_u64 (a := np2) (b := r1.Len))) ?_
    rintro _ rfl
    refine Tops_step rfl (OpT_pickT rfl rfl rfl (congrArg (fun b => some (Value.bool b)) hg3) rfl) ?_
    refine Tops_step rfl (OpT_move rfl rfl rfl rfl) ?_
    rcases Bool.eq_false_or_eq_true (decide (np2 ≤ r1.Len)) with hg4 | hg4
    ·replace h := br_t hg4 h
     refine Tops_yes rfl rfl (congrArg (fun b => some (Value.bool b)) hg4) (OpT_move rfl rfl rfl rfl) ?_
     rintro _ rfl
     refine Tops_yes rfl rfl (congrArg (fun b => some (Value.bool b)) hg4) (OpT_fieldC rfl rfl rfl rfl fldF57x0) ?_
     rintro _ rfl
     refine Tops_yes rfl rfl (congrArg (fun b => some (Value.bool b)) hg4) (OpT_loadC rfl rfl rfl rfl tyF29 (i := 2) rfl rfl) ?_
     rintro _ rfl
     refine Tops_yes rfl rfl (congrArg (fun b => some (Value.bool b)) hg4) (OpT_bin rfl rfl rfl rfl rfl (bin_sub_u64 (a := atp1) (b := r1.At))) ?_
     rintro _ rfl
     refine Tops_yes rfl rfl (congrArg (fun b => some (Value.bool b)) hg4) (OpT_fieldC rfl rfl rfl rfl fldF57x1) ?_
     rintro _ rfl
     refine Tops_yes rfl rfl (congrArg (fun b => some (Value.bool b)) hg4) (OpT_loadC rfl rfl rfl rfl tyF29 (i := 2) rfl rfl) ?_
     rintro _ rfl
     refine Tops_yes rfl rfl (congrArg (fun b => some (Value.bool b)) hg4) (OpT_move rfl rfl rfl rfl) ?_
     rintro _ rfl
     refine Tops_yes rfl rfl (congrArg (fun b => some (Value.bool b)) hg4) (OpT_bin rfl rfl rfl rfl rfl (bin_sub_u64 (a := r1.Len) (b := np2))) ?_
     rintro _ rfl
     refine Tops_yes rfl rfl (congrArg (fun b => some (Value.bool b)) hg4) (OpT_bin rfl rfl rfl rfl rfl (bin_leq_u64 (a := atp1 - r1.At) (b := r1.Len - np2))) ?_
     rintro _ rfl
     refine Tops_step rfl (OpT_pickT rfl rfl rfl (congrArg (fun b => some (Value.bool b)) hg4) rfl) ?_
     refine Tops_nil (Tk_wkS (fr' := [(0, some (.pointer (some ⟨b_m, 0, none⟩))), (1, some (vU64 atp1)), (2, some (vU64 np2)), (8, some (vI i1)), (9, some (.pointer (some ⟨b1, 0, none⟩))), (50, some (vB (decide ((atp1 - r1.At) ≤ (r1.Len - np2)))))]) (own' := [some (cellsR b_m 97 [vm1, vm2]), some (rowsX u8S false vm2 vsm1 m.B none), some (cellsR b1 57 [vU64 r1.At, vU64 r1.Len])]) (shr' := [Fact.sl RegionS vm1 m.L]) [0, 1, 2, 8, 9, 50] [0, 1, 2] [0] rfl rfl rfl rfl ?_)
     rcases Bool.eq_false_or_eq_true (decide ((atp1 - r1.At) ≤ (r1.Len - np2))) with hg5 | hg5
     ·replace h := br_t hg5 h
      refine Tk_condT (congrArg (fun b => some (Value.bool b)) hg5) ?_
      refine Tk_seq (Tk_drawT (by kernel_rfl) ?_)
      refine TA_tb [0, 0, 0, 4, 14, 30, 1, 127] (by kernel_rfl) fun htb => ?_
      refine TA_wkS (fr' := [(1, some (vU64 atp1)), (8, some (vI i1)), (9, some (.pointer (some ⟨b1, 0, none⟩)))]) (own' := [some (cellsR b_m 97 [vm1, vm2]), some (rowsX u8S false vm2 vsm1 m.B none), some (cellsR b1 57 [vU64 r1.At, vU64 r1.Len])]) (shr' := [Fact.sl RegionS vm1 m.L]) [1, 8, 9] [0, 1, 2] [0] rfl rfl rfl rfl ?_
      refine TA_seg (lo := 0) (hi := 7) htb rfl rfl (by kernel_rfl) (fun c L a w => Sat c ⟨[(1, some (vU64 atp1)), (8, some (vI i1)), (9, some (.pointer (some ⟨b1, 0, none⟩))), (51, bif L 0 then some (vI i1) else none), (52, bif L 1 then some (vU64 atp1) else none), (53, bif L 2 then some (.pointer (some ⟨b1, 0, none⟩)) else none), (54, bif L 3 then some (vU64 r1.At) else none), (55, bif L 4 then some (vU64 (atp1 - r1.At)) else none), (56, bif L 5 then some (vI (i64 (atp1 - r1.At))) else none), (6, bif L 6 then some (vI i1) else none)], [(some (cellsR b_m 97 [vm1, vm2]) : Option Res), (some (rowsX u8S false vm2 vsm1 m.B none) : Option Res), (some (cellsR b1 57 [vU64 r1.At, vU64 r1.Len]) : Option Res)], [Fact.sl RegionS vm1 m.L]⟩ a w) [([], [6]), ([], [4, 5]), ([], [3, 4, 5]), ([2], [4, 5]), ([1, 2, 3], [5]), ([1, 2, 3, 4], []), ([0], [])] rfl (by kernel_rfl) ?_ (steps_cons ?_ (steps_cons ?_ (steps_cons ?_ (steps_cons ?_ (steps_cons ?_ (steps_cons ?_ (steps_cons ?_ (steps_nil)))))))) ?_
      ·intro a w hs
       exact hs.startF [51, 52, 53, 54, 55, 56, 6] [0, 1, 2] [0] rfl rfl rfl rfl
      ·intro L a w hv K Q hK
       have hs := hv
       refine wpOp_go rfl rfl hs (OpT_move rfl rfl rfl rfl) ?_
       rintro _ rfl a' w' hs'
       exact hK a' w' (hs'.putF (i := 3) rfl [0, 1, 2] [0] rfl rfl rfl rfl)
      ·intro L a w hv K Q hK
       have hs := hv
       refine wpOp_go rfl rfl hs (OpT_move rfl rfl rfl rfl) ?_
       rintro _ rfl a' w' hs'
       exact hK a' w' (hs'.putF (i := 4) rfl [0, 1, 2] [0] rfl rfl rfl rfl)
      ·intro L a w hv K Q hK
       have hs := hv
       refine wpOp_go rfl rfl hs (OpT_fieldC rfl rfl rfl rfl fldF57x0) ?_
       rintro _ rfl a' w' hs'
       exact hK a' w' (hs'.putF (i := 5) rfl [0, 1, 2] [0] rfl rfl rfl rfl)
      ·intro L a w hv K Q hK
       have hs := hv
       refine wpOp_go rfl rfl hs (OpT_loadC rfl rfl rfl rfl tyF29 (i := 2) rfl rfl) ?_
       rintro _ rfl a' w' hs'
       exact hK a' w' (hs'.putF (i := 6) rfl [0, 1, 2] [0] rfl rfl rfl rfl)
      ·intro L a w hv K Q hK
       have hs := hv
       refine wpOp_go rfl rfl hs (OpT_bin rfl rfl rfl rfl rfl (bin_sub_u64 (a := atp1) (b := r1.At))) ?_
       rintro _ rfl a' w' hs'
       exact hK a' w' (hs'.putF (i := 7) rfl [0, 1, 2] [0] rfl rfl rfl rfl)
      ·intro L a w hv K Q hK
       have hs := hv
       refine wpOp_go rfl rfl hs (OpT_cnv rfl rfl rfl rfl (cnv_u64_i (n := atp1 - r1.At) Try.underlying29 Try.underlying3)) ?_
       rintro _ rfl a' w' hs'
       exact hK a' w' (hs'.putF (i := 8) rfl [0, 1, 2] [0] rfl rfl rfl rfl)
      ·intro L a w hv K Q hK
       have hs := hv
       refine wpOp_go rfl rfl hs (OpT_assign rfl rfl rfl rfl) ?_
       rintro _ rfl a' w' hs'
       exact hK a' w' (hs'.putF (i := 9) rfl [0, 1, 2] [0] rfl rfl rfl rfl)
      ·intro L a w hL hv
       rw [allTrue hL] at hv
       have hs := hv
       refine (show TA _ _ _ 7 ⟨[(56, some (vI (i64 (atp1 - r1.At)))), (6, some (vI i1))], [some (cellsR b_m 97 [vm1, vm2]), some (rowsX u8S false vm2 vsm1 m.B none)], [Fact.sl RegionS vm1 m.L]⟩ from ?_) a w (hs.wkS [56, 6] [0, 1] [0] rfl rfl rfl rfl)
       clear hs hL
       refine TA_step htb (by kernel_rfl) rfl rfl (OpT_assign rfl rfl rfl rfl) ?_
       refine TA_end rfl ?_
       refine Tk_wkS (fr' := [(6, some (vI i1)), (7, some (vI (i64 (atp1 - r1.At))))]) (own' := [some (cellsR b_m 97 [vm1, vm2]), some (rowsX u8S false vm2 vsm1 m.B none)]) (shr' := [Fact.sl RegionS vm1 m.L]) [6, 7] [0, 1] [0] rfl rfl rfl rfl ?_
       obtain rfl := Option.some.inj h
       exact Tk_retV rfl rfl (resA (vs := [vI i1, vI (i64 (atp1 - r1.At))]) rfl ⟨rfl, rfl, trivial⟩) [0, 1] [] rfl rfl rfl ⟨rfl, rfl, rfl⟩
     ·replace h := br_f hg5 h
      refine Tk_condF (congrArg (fun b => some (Value.bool b)) hg5) ?_
      refine Tk_skip (Tk_blk (Tk_region (Tops_step rfl (OpT_move rfl rfl rfl rfl) ?_)))
      refine Tops_step rfl (OpT_bin rfl rfl rfl rfl rfl (bin_add_i (a := i1) (b := (1 : Int)))) ?_
      refine Tops_step rfl (OpT_assign rfl rfl rfl rfl) ?_
      refine Tops_nil (Tk_wkS (fr' := [(0, some (.pointer (some ⟨b_m, 0, none⟩))), (1, some (vU64 atp1)), (2, some (vU64 np2)), (8, some (vI (wi (i1 + (1 : Int)))))]) (own' := [some (cellsR b_m 97 [vm1, vm2]), some (rowsX u8S false vm2 vsm1 m.B none)]) (shr' := [Fact.sl RegionS vm1 m.L]) [0, 1, 2, 8] [0, 1] [0] rfl rfl rfl rfl ?_)
      exact Tk_backS (wi (i1 + (1 : Int))) h [0, 1, 2, 8] [0, 1] [0] rfl rfl rfl rfl rfl
    ·replace h := br_f hg4 h
     refine Tops_no rfl rfl (congrArg (fun b => some (Value.bool b)) hg4) rfl rfl ?_
     refine Tops_no rfl rfl (congrArg (fun b => some (Value.bool b)) hg4) rfl rfl ?_
     refine Tops_no rfl rfl (congrArg (fun b => some (Value.bool b)) hg4) rfl rfl ?_
     refine Tops_no rfl rfl (congrArg (fun b => some (Value.bool b)) hg4) rfl rfl ?_
     refine Tops_no rfl rfl (congrArg (fun b => some (Value.bool b)) hg4) rfl rfl ?_
     refine Tops_no rfl rfl (congrArg (fun b => some (Value.bool b)) hg4) rfl rfl ?_
     refine Tops_no rfl rfl (congrArg (fun b => some (Value.bool b)) hg4) rfl rfl ?_
     refine Tops_no rfl rfl (congrArg (fun b => some (Value.bool b)) hg4) rfl rfl ?_
     refine Tops_no rfl rfl (congrArg (fun b => some (Value.bool b)) hg4) rfl rfl ?_
     refine Tops_step rfl (OpT_pickF rfl rfl rfl (congrArg (fun b => some (Value.bool b)) hg4) rfl) ?_
     refine Tops_nil (Tk_wkS (fr' := [(0, some (.pointer (some ⟨b_m, 0, none⟩))), (1, some (vU64 atp1)), (2, some (vU64 np2)), (8, some (vI i1)), (9, some (.pointer (some ⟨b1, 0, none⟩))), (50, some (vB false))]) (own' := [some (cellsR b_m 97 [vm1, vm2]), some (rowsX u8S false vm2 vsm1 m.B none), some (cellsR b1 57 [vU64 r1.At, vU64 r1.Len])]) (shr' := [Fact.sl RegionS vm1 m.L]) [0, 1, 2, 8, 9, 50] [0, 1, 2] [0] rfl rfl rfl rfl ?_)
     refine Tk_condF rfl ?_
     refine Tk_skip (Tk_blk (Tk_region (Tops_step rfl (OpT_move rfl rfl rfl rfl) ?_)))
     refine Tops_step rfl (OpT_bin rfl rfl rfl rfl rfl (bin_add_i (a := i1) (b := (1 : Int)))) ?_
     refine Tops_step rfl (OpT_assign rfl rfl rfl rfl) ?_
     refine Tops_nil (Tk_wkS (fr' := [(0, some (.pointer (some ⟨b_m, 0, none⟩))), (1, some (vU64 atp1)), (2, some (vU64 np2)), (8, some (vI (wi (i1 + (1 : Int)))))]) (own' := [some (cellsR b_m 97 [vm1, vm2]), some (rowsX u8S false vm2 vsm1 m.B none)]) (shr' := [Fact.sl RegionS vm1 m.L]) [0, 1, 2, 8] [0, 1] [0] rfl rfl rfl rfl ?_)
     exact Tk_backS (wi (i1 + (1 : Int))) h [0, 1, 2, 8] [0, 1] [0] rfl rfl rfl rfl rfl
   ·replace h := br_f hg3 h
    refine Tops_no rfl rfl (congrArg (fun b => some (Value.bool b)) hg3) rfl rfl ?_
    refine Tops_no rfl rfl (congrArg (fun b => some (Value.bool b)) hg3) rfl rfl ?_
    refine Tops_no rfl rfl (congrArg (fun b => some (Value.bool b)) hg3) rfl rfl ?_
    refine Tops_no rfl rfl (congrArg (fun b => some (Value.bool b)) hg3) rfl rfl ?_
    refine Tops_step rfl (OpT_pickF rfl rfl rfl (congrArg (fun b => some (Value.bool b)) hg3) rfl) ?_
    refine Tops_step rfl (OpT_move rfl rfl rfl rfl) ?_
    refine Tops_no rfl rfl rfl rfl rfl ?_
    refine Tops_no rfl rfl rfl rfl rfl ?_
    refine Tops_no rfl rfl rfl rfl rfl ?_
    refine Tops_no rfl rfl rfl rfl rfl ?_
    refine Tops_no rfl rfl rfl rfl rfl ?_
    refine Tops_no rfl rfl rfl rfl rfl ?_
    refine Tops_no rfl rfl rfl rfl rfl ?_
    refine Tops_no rfl rfl rfl rfl rfl ?_
    refine Tops_no rfl rfl rfl rfl rfl ?_
    refine Tops_step rfl (OpT_pickF rfl rfl rfl rfl rfl) ?_
    refine Tops_nil (Tk_wkS (fr' := [(0, some (.pointer (some ⟨b_m, 0, none⟩))), (1, some (vU64 atp1)), (2, some (vU64 np2)), (8, some (vI i1)), (9, some (.pointer (some ⟨b1, 0, none⟩))), (50, some (vB false))]) (own' := [some (cellsR b_m 97 [vm1, vm2]), some (rowsX u8S false vm2 vsm1 m.B none), some (cellsR b1 57 [vU64 r1.At, vU64 r1.Len])]) (shr' := [Fact.sl RegionS vm1 m.L]) [0, 1, 2, 8, 9, 50] [0, 1, 2] [0] rfl rfl rfl rfl ?_)
    refine Tk_condF rfl ?_
    refine Tk_skip (Tk_blk (Tk_region (Tops_step rfl (OpT_move rfl rfl rfl rfl) ?_)))
    refine Tops_step rfl (OpT_bin rfl rfl rfl rfl rfl (bin_add_i (a := i1) (b := (1 : Int)))) ?_
    refine Tops_step rfl (OpT_assign rfl rfl rfl rfl) ?_
    refine Tops_nil (Tk_wkS (fr' := [(0, some (.pointer (some ⟨b_m, 0, none⟩))), (1, some (vU64 atp1)), (2, some (vU64 np2)), (8, some (vI (wi (i1 + (1 : Int)))))]) (own' := [some (cellsR b_m 97 [vm1, vm2]), some (rowsX u8S false vm2 vsm1 m.B none)]) (shr' := [Fact.sl RegionS vm1 m.L]) [0, 1, 2, 8] [0, 1] [0] rfl rfl rfl rfl ?_)
    exact Tk_backS (wi (i1 + (1 : Int))) h [0, 1, 2, 8] [0, 1] [0] rfl rfl rfl rfl rfl
  ·replace h := br_f hg2 h
   refine Tops_no rfl rfl (congrArg (fun b => some (Value.bool b)) hg2) rfl rfl ?_
   refine Tops_no rfl rfl (congrArg (fun b => some (Value.bool b)) hg2) rfl rfl ?_
   refine Tops_no rfl rfl (congrArg (fun b => some (Value.bool b)) hg2) rfl rfl ?_
   refine Tops_no rfl rfl (congrArg (fun b => some (Value.bool b)) hg2) rfl rfl ?_
   refine Tops_step rfl (OpT_pickF rfl rfl rfl (congrArg (fun b => some (Value.bool b)) hg2) rfl) ?_
   refine Tops_step rfl (OpT_move rfl rfl rfl rfl) ?_
   refine Tops_no rfl rfl rfl rfl rfl ?_
   refine Tops_no rfl rfl rfl rfl rfl ?_
   refine Tops_no rfl rfl rfl rfl rfl ?_
   refine Tops_no rfl rfl rfl rfl rfl ?_
   refine Tops_step rfl (OpT_pickF rfl rfl rfl rfl rfl) ?_
   refine Tops_step rfl (OpT_move rfl rfl rfl rfl) ?_
   refine Tops_no rfl rfl rfl rfl rfl ?_
   refine Tops_no rfl rfl rfl rfl rfl ?_
   refine Tops_no rfl rfl rfl rfl rfl ?_
   refine Tops_no rfl rfl rfl rfl rfl ?_
   refine Tops_no rfl rfl rfl rfl rfl ?_
   refine Tops_no rfl rfl rfl rfl rfl ?_
   refine Tops_no rfl rfl rfl rfl rfl ?_
   refine Tops_no rfl rfl rfl rfl rfl ?_
   refine Tops_no rfl rfl rfl rfl rfl ?_
   refine Tops_step rfl (OpT_pickF rfl rfl rfl rfl rfl) ?_
   refine Tops_nil (Tk_wkS (fr' := [(0, some (.pointer (some ⟨b_m, 0, none⟩))), (1, some (vU64 atp1)), (2, some (vU64 np2)), (8, some (vI i1)), (9, some (.pointer (some ⟨b1, 0, none⟩))), (50, some (vB false))]) (own' := [some (cellsR b_m 97 [vm1, vm2]), some (rowsX u8S false vm2 vsm1 m.B none), some (cellsR b1 57 [vU64 r1.At, vU64 r1.Len])]) (shr' := [Fact.sl RegionS vm1 m.L]) [0, 1, 2, 8, 9, 50] [0, 1, 2] [0] rfl rfl rfl rfl ?_)
   refine Tk_condF rfl ?_
   refine Tk_skip (Tk_blk (Tk_region (Tops_step rfl (OpT_move rfl rfl rfl rfl) ?_)))
   refine Tops_step rfl (OpT_bin rfl rfl rfl rfl rfl (bin_add_i (a := i1) (b := (1 : Int)))) ?_
   refine Tops_step rfl (OpT_assign rfl rfl rfl rfl) ?_
   refine Tops_nil (Tk_wkS (fr' := [(0, some (.pointer (some ⟨b_m, 0, none⟩))), (1, some (vU64 atp1)), (2, some (vU64 np2)), (8, some (vI (wi (i1 + (1 : Int)))))]) (own' := [some (cellsR b_m 97 [vm1, vm2]), some (rowsX u8S false vm2 vsm1 m.B none)]) (shr' := [Fact.sl RegionS vm1 m.L]) [0, 1, 2, 8] [0, 1] [0] rfl rfl rfl rfl ?_)
   exact Tk_backS (wi (i1 + (1 : Int))) h [0, 1, 2, 8] [0, 1] [0] rfl rfl rfl rfl rfl
 ·replace h := br_f hg1 h
  refine Tk_condF (congrArg (fun b => some (Value.bool b)) hg1) ?_
  refine Tk_exit _ rfl ?_
  refine Tk_seq (Tk_region (Tops_step rfl (OpT_assign rfl rfl rfl rfl) ?_))
  refine Tops_step rfl (OpT_assign rfl rfl rfl rfl) ?_
  refine Tops_nil (Tk_wkS (fr' := [(6, some (vI ((-1) : Int))), (7, some (vI (0 : Int)))]) (own' := [some (cellsR b_m 97 [vm1, vm2]), some (rowsX u8S false vm2 vsm1 m.B none)]) (shr' := [Fact.sl RegionS vm1 m.L]) [6, 7] [0, 1] [0] rfl rfl rfl rfl ?_)
  obtain rfl := Option.some.inj h
  exact Tk_retV rfl rfl (resA (vs := [vI ((-1) : Int), vI (0 : Int)]) rfl ⟨rfl, rfl, trivial⟩) [0, 1] [] rfl rfl rfl ⟨rfl, rfl, rfl⟩

set_option maxRecDepth 100000 in
set_option maxHeartbeats 4000000 in
theorem w_ref_Mem_Write02 {m : dumbwaiterref02_Mem} {atp1 : UInt64} {b : List UInt8} {b_m : Nat} {vm1 : Value} {vm2 : Value} {vsm1 : List Value} {vb1 : Value} {r : (Int × (List (List UInt8)))} (h : ref_Mem_Write02 m atp1 b = some r) :
  Ctr Try.prog 27 #[.pointer (some ⟨b_m, 0, none⟩), vU64 atp1, vb1] [(cellsR b_m 97 [vm1, vm2]), (rowsX u8S false vm2 vsm1 m.B none)] [Fact.sl RegionS vm1 m.L, Fact.sl u8S vb1 b]
   (fun rv own shr => rv = vI r.1 ∧ own = [(cellsR b_m 97 [vm1, vm2]), (rowsX u8S false vm2 vsm1 r.2 none)] ∧ shr = []) := by
 unfold ref_Mem_Write02 at h
 refine Ctr.mk (args := [.pointer (some ⟨b_m, 0, none⟩), vU64 atp1, vb1]) Try.func27 rfl rfl (fun R0 w0 B => ?_)
 refine Tk_seq (Tk_region (Tops_step rfl (OpT_assign rfl rfl rfl rfl) ?_))
 refine Tops_nil (Tk_wkS (fr' := [(0, some (.pointer (some ⟨b_m, 0, none⟩))), (1, some (vU64 atp1)), (2, some (vb1))]) (own' := [some (cellsR b_m 97 [vm1, vm2]), some (rowsX u8S false vm2 vsm1 m.B none)]) (shr' := [Fact.sl RegionS vm1 m.L, Fact.sl u8S vb1 b]) [0, 1, 2] [0, 1] [0, 1] rfl rfl rfl rfl ?_)
 refine Tk_seq (Tk_seq (Tk_region (Tops_step rfl (OpT_move rfl rfl rfl rfl) ?_)))
 refine Tops_step rfl (OpT_lenS rfl rfl rfl rfl Try.underlying35 (i := 1) rfl) ?_
 refine Tops_step rfl (OpT_bin rfl rfl rfl rfl rfl (bin_eql_i (a := len b) (b := (0 : Int)))) ?_
 refine Tops_nil (Tk_wkS (fr' := [(0, some (.pointer (some ⟨b_m, 0, none⟩))), (1, some (vU64 atp1)), (2, some (vb1)), (11, some (vB ((len b) == (0 : Int))))]) (own' := [some (cellsR b_m 97 [vm1, vm2]), some (rowsX u8S false vm2 vsm1 m.B none)]) (shr' := [Fact.sl RegionS vm1 m.L, Fact.sl u8S vb1 b]) [0, 1, 2, 11] [0, 1] [0, 1] rfl rfl rfl rfl ?_)
 rcases Bool.eq_false_or_eq_true ((len b) == (0 : Int)) with hg1 | hg1
 ·replace h := br_t hg1 h
  refine Tk_condT (congrArg (fun b => some (Value.bool b)) hg1) ?_
  refine Tk_seq (Tk_region (Tops_step rfl (OpT_assign rfl rfl rfl rfl) ?_))
  refine Tops_nil (Tk_wkS (fr' := [(6, some (vI (0 : Int)))]) (own' := [some (cellsR b_m 97 [vm1, vm2]), some (rowsX u8S false vm2 vsm1 m.B none)]) (shr' := [Fact.sl RegionS vm1 m.L]) [6] [0, 1] [0] rfl rfl rfl rfl ?_)
  obtain rfl := Option.some.inj h
  exact Tk_retV rfl rfl (resA (vs := [vI (0 : Int)]) rfl ⟨rfl, trivial⟩) [0, 1] [] rfl rfl rfl ⟨rfl, rfl, rfl⟩
 ·replace h := br_f hg1 h
  refine Tk_condF (congrArg (fun b => some (Value.bool b)) hg1) ?_
  refine Tk_skip (Tk_seq (Tk_region (Tops_step rfl (OpT_move rfl rfl rfl rfl) ?_)))
  refine Tops_step rfl (OpT_move rfl rfl rfl rfl) ?_
  refine Tops_step rfl (OpT_move rfl rfl rfl rfl) ?_
  refine Tops_step rfl (OpT_lenS rfl rfl rfl rfl Try.underlying35 (i := 1) rfl) ?_
  refine Tops_step rfl (OpT_cnv rfl rfl rfl rfl (cnv_i_u64 (n := len b) Try.underlying3 Try.underlying29)) ?_
  obtain ⟨find1, hx1, h⟩ := ob_e h
  refine Tops_exP rfl (OpT_callP [2, 3] (w_ref_Mem_find02 hx1) [0, 1] [0] rfl rfl rfl rfl rfl callee56 rfl rfl rfl rfl rfl) ?_
  rintro _ ⟨_, _, _, ⟨rfl, rfl, rfl⟩, rfl⟩
  refine Tops_step rfl (OpT_move rfl rfl rfl rfl) ?_
  refine Tops_step rfl (OpT_extract rfl rfl rfl rfl rfl) ?_
  refine Tops_step rfl (OpT_extract rfl rfl rfl rfl rfl) ?_
  refine Tops_step rfl (OpT_assign rfl rfl rfl rfl) ?_
  refine Tops_step rfl (OpT_assign rfl rfl rfl rfl) ?_
  refine Tops_nil (Tk_wkS (fr' := [(0, some (.pointer (some ⟨b_m, 0, none⟩))), (2, some (vb1)), (7, some (vI find1.1)), (8, some (vI find1.2))]) (own' := [some (cellsR b_m 97 [vm1, vm2]), some (rowsX u8S false vm2 vsm1 m.B none)]) (shr' := [Fact.sl RegionS vm1 m.L, Fact.sl u8S vb1 b]) [0, 2, 7, 8] [0, 1] [0, 1] rfl rfl rfl rfl ?_)
  refine Tk_seq (Tk_seq (Tk_region (Tops_step rfl (OpT_move rfl rfl rfl rfl) ?_)))
  refine Tops_step rfl (OpT_bin rfl rfl rfl rfl rfl (bin_lss_i (a := find1.1) (b := (0 : Int)))) ?_
  refine Tops_nil (Tk_wkS (fr' := [(0, some (.pointer (some ⟨b_m, 0, none⟩))), (2, some (vb1)), (7, some (vI find1.1)), (8, some (vI find1.2)), (22, some (vB (decide (find1.1 < (0 : Int)))))]) (own' := [some (cellsR b_m 97 [vm1, vm2]), some (rowsX u8S false vm2 vsm1 m.B none)]) (shr' := [Fact.sl RegionS vm1 m.L, Fact.sl u8S vb1 b]) [0, 2, 7, 8, 22] [0, 1] [0, 1] rfl rfl rfl rfl ?_)
  rcases Bool.eq_false_or_eq_true (decide (find1.1 < (0 : Int))) with hg2 | hg2
  ·replace h := br_t hg2 h
   refine Tk_condT (congrArg (fun b => some (Value.bool b)) hg2) ?_
   refine Tk_seq (Tk_region (Tops_step rfl (OpT_assign rfl rfl rfl rfl) ?_))
   refine Tops_nil (Tk_wkS (fr' := [(6, some (vI (5 : Int)))]) (own' := [some (cellsR b_m 97 [vm1, vm2]), some (rowsX u8S false vm2 vsm1 m.B none)]) (shr' := [Fact.sl RegionS vm1 m.L]) [6] [0, 1] [0] rfl rfl rfl rfl ?_)
   obtain rfl := Option.some.inj h
   exact Tk_retV rfl rfl (resA (vs := [vI (5 : Int)]) rfl ⟨rfl, trivial⟩) [0, 1] [] rfl rfl rfl ⟨rfl, rfl, rfl⟩
  ·replace h := br_f hg2 h
   refine Tk_condF (congrArg (fun b => some (Value.bool b)) hg2) ?_
   refine Tk_skip (Tk_seq (Tk_region (Tops_step rfl (OpT_move rfl rfl rfl rfl) ?_)))
   refine Tops_step rfl (OpT_nilCheckP rfl rfl rfl rfl) ?_
   refine Tops_step rfl (OpT_fieldC rfl rfl rfl rfl fldF97x1) ?_
   refine Tops_step rfl (OpT_loadC rfl rfl rfl rfl tyF81 (i := 0) rfl rfl) ?_
   refine Tops_step rfl (OpT_move rfl rfl rfl rfl) ?_
   obtain ⟨row1, hx2, h⟩ := ob_e h
   refine Tops_step rfl (OpT_idxRows rfl rfl rfl rfl rfl slF81 (i := 1) rfl hx2) ?_
   refine Tops_vs (vs_focus (i := 1) (j := find1.1) rfl hx2) ?_
   refine Tops_step rfl (OpT_loadRow (m := find1.1) rfl rfl rfl rfl tyF35 (i := 1) rfl) ?_
   refine Tops_step rfl (OpT_move rfl rfl rfl rfl) ?_
   obtain ⟨hc1, h⟩ := chk_e h
   refine Tops_step rfl (OpT_subL (S := u8S) (l := find1.2) rfl rfl rfl rfl rfl slF35 (i := 2) rfl hc1) ?_
   refine Tops_step rfl (OpT_move rfl rfl rfl rfl) ?_
   refine Tops_step rfl (OpT_copyS (S := u8S) (l := find1.2) (m := (len row1)) rfl rfl rfl rfl rfl rfl slF35 (i := 2) (j := 1) rfl rfl hc1) ?_
   refine Tops_nil (Tk_wkS (fr' := []) (own' := [some (cellsR b_m 97 [vm1, vm2]), some (rowsX u8S false vm2 vsm1 m.B (some (Int.toNat find1.1, vsAt vsm1 (Int.toNat find1.1)))), some (rowS u8S (vsAt vsm1 (Int.toNat find1.1)) (copyAt row1 find1.2 (len row1) b))]) (shr' := [Fact.sl RegionS vm1 m.L]) [] [0, 1, 2] [0] rfl rfl rfl rfl ?_)
   refine Tk_vs (vs_unfocus (i := 1) (q := 2) rfl rfl rfl) ?_
   refine Tk_seq (Tk_region (Tops_step rfl (OpT_assign rfl rfl rfl rfl) ?_))
   refine Tops_nil (Tk_wkS (fr' := [(6, some (vI (0 : Int)))]) (own' := [some (cellsR b_m 97 [vm1, vm2]), some (rowsX u8S false vm2 vsm1 (m.B.set (Int.toNat find1.1) (copyAt row1 find1.2 (len row1) b)) none)]) (shr' := [Fact.sl RegionS vm1 m.L]) [6] [0, 1] [0] rfl rfl rfl rfl ?_)
   obtain rfl := Option.some.inj h
   exact Tk_retV rfl rfl (resA (vs := [vI (0 : Int)]) rfl ⟨rfl, trivial⟩) [0, 1] [] rfl rfl rfl ⟨rfl, rfl, rfl⟩

set_option maxRecDepth 100000 in
set_option maxHeartbeats 4000000 in
theorem w_ref_Part05 {l : List Seg} {write : Bool} {vl1 : Value} {r : (List Seg)} (h : ref_Part05 l write = some r) :
  Ctr Try.prog 58 #[vl1, vB write] [] [Fact.sl SegS vl1 l]
   (fun rv own shr => ∃ (w1 : Value), rv = w1 ∧ own = [(rowS SegS w1 r)] ∧ shr = []) := by
 unfold ref_Part05 at h
 refine Ctr.mk (args := [vl1, vB write]) Try.func58 rfl rfl (fun R0 w0 B => ?_)
 refine Tk_seq (Tk_region (Tops_step rfl (OpT_assign rfl rfl rfl rfl) ?_))
 refine Tops_nil (Tk_wkS (fr' := [(0, some (vl1)), (1, some (vB write))]) (own' := []) (shr' := [Fact.sl SegS vl1 l]) [0, 1] [] [0] rfl rfl rfl rfl ?_)
 refine Tk_seq (Tk_region (Tops_step rfl (OpT_assign rfl rfl rfl rfl) ?_))
 refine Tops_nil (Tk_seq (Tk_seq (Tk_region (Tops_step rfl (OpT_assign rfl rfl rfl rfl) ?_))))
 refine Tops_nil (Tk_block (Tk_nilrow SegS ?_))
 refine Tk_loopS (σ := (List Seg) × Int × Value) [0, 1, 5, 6] [0] [0] (fun s => ⟨[(0, some (vl1)), (1, some (vB write)), (5, some (s.2.2)), (6, some (vI s.2.1))], [some (rowS SegS s.2.2 s.1)], [Fact.sl SegS vl1 l]⟩) (fun nf1 s => ref_Part05L1 l write nf1 s.1 s.2.1 = some r) fuel ([], (0 : Int), (.slice none 0 0)) h rfl rfl rfl rfl rfl (fun s h => by cases h) ?_
 rintro nf1 ⟨out1, i1, v1⟩ h
 replace h : ref_Part05L1B l write (ref_Part05L1 l write nf1) out1 i1 = some r := h
 unfold ref_Part05L1B at h
 refine Tk_seq (Tk_seq (Tk_region (Tops_step rfl (OpT_move rfl rfl rfl rfl) ?_)))
 refine Tops_step rfl (OpT_move rfl rfl rfl rfl) ?_
 refine Tops_step rfl (OpT_lenS rfl rfl rfl rfl Try.underlying22 (i := 0) rfl) ?_
 refine Tops_step rfl (OpT_bin rfl rfl rfl rfl rfl (bin_lss_i (a := i1) (b := len l))) ?_
 refine Tops_step rfl (OpT_move rfl rfl rfl rfl) ?_
 rcases Bool.eq_false_or_eq_true (decide (i1 < (len l))) with hg1 | hg1
 ·replace h := br_t hg1 h
  refine Tops_yes rfl rfl (congrArg (fun b => some (Value.bool b)) hg1) (OpT_move rfl rfl rfl rfl) ?_
  rintro _ rfl
  obtain ⟨check1, hx1, h⟩ := ob_e h
  refine Tops_yes rfl rfl (congrArg (fun b => some (Value.bool b)) hg1) (OpT_call (w_ref_Check05 hx1) [] [0] rfl rfl rfl rfl rfl callee11 rfl rfl rfl rfl) ?_
  rintro _ ⟨_, _, _, ⟨rfl, rfl, rfl⟩, rfl⟩
  refine Tops_yes rfl rfl (congrArg (fun b => some (Value.bool b)) hg1) (OpT_bin rfl rfl rfl rfl rfl (bin_eql_i (a := check1) (b := (0 : Int)))) ?_
  rintro _ rfl
  refine Tops_step rfl (OpT_pickT rfl rfl rfl (congrArg (fun b => some (Value.bool b)) hg1) rfl) ?_
  refine Tops_nil (Tk_wkS (fr' := [(0, some (vl1)), (1, some (vB write)), (5, some (v1)), (6, some (vI i1)), (15, some (vB (check1 == (0 : Int))))]) (own' := [some (rowS SegS v1 out1)]) (shr' := [Fact.sl SegS vl1 l]) [0, 1, 5, 6, 15] [0] [0] rfl rfl rfl rfl ?_)
  rcases Bool.eq_false_or_eq_true (check1 == (0 : Int)) with hg2 | hg2
  ·replace h := br_t hg2 h
   refine Tk_condT (congrArg (fun b => some (Value.bool b)) hg2) ?_
   refine Tk_skip (Tk_seq (Tk_block (Tk_seq (Tk_region (Tops_step rfl (OpT_move rfl rfl rfl rfl) ?_)))))
   refine Tops_step rfl (OpT_move rfl rfl rfl rfl) ?_
   obtain ⟨s1, hx2, h⟩ := ob_e h
   refine Tops_ex rfl (OpT_idxS rfl rfl rfl rfl rfl slF22 (i := 0) rfl hx2) fun p1 => ?_
   refine Tops_ex rfl (OpT_fieldP (S' := bS) (y := s1.Write) rfl rfl rfl rfl fldF32x2 (i := 1) rfl (by intro h cs hr; subst hr; rfl)) fun p2 => ?_
   refine Tops_step rfl (OpT_loadP rfl rfl rfl rfl tyF4 (i := 2) rfl rfl) ?_
   refine Tops_step rfl (OpT_move rfl rfl rfl rfl) ?_
   refine Tops_step rfl (OpT_bin rfl rfl rfl rfl rfl (bin_eql_b (a := s1.Write) (b := write) Try.underlying4)) ?_
   refine Tops_nil (Tk_wkS (fr' := [(0, some (vl1)), (1, some (vB write)), (5, some (v1)), (6, some (vI i1)), (24, some (vB (s1.Write == write)))]) (own' := [some (rowS SegS v1 out1)]) (shr' := [Fact.sl SegS vl1 l]) [0, 1, 5, 6, 24] [0] [0] rfl rfl rfl rfl ?_)
   rcases Bool.eq_false_or_eq_true (s1.Write == write) with hg3 | hg3
   ·replace h := br_t hg3 h
    refine Tk_condT (congrArg (fun b => some (Value.bool b)) hg3) ?_
    refine Tk_region (Tops_step rfl (OpT_move rfl rfl rfl rfl) ?_)
    refine Tops_step rfl (OpT_move rfl rfl rfl rfl) ?_
    refine Tops_step rfl (OpT_move rfl rfl rfl rfl) ?_
    obtain ⟨s2, hx3, h⟩ := ob_e h
    refine Tops_ex rfl (OpT_idxS rfl rfl rfl rfl rfl slF22 (i := 0) rfl hx3) fun p3 => ?_
    refine Tops_step rfl (OpT_loadPA (vs := [vU64 s2.At, vU32 s2.Len, vB s2.Write]) rfl rfl rfl rfl tyF32 (i := 1) rfl rfl) ?_
    refine Tops_ex rfl (OpT_buildSlice (S := SegS) (xs := [s2]) (css := [[vU64 s2.At, vU32 s2.Len, vB s2.Write]]) (cs := [vU64 s2.At, vU32 s2.Len, vB s2.Write]) (e := 32) rfl rfl rfl rfl (bldF slF22 (by decide) (by kernel_rfl)) rfl rfl rfl rfl (rel_plainD (S := SegS) (xs := [s2]) (css := [[vU64 s2.At, vU32 s2.Len, vB s2.Write]]) rfl rfl)) fun v2 => ?_
    obtain ⟨hc1, h⟩ := chk_e h
    refine Tops_ex rfl (OpT_appendB (S := SegS) rfl rfl rfl rfl rfl rfl slF22 (i := 0) (j := 1) rfl rfl hc1) fun v3 => ?_
    refine Tops_step rfl (OpT_assign rfl rfl rfl rfl) ?_
    refine Tops_nil (Tk_wkS (fr' := [(0, some (vl1)), (1, some (vB write)), (5, some (v3)), (6, some (vI i1))]) (own' := [some (rowS SegS v3 (out1 ++ [s2]))]) (shr' := [Fact.sl SegS vl1 l]) [0, 1, 5, 6] [0] [0] rfl rfl rfl rfl ?_)
    refine Tk_blk (Tk_region (Tops_step rfl (OpT_move rfl rfl rfl rfl) ?_))
    refine Tops_step rfl (OpT_bin rfl rfl rfl rfl rfl (bin_add_i (a := i1) (b := (1 : Int)))) ?_
    refine Tops_step rfl (OpT_assign rfl rfl rfl rfl) ?_
    refine Tops_nil (Tk_wkS (fr' := [(0, some (vl1)), (1, some (vB write)), (5, some (v3)), (6, some (vI (wi (i1 + (1 : Int)))))]) (own' := [some (rowS SegS v3 (out1 ++ [s2]))]) (shr' := [Fact.sl SegS vl1 l]) [0, 1, 5, 6] [0] [0] rfl rfl rfl rfl ?_)
    exact Tk_backS (out1 ++ [s2], wi (i1 + (1 : Int)), v3) h [0, 1, 5, 6] [0] [0] rfl rfl rfl rfl rfl
   ·replace h := br_f hg3 h
    refine Tk_condF (congrArg (fun b => some (Value.bool b)) hg3) ?_
    refine Tk_skip (Tk_blk (Tk_region (Tops_step rfl (OpT_move rfl rfl rfl rfl) ?_)))
    refine Tops_step rfl (OpT_bin rfl rfl rfl rfl rfl (bin_add_i (a := i1) (b := (1 : Int)))) ?_
    refine Tops_step rfl (OpT_assign rfl rfl rfl rfl) ?_
    refine Tops_nil (Tk_wkS (fr' := [(0, some (vl1)), (1, some (vB write)), (5, some (v1)), (6, some (vI (wi (i1 + (1 : Int)))))]) (own' := [some (rowS SegS v1 out1)]) (shr' := [Fact.sl SegS vl1 l]) [0, 1, 5, 6] [0] [0] rfl rfl rfl rfl ?_)
    exact Tk_backS (out1, wi (i1 + (1 : Int)), v1) h [0, 1, 5, 6] [0] [0] rfl rfl rfl rfl rfl
  ·replace h := br_f hg2 h
   refine Tk_condF (congrArg (fun b => some (Value.bool b)) hg2) ?_
   refine Tk_exit _ rfl ?_
   refine Tk_seq (Tk_region (Tops_step rfl (OpT_move rfl rfl rfl rfl) ?_))
   refine Tops_step rfl (OpT_assign rfl rfl rfl rfl) ?_
   refine Tops_nil (Tk_wkS (fr' := [(4, some (v1))]) (own' := [some (rowS SegS v1 out1)]) (shr' := []) [4] [0] [] rfl rfl rfl rfl ?_)
   obtain rfl := Option.some.inj h
   exact Tk_retV rfl rfl (resA (vs := [v1]) rfl ⟨rfl, trivial⟩) [0] [] rfl rfl rfl ⟨v1, rfl, rfl, rfl⟩
 ·replace h := br_f hg1 h
  refine Tops_no rfl rfl (congrArg (fun b => some (Value.bool b)) hg1) rfl rfl ?_
  refine Tops_no rfl rfl (congrArg (fun b => some (Value.bool b)) hg1) rfl rfl ?_
  refine Tops_no rfl rfl (congrArg (fun b => some (Value.bool b)) hg1) rfl rfl ?_
  refine Tops_step rfl (OpT_pickF rfl rfl rfl (congrArg (fun b => some (Value.bool b)) hg1) rfl) ?_
  refine Tops_nil (Tk_wkS (fr' := [(0, some (vl1)), (1, some (vB write)), (5, some (v1)), (6, some (vI i1)), (15, some (vB false))]) (own' := [some (rowS SegS v1 out1)]) (shr' := [Fact.sl SegS vl1 l]) [0, 1, 5, 6, 15] [0] [0] rfl rfl rfl rfl ?_)
  refine Tk_condF rfl ?_
  refine Tk_exit _ rfl ?_
  refine Tk_seq (Tk_region (Tops_step rfl (OpT_move rfl rfl rfl rfl) ?_))
  refine Tops_step rfl (OpT_assign rfl rfl rfl rfl) ?_
  refine Tops_nil (Tk_wkS (fr' := [(4, some (v1))]) (own' := [some (rowS SegS v1 out1)]) (shr' := []) [4] [0] [] rfl rfl rfl rfl ?_)
  obtain rfl := Option.some.inj h
  exact Tk_retV rfl rfl (resA (vs := [v1]) rfl ⟨rfl, trivial⟩) [0] [] rfl rfl rfl ⟨v1, rfl, rfl, rfl⟩

set_option maxRecDepth 100000 in
set_option maxHeartbeats 4000000 in
theorem w_ref_Total05 {l : List Seg} {vl1 : Value} {r : (UInt64 × UInt64)} (h : ref_Total05 l = some r) :
  Ctr Try.prog 61 #[vl1] [] [Fact.sl SegS vl1 l]
   (fun rv own shr => rv = .tuple #[vU64 r.1, vU64 r.2] ∧ own = [] ∧ shr = []) := by
 unfold ref_Total05 at h
 refine Ctr.mk (args := [vl1]) Try.func61 rfl rfl (fun R0 w0 B => ?_)
 refine Tk_seq (Tk_region (Tops_step rfl (OpT_assign rfl rfl rfl rfl) ?_))
 refine Tops_step rfl (OpT_assign rfl rfl rfl rfl) ?_
 refine Tops_nil (Tk_wkS (fr' := [(0, some (vl1))]) (own' := []) (shr' := [Fact.sl SegS vl1 l]) [0] [] [0] rfl rfl rfl rfl ?_)
 refine Tk_seq (Tk_region (Tops_step rfl (OpT_assign rfl rfl rfl rfl) ?_))
 refine Tops_step rfl (OpT_assign rfl rfl rfl rfl) ?_
 refine Tops_nil (Tk_seq (Tk_seq (Tk_region (Tops_step rfl (OpT_assign rfl rfl rfl rfl) ?_))))
 refine Tops_nil (Tk_block (Tk_loopS (σ := UInt64 × UInt64 × Int) [0, 4, 5, 6] [] [0] (fun s => ⟨[(0, some (vl1)), (4, some (vU64 s.1)), (5, some (vU64 s.2.1)), (6, some (vI s.2.2))], [], [Fact.sl SegS vl1 l]⟩) (fun nf1 s => ref_Total05L1 l nf1 s.1 s.2.1 s.2.2 = some r) fuel ((0 : UInt64), (0 : UInt64), (0 : Int)) h rfl rfl rfl rfl rfl (fun s h => by cases h) ?_))
 rintro nf1 ⟨read1, write1, i1⟩ h
 replace h : ref_Total05L1B l (ref_Total05L1 l nf1) read1 write1 i1 = some r := h
 unfold ref_Total05L1B at h
 refine Tk_seq (Tk_seq (Tk_region (Tops_step rfl (OpT_move rfl rfl rfl rfl) ?_)))
 refine Tops_step rfl (OpT_move rfl rfl rfl rfl) ?_
 refine Tops_step rfl (OpT_lenS rfl rfl rfl rfl Try.underlying22 (i := 0) rfl) ?_
 refine Tops_step rfl (OpT_bin rfl rfl rfl rfl rfl (bin_lss_i (a := i1) (b := len l))) ?_
 refine Tops_step rfl (OpT_move rfl rfl rfl rfl) ?_
 rcases Bool.eq_false_or_eq_true (decide (i1 < (len l))) with hg1 | hg1
 ·replace h := br_t hg1 h
  refine Tops_yes rfl rfl (congrArg (fun b => some (Value.bool b)) hg1) (OpT_move rfl rfl rfl rfl) ?_
  rintro _ rfl
  obtain ⟨check1, hx1, h⟩ := ob_e h
  refine Tops_yes rfl rfl (congrArg (fun b => some (Value.bool b)) hg1) (OpT_call (w_ref_Check05 hx1) [] [0] rfl rfl rfl rfl rfl callee11 rfl rfl rfl rfl) ?_
  rintro _ ⟨_, _, _, ⟨rfl, rfl, rfl⟩, rfl⟩
  refine Tops_yes rfl rfl (congrArg (fun b => some (Value.bool b)) hg1) (OpT_bin rfl rfl rfl rfl rfl (bin_eql_i (a := check1) (b := (0 : Int)))) ?_
  rintro _ rfl
  refine Tops_step rfl (OpT_pickT rfl rfl rfl (congrArg (fun b => some (Value.bool b)) hg1) rfl) ?_
  refine Tops_nil (Tk_wkS (fr' := [(0, some (vl1)), (4, some (vU64 read1)), (5, some (vU64 write1)), (6, some (vI i1)), (15, some (vB (check1 == (0 : Int))))]) (own' := []) (shr' := [Fact.sl SegS vl1 l]) [0, 4, 5, 6, 15] [] [0] rfl rfl rfl rfl ?_)
  rcases Bool.eq_false_or_eq_true (check1 == (0 : Int)) with hg2 | hg2
  ·replace h := br_t hg2 h
   refine Tk_condT (congrArg (fun b => some (Value.bool b)) hg2) ?_
   refine Tk_skip (Tk_seq (Tk_join (α := UInt64 × UInt64) (fun s => ⟨[(0, some (vl1)), (4, some (vU64 s.1)), (5, some (vU64 s.2)), (6, some (vI i1))], [], [Fact.sl SegS vl1 l]⟩) (fun s => ref_Total05J2 i1 (ref_Total05L1 l nf1) s.1 s.2 = some r) ?_ ?_))
   ·rintro ⟨read2, write2⟩ h
    replace h : ref_Total05J2 i1 (ref_Total05L1 l nf1) read2 write2 = some r := h
    unfold ref_Total05J2 at h
    refine Tk_region (Tops_step rfl (OpT_move rfl rfl rfl rfl) ?_)
    refine Tops_step rfl (OpT_bin rfl rfl rfl rfl rfl (bin_add_i (a := i1) (b := (1 : Int)))) ?_
    refine Tops_step rfl (OpT_assign rfl rfl rfl rfl) ?_
    refine Tops_nil (Tk_wkS (fr' := [(0, some (vl1)), (4, some (vU64 read2)), (5, some (vU64 write2)), (6, some (vI (wi (i1 + (1 : Int)))))]) (own' := []) (shr' := [Fact.sl SegS vl1 l]) [0, 4, 5, 6] [] [0] rfl rfl rfl rfl ?_)
    exact Tk_backS (read2, write2, wi (i1 + (1 : Int))) h [0, 4, 5, 6] [] [0] rfl rfl rfl rfl rfl
   ·intro HJ1
    refine Tk_block (Tk_seq (Tk_region (Tops_step rfl (OpT_move rfl rfl rfl rfl) ?_)))
    refine Tops_step rfl (OpT_move rfl rfl rfl rfl) ?_
    obtain ⟨s1, hx2, h⟩ := ob_e h
    refine Tops_ex rfl (OpT_idxS rfl rfl rfl rfl rfl slF22 (i := 0) rfl hx2) fun p1 => ?_
    refine Tops_ex rfl (OpT_fieldP (S' := bS) (y := s1.Write) rfl rfl rfl rfl fldF32x2 (i := 1) rfl (by intro h cs hr; subst hr; rfl)) fun p2 => ?_
    refine Tops_step rfl (OpT_loadP rfl rfl rfl rfl tyF4 (i := 2) rfl rfl) ?_
    refine Tops_nil (Tk_wkS (fr' := [(0, some (vl1)), (4, some (vU64 read1)), (5, some (vU64 write1)), (6, some (vI i1)), (22, some (vB s1.Write))]) (own' := []) (shr' := [Fact.sl SegS vl1 l]) [0, 4, 5, 6, 22] [] [0] rfl rfl rfl rfl ?_)
    refine Tk_join (α := UInt64 × UInt64) (fun s => ⟨[(0, some (vl1)), (4, some (vU64 s.1)), (5, some (vU64 s.2)), (6, some (vI i1))], [], [Fact.sl SegS vl1 l]⟩) (fun s => ref_Total05J3 i1 (ref_Total05L1 l nf1) s.1 s.2 = some r) ?_ ?_
    ·rintro ⟨read3, write3⟩ h
     replace h : ref_Total05J3 i1 (ref_Total05L1 l nf1) read3 write3 = some r := h
     unfold ref_Total05J3 at h
     refine Tk_blk ?_
     exact Tk_jmpS (HJ1 (read3, write3) h) [0, 4, 5, 6] [] [0] rfl rfl rfl rfl
    ·intro HJ2
     rcases Bool.eq_false_or_eq_true (s1.Write) with hg3 | hg3
     ·replace h := br_t hg3 h
      refine Tk_condT (congrArg (fun b => some (Value.bool b)) hg3) ?_
      refine Tk_region (Tops_step rfl (OpT_move rfl rfl rfl rfl) ?_)
      refine Tops_step rfl (OpT_move rfl rfl rfl rfl) ?_
      refine Tops_step rfl (OpT_move rfl rfl rfl rfl) ?_
      obtain ⟨s2, hx3, h⟩ := ob_e h
      refine Tops_ex rfl (OpT_idxS rfl rfl rfl rfl rfl slF22 (i := 0) rfl hx3) fun p3 => ?_
      refine Tops_ex rfl (OpT_fieldP (S' := u32S) (y := s2.Len) rfl rfl rfl rfl fldF32x1 (i := 1) rfl (by intro h cs hr; subst hr; rfl)) fun p4 => ?_
      refine Tops_step rfl (OpT_loadP rfl rfl rfl rfl tyF30 (i := 2) rfl rfl) ?_
      refine Tops_step rfl (OpT_cnv rfl rfl rfl rfl (cnv_u32_u64 (n := s2.Len) Try.underlying30 Try.underlying29)) ?_
      refine Tops_step rfl (OpT_bin rfl rfl rfl rfl rfl (bin_add_u64 (a := write1) (b := s2.Len.toUInt64))) ?_
      refine Tops_step rfl (OpT_assign rfl rfl rfl rfl) ?_
      refine Tops_nil (Tk_wkS (fr' := [(0, some (vl1)), (4, some (vU64 read1)), (5, some (vU64 (write1 + s2.Len.toUInt64))), (6, some (vI i1))]) (own' := []) (shr' := [Fact.sl SegS vl1 l]) [0, 4, 5, 6] [] [0] rfl rfl rfl rfl ?_)
      exact Tk_jmpS (HJ2 (read1, write1 + s2.Len.toUInt64) h) [0, 4, 5, 6] [] [0] rfl rfl rfl rfl
     ·replace h := br_f hg3 h
      refine Tk_condF (congrArg (fun b => some (Value.bool b)) hg3) ?_
      refine Tk_region (Tops_step rfl (OpT_move rfl rfl rfl rfl) ?_)
      refine Tops_step rfl (OpT_move rfl rfl rfl rfl) ?_
      refine Tops_step rfl (OpT_move rfl rfl rfl rfl) ?_
      obtain ⟨s3, hx4, h⟩ := ob_e h
      refine Tops_ex rfl (OpT_idxS rfl rfl rfl rfl rfl slF22 (i := 0) rfl hx4) fun p5 => ?_
      refine Tops_ex rfl (OpT_fieldP (S' := u32S) (y := s3.Len) rfl rfl rfl rfl fldF32x1 (i := 1) rfl (by intro h cs hr; subst hr; rfl)) fun p6 => ?_
      refine Tops_step rfl (OpT_loadP rfl rfl rfl rfl tyF30 (i := 2) rfl rfl) ?_
      refine Tops_step rfl (OpT_cnv rfl rfl rfl rfl (cnv_u32_u64 (n := s3.Len) Try.underlying30 Try.underlying29)) ?_
      refine Tops_step rfl (OpT_bin rfl rfl rfl rfl rfl (bin_add_u64 (a := read1) (b := s3.Len.toUInt64))) ?_
      refine Tops_step rfl (OpT_assign rfl rfl rfl rfl) ?_
      refine Tops_nil (Tk_wkS (fr' := [(0, some (vl1)), (4, some (vU64 (read1 + s3.Len.toUInt64))), (5, some (vU64 write1)), (6, some (vI i1))]) (own' := []) (shr' := [Fact.sl SegS vl1 l]) [0, 4, 5, 6] [] [0] rfl rfl rfl rfl ?_)
      exact Tk_jmpS (HJ2 (read1 + s3.Len.toUInt64, write1) h) [0, 4, 5, 6] [] [0] rfl rfl rfl rfl
  ·replace h := br_f hg2 h
   refine Tk_condF (congrArg (fun b => some (Value.bool b)) hg2) ?_
   refine Tk_exit _ rfl ?_
   refine Tk_seq (Tk_region (Tops_step rfl (OpT_move rfl rfl rfl rfl) ?_))
   refine Tops_step rfl (OpT_move rfl rfl rfl rfl) ?_
   refine Tops_step rfl (OpT_assign rfl rfl rfl rfl) ?_
   refine Tops_step rfl (OpT_assign rfl rfl rfl rfl) ?_
   refine Tops_nil (Tk_wkS (fr' := [(2, some (vU64 read1)), (3, some (vU64 write1))]) (own' := []) (shr' := []) [2, 3] [] [] rfl rfl rfl rfl ?_)
   obtain rfl := Option.some.inj h
   exact Tk_retV rfl rfl (resA (vs := [vU64 read1, vU64 write1]) rfl ⟨rfl, rfl, trivial⟩) [] [] rfl rfl rfl ⟨rfl, rfl, rfl⟩
 ·replace h := br_f hg1 h
  refine Tops_no rfl rfl (congrArg (fun b => some (Value.bool b)) hg1) rfl rfl ?_
  refine Tops_no rfl rfl (congrArg (fun b => some (Value.bool b)) hg1) rfl rfl ?_
  refine Tops_no rfl rfl (congrArg (fun b => some (Value.bool b)) hg1) rfl rfl ?_
  refine Tops_step rfl (OpT_pickF rfl rfl rfl (congrArg (fun b => some (Value.bool b)) hg1) rfl) ?_
  refine Tops_nil (Tk_wkS (fr' := [(0, some (vl1)), (4, some (vU64 read1)), (5, some (vU64 write1)), (6, some (vI i1)), (15, some (vB false))]) (own' := []) (shr' := [Fact.sl SegS vl1 l]) [0, 4, 5, 6, 15] [] [0] rfl rfl rfl rfl ?_)
  refine Tk_condF rfl ?_
  refine Tk_exit _ rfl ?_
  refine Tk_seq (Tk_region (Tops_step rfl (OpT_move rfl rfl rfl rfl) ?_))
  refine Tops_step rfl (OpT_move rfl rfl rfl rfl) ?_
  refine Tops_step rfl (OpT_assign rfl rfl rfl rfl) ?_
  refine Tops_step rfl (OpT_assign rfl rfl rfl rfl) ?_
  refine Tops_nil (Tk_wkS (fr' := [(2, some (vU64 read1)), (3, some (vU64 write1))]) (own' := []) (shr' := []) [2, 3] [] [] rfl rfl rfl rfl ?_)
  obtain rfl := Option.some.inj h
  exact Tk_retV rfl rfl (resA (vs := [vU64 read1, vU64 write1]) rfl ⟨rfl, rfl, trivial⟩) [] [] rfl rfl rfl ⟨rfl, rfl, rfl⟩

set_option maxRecDepth 100000 in
set_option maxHeartbeats 4000000 in
theorem w_ref_Cut05 {l : List Seg} {fromp1 : UInt64} {np2 : UInt64} {vl1 : Value} {r : (List Seg)} (h : ref_Cut05 l fromp1 np2 = some r) :
  Ctr Try.prog 68 #[vl1, vU64 fromp1, vU64 np2] [] [Fact.sl SegS vl1 l]
   (fun rv own shr => ∃ (w1 : Value), rv = w1 ∧ own = [(rowS SegS w1 r)] ∧ shr = []) := by
 unfold ref_Cut05 at h
 refine Ctr.mk (args := [vl1, vU64 fromp1, vU64 np2]) Try.func68 rfl rfl (fun R0 w0 B => ?_)
 refine Tk_seq (Tk_region (Tops_step rfl (OpT_assign rfl rfl rfl rfl) ?_))
 refine Tops_nil (Tk_wkS (fr' := [(0, some (vl1)), (1, some (vU64 fromp1)), (2, some (vU64 np2))]) (own' := []) (shr' := [Fact.sl SegS vl1 l]) [0, 1, 2] [] [0] rfl rfl rfl rfl ?_)
 refine Tk_seq (Tk_region (Tops_step rfl (OpT_assign rfl rfl rfl rfl) ?_))
 refine Tops_nil (Tk_seq (Tk_seq (Tk_region (Tops_step rfl (OpT_assign rfl rfl rfl rfl) ?_))))
 refine Tops_nil (Tk_block (Tk_nilrow SegS ?_))
 refine Tk_loopS (σ := UInt64 × UInt64 × (List Seg) × Int × Value) [0, 1, 2, 7, 8] [0] [0] (fun s => ⟨[(0, some (vl1)), (1, some (vU64 s.1)), (2, some (vU64 s.2.1)), (7, some (s.2.2.2.2)), (8, some (vI s.2.2.2.1))], [some (rowS SegS s.2.2.2.2 s.2.2.1)], [Fact.sl SegS vl1 l]⟩) (fun nf1 s => ref_Cut05L1 l nf1 s.1 s.2.1 s.2.2.1 s.2.2.2.1 = some r) fuel (fromp1, np2, [], (0 : Int), (.slice none 0 0)) h rfl rfl rfl rfl rfl (fun s h => by cases h) ?_
 rintro nf1 ⟨from1, n1, out1, i1, v1⟩ h
 replace h : ref_Cut05L1B l (ref_Cut05L1 l nf1) from1 n1 out1 i1 = some r := h
 unfold ref_Cut05L1B at h
 refine Tk_seq (Tk_seq (Tk_region (Tops_step rfl (OpT_move rfl rfl rfl rfl) ?_)))
 refine Tops_step rfl (OpT_move rfl rfl rfl rfl) ?_
 refine Tops_step rfl (OpT_lenS rfl rfl rfl rfl Try.underlying22 (i := 0) rfl) ?_
 refine Tops_step rfl (OpT_bin rfl rfl rfl rfl rfl (bin_lss_i (a := i1) (b := len l))) ?_
 refine Tops_step rfl (OpT_move rfl rfl rfl rfl) ?_
 rcases Bool.eq_false_or_eq_true (decide (i1 < (len l))) with hg1 | hg1
 ·replace h := br_t hg1 h
  refine Tops_yes rfl rfl (congrArg (fun b => some (Value.bool b)) hg1) (OpT_move rfl rfl rfl rfl) ?_
  rintro _ rfl
  obtain ⟨check1, hx1, h⟩ := ob_e h
  refine Tops_yes rfl rfl (congrArg (fun b => some (Value.bool b)) hg1) (OpT_call (w_ref_Check05 hx1) [] [0] rfl rfl rfl rfl rfl callee11 rfl rfl rfl rfl) ?_
  rintro _ ⟨_, _, _, ⟨rfl, rfl, rfl⟩, rfl⟩
  refine Tops_yes rfl rfl (congrArg (fun b => some (Value.bool b)) hg1) (OpT_bin rfl rfl rfl rfl rfl (bin_eql_i (a := check1) (b := (0 : Int)))) ?_
  rintro _ rfl
  refine Tops_step rfl (OpT_pickT rfl rfl rfl (congrArg (fun b => some (Value.bool b)) hg1) rfl) ?_
  refine Tops_nil (Tk_wkS (fr' := [(0, some (vl1)), (1, some (vU64 from1)), (2, some (vU64 n1)), (7, some (v1)), (8, some (vI i1)), (20, some (vB (check1 == (0 : Int))))]) (own' := [some (rowS SegS v1 out1)]) (shr' := [Fact.sl SegS vl1 l]) [0, 1, 2, 7, 8, 20] [0] [0] rfl rfl rfl rfl ?_)
  rcases Bool.eq_false_or_eq_true (check1 == (0 : Int)) with hg2 | hg2
  ·replace h := br_t hg2 h
   refine Tk_condT (congrArg (fun b => some (Value.bool b)) hg2) ?_
   refine Tk_skip (Tk_seq (Tk_block (Tk_seq (Tk_region (Tops_step rfl (OpT_move rfl rfl rfl rfl) ?_)))))
   refine Tops_step rfl (OpT_move rfl rfl rfl rfl) ?_
   obtain ⟨s1, hx2, h⟩ := ob_e h
   refine Tops_ex rfl (OpT_idxS rfl rfl rfl rfl rfl slF22 (i := 0) rfl hx2) fun p1 => ?_
   refine Tops_step rfl (OpT_loadPA (vs := [vU64 s1.At, vU32 s1.Len, vB s1.Write]) rfl rfl rfl rfl tyF32 (i := 1) rfl rfl) ?_
   refine Tops_ex rfl (OpT_alloc rfl rfl rfl tyZ32) fun b1 => ?_
   refine Tops_step rfl (OpT_storeC (cs' := [vU64 s1.At, vU32 s1.Len, vB s1.Write]) rfl rfl rfl rfl tyF32 (i := 1) rfl rfl rfl (one_of rfl) rfl) ?_
   refine Tops_nil (Tk_wkS (fr' := [(0, some (vl1)), (1, some (vU64 from1)), (2, some (vU64 n1)), (7, some (v1)), (8, some (vI i1)), (9, some (.pointer (some ⟨b1, 0, none⟩)))]) (own' := [some (rowS SegS v1 out1), some (cellsR b1 32 [vU64 s1.At, vU32 s1.Len, vB s1.Write])]) (shr' := [Fact.sl SegS vl1 l]) [0, 1, 2, 7, 8, 9] [0, 1] [0] rfl rfl rfl rfl ?_)
   refine Tk_seq (Tk_region (Tops_step rfl (OpT_fieldC rfl rfl rfl rfl fldF32x1) ?_))
   refine Tops_step rfl (OpT_loadC rfl rfl rfl rfl tyF30 (i := 1) rfl rfl) ?_
   refine Tops_step rfl (OpT_cnv rfl rfl rfl rfl (cnv_u32_u64 (n := s1.Len) Try.underlying30 Try.underlying29)) ?_
   refine Tops_step rfl (OpT_assign rfl rfl rfl rfl) ?_
   refine Tops_nil (Tk_wkS (fr' := [(0, some (vl1)), (1, some (vU64 from1)), (2, some (vU64 n1)), (7, some (v1)), (8, some (vI i1)), (9, some (.pointer (some ⟨b1, 0, none⟩))), (10, some (vU64 s1.Len.toUInt64))]) (own' := [some (rowS SegS v1 out1), some (cellsR b1 32 [vU64 s1.At, vU32 s1.Len, vB s1.Write])]) (shr' := [Fact.sl SegS vl1 l]) [0, 1, 2, 7, 8, 9, 10] [0, 1] [0] rfl rfl rfl rfl ?_)
   refine Tk_seq (Tk_seq (Tk_region (Tops_step rfl (OpT_move rfl rfl rfl rfl) ?_)))
   refine Tops_step rfl (OpT_move rfl rfl rfl rfl) ?_
   refine Tops_step rfl (OpT_bin rfl rfl rfl rfl rfl (bin_geq_u64 (a := from1) (b := s1.Len.toUInt64))) ?_
   refine Tops_nil (Tk_wkS (fr' := [(0, some (vl1)), (1, some (vU64 from1)), (2, some (vU64 n1)), (7, some (v1)), (8, some (vI i1)), (9, some (.pointer (some ⟨b1, 0, none⟩))), (10, some (vU64 s1.Len.toUInt64)), (32, some (vB (decide (from1 ≥ s1.Len.toUInt64))))]) (own' := [some (rowS SegS v1 out1), some (cellsR b1 32 [vU64 s1.At, vU32 s1.Len, vB s1.Write])]) (shr' := [Fact.sl SegS vl1 l]) [0, 1, 2, 7, 8, 9, 10, 32] [0, 1] [0] rfl rfl rfl rfl ?_)
   rcases Bool.eq_false_or_eq_true (decide (from1 ≥ s1.Len.toUInt64)) with hg3 | hg3
   ·replace h := br_t hg3 h
    refine Tk_condT (congrArg (fun b => some (Value.bool b)) hg3) ?_
    refine Tk_seq (Tk_region (Tops_step rfl (OpT_move rfl rfl rfl rfl) ?_))
    refine Tops_step rfl (OpT_move rfl rfl rfl rfl) ?_
    refine Tops_step rfl (OpT_bin rfl rfl rfl rfl rfl (bin_sub_u64 (a := from1) (b := s1.Len.toUInt64))) ?_
    refine Tops_step rfl (OpT_assign rfl rfl rfl rfl) ?_
    refine Tops_nil (Tk_wkS (fr' := [(0, some (vl1)), (1, some (vU64 (from1 - s1.Len.toUInt64))), (2, some (vU64 n1)), (7, some (v1)), (8, some (vI i1))]) (own' := [some (rowS SegS v1 out1)]) (shr' := [Fact.sl SegS vl1 l]) [0, 1, 2, 7, 8] [0] [0] rfl rfl rfl rfl ?_)
    refine Tk_exit _ rfl ?_
    refine Tk_region (Tops_step rfl (OpT_move rfl rfl rfl rfl) ?_)
    refine Tops_step rfl (OpT_bin rfl rfl rfl rfl rfl (bin_add_i (a := i1) (b := (1 : Int)))) ?_
    refine Tops_step rfl (OpT_assign rfl rfl rfl rfl) ?_
    refine Tops_nil (Tk_wkS (fr' := [(0, some (vl1)), (1, some (vU64 (from1 - s1.Len.toUInt64))), (2, some (vU64 n1)), (7, some (v1)), (8, some (vI (wi (i1 + (1 : Int)))))]) (own' := [some (rowS SegS v1 out1)]) (shr' := [Fact.sl SegS vl1 l]) [0, 1, 2, 7, 8] [0] [0] rfl rfl rfl rfl ?_)
    exact Tk_backS (from1 - s1.Len.toUInt64, n1, out1, wi (i1 + (1 : Int)), v1) h [0, 1, 2, 7, 8] [0] [0] rfl rfl rfl rfl rfl
   ·replace h := br_f hg3 h
    refine Tk_condF (congrArg (fun b => some (Value.bool b)) hg3) ?_
    refine Tk_skip (Tk_seq (Tk_region (Tops_step rfl (OpT_move rfl rfl rfl rfl) ?_)))
    refine Tops_step rfl (OpT_move rfl rfl rfl rfl) ?_
    refine Tops_step rfl (OpT_bin rfl rfl rfl rfl rfl (bin_sub_u64 (a := s1.Len.toUInt64) (b := from1))) ?_
    refine Tops_step rfl (OpT_move rfl rfl rfl rfl) ?_
    refine Tops_step rfl (OpT_min_u64 (u := s1.Len.toUInt64 - from1) (v := n1) rfl rfl rfl rfl rfl) ?_
    refine Tops_step rfl (OpT_assign rfl rfl rfl rfl) ?_
    refine Tops_nil (Tk_wkS (fr' := [(0, some (vl1)), (1, some (vU64 from1)), (2, some (vU64 n1)), (7, some (v1)), (8, some (vI i1)), (9, some (.pointer (some ⟨b1, 0, none⟩))), (11, some (vU64 (minu64 (s1.Len.toUInt64 - from1) n1)))]) (own' := [some (rowS SegS v1 out1), some (cellsR b1 32 [vU64 s1.At, vU32 s1.Len, vB s1.Write])]) (shr' := [Fact.sl SegS vl1 l]) [0, 1, 2, 7, 8, 9, 11] [0, 1] [0] rfl rfl rfl rfl ?_)
    refine Tk_seq (Tk_seq (Tk_region (Tops_step rfl (OpT_move rfl rfl rfl rfl) ?_)))
    refine Tops_step rfl (OpT_bin rfl rfl rfl rfl rfl (bin_gtr_u64 (a := minu64 (s1.Len.toUInt64 - from1) n1) (b := (0 : UInt64)))) ?_
    refine Tops_nil (Tk_wkS (fr' := [(0, some (vl1)), (1, some (vU64 from1)), (2, some (vU64 n1)), (7, some (v1)), (8, some (vI i1)), (9, some (.pointer (some ⟨b1, 0, none⟩))), (11, some (vU64 (minu64 (s1.Len.toUInt64 - from1) n1))), (42, some (vB (decide ((minu64 (s1.Len.toUInt64 - from1) n1) > (0 : UInt64)))))]) (own' := [some (rowS SegS v1 out1), some (cellsR b1 32 [vU64 s1.At, vU32 s1.Len, vB s1.Write])]) (shr' := [Fact.sl SegS vl1 l]) [0, 1, 2, 7, 8, 9, 11, 42] [0, 1] [0] rfl rfl rfl rfl ?_)
    refine Tk_join (α := (List Seg) × Value) (fun s => ⟨[(0, some (vl1)), (2, some (vU64 n1)), (7, some (s.2)), (8, some (vI i1)), (11, some (vU64 (minu64 (s1.Len.toUInt64 - from1) n1)))], [some (rowS SegS s.2 s.1)], [Fact.sl SegS vl1 l]⟩) (fun s => ref_Cut05J2 from1 n1 i1 (ref_Cut05L1 l nf1) s1 s.1 = some r) ?_ ?_
    ·rintro ⟨out2, v2⟩ h
     replace h : ref_Cut05J2 from1 n1 i1 (ref_Cut05L1 l nf1) s1 out2 = some r := h
     unfold ref_Cut05J2 at h
     refine Tk_region (Tops_step rfl (OpT_move rfl rfl rfl rfl) ?_)
     refine Tops_step rfl (OpT_move rfl rfl rfl rfl) ?_
     refine Tops_step rfl (OpT_bin rfl rfl rfl rfl rfl (bin_sub_u64 (a := n1) (b := minu64 (s1.Len.toUInt64 - from1) n1))) ?_
     refine Tops_step rfl (OpT_assign rfl rfl rfl rfl) ?_
     refine Tops_step rfl (OpT_assign rfl rfl rfl rfl) ?_
     refine Tops_nil (Tk_wkS (fr' := [(0, some (vl1)), (2, some (vU64 (n1 - (minu64 (s1.Len.toUInt64 - from1) n1)))), (7, some (v2)), (8, some (vI i1)), (1, some (vU64 (0 : UInt64)))]) (own' := [some (rowS SegS v2 out2)]) (shr' := [Fact.sl SegS vl1 l]) [0, 2, 7, 8, 1] [0] [0] rfl rfl rfl rfl ?_)
     refine Tk_blk (Tk_region (Tops_step rfl (OpT_move rfl rfl rfl rfl) ?_))
     refine Tops_step rfl (OpT_bin rfl rfl rfl rfl rfl (bin_add_i (a := i1) (b := (1 : Int)))) ?_
     refine Tops_step rfl (OpT_assign rfl rfl rfl rfl) ?_
     refine Tops_nil (Tk_wkS (fr' := [(0, some (vl1)), (2, some (vU64 (n1 - (minu64 (s1.Len.toUInt64 - from1) n1)))), (7, some (v2)), (8, some (vI (wi (i1 + (1 : Int))))), (1, some (vU64 (0 : UInt64)))]) (own' := [some (rowS SegS v2 out2)]) (shr' := [Fact.sl SegS vl1 l]) [0, 2, 7, 8, 1] [0] [0] rfl rfl rfl rfl ?_)
     exact Tk_backS ((0 : UInt64), n1 - (minu64 (s1.Len.toUInt64 - from1) n1), out2, wi (i1 + (1 : Int)), v2) h [0, 1, 2, 7, 8] [0] [0] rfl rfl rfl rfl rfl
    ·intro HJ1
     rcases Bool.eq_false_or_eq_true (decide ((minu64 (s1.Len.toUInt64 - from1) n1) > (0 : UInt64))) with hg4 | hg4
     ·replace h := br_t hg4 h
      refine Tk_condT (congrArg (fun b => some (Value.bool b)) hg4) ?_
      refine Tk_region (Tops_step rfl (OpT_move rfl rfl rfl rfl) ?_)
      refine Tops_step rfl (OpT_fieldC rfl rfl rfl rfl fldF32x0) ?_
      refine Tops_step rfl (OpT_loadC rfl rfl rfl rfl tyF29 (i := 1) rfl rfl) ?_
      refine Tops_step rfl (OpT_move rfl rfl rfl rfl) ?_
      refine Tops_step rfl (OpT_bin rfl rfl rfl rfl rfl (bin_add_u64 (a := s1.At) (b := from1))) ?_
      refine Tops_step rfl (OpT_move rfl rfl rfl rfl) ?_
      refine Tops_step rfl (OpT_cnv rfl rfl rfl rfl (cnv_u64_u32 (n := minu64 (s1.Len.toUInt64 - from1) n1) Try.underlying29 Try.underlying30)) ?_
      refine Tops_step rfl (OpT_fieldC rfl rfl rfl rfl fldF32x2) ?_
      refine Tops_step rfl (OpT_loadC rfl rfl rfl rfl tyF4 (i := 1) rfl rfl) ?_
      refine Tops_step rfl (OpT_build (v := .agg #[vU64 (s1.At + from1), vU32 ((minu64 (s1.Len.toUInt64 - from1) n1).toUInt32), vB s1.Write]) rfl rfl rfl rfl (bldV (by kernel_rfl))) ?_
      refine Tops_ex rfl (OpT_buildSlice (S := SegS) (xs := [(Seg.mk (s1.At + from1) ((minu64 (s1.Len.toUInt64 - from1) n1).toUInt32) s1.Write)]) (css := [[vU64 (s1.At + from1), vU32 ((minu64 (s1.Len.toUInt64 - from1) n1).toUInt32), vB s1.Write]]) (cs := [vU64 (s1.At + from1), vU32 ((minu64 (s1.Len.toUInt64 - from1) n1).toUInt32), vB s1.Write]) (e := 32) rfl rfl rfl rfl (bldF slF22 (by decide) (by kernel_rfl)) rfl rfl rfl rfl (rel_plainD (S := SegS) (xs := [(Seg.mk (s1.At + from1) ((minu64 (s1.Len.toUInt64 - from1) n1).toUInt32) s1.Write)]) (css := [[vU64 (s1.At + from1), vU32 ((minu64 (s1.Len.toUInt64 - from1) n1).toUInt32), vB s1.Write]]) rfl rfl)) fun v3 => ?_
      obtain ⟨hc1, h⟩ := chk_e h
      refine Tops_ex rfl (OpT_appendB (S := SegS) rfl rfl rfl rfl rfl rfl slF22 (i := 0) (j := 2) rfl rfl hc1) fun v4 => ?_
      refine Tops_step rfl (OpT_assign rfl rfl rfl rfl) ?_
      refine Tops_nil (Tk_wkS (fr' := [(0, some (vl1)), (2, some (vU64 n1)), (7, some (v4)), (8, some (vI i1)), (11, some (vU64 (minu64 (s1.Len.toUInt64 - from1) n1)))]) (own' := [some (rowS SegS v4 (out1 ++ [(Seg.mk (s1.At + from1) ((minu64 (s1.Len.toUInt64 - from1) n1).toUInt32) s1.Write)]))]) (shr' := [Fact.sl SegS vl1 l]) [0, 2, 7, 8, 11] [0] [0] rfl rfl rfl rfl ?_)
      exact Tk_jmpS (HJ1 (out1 ++ [(Seg.mk (s1.At + from1) ((minu64 (s1.Len.toUInt64 - from1) n1).toUInt32) s1.Write)], v4) h) [0, 2, 7, 8, 11] [0] [0] rfl rfl rfl rfl
     ·replace h := br_f hg4 h
      refine Tk_condF (congrArg (fun b => some (Value.bool b)) hg4) ?_
      refine Tk_skip ?_
      exact Tk_jmpS (HJ1 (out1, v1) h) [0, 2, 7, 8, 11] [0] [0] rfl rfl rfl rfl
  ·replace h := br_f hg2 h
   refine Tk_condF (congrArg (fun b => some (Value.bool b)) hg2) ?_
   refine Tk_exit _ rfl ?_
   refine Tk_seq (Tk_region (Tops_step rfl (OpT_move rfl rfl rfl rfl) ?_))
   refine Tops_step rfl (OpT_assign rfl rfl rfl rfl) ?_
   refine Tops_nil (Tk_wkS (fr' := [(6, some (v1))]) (own' := [some (rowS SegS v1 out1)]) (shr' := []) [6] [0] [] rfl rfl rfl rfl ?_)
   obtain rfl := Option.some.inj h
   exact Tk_retV rfl rfl (resA (vs := [v1]) rfl ⟨rfl, trivial⟩) [0] [] rfl rfl rfl ⟨v1, rfl, rfl, rfl⟩
 ·replace h := br_f hg1 h
  refine Tops_no rfl rfl (congrArg (fun b => some (Value.bool b)) hg1) rfl rfl ?_
  refine Tops_no rfl rfl (congrArg (fun b => some (Value.bool b)) hg1) rfl rfl ?_
  refine Tops_no rfl rfl (congrArg (fun b => some (Value.bool b)) hg1) rfl rfl ?_
  refine Tops_step rfl (OpT_pickF rfl rfl rfl (congrArg (fun b => some (Value.bool b)) hg1) rfl) ?_
  refine Tops_nil (Tk_wkS (fr' := [(0, some (vl1)), (1, some (vU64 from1)), (2, some (vU64 n1)), (7, some (v1)), (8, some (vI i1)), (20, some (vB false))]) (own' := [some (rowS SegS v1 out1)]) (shr' := [Fact.sl SegS vl1 l]) [0, 1, 2, 7, 8, 20] [0] [0] rfl rfl rfl rfl ?_)
  refine Tk_condF rfl ?_
  refine Tk_exit _ rfl ?_
  refine Tk_seq (Tk_region (Tops_step rfl (OpT_move rfl rfl rfl rfl) ?_))
  refine Tops_step rfl (OpT_assign rfl rfl rfl rfl) ?_
  refine Tops_nil (Tk_wkS (fr' := [(6, some (v1))]) (own' := [some (rowS SegS v1 out1)]) (shr' := []) [6] [0] [] rfl rfl rfl rfl ?_)
  obtain rfl := Option.some.inj h
  exact Tk_retV rfl rfl (resA (vs := [v1]) rfl ⟨rfl, trivial⟩) [0] [] rfl rfl rfl ⟨v1, rfl, rfl, rfl⟩

set_option maxRecDepth 100000 in
set_option maxHeartbeats 4000000 in
theorem w_ref_cut22 {l : List Seg} {cuts : List Int} {most : Int} {vl1 : Value} {vcuts1 : Value} {r : (List Seg)} (h : ref_cut22 l cuts most = some r) :
  Ctr Try.prog 59 #[vl1, vcuts1, vI most] [] [Fact.sl SegS vl1 l, Fact.sl iS vcuts1 cuts]
   (fun rv own shr => ∃ (w1 : Value), rv = w1 ∧ own = [(rowS SegS w1 r)] ∧ shr = []) := by
 unfold ref_cut22 at h
 refine Ctr.mk (args := [vl1, vcuts1, vI most]) Try.func59 rfl rfl (fun R0 w0 B => ?_)
 refine Tk_seq (Tk_region (Tops_step rfl (OpT_assign rfl rfl rfl rfl) ?_))
 refine Tops_nil (Tk_wkS (fr' := [(0, some (vl1)), (1, some (vcuts1)), (2, some (vI most))]) (own' := []) (shr' := [Fact.sl SegS vl1 l, Fact.sl iS vcuts1 cuts]) [0, 1, 2] [] [0, 1] rfl rfl rfl rfl ?_)
 refine Tk_seq (Tk_region (Tops_step rfl (OpT_assign rfl rfl rfl rfl) ?_))
 refine Tops_nil (Tk_seq (Tk_region (Tops_step rfl (OpT_move rfl rfl rfl rfl) ?_)))
 obtain ⟨total1, hx1, h⟩ := ob_e h
 refine Tops_exP rfl (OpT_call (w_ref_Total05 hx1) [] [0] rfl rfl rfl rfl rfl callee61 rfl rfl rfl rfl) ?_
 rintro _ ⟨_, _, _, ⟨rfl, rfl, rfl⟩, rfl⟩
 refine Tops_step rfl (OpT_move rfl rfl rfl rfl) ?_
 refine Tops_step rfl (OpT_extract rfl rfl rfl rfl rfl) ?_
 refine Tops_step rfl (OpT_extract rfl rfl rfl rfl rfl) ?_
 refine Tops_step rfl (OpT_assign rfl rfl rfl rfl) ?_
 refine Tops_step rfl (OpT_assign rfl rfl rfl rfl) ?_
 refine Tops_nil (Tk_wkS (fr' := [(0, some (vl1)), (1, some (vcuts1)), (2, some (vI most)), (7, some (.slice none 0 0)), (8, some (vU64 total1.1)), (9, some (vU64 total1.2))]) (own' := []) (shr' := [Fact.sl SegS vl1 l, Fact.sl iS vcuts1 cuts]) [0, 1, 2, 7, 8, 9] [] [0, 1] rfl rfl rfl rfl ?_)
 refine Tk_seq (Tk_region (Tops_step rfl (OpT_move rfl rfl rfl rfl) ?_))
 refine Tops_step rfl (OpT_move rfl rfl rfl rfl) ?_
 refine Tops_step rfl (OpT_bin rfl rfl rfl rfl rfl (bin_add_u64 (a := total1.1) (b := total1.2))) ?_
 refine Tops_step rfl (OpT_assign rfl rfl rfl rfl) ?_
 refine Tops_nil (Tk_wkS (fr' := [(0, some (vl1)), (1, some (vcuts1)), (2, some (vI most)), (7, some (.slice none 0 0)), (10, some (vU64 (total1.1 + total1.2)))]) (own' := []) (shr' := [Fact.sl SegS vl1 l, Fact.sl iS vcuts1 cuts]) [0, 1, 2, 7, 10] [] [0, 1] rfl rfl rfl rfl ?_)
 refine Tk_seq (Tk_region (Tops_step rfl (OpT_assign rfl rfl rfl rfl) ?_))
 refine Tops_nil (Tk_seq (Tk_seq (Tk_region (Tops_step rfl (OpT_assign rfl rfl rfl rfl) ?_))))
 refine Tops_nil (Tk_join (α := (List Seg) × UInt64 × Value) (fun s => ⟨[(0, some (vl1)), (7, some (s.2.2)), (10, some (vU64 (total1.1 + total1.2))), (11, some (vU64 s.2.1))], [some (rowS SegS s.2.2 s.1)], [Fact.sl SegS vl1 l]⟩) (fun s => ref_cut22J1 l total1 s.1 s.2.1 = some r) ?_ ?_)
 ·rintro ⟨out1, at1, v1⟩ h
  replace h : ref_cut22J1 l total1 out1 at1 = some r := h
  unfold ref_cut22J1 at h
  refine Tk_seq (Tk_region (Tops_step rfl (OpT_move rfl rfl rfl rfl) ?_))
  refine Tops_step rfl (OpT_move rfl rfl rfl rfl) ?_
  refine Tops_step rfl (OpT_move rfl rfl rfl rfl) ?_
  refine Tops_step rfl (OpT_move rfl rfl rfl rfl) ?_
  refine Tops_step rfl (OpT_move rfl rfl rfl rfl) ?_
  refine Tops_step rfl (OpT_bin rfl rfl rfl rfl rfl (bin_sub_u64 (a := total1.1 + total1.2) (b := at1))) ?_
  obtain ⟨cut1, hx2, h⟩ := ob_e h
  refine Tops_exP rfl (OpT_call (w_ref_Cut05 hx2) [] [0] rfl rfl rfl rfl rfl callee68 rfl rfl rfl rfl) ?_
  rintro _ ⟨v2, _, _, ⟨_, rfl, rfl, rfl⟩, rfl⟩
  obtain ⟨hc1, h⟩ := chk_e h
  refine Tops_ex rfl (OpT_appendB (S := SegS) rfl rfl rfl rfl rfl rfl slF22 (i := 0) (j := 1) rfl rfl hc1) fun v3 => ?_
  refine Tops_step rfl (OpT_assign rfl rfl rfl rfl) ?_
  refine Tops_nil (Tk_wkS (fr' := [(6, some (v3))]) (own' := [some (rowS SegS v3 (out1 ++ cut1))]) (shr' := []) [6] [0] [] rfl rfl rfl rfl ?_)
  obtain rfl := Option.some.inj h
  exact Tk_retV rfl rfl (resA (vs := [v3]) rfl ⟨rfl, trivial⟩) [0] [] rfl rfl rfl ⟨v3, rfl, rfl, rfl⟩
 ·intro HJ1
  refine Tk_block (Tk_nilrow SegS ?_)
  refine Tk_loopS (σ := (List Seg) × UInt64 × Int × Value) [0, 1, 2, 7, 10, 11, 12] [0] [0, 1] (fun s => ⟨[(0, some (vl1)), (1, some (vcuts1)), (2, some (vI most)), (7, some (s.2.2.2)), (10, some (vU64 (total1.1 + total1.2))), (11, some (vU64 s.2.1)), (12, some (vI s.2.2.1))], [some (rowS SegS s.2.2.2 s.1)], [Fact.sl SegS vl1 l, Fact.sl iS vcuts1 cuts]⟩) (fun nf2 s => ref_cut22L2 l cuts most total1 nf2 s.1 s.2.1 s.2.2.1 = some r) fuel ([], (0 : UInt64), (0 : Int), (.slice none 0 0)) h rfl rfl rfl rfl rfl (fun s h => by cases h) ?_
  rintro nf2 ⟨out2, at2, i1, v4⟩ h
  replace h : ref_cut22L2B l cuts most total1 (ref_cut22L2 l cuts most total1 nf2) out2 at2 i1 = some r := h
  unfold ref_cut22L2B at h
  refine Tk_seq (Tk_seq (Tk_region (Tops_step rfl (OpT_move rfl rfl rfl rfl) ?_)))
  refine Tops_step rfl (OpT_move rfl rfl rfl rfl) ?_
  refine Tops_step rfl (OpT_lenS rfl rfl rfl rfl Try.underlying23 (i := 1) rfl) ?_
  refine Tops_step rfl (OpT_bin rfl rfl rfl rfl rfl (bin_lss_i (a := i1) (b := len cuts))) ?_
  refine Tops_step rfl (OpT_move rfl rfl rfl rfl) ?_
  rcases Bool.eq_false_or_eq_true (decide (i1 < (len cuts))) with hg1 | hg1
  ·replace h := br_t hg1 h
   refine Tops_yes rfl rfl (congrArg (fun b => some (Value.bool b)) hg1) (OpT_move rfl rfl rfl rfl) ?_
   rintro _ rfl
   refine Tops_yes rfl rfl (congrArg (fun b => some (Value.bool b)) hg1) (OpT_bin rfl rfl rfl rfl rfl (bin_gtr_u64 (a := total1.1 + total1.2) (b := (0 : UInt64)))) ?_
   rintro _ rfl
   refine Tops_step rfl (OpT_pickT rfl rfl rfl (congrArg (fun b => some (Value.bool b)) hg1) rfl) ?_
   refine Tops_nil (Tk_wkS (fr' := [(0, some (vl1)), (1, some (vcuts1)), (2, some (vI most)), (7, some (v4)), (10, some (vU64 (total1.1 + total1.2))), (11, some (vU64 at2)), (12, some (vI i1)), (30, some (vB (decide ((total1.1 + total1.2) > (0 : UInt64)))))]) (own' := [some (rowS SegS v4 out2)]) (shr' := [Fact.sl SegS vl1 l, Fact.sl iS vcuts1 cuts]) [0, 1, 2, 7, 10, 11, 12, 30] [0] [0, 1] rfl rfl rfl rfl ?_)
   rcases Bool.eq_false_or_eq_true (decide ((total1.1 + total1.2) > (0 : UInt64))) with hg2 | hg2
   ·replace h := br_t hg2 h
    refine Tk_condT (congrArg (fun b => some (Value.bool b)) hg2) ?_
    refine Tk_skip (Tk_seq (Tk_join (α := (List Seg) × UInt64 × Value) (fun s => ⟨[(0, some (vl1)), (1, some (vcuts1)), (2, some (vI most)), (7, some (s.2.2)), (10, some (vU64 (total1.1 + total1.2))), (11, some (vU64 s.2.1)), (12, some (vI i1))], [some (rowS SegS s.2.2 s.1)], [Fact.sl SegS vl1 l, Fact.sl iS vcuts1 cuts]⟩) (fun s => ref_cut22J3 i1 (ref_cut22L2 l cuts most total1 nf2) s.1 s.2.1 = some r) ?_ ?_))
    ·rintro ⟨out3, at3, v5⟩ h
     replace h : ref_cut22J3 i1 (ref_cut22L2 l cuts most total1 nf2) out3 at3 = some r := h
     unfold ref_cut22J3 at h
     refine Tk_region (Tops_step rfl (OpT_move rfl rfl rfl rfl) ?_)
     refine Tops_step rfl (OpT_bin rfl rfl rfl rfl rfl (bin_add_i (a := i1) (b := (1 : Int)))) ?_
     refine Tops_step rfl (OpT_assign rfl rfl rfl rfl) ?_
     refine Tops_nil (Tk_wkS (fr' := [(0, some (vl1)), (1, some (vcuts1)), (2, some (vI most)), (7, some (v5)), (10, some (vU64 (total1.1 + total1.2))), (11, some (vU64 at3)), (12, some (vI (wi (i1 + (1 : Int)))))]) (own' := [some (rowS SegS v5 out3)]) (shr' := [Fact.sl SegS vl1 l, Fact.sl iS vcuts1 cuts]) [0, 1, 2, 7, 10, 11, 12] [0] [0, 1] rfl rfl rfl rfl ?_)
     exact Tk_backS (out3, at3, wi (i1 + (1 : Int)), v5) h [0, 1, 2, 7, 10, 11, 12] [0] [0, 1] rfl rfl rfl rfl rfl
    ·intro HJ2
     refine Tk_block (Tk_seq (Tk_seq (Tk_region (Tops_step rfl (OpT_move rfl rfl rfl rfl) ?_))))
     refine Tops_step rfl (OpT_move rfl rfl rfl rfl) ?_
     obtain ⟨y1, hx3, h⟩ := ob_e h
     refine Tops_ex rfl (OpT_idxS rfl rfl rfl rfl rfl slF23 (i := 1) rfl hx3) fun p1 => ?_
     refine Tops_step rfl (OpT_loadP rfl rfl rfl rfl tyF3 (i := 2) rfl rfl) ?_
     refine Tops_step rfl (OpT_bin rfl rfl rfl rfl rfl (bin_leq_i (a := y1) (b := (0 : Int)))) ?_
     refine Tops_step rfl (OpT_move rfl rfl rfl rfl) ?_
     rcases Bool.eq_false_or_eq_true (decide (y1 ≤ (0 : Int))) with hg3 | hg3
     ·replace h := br_t hg3 h
      refine Tops_no rfl rfl (congrArg (fun b => some (Value.bool b)) hg3) rfl rfl ?_
      refine Tops_no rfl rfl (congrArg (fun b => some (Value.bool b)) hg3) rfl rfl ?_
      refine Tops_no rfl rfl (congrArg (fun b => some (Value.bool b)) hg3) rfl rfl ?_
      refine Tops_no rfl rfl (congrArg (fun b => some (Value.bool b)) hg3) rfl rfl ?_
      refine Tops_no rfl rfl (congrArg (fun b => some (Value.bool b)) hg3) rfl rfl ?_
      refine Tops_no rfl rfl (congrArg (fun b => some (Value.bool b)) hg3) rfl rfl ?_
      refine Tops_no rfl rfl (congrArg (fun b => some (Value.bool b)) hg3) rfl rfl ?_
      refine Tops_no rfl rfl (congrArg (fun b => some (Value.bool b)) hg3) rfl rfl ?_
      refine Tops_no rfl rfl (congrArg (fun b => some (Value.bool b)) hg3) rfl rfl ?_
      refine Tops_step rfl (OpT_pickT rfl rfl rfl (congrArg (fun b => some (Value.bool b)) hg3) rfl) ?_
      refine Tops_nil (Tk_wkS (fr' := [(0, some (vl1)), (1, some (vcuts1)), (2, some (vI most)), (7, some (v4)), (10, some (vU64 (total1.1 + total1.2))), (11, some (vU64 at2)), (12, some (vI i1)), (48, some (vB true))]) (own' := [some (rowS SegS v4 out2)]) (shr' := [Fact.sl SegS vl1 l, Fact.sl iS vcuts1 cuts]) [0, 1, 2, 7, 10, 11, 12, 48] [0] [0, 1] rfl rfl rfl rfl ?_)
      refine Tk_condT rfl ?_
      refine Tk_exit _ rfl ?_
      exact Tk_jmpS (HJ2 (out2, at2, v4) h) [0, 1, 2, 7, 10, 11, 12] [0] [0, 1] rfl rfl rfl rfl
     ·replace h := br_f hg3 h
      refine Tops_yes rfl rfl (congrArg (fun b => some (Value.bool b)) hg3) (OpT_move rfl rfl rfl rfl) ?_
      rintro _ rfl
      refine Tops_yes rfl rfl (congrArg (fun b => some (Value.bool b)) hg3) (OpT_move rfl rfl rfl rfl) ?_
      rintro _ rfl
      obtain ⟨y2, hx4, h⟩ := ob_e h
      refine Tops_yes rfl rfl (congrArg (fun b => some (Value.bool b)) hg3) (OpT_idxS rfl rfl rfl rfl rfl slF23 (i := 1) rfl hx4) ?_
      rintro _ ⟨p2, rfl⟩
      refine Tops_yes rfl rfl (congrArg (fun b => some (Value.bool b)) hg3) (OpT_loadP rfl rfl rfl rfl tyF3 (i := 3) rfl rfl) ?_
      rintro _ rfl
      refine Tops_yes rfl rfl (congrArg (fun b => some (Value.bool b)) hg3) (OpT_cnv rfl rfl rfl rfl (cnv_i_u64 (n := y2) Try.underlying3 Try.underlying29)) ?_
      rintro _ rfl
      refine Tops_yes rfl rfl (congrArg (fun b => some (Value.bool b)) hg3) (OpT_move rfl rfl rfl rfl) ?_
      rintro _ rfl
      refine Tops_yes rfl rfl (congrArg (fun b => some (Value.bool b)) hg3) (OpT_move rfl rfl rfl rfl) ?_
      rintro _ rfl
      refine Tops_yes rfl rfl (congrArg (fun b => some (Value.bool b)) hg3) (OpT_bin rfl rfl rfl rfl rfl (bin_sub_u64 (a := total1.1 + total1.2) (b := at2))) ?_
      rintro _ rfl
      refine Tops_yes rfl rfl (congrArg (fun b => some (Value.bool b)) hg3) (OpT_bin rfl rfl rfl rfl rfl (bin_geq_u64 (a := u64 y2) (b := (total1.1 + total1.2) - at2))) ?_
      rintro _ rfl
      refine Tops_step rfl (OpT_pickF rfl rfl rfl (congrArg (fun b => some (Value.bool b)) hg3) rfl) ?_
      refine Tops_nil (Tk_wkS (fr' := [(0, some (vl1)), (1, some (vcuts1)), (2, some (vI most)), (7, some (v4)), (10, some (vU64 (total1.1 + total1.2))), (11, some (vU64 at2)), (12, some (vI i1)), (48, some (vB (decide ((u64 y2) ≥ ((total1.1 + total1.2) - at2)))))]) (own' := [some (rowS SegS v4 out2)]) (shr' := [Fact.sl SegS vl1 l, Fact.sl iS vcuts1 cuts]) [0, 1, 2, 7, 10, 11, 12, 48] [0] [0, 1] rfl rfl rfl rfl ?_)
      rcases Bool.eq_false_or_eq_true (decide ((u64 y2) ≥ ((total1.1 + total1.2) - at2))) with hg4 | hg4
      ·replace h := br_t hg4 h
       refine Tk_condT (congrArg (fun b => some (Value.bool b)) hg4) ?_
       refine Tk_exit _ rfl ?_
       exact Tk_jmpS (HJ2 (out2, at2, v4) h) [0, 1, 2, 7, 10, 11, 12] [0] [0, 1] rfl rfl rfl rfl
      ·replace h := br_f hg4 h
       refine Tk_condF (congrArg (fun b => some (Value.bool b)) hg4) ?_
       refine Tk_skip (Tk_seq (Tk_region (Tops_step rfl (OpT_move rfl rfl rfl rfl) ?_)))
       refine Tops_step rfl (OpT_move rfl rfl rfl rfl) ?_
       refine Tops_step rfl (OpT_move rfl rfl rfl rfl) ?_
       refine Tops_step rfl (OpT_move rfl rfl rfl rfl) ?_
       obtain ⟨y3, hx5, h⟩ := ob_e h
       refine Tops_ex rfl (OpT_idxS rfl rfl rfl rfl rfl slF23 (i := 1) rfl hx5) fun p3 => ?_
       refine Tops_step rfl (OpT_loadP rfl rfl rfl rfl tyF3 (i := 2) rfl rfl) ?_
       refine Tops_step rfl (OpT_cnv rfl rfl rfl rfl (cnv_i_u64 (n := y3) Try.underlying3 Try.underlying29)) ?_
       obtain ⟨cut2, hx6, h⟩ := ob_e h
       refine Tops_exP rfl (OpT_call (w_ref_Cut05 hx6) [] [0] rfl rfl rfl rfl rfl callee68 rfl rfl rfl rfl) ?_
       rintro _ ⟨v6, _, _, ⟨_, rfl, rfl, rfl⟩, rfl⟩
       refine Tops_step rfl (OpT_assign rfl rfl rfl rfl) ?_
       refine Tops_nil (Tk_wkS (fr' := [(0, some (vl1)), (1, some (vcuts1)), (2, some (vI most)), (7, some (v4)), (10, some (vU64 (total1.1 + total1.2))), (11, some (vU64 at2)), (12, some (vI i1)), (13, some (v6))]) (own' := [some (rowS SegS v4 out2), some (rowS SegS v6 cut2)]) (shr' := [Fact.sl SegS vl1 l, Fact.sl iS vcuts1 cuts]) [0, 1, 2, 7, 10, 11, 12, 13] [0, 1] [0, 1] rfl rfl rfl rfl ?_)
       refine Tk_seq (Tk_region (Tops_step rfl (OpT_move rfl rfl rfl rfl) ?_))
       refine Tops_step rfl (OpT_move rfl rfl rfl rfl) ?_
       refine Tops_step rfl (OpT_move rfl rfl rfl rfl) ?_
       refine Tops_step rfl (OpT_move rfl rfl rfl rfl) ?_
       obtain ⟨y4, hx7, h⟩ := ob_e h
       refine Tops_ex rfl (OpT_idxS rfl rfl rfl rfl rfl slF23 (i := 1) rfl hx7) fun p4 => ?_
       refine Tops_step rfl (OpT_loadP rfl rfl rfl rfl tyF3 (i := 2) rfl rfl) ?_
       refine Tops_step rfl (OpT_cnv rfl rfl rfl rfl (cnv_i_u64 (n := y4) Try.underlying3 Try.underlying29)) ?_
       refine Tops_step rfl (OpT_bin rfl rfl rfl rfl rfl (bin_add_u64 (a := at2) (b := u64 y4))) ?_
       refine Tops_step rfl (OpT_move rfl rfl rfl rfl) ?_
       obtain ⟨cut3, hx8, h⟩ := ob_e h
       refine Tops_exP rfl (OpT_call (w_ref_Cut05 hx8) [] [0] rfl rfl rfl rfl rfl callee68 rfl rfl rfl rfl) ?_
       rintro _ ⟨v7, _, _, ⟨_, rfl, rfl, rfl⟩, rfl⟩
       refine Tops_step rfl (OpT_assign rfl rfl rfl rfl) ?_
       refine Tops_nil (Tk_wkS (fr' := [(0, some (vl1)), (1, some (vcuts1)), (2, some (vI most)), (7, some (v4)), (10, some (vU64 (total1.1 + total1.2))), (11, some (vU64 at2)), (12, some (vI i1)), (13, some (v6)), (14, some (v7))]) (own' := [some (rowS SegS v4 out2), some (rowS SegS v6 cut2), some (rowS SegS v7 cut3)]) (shr' := [Fact.sl SegS vl1 l, Fact.sl iS vcuts1 cuts]) [0, 1, 2, 7, 10, 11, 12, 13, 14] [0, 1, 2] [0, 1] rfl rfl rfl rfl ?_)
       refine Tk_seq (Tk_seq (Tk_region (Tops_step rfl (OpT_move rfl rfl rfl rfl) ?_)))
       refine Tops_step rfl (OpT_lenO rfl rfl rfl rfl Try.underlying22 (i := 0) rfl) ?_
       refine Tops_step rfl (OpT_move rfl rfl rfl rfl) ?_
       refine Tops_step rfl (OpT_lenO rfl rfl rfl rfl Try.underlying22 (i := 1) rfl) ?_
       refine Tops_step rfl (OpT_bin rfl rfl rfl rfl rfl (bin_add_i (a := len out2) (b := len cut2))) ?_
       refine Tops_step rfl (OpT_move rfl rfl rfl rfl) ?_
       refine Tops_step rfl (OpT_lenO rfl rfl rfl rfl Try.underlying22 (i := 2) rfl) ?_
       refine Tops_step rfl (OpT_bin rfl rfl rfl rfl rfl (bin_add_i (a := wi ((len out2) + (len cut2))) (b := len cut3))) ?_
       refine Tops_step rfl (OpT_move rfl rfl rfl rfl) ?_
       refine Tops_step rfl (OpT_bin rfl rfl rfl rfl rfl (bin_gtr_i (a := wi ((wi ((len out2) + (len cut2))) + (len cut3))) (b := most))) ?_
       refine Tops_nil (Tk_wkS (fr' := [(0, some (vl1)), (1, some (vcuts1)), (2, some (vI most)), (7, some (v4)), (10, some (vU64 (total1.1 + total1.2))), (11, some (vU64 at2)), (12, some (vI i1)), (13, some (v6)), (76, some (vB (decide ((wi ((wi ((len out2) + (len cut2))) + (len cut3))) > most))))]) (own' := [some (rowS SegS v4 out2), some (rowS SegS v6 cut2)]) (shr' := [Fact.sl SegS vl1 l, Fact.sl iS vcuts1 cuts]) [0, 1, 2, 7, 10, 11, 12, 13, 76] [0, 1] [0, 1] rfl rfl rfl rfl ?_)
       rcases Bool.eq_false_or_eq_true (decide ((wi ((wi ((len out2) + (len cut2))) + (len cut3))) > most)) with hg5 | hg5
       ·replace h := br_t hg5 h
        refine Tk_condT (congrArg (fun b => some (Value.bool b)) hg5) ?_
        refine Tk_exit _ rfl ?_
        exact Tk_jmpS (HJ1 (out2, at2, v4) h) [0, 7, 10, 11] [0] [0] rfl rfl rfl rfl
       ·replace h := br_f hg5 h
        refine Tk_condF (congrArg (fun b => some (Value.bool b)) hg5) ?_
        refine Tk_skip (Tk_seq (Tk_region (Tops_step rfl (OpT_move rfl rfl rfl rfl) ?_)))
        refine Tops_step rfl (OpT_move rfl rfl rfl rfl) ?_
        obtain ⟨hc2, h⟩ := chk_e h
        refine Tops_ex rfl (OpT_appendB (S := SegS) rfl rfl rfl rfl rfl rfl slF22 (i := 0) (j := 1) rfl rfl hc2) fun v8 => ?_
        refine Tops_step rfl (OpT_assign rfl rfl rfl rfl) ?_
        refine Tops_nil (Tk_wkS (fr' := [(0, some (vl1)), (1, some (vcuts1)), (2, some (vI most)), (7, some (v8)), (10, some (vU64 (total1.1 + total1.2))), (11, some (vU64 at2)), (12, some (vI i1))]) (own' := [some (rowS SegS v8 (out2 ++ cut2))]) (shr' := [Fact.sl SegS vl1 l, Fact.sl iS vcuts1 cuts]) [0, 1, 2, 7, 10, 11, 12] [0] [0, 1] rfl rfl rfl rfl ?_)
        refine Tk_region (Tops_step rfl (OpT_move rfl rfl rfl rfl) ?_)
        refine Tops_step rfl (OpT_move rfl rfl rfl rfl) ?_
        refine Tops_step rfl (OpT_move rfl rfl rfl rfl) ?_
        obtain ⟨y5, hx9, h⟩ := ob_e h
        refine Tops_ex rfl (OpT_idxS rfl rfl rfl rfl rfl slF23 (i := 1) rfl hx9) fun p5 => ?_
        refine Tops_step rfl (OpT_loadP rfl rfl rfl rfl tyF3 (i := 2) rfl rfl) ?_
        refine Tops_step rfl (OpT_cnv rfl rfl rfl rfl (cnv_i_u64 (n := y5) Try.underlying3 Try.underlying29)) ?_
        refine Tops_step rfl (OpT_bin rfl rfl rfl rfl rfl (bin_add_u64 (a := at2) (b := u64 y5))) ?_
        refine Tops_step rfl (OpT_assign rfl rfl rfl rfl) ?_
        refine Tops_nil (Tk_wkS (fr' := [(0, some (vl1)), (1, some (vcuts1)), (2, some (vI most)), (7, some (v8)), (10, some (vU64 (total1.1 + total1.2))), (11, some (vU64 (at2 + (u64 y5)))), (12, some (vI i1))]) (own' := [some (rowS SegS v8 (out2 ++ cut2))]) (shr' := [Fact.sl SegS vl1 l, Fact.sl iS vcuts1 cuts]) [0, 1, 2, 7, 10, 11, 12] [0] [0, 1] rfl rfl rfl rfl ?_)
        refine Tk_blk ?_
        exact Tk_jmpS (HJ2 (out2 ++ cut2, at2 + (u64 y5), v8) h) [0, 1, 2, 7, 10, 11, 12] [0] [0, 1] rfl rfl rfl rfl
   ·replace h := br_f hg2 h
    refine Tk_condF (congrArg (fun b => some (Value.bool b)) hg2) ?_
    refine Tk_exit _ rfl ?_
    exact Tk_jmpS (HJ1 (out2, at2, v4) h) [0, 7, 10, 11] [0] [0] rfl rfl rfl rfl
  ·replace h := br_f hg1 h
   refine Tops_no rfl rfl (congrArg (fun b => some (Value.bool b)) hg1) rfl rfl ?_
   refine Tops_no rfl rfl (congrArg (fun b => some (Value.bool b)) hg1) rfl rfl ?_
   refine Tops_step rfl (OpT_pickF rfl rfl rfl (congrArg (fun b => some (Value.bool b)) hg1) rfl) ?_
   refine Tops_nil (Tk_wkS (fr' := [(0, some (vl1)), (1, some (vcuts1)), (2, some (vI most)), (7, some (v4)), (10, some (vU64 (total1.1 + total1.2))), (11, some (vU64 at2)), (12, some (vI i1)), (30, some (vB false))]) (own' := [some (rowS SegS v4 out2)]) (shr' := [Fact.sl SegS vl1 l, Fact.sl iS vcuts1 cuts]) [0, 1, 2, 7, 10, 11, 12, 30] [0] [0, 1] rfl rfl rfl rfl ?_)
   refine Tk_condF rfl ?_
   refine Tk_exit _ rfl ?_
   exact Tk_jmpS (HJ1 (out2, at2, v4) h) [0, 7, 10, 11] [0] [0] rfl rfl rfl rfl

set_option maxRecDepth 100000 in
set_option maxHeartbeats 4000000 in
theorem w_ref_Cut22 {l : List Seg} {cuts : List Int} {vl1 : Value} {vcuts1 : Value} {r : (List Seg)} (h : ref_Cut22 l cuts = some r) :
  Ctr Try.prog 31 #[vl1, vcuts1] [] [Fact.sl SegS vl1 l, Fact.sl iS vcuts1 cuts]
   (fun rv own shr => ∃ (w1 : Value), rv = w1 ∧ own = [(rowS SegS w1 r)] ∧ shr = []) := by
 unfold ref_Cut22 at h
 refine Ctr.mk (args := [vl1, vcuts1]) Try.func31 rfl rfl (fun R0 w0 B => ?_)
 refine Tk_seq (Tk_region (Tops_step rfl (OpT_assign rfl rfl rfl rfl) ?_))
 refine Tops_nil (Tk_wkS (fr' := [(0, some (vl1)), (1, some (vcuts1))]) (own' := []) (shr' := [Fact.sl SegS vl1 l, Fact.sl iS vcuts1 cuts]) [0, 1] [] [0, 1] rfl rfl rfl rfl ?_)
 refine Tk_seq (Tk_seq (Tk_region (Tops_step rfl (OpT_move rfl rfl rfl rfl) ?_)))
 obtain ⟨check1, hx1, h⟩ := ob_e h
 refine Tops_exP rfl (OpT_call (w_ref_Check05 hx1) [] [0] rfl rfl rfl rfl rfl callee11 rfl rfl rfl rfl) ?_
 rintro _ ⟨_, _, _, ⟨rfl, rfl, rfl⟩, rfl⟩
 refine Tops_step rfl (OpT_bin rfl rfl rfl rfl rfl (bin_neq_i (a := check1) (b := (0 : Int)))) ?_
 refine Tops_nil (Tk_wkS (fr' := [(0, some (vl1)), (1, some (vcuts1)), (10, some (vB (check1 != (0 : Int))))]) (own' := []) (shr' := [Fact.sl SegS vl1 l, Fact.sl iS vcuts1 cuts]) [0, 1, 10] [] [0, 1] rfl rfl rfl rfl ?_)
 rcases Bool.eq_false_or_eq_true (check1 != (0 : Int)) with hg1 | hg1
 ·replace h := br_t hg1 h
  refine Tk_condT (congrArg (fun b => some (Value.bool b)) hg1) ?_
  refine Tk_seq (Tk_region (Tops_step rfl (OpT_assign rfl rfl rfl rfl) ?_))
  refine Tops_nil (Tk_wkS (fr' := [(4, some (.slice none 0 0))]) (own' := []) (shr' := []) [4] [] [] rfl rfl rfl rfl ?_)
  refine Tk_nilrow SegS ?_
  obtain rfl := Option.some.inj h
  exact Tk_retV rfl rfl (resA (vs := [.slice none 0 0]) rfl ⟨rfl, trivial⟩) [0] [] rfl rfl rfl ⟨(.slice none 0 0), rfl, rfl, rfl⟩
 ·replace h := br_f hg1 h
  refine Tk_condF (congrArg (fun b => some (Value.bool b)) hg1) ?_
  refine Tk_skip (Tk_seq (Tk_region (Tops_step rfl (OpT_move rfl rfl rfl rfl) ?_)))
  obtain ⟨part1, hx2, h⟩ := ob_e h
  refine Tops_exP rfl (OpT_call (w_ref_Part05 hx2) [] [0] rfl rfl rfl rfl rfl callee58 rfl rfl rfl rfl) ?_
  rintro _ ⟨v1, _, _, ⟨_, rfl, rfl, rfl⟩, rfl⟩
  refine Tops_step rfl (OpT_move rfl rfl rfl rfl) ?_
  obtain ⟨part2, hx3, h⟩ := ob_e h
  refine Tops_exP rfl (OpT_call (w_ref_Part05 hx3) [] [0] rfl rfl rfl rfl rfl callee58 rfl rfl rfl rfl) ?_
  rintro _ ⟨v2, _, _, ⟨_, rfl, rfl, rfl⟩, rfl⟩
  refine Tops_step rfl (OpT_assign rfl rfl rfl rfl) ?_
  refine Tops_step rfl (OpT_assign rfl rfl rfl rfl) ?_
  refine Tops_nil (Tk_wkS (fr' := [(1, some (vcuts1)), (5, some (v1)), (6, some (v2))]) (own' := [some (rowS SegS v1 part1), some (rowS SegS v2 part2)]) (shr' := [Fact.sl iS vcuts1 cuts]) [1, 5, 6] [0, 1] [1] rfl rfl rfl rfl ?_)
  refine Tk_seq (Tk_region (Tops_step rfl (OpT_move rfl rfl rfl rfl) ?_))
  refine Tops_step rfl (OpT_move rfl rfl rfl rfl) ?_
  refine Tops_step rfl (OpT_move rfl rfl rfl rfl) ?_
  refine Tops_step rfl (OpT_lenO rfl rfl rfl rfl Try.underlying22 (i := 1) rfl) ?_
  refine Tops_step rfl (OpT_bin rfl rfl rfl rfl rfl (bin_sub_i (a := (64 : Int)) (b := len part2))) ?_
  obtain ⟨cut1, hx4, h⟩ := ob_e h
  refine Tops_exP rfl (OpT_callB [0] [0, 1, 2] (w_ref_cut22 hx4) [] rfl rfl rfl rfl rfl callee59 rfl rfl rfl rfl rfl rfl (bor_cons (bor_row 0 rfl rfl) (bor_cons (bor_shr 0 rfl) bor_nil)) (by rintro _ _ _ ⟨_, rfl, rfl, rfl⟩; exact ⟨rfl, (ri_cons (ri_row (S := SegS) rfl _ _) ri_nil)⟩)) ?_
  rintro _ ⟨v3, _, _, ⟨_, rfl, rfl, rfl⟩, rfl⟩
  refine Tops_step rfl (OpT_assign rfl rfl rfl rfl) ?_
  refine Tops_nil (Tk_wkS (fr' := [(1, some (vcuts1)), (6, some (v2)), (7, some (v3))]) (own' := [some (rowS SegS v2 part2), some (rowS SegS v3 cut1)]) (shr' := [Fact.sl iS vcuts1 cuts]) [1, 6, 7] [1, 2] [0] rfl rfl rfl rfl ?_)
  refine Tk_seq (Tk_region (Tops_step rfl (OpT_move rfl rfl rfl rfl) ?_))
  refine Tops_step rfl (OpT_move rfl rfl rfl rfl) ?_
  refine Tops_step rfl (OpT_move rfl rfl rfl rfl) ?_
  refine Tops_step rfl (OpT_move rfl rfl rfl rfl) ?_
  refine Tops_step rfl (OpT_lenO rfl rfl rfl rfl Try.underlying22 (i := 1) rfl) ?_
  refine Tops_step rfl (OpT_bin rfl rfl rfl rfl rfl (bin_sub_i (a := (64 : Int)) (b := len cut1))) ?_
  obtain ⟨cut2, hx5, h⟩ := ob_e h
  refine Tops_exP rfl (OpT_callB [0] [0, 1, 2] (w_ref_cut22 hx5) [] rfl rfl rfl rfl rfl callee59 rfl rfl rfl rfl rfl rfl (bor_cons (bor_row 0 rfl rfl) (bor_cons (bor_shr 0 rfl) bor_nil)) (by rintro _ _ _ ⟨_, rfl, rfl, rfl⟩; exact ⟨rfl, (ri_cons (ri_row (S := SegS) rfl _ _) ri_nil)⟩)) ?_
  rintro _ ⟨v4, _, _, ⟨_, rfl, rfl, rfl⟩, rfl⟩
  obtain ⟨hc1, h⟩ := chk_e h
  refine Tops_ex rfl (OpT_appendB (S := SegS) rfl rfl rfl rfl rfl rfl slF22 (i := 1) (j := 2) rfl rfl hc1) fun v5 => ?_
  refine Tops_step rfl (OpT_assign rfl rfl rfl rfl) ?_
  refine Tops_nil (Tk_wkS (fr' := [(4, some (v5))]) (own' := [some (rowS SegS v5 (cut1 ++ cut2))]) (shr' := []) [4] [1] [] rfl rfl rfl rfl ?_)
  obtain rfl := Option.some.inj h
  exact Tk_retV rfl rfl (resA (vs := [v5]) rfl ⟨rfl, trivial⟩) [0] [] rfl rfl rfl ⟨v5, rfl, rfl, rfl⟩

set_option maxRecDepth 100000 in
set_option maxHeartbeats 4000000 in
theorem w_ref_Size22 {rp0 : Req} {vrp01 : Value} {vrp02 : Value} {r : (Int × Int)} (h : ref_Size22 rp0 = some r) :
  Ctr Try.prog 29 #[.agg #[vU32 rp0.Type_, vU64 rp0.Sector, vrp01, vI rp0.Room, vrp02]] [] [Fact.sl u8S vrp01 rp0.Data, Fact.sl RangeS vrp02 rp0.Ranges]
   (fun rv own shr => rv = .tuple #[vI r.1, vI r.2] ∧ own = [] ∧ shr = []) := by
 unfold ref_Size22 at h
 refine Ctr.mk (args := [.agg #[vU32 rp0.Type_, vU64 rp0.Sector, vrp01, vI rp0.Room, vrp02]]) Try.func29 rfl rfl (fun R0 w0 B => ?_)
 refine Tk_seq (Tk_region (Tops_ex rfl (OpT_box rfl rfl rfl rfl) fun b1 => ?_))
 refine Tops_step rfl (OpT_assign rfl rfl rfl rfl) ?_
 refine Tops_step rfl (OpT_assign rfl rfl rfl rfl) ?_
 refine Tops_nil (Tk_wkS (fr' := [(1, some (.pointer (some ⟨b1, 0, none⟩)))]) (own' := [some (cellsR b1 38 [vU32 rp0.Type_, vU64 rp0.Sector, vrp01, vI rp0.Room, vrp02])]) (shr' := [Fact.sl u8S vrp01 rp0.Data, Fact.sl RangeS vrp02 rp0.Ranges]) [1] [0] [0, 1] rfl rfl rfl rfl ?_)
 refine Tk_seq (Tk_region (Tops_step rfl (OpT_loadCA (vs := [vU32 rp0.Type_, vU64 rp0.Sector, vrp01, vI rp0.Room, vrp02]) rfl rfl rfl rfl tyF38 (i := 0) rfl rfl rfl) ?_))
 obtain ⟨bytes1, hx1, h⟩ := ob_e h
 refine Tops_exP rfl (OpT_call (w_ref_Bytes21 hx1) [] [0, 1] rfl rfl rfl rfl rfl callee22 rfl rfl rfl rfl) ?_
 rintro _ ⟨_, _, _, ⟨v1, rfl, rfl, rfl⟩, rfl⟩
 refine Tops_step rfl (OpT_move rfl rfl rfl rfl) ?_
 refine Tops_step rfl (OpT_extract rfl rfl rfl rfl rfl) ?_
 refine Tops_step rfl (OpT_extract rfl rfl rfl rfl rfl) ?_
 refine Tops_step rfl (OpT_assign rfl rfl rfl rfl) ?_
 refine Tops_step rfl (OpT_assign rfl rfl rfl rfl) ?_
 refine Tops_nil (Tk_wkS (fr' := [(1, some (.pointer (some ⟨b1, 0, none⟩))), (4, some (v1)), (5, some (vI bytes1.2))]) (own' := [some (cellsR b1 38 [vU32 rp0.Type_, vU64 rp0.Sector, vrp01, vI rp0.Room, vrp02]), some (rowS u8S v1 bytes1.1)]) (shr' := [Fact.sl u8S vrp01 rp0.Data, Fact.sl RangeS vrp02 rp0.Ranges]) [1, 4, 5] [0, 1] [0, 1] rfl rfl rfl rfl ?_)
 refine Tk_seq (Tk_seq (Tk_region (Tops_step rfl (OpT_move rfl rfl rfl rfl) ?_)))
 refine Tops_step rfl (OpT_bin rfl rfl rfl rfl rfl (bin_neq_i (a := bytes1.2) (b := (0 : Int)))) ?_
 refine Tops_nil (Tk_wkS (fr' := [(1, some (.pointer (some ⟨b1, 0, none⟩))), (4, some (v1)), (5, some (vI bytes1.2)), (12, some (vB (bytes1.2 != (0 : Int))))]) (own' := [some (cellsR b1 38 [vU32 rp0.Type_, vU64 rp0.Sector, vrp01, vI rp0.Room, vrp02]), some (rowS u8S v1 bytes1.1)]) (shr' := [Fact.sl u8S vrp01 rp0.Data, Fact.sl RangeS vrp02 rp0.Ranges]) [1, 4, 5, 12] [0, 1] [0, 1] rfl rfl rfl rfl ?_)
 rcases Bool.eq_false_or_eq_true (bytes1.2 != (0 : Int)) with hg1 | hg1
 ·replace h := br_t hg1 h
  refine Tk_condT (congrArg (fun b => some (Value.bool b)) hg1) ?_
  refine Tk_seq (Tk_region (Tops_step rfl (OpT_move rfl rfl rfl rfl) ?_))
  refine Tops_step rfl (OpT_assign rfl rfl rfl rfl) ?_
  refine Tops_step rfl (OpT_assign rfl rfl rfl rfl) ?_
  refine Tops_nil (Tk_wkS (fr' := [(2, some (vI (0 : Int))), (3, some (vI bytes1.2))]) (own' := []) (shr' := []) [2, 3] [] [] rfl rfl rfl rfl ?_)
  obtain rfl := Option.some.inj h
  exact Tk_retV rfl rfl (resA (vs := [vI (0 : Int), vI bytes1.2]) rfl ⟨rfl, rfl, trivial⟩) [] [] rfl rfl rfl ⟨rfl, rfl, rfl⟩
 ·replace h := br_f hg1 h
  refine Tk_condF (congrArg (fun b => some (Value.bool b)) hg1) ?_
  refine Tk_skip (Tk_seq (Tk_region (Tops_step rfl (OpT_move rfl rfl rfl rfl) ?_)))
  refine Tops_step rfl (OpT_lenO rfl rfl rfl rfl Try.underlying35 (i := 1) rfl) ?_
  refine Tops_step rfl (OpT_fieldC rfl rfl rfl rfl fldF38x3) ?_
  refine Tops_step rfl (OpT_loadC rfl rfl rfl rfl tyF3 (i := 0) rfl rfl) ?_
  refine Tops_step rfl (OpT_bin rfl rfl rfl rfl rfl (bin_add_i (a := len bytes1.1) (b := rp0.Room))) ?_
  refine Tops_step rfl (OpT_bin rfl rfl rfl rfl rfl (bin_add_i (a := wi ((len bytes1.1) + rp0.Room)) (b := (1 : Int)))) ?_
  refine Tops_step rfl (OpT_assign rfl rfl rfl rfl) ?_
  refine Tops_step rfl (OpT_assign rfl rfl rfl rfl) ?_
  refine Tops_nil (Tk_wkS (fr' := [(2, some (vI (wi ((wi ((len bytes1.1) + rp0.Room)) + (1 : Int))))), (3, some (vI (0 : Int)))]) (own' := []) (shr' := []) [2, 3] [] [] rfl rfl rfl rfl ?_)
  obtain rfl := Option.some.inj h
  exact Tk_retV rfl rfl (resA (vs := [vI (wi ((wi ((len bytes1.1) + rp0.Room)) + (1 : Int))), vI (0 : Int)]) rfl ⟨rfl, rfl, trivial⟩) [] [] rfl rfl rfl ⟨rfl, rfl, rfl⟩

set_option maxRecDepth 100000 in
set_option maxHeartbeats 4000000 in
theorem w_ref_Mem_Has02 {m : dumbwaiterref02_Mem} {atp1 : UInt64} {np2 : UInt64} {b_m : Nat} {vm1 : Value} {vm2 : Value} {vsm1 : List Value} {r : Bool} (h : ref_Mem_Has02 m atp1 np2 = some r) :
  Ctr Try.prog 57 #[.pointer (some ⟨b_m, 0, none⟩), vU64 atp1, vU64 np2] [(cellsR b_m 97 [vm1, vm2]), (rowsX u8S false vm2 vsm1 m.B none)] [Fact.sl RegionS vm1 m.L]
   (fun rv own shr => rv = vB r ∧ own = [(cellsR b_m 97 [vm1, vm2]), (rowsX u8S false vm2 vsm1 m.B none)] ∧ shr = []) := by
 unfold ref_Mem_Has02 at h
 refine Ctr.mk (args := [.pointer (some ⟨b_m, 0, none⟩), vU64 atp1, vU64 np2]) Try.func57 rfl rfl (fun R0 w0 B => ?_)
 refine Tk_seq (Tk_region (Tops_step rfl (OpT_assign rfl rfl rfl rfl) ?_))
 refine Tops_nil (Tk_wkS (fr' := [(0, some (.pointer (some ⟨b_m, 0, none⟩))), (1, some (vU64 atp1)), (2, some (vU64 np2))]) (own' := [some (cellsR b_m 97 [vm1, vm2]), some (rowsX u8S false vm2 vsm1 m.B none)]) (shr' := [Fact.sl RegionS vm1 m.L]) [0, 1, 2] [0, 1] [0] rfl rfl rfl rfl ?_)
 refine Tk_seq (Tk_region (Tops_step rfl (OpT_move rfl rfl rfl rfl) ?_))
 refine Tops_step rfl (OpT_move rfl rfl rfl rfl) ?_
 refine Tops_step rfl (OpT_move rfl rfl rfl rfl) ?_
 obtain ⟨find1, hx1, h⟩ := ob_e h
 refine Tops_exP rfl (OpT_callP [2, 3] (w_ref_Mem_find02 hx1) [0, 1] [0] rfl rfl rfl rfl rfl callee56 rfl rfl rfl rfl rfl) ?_
 rintro _ ⟨_, _, _, ⟨rfl, rfl, rfl⟩, rfl⟩
 refine Tops_step rfl (OpT_move rfl rfl rfl rfl) ?_
 refine Tops_step rfl (OpT_extract rfl rfl rfl rfl rfl) ?_
 refine Tops_step rfl (OpT_extract rfl rfl rfl rfl rfl) ?_
 refine Tops_step rfl (OpT_assign rfl rfl rfl rfl) ?_
 refine Tops_step rfl (OpT_assign rfl rfl rfl rfl) ?_
 refine Tops_nil (Tk_wkS (fr' := [(7, some (vI find1.1))]) (own' := [some (cellsR b_m 97 [vm1, vm2]), some (rowsX u8S false vm2 vsm1 m.B none)]) (shr' := [Fact.sl RegionS vm1 m.L]) [7] [0, 1] [0] rfl rfl rfl rfl ?_)
 refine Tk_seq (Tk_region (Tops_step rfl (OpT_move rfl rfl rfl rfl) ?_))
 refine Tops_step rfl (OpT_bin rfl rfl rfl rfl rfl (bin_geq_i (a := find1.1) (b := (0 : Int)))) ?_
 refine Tops_step rfl (OpT_assign rfl rfl rfl rfl) ?_
 refine Tops_nil (Tk_wkS (fr' := [(6, some (vB (decide (find1.1 ≥ (0 : Int)))))]) (own' := [some (cellsR b_m 97 [vm1, vm2]), some (rowsX u8S false vm2 vsm1 m.B none)]) (shr' := [Fact.sl RegionS vm1 m.L]) [6] [0, 1] [0] rfl rfl rfl rfl ?_)
 obtain rfl := Option.some.inj h
 exact Tk_retV rfl rfl (resA (vs := [vB (decide (find1.1 ≥ (0 : Int)))]) rfl ⟨rfl, trivial⟩) [0, 1] [] rfl rfl rfl ⟨rfl, rfl, rfl⟩

set_option maxRecDepth 100000 in
set_option maxHeartbeats 4000000 in
theorem w_ref_Lay22 {m : dumbwaiterref02_Mem} {atp1 : UInt64} {rp2 : Req} {cuts : List Int} {b_m : Nat} {vm1 : Value} {vm2 : Value} {vsm1 : List Value} {vrp21 : Value} {vrp22 : Value} {vcuts1 : Value} {r : ((List Seg) × Int × (List (List UInt8)))} (h : ref_Lay22 m atp1 rp2 cuts = some r) :
  Ctr Try.prog 28 #[.pointer (some ⟨b_m, 0, none⟩), vU64 atp1, .agg #[vU32 rp2.Type_, vU64 rp2.Sector, vrp21, vI rp2.Room, vrp22], vcuts1] [(cellsR b_m 97 [vm1, vm2]), (rowsX u8S false vm2 vsm1 m.B none)] [Fact.sl RegionS vm1 m.L, Fact.sl u8S vrp21 rp2.Data, Fact.sl RangeS vrp22 rp2.Ranges, Fact.sl iS vcuts1 cuts]
   (fun rv own shr => ∃ (w1 : Value), rv = .tuple #[w1, vI r.2.1] ∧ own = [(cellsR b_m 97 [vm1, vm2]), (rowsX u8S false vm2 vsm1 r.2.2 none), (rowS SegS w1 r.1)] ∧ shr = []) := by
 unfold ref_Lay22 at h
 refine Ctr.mk (args := [.pointer (some ⟨b_m, 0, none⟩), vU64 atp1, .agg #[vU32 rp2.Type_, vU64 rp2.Sector, vrp21, vI rp2.Room, vrp22], vcuts1]) Try.func28 rfl rfl (fun R0 w0 B => ?_)
 refine Tk_seq (Tk_region (Tops_ex rfl (OpT_box rfl rfl rfl rfl) fun b1 => ?_))
 refine Tops_step rfl (OpT_assign rfl rfl rfl rfl) ?_
 refine Tops_step rfl (OpT_assign rfl rfl rfl rfl) ?_
 refine Tops_nil (Tk_wkS (fr' := [(0, some (.pointer (some ⟨b_m, 0, none⟩))), (1, some (vU64 atp1)), (3, some (vcuts1)), (6, some (.pointer (some ⟨b1, 0, none⟩)))]) (own' := [some (cellsR b_m 97 [vm1, vm2]), some (rowsX u8S false vm2 vsm1 m.B none), some (cellsR b1 38 [vU32 rp2.Type_, vU64 rp2.Sector, vrp21, vI rp2.Room, vrp22])]) (shr' := [Fact.sl RegionS vm1 m.L, Fact.sl u8S vrp21 rp2.Data, Fact.sl RangeS vrp22 rp2.Ranges, Fact.sl iS vcuts1 cuts]) [0, 1, 3, 6] [0, 1, 2] [0, 1, 2, 3] rfl rfl rfl rfl ?_)
 refine Tk_seq (Tk_seq (Tk_region (Tops_step rfl (OpT_move rfl rfl rfl rfl) ?_)))
 refine Tops_step rfl (OpT_ptrNil rfl rfl rfl (.inl rfl) rfl rfl ptrF62) ?_
 refine Tops_nil (Tk_wkS (fr' := [(0, some (.pointer (some ⟨b_m, 0, none⟩))), (1, some (vU64 atp1)), (3, some (vcuts1)), (6, some (.pointer (some ⟨b1, 0, none⟩))), (15, some (vB false))]) (own' := [some (cellsR b_m 97 [vm1, vm2]), some (rowsX u8S false vm2 vsm1 m.B none), some (cellsR b1 38 [vU32 rp2.Type_, vU64 rp2.Sector, vrp21, vI rp2.Room, vrp22])]) (shr' := [Fact.sl RegionS vm1 m.L, Fact.sl u8S vrp21 rp2.Data, Fact.sl RangeS vrp22 rp2.Ranges, Fact.sl iS vcuts1 cuts]) [0, 1, 3, 6, 15] [0, 1, 2] [0, 1, 2, 3] rfl rfl rfl rfl ?_)
 refine Tk_condF rfl ?_
 refine Tk_skip (Tk_seq (Tk_region (Tops_step rfl (OpT_loadCA (vs := [vU32 rp2.Type_, vU64 rp2.Sector, vrp21, vI rp2.Room, vrp22]) rfl rfl rfl rfl tyF38 (i := 2) rfl rfl rfl) ?_)))
 obtain ⟨size1, hx1, h⟩ := ob_e h
 refine Tops_exP rfl (OpT_call (w_ref_Size22 hx1) [] [1, 2] rfl rfl rfl rfl rfl callee29 rfl rfl rfl rfl) ?_
 rintro _ ⟨_, _, _, ⟨rfl, rfl, rfl⟩, rfl⟩
 refine Tops_step rfl (OpT_move rfl rfl rfl rfl) ?_
 refine Tops_step rfl (OpT_extract rfl rfl rfl rfl rfl) ?_
 refine Tops_step rfl (OpT_extract rfl rfl rfl rfl rfl) ?_
 refine Tops_step rfl (OpT_assign rfl rfl rfl rfl) ?_
 refine Tops_step rfl (OpT_assign rfl rfl rfl rfl) ?_
 refine Tops_nil (Tk_wkS (fr' := [(0, some (.pointer (some ⟨b_m, 0, none⟩))), (1, some (vU64 atp1)), (3, some (vcuts1)), (6, some (.pointer (some ⟨b1, 0, none⟩))), (10, some (vI size1.1)), (11, some (vI size1.2))]) (own' := [some (cellsR b_m 97 [vm1, vm2]), some (rowsX u8S false vm2 vsm1 m.B none), some (cellsR b1 38 [vU32 rp2.Type_, vU64 rp2.Sector, vrp21, vI rp2.Room, vrp22])]) (shr' := [Fact.sl RegionS vm1 m.L, Fact.sl u8S vrp21 rp2.Data, Fact.sl RangeS vrp22 rp2.Ranges, Fact.sl iS vcuts1 cuts]) [0, 1, 3, 6, 10, 11] [0, 1, 2] [0, 1, 2, 3] rfl rfl rfl rfl ?_)
 refine Tk_seq (Tk_seq (Tk_region (Tops_step rfl (OpT_move rfl rfl rfl rfl) ?_)))
 refine Tops_step rfl (OpT_bin rfl rfl rfl rfl rfl (bin_neq_i (a := size1.2) (b := (0 : Int)))) ?_
 refine Tops_nil (Tk_wkS (fr' := [(0, some (.pointer (some ⟨b_m, 0, none⟩))), (1, some (vU64 atp1)), (3, some (vcuts1)), (6, some (.pointer (some ⟨b1, 0, none⟩))), (10, some (vI size1.1)), (11, some (vI size1.2)), (22, some (vB (size1.2 != (0 : Int))))]) (own' := [some (cellsR b_m 97 [vm1, vm2]), some (rowsX u8S false vm2 vsm1 m.B none), some (cellsR b1 38 [vU32 rp2.Type_, vU64 rp2.Sector, vrp21, vI rp2.Room, vrp22])]) (shr' := [Fact.sl RegionS vm1 m.L, Fact.sl u8S vrp21 rp2.Data, Fact.sl RangeS vrp22 rp2.Ranges, Fact.sl iS vcuts1 cuts]) [0, 1, 3, 6, 10, 11, 22] [0, 1, 2] [0, 1, 2, 3] rfl rfl rfl rfl ?_)
 rcases Bool.eq_false_or_eq_true (size1.2 != (0 : Int)) with hg1 | hg1
 ·replace h := br_t hg1 h
  refine Tk_condT (congrArg (fun b => some (Value.bool b)) hg1) ?_
  refine Tk_seq (Tk_region (Tops_step rfl (OpT_move rfl rfl rfl rfl) ?_))
  refine Tops_step rfl (OpT_assign rfl rfl rfl rfl) ?_
  refine Tops_step rfl (OpT_assign rfl rfl rfl rfl) ?_
  refine Tops_nil (Tk_wkS (fr' := [(8, some (.slice none 0 0)), (9, some (vI size1.2))]) (own' := [some (cellsR b_m 97 [vm1, vm2]), some (rowsX u8S false vm2 vsm1 m.B none)]) (shr' := [Fact.sl RegionS vm1 m.L]) [8, 9] [0, 1] [0] rfl rfl rfl rfl ?_)
  refine Tk_nilrow SegS ?_
  obtain rfl := Option.some.inj h
  exact Tk_retV rfl rfl (resA (vs := [.slice none 0 0, vI size1.2]) rfl ⟨rfl, rfl, trivial⟩) [0, 1, 2] [] rfl rfl rfl ⟨(.slice none 0 0), rfl, rfl, rfl⟩
 ·replace h := br_f hg1 h
  refine Tk_condF (congrArg (fun b => some (Value.bool b)) hg1) ?_
  refine Tk_skip (Tk_seq (Tk_seq (Tk_region (Tops_step rfl (OpT_move rfl rfl rfl rfl) ?_))))
  refine Tops_step rfl (OpT_move rfl rfl rfl rfl) ?_
  refine Tops_step rfl (OpT_move rfl rfl rfl rfl) ?_
  refine Tops_step rfl (OpT_cnv rfl rfl rfl rfl (cnv_i_u64 (n := size1.1) Try.underlying3 Try.underlying29)) ?_
  obtain ⟨has1, hx2, h⟩ := ob_e h
  refine Tops_exP rfl (OpT_callP [3, 4, 2] (w_ref_Mem_Has02 hx2) [0, 1] [0] rfl rfl rfl rfl rfl callee57 rfl rfl rfl rfl rfl) ?_
  rintro _ ⟨_, _, _, ⟨rfl, rfl, rfl⟩, rfl⟩
  refine Tops_step rfl (OpT_not rfl rfl rfl rfl) ?_
  refine Tops_nil (Tk_wkS (fr' := [(0, some (.pointer (some ⟨b_m, 0, none⟩))), (1, some (vU64 atp1)), (3, some (vcuts1)), (6, some (.pointer (some ⟨b1, 0, none⟩))), (10, some (vI size1.1)), (29, some (vB (!has1)))]) (own' := [some (cellsR b_m 97 [vm1, vm2]), some (rowsX u8S false vm2 vsm1 m.B none), some (cellsR b1 38 [vU32 rp2.Type_, vU64 rp2.Sector, vrp21, vI rp2.Room, vrp22])]) (shr' := [Fact.sl RegionS vm1 m.L, Fact.sl u8S vrp21 rp2.Data, Fact.sl RangeS vrp22 rp2.Ranges, Fact.sl iS vcuts1 cuts]) [0, 1, 3, 6, 10, 29] [0, 1, 2] [0, 1, 2, 3] rfl rfl rfl rfl ?_)
  rcases Bool.eq_false_or_eq_true ((!has1)) with hg2 | hg2
  ·replace h := br_t hg2 h
   refine Tk_condT (congrArg (fun b => some (Value.bool b)) hg2) ?_
   refine Tk_seq (Tk_region (Tops_step rfl (OpT_assign rfl rfl rfl rfl) ?_))
   refine Tops_step rfl (OpT_assign rfl rfl rfl rfl) ?_
   refine Tops_nil (Tk_wkS (fr' := [(8, some (.slice none 0 0)), (9, some (vI (5 : Int)))]) (own' := [some (cellsR b_m 97 [vm1, vm2]), some (rowsX u8S false vm2 vsm1 m.B none)]) (shr' := [Fact.sl RegionS vm1 m.L]) [8, 9] [0, 1] [0] rfl rfl rfl rfl ?_)
   refine Tk_nilrow SegS ?_
   obtain rfl := Option.some.inj h
   exact Tk_retV rfl rfl (resA (vs := [.slice none 0 0, vI (5 : Int)]) rfl ⟨rfl, rfl, trivial⟩) [0, 1, 2] [] rfl rfl rfl ⟨(.slice none 0 0), rfl, rfl, rfl⟩
  ·replace h := br_f hg2 h
   refine Tk_condF (congrArg (fun b => some (Value.bool b)) hg2) ?_
   refine Tk_skip (Tk_seq (Tk_region (Tops_step rfl (OpT_loadCA (vs := [vU32 rp2.Type_, vU64 rp2.Sector, vrp21, vI rp2.Room, vrp22]) rfl rfl rfl rfl tyF38 (i := 2) rfl rfl rfl) ?_)))
   obtain ⟨bytes1, hx3, h⟩ := ob_e h
   refine Tops_exP rfl (OpT_call (w_ref_Bytes21 hx3) [] [1, 2] rfl rfl rfl rfl rfl callee22 rfl rfl rfl rfl) ?_
   rintro _ ⟨_, _, _, ⟨v1, rfl, rfl, rfl⟩, rfl⟩
   refine Tops_step rfl (OpT_move rfl rfl rfl rfl) ?_
   refine Tops_step rfl (OpT_extract rfl rfl rfl rfl rfl) ?_
   refine Tops_step rfl (OpT_extract rfl rfl rfl rfl rfl) ?_
   refine Tops_step rfl (OpT_assign rfl rfl rfl rfl) ?_
   refine Tops_step rfl (OpT_assign rfl rfl rfl rfl) ?_
   refine Tops_nil (Tk_wkS (fr' := [(0, some (.pointer (some ⟨b_m, 0, none⟩))), (1, some (vU64 atp1)), (3, some (vcuts1)), (10, some (vI size1.1)), (12, some (v1))]) (own' := [some (cellsR b_m 97 [vm1, vm2]), some (rowsX u8S false vm2 vsm1 m.B none), some (rowS u8S v1 bytes1.1)]) (shr' := [Fact.sl RegionS vm1 m.L, Fact.sl iS vcuts1 cuts]) [0, 1, 3, 10, 12] [0, 1, 3] [0, 3] rfl rfl rfl rfl ?_)
   refine Tk_seq (Tk_region (Tops_step rfl (OpT_move rfl rfl rfl rfl) ?_))
   refine Tops_step rfl (OpT_move rfl rfl rfl rfl) ?_
   refine Tops_ex rfl (OpT_buildSlice (S := u8S) (xs := ([] : List UInt8)) (css := []) (cs := []) (e := 5) rfl rfl rfl rfl (bldF slF35 (by decide) (by kernel_rfl)) rfl rfl rfl rfl (rel_plainD (S := u8S) (xs := ([] : List UInt8)) (css := []) rfl rfl)) fun v2 => ?_
   refine Tops_step rfl (OpT_move rfl rfl rfl rfl) ?_
   obtain ⟨hc1, h⟩ := chk_e h
   refine Tops_ex rfl (OpT_appendB (S := u8S) rfl rfl rfl rfl rfl rfl slF35 (i := 3) (j := 2) rfl rfl hc1) fun v3 => ?_
   refine Tops_step rfl (OpT_move rfl rfl rfl rfl) ?_
   refine Tops_step rfl (OpT_move rfl rfl rfl rfl) ?_
   refine Tops_step rfl (OpT_lenO rfl rfl rfl rfl Try.underlying35 (i := 2) rfl) ?_
   refine Tops_step rfl (OpT_bin rfl rfl rfl rfl rfl (bin_sub_i (a := size1.1) (b := len bytes1.1))) ?_
   obtain ⟨hc2, h⟩ := chk_e h
   refine Tops_ex rfl (OpT_appendOZ (S := u8S) rfl (l := wi (size1.1 - (len bytes1.1))) (u := (0 : UInt8)) rfl rfl rfl rfl rfl slF35 Try.underlying3 (i := 3) rfl rfl hc2) fun v4 => ?_
   obtain ⟨write1, hx4, h⟩ := ob_e h
   refine Tops_exP rfl (OpT_callB [3] [4, 5, 2, 3] (w_ref_Mem_Write02 hx4) [0, 1] rfl rfl rfl rfl rfl callee27 rfl rfl rfl rfl rfl rfl (bor_cons (bor_shr 0 rfl) (bor_cons (bor_row 3 rfl rfl) bor_nil)) (by rintro _ _ _ ⟨rfl, rfl, rfl⟩; exact ⟨rfl, (ri_cons (ri_cells _ _ _) (ri_cons (ri_rows rfl _ _ _ _ _) ri_nil))⟩)) ?_
   rintro _ ⟨_, _, _, ⟨rfl, rfl, rfl⟩, rfl⟩
   refine Tops_nil (Tk_wkS (fr' := [(1, some (vU64 atp1)), (3, some (vcuts1)), (10, some (vI size1.1)), (12, some (v1))]) (own' := [some (cellsR b_m 97 [vm1, vm2]), some (rowsX u8S false vm2 vsm1 write1.2 none), some (rowS u8S v1 bytes1.1)]) (shr' := [Fact.sl RegionS vm1 m.L, Fact.sl iS vcuts1 cuts]) [1, 3, 10, 12] [0, 1, 2] [0, 1] rfl rfl rfl rfl ?_)
   refine Tk_seq (Tk_region (Tops_step rfl (OpT_move rfl rfl rfl rfl) ?_))
   refine Tops_step rfl (OpT_move rfl rfl rfl rfl) ?_
   refine Tops_step rfl (OpT_lenO rfl rfl rfl rfl Try.underlying35 (i := 2) rfl) ?_
   refine Tops_step rfl (OpT_cnv rfl rfl rfl rfl (cnv_i_u32 (n := len bytes1.1) Try.underlying3 Try.underlying30)) ?_
   refine Tops_step rfl (OpT_build (v := .agg #[vU64 atp1, vU32 (u32 (len bytes1.1)), vB false]) rfl rfl rfl rfl (bldV (by kernel_rfl))) ?_
   refine Tops_step rfl (OpT_move rfl rfl rfl rfl) ?_
   refine Tops_step rfl (OpT_move rfl rfl rfl rfl) ?_
   refine Tops_step rfl (OpT_lenO rfl rfl rfl rfl Try.underlying35 (i := 2) rfl) ?_
   refine Tops_step rfl (OpT_cnv rfl rfl rfl rfl (cnv_i_u64 (n := len bytes1.1) Try.underlying3 Try.underlying29)) ?_
   refine Tops_step rfl (OpT_bin rfl rfl rfl rfl rfl (bin_add_u64 (a := atp1) (b := u64 (len bytes1.1)))) ?_
   refine Tops_step rfl (OpT_move rfl rfl rfl rfl) ?_
   refine Tops_step rfl (OpT_move rfl rfl rfl rfl) ?_
   refine Tops_step rfl (OpT_lenO rfl rfl rfl rfl Try.underlying35 (i := 2) rfl) ?_
   refine Tops_step rfl (OpT_bin rfl rfl rfl rfl rfl (bin_sub_i (a := size1.1) (b := len bytes1.1))) ?_
   refine Tops_step rfl (OpT_cnv rfl rfl rfl rfl (cnv_i_u32 (n := wi (size1.1 - (len bytes1.1))) Try.underlying3 Try.underlying30)) ?_
   refine Tops_step rfl (OpT_build (v := .agg #[vU64 (atp1 + (u64 (len bytes1.1))), vU32 (u32 (wi (size1.1 - (len bytes1.1)))), vB true]) rfl rfl rfl rfl (bldV (by kernel_rfl))) ?_
   refine Tops_ex rfl (OpT_buildSlice (S := SegS) (xs := [(Seg.mk atp1 (u32 (len bytes1.1)) false), (Seg.mk (atp1 + (u64 (len bytes1.1))) (u32 (wi (size1.1 - (len bytes1.1)))) true)]) (css := [[vU64 atp1, vU32 (u32 (len bytes1.1)), vB false], [vU64 (atp1 + (u64 (len bytes1.1))), vU32 (u32 (wi (size1.1 - (len bytes1.1)))), vB true]]) (cs := [vU64 atp1, vU32 (u32 (len bytes1.1)), vB false, vU64 (atp1 + (u64 (len bytes1.1))), vU32 (u32 (wi (size1.1 - (len bytes1.1)))), vB true]) (e := 32) rfl rfl rfl rfl (bldF slF22 (by decide) (by kernel_rfl)) rfl rfl rfl rfl (rel_plainD (S := SegS) (xs := [(Seg.mk atp1 (u32 (len bytes1.1)) false), (Seg.mk (atp1 + (u64 (len bytes1.1))) (u32 (wi (size1.1 - (len bytes1.1)))) true)]) (css := [[vU64 atp1, vU32 (u32 (len bytes1.1)), vB false], [vU64 (atp1 + (u64 (len bytes1.1))), vU32 (u32 (wi (size1.1 - (len bytes1.1)))), vB true]]) rfl rfl)) fun v5 => ?_
   refine Tops_step rfl (OpT_move rfl rfl rfl rfl) ?_
   obtain ⟨cut1, hx5, h⟩ := ob_e h
   refine Tops_exP rfl (OpT_callB [3] [0, 1, 2, 3, 4] (w_ref_Cut22 hx5) [] rfl rfl rfl rfl rfl callee31 rfl rfl rfl rfl rfl rfl (bor_cons (bor_row 3 rfl rfl) (bor_cons (bor_shr 1 rfl) bor_nil)) (by rintro _ _ _ ⟨_, rfl, rfl, rfl⟩; exact ⟨rfl, (ri_cons (ri_row (S := SegS) rfl _ _) ri_nil)⟩)) ?_
   rintro _ ⟨v6, _, _, ⟨_, rfl, rfl, rfl⟩, rfl⟩
   refine Tops_step rfl (OpT_assign rfl rfl rfl rfl) ?_
   refine Tops_step rfl (OpT_assign rfl rfl rfl rfl) ?_
   refine Tops_nil (Tk_wkS (fr' := [(8, some (v6)), (9, some (vI (0 : Int)))]) (own' := [some (cellsR b_m 97 [vm1, vm2]), some (rowsX u8S false vm2 vsm1 write1.2 none), some (rowS SegS v6 cut1)]) (shr' := [Fact.sl RegionS vm1 m.L]) [8, 9] [0, 1, 4] [0] rfl rfl rfl rfl ?_)
   obtain rfl := Option.some.inj h
   exact Tk_retV rfl rfl (resA (vs := [v6, vI (0 : Int)]) rfl ⟨rfl, rfl, trivial⟩) [0, 1, 2] [] rfl rfl rfl ⟨v6, rfl, rfl, rfl⟩

set_option maxRecDepth 100000 in
set_option maxHeartbeats 4000000 in
theorem w_ref_In05 {m : dumbwaiterref02_Mem} {l : List Seg} {b_m : Nat} {vm1 : Value} {vm2 : Value} {vsm1 : List Value} {vl1 : Value} {r : Int} (h : ref_In05 m l = some r) :
  Ctr Try.prog 60 #[.pointer (some ⟨b_m, 0, none⟩), vl1] [(cellsR b_m 97 [vm1, vm2]), (rowsX u8S false vm2 vsm1 m.B none)] [Fact.sl RegionS vm1 m.L, Fact.sl SegS vl1 l]
   (fun rv own shr => rv = vI r ∧ own = [(cellsR b_m 97 [vm1, vm2]), (rowsX u8S false vm2 vsm1 m.B none)] ∧ shr = []) := by
 unfold ref_In05 at h
 refine Ctr.mk (args := [.pointer (some ⟨b_m, 0, none⟩), vl1]) Try.func60 rfl rfl (fun R0 w0 B => ?_)
 refine Tk_seq (Tk_region (Tops_step rfl (OpT_assign rfl rfl rfl rfl) ?_))
 refine Tops_nil (Tk_wkS (fr' := [(0, some (.pointer (some ⟨b_m, 0, none⟩))), (1, some (vl1))]) (own' := [some (cellsR b_m 97 [vm1, vm2]), some (rowsX u8S false vm2 vsm1 m.B none)]) (shr' := [Fact.sl RegionS vm1 m.L, Fact.sl SegS vl1 l]) [0, 1] [0, 1] [0, 1] rfl rfl rfl rfl ?_)
 refine Tk_seq (Tk_seq (Tk_region (Tops_step rfl (OpT_move rfl rfl rfl rfl) ?_)))
 refine Tops_step rfl (OpT_ptrNil rfl rfl rfl (.inl rfl) rfl rfl ptrF62) ?_
 refine Tops_nil (Tk_wkS (fr' := [(0, some (.pointer (some ⟨b_m, 0, none⟩))), (1, some (vl1)), (8, some (vB false))]) (own' := [some (cellsR b_m 97 [vm1, vm2]), some (rowsX u8S false vm2 vsm1 m.B none)]) (shr' := [Fact.sl RegionS vm1 m.L, Fact.sl SegS vl1 l]) [0, 1, 8] [0, 1] [0, 1] rfl rfl rfl rfl ?_)
 refine Tk_condF rfl ?_
 refine Tk_skip (Tk_seq (Tk_region (Tops_step rfl (OpT_move rfl rfl rfl rfl) ?_)))
 obtain ⟨check1, hx1, h⟩ := ob_e h
 refine Tops_exP rfl (OpT_call (w_ref_Check05 hx1) [] [1] rfl rfl rfl rfl rfl callee11 rfl rfl rfl rfl) ?_
 rintro _ ⟨_, _, _, ⟨rfl, rfl, rfl⟩, rfl⟩
 refine Tops_step rfl (OpT_assign rfl rfl rfl rfl) ?_
 refine Tops_nil (Tk_wkS (fr' := [(0, some (.pointer (some ⟨b_m, 0, none⟩))), (1, some (vl1)), (5, some (vI check1))]) (own' := [some (cellsR b_m 97 [vm1, vm2]), some (rowsX u8S false vm2 vsm1 m.B none)]) (shr' := [Fact.sl RegionS vm1 m.L, Fact.sl SegS vl1 l]) [0, 1, 5] [0, 1] [0, 1] rfl rfl rfl rfl ?_)
 refine Tk_seq (Tk_seq (Tk_region (Tops_step rfl (OpT_assign rfl rfl rfl rfl) ?_)))
 refine Tops_nil (Tk_block (Tk_loopS (σ := Int × Int) [0, 1, 5, 6] [0, 1] [0, 1] (fun s => ⟨[(0, some (.pointer (some ⟨b_m, 0, none⟩))), (1, some (vl1)), (5, some (vI s.1)), (6, some (vI s.2))], [some (cellsR b_m 97 [vm1, vm2]), some (rowsX u8S false vm2 vsm1 m.B none)], [Fact.sl RegionS vm1 m.L, Fact.sl SegS vl1 l]⟩) (fun nf1 s => ref_In05L1 m l nf1 s.1 s.2 = some r) fuel (check1, (0 : Int)) h rfl rfl rfl rfl rfl (fun s h => by cases h) ?_))
 rintro nf1 ⟨e1, i1⟩ h
 replace h : ref_In05L1B m l (ref_In05L1 m l nf1) e1 i1 = some r := h
 unfold ref_In05L1B at h
 refine Tk_seq (Tk_seq (Tk_region (Tops_step rfl (OpT_move rfl rfl rfl rfl) ?_)))
 refine Tops_step rfl (OpT_move rfl rfl rfl rfl) ?_
 refine Tops_step rfl (OpT_lenS rfl rfl rfl rfl Try.underlying22 (i := 1) rfl) ?_
 refine Tops_step rfl (OpT_bin rfl rfl rfl rfl rfl (bin_lss_i (a := i1) (b := len l))) ?_
 refine Tops_step rfl (OpT_move rfl rfl rfl rfl) ?_
 rcases Bool.eq_false_or_eq_true (decide (i1 < (len l))) with hg1 | hg1
 ·replace h := br_t hg1 h
  refine Tops_yes rfl rfl (congrArg (fun b => some (Value.bool b)) hg1) (OpT_move rfl rfl rfl rfl) ?_
  rintro _ rfl
  refine Tops_yes rfl rfl (congrArg (fun b => some (Value.bool b)) hg1) (OpT_bin rfl rfl rfl rfl rfl (bin_eql_i (a := e1) (b := (0 : Int)))) ?_
  rintro _ rfl
  refine Tops_step rfl (OpT_pickT rfl rfl rfl (congrArg (fun b => some (Value.bool b)) hg1) rfl) ?_
  refine Tops_nil (Tk_wkS (fr' := [(0, some (.pointer (some ⟨b_m, 0, none⟩))), (1, some (vl1)), (5, some (vI e1)), (6, some (vI i1)), (18, some (vB (e1 == (0 : Int))))]) (own' := [some (cellsR b_m 97 [vm1, vm2]), some (rowsX u8S false vm2 vsm1 m.B none)]) (shr' := [Fact.sl RegionS vm1 m.L, Fact.sl SegS vl1 l]) [0, 1, 5, 6, 18] [0, 1] [0, 1] rfl rfl rfl rfl ?_)
  rcases Bool.eq_false_or_eq_true (e1 == (0 : Int)) with hg2 | hg2
  ·replace h := br_t hg2 h
   refine Tk_condT (congrArg (fun b => some (Value.bool b)) hg2) ?_
   refine Tk_skip (Tk_seq (Tk_block (Tk_seq (Tk_drawT (by kernel_rfl) ?_))))
   refine TA_tb [0, 0, 0, 6, 14, 30, 0, 0, 192, 448, 960, 1984, 4095, 8191] (by kernel_rfl) fun htb => ?_
   refine TA_wkS (fr' := [(0, some (.pointer (some ⟨b_m, 0, none⟩))), (1, some (vl1)), (5, some (vI e1)), (6, some (vI i1))]) (own' := [some (cellsR b_m 97 [vm1, vm2]), some (rowsX u8S false vm2 vsm1 m.B none)]) (shr' := [Fact.sl RegionS vm1 m.L, Fact.sl SegS vl1 l]) [0, 1, 5, 6] [0, 1] [0, 1] rfl rfl rfl rfl ?_
   obtain ⟨s1, hx2, h⟩ := ob_e h
   obtain ⟨s2, hx3, h⟩ := ob_e h
   refine TA_seg (lo := 0) (hi := 12) htb rfl rfl (by kernel_rfl) (fun c L a w => ∃ (p1 : Value), ∃ (p2 : Value), ∃ (p3 : Value), ∃ (p4 : Value), Sat c ⟨[(0, some (.pointer (some ⟨b_m, 0, none⟩))), (1, some (vl1)), (5, some (vI e1)), (6, some (vI i1)), (21, bif L 0 then some (.pointer (some ⟨b_m, 0, none⟩)) else none), (22, bif L 1 then some (vl1) else none), (23, bif L 2 then some (vI i1) else none), (24, bif L 3 then some (p1) else none), (25, bif L 4 then some (p2) else none), (26, bif L 5 then some (vU64 s1.At) else none), (27, bif L 6 then some (vl1) else none), (28, bif L 7 then some (vI i1) else none), (29, bif L 8 then some (p3) else none), (30, bif L 9 then some (p4) else none), (31, bif L 10 then some (vU32 s2.Len) else none), (32, bif L 11 then some (vU64 s2.Len.toUInt64) else none)], [(some (cellsR b_m 97 [vm1, vm2]) : Option Res), (some (rowsX u8S false vm2 vsm1 m.B none) : Option Res)], [Fact.sl RegionS vm1 m.L, Fact.sl SegS vl1 l, (bif L 3 then Fact.pt SegS p1 s1 else Fact.tt), (bif L 4 then Fact.pt u64S p2 s1.At else Fact.tt), (bif L 8 then Fact.pt SegS p3 s2 else Fact.tt), (bif L 9 then Fact.pt u32S p4 s2.Len else Fact.tt)]⟩ a w) [([], []), ([], [3, 4, 5]), ([], [3, 4, 5]), ([1, 2], [4, 5]), ([1, 2, 3], [5]), ([1, 2, 3, 4], []), ([], [8, 9, 10, 11]), ([], [8, 9, 10, 11]), ([6, 7], [9, 10, 11]), ([6, 7, 8], [10, 11]), ([6, 7, 8, 9], [11]), ([6, 7, 8, 9, 10], [])] rfl (by kernel_rfl) ?_ (steps_cons ?_ (steps_cons ?_ (steps_cons ?_ (steps_cons ?_ (steps_cons ?_ (steps_cons ?_ (steps_cons ?_ (steps_cons ?_ (steps_cons ?_ (steps_cons ?_ (steps_cons ?_ (steps_cons ?_ (steps_nil))))))))))))) ?_
   ·intro a w hs
    exact ⟨undef, undef, undef, undef, hs.startF [21, 22, 23, 24, 25, 26, 27, 28, 29, 30, 31, 32] [0, 1] [0, 1, 2, 3, 4, 5] rfl rfl rfl rfl⟩
   ·intro L a w hv K Q hK
    obtain ⟨p1, p2, p3, p4, hs⟩ := hv
    refine wpOp_go rfl rfl hs (OpT_move rfl rfl rfl rfl) ?_
    rintro _ rfl a' w' hs'
    exact hK a' w' ⟨p1, p2, p3, p4, hs'.putF (i := 4) rfl [0, 1] [0, 1, 2, 3, 4, 5] rfl rfl rfl rfl⟩
   ·intro L a w hv K Q hK
    obtain ⟨p1, p2, p3, p4, hs⟩ := hv
    refine wpOp_go rfl rfl hs (OpT_move rfl rfl rfl rfl) ?_
    rintro _ rfl a' w' hs'
    exact hK a' w' ⟨p1, p2, p3, p4, hs'.putF (i := 5) rfl [0, 1] [0, 1, 2, 3, 4, 5] rfl rfl rfl rfl⟩
   ·intro L a w hv K Q hK
    obtain ⟨p1, p2, p3, p4, hs⟩ := hv
    refine wpOp_go rfl rfl hs (OpT_move rfl rfl rfl rfl) ?_
    rintro _ rfl a' w' hs'
    exact hK a' w' ⟨p1, p2, p3, p4, hs'.putF (i := 6) rfl [0, 1] [0, 1, 2, 3, 4, 5] rfl rfl rfl rfl⟩
   ·intro L a w hv K Q hK
    obtain ⟨p1, p2, p3, p4, hs⟩ := hv
    refine wpOp_go rfl rfl hs (OpT_idxS rfl rfl rfl rfl rfl slF22 (i := 1) rfl hx2) ?_
    rintro _ ⟨p1', rfl⟩ a' w' hs'
    exact hK a' w' ⟨p1', p2, p3, p4, hs'.putF (i := 7) rfl [0, 1] [0, 1, 6, 3, 4, 5] rfl rfl rfl rfl⟩
   ·intro L a w hv K Q hK
    obtain ⟨p1, p2, p3, p4, hs⟩ := hv
    refine wpOp_go rfl rfl hs (OpT_fieldP (S' := u64S) (y := s1.At) rfl rfl rfl rfl fldF32x0 (i := 2) rfl (by intro h cs hr; subst hr; rfl)) ?_
    rintro _ ⟨p2', rfl⟩ a' w' hs'
    exact hK a' w' ⟨p1, p2', p3, p4, hs'.putF (i := 8) rfl [0, 1] [0, 1, 2, 6, 4, 5] rfl rfl rfl rfl⟩
   ·intro L a w hv K Q hK
    obtain ⟨p1, p2, p3, p4, hs⟩ := hv
    refine wpOp_go rfl rfl hs (OpT_loadP rfl rfl rfl rfl tyF29 (i := 3) rfl rfl) ?_
    rintro _ rfl a' w' hs'
    exact hK a' w' ⟨p1, p2, p3, p4, hs'.putF (i := 9) rfl [0, 1] [0, 1, 2, 3, 4, 5] rfl rfl rfl rfl⟩
   ·intro L a w hv K Q hK
    obtain ⟨p1, p2, p3, p4, hs⟩ := hv
    refine wpOp_go rfl rfl hs (OpT_move rfl rfl rfl rfl) ?_
    rintro _ rfl a' w' hs'
    exact hK a' w' ⟨p1, p2, p3, p4, hs'.putF (i := 10) rfl [0, 1] [0, 1, 2, 3, 4, 5] rfl rfl rfl rfl⟩
   ·intro L a w hv K Q hK
    obtain ⟨p1, p2, p3, p4, hs⟩ := hv
    refine wpOp_go rfl rfl hs (OpT_move rfl rfl rfl rfl) ?_
    rintro _ rfl a' w' hs'
    exact hK a' w' ⟨p1, p2, p3, p4, hs'.putF (i := 11) rfl [0, 1] [0, 1, 2, 3, 4, 5] rfl rfl rfl rfl⟩
   ·intro L a w hv K Q hK
    obtain ⟨p1, p2, p3, p4, hs⟩ := hv
    refine wpOp_go rfl rfl hs (OpT_idxS rfl rfl rfl rfl rfl slF22 (i := 1) rfl hx3) ?_
    rintro _ ⟨p3', rfl⟩ a' w' hs'
    exact hK a' w' ⟨p1, p2, p3', p4, hs'.putF (i := 12) rfl [0, 1] [0, 1, 2, 3, 6, 5] rfl rfl rfl rfl⟩
   ·intro L a w hv K Q hK
    obtain ⟨p1, p2, p3, p4, hs⟩ := hv
    refine wpOp_go rfl rfl hs (OpT_fieldP (S' := u32S) (y := s2.Len) rfl rfl rfl rfl fldF32x1 (i := 4) rfl (by intro h cs hr; subst hr; rfl)) ?_
    rintro _ ⟨p4', rfl⟩ a' w' hs'
    exact hK a' w' ⟨p1, p2, p3, p4', hs'.putF (i := 13) rfl [0, 1] [0, 1, 2, 3, 4, 6] rfl rfl rfl rfl⟩
   ·intro L a w hv K Q hK
    obtain ⟨p1, p2, p3, p4, hs⟩ := hv
    refine wpOp_go rfl rfl hs (OpT_loadP rfl rfl rfl rfl tyF30 (i := 5) rfl rfl) ?_
    rintro _ rfl a' w' hs'
    exact hK a' w' ⟨p1, p2, p3, p4, hs'.putF (i := 14) rfl [0, 1] [0, 1, 2, 3, 4, 5] rfl rfl rfl rfl⟩
   ·intro L a w hv K Q hK
    obtain ⟨p1, p2, p3, p4, hs⟩ := hv
    refine wpOp_go rfl rfl hs (OpT_cnv rfl rfl rfl rfl (cnv_u32_u64 (n := s2.Len) Try.underlying30 Try.underlying29)) ?_
    rintro _ rfl a' w' hs'
    exact hK a' w' ⟨p1, p2, p3, p4, hs'.putF (i := 15) rfl [0, 1] [0, 1, 2, 3, 4, 5] rfl rfl rfl rfl⟩
   ·intro L a w hL hv
    rw [allTrue hL] at hv
    obtain ⟨p1, p2, p3, p4, hs⟩ := hv
    refine (show TA _ _ _ 12 ⟨[(0, some (.pointer (some ⟨b_m, 0, none⟩))), (1, some (vl1)), (5, some (vI e1)), (6, some (vI i1)), (21, some (.pointer (some ⟨b_m, 0, none⟩))), (26, some (vU64 s1.At)), (32, some (vU64 s2.Len.toUInt64))], [some (cellsR b_m 97 [vm1, vm2]), some (rowsX u8S false vm2 vsm1 m.B none)], [Fact.sl RegionS vm1 m.L, Fact.sl SegS vl1 l]⟩ from ?_) a w (hs.wkS [0, 1, 5, 6, 21, 26, 32] [0, 1] [0, 1] rfl rfl rfl rfl)
    clear hs hL
    obtain ⟨has1, hx4, h⟩ := ob_e h
    refine TA_exP htb (by kernel_rfl) rfl rfl (OpT_callP [2, 3] (w_ref_Mem_Has02 hx4) [0, 1] [0] rfl rfl rfl rfl rfl callee57 rfl rfl rfl rfl rfl) ?_
    rintro _ ⟨_, _, _, ⟨rfl, rfl, rfl⟩, rfl⟩
    refine TA_step htb (by kernel_rfl) rfl rfl (OpT_not rfl rfl rfl rfl) ?_
    refine TA_end rfl ?_
    refine Tk_wkS (fr' := [(0, some (.pointer (some ⟨b_m, 0, none⟩))), (1, some (vl1)), (5, some (vI e1)), (6, some (vI i1)), (34, some (vB (!has1)))]) (own' := [some (cellsR b_m 97 [vm1, vm2]), some (rowsX u8S false vm2 vsm1 m.B none)]) (shr' := [Fact.sl RegionS vm1 m.L, Fact.sl SegS vl1 l]) [0, 1, 5, 6, 34] [0, 1] [0, 1] rfl rfl rfl rfl ?_
    rcases Bool.eq_false_or_eq_true ((!has1)) with hg3 | hg3
    ·replace h := br_t hg3 h
     refine Tk_condT (congrArg (fun b => some (Value.bool b)) hg3) ?_
     refine Tk_region (Tops_step rfl (OpT_assign rfl rfl rfl rfl) ?_)
     refine Tops_nil (Tk_wkS (fr' := [(0, some (.pointer (some ⟨b_m, 0, none⟩))), (1, some (vl1)), (5, some (vI (5 : Int))), (6, some (vI i1))]) (own' := [some (cellsR b_m 97 [vm1, vm2]), some (rowsX u8S false vm2 vsm1 m.B none)]) (shr' := [Fact.sl RegionS vm1 m.L, Fact.sl SegS vl1 l]) [0, 1, 5, 6] [0, 1] [0, 1] rfl rfl rfl rfl ?_)
     refine Tk_blk (Tk_region (Tops_step rfl (OpT_move rfl rfl rfl rfl) ?_))
     refine Tops_step rfl (OpT_bin rfl rfl rfl rfl rfl (bin_add_i (a := i1) (b := (1 : Int)))) ?_
     refine Tops_step rfl (OpT_assign rfl rfl rfl rfl) ?_
     refine Tops_nil (Tk_wkS (fr' := [(0, some (.pointer (some ⟨b_m, 0, none⟩))), (1, some (vl1)), (5, some (vI (5 : Int))), (6, some (vI (wi (i1 + (1 : Int)))))]) (own' := [some (cellsR b_m 97 [vm1, vm2]), some (rowsX u8S false vm2 vsm1 m.B none)]) (shr' := [Fact.sl RegionS vm1 m.L, Fact.sl SegS vl1 l]) [0, 1, 5, 6] [0, 1] [0, 1] rfl rfl rfl rfl ?_)
     exact Tk_backS ((5 : Int), wi (i1 + (1 : Int))) h [0, 1, 5, 6] [0, 1] [0, 1] rfl rfl rfl rfl rfl
    ·replace h := br_f hg3 h
     refine Tk_condF (congrArg (fun b => some (Value.bool b)) hg3) ?_
     refine Tk_skip (Tk_blk (Tk_region (Tops_step rfl (OpT_move rfl rfl rfl rfl) ?_)))
     refine Tops_step rfl (OpT_bin rfl rfl rfl rfl rfl (bin_add_i (a := i1) (b := (1 : Int)))) ?_
     refine Tops_step rfl (OpT_assign rfl rfl rfl rfl) ?_
     refine Tops_nil (Tk_wkS (fr' := [(0, some (.pointer (some ⟨b_m, 0, none⟩))), (1, some (vl1)), (5, some (vI e1)), (6, some (vI (wi (i1 + (1 : Int)))))]) (own' := [some (cellsR b_m 97 [vm1, vm2]), some (rowsX u8S false vm2 vsm1 m.B none)]) (shr' := [Fact.sl RegionS vm1 m.L, Fact.sl SegS vl1 l]) [0, 1, 5, 6] [0, 1] [0, 1] rfl rfl rfl rfl ?_)
     exact Tk_backS (e1, wi (i1 + (1 : Int))) h [0, 1, 5, 6] [0, 1] [0, 1] rfl rfl rfl rfl rfl
  ·replace h := br_f hg2 h
   refine Tk_condF (congrArg (fun b => some (Value.bool b)) hg2) ?_
   refine Tk_exit _ rfl ?_
   refine Tk_seq (Tk_region (Tops_step rfl (OpT_move rfl rfl rfl rfl) ?_))
   refine Tops_step rfl (OpT_assign rfl rfl rfl rfl) ?_
   refine Tops_nil (Tk_wkS (fr' := [(4, some (vI e1))]) (own' := [some (cellsR b_m 97 [vm1, vm2]), some (rowsX u8S false vm2 vsm1 m.B none)]) (shr' := [Fact.sl RegionS vm1 m.L]) [4] [0, 1] [0] rfl rfl rfl rfl ?_)
   obtain rfl := Option.some.inj h
   exact Tk_retV rfl rfl (resA (vs := [vI e1]) rfl ⟨rfl, trivial⟩) [0, 1] [] rfl rfl rfl ⟨rfl, rfl, rfl⟩
 ·replace h := br_f hg1 h
  refine Tops_no rfl rfl (congrArg (fun b => some (Value.bool b)) hg1) rfl rfl ?_
  refine Tops_no rfl rfl (congrArg (fun b => some (Value.bool b)) hg1) rfl rfl ?_
  refine Tops_step rfl (OpT_pickF rfl rfl rfl (congrArg (fun b => some (Value.bool b)) hg1) rfl) ?_
  refine Tops_nil (Tk_wkS (fr' := [(0, some (.pointer (some ⟨b_m, 0, none⟩))), (1, some (vl1)), (5, some (vI e1)), (6, some (vI i1)), (18, some (vB false))]) (own' := [some (cellsR b_m 97 [vm1, vm2]), some (rowsX u8S false vm2 vsm1 m.B none)]) (shr' := [Fact.sl RegionS vm1 m.L, Fact.sl SegS vl1 l]) [0, 1, 5, 6, 18] [0, 1] [0, 1] rfl rfl rfl rfl ?_)
  refine Tk_condF rfl ?_
  refine Tk_exit _ rfl ?_
  refine Tk_seq (Tk_region (Tops_step rfl (OpT_move rfl rfl rfl rfl) ?_))
  refine Tops_step rfl (OpT_assign rfl rfl rfl rfl) ?_
  refine Tops_nil (Tk_wkS (fr' := [(4, some (vI e1))]) (own' := [some (cellsR b_m 97 [vm1, vm2]), some (rowsX u8S false vm2 vsm1 m.B none)]) (shr' := [Fact.sl RegionS vm1 m.L]) [4] [0, 1] [0] rfl rfl rfl rfl ?_)
  obtain rfl := Option.some.inj h
  exact Tk_retV rfl rfl (resA (vs := [vI e1]) rfl ⟨rfl, trivial⟩) [0, 1] [] rfl rfl rfl ⟨rfl, rfl, rfl⟩

set_option maxRecDepth 100000 in
set_option maxHeartbeats 4000000 in
theorem w_ref_Mem_Read02 {m : dumbwaiterref02_Mem} {atp1 : UInt64} {np2 : Int} {b_m : Nat} {vm1 : Value} {vm2 : Value} {vsm1 : List Value} {r : ((List UInt8) × Int)} (h : ref_Mem_Read02 m atp1 np2 = some r) :
  Ctr Try.prog 62 #[.pointer (some ⟨b_m, 0, none⟩), vU64 atp1, vI np2] [(cellsR b_m 97 [vm1, vm2]), (rowsX u8S false vm2 vsm1 m.B none)] [Fact.sl RegionS vm1 m.L]
   (fun rv own shr => ∃ (w1 : Value), rv = .tuple #[w1, vI r.2] ∧ own = [(cellsR b_m 97 [vm1, vm2]), (rowsX u8S false vm2 vsm1 m.B none), (rowS u8S w1 r.1)] ∧ shr = []) := by
 unfold ref_Mem_Read02 at h
 refine Ctr.mk (args := [.pointer (some ⟨b_m, 0, none⟩), vU64 atp1, vI np2]) Try.func62 rfl rfl (fun R0 w0 B => ?_)
 refine Tk_seq (Tk_region (Tops_step rfl (OpT_assign rfl rfl rfl rfl) ?_))
 refine Tops_step rfl (OpT_assign rfl rfl rfl rfl) ?_
 refine Tops_nil (Tk_wkS (fr' := [(0, some (.pointer (some ⟨b_m, 0, none⟩))), (1, some (vU64 atp1)), (2, some (vI np2))]) (own' := [some (cellsR b_m 97 [vm1, vm2]), some (rowsX u8S false vm2 vsm1 m.B none)]) (shr' := [Fact.sl RegionS vm1 m.L]) [0, 1, 2] [0, 1] [0] rfl rfl rfl rfl ?_)
 refine Tk_seq (Tk_seq (Tk_region (Tops_step rfl (OpT_move rfl rfl rfl rfl) ?_)))
 refine Tops_step rfl (OpT_bin rfl rfl rfl rfl rfl (bin_lss_i (a := np2) (b := (0 : Int)))) ?_
 refine Tops_nil (Tk_wkS (fr' := [(0, some (.pointer (some ⟨b_m, 0, none⟩))), (1, some (vU64 atp1)), (2, some (vI np2)), (11, some (vB (decide (np2 < (0 : Int)))))]) (own' := [some (cellsR b_m 97 [vm1, vm2]), some (rowsX u8S false vm2 vsm1 m.B none)]) (shr' := [Fact.sl RegionS vm1 m.L]) [0, 1, 2, 11] [0, 1] [0] rfl rfl rfl rfl ?_)
 rcases Bool.eq_false_or_eq_true (decide (np2 < (0 : Int))) with hg1 | hg1
 ·replace h := br_t hg1 h
  refine Tk_condT (congrArg (fun b => some (Value.bool b)) hg1) ?_
  refine Tk_seq (Tk_region (Tops_step rfl (OpT_assign rfl rfl rfl rfl) ?_))
  refine Tops_step rfl (OpT_assign rfl rfl rfl rfl) ?_
  refine Tops_nil (Tk_wkS (fr' := [(6, some (.slice none 0 0)), (7, some (vI (2 : Int)))]) (own' := [some (cellsR b_m 97 [vm1, vm2]), some (rowsX u8S false vm2 vsm1 m.B none)]) (shr' := [Fact.sl RegionS vm1 m.L]) [6, 7] [0, 1] [0] rfl rfl rfl rfl ?_)
  refine Tk_nilrow u8S ?_
  obtain rfl := Option.some.inj h
  exact Tk_retV rfl rfl (resA (vs := [.slice none 0 0, vI (2 : Int)]) rfl ⟨rfl, rfl, trivial⟩) [0, 1, 2] [] rfl rfl rfl ⟨(.slice none 0 0), rfl, rfl, rfl⟩
 ·replace h := br_f hg1 h
  refine Tk_condF (congrArg (fun b => some (Value.bool b)) hg1) ?_
  refine Tk_skip (Tk_seq (Tk_seq (Tk_region (Tops_step rfl (OpT_move rfl rfl rfl rfl) ?_))))
  refine Tops_step rfl (OpT_bin rfl rfl rfl rfl rfl (bin_eql_i (a := np2) (b := (0 : Int)))) ?_
  refine Tops_nil (Tk_wkS (fr' := [(0, some (.pointer (some ⟨b_m, 0, none⟩))), (1, some (vU64 atp1)), (2, some (vI np2)), (13, some (vB (np2 == (0 : Int))))]) (own' := [some (cellsR b_m 97 [vm1, vm2]), some (rowsX u8S false vm2 vsm1 m.B none)]) (shr' := [Fact.sl RegionS vm1 m.L]) [0, 1, 2, 13] [0, 1] [0] rfl rfl rfl rfl ?_)
  rcases Bool.eq_false_or_eq_true (np2 == (0 : Int)) with hg2 | hg2
  ·replace h := br_t hg2 h
   refine Tk_condT (congrArg (fun b => some (Value.bool b)) hg2) ?_
   refine Tk_seq (Tk_region (Tops_step rfl (OpT_assign rfl rfl rfl rfl) ?_))
   refine Tops_step rfl (OpT_assign rfl rfl rfl rfl) ?_
   refine Tops_nil (Tk_wkS (fr' := [(6, some (.slice none 0 0)), (7, some (vI (0 : Int)))]) (own' := [some (cellsR b_m 97 [vm1, vm2]), some (rowsX u8S false vm2 vsm1 m.B none)]) (shr' := [Fact.sl RegionS vm1 m.L]) [6, 7] [0, 1] [0] rfl rfl rfl rfl ?_)
   refine Tk_nilrow u8S ?_
   obtain rfl := Option.some.inj h
   exact Tk_retV rfl rfl (resA (vs := [.slice none 0 0, vI (0 : Int)]) rfl ⟨rfl, rfl, trivial⟩) [0, 1, 2] [] rfl rfl rfl ⟨(.slice none 0 0), rfl, rfl, rfl⟩
  ·replace h := br_f hg2 h
   refine Tk_condF (congrArg (fun b => some (Value.bool b)) hg2) ?_
   refine Tk_skip (Tk_seq (Tk_region (Tops_step rfl (OpT_move rfl rfl rfl rfl) ?_)))
   refine Tops_step rfl (OpT_move rfl rfl rfl rfl) ?_
   refine Tops_step rfl (OpT_move rfl rfl rfl rfl) ?_
   refine Tops_step rfl (OpT_cnv rfl rfl rfl rfl (cnv_i_u64 (n := np2) Try.underlying3 Try.underlying29)) ?_
   obtain ⟨find1, hx1, h⟩ := ob_e h
   refine Tops_exP rfl (OpT_callP [2, 3] (w_ref_Mem_find02 hx1) [0, 1] [0] rfl rfl rfl rfl rfl callee56 rfl rfl rfl rfl rfl) ?_
   rintro _ ⟨_, _, _, ⟨rfl, rfl, rfl⟩, rfl⟩
   refine Tops_step rfl (OpT_move rfl rfl rfl rfl) ?_
   refine Tops_step rfl (OpT_extract rfl rfl rfl rfl rfl) ?_
   refine Tops_step rfl (OpT_extract rfl rfl rfl rfl rfl) ?_
   refine Tops_step rfl (OpT_assign rfl rfl rfl rfl) ?_
   refine Tops_step rfl (OpT_assign rfl rfl rfl rfl) ?_
   refine Tops_nil (Tk_wkS (fr' := [(0, some (.pointer (some ⟨b_m, 0, none⟩))), (2, some (vI np2)), (8, some (vI find1.1)), (9, some (vI find1.2))]) (own' := [some (cellsR b_m 97 [vm1, vm2]), some (rowsX u8S false vm2 vsm1 m.B none)]) (shr' := [Fact.sl RegionS vm1 m.L]) [0, 2, 8, 9] [0, 1] [0] rfl rfl rfl rfl ?_)
   refine Tk_seq (Tk_seq (Tk_region (Tops_step rfl (OpT_move rfl rfl rfl rfl) ?_)))
   refine Tops_step rfl (OpT_bin rfl rfl rfl rfl rfl (bin_lss_i (a := find1.1) (b := (0 : Int)))) ?_
   refine Tops_nil (Tk_wkS (fr' := [(0, some (.pointer (some ⟨b_m, 0, none⟩))), (2, some (vI np2)), (8, some (vI find1.1)), (9, some (vI find1.2)), (23, some (vB (decide (find1.1 < (0 : Int)))))]) (own' := [some (cellsR b_m 97 [vm1, vm2]), some (rowsX u8S false vm2 vsm1 m.B none)]) (shr' := [Fact.sl RegionS vm1 m.L]) [0, 2, 8, 9, 23] [0, 1] [0] rfl rfl rfl rfl ?_)
   rcases Bool.eq_false_or_eq_true (decide (find1.1 < (0 : Int))) with hg3 | hg3
   ·replace h := br_t hg3 h
    refine Tk_condT (congrArg (fun b => some (Value.bool b)) hg3) ?_
    refine Tk_seq (Tk_region (Tops_step rfl (OpT_assign rfl rfl rfl rfl) ?_))
    refine Tops_step rfl (OpT_assign rfl rfl rfl rfl) ?_
    refine Tops_nil (Tk_wkS (fr' := [(6, some (.slice none 0 0)), (7, some (vI (5 : Int)))]) (own' := [some (cellsR b_m 97 [vm1, vm2]), some (rowsX u8S false vm2 vsm1 m.B none)]) (shr' := [Fact.sl RegionS vm1 m.L]) [6, 7] [0, 1] [0] rfl rfl rfl rfl ?_)
    refine Tk_nilrow u8S ?_
    obtain rfl := Option.some.inj h
    exact Tk_retV rfl rfl (resA (vs := [.slice none 0 0, vI (5 : Int)]) rfl ⟨rfl, rfl, trivial⟩) [0, 1, 2] [] rfl rfl rfl ⟨(.slice none 0 0), rfl, rfl, rfl⟩
   ·replace h := br_f hg3 h
    refine Tk_condF (congrArg (fun b => some (Value.bool b)) hg3) ?_
    refine Tk_skip (Tk_seq (Tk_region (Tops_ex rfl (OpT_buildSlice (S := u8S) (xs := ([] : List UInt8)) (css := []) (cs := []) (e := 5) rfl rfl rfl rfl (bldF slF35 (by decide) (by kernel_rfl)) rfl rfl rfl rfl (rel_plainD (S := u8S) (xs := ([] : List UInt8)) (css := []) rfl rfl)) fun v1 => ?_)))
    refine Tops_step rfl (OpT_move rfl rfl rfl rfl) ?_
    refine Tops_step rfl (OpT_nilCheckP rfl rfl rfl rfl) ?_
    refine Tops_step rfl (OpT_fieldC rfl rfl rfl rfl fldF97x1) ?_
    refine Tops_step rfl (OpT_loadC rfl rfl rfl rfl tyF81 (i := 0) rfl rfl) ?_
    refine Tops_step rfl (OpT_move rfl rfl rfl rfl) ?_
    obtain ⟨row1, hx2, h⟩ := ob_e h
    refine Tops_step rfl (OpT_idxRows rfl rfl rfl rfl rfl slF81 (i := 1) rfl hx2) ?_
    refine Tops_vs (vs_focus (i := 1) (j := find1.1) rfl hx2) ?_
    refine Tops_step rfl (OpT_loadRow (m := find1.1) rfl rfl rfl rfl tyF35 (i := 1) rfl) ?_
    refine Tops_step rfl (OpT_move rfl rfl rfl rfl) ?_
    refine Tops_step rfl (OpT_move rfl rfl rfl rfl) ?_
    refine Tops_step rfl (OpT_move rfl rfl rfl rfl) ?_
    refine Tops_step rfl (OpT_bin rfl rfl rfl rfl rfl (bin_add_i (a := find1.2) (b := np2))) ?_
    obtain ⟨hc1, h⟩ := chk_e h
    refine Tops_step rfl (OpT_subLH (S := u8S) (l := find1.2) (m := wi (find1.2 + np2)) rfl rfl rfl rfl rfl rfl slF35 (i := 3) rfl hc1) ?_
    obtain ⟨hc2, h⟩ := chk_e h
    refine Tops_ex rfl (OpT_appendBs (S := u8S) (l := find1.2) (m := (wi (find1.2 + np2))) rfl rfl rfl rfl rfl rfl slF35 (i := 2) (j := 3) rfl rfl hc1 hc2) fun v2 => ?_
    refine Tops_step rfl (OpT_assign rfl rfl rfl rfl) ?_
    refine Tops_step rfl (OpT_assign rfl rfl rfl rfl) ?_
    refine Tops_nil (Tk_wkS (fr' := [(6, some (v2)), (7, some (vI (0 : Int)))]) (own' := [some (cellsR b_m 97 [vm1, vm2]), some (rowsX u8S false vm2 vsm1 m.B (some (Int.toNat find1.1, vsAt vsm1 (Int.toNat find1.1)))), some (rowS u8S v2 (sub row1 find1.2 (wi (find1.2 + np2)))), some (rowS u8S (vsAt vsm1 (Int.toNat find1.1)) row1)]) (shr' := [Fact.sl RegionS vm1 m.L]) [6, 7] [0, 1, 2, 3] [0] rfl rfl rfl rfl ?_)
    refine Tk_vs (vs_unfocus0 (i := 1) (q := 3) rfl rfl rfl hx2) ?_
    obtain rfl := Option.some.inj h
    exact Tk_retV rfl rfl (resA (vs := [v2, vI (0 : Int)]) rfl ⟨rfl, rfl, trivial⟩) [0, 1, 2] [] rfl rfl rfl ⟨v2, rfl, rfl, rfl⟩

set_option maxRecDepth 100000 in
set_option maxHeartbeats 4000000 in
theorem w_ref_Result22 {m : dumbwaiterref02_Mem} {l : List Seg} {written : UInt32} {b_m : Nat} {vm1 : Value} {vm2 : Value} {vsm1 : List Value} {vl1 : Value} {r : ((List UInt8) × UInt8 × Int)} (h : ref_Result22 m l written = some r) :
  Ctr Try.prog 32 #[.pointer (some ⟨b_m, 0, none⟩), vl1, vU32 written] [(cellsR b_m 97 [vm1, vm2]), (rowsX u8S false vm2 vsm1 m.B none)] [Fact.sl RegionS vm1 m.L, Fact.sl SegS vl1 l]
   (fun rv own shr => ∃ (w1 : Value), rv = .tuple #[w1, vU8 r.2.1, vI r.2.2] ∧ own = [(cellsR b_m 97 [vm1, vm2]), (rowsX u8S false vm2 vsm1 m.B none)] ∧ shr = [Fact.sl u8S w1 r.1]) := by
 unfold ref_Result22 at h
 refine Ctr.mk (args := [.pointer (some ⟨b_m, 0, none⟩), vl1, vU32 written]) Try.func32 rfl rfl (fun R0 w0 B => ?_)
 refine Tk_seq (Tk_region (Tops_step rfl (OpT_assign rfl rfl rfl rfl) ?_))
 refine Tops_step rfl (OpT_assign rfl rfl rfl rfl) ?_
 refine Tops_step rfl (OpT_assign rfl rfl rfl rfl) ?_
 refine Tops_nil (Tk_wkS (fr' := [(0, some (.pointer (some ⟨b_m, 0, none⟩))), (1, some (vl1)), (2, some (vU32 written))]) (own' := [some (cellsR b_m 97 [vm1, vm2]), some (rowsX u8S false vm2 vsm1 m.B none)]) (shr' := [Fact.sl RegionS vm1 m.L, Fact.sl SegS vl1 l]) [0, 1, 2] [0, 1] [0, 1] rfl rfl rfl rfl ?_)
 refine Tk_seq (Tk_seq (Tk_region (Tops_step rfl (OpT_move rfl rfl rfl rfl) ?_)))
 refine Tops_step rfl (OpT_ptrNil rfl rfl rfl (.inl rfl) rfl rfl ptrF62) ?_
 refine Tops_nil (Tk_wkS (fr' := [(0, some (.pointer (some ⟨b_m, 0, none⟩))), (1, some (vl1)), (2, some (vU32 written)), (19, some (vB false))]) (own' := [some (cellsR b_m 97 [vm1, vm2]), some (rowsX u8S false vm2 vsm1 m.B none)]) (shr' := [Fact.sl RegionS vm1 m.L, Fact.sl SegS vl1 l]) [0, 1, 2, 19] [0, 1] [0, 1] rfl rfl rfl rfl ?_)
 refine Tk_condF rfl ?_
 refine Tk_skip (Tk_seq (Tk_region (Tops_step rfl (OpT_move rfl rfl rfl rfl) ?_)))
 refine Tops_step rfl (OpT_move rfl rfl rfl rfl) ?_
 obtain ⟨in1, hx1, h⟩ := ob_e h
 refine Tops_exP rfl (OpT_callP [2, 3] (w_ref_In05 hx1) [0, 1] [0, 1] rfl rfl rfl rfl rfl callee60 rfl rfl rfl rfl rfl) ?_
 rintro _ ⟨_, _, _, ⟨rfl, rfl, rfl⟩, rfl⟩
 refine Tops_step rfl (OpT_assign rfl rfl rfl rfl) ?_
 refine Tops_nil (Tk_wkS (fr' := [(0, some (.pointer (some ⟨b_m, 0, none⟩))), (1, some (vl1)), (2, some (vU32 written)), (9, some (vI in1))]) (own' := [some (cellsR b_m 97 [vm1, vm2]), some (rowsX u8S false vm2 vsm1 m.B none)]) (shr' := [Fact.sl RegionS vm1 m.L, Fact.sl SegS vl1 l]) [0, 1, 2, 9] [0, 1] [0, 1] rfl rfl rfl rfl ?_)
 refine Tk_seq (Tk_seq (Tk_region (Tops_step rfl (OpT_move rfl rfl rfl rfl) ?_)))
 refine Tops_step rfl (OpT_bin rfl rfl rfl rfl rfl (bin_neq_i (a := in1) (b := (0 : Int)))) ?_
 refine Tops_nil (Tk_wkS (fr' := [(0, some (.pointer (some ⟨b_m, 0, none⟩))), (1, some (vl1)), (2, some (vU32 written)), (9, some (vI in1)), (24, some (vB (in1 != (0 : Int))))]) (own' := [some (cellsR b_m 97 [vm1, vm2]), some (rowsX u8S false vm2 vsm1 m.B none)]) (shr' := [Fact.sl RegionS vm1 m.L, Fact.sl SegS vl1 l]) [0, 1, 2, 9, 24] [0, 1] [0, 1] rfl rfl rfl rfl ?_)
 rcases Bool.eq_false_or_eq_true (in1 != (0 : Int)) with hg1 | hg1
 ·replace h := br_t hg1 h
  refine Tk_condT (congrArg (fun b => some (Value.bool b)) hg1) ?_
  refine Tk_seq (Tk_region (Tops_step rfl (OpT_move rfl rfl rfl rfl) ?_))
  refine Tops_step rfl (OpT_assign rfl rfl rfl rfl) ?_
  refine Tops_step rfl (OpT_assign rfl rfl rfl rfl) ?_
  refine Tops_step rfl (OpT_assign rfl rfl rfl rfl) ?_
  refine Tops_nil (Tk_wkS (fr' := [(6, some (.slice none 0 0)), (7, some (vU8 (0 : UInt8))), (8, some (vI in1))]) (own' := [some (cellsR b_m 97 [vm1, vm2]), some (rowsX u8S false vm2 vsm1 m.B none)]) (shr' := [Fact.sl RegionS vm1 m.L]) [6, 7, 8] [0, 1] [0] rfl rfl rfl rfl ?_)
  refine Tk_nilfact u8S ?_
  obtain rfl := Option.some.inj h
  exact Tk_retV rfl rfl (resA (vs := [.slice none 0 0, vU8 (0 : UInt8), vI in1]) rfl ⟨rfl, rfl, rfl, trivial⟩) [0, 1] [1] rfl rfl rfl ⟨(.slice none 0 0), rfl, rfl, rfl⟩
 ·replace h := br_f hg1 h
  refine Tk_condF (congrArg (fun b => some (Value.bool b)) hg1) ?_
  refine Tk_skip (Tk_seq (Tk_region (Tops_step rfl (OpT_move rfl rfl rfl rfl) ?_)))
  obtain ⟨total1, hx2, h⟩ := ob_e h
  refine Tops_exP rfl (OpT_call (w_ref_Total05 hx2) [] [1] rfl rfl rfl rfl rfl callee61 rfl rfl rfl rfl) ?_
  rintro _ ⟨_, _, _, ⟨rfl, rfl, rfl⟩, rfl⟩
  refine Tops_step rfl (OpT_move rfl rfl rfl rfl) ?_
  refine Tops_step rfl (OpT_extract rfl rfl rfl rfl rfl) ?_
  refine Tops_step rfl (OpT_extract rfl rfl rfl rfl rfl) ?_
  refine Tops_step rfl (OpT_assign rfl rfl rfl rfl) ?_
  refine Tops_step rfl (OpT_assign rfl rfl rfl rfl) ?_
  refine Tops_nil (Tk_wkS (fr' := [(0, some (.pointer (some ⟨b_m, 0, none⟩))), (1, some (vl1)), (2, some (vU32 written)), (11, some (vU64 total1.2))]) (own' := [some (cellsR b_m 97 [vm1, vm2]), some (rowsX u8S false vm2 vsm1 m.B none)]) (shr' := [Fact.sl RegionS vm1 m.L, Fact.sl SegS vl1 l]) [0, 1, 2, 11] [0, 1] [0, 1] rfl rfl rfl rfl ?_)
  refine Tk_seq (Tk_seq (Tk_region (Tops_step rfl (OpT_move rfl rfl rfl rfl) ?_)))
  refine Tops_step rfl (OpT_bin rfl rfl rfl rfl rfl (bin_eql_u64 (a := total1.2) (b := (0 : UInt64)))) ?_
  refine Tops_nil (Tk_wkS (fr' := [(0, some (.pointer (some ⟨b_m, 0, none⟩))), (1, some (vl1)), (2, some (vU32 written)), (11, some (vU64 total1.2)), (32, some (vB (total1.2 == (0 : UInt64))))]) (own' := [some (cellsR b_m 97 [vm1, vm2]), some (rowsX u8S false vm2 vsm1 m.B none)]) (shr' := [Fact.sl RegionS vm1 m.L, Fact.sl SegS vl1 l]) [0, 1, 2, 11, 32] [0, 1] [0, 1] rfl rfl rfl rfl ?_)
  rcases Bool.eq_false_or_eq_true (total1.2 == (0 : UInt64)) with hg2 | hg2
  ·replace h := br_t hg2 h
   refine Tk_condT (congrArg (fun b => some (Value.bool b)) hg2) ?_
   refine Tk_seq (Tk_region (Tops_step rfl (OpT_assign rfl rfl rfl rfl) ?_))
   refine Tops_step rfl (OpT_assign rfl rfl rfl rfl) ?_
   refine Tops_step rfl (OpT_assign rfl rfl rfl rfl) ?_
   refine Tops_nil (Tk_wkS (fr' := [(6, some (.slice none 0 0)), (7, some (vU8 (0 : UInt8))), (8, some (vI (2 : Int)))]) (own' := [some (cellsR b_m 97 [vm1, vm2]), some (rowsX u8S false vm2 vsm1 m.B none)]) (shr' := [Fact.sl RegionS vm1 m.L]) [6, 7, 8] [0, 1] [0] rfl rfl rfl rfl ?_)
   refine Tk_nilfact u8S ?_
   obtain rfl := Option.some.inj h
   exact Tk_retV rfl rfl (resA (vs := [.slice none 0 0, vU8 (0 : UInt8), vI (2 : Int)]) rfl ⟨rfl, rfl, rfl, trivial⟩) [0, 1] [1] rfl rfl rfl ⟨(.slice none 0 0), rfl, rfl, rfl⟩
  ·replace h := br_f hg2 h
   refine Tk_condF (congrArg (fun b => some (Value.bool b)) hg2) ?_
   refine Tk_skip (Tk_seq (Tk_seq (Tk_region (Tops_step rfl (OpT_move rfl rfl rfl rfl) ?_))))
   refine Tops_step rfl (OpT_bin rfl rfl rfl rfl rfl (bin_eql_u32 (a := written) (b := (0 : UInt32)))) ?_
   refine Tops_step rfl (OpT_move rfl rfl rfl rfl) ?_
   rcases Bool.eq_false_or_eq_true (written == (0 : UInt32)) with hg3 | hg3
   ·replace h := br_t hg3 h
    refine Tops_no rfl rfl (congrArg (fun b => some (Value.bool b)) hg3) rfl rfl ?_
    refine Tops_no rfl rfl (congrArg (fun b => some (Value.bool b)) hg3) rfl rfl ?_
    refine Tops_no rfl rfl (congrArg (fun b => some (Value.bool b)) hg3) rfl rfl ?_
    refine Tops_no rfl rfl (congrArg (fun b => some (Value.bool b)) hg3) rfl rfl ?_
    refine Tops_step rfl (OpT_pickT rfl rfl rfl (congrArg (fun b => some (Value.bool b)) hg3) rfl) ?_
    refine Tops_nil (Tk_wkS (fr' := [(0, some (.pointer (some ⟨b_m, 0, none⟩))), (1, some (vl1)), (2, some (vU32 written)), (40, some (vB true))]) (own' := [some (cellsR b_m 97 [vm1, vm2]), some (rowsX u8S false vm2 vsm1 m.B none)]) (shr' := [Fact.sl RegionS vm1 m.L, Fact.sl SegS vl1 l]) [0, 1, 2, 40] [0, 1] [0, 1] rfl rfl rfl rfl ?_)
    refine Tk_condT rfl ?_
    refine Tk_seq (Tk_region (Tops_step rfl (OpT_assign rfl rfl rfl rfl) ?_))
    refine Tops_step rfl (OpT_assign rfl rfl rfl rfl) ?_
    refine Tops_step rfl (OpT_assign rfl rfl rfl rfl) ?_
    refine Tops_nil (Tk_wkS (fr' := [(6, some (.slice none 0 0)), (7, some (vU8 (0 : UInt8))), (8, some (vI (4 : Int)))]) (own' := [some (cellsR b_m 97 [vm1, vm2]), some (rowsX u8S false vm2 vsm1 m.B none)]) (shr' := [Fact.sl RegionS vm1 m.L]) [6, 7, 8] [0, 1] [0] rfl rfl rfl rfl ?_)
    refine Tk_nilfact u8S ?_
    obtain rfl := Option.some.inj h
    exact Tk_retV rfl rfl (resA (vs := [.slice none 0 0, vU8 (0 : UInt8), vI (4 : Int)]) rfl ⟨rfl, rfl, rfl, trivial⟩) [0, 1] [1] rfl rfl rfl ⟨(.slice none 0 0), rfl, rfl, rfl⟩
   ·replace h := br_f hg3 h
    refine Tops_yes rfl rfl (congrArg (fun b => some (Value.bool b)) hg3) (OpT_move rfl rfl rfl rfl) ?_
    rintro _ rfl
    refine Tops_yes rfl rfl (congrArg (fun b => some (Value.bool b)) hg3) (OpT_cnv rfl rfl rfl rfl (cnv_u32_u64 (n := written) Try.underlying30 Try.underlying29)) ?_
    rintro _ rfl
    refine Tops_yes rfl rfl (congrArg (fun b => some (Value.bool b)) hg3) (OpT_move rfl rfl rfl rfl) ?_
    rintro _ rfl
    refine Tops_yes rfl rfl (congrArg (fun b => some (Value.bool b)) hg3) (OpT_bin rfl rfl rfl rfl rfl (bin_gtr_u64 (a := written.toUInt64) (b := total1.2))) ?_
    rintro _ rfl
    refine Tops_step rfl (OpT_pickF rfl rfl rfl (congrArg (fun b => some (Value.bool b)) hg3) rfl) ?_
    refine Tops_nil (Tk_wkS (fr' := [(0, some (.pointer (some ⟨b_m, 0, none⟩))), (1, some (vl1)), (2, some (vU32 written)), (40, some (vB (decide (written.toUInt64 > total1.2))))]) (own' := [some (cellsR b_m 97 [vm1, vm2]), some (rowsX u8S false vm2 vsm1 m.B none)]) (shr' := [Fact.sl RegionS vm1 m.L, Fact.sl SegS vl1 l]) [0, 1, 2, 40] [0, 1] [0, 1] rfl rfl rfl rfl ?_)
    rcases Bool.eq_false_or_eq_true (decide (written.toUInt64 > total1.2)) with hg4 | hg4
    ·replace h := br_t hg4 h
     refine Tk_condT (congrArg (fun b => some (Value.bool b)) hg4) ?_
     refine Tk_seq (Tk_region (Tops_step rfl (OpT_assign rfl rfl rfl rfl) ?_))
     refine Tops_step rfl (OpT_assign rfl rfl rfl rfl) ?_
     refine Tops_step rfl (OpT_assign rfl rfl rfl rfl) ?_
     refine Tops_nil (Tk_wkS (fr' := [(6, some (.slice none 0 0)), (7, some (vU8 (0 : UInt8))), (8, some (vI (4 : Int)))]) (own' := [some (cellsR b_m 97 [vm1, vm2]), some (rowsX u8S false vm2 vsm1 m.B none)]) (shr' := [Fact.sl RegionS vm1 m.L]) [6, 7, 8] [0, 1] [0] rfl rfl rfl rfl ?_)
     refine Tk_nilfact u8S ?_
     obtain rfl := Option.some.inj h
     exact Tk_retV rfl rfl (resA (vs := [.slice none 0 0, vU8 (0 : UInt8), vI (4 : Int)]) rfl ⟨rfl, rfl, rfl, trivial⟩) [0, 1] [1] rfl rfl rfl ⟨(.slice none 0 0), rfl, rfl, rfl⟩
    ·replace h := br_f hg4 h
     refine Tk_condF (congrArg (fun b => some (Value.bool b)) hg4) ?_
     refine Tk_skip (Tk_seq (Tk_region (Tops_step rfl (OpT_assign rfl rfl rfl rfl) ?_)))
     refine Tops_nil (Tk_wkS (fr' := [(0, some (.pointer (some ⟨b_m, 0, none⟩))), (1, some (vl1)), (2, some (vU32 written)), (12, some (.slice none 0 0))]) (own' := [some (cellsR b_m 97 [vm1, vm2]), some (rowsX u8S false vm2 vsm1 m.B none)]) (shr' := [Fact.sl RegionS vm1 m.L, Fact.sl SegS vl1 l]) [0, 1, 2, 12] [0, 1] [0, 1] rfl rfl rfl rfl ?_)
     refine Tk_seq (Tk_region (Tops_step rfl (OpT_move rfl rfl rfl rfl) ?_))
     obtain ⟨part1, hx3, h⟩ := ob_e h
     refine Tops_exP rfl (OpT_call (w_ref_Part05 hx3) [] [1] rfl rfl rfl rfl rfl callee58 rfl rfl rfl rfl) ?_
     rintro _ ⟨v1, _, _, ⟨_, rfl, rfl, rfl⟩, rfl⟩
     refine Tops_step rfl (OpT_assign rfl rfl rfl rfl) ?_
     refine Tops_nil (Tk_wkS (fr' := [(0, some (.pointer (some ⟨b_m, 0, none⟩))), (2, some (vU32 written)), (12, some (.slice none 0 0)), (13, some (v1))]) (own' := [some (cellsR b_m 97 [vm1, vm2]), some (rowsX u8S false vm2 vsm1 m.B none), some (rowS SegS v1 part1)]) (shr' := [Fact.sl RegionS vm1 m.L]) [0, 2, 12, 13] [0, 1, 2] [0] rfl rfl rfl rfl ?_)
     refine Tk_seq (Tk_seq (Tk_region (Tops_step rfl (OpT_assign rfl rfl rfl rfl) ?_)))
     refine Tops_nil (Tk_block (Tk_nilrow u8S ?_))
     refine Tk_loopS (σ := (List UInt8) × (List Seg) × Int × Value × Value) [0, 2, 12, 13, 14] [0, 1, 3, 2] [0] (fun s => ⟨[(0, some (.pointer (some ⟨b_m, 0, none⟩))), (2, some (vU32 written)), (12, some (s.2.2.2.1)), (13, some (s.2.2.2.2)), (14, some (vI s.2.2.1))], [some (cellsR b_m 97 [vm1, vm2]), some (rowsX u8S false vm2 vsm1 m.B none), some (rowS u8S s.2.2.2.1 s.1), some (rowS SegS s.2.2.2.2 s.2.1)], [Fact.sl RegionS vm1 m.L]⟩) (fun nf1 s => ref_Result22L1 m written nf1 s.1 s.2.1 s.2.2.1 = some r) fuel ([], part1, (0 : Int), (.slice none 0 0), v1) h rfl rfl rfl rfl rfl (fun s h => by cases h) ?_
     rintro nf1 ⟨b1, l1, i1, v2, v3⟩ h
     replace h : ref_Result22L1B m written (ref_Result22L1 m written nf1) b1 l1 i1 = some r := h
     unfold ref_Result22L1B at h
     refine Tk_seq (Tk_seq (Tk_region (Tops_step rfl (OpT_move rfl rfl rfl rfl) ?_)))
     refine Tops_step rfl (OpT_move rfl rfl rfl rfl) ?_
     refine Tops_step rfl (OpT_lenO rfl rfl rfl rfl Try.underlying22 (i := 3) rfl) ?_
     refine Tops_step rfl (OpT_bin rfl rfl rfl rfl rfl (bin_lss_i (a := i1) (b := len l1))) ?_
     refine Tops_nil (Tk_wkS (fr' := [(0, some (.pointer (some ⟨b_m, 0, none⟩))), (2, some (vU32 written)), (12, some (v2)), (13, some (v3)), (14, some (vI i1)), (46, some (vB (decide (i1 < (len l1)))))]) (own' := [some (cellsR b_m 97 [vm1, vm2]), some (rowsX u8S false vm2 vsm1 m.B none), some (rowS u8S v2 b1), some (rowS SegS v3 l1)]) (shr' := [Fact.sl RegionS vm1 m.L]) [0, 2, 12, 13, 14, 46] [0, 1, 2, 3] [0] rfl rfl rfl rfl ?_)
     rcases Bool.eq_false_or_eq_true (decide (i1 < (len l1))) with hg5 | hg5
     ·replace h := br_t hg5 h
      refine Tk_condT (congrArg (fun b => some (Value.bool b)) hg5) ?_
      refine Tk_skip (Tk_seq (Tk_block (Tk_seq (Tk_drawT (by kernel_rfl) ?_))))
      refine TA_tb [0, 0, 0, 6, 14, 30, 0, 0, 192, 448, 960, 1984, 4095, 8191, 16383, 16383, 32767, 131071] (by kernel_rfl) fun htb => ?_
      refine TA_wkS (fr' := [(0, some (.pointer (some ⟨b_m, 0, none⟩))), (2, some (vU32 written)), (12, some (v2)), (13, some (v3)), (14, some (vI i1))]) (own' := [some (cellsR b_m 97 [vm1, vm2]), some (rowsX u8S false vm2 vsm1 m.B none), some (rowS u8S v2 b1), some (rowS SegS v3 l1)]) (shr' := [Fact.sl RegionS vm1 m.L]) [0, 2, 12, 13, 14] [0, 1, 2, 3] [0] rfl rfl rfl rfl ?_
      obtain ⟨s1, hx4, h⟩ := ob_e h
      obtain ⟨s2, hx5, h⟩ := ob_e h
      refine TA_seg (lo := 0) (hi := 12) htb rfl rfl (by kernel_rfl) (fun c L a w => Sat c ⟨[(0, some (.pointer (some ⟨b_m, 0, none⟩))), (2, some (vU32 written)), (12, some (v2)), (13, some (v3)), (14, some (vI i1)), (50, bif L 0 then some (.pointer (some ⟨b_m, 0, none⟩)) else none), (51, bif L 1 then some (v3) else none), (52, bif L 2 then some (vI i1) else none), (53, bif L 3 then some (rowPtr v3 (Int.toNat i1 * 3)) else none), (54, bif L 4 then some (rowPtr v3 (Int.toNat i1 * 3 + 0)) else none), (55, bif L 5 then some (vU64 s1.At) else none), (56, bif L 6 then some (v3) else none), (57, bif L 7 then some (vI i1) else none), (58, bif L 8 then some (rowPtr v3 (Int.toNat i1 * 3)) else none), (59, bif L 9 then some (rowPtr v3 (Int.toNat i1 * 3 + 1)) else none), (60, bif L 10 then some (vU32 s2.Len) else none), (61, bif L 11 then some (vI (i32 s2.Len)) else none)], [(some (cellsR b_m 97 [vm1, vm2]) : Option Res), (some (rowsX u8S false vm2 vsm1 m.B none) : Option Res), (some (rowS u8S v2 b1) : Option Res), (some (rowS SegS v3 l1) : Option Res)], [Fact.sl RegionS vm1 m.L]⟩ a w) [([], []), ([], [3, 4, 5]), ([], [3, 4, 5]), ([1, 2], [4, 5]), ([1, 2, 3], [5]), ([1, 2, 3, 4], []), ([], [8, 9, 10, 11]), ([], [8, 9, 10, 11]), ([6, 7], [9, 10, 11]), ([6, 7, 8], [10, 11]), ([6, 7, 8, 9], [11]), ([6, 7, 8, 9, 10], [])] rfl (by kernel_rfl) ?_ (steps_cons ?_ (steps_cons ?_ (steps_cons ?_ (steps_cons ?_ (steps_cons ?_ (steps_cons ?_ (steps_cons ?_ (steps_cons ?_ (steps_cons ?_ (steps_cons ?_ (steps_cons ?_ (steps_cons ?_ (steps_nil))))))))))))) ?_
      ·intro a w hs
       exact hs.startF [50, 51, 52, 53, 54, 55, 56, 57, 58, 59, 60, 61] [0, 1, 2, 3] [0] rfl rfl rfl rfl
      ·intro L a w hv K Q hK
       have hs := hv
       refine wpOp_go rfl rfl hs (OpT_move rfl rfl rfl rfl) ?_
       rintro _ rfl a' w' hs'
       exact hK a' w' (hs'.putF (i := 5) rfl [0, 1, 2, 3] [0] rfl rfl rfl rfl)
      ·intro L a w hv K Q hK
       have hs := hv
       refine wpOp_go rfl rfl hs (OpT_move rfl rfl rfl rfl) ?_
       rintro _ rfl a' w' hs'
       exact hK a' w' (hs'.putF (i := 6) rfl [0, 1, 2, 3] [0] rfl rfl rfl rfl)
      ·intro L a w hv K Q hK
       have hs := hv
       refine wpOp_go rfl rfl hs (OpT_move rfl rfl rfl rfl) ?_
       rintro _ rfl a' w' hs'
       exact hK a' w' (hs'.putF (i := 7) rfl [0, 1, 2, 3] [0] rfl rfl rfl rfl)
      ·intro L a w hv K Q hK
       have hs := hv
       refine wpOp_go rfl rfl hs (OpT_idxO rfl rfl rfl rfl rfl slF22 (i := 3) rfl hx4) ?_
       rintro _ rfl a' w' hs'
       exact hK a' w' (hs'.putF (i := 8) rfl [0, 1, 2, 3] [0] rfl rfl rfl rfl)
      ·intro L a w hv K Q hK
       have hs := hv
       refine wpOp_go rfl rfl hs (OpT_fieldR (S := SegS) rfl rfl rfl rfl fldF32x0 (i := 3) rfl hx4) ?_
       rintro _ rfl a' w' hs'
       exact hK a' w' (hs'.putF (i := 9) rfl [0, 1, 2, 3] [0] rfl rfl rfl rfl)
      ·intro L a w hv K Q hK
       have hs := hv
       refine wpOp_go rfl rfl hs (OpT_loadOF (S := SegS) rfl rfl rfl rfl rfl tyF29 (i := 3) rfl hx4 rfl rfl) ?_
       rintro _ rfl a' w' hs'
       exact hK a' w' (hs'.putF (i := 10) rfl [0, 1, 2, 3] [0] rfl rfl rfl rfl)
      ·intro L a w hv K Q hK
       have hs := hv
       refine wpOp_go rfl rfl hs (OpT_move rfl rfl rfl rfl) ?_
       rintro _ rfl a' w' hs'
       exact hK a' w' (hs'.putF (i := 11) rfl [0, 1, 2, 3] [0] rfl rfl rfl rfl)
      ·intro L a w hv K Q hK
       have hs := hv
       refine wpOp_go rfl rfl hs (OpT_move rfl rfl rfl rfl) ?_
       rintro _ rfl a' w' hs'
       exact hK a' w' (hs'.putF (i := 12) rfl [0, 1, 2, 3] [0] rfl rfl rfl rfl)
      ·intro L a w hv K Q hK
       have hs := hv
       refine wpOp_go rfl rfl hs (OpT_idxO rfl rfl rfl rfl rfl slF22 (i := 3) rfl hx5) ?_
       rintro _ rfl a' w' hs'
       exact hK a' w' (hs'.putF (i := 13) rfl [0, 1, 2, 3] [0] rfl rfl rfl rfl)
      ·intro L a w hv K Q hK
       have hs := hv
       refine wpOp_go rfl rfl hs (OpT_fieldR (S := SegS) rfl rfl rfl rfl fldF32x1 (i := 3) rfl hx5) ?_
       rintro _ rfl a' w' hs'
       exact hK a' w' (hs'.putF (i := 14) rfl [0, 1, 2, 3] [0] rfl rfl rfl rfl)
      ·intro L a w hv K Q hK
       have hs := hv
       refine wpOp_go rfl rfl hs (OpT_loadOF (S := SegS) rfl rfl rfl rfl rfl tyF30 (i := 3) rfl hx5 rfl rfl) ?_
       rintro _ rfl a' w' hs'
       exact hK a' w' (hs'.putF (i := 15) rfl [0, 1, 2, 3] [0] rfl rfl rfl rfl)
      ·intro L a w hv K Q hK
       have hs := hv
       refine wpOp_go rfl rfl hs (OpT_cnv rfl rfl rfl rfl (cnv_u32_i (n := s2.Len) Try.underlying30 Try.underlying3)) ?_
       rintro _ rfl a' w' hs'
       exact hK a' w' (hs'.putF (i := 16) rfl [0, 1, 2, 3] [0] rfl rfl rfl rfl)
      ·intro L a w hL hv
       rw [allTrue hL] at hv
       have hs := hv
       refine (show TA _ _ _ 12 ⟨[(0, some (.pointer (some ⟨b_m, 0, none⟩))), (2, some (vU32 written)), (12, some (v2)), (13, some (v3)), (14, some (vI i1)), (50, some (.pointer (some ⟨b_m, 0, none⟩))), (55, some (vU64 s1.At)), (61, some (vI (i32 s2.Len)))], [some (cellsR b_m 97 [vm1, vm2]), some (rowsX u8S false vm2 vsm1 m.B none), some (rowS u8S v2 b1), some (rowS SegS v3 l1)], [Fact.sl RegionS vm1 m.L]⟩ from ?_) a w (hs.wkS [0, 2, 12, 13, 14, 50, 55, 61] [0, 1, 2, 3] [0] rfl rfl rfl rfl)
       clear hs hL
       obtain ⟨read1, hx6, h⟩ := ob_e h
       refine TA_exP htb (by kernel_rfl) rfl rfl (OpT_callP [4, 5, 2, 3, 6] (w_ref_Mem_Read02 hx6) [0, 1] [0] rfl rfl rfl rfl rfl callee62 rfl rfl rfl rfl rfl) ?_
       rintro _ ⟨_, _, _, ⟨v4, rfl, rfl, rfl⟩, rfl⟩
       refine TA_step htb (by kernel_rfl) rfl rfl (OpT_move rfl rfl rfl rfl) ?_
       refine TA_wkS (fr' := [(0, some (.pointer (some ⟨b_m, 0, none⟩))), (2, some (vU32 written)), (12, some (v2)), (13, some (v3)), (14, some (vI i1)), (49, some (.tuple #[v4, vI read1.2]))]) (own' := [some (cellsR b_m 97 [vm1, vm2]), some (rowsX u8S false vm2 vsm1 m.B none), some (rowS u8S v2 b1), some (rowS SegS v3 l1), some (rowS u8S v4 read1.1)]) (shr' := [Fact.sl RegionS vm1 m.L]) [0, 2, 12, 13, 14, 49] [0, 1, 2, 3, 4] [0] rfl rfl rfl rfl ?_
       refine TA_seg (lo := 14) (hi := 17) htb rfl rfl (by kernel_rfl) (fun c L a w => Sat c ⟨[(0, some (.pointer (some ⟨b_m, 0, none⟩))), (2, some (vU32 written)), (12, some (v2)), (13, some (v3)), (14, some (vI i1)), (49, some (.tuple #[v4, vI read1.2])), (63, bif L 14 then some (v4) else none), (64, bif L 15 then some (vI read1.2) else none), (15, bif L 16 then some (v4) else none)], [(some (cellsR b_m 97 [vm1, vm2]) : Option Res), (some (rowsX u8S false vm2 vsm1 m.B none) : Option Res), (some (rowS u8S v2 b1) : Option Res), (some (rowS SegS v3 l1) : Option Res), (some (rowS u8S v4 read1.1) : Option Res)], [Fact.sl RegionS vm1 m.L]⟩ a w) [([], [16]), ([], []), ([14], [])] rfl (by kernel_rfl) ?_ (steps_cons ?_ (steps_cons ?_ (steps_cons ?_ (steps_nil)))) ?_
       ·intro a w hs
        exact hs.startF [63, 64, 15] [0, 1, 2, 3, 4] [0] rfl rfl rfl rfl
       ·intro L a w hv K Q hK
        have hs := hv
        refine wpOp_go rfl rfl hs (OpT_extract rfl rfl rfl rfl rfl) ?_
        rintro _ rfl a' w' hs'
        exact hK a' w' (hs'.putF (i := 6) rfl [0, 1, 2, 3, 4] [0] rfl rfl rfl rfl)
       ·intro L a w hv K Q hK
        have hs := hv
        refine wpOp_go rfl rfl hs (OpT_extract rfl rfl rfl rfl rfl) ?_
        rintro _ rfl a' w' hs'
        exact hK a' w' (hs'.putF (i := 7) rfl [0, 1, 2, 3, 4] [0] rfl rfl rfl rfl)
       ·intro L a w hv K Q hK
        have hs := hv
        refine wpOp_go rfl rfl hs (OpT_assign rfl rfl rfl rfl) ?_
        rintro _ rfl a' w' hs'
        exact hK a' w' (hs'.putF (i := 8) rfl [0, 1, 2, 3, 4] [0] rfl rfl rfl rfl)
       ·intro L a w hL hv
        rw [allTrue hL] at hv
        have hs := hv
        refine (show TA _ _ _ 17 ⟨[(0, some (.pointer (some ⟨b_m, 0, none⟩))), (2, some (vU32 written)), (12, some (v2)), (13, some (v3)), (14, some (vI i1)), (64, some (vI read1.2)), (15, some (v4))], [some (cellsR b_m 97 [vm1, vm2]), some (rowsX u8S false vm2 vsm1 m.B none), some (rowS u8S v2 b1), some (rowS SegS v3 l1), some (rowS u8S v4 read1.1)], [Fact.sl RegionS vm1 m.L]⟩ from ?_) a w (hs.wkS [0, 2, 12, 13, 14, 64, 15] [0, 1, 2, 3, 4] [0] rfl rfl rfl rfl)
        clear hs hL
        refine TA_step htb (by kernel_rfl) rfl rfl (OpT_assign rfl rfl rfl rfl) ?_
        refine TA_end rfl ?_
        refine Tk_wkS (fr' := [(0, some (.pointer (some ⟨b_m, 0, none⟩))), (2, some (vU32 written)), (12, some (v2)), (13, some (v3)), (14, some (vI i1)), (15, some (v4))]) (own' := [some (cellsR b_m 97 [vm1, vm2]), some (rowsX u8S false vm2 vsm1 m.B none), some (rowS u8S v2 b1), some (rowS SegS v3 l1), some (rowS u8S v4 read1.1)]) (shr' := [Fact.sl RegionS vm1 m.L]) [0, 2, 12, 13, 14, 15] [0, 1, 2, 3, 4] [0] rfl rfl rfl rfl ?_
        refine Tk_region (Tops_step rfl (OpT_move rfl rfl rfl rfl) ?_)
        refine Tops_step rfl (OpT_move rfl rfl rfl rfl) ?_
        obtain ⟨hc1, h⟩ := chk_e h
        refine Tops_ex rfl (OpT_appendB (S := u8S) rfl rfl rfl rfl rfl rfl slF35 (i := 2) (j := 4) rfl rfl hc1) fun v5 => ?_
        refine Tops_step rfl (OpT_assign rfl rfl rfl rfl) ?_
        refine Tops_nil (Tk_wkS (fr' := [(0, some (.pointer (some ⟨b_m, 0, none⟩))), (2, some (vU32 written)), (12, some (v5)), (13, some (v3)), (14, some (vI i1))]) (own' := [some (cellsR b_m 97 [vm1, vm2]), some (rowsX u8S false vm2 vsm1 m.B none), some (rowS u8S v5 (b1 ++ read1.1)), some (rowS SegS v3 l1)]) (shr' := [Fact.sl RegionS vm1 m.L]) [0, 2, 12, 13, 14] [0, 1, 2, 3] [0] rfl rfl rfl rfl ?_)
        refine Tk_blk (Tk_region (Tops_step rfl (OpT_move rfl rfl rfl rfl) ?_))
        refine Tops_step rfl (OpT_bin rfl rfl rfl rfl rfl (bin_add_i (a := i1) (b := (1 : Int)))) ?_
        refine Tops_step rfl (OpT_assign rfl rfl rfl rfl) ?_
        refine Tops_nil (Tk_wkS (fr' := [(0, some (.pointer (some ⟨b_m, 0, none⟩))), (2, some (vU32 written)), (12, some (v5)), (13, some (v3)), (14, some (vI (wi (i1 + (1 : Int)))))]) (own' := [some (cellsR b_m 97 [vm1, vm2]), some (rowsX u8S false vm2 vsm1 m.B none), some (rowS u8S v5 (b1 ++ read1.1)), some (rowS SegS v3 l1)]) (shr' := [Fact.sl RegionS vm1 m.L]) [0, 2, 12, 13, 14] [0, 1, 2, 3] [0] rfl rfl rfl rfl ?_)
        exact Tk_backS (b1 ++ read1.1, l1, wi (i1 + (1 : Int)), v5, v3) h [0, 2, 12, 13, 14] [0, 1, 2, 3] [0] rfl rfl rfl rfl rfl
     ·replace h := br_f hg5 h
      refine Tk_condF (congrArg (fun b => some (Value.bool b)) hg5) ?_
      refine Tk_exit _ rfl ?_
      refine Tk_seq (Tk_region (Tops_step rfl (OpT_move rfl rfl rfl rfl) ?_))
      refine Tops_step rfl (OpT_move rfl rfl rfl rfl) ?_
      refine Tops_step rfl (OpT_lenO rfl rfl rfl rfl Try.underlying35 (i := 2) rfl) ?_
      refine Tops_step rfl (OpT_bin rfl rfl rfl rfl rfl (bin_sub_i (a := len b1) (b := (1 : Int)))) ?_
      obtain ⟨y1, hx7, h⟩ := ob_e h
      refine Tops_step rfl (OpT_idxO rfl rfl rfl rfl rfl slF35 (i := 2) rfl hx7) ?_
      refine Tops_step rfl (OpT_loadO (S := u8S) rfl rfl rfl rfl rfl tyF5 (i := 2) rfl hx7 rfl rfl) ?_
      refine Tops_step rfl (OpT_assign rfl rfl rfl rfl) ?_
      refine Tops_nil (Tk_wkS (fr' := [(2, some (vU32 written)), (12, some (v2)), (17, some (vU8 y1))]) (own' := [some (cellsR b_m 97 [vm1, vm2]), some (rowsX u8S false vm2 vsm1 m.B none), some (rowS u8S v2 b1)]) (shr' := [Fact.sl RegionS vm1 m.L]) [2, 12, 17] [0, 1, 2] [0] rfl rfl rfl rfl ?_)
      refine Tk_seq (Tk_seq (Tk_region (Tops_step rfl (OpT_move rfl rfl rfl rfl) ?_)))
      refine Tops_step rfl (OpT_bin rfl rfl rfl rfl rfl (bin_neq_u8 (a := y1) (b := (0 : UInt8)))) ?_
      refine Tops_nil (Tk_wkS (fr' := [(2, some (vU32 written)), (12, some (v2)), (17, some (vU8 y1)), (75, some (vB (y1 != (0 : UInt8))))]) (own' := [some (cellsR b_m 97 [vm1, vm2]), some (rowsX u8S false vm2 vsm1 m.B none), some (rowS u8S v2 b1)]) (shr' := [Fact.sl RegionS vm1 m.L]) [2, 12, 17, 75] [0, 1, 2] [0] rfl rfl rfl rfl ?_)
      rcases Bool.eq_false_or_eq_true (y1 != (0 : UInt8)) with hg6 | hg6
      ·replace h := br_t hg6 h
       refine Tk_condT (congrArg (fun b => some (Value.bool b)) hg6) ?_
       refine Tk_seq (Tk_region (Tops_step rfl (OpT_move rfl rfl rfl rfl) ?_))
       refine Tops_step rfl (OpT_assign rfl rfl rfl rfl) ?_
       refine Tops_step rfl (OpT_assign rfl rfl rfl rfl) ?_
       refine Tops_step rfl (OpT_assign rfl rfl rfl rfl) ?_
       refine Tops_nil (Tk_wkS (fr' := [(6, some (.slice none 0 0)), (7, some (vU8 y1)), (8, some (vI (0 : Int)))]) (own' := [some (cellsR b_m 97 [vm1, vm2]), some (rowsX u8S false vm2 vsm1 m.B none)]) (shr' := [Fact.sl RegionS vm1 m.L]) [6, 7, 8] [0, 1] [0] rfl rfl rfl rfl ?_)
       refine Tk_nilfact u8S ?_
       obtain rfl := Option.some.inj h
       exact Tk_retV rfl rfl (resA (vs := [.slice none 0 0, vU8 y1, vI (0 : Int)]) rfl ⟨rfl, rfl, rfl, trivial⟩) [0, 1] [1] rfl rfl rfl ⟨(.slice none 0 0), rfl, rfl, rfl⟩
      ·replace h := br_f hg6 h
       refine Tk_condF (congrArg (fun b => some (Value.bool b)) hg6) ?_
       refine Tk_skip (Tk_seq (Tk_region (Tops_step rfl (OpT_move rfl rfl rfl rfl) ?_)))
       refine Tops_step rfl (OpT_move rfl rfl rfl rfl) ?_
       refine Tops_step rfl (OpT_bin rfl rfl rfl rfl rfl (bin_sub_u32 (a := written) (b := (1 : UInt32)))) ?_
       obtain ⟨hc2, h⟩ := chk_e h
       refine Tops_step rfl (OpT_subH (S := u8S) (m := ((written - (1 : UInt32)).toNat : Int)) rfl rfl rfl rfl rfl slF35 (i := 2) rfl hc2) ?_
       refine Tops_step rfl (OpT_move rfl rfl rfl rfl) ?_
       refine Tops_step rfl (OpT_assign rfl rfl rfl rfl) ?_
       refine Tops_step rfl (OpT_assign rfl rfl rfl rfl) ?_
       refine Tops_step rfl (OpT_assign rfl rfl rfl rfl) ?_
       refine Tops_nil (Tk_wkS (fr' := [(6, some (subV v2 1 (Int.toNat (0 : Int)) (Int.toNat ((written - (1 : UInt32)).toNat : Int)))), (7, some (vU8 y1)), (8, some (vI (0 : Int)))]) (own' := [some (cellsR b_m 97 [vm1, vm2]), some (rowsX u8S false vm2 vsm1 m.B none), some (rowS u8S v2 b1)]) (shr' := [Fact.sl RegionS vm1 m.L]) [6, 7, 8] [0, 1, 2] [0] rfl rfl rfl rfl ?_)
       refine Tk_retire (i := 2) rfl ?_
       refine Tk_vs (vs_subSl (l := (0 : Int)) (m := ((written - (1 : UInt32)).toNat : Int)) (i := 1) rfl hc2) ?_
       obtain rfl := Option.some.inj h
       exact Tk_retV rfl rfl (resA (vs := [subV v2 1 (Int.toNat (0 : Int)) (Int.toNat ((written - (1 : UInt32)).toNat : Int)), vU8 y1, vI (0 : Int)]) rfl ⟨rfl, rfl, rfl, trivial⟩) [0, 1] [2] rfl rfl rfl ⟨subV v2 1 (Int.toNat (0 : Int)) (Int.toNat ((written - (1 : UInt32)).toNat : Int)), rfl, rfl, rfl⟩

set_option maxRecDepth 100000 in
set_option maxHeartbeats 4000000 in
theorem w_ref_Capacity22 {config : List UInt8} {vconfig1 : Value} {r : UInt64} (h : ref_Capacity22 config = some r) :
  Ctr Try.prog 34 #[vconfig1] [] [Fact.sl u8S vconfig1 config]
   (fun rv own shr => rv = vU64 r ∧ own = [] ∧ shr = []) := by
 unfold ref_Capacity22 at h
 refine Ctr.mk (args := [vconfig1]) Try.func34 rfl rfl (fun R0 w0 B => ?_)
 refine Tk_seq (Tk_region (Tops_step rfl (OpT_assign rfl rfl rfl rfl) ?_))
 refine Tops_nil (Tk_wkS (fr' := [(0, some (vconfig1))]) (own' := []) (shr' := [Fact.sl u8S vconfig1 config]) [0] [] [0] rfl rfl rfl rfl ?_)
 refine Tk_seq (Tk_region (Tops_step rfl (OpT_assign rfl rfl rfl rfl) ?_))
 refine Tops_nil (Tk_seq (Tk_seq (Tk_region (Tops_step rfl (OpT_assign rfl rfl rfl rfl) ?_))))
 refine Tops_nil (Tk_block (Tk_loopS (σ := UInt64 × Int) [0, 3, 4] [] [0] (fun s => ⟨[(0, some (vconfig1)), (3, some (vU64 s.1)), (4, some (vI s.2))], [], [Fact.sl u8S vconfig1 config]⟩) (fun nf1 s => ref_Capacity22L1 config nf1 s.1 s.2 = some r) fuel ((0 : UInt64), (7 : Int)) h rfl rfl rfl rfl rfl (fun s h => by cases h) ?_))
 rintro nf1 ⟨x1, i1⟩ h
 replace h : ref_Capacity22L1B config (ref_Capacity22L1 config nf1) x1 i1 = some r := h
 unfold ref_Capacity22L1B at h
 refine Tk_seq (Tk_seq (Tk_region (Tops_step rfl (OpT_move rfl rfl rfl rfl) ?_)))
 refine Tops_step rfl (OpT_bin rfl rfl rfl rfl rfl (bin_geq_i (a := i1) (b := (0 : Int)))) ?_
 refine Tops_step rfl (OpT_move rfl rfl rfl rfl) ?_
 rcases Bool.eq_false_or_eq_true (decide (i1 ≥ (0 : Int))) with hg1 | hg1
 ·replace h := br_t hg1 h
  refine Tops_yes rfl rfl (congrArg (fun b => some (Value.bool b)) hg1) (OpT_move rfl rfl rfl rfl) ?_
  rintro _ rfl
  refine Tops_yes rfl rfl (congrArg (fun b => some (Value.bool b)) hg1) (OpT_lenS rfl rfl rfl rfl Try.underlying35 (i := 0) rfl) ?_
  rintro _ rfl
  refine Tops_yes rfl rfl (congrArg (fun b => some (Value.bool b)) hg1) (OpT_bin rfl rfl rfl rfl rfl (bin_geq_i (a := len config) (b := (8 : Int)))) ?_
  rintro _ rfl
  refine Tops_step rfl (OpT_pickT rfl rfl rfl (congrArg (fun b => some (Value.bool b)) hg1) rfl) ?_
  refine Tops_nil (Tk_wkS (fr' := [(0, some (vconfig1)), (3, some (vU64 x1)), (4, some (vI i1)), (11, some (vB (decide ((len config) ≥ (8 : Int)))))]) (own' := []) (shr' := [Fact.sl u8S vconfig1 config]) [0, 3, 4, 11] [] [0] rfl rfl rfl rfl ?_)
  rcases Bool.eq_false_or_eq_true (decide ((len config) ≥ (8 : Int))) with hg2 | hg2
  ·replace h := br_t hg2 h
   refine Tk_condT (congrArg (fun b => some (Value.bool b)) hg2) ?_
   refine Tk_skip (Tk_seq (Tk_block (Tk_region (Tops_step rfl (OpT_move rfl rfl rfl rfl) ?_))))
   refine Tops_step rfl (OpT_bin rfl rfl rfl rfl rfl (bin_shl_u64_u64 (a := x1) (n := (8 : UInt64)))) ?_
   refine Tops_step rfl (OpT_move rfl rfl rfl rfl) ?_
   refine Tops_step rfl (OpT_move rfl rfl rfl rfl) ?_
   obtain ⟨y1, hx1, h⟩ := ob_e h
   refine Tops_ex rfl (OpT_idxS rfl rfl rfl rfl rfl slF35 (i := 0) rfl hx1) fun p1 => ?_
   refine Tops_step rfl (OpT_loadP rfl rfl rfl rfl tyF5 (i := 1) rfl rfl) ?_
   refine Tops_step rfl (OpT_cnv rfl rfl rfl rfl (cnv_u8_u64 (n := y1) Try.underlying5 Try.underlying29)) ?_
   refine Tops_step rfl (OpT_bin rfl rfl rfl rfl rfl (bin_or_u64 (a := shl64 x1 ((8 : UInt64).toNat)) (b := y1.toUInt64))) ?_
   refine Tops_step rfl (OpT_assign rfl rfl rfl rfl) ?_
   refine Tops_nil (Tk_wkS (fr' := [(0, some (vconfig1)), (3, some (vU64 ((shl64 x1 ((8 : UInt64).toNat)) ||| y1.toUInt64))), (4, some (vI i1))]) (own' := []) (shr' := [Fact.sl u8S vconfig1 config]) [0, 3, 4] [] [0] rfl rfl rfl rfl ?_)
   refine Tk_blk (Tk_region (Tops_step rfl (OpT_move rfl rfl rfl rfl) ?_))
   refine Tops_step rfl (OpT_bin rfl rfl rfl rfl rfl (bin_sub_i (a := i1) (b := (1 : Int)))) ?_
   refine Tops_step rfl (OpT_assign rfl rfl rfl rfl) ?_
   refine Tops_nil (Tk_wkS (fr' := [(0, some (vconfig1)), (3, some (vU64 ((shl64 x1 ((8 : UInt64).toNat)) ||| y1.toUInt64))), (4, some (vI (wi (i1 - (1 : Int)))))]) (own' := []) (shr' := [Fact.sl u8S vconfig1 config]) [0, 3, 4] [] [0] rfl rfl rfl rfl ?_)
   exact Tk_backS ((shl64 x1 ((8 : UInt64).toNat)) ||| y1.toUInt64, wi (i1 - (1 : Int))) h [0, 3, 4] [] [0] rfl rfl rfl rfl rfl
  ·replace h := br_f hg2 h
   refine Tk_condF (congrArg (fun b => some (Value.bool b)) hg2) ?_
   refine Tk_exit _ rfl ?_
   refine Tk_seq (Tk_region (Tops_step rfl (OpT_move rfl rfl rfl rfl) ?_))
   refine Tops_step rfl (OpT_assign rfl rfl rfl rfl) ?_
   refine Tops_nil (Tk_wkS (fr' := [(2, some (vU64 x1))]) (own' := []) (shr' := []) [2] [] [] rfl rfl rfl rfl ?_)
   obtain rfl := Option.some.inj h
   exact Tk_retV rfl rfl (resA (vs := [vU64 x1]) rfl ⟨rfl, trivial⟩) [] [] rfl rfl rfl ⟨rfl, rfl, rfl⟩
 ·replace h := br_f hg1 h
  refine Tops_no rfl rfl (congrArg (fun b => some (Value.bool b)) hg1) rfl rfl ?_
  refine Tops_no rfl rfl (congrArg (fun b => some (Value.bool b)) hg1) rfl rfl ?_
  refine Tops_no rfl rfl (congrArg (fun b => some (Value.bool b)) hg1) rfl rfl ?_
  refine Tops_step rfl (OpT_pickF rfl rfl rfl (congrArg (fun b => some (Value.bool b)) hg1) rfl) ?_
  refine Tops_nil (Tk_wkS (fr' := [(0, some (vconfig1)), (3, some (vU64 x1)), (4, some (vI i1)), (11, some (vB false))]) (own' := []) (shr' := [Fact.sl u8S vconfig1 config]) [0, 3, 4, 11] [] [0] rfl rfl rfl rfl ?_)
  refine Tk_condF rfl ?_
  refine Tk_exit _ rfl ?_
  refine Tk_seq (Tk_region (Tops_step rfl (OpT_move rfl rfl rfl rfl) ?_))
  refine Tops_step rfl (OpT_assign rfl rfl rfl rfl) ?_
  refine Tops_nil (Tk_wkS (fr' := [(2, some (vU64 x1))]) (own' := []) (shr' := []) [2] [] [] rfl rfl rfl rfl ?_)
  obtain rfl := Option.some.inj h
  exact Tk_retV rfl rfl (resA (vs := [vU64 x1]) rfl ⟨rfl, trivial⟩) [] [] rfl rfl rfl ⟨rfl, rfl, rfl⟩

theorem ws_gmem_Mem_Image {m : gmem_Mem} {b_m : Nat} {vm1 : Value} {vm2 : Value} {vsm1 : List Value} {r : (List UInt8)} (h : gmem_Mem_Image m = some r) :
  Ctr Try.prog 21 #[.pointer (some ⟨b_m, 0, none⟩)] [(cellsR b_m 83 [vm1, vm2]), (rowsX u8S true vm2 vsm1 m.b none)] [Fact.sl RegionS vm1 m.l]
   (fun rv own shr => ∃ (w1 : Value), rv = w1 ∧ own = [(cellsR b_m 83 [vm1, vm2]), (rowsX u8S true vm2 vsm1 m.b none)] ∧ shr = [Fact.sl u8S w1 r]) :=
 Ctr.sh (w_gmem_Mem_Image h) (by rintro w1 _ _ ⟨_, rfl, rfl, rfl⟩; exact ⟨[(cellsR b_m 83 [vm1, vm2]), (rowsX u8S true vm2 vsm1 m.b none)], _, _, _, _, rfl, w1, rfl, rfl, rfl⟩)

set_option maxRecDepth 100000 in
set_option maxHeartbeats 4000000 in
theorem w_ref_Mem_Image02 {m : dumbwaiterref02_Mem} {b_m : Nat} {vm1 : Value} {vm2 : Value} {vsm1 : List Value} {r : (List UInt8)} (h : ref_Mem_Image02 m = some r) :
  Ctr Try.prog 30 #[.pointer (some ⟨b_m, 0, none⟩)] [(cellsR b_m 97 [vm1, vm2]), (rowsX u8S false vm2 vsm1 m.B none)] [Fact.sl RegionS vm1 m.L]
   (fun rv own shr => ∃ (w1 : Value), rv = w1 ∧ own = [(cellsR b_m 97 [vm1, vm2]), (rowsX u8S false vm2 vsm1 m.B none), (rowS u8S w1 r)] ∧ shr = []) := by
 unfold ref_Mem_Image02 at h
 refine Ctr.mk (args := [.pointer (some ⟨b_m, 0, none⟩)]) Try.func30 rfl rfl (fun R0 w0 B => ?_)
 refine Tk_seq (Tk_region (Tops_step rfl (OpT_assign rfl rfl rfl rfl) ?_))
 refine Tops_nil (Tk_wkS (fr' := [(0, some (.pointer (some ⟨b_m, 0, none⟩)))]) (own' := [some (cellsR b_m 97 [vm1, vm2]), some (rowsX u8S false vm2 vsm1 m.B none)]) (shr' := [Fact.sl RegionS vm1 m.L]) [0] [0, 1] [0] rfl rfl rfl rfl ?_)
 refine Tk_seq (Tk_region (Tops_step rfl (OpT_assign rfl rfl rfl rfl) ?_))
 refine Tops_nil (Tk_seq (Tk_seq (Tk_region (Tops_step rfl (OpT_assign rfl rfl rfl rfl) ?_))))
 refine Tops_nil (Tk_block (Tk_nilrow u8S ?_))
 refine Tk_loopS (σ := (List UInt8) × Int × Value) [0, 3, 4] [0, 1, 2] [0] (fun s => ⟨[(0, some (.pointer (some ⟨b_m, 0, none⟩))), (3, some (s.2.2)), (4, some (vI s.2.1))], [some (cellsR b_m 97 [vm1, vm2]), some (rowsX u8S false vm2 vsm1 m.B none), some (rowS u8S s.2.2 s.1)], [Fact.sl RegionS vm1 m.L]⟩) (fun nf1 s => ref_Mem_Image02L1 m nf1 s.1 s.2.1 = some r) fuel ([], (0 : Int), (.slice none 0 0)) h rfl rfl rfl rfl rfl (fun s h => by cases h) ?_
 rintro nf1 ⟨out1, i1, v1⟩ h
 replace h : ref_Mem_Image02L1B m (ref_Mem_Image02L1 m nf1) out1 i1 = some r := h
 unfold ref_Mem_Image02L1B at h
 refine Tk_seq (Tk_seq (Tk_region (Tops_step rfl (OpT_move rfl rfl rfl rfl) ?_)))
 refine Tops_step rfl (OpT_move rfl rfl rfl rfl) ?_
 refine Tops_step rfl (OpT_nilCheckP rfl rfl rfl rfl) ?_
 refine Tops_step rfl (OpT_fieldC rfl rfl rfl rfl fldF97x1) ?_
 refine Tops_step rfl (OpT_loadC rfl rfl rfl rfl tyF81 (i := 0) rfl rfl) ?_
 refine Tops_step rfl (OpT_lenRows rfl rfl rfl rfl Try.underlying81 (i := 1) rfl) ?_
 refine Tops_step rfl (OpT_bin rfl rfl rfl rfl rfl (bin_lss_i (a := i1) (b := len m.B))) ?_
 refine Tops_nil (Tk_wkS (fr' := [(0, some (.pointer (some ⟨b_m, 0, none⟩))), (3, some (v1)), (4, some (vI i1)), (11, some (vB (decide (i1 < (len m.B)))))]) (own' := [some (cellsR b_m 97 [vm1, vm2]), some (rowsX u8S false vm2 vsm1 m.B none), some (rowS u8S v1 out1)]) (shr' := [Fact.sl RegionS vm1 m.L]) [0, 3, 4, 11] [0, 1, 2] [0] rfl rfl rfl rfl ?_)
 rcases Bool.eq_false_or_eq_true (decide (i1 < (len m.B))) with hg1 | hg1
 ·replace h := br_t hg1 h
  refine Tk_condT (congrArg (fun b => some (Value.bool b)) hg1) ?_
  refine Tk_skip (Tk_seq (Tk_block (Tk_region (Tops_step rfl (OpT_move rfl rfl rfl rfl) ?_))))
  refine Tops_step rfl (OpT_move rfl rfl rfl rfl) ?_
  refine Tops_step rfl (OpT_nilCheckP rfl rfl rfl rfl) ?_
  refine Tops_step rfl (OpT_fieldC rfl rfl rfl rfl fldF97x1) ?_
  refine Tops_step rfl (OpT_loadC rfl rfl rfl rfl tyF81 (i := 0) rfl rfl) ?_
  refine Tops_step rfl (OpT_move rfl rfl rfl rfl) ?_
  obtain ⟨row1, hx1, h⟩ := ob_e h
  refine Tops_step rfl (OpT_idxRows rfl rfl rfl rfl rfl slF81 (i := 1) rfl hx1) ?_
  refine Tops_vs (vs_focus (i := 1) (j := i1) rfl hx1) ?_
  refine Tops_step rfl (OpT_loadRow (m := i1) rfl rfl rfl rfl tyF35 (i := 1) rfl) ?_
  obtain ⟨hc1, h⟩ := chk_e h
  refine Tops_ex rfl (OpT_appendB (S := u8S) rfl rfl rfl rfl rfl rfl slF35 (i := 2) (j := 3) rfl rfl hc1) fun v2 => ?_
  refine Tops_step rfl (OpT_assign rfl rfl rfl rfl) ?_
  refine Tops_nil (Tk_wkS (fr' := [(0, some (.pointer (some ⟨b_m, 0, none⟩))), (3, some (v2)), (4, some (vI i1))]) (own' := [some (cellsR b_m 97 [vm1, vm2]), some (rowsX u8S false vm2 vsm1 m.B (some (Int.toNat i1, vsAt vsm1 (Int.toNat i1)))), some (rowS u8S v2 (out1 ++ row1)), some (rowS u8S (vsAt vsm1 (Int.toNat i1)) row1)]) (shr' := [Fact.sl RegionS vm1 m.L]) [0, 3, 4] [0, 1, 2, 3] [0] rfl rfl rfl rfl ?_)
  refine Tk_blk (Tk_vs (vs_unfocus0 (i := 1) (q := 3) rfl rfl rfl hx1) ?_)
  refine Tk_region (Tops_step rfl (OpT_move rfl rfl rfl rfl) ?_)
  refine Tops_step rfl (OpT_bin rfl rfl rfl rfl rfl (bin_add_i (a := i1) (b := (1 : Int)))) ?_
  refine Tops_step rfl (OpT_assign rfl rfl rfl rfl) ?_
  refine Tops_nil (Tk_wkS (fr' := [(0, some (.pointer (some ⟨b_m, 0, none⟩))), (3, some (v2)), (4, some (vI (wi (i1 + (1 : Int)))))]) (own' := [some (cellsR b_m 97 [vm1, vm2]), some (rowsX u8S false vm2 vsm1 m.B none), some (rowS u8S v2 (out1 ++ row1))]) (shr' := [Fact.sl RegionS vm1 m.L]) [0, 3, 4] [0, 1, 2] [0] rfl rfl rfl rfl ?_)
  exact Tk_backS (out1 ++ row1, wi (i1 + (1 : Int)), v2) h [0, 3, 4] [0, 1, 2] [0] rfl rfl rfl rfl rfl
 ·replace h := br_f hg1 h
  refine Tk_condF (congrArg (fun b => some (Value.bool b)) hg1) ?_
  refine Tk_exit _ rfl ?_
  refine Tk_seq (Tk_region (Tops_step rfl (OpT_move rfl rfl rfl rfl) ?_))
  refine Tops_step rfl (OpT_assign rfl rfl rfl rfl) ?_
  refine Tops_nil (Tk_wkS (fr' := [(2, some (v1))]) (own' := [some (cellsR b_m 97 [vm1, vm2]), some (rowsX u8S false vm2 vsm1 m.B none), some (rowS u8S v1 out1)]) (shr' := [Fact.sl RegionS vm1 m.L]) [2] [0, 1, 2] [0] rfl rfl rfl rfl ?_)
  obtain rfl := Option.some.inj h
  exact Tk_retV rfl rfl (resA (vs := [v1]) rfl ⟨rfl, trivial⟩) [0, 1, 2] [] rfl rfl rfl ⟨v1, rfl, rfl, rfl⟩

theorem ws_ref_Mem_Image02 {m : dumbwaiterref02_Mem} {b_m : Nat} {vm1 : Value} {vm2 : Value} {vsm1 : List Value} {r : (List UInt8)} (h : ref_Mem_Image02 m = some r) :
  Ctr Try.prog 30 #[.pointer (some ⟨b_m, 0, none⟩)] [(cellsR b_m 97 [vm1, vm2]), (rowsX u8S false vm2 vsm1 m.B none)] [Fact.sl RegionS vm1 m.L]
   (fun rv own shr => ∃ (w1 : Value), rv = w1 ∧ own = [(cellsR b_m 97 [vm1, vm2]), (rowsX u8S false vm2 vsm1 m.B none)] ∧ shr = [Fact.sl u8S w1 r]) :=
 Ctr.sh (w_ref_Mem_Image02 h) (by rintro w1 _ _ ⟨_, rfl, rfl, rfl⟩; exact ⟨[(cellsR b_m 97 [vm1, vm2]), (rowsX u8S false vm2 vsm1 m.B none)], _, _, _, _, rfl, w1, rfl, rfl, rfl⟩)

theorem ws_kit_Segs {l : List Seg} {vl1 : Value} {r : (List Seg)} (h : kit_Segs l = some r) :
  Ctr Try.prog 10 #[vl1] [] [Fact.sl SegS vl1 l]
   (fun rv own shr => ∃ (w1 : Value), rv = w1 ∧ own = [] ∧ shr = [Fact.sl SegS w1 r]) :=
 Ctr.sh (w_kit_Segs h) (by rintro w1 _ _ ⟨_, rfl, rfl, rfl⟩; exact ⟨[], _, _, _, _, rfl, w1, rfl, rfl, rfl⟩)
end Go.Proofs.Ytkmjpgfbcklopaa
