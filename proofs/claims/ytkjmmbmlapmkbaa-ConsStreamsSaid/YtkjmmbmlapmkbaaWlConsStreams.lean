/- The law ConsStreams is walked: it returns what its plain words say. No condition. -/
import Derived.Test.YtkjmmbmlapmkbaaWa3
namespace Go.Proofs.Ytkjmmbmlapmkbaa

set_option maxRecDepth 100000 in
set_option maxHeartbeats 4000000 in
theorem w_law28zConsStreams {parts : List (List UInt8)} {sizes : List Int} {vparts1 : Value} {vsizes1 : Value}  (h : law28zConsStreams parts sizes = some true) :
  Ctr Try.prog 6 #[vparts1, vsizes1] [] [Fact.sl (Shape.slice u8S) vparts1 parts, Fact.sl iS vsizes1 sizes]
   (fun rv own shr => rv = .bool true ∧ own = [] ∧ shr = []) := by
 unfold law28zConsStreams at h
 refine Ctr.mk (args := [vparts1, vsizes1]) Try.func6 rfl rfl (fun R0 w0 B => ?_)
 refine Tk_seq (Tk_region (Tops_step rfl (OpT_assign rfl rfl rfl rfl) ?_))
 refine Tops_nil (Tk_wkS (fr' := [(0, some (vparts1)), (1, some (vsizes1))]) (own' := []) (shr' := [Fact.sl (Shape.slice u8S) vparts1 parts, Fact.sl iS vsizes1 sizes]) [0, 1] [] [0, 1] rfl rfl rfl rfl ?_)
 refine Tk_seq (Tk_seq (Tk_region ?_))
 obtain ⟨lives1, hx1, h⟩ := ob_e h
 refine Tops_exP rfl (OpT_call (w_law28zlives hx1) [] [] rfl rfl rfl rfl rfl callee8 rfl rfl rfl rfl) ?_
 rintro _ ⟨_, _, _, ⟨rfl, rfl, rfl⟩, rfl⟩
 refine Tops_step rfl (OpT_not rfl rfl rfl rfl) ?_
 refine Tops_nil (Tk_wkS (fr' := [(0, some (vparts1)), (1, some (vsizes1)), (21, some (vB (!lives1)))]) (own' := []) (shr' := [Fact.sl (Shape.slice u8S) vparts1 parts, Fact.sl iS vsizes1 sizes]) [0, 1, 21] [] [0, 1] rfl rfl rfl rfl ?_)
 obtain ⟨hg1, h⟩ := chk_e h
 replace hg1 := not_t hg1
 refine Tk_condF (congrArg (fun b => some (Value.bool b)) hg1) ?_
 refine Tk_skip (Tk_seq (Tk_seq (Tk_region (Tops_step rfl (OpT_move rfl rfl rfl rfl) ?_))))
 refine Tops_step rfl (OpT_lenS rfl rfl rfl rfl Try.underlying55 (i := 0) rfl) ?_
 refine Tops_step rfl (OpT_bin rfl rfl rfl rfl rfl (bin_gtr_i (a := len parts) (b := (20 : Int)))) ?_
 refine Tops_step rfl (OpT_move rfl rfl rfl rfl) ?_
 rcases Bool.eq_false_or_eq_true (decide ((len parts) > (20 : Int))) with hg2 | hg2
 ·replace h := br_t hg2 h
  refine Tops_no rfl rfl (congrArg (fun b => some (Value.bool b)) hg2) rfl rfl ?_
  refine Tops_no rfl rfl (congrArg (fun b => some (Value.bool b)) hg2) rfl rfl ?_
  refine Tops_no rfl rfl (congrArg (fun b => some (Value.bool b)) hg2) rfl rfl ?_
  refine Tops_step rfl (OpT_pickT rfl rfl rfl (congrArg (fun b => some (Value.bool b)) hg2) rfl) ?_
  refine Tops_nil (Tk_wkS (fr' := [(0, some (vparts1)), (1, some (vsizes1)), (29, some (vB true))]) (own' := []) (shr' := [Fact.sl (Shape.slice u8S) vparts1 parts, Fact.sl iS vsizes1 sizes]) [0, 1, 29] [] [0, 1] rfl rfl rfl rfl ?_)
  refine Tk_condT rfl ?_
  refine Tk_seq (Tk_region (Tops_step rfl (OpT_assign rfl rfl rfl rfl) ?_))
  refine Tops_nil (Tk_wkS (fr' := [(4, some (vB true))]) (own' := []) (shr' := []) [4] [] [] rfl rfl rfl rfl ?_)
  exact Tk_retV rfl rfl (resA (vs := [.bool true]) rfl ⟨rfl, trivial⟩) [] [] rfl rfl rfl ⟨rfl, rfl, rfl⟩
 ·replace h := br_f hg2 h
  refine Tops_yes rfl rfl (congrArg (fun b => some (Value.bool b)) hg2) (OpT_move rfl rfl rfl rfl) ?_
  rintro _ rfl
  refine Tops_yes rfl rfl (congrArg (fun b => some (Value.bool b)) hg2) (OpT_lenS rfl rfl rfl rfl Try.underlying31 (i := 1) rfl) ?_
  rintro _ rfl
  refine Tops_yes rfl rfl (congrArg (fun b => some (Value.bool b)) hg2) (OpT_bin rfl rfl rfl rfl rfl (bin_gtr_i (a := len sizes) (b := (20 : Int)))) ?_
  rintro _ rfl
  refine Tops_step rfl (OpT_pickF rfl rfl rfl (congrArg (fun b => some (Value.bool b)) hg2) rfl) ?_
  refine Tops_nil (Tk_wkS (fr' := [(0, some (vparts1)), (1, some (vsizes1)), (29, some (vB (decide ((len sizes) > (20 : Int)))))]) (own' := []) (shr' := [Fact.sl (Shape.slice u8S) vparts1 parts, Fact.sl iS vsizes1 sizes]) [0, 1, 29] [] [0, 1] rfl rfl rfl rfl ?_)
  rcases Bool.eq_false_or_eq_true (decide ((len sizes) > (20 : Int))) with hg3 | hg3
  ·replace h := br_t hg3 h
   refine Tk_condT (congrArg (fun b => some (Value.bool b)) hg3) ?_
   refine Tk_seq (Tk_region (Tops_step rfl (OpT_assign rfl rfl rfl rfl) ?_))
   refine Tops_nil (Tk_wkS (fr' := [(4, some (vB true))]) (own' := []) (shr' := []) [4] [] [] rfl rfl rfl rfl ?_)
   exact Tk_retV rfl rfl (resA (vs := [.bool true]) rfl ⟨rfl, trivial⟩) [] [] rfl rfl rfl ⟨rfl, rfl, rfl⟩
  ·replace h := br_f hg3 h
   refine Tk_condF (congrArg (fun b => some (Value.bool b)) hg3) ?_
   refine Tk_skip (Tk_seq (Tk_region ?_))
   obtain ⟨memory1, hx2, h⟩ := ob_e h
   refine Tops_exP rfl (OpT_call (w_law28zmemory hx2) [] [] rfl rfl rfl rfl rfl callee13 rfl rfl rfl rfl) ?_
   rintro _ ⟨v1, _, _, ⟨_, rfl, rfl, rfl⟩, rfl⟩
   refine Tops_retire (i := 0) rfl ?_
   obtain ⟨new1, hx3, h⟩ := ob_e h
   refine Tops_exP rfl (OpT_call (w_gmem_New hx3) [] [2] rfl rfl rfl rfl rfl callee12 rfl rfl rfl rfl) ?_
   rintro _ ⟨_, _, _, ⟨v2, rfl, rfl, rfl⟩, rfl⟩
   refine Tops_step rfl (OpT_move rfl rfl rfl rfl) ?_
   refine Tops_step rfl (OpT_extract rfl rfl rfl rfl rfl) ?_
   refine Tops_step rfl (OpT_extract rfl rfl rfl rfl rfl) ?_
   refine Tops_step rfl (OpT_assign rfl rfl rfl rfl) ?_
   refine Tops_step rfl (OpT_assign rfl rfl rfl rfl) ?_
   refine Tops_nil (Tk_wkS (fr' := [(0, some (vparts1)), (1, some (vsizes1)), (5, some (v2)), (6, some (vI new1.2))]) (own' := [some (optR 76 RegionS u8S true gmem_Mem.l gmem_Mem.b v2 new1.1)]) (shr' := [Fact.sl (Shape.slice u8S) vparts1 parts, Fact.sl iS vsizes1 sizes]) [0, 1, 5, 6] [1] [0, 1] rfl rfl rfl rfl ?_)
   rcases onO_cases h with ⟨ho1, h⟩ | ⟨mem1, ho1, h⟩
   ·cases h
   ·refine Tk_optS (i := 0) rfl ho1 ?_
    rintro b1 v3 v4 vs1 rfl
    refine Tk_seq (Tk_seq (Tk_region (Tops_step rfl (OpT_move rfl rfl rfl rfl) ?_)))
    refine Tops_step rfl (OpT_bin rfl rfl rfl rfl rfl (bin_neq_i (a := new1.2) (b := (0 : Int)))) ?_
    refine Tops_nil (Tk_wkS (fr' := [(0, some (vparts1)), (1, some (vsizes1)), (5, some (.pointer (some ⟨b1, 0, none⟩))), (36, some (vB (new1.2 != (0 : Int))))]) (own' := [some (cellsR b1 76 [v3, v4]), some (rowsX u8S true v4 vs1 mem1.b none)]) (shr' := [Fact.sl (Shape.slice u8S) vparts1 parts, Fact.sl iS vsizes1 sizes, Fact.sl RegionS v3 mem1.l]) [0, 1, 5, 36] [0, 1] [0, 1, 2] rfl rfl rfl rfl ?_)
    obtain ⟨hg4, h⟩ := chk_e h
    replace hg4 := not_t hg4
    refine Tk_condF (congrArg (fun b => some (Value.bool b)) hg4) ?_
    refine Tk_skip (Tk_seq (Tk_region (Tops_ex rfl (OpT_alloc rfl rfl rfl tyZ40) fun b2 => ?_)))
    refine Tops_nil (Tk_wkS (fr' := [(0, some (vparts1)), (1, some (vsizes1)), (5, some (.pointer (some ⟨b1, 0, none⟩))), (7, some (.pointer (some ⟨b2, 0, none⟩)))]) (own' := [some (cellsR b1 76 [v3, v4]), some (rowsX u8S true v4 vs1 mem1.b none), some (cellsR b2 40 [.slice none 0 0])]) (shr' := [Fact.sl (Shape.slice u8S) vparts1 parts, Fact.sl iS vsizes1 sizes, Fact.sl RegionS v3 mem1.l]) [0, 1, 5, 7] [0, 1, 2] [0, 1, 2] rfl rfl rfl rfl ?_)
    refine Tk_seq (Tk_region (Tops_step rfl (OpT_assign rfl rfl rfl rfl) ?_))
    refine Tops_step rfl (OpT_assign rfl rfl rfl rfl) ?_
    refine Tops_nil (Tk_seq (Tk_seq (Tk_region (Tops_step rfl (OpT_assign rfl rfl rfl rfl) ?_))))
    refine Tops_nil (Tk_block (Tk_nilfact u8S ?_))
    refine Tk_loopS (σ := (List (List UInt8)) × (List UInt8) × (List UInt8) × (List UInt8) × Int × Value) [0, 1, 5, 7, 8, 9, 10] [0, 1, 2] [0, 1, 2, 3] (fun s => ⟨[(0, some (vparts1)), (1, some (vsizes1)), (5, some (.pointer (some ⟨b1, 0, none⟩))), (7, some (.pointer (some ⟨b2, 0, none⟩))), (8, some (vS s.2.2.1)), (9, some (vS s.2.2.2.1)), (10, some (vI s.2.2.2.2.1))], [some (cellsR b1 76 [v3, v4]), some (rowsX u8S true v4 vs1 s.1 none), some (cellsR b2 40 [s.2.2.2.2.2])], [Fact.sl (Shape.slice u8S) vparts1 parts, Fact.sl iS vsizes1 sizes, Fact.sl RegionS v3 mem1.l, Fact.sl u8S s.2.2.2.2.2 s.2.1]⟩) (fun nf1 s => law28zConsStreamsL1 parts sizes mem1 nf1 s.1 s.2.1 s.2.2.1 s.2.2.2.1 s.2.2.2.2.1 = some true) fuel (mem1.b, ([] : List UInt8), ([] : List UInt8), ([] : List UInt8), (0 : Int), .slice none 0 0) h rfl rfl rfl rfl rfl (fun s h => by cases h) ?_
    rintro nf1 ⟨rows1, Wait1, put1, got1, i1, v5⟩ h
    replace h : law28zConsStreamsL1B parts sizes mem1 (law28zConsStreamsL1 parts sizes mem1 nf1) rows1 Wait1 put1 got1 i1 = some true := h
    unfold law28zConsStreamsL1B at h
    refine Tk_seq (Tk_seq (Tk_region (Tops_step rfl (OpT_move rfl rfl rfl rfl) ?_)))
    refine Tops_step rfl (OpT_move rfl rfl rfl rfl) ?_
    refine Tops_step rfl (OpT_lenS rfl rfl rfl rfl Try.underlying55 (i := 0) rfl) ?_
    refine Tops_step rfl (OpT_bin rfl rfl rfl rfl rfl (bin_lss_i (a := i1) (b := len parts))) ?_
    refine Tops_nil (Tk_wkS (fr' := [(0, some (vparts1)), (1, some (vsizes1)), (5, some (.pointer (some ⟨b1, 0, none⟩))), (7, some (.pointer (some ⟨b2, 0, none⟩))), (8, some (vS put1)), (9, some (vS got1)), (10, some (vI i1)), (40, some (vB (decide (i1 < (len parts)))))]) (own' := [some (cellsR b1 76 [v3, v4]), some (rowsX u8S true v4 vs1 rows1 none), some (cellsR b2 40 [v5])]) (shr' := [Fact.sl (Shape.slice u8S) vparts1 parts, Fact.sl iS vsizes1 sizes, Fact.sl RegionS v3 mem1.l, Fact.sl u8S v5 Wait1]) [0, 1, 5, 7, 8, 9, 10, 40] [0, 1, 2] [0, 1, 2, 3] rfl rfl rfl rfl ?_)
    rcases Bool.eq_false_or_eq_true (decide (i1 < (len parts))) with hg5 | hg5
    ·replace h := br_t hg5 h
     refine Tk_condT (congrArg (fun b => some (Value.bool b)) hg5) ?_
     refine Tk_skip (Tk_seq (Tk_block (Tk_seq (Tk_seq (Tk_region (Tops_step rfl (OpT_move rfl rfl rfl rfl) ?_))))))
     refine Tops_step rfl (OpT_move rfl rfl rfl rfl) ?_
     obtain ⟨y1, hx4, h⟩ := ob_e h
     refine Tops_ex rfl (OpT_idxS rfl rfl rfl rfl rfl slF55 (i := 0) rfl hx4) fun p1 => ?_
     refine Tops_ex rfl (OpT_loadPS rfl rfl rfl rfl tyF30 (i := 4) rfl) fun v6 => ?_
     refine Tops_step rfl (OpT_lenS rfl rfl rfl rfl Try.underlying30 (i := 5) rfl) ?_
     refine Tops_step rfl (OpT_bin rfl rfl rfl rfl rfl (bin_gtr_i (a := len y1) (b := (6000 : Int)))) ?_
     refine Tops_nil (Tk_wkS (fr' := [(0, some (vparts1)), (1, some (vsizes1)), (5, some (.pointer (some ⟨b1, 0, none⟩))), (7, some (.pointer (some ⟨b2, 0, none⟩))), (8, some (vS put1)), (9, some (vS got1)), (10, some (vI i1)), (48, some (vB (decide ((len y1) > (6000 : Int)))))]) (own' := [some (cellsR b1 76 [v3, v4]), some (rowsX u8S true v4 vs1 rows1 none), some (cellsR b2 40 [v5])]) (shr' := [Fact.sl (Shape.slice u8S) vparts1 parts, Fact.sl iS vsizes1 sizes, Fact.sl RegionS v3 mem1.l, Fact.sl u8S v5 Wait1]) [0, 1, 5, 7, 8, 9, 10, 48] [0, 1, 2] [0, 1, 2, 3] rfl rfl rfl rfl ?_)
     rcases Bool.eq_false_or_eq_true (decide ((len y1) > (6000 : Int))) with hg6 | hg6
     ·replace h := br_t hg6 h
      refine Tk_condT (congrArg (fun b => some (Value.bool b)) hg6) ?_
      refine Tk_seq (Tk_region (Tops_step rfl (OpT_assign rfl rfl rfl rfl) ?_))
      refine Tops_nil (Tk_wkS (fr' := [(4, some (vB true))]) (own' := []) (shr' := []) [4] [] [] rfl rfl rfl rfl ?_)
      exact Tk_retV rfl rfl (resA (vs := [.bool true]) rfl ⟨rfl, trivial⟩) [] [] rfl rfl rfl ⟨rfl, rfl, rfl⟩
     ·replace h := br_f hg6 h
      refine Tk_condF (congrArg (fun b => some (Value.bool b)) hg6) ?_
      refine Tk_skip (Tk_seq (Tk_drawT (by kernel_rfl) ?_))
      refine TA_tb [0, 0, 0, 6, 14, 30, 63, 127, 255, 255, 0, 1535, 4095] (by kernel_rfl) fun htb => ?_
      refine TA_wkS (fr' := [(0, some (vparts1)), (1, some (vsizes1)), (5, some (.pointer (some ⟨b1, 0, none⟩))), (7, some (.pointer (some ⟨b2, 0, none⟩))), (8, some (vS put1)), (9, some (vS got1)), (10, some (vI i1))]) (own' := [some (cellsR b1 76 [v3, v4]), some (rowsX u8S true v4 vs1 rows1 none), some (cellsR b2 40 [v5])]) (shr' := [Fact.sl (Shape.slice u8S) vparts1 parts, Fact.sl iS vsizes1 sizes, Fact.sl RegionS v3 mem1.l, Fact.sl u8S v5 Wait1]) [0, 1, 5, 7, 8, 9, 10] [0, 1, 2] [0, 1, 2, 3] rfl rfl rfl rfl ?_
      obtain ⟨y2, hx5, h⟩ := ob_e h
      obtain ⟨own1, hx6, h⟩ := ob_e h
      obtain ⟨put2, hx7, h⟩ := ob_e h
      refine TA_seg (lo := 0) (hi := 12) htb rfl rfl (by kernel_rfl) (fun c L a w => ∃ (p2 : Value), ∃ (v7 : Value), ∃ (v8 : Value), ∃ (v9 : Value), ∃ (b3 : Nat), Sat c ⟨[(0, some (vparts1)), (1, some (vsizes1)), (5, some (.pointer (some ⟨b1, 0, none⟩))), (7, some (.pointer (some ⟨b2, 0, none⟩))), (8, some (vS put1)), (9, some (vS got1)), (10, some (vI i1)), (50, bif L 0 then some (.agg #[v5]) else none), (51, bif L 1 then some (vparts1) else none), (52, bif L 2 then some (vI i1) else none), (53, bif L 3 then some (p2) else none), (54, bif L 4 then some (v7) else none), (55, bif L 5 then some (v8) else none), (56, bif L 6 then some (.tuple #[.agg #[v9], vI put2.2]) else none), (49, bif L 7 then some (.tuple #[.agg #[v9], vI put2.2]) else none), (57, bif L 8 then some (.agg #[v9]) else none), (58, bif L 9 then some (vI put2.2) else none), (11, bif L 10 then some (.pointer (some ⟨b3, 0, none⟩)) else none)], [(some (cellsR b1 76 [v3, v4]) : Option Res), (some (rowsX u8S true v4 vs1 rows1 none) : Option Res), (some (cellsR b2 40 [v5]) : Option Res), (bif L 11 then some (cellsR b3 40 [v9]) else bif L 10 then some (cellsR b3 40 [.slice none 0 0]) else none : Option Res)], [Fact.sl (Shape.slice u8S) vparts1 parts, Fact.sl iS vsizes1 sizes, Fact.sl RegionS v3 mem1.l, Fact.sl u8S v5 Wait1, (bif L 3 then Fact.pt (Shape.slice u8S) p2 y2 else Fact.tt), (bif L 4 then Fact.sl u8S v7 y2 else Fact.tt), (bif L 5 then Fact.sl u8S v8 own1 else Fact.tt), (bif L 6 then Fact.sl u8S v9 put2.1.Wait else Fact.tt)]⟩ a w) [([], [6, 7, 8, 9, 11]), ([], [3, 4, 5, 6, 7, 8, 9, 11]), ([], [3, 4, 5, 6, 7, 8, 9, 11]), ([1, 2], [4, 5, 6, 7, 8, 9, 11]), ([1, 2, 3], [5, 6, 7, 8, 9, 11]), ([1, 2, 3, 4], [6, 7, 8, 9, 11]), ([0, 1, 2, 3, 4, 5], [7, 8, 9, 11]), ([0, 1, 2, 3, 4, 5, 6], [8, 9, 11]), ([0, 1, 2, 3, 4, 5, 6, 7], [11]), ([0, 1, 2, 3, 4, 5, 6, 7], []), ([], [11]), ([0, 1, 2, 3, 4, 5, 6, 7, 8, 10], [])] rfl (by kernel_rfl) ?_ (steps_cons ?_ (steps_cons ?_ (steps_cons ?_ (steps_cons ?_ (steps_cons ?_ (steps_cons ?_ (steps_cons ?_ (steps_cons ?_ (steps_cons ?_ (steps_cons ?_ (steps_cons ?_ (steps_cons ?_ (steps_nil))))))))))))) ?_
      ·intro a w hs
       exact ⟨undef, undef, undef, undef, 0, hs.startF [50, 51, 52, 53, 54, 55, 56, 49, 57, 58, 11] [0, 1, 2, 3] [0, 1, 2, 3, 4, 5, 6, 7] rfl rfl rfl rfl⟩
      ·intro L a w hv K Q hK
       obtain ⟨p2, v7, v8, v9, b3, hs⟩ := hv
       refine wpOp_go rfl rfl hs (OpT_loadCA (vs := [v5]) rfl rfl rfl rfl tyF40 (i := 2) rfl rfl rfl) ?_
       rintro _ rfl a' w' hs'
       exact hK a' w' ⟨p2, v7, v8, v9, b3, hs'.putF (i := 7) rfl [0, 1, 2, 3] [0, 1, 2, 3, 4, 5, 6, 7] rfl rfl rfl rfl⟩
      ·intro L a w hv K Q hK
       obtain ⟨p2, v7, v8, v9, b3, hs⟩ := hv
       refine wpOp_go rfl rfl hs (OpT_move rfl rfl rfl rfl) ?_
       rintro _ rfl a' w' hs'
       exact hK a' w' ⟨p2, v7, v8, v9, b3, hs'.putF (i := 8) rfl [0, 1, 2, 3] [0, 1, 2, 3, 4, 5, 6, 7] rfl rfl rfl rfl⟩
      ·intro L a w hv K Q hK
       obtain ⟨p2, v7, v8, v9, b3, hs⟩ := hv
       refine wpOp_go rfl rfl hs (OpT_move rfl rfl rfl rfl) ?_
       rintro _ rfl a' w' hs'
       exact hK a' w' ⟨p2, v7, v8, v9, b3, hs'.putF (i := 9) rfl [0, 1, 2, 3] [0, 1, 2, 3, 4, 5, 6, 7] rfl rfl rfl rfl⟩
      ·intro L a w hv K Q hK
       obtain ⟨p2, v7, v8, v9, b3, hs⟩ := hv
       refine wpOp_go rfl rfl hs (OpT_idxS rfl rfl rfl rfl rfl slF55 (i := 0) rfl hx5) ?_
       rintro _ ⟨p2', rfl⟩ a' w' hs'
       exact hK a' w' ⟨p2', v7, v8, v9, b3, hs'.putF (i := 10) rfl [0, 1, 2, 3] [0, 1, 2, 3, 8, 5, 6, 7] rfl rfl rfl rfl⟩
      ·intro L a w hv K Q hK
       obtain ⟨p2, v7, v8, v9, b3, hs⟩ := hv
       refine wpOp_go rfl rfl hs (OpT_loadPS rfl rfl rfl rfl tyF30 (i := 4) rfl) ?_
       rintro _ ⟨v7', rfl⟩ a' w' hs'
       exact hK a' w' ⟨p2, v7', v8, v9, b3, hs'.putF (i := 11) rfl [0, 1, 2, 3] [0, 1, 2, 3, 4, 8, 6, 7] rfl rfl rfl rfl⟩
      ·intro L a w hv K Q hK
       obtain ⟨p2, v7, v8, v9, b3, hs⟩ := hv
       refine wpOp_go rfl rfl hs (OpT_call (ws_kit_Own hx6) [] [5] rfl rfl rfl rfl rfl callee16 rfl rfl rfl rfl) ?_
       rintro _ ⟨v8', _, _, ⟨_, rfl, rfl, rfl⟩, rfl⟩ a' w' hs'
       exact hK a' w' ⟨p2, v7, v8', v9, b3, hs'.putF (i := 12) rfl [0, 1, 2, 3] [0, 1, 2, 3, 4, 5, 8, 7] rfl rfl rfl rfl⟩
      ·intro L a w hv K Q hK
       obtain ⟨p2, v7, v8, v9, b3, hs⟩ := hv
       refine wpOp_go rfl rfl hs (OpT_call (ws_cons_Put hx7) [] [3, 6] rfl rfl rfl rfl rfl callee21 rfl rfl rfl rfl) ?_
       rintro _ ⟨_, _, _, ⟨v9', rfl, rfl, rfl⟩, rfl⟩ a' w' hs'
       exact hK a' w' ⟨p2, v7, v8, v9', b3, hs'.putF (i := 13) rfl [0, 1, 2, 3] [0, 1, 2, 3, 4, 5, 6, 8] rfl rfl rfl rfl⟩
      ·intro L a w hv K Q hK
       obtain ⟨p2, v7, v8, v9, b3, hs⟩ := hv
       refine wpOp_go rfl rfl hs (OpT_move rfl rfl rfl rfl) ?_
       rintro _ rfl a' w' hs'
       exact hK a' w' ⟨p2, v7, v8, v9, b3, hs'.putF (i := 14) rfl [0, 1, 2, 3] [0, 1, 2, 3, 4, 5, 6, 7] rfl rfl rfl rfl⟩
      ·intro L a w hv K Q hK
       obtain ⟨p2, v7, v8, v9, b3, hs⟩ := hv
       refine wpOp_go rfl rfl hs (OpT_extract rfl rfl rfl rfl rfl) ?_
       rintro _ rfl a' w' hs'
       exact hK a' w' ⟨p2, v7, v8, v9, b3, hs'.putF (i := 15) rfl [0, 1, 2, 3] [0, 1, 2, 3, 4, 5, 6, 7] rfl rfl rfl rfl⟩
      ·intro L a w hv K Q hK
       obtain ⟨p2, v7, v8, v9, b3, hs⟩ := hv
       refine wpOp_go rfl rfl hs (OpT_extract rfl rfl rfl rfl rfl) ?_
       rintro _ rfl a' w' hs'
       exact hK a' w' ⟨p2, v7, v8, v9, b3, hs'.putF (i := 16) rfl [0, 1, 2, 3] [0, 1, 2, 3, 4, 5, 6, 7] rfl rfl rfl rfl⟩
      ·intro L a w hv K Q hK
       obtain ⟨p2, v7, v8, v9, b3, hs⟩ := hv
       refine wpOp_go rfl rfl hs (OpT_alloc rfl rfl rfl tyZ40) ?_
       rintro _ ⟨b3', rfl⟩ a' w' hs'
       exact hK a' w' ⟨p2, v7, v8, v9, b3', hs'.putF (i := 17) rfl [0, 1, 2, 4] [0, 1, 2, 3, 4, 5, 6, 7] rfl rfl rfl rfl⟩
      ·intro L a w hv K Q hK
       obtain ⟨p2, v7, v8, v9, b3, hs⟩ := hv
       refine wpOp_go rfl rfl hs (OpT_storeA1 (fun z0 => [z0]) (cs' := [v9]) rfl rfl rfl rfl tyF40 (i := 3) rfl (is_sl (i := 7) rfl) (fun _ _ _ => rfl) rfl rfl rfl) ?_
       rintro _ rfl a' w' hs'
       exact hK a' w' ⟨p2, v7, v8, v9, b3, hs'.sameF [0, 1, 2, 3] [0, 1, 2, 3, 4, 5, 6, 7] rfl rfl rfl rfl⟩
      ·intro L a w hL hv
       rw [allTrue hL] at hv
       obtain ⟨p2, v7, v8, v9, b3, hs⟩ := hv
       refine (show TA _ _ _ 12 ⟨[(0, some (vparts1)), (1, some (vsizes1)), (5, some (.pointer (some ⟨b1, 0, none⟩))), (7, some (.pointer (some ⟨b2, 0, none⟩))), (8, some (vS put1)), (9, some (vS got1)), (10, some (vI i1)), (58, some (vI put2.2)), (11, some (.pointer (some ⟨b3, 0, none⟩)))], [some (cellsR b1 76 [v3, v4]), some (rowsX u8S true v4 vs1 rows1 none), some (cellsR b2 40 [v5]), some (cellsR b3 40 [v9])], [Fact.sl (Shape.slice u8S) vparts1 parts, Fact.sl iS vsizes1 sizes, Fact.sl RegionS v3 mem1.l, Fact.sl u8S v5 Wait1, Fact.sl u8S v9 put2.1.Wait]⟩ from ?_) a w (hs.wkS [0, 1, 5, 7, 8, 9, 10, 58, 11] [0, 1, 2, 3] [0, 1, 2, 3, 7] rfl rfl rfl rfl)
       clear hs hL
       refine TA_step htb (by kernel_rfl) rfl rfl (OpT_assign rfl rfl rfl rfl) ?_
       refine TA_end rfl ?_
       refine Tk_wkS (fr' := [(0, some (vparts1)), (1, some (vsizes1)), (5, some (.pointer (some ⟨b1, 0, none⟩))), (7, some (.pointer (some ⟨b2, 0, none⟩))), (8, some (vS put1)), (9, some (vS got1)), (10, some (vI i1)), (11, some (.pointer (some ⟨b3, 0, none⟩))), (12, some (vI put2.2))]) (own' := [some (cellsR b1 76 [v3, v4]), some (rowsX u8S true v4 vs1 rows1 none), some (cellsR b2 40 [v5]), some (cellsR b3 40 [v9])]) (shr' := [Fact.sl (Shape.slice u8S) vparts1 parts, Fact.sl iS vsizes1 sizes, Fact.sl RegionS v3 mem1.l, Fact.sl u8S v5 Wait1, Fact.sl u8S v9 put2.1.Wait]) [0, 1, 5, 7, 8, 9, 10, 11, 12] [0, 1, 2, 3] [0, 1, 2, 3, 4] rfl rfl rfl rfl ?_
       refine Tk_seq (Tk_seq (Tk_region (Tops_step rfl (OpT_move rfl rfl rfl rfl) ?_)))
       refine Tops_step rfl (OpT_bin rfl rfl rfl rfl rfl (bin_lss_i (a := put2.2) (b := (0 : Int)))) ?_
       refine Tops_step rfl (OpT_move rfl rfl rfl rfl) ?_
       obtain ⟨hg7, h⟩ := chk_e h
       replace hg7 := not_t hg7
       refine Tops_yes rfl rfl (congrArg (fun b => some (Value.bool b)) hg7) (OpT_move rfl rfl rfl rfl) ?_
       rintro _ rfl
       refine Tops_yes rfl rfl (congrArg (fun b => some (Value.bool b)) hg7) (OpT_move rfl rfl rfl rfl) ?_
       rintro _ rfl
       refine Tops_yes rfl rfl (congrArg (fun b => some (Value.bool b)) hg7) (OpT_move rfl rfl rfl rfl) ?_
       rintro _ rfl
       obtain ⟨y3, hx8, h⟩ := ob_e h
       refine Tops_yes rfl rfl (congrArg (fun b => some (Value.bool b)) hg7) (OpT_idxS rfl rfl rfl rfl rfl slF55 (i := 0) rfl hx8) ?_
       rintro _ ⟨p3, rfl⟩
       refine Tops_yes rfl rfl (congrArg (fun b => some (Value.bool b)) hg7) (OpT_loadPS rfl rfl rfl rfl tyF30 (i := 5) rfl) ?_
       rintro _ ⟨v10, rfl⟩
       refine Tops_yes rfl rfl (congrArg (fun b => some (Value.bool b)) hg7) (OpT_lenS rfl rfl rfl rfl Try.underlying30 (i := 6) rfl) ?_
       rintro _ rfl
       refine Tops_yes rfl rfl (congrArg (fun b => some (Value.bool b)) hg7) (OpT_bin rfl rfl rfl rfl rfl (bin_gtr_i (a := put2.2) (b := len y3))) ?_
       rintro _ rfl
       refine Tops_step rfl (OpT_pickF rfl rfl rfl (congrArg (fun b => some (Value.bool b)) hg7) rfl) ?_
       refine Tops_step rfl (OpT_move rfl rfl rfl rfl) ?_
       obtain ⟨hg8, h⟩ := chk_e h
       replace hg8 := not_t hg8
       refine Tops_yes rfl rfl (congrArg (fun b => some (Value.bool b)) hg8) (OpT_fieldC rfl rfl rfl rfl fldF40x0) ?_
       rintro _ rfl
       refine Tops_yes rfl rfl (congrArg (fun b => some (Value.bool b)) hg8) (OpT_loadC rfl rfl rfl rfl tyF30 (i := 3) rfl rfl) ?_
       rintro _ rfl
       refine Tops_yes rfl rfl (congrArg (fun b => some (Value.bool b)) hg8) (OpT_lenS rfl rfl rfl rfl Try.underlying30 (i := 4) rfl) ?_
       rintro _ rfl
       refine Tops_yes rfl rfl (congrArg (fun b => some (Value.bool b)) hg8) (OpT_fieldC rfl rfl rfl rfl fldF40x0) ?_
       rintro _ rfl
       refine Tops_yes rfl rfl (congrArg (fun b => some (Value.bool b)) hg8) (OpT_loadC rfl rfl rfl rfl tyF30 (i := 2) rfl rfl) ?_
       rintro _ rfl
       refine Tops_yes rfl rfl (congrArg (fun b => some (Value.bool b)) hg8) (OpT_lenS rfl rfl rfl rfl Try.underlying30 (i := 3) rfl) ?_
       rintro _ rfl
       refine Tops_yes rfl rfl (congrArg (fun b => some (Value.bool b)) hg8) (OpT_move rfl rfl rfl rfl) ?_
       rintro _ rfl
       refine Tops_yes rfl rfl (congrArg (fun b => some (Value.bool b)) hg8) (OpT_bin rfl rfl rfl rfl rfl (bin_add_i (a := len Wait1) (b := put2.2))) ?_
       rintro _ rfl
       refine Tops_yes rfl rfl (congrArg (fun b => some (Value.bool b)) hg8) (OpT_bin rfl rfl rfl rfl rfl (bin_neq_i (a := len put2.1.Wait) (b := wi ((len Wait1) + put2.2)))) ?_
       rintro _ rfl
       refine Tops_step rfl (OpT_pickF rfl rfl rfl (congrArg (fun b => some (Value.bool b)) hg8) rfl) ?_
       refine Tops_step rfl (OpT_move rfl rfl rfl rfl) ?_
       obtain ⟨hg9, h⟩ := chk_e h
       replace hg9 := not_t hg9
       refine Tops_yes rfl rfl (congrArg (fun b => some (Value.bool b)) hg9) (OpT_fieldC rfl rfl rfl rfl fldF40x0) ?_
       rintro _ rfl
       refine Tops_yes rfl rfl (congrArg (fun b => some (Value.bool b)) hg9) (OpT_loadC rfl rfl rfl rfl tyF30 (i := 3) rfl rfl) ?_
       rintro _ rfl
       refine Tops_yes rfl rfl (congrArg (fun b => some (Value.bool b)) hg9) (OpT_lenS rfl rfl rfl rfl Try.underlying30 (i := 4) rfl) ?_
       rintro _ rfl
       refine Tops_yes rfl rfl (congrArg (fun b => some (Value.bool b)) hg9) (OpT_bin rfl rfl rfl rfl rfl (bin_gtr_i (a := len put2.1.Wait) (b := (4096 : Int)))) ?_
       rintro _ rfl
       refine Tops_step rfl (OpT_pickF rfl rfl rfl (congrArg (fun b => some (Value.bool b)) hg9) rfl) ?_
       refine Tops_step rfl (OpT_move rfl rfl rfl rfl) ?_
       obtain ⟨hg10, h⟩ := chk_e h
       replace hg10 := not_t hg10
       refine Tops_yes rfl rfl (congrArg (fun b => some (Value.bool b)) hg10) (OpT_move rfl rfl rfl rfl) ?_
       rintro _ rfl
       refine Tops_yes rfl rfl (congrArg (fun b => some (Value.bool b)) hg10) (OpT_move rfl rfl rfl rfl) ?_
       rintro _ rfl
       refine Tops_yes rfl rfl (congrArg (fun b => some (Value.bool b)) hg10) (OpT_move rfl rfl rfl rfl) ?_
       rintro _ rfl
       obtain ⟨y4, hx9, h⟩ := ob_e h
       refine Tops_yes rfl rfl (congrArg (fun b => some (Value.bool b)) hg10) (OpT_idxS rfl rfl rfl rfl rfl slF55 (i := 0) rfl hx9) ?_
       rintro _ ⟨p4, rfl⟩
       refine Tops_yes rfl rfl (congrArg (fun b => some (Value.bool b)) hg10) (OpT_loadPS rfl rfl rfl rfl tyF30 (i := 7) rfl) ?_
       rintro _ ⟨v11, rfl⟩
       refine Tops_yes rfl rfl (congrArg (fun b => some (Value.bool b)) hg10) (OpT_lenS rfl rfl rfl rfl Try.underlying30 (i := 8) rfl) ?_
       rintro _ rfl
       refine Tops_yes rfl rfl (congrArg (fun b => some (Value.bool b)) hg10) (OpT_bin rfl rfl rfl rfl rfl (bin_lss_i (a := put2.2) (b := len y4))) ?_
       rintro _ rfl
       refine Tops_yes rfl rfl (congrArg (fun b => some (Value.bool b)) hg10) (OpT_move rfl rfl rfl rfl) ?_
       rintro _ rfl
       rcases Bool.eq_false_or_eq_true (decide (put2.2 < (len y4))) with hg11 | hg11
       ·replace h := br_t hg11 h
        refine Tops_yes rfl rfl (congrArg (fun b => some (Value.bool b)) hg11) (OpT_fieldC rfl rfl rfl rfl fldF40x0) ?_
        rintro _ rfl
        refine Tops_yes rfl rfl (congrArg (fun b => some (Value.bool b)) hg11) (OpT_loadC rfl rfl rfl rfl tyF30 (i := 3) rfl rfl) ?_
        rintro _ rfl
        refine Tops_yes rfl rfl (congrArg (fun b => some (Value.bool b)) hg11) (OpT_lenS rfl rfl rfl rfl Try.underlying30 (i := 4) rfl) ?_
        rintro _ rfl
        refine Tops_yes rfl rfl (congrArg (fun b => some (Value.bool b)) hg11) (OpT_bin rfl rfl rfl rfl rfl (bin_neq_i (a := len put2.1.Wait) (b := (4096 : Int)))) ?_
        rintro _ rfl
        refine Tops_yes rfl rfl (congrArg (fun b => some (Value.bool b)) hg10) (OpT_pickT rfl rfl rfl (congrArg (fun b => some (Value.bool b)) hg11) rfl) ?_
        rintro _ rfl
        refine Tops_step rfl (OpT_pickF rfl rfl rfl (congrArg (fun b => some (Value.bool b)) hg10) rfl) ?_
        refine Tops_nil (Tk_wkS (fr' := [(0, some (vparts1)), (1, some (vsizes1)), (5, some (.pointer (some ⟨b1, 0, none⟩))), (7, some (.pointer (some ⟨b2, 0, none⟩))), (8, some (vS put1)), (9, some (vS got1)), (10, some (vI i1)), (11, some (.pointer (some ⟨b3, 0, none⟩))), (12, some (vI put2.2)), (101, some (vB ((len put2.1.Wait) != (4096 : Int))))]) (own' := [some (cellsR b1 76 [v3, v4]), some (rowsX u8S true v4 vs1 rows1 none), some (cellsR b2 40 [v5]), some (cellsR b3 40 [v9])]) (shr' := [Fact.sl (Shape.slice u8S) vparts1 parts, Fact.sl iS vsizes1 sizes, Fact.sl RegionS v3 mem1.l, Fact.sl u8S v5 Wait1, Fact.sl u8S v9 put2.1.Wait]) [0, 1, 5, 7, 8, 9, 10, 11, 12, 101] [0, 1, 2, 3] [0, 1, 2, 3, 4] rfl rfl rfl rfl ?_)
        obtain ⟨hg12, h⟩ := chk_e h
        replace hg12 := not_t hg12
        refine Tk_condF (congrArg (fun b => some (Value.bool b)) hg12) ?_
        refine Tk_skip (Tk_seq (Tk_region (Tops_step rfl (OpT_move rfl rfl rfl rfl) ?_)))
        refine Tops_step rfl (OpT_move rfl rfl rfl rfl) ?_
        refine Tops_step rfl (OpT_move rfl rfl rfl rfl) ?_
        obtain ⟨y5, hx10, h⟩ := ob_e h
        refine Tops_ex rfl (OpT_idxS rfl rfl rfl rfl rfl slF55 (i := 0) rfl hx10) fun p5 => ?_
        refine Tops_ex rfl (OpT_loadPS rfl rfl rfl rfl tyF30 (i := 5) rfl) fun v12 => ?_
        refine Tops_step rfl (OpT_move rfl rfl rfl rfl) ?_
        obtain ⟨hc1, h⟩ := chk_e h
        refine Tops_ex rfl (OpT_sliceH (m := put2.2) rfl rfl rfl rfl rfl slF30 (i := 6) rfl hc1) fun v13 => ?_
        refine Tops_step rfl (OpT_strS rfl rfl rfl rfl Try.underlying30 Try.underlying5 Try.underlying9 (i := 7) rfl) ?_
        obtain ⟨hc2, h⟩ := chk_e h
        refine Tops_step rfl (OpT_bin rfl rfl rfl rfl rfl (bin_add_s (a := put1) (b := sub y5 (0 : Int) put2.2) hc2)) ?_
        refine Tops_step rfl (OpT_assign rfl rfl rfl rfl) ?_
        refine Tops_nil (Tk_wkS (fr' := [(0, some (vparts1)), (1, some (vsizes1)), (5, some (.pointer (some ⟨b1, 0, none⟩))), (7, some (.pointer (some ⟨b2, 0, none⟩))), (8, some (vS (put1 ++ (sub y5 (0 : Int) put2.2)))), (9, some (vS got1)), (10, some (vI i1)), (11, some (.pointer (some ⟨b3, 0, none⟩)))]) (own' := [some (cellsR b1 76 [v3, v4]), some (rowsX u8S true v4 vs1 rows1 none), some (cellsR b2 40 [v5]), some (cellsR b3 40 [v9])]) (shr' := [Fact.sl (Shape.slice u8S) vparts1 parts, Fact.sl iS vsizes1 sizes, Fact.sl RegionS v3 mem1.l, Fact.sl u8S v5 Wait1, Fact.sl u8S v9 put2.1.Wait]) [0, 1, 5, 7, 8, 9, 10, 11] [0, 1, 2, 3] [0, 1, 2, 3, 4] rfl rfl rfl rfl ?_)
        refine Tk_seq (Tk_region (Tops_step rfl (OpT_assign rfl rfl rfl rfl) ?_))
        refine Tops_nil (Tk_seq (Tk_seq (Tk_region (Tops_step rfl (OpT_assign rfl rfl rfl rfl) ?_))))
        refine Tops_nil (Tk_block (Tk_nilrow iS ?_))
        refine Tk_loopS (σ := (List UInt8) × (List UInt8) × (List Int) × Int × Value × Value × Value) [0, 1, 5, 7, 8, 9, 10, 11, 13, 14] [0, 1, 2, 3, 4] [0, 1, 2, 3, 4] (fun s => ⟨[(0, some (vparts1)), (1, some (vsizes1)), (5, some (.pointer (some ⟨b1, 0, none⟩))), (7, some (.pointer (some ⟨b2, 0, none⟩))), (8, some (vS (put1 ++ (sub y5 (0 : Int) put2.2)))), (9, some (vS got1)), (10, some (vI i1)), (11, some (.pointer (some ⟨b3, 0, none⟩))), (13, some (s.2.2.2.2.2.2)), (14, some (vI s.2.2.2.1))], [some (cellsR b1 76 [v3, v4]), some (rowsX u8S true v4 vs1 rows1 none), some (cellsR b2 40 [s.2.2.2.2.1]), some (cellsR b3 40 [s.2.2.2.2.2.1]), some (rowS iS s.2.2.2.2.2.2 s.2.2.1)], [Fact.sl (Shape.slice u8S) vparts1 parts, Fact.sl iS vsizes1 sizes, Fact.sl RegionS v3 mem1.l, Fact.sl u8S s.2.2.2.2.1 s.1, Fact.sl u8S s.2.2.2.2.2.1 s.2.1]⟩) (fun nf2 s => law28zConsStreamsL2 sizes mem1 rows1 put1 got1 i1 (law28zConsStreamsL1 parts sizes mem1 nf1) put2 y5 nf2 s.1 s.2.1 s.2.2.1 s.2.2.2.1 = some true) fuel (Wait1, put2.1.Wait, [], (0 : Int), v5, v9, (.slice none 0 0)) h rfl rfl rfl rfl rfl (fun s h => by cases h) ?_
        rintro nf2 ⟨Wait2, Wait3, l1, k1, v14, v15, v16⟩ h
        replace h : law28zConsStreamsL2B sizes mem1 rows1 put1 got1 i1 (law28zConsStreamsL1 parts sizes mem1 nf1) put2 y5 (law28zConsStreamsL2 sizes mem1 rows1 put1 got1 i1 (law28zConsStreamsL1 parts sizes mem1 nf1) put2 y5 nf2) Wait2 Wait3 l1 k1 = some true := h
        unfold law28zConsStreamsL2B at h
        refine Tk_seq (Tk_seq (Tk_region (Tops_step rfl (OpT_move rfl rfl rfl rfl) ?_)))
        refine Tops_step rfl (OpT_move rfl rfl rfl rfl) ?_
        refine Tops_step rfl (OpT_lenS rfl rfl rfl rfl Try.underlying31 (i := 1) rfl) ?_
        refine Tops_step rfl (OpT_bin rfl rfl rfl rfl rfl (bin_lss_i (a := k1) (b := len sizes))) ?_
        refine Tops_nil (Tk_wkS (fr' := [(0, some (vparts1)), (1, some (vsizes1)), (5, some (.pointer (some ⟨b1, 0, none⟩))), (7, some (.pointer (some ⟨b2, 0, none⟩))), (8, some (vS (put1 ++ (sub y5 (0 : Int) put2.2)))), (9, some (vS got1)), (10, some (vI i1)), (11, some (.pointer (some ⟨b3, 0, none⟩))), (13, some (v16)), (14, some (vI k1)), (114, some (vB (decide (k1 < (len sizes)))))]) (own' := [some (cellsR b1 76 [v3, v4]), some (rowsX u8S true v4 vs1 rows1 none), some (cellsR b2 40 [v14]), some (cellsR b3 40 [v15]), some (rowS iS v16 l1)]) (shr' := [Fact.sl (Shape.slice u8S) vparts1 parts, Fact.sl iS vsizes1 sizes, Fact.sl RegionS v3 mem1.l, Fact.sl u8S v14 Wait2, Fact.sl u8S v15 Wait3]) [0, 1, 5, 7, 8, 9, 10, 11, 13, 14, 114] [0, 1, 2, 3, 4] [0, 1, 2, 3, 4] rfl rfl rfl rfl ?_)
        rcases Bool.eq_false_or_eq_true (decide (k1 < (len sizes))) with hg13 | hg13
        ·replace h := br_t hg13 h
         refine Tk_condT (congrArg (fun b => some (Value.bool b)) hg13) ?_
         refine Tk_skip (Tk_seq (Tk_block (Tk_region (Tops_step rfl (OpT_move rfl rfl rfl rfl) ?_))))
         refine Tops_step rfl (OpT_move rfl rfl rfl rfl) ?_
         refine Tops_step rfl (OpT_move rfl rfl rfl rfl) ?_
         obtain ⟨y6, hx11, h⟩ := ob_e h
         refine Tops_ex rfl (OpT_idxS rfl rfl rfl rfl rfl slF31 (i := 1) rfl hx11) fun p6 => ?_
         refine Tops_step rfl (OpT_loadP rfl rfl rfl rfl tyF3 (i := 5) rfl rfl) ?_
         refine Tops_step rfl (OpT_move rfl rfl rfl rfl) ?_
         refine Tops_step rfl (OpT_bin rfl rfl rfl rfl rfl (bin_add_i (a := y6) (b := i1))) ?_
         obtain ⟨pick1, hx12, h⟩ := ob_e h
         refine Tops_exP rfl (OpT_call (w_kit_Pick hx12) [] [] rfl rfl rfl rfl rfl callee9 rfl rfl rfl rfl) ?_
         rintro _ ⟨_, _, _, ⟨rfl, rfl, rfl⟩, rfl⟩
         refine Tops_step rfl (OpT_bin rfl rfl rfl rfl rfl (bin_add_i (a := (1 : Int)) (b := pick1))) ?_
         refine Tops_ex rfl (OpT_buildSlice (S := iS) (xs := [wi ((1 : Int) + pick1)]) (css := [[vI (wi ((1 : Int) + pick1))]]) (cs := [vI (wi ((1 : Int) + pick1))]) (e := 3) rfl rfl rfl rfl (bldF slF31 (by decide) (by kernel_rfl)) rfl rfl rfl rfl (rel_plainD (S := iS) (xs := [wi ((1 : Int) + pick1)]) (css := [[vI (wi ((1 : Int) + pick1))]]) rfl rfl)) fun v17 => ?_
         obtain ⟨hc3, h⟩ := chk_e h
         refine Tops_ex rfl (OpT_appendB (S := iS) rfl rfl rfl rfl rfl rfl slF31 (i := 4) (j := 5) rfl rfl hc3) fun v18 => ?_
         refine Tops_step rfl (OpT_assign rfl rfl rfl rfl) ?_
         refine Tops_nil (Tk_wkS (fr' := [(0, some (vparts1)), (1, some (vsizes1)), (5, some (.pointer (some ⟨b1, 0, none⟩))), (7, some (.pointer (some ⟨b2, 0, none⟩))), (8, some (vS (put1 ++ (sub y5 (0 : Int) put2.2)))), (9, some (vS got1)), (10, some (vI i1)), (11, some (.pointer (some ⟨b3, 0, none⟩))), (13, some (v18)), (14, some (vI k1))]) (own' := [some (cellsR b1 76 [v3, v4]), some (rowsX u8S true v4 vs1 rows1 none), some (cellsR b2 40 [v14]), some (cellsR b3 40 [v15]), some (rowS iS v18 (l1 ++ [wi ((1 : Int) + pick1)]))]) (shr' := [Fact.sl (Shape.slice u8S) vparts1 parts, Fact.sl iS vsizes1 sizes, Fact.sl RegionS v3 mem1.l, Fact.sl u8S v14 Wait2, Fact.sl u8S v15 Wait3]) [0, 1, 5, 7, 8, 9, 10, 11, 13, 14] [0, 1, 2, 3, 4] [0, 1, 2, 3, 4] rfl rfl rfl rfl ?_)
         refine Tk_blk (Tk_region (Tops_step rfl (OpT_move rfl rfl rfl rfl) ?_))
         refine Tops_step rfl (OpT_bin rfl rfl rfl rfl rfl (bin_add_i (a := k1) (b := (1 : Int)))) ?_
         refine Tops_step rfl (OpT_assign rfl rfl rfl rfl) ?_
         refine Tops_nil (Tk_wkS (fr' := [(0, some (vparts1)), (1, some (vsizes1)), (5, some (.pointer (some ⟨b1, 0, none⟩))), (7, some (.pointer (some ⟨b2, 0, none⟩))), (8, some (vS (put1 ++ (sub y5 (0 : Int) put2.2)))), (9, some (vS got1)), (10, some (vI i1)), (11, some (.pointer (some ⟨b3, 0, none⟩))), (13, some (v18)), (14, some (vI (wi (k1 + (1 : Int)))))]) (own' := [some (cellsR b1 76 [v3, v4]), some (rowsX u8S true v4 vs1 rows1 none), some (cellsR b2 40 [v14]), some (cellsR b3 40 [v15]), some (rowS iS v18 (l1 ++ [wi ((1 : Int) + pick1)]))]) (shr' := [Fact.sl (Shape.slice u8S) vparts1 parts, Fact.sl iS vsizes1 sizes, Fact.sl RegionS v3 mem1.l, Fact.sl u8S v14 Wait2, Fact.sl u8S v15 Wait3]) [0, 1, 5, 7, 8, 9, 10, 11, 13, 14] [0, 1, 2, 3, 4] [0, 1, 2, 3, 4] rfl rfl rfl rfl ?_)
         exact Tk_backS (Wait2, Wait3, l1 ++ [wi ((1 : Int) + pick1)], wi (k1 + (1 : Int)), v14, v15, v18) h [0, 1, 5, 7, 8, 9, 10, 11, 13, 14] [0, 1, 2, 3, 4] [0, 1, 2, 3, 4] rfl rfl rfl rfl rfl
        ·replace h := br_f hg13 h
         refine Tk_condF (congrArg (fun b => some (Value.bool b)) hg13) ?_
         refine Tk_exit _ rfl ?_
         refine Tk_seq (Tk_region (Tops_step rfl (OpT_move rfl rfl rfl rfl) ?_))
         refine Tops_retire (i := 4) rfl ?_
         obtain ⟨rooms1, hx13, h⟩ := ob_e h
         refine Tops_exP rfl (OpT_call (w_law28zrooms hx13) [] [5] rfl rfl rfl rfl rfl callee17 rfl rfl rfl rfl) ?_
         rintro _ ⟨v19, _, _, ⟨_, rfl, rfl, rfl⟩, rfl⟩
         refine Tops_step rfl (OpT_assign rfl rfl rfl rfl) ?_
         refine Tops_nil (Tk_wkS (fr' := [(0, some (vparts1)), (1, some (vsizes1)), (5, some (.pointer (some ⟨b1, 0, none⟩))), (7, some (.pointer (some ⟨b2, 0, none⟩))), (8, some (vS (put1 ++ (sub y5 (0 : Int) put2.2)))), (9, some (vS got1)), (10, some (vI i1)), (11, some (.pointer (some ⟨b3, 0, none⟩))), (15, some (v19))]) (own' := [some (cellsR b1 76 [v3, v4]), some (rowsX u8S true v4 vs1 rows1 none), some (cellsR b2 40 [v14]), some (cellsR b3 40 [v15]), some (rowS (Shape.slice SegS) v19 rooms1)]) (shr' := [Fact.sl (Shape.slice u8S) vparts1 parts, Fact.sl iS vsizes1 sizes, Fact.sl RegionS v3 mem1.l, Fact.sl u8S v14 Wait2, Fact.sl u8S v15 Wait3]) [0, 1, 5, 7, 8, 9, 10, 11, 15] [0, 1, 2, 3, 5] [0, 1, 2, 3, 4] rfl rfl rfl rfl ?_)
         refine Tk_seq (Tk_region (Tops_step rfl (OpT_move rfl rfl rfl rfl) ?_))
         refine Tops_step rfl (OpT_loadCA (vs := [v15]) rfl rfl rfl rfl tyF40 (i := 3) rfl rfl rfl) ?_
         refine Tops_step rfl (OpT_move rfl rfl rfl rfl) ?_
         refine Tops_retire (i := 4) rfl ?_
         obtain ⟨give1, hx14, h⟩ := ob_e h
         refine Tops_exP rfl (OpT_callP [5, 6, 2, 3, 4, 7] (w_cons_Give hx14) [0, 1] [2, 4, 5] rfl rfl rfl rfl rfl callee15 rfl rfl rfl rfl rfl) ?_
         rintro _ ⟨_, _, _, ⟨v20, v21, rfl, rfl, rfl⟩, rfl⟩
         refine Tops_step rfl (OpT_move rfl rfl rfl rfl) ?_
         refine Tops_step rfl (OpT_extract rfl rfl rfl rfl rfl) ?_
         refine Tops_step rfl (OpT_extract rfl rfl rfl rfl rfl) ?_
         refine Tops_step rfl (OpT_extract rfl rfl rfl rfl rfl) ?_
         refine Tops_ex rfl (OpT_alloc rfl rfl rfl tyZ40) fun b4 => ?_
         refine Tops_step rfl (OpT_storeA1 (fun z0 => [z0]) (cs' := [v20]) rfl rfl rfl rfl tyF40 (i := 6) rfl (is_row (i := 5) rfl) (fun _ _ _ => rfl) rfl rfl rfl) ?_
         refine Tops_step rfl (OpT_assign rfl rfl rfl rfl) ?_
         refine Tops_step rfl (OpT_assign rfl rfl rfl rfl) ?_
         refine Tops_nil (Tk_wkS (fr' := [(0, some (vparts1)), (1, some (vsizes1)), (5, some (.pointer (some ⟨b1, 0, none⟩))), (7, some (.pointer (some ⟨b2, 0, none⟩))), (8, some (vS (put1 ++ (sub y5 (0 : Int) put2.2)))), (9, some (vS got1)), (10, some (vI i1)), (15, some (v19)), (16, some (.pointer (some ⟨b4, 0, none⟩))), (17, some (v21)), (18, some (vI give1.2.2.1))]) (own' := [some (cellsR b1 76 [v3, v4]), some (rowsX u8S true v4 vs1 give1.2.2.2 none), some (cellsR b2 40 [v14]), some (rowS u8S v20 give1.1.Wait), some (cellsR b4 40 [v20])]) (shr' := [Fact.sl (Shape.slice u8S) vparts1 parts, Fact.sl iS vsizes1 sizes, Fact.sl RegionS v3 mem1.l, Fact.sl u8S v14 Wait2, Fact.sl (Shape.slice SegS) v19 rooms1, Fact.sl u32S v21 give1.2.1]) [0, 1, 5, 7, 8, 9, 10, 15, 16, 17, 18] [0, 1, 2, 5, 6] [0, 1, 2, 3, 5, 6] rfl rfl rfl rfl ?_)
         refine Tk_seq (Tk_seq (Tk_region (Tops_step rfl (OpT_move rfl rfl rfl rfl) ?_)))
         refine Tops_step rfl (OpT_bin rfl rfl rfl rfl rfl (bin_neq_i (a := give1.2.2.1) (b := (0 : Int)))) ?_
         refine Tops_step rfl (OpT_move rfl rfl rfl rfl) ?_
         obtain ⟨hg14, h⟩ := chk_e h
         replace hg14 := not_t hg14
         refine Tops_yes rfl rfl (congrArg (fun b => some (Value.bool b)) hg14) (OpT_move rfl rfl rfl rfl) ?_
         rintro _ rfl
         refine Tops_yes rfl rfl (congrArg (fun b => some (Value.bool b)) hg14) (OpT_lenS rfl rfl rfl rfl Try.underlying41 (i := 5) rfl) ?_
         rintro _ rfl
         refine Tops_yes rfl rfl (congrArg (fun b => some (Value.bool b)) hg14) (OpT_move rfl rfl rfl rfl) ?_
         rintro _ rfl
         refine Tops_yes rfl rfl (congrArg (fun b => some (Value.bool b)) hg14) (OpT_lenS rfl rfl rfl rfl Try.underlying45 (i := 4) rfl) ?_
         rintro _ rfl
         refine Tops_yes rfl rfl (congrArg (fun b => some (Value.bool b)) hg14) (OpT_bin rfl rfl rfl rfl rfl (bin_gtr_i (a := len give1.2.1) (b := len rooms1))) ?_
         rintro _ rfl
         refine Tops_step rfl (OpT_pickF rfl rfl rfl (congrArg (fun b => some (Value.bool b)) hg14) rfl) ?_
         refine Tops_nil (Tk_wkS (fr' := [(0, some (vparts1)), (1, some (vsizes1)), (5, some (.pointer (some ⟨b1, 0, none⟩))), (7, some (.pointer (some ⟨b2, 0, none⟩))), (8, some (vS (put1 ++ (sub y5 (0 : Int) put2.2)))), (9, some (vS got1)), (10, some (vI i1)), (15, some (v19)), (16, some (.pointer (some ⟨b4, 0, none⟩))), (17, some (v21)), (146, some (vB (decide ((len give1.2.1) > (len rooms1)))))]) (own' := [some (cellsR b1 76 [v3, v4]), some (rowsX u8S true v4 vs1 give1.2.2.2 none), some (cellsR b2 40 [v14]), some (rowS u8S v20 give1.1.Wait), some (cellsR b4 40 [v20])]) (shr' := [Fact.sl (Shape.slice u8S) vparts1 parts, Fact.sl iS vsizes1 sizes, Fact.sl RegionS v3 mem1.l, Fact.sl u8S v14 Wait2, Fact.sl (Shape.slice SegS) v19 rooms1, Fact.sl u32S v21 give1.2.1]) [0, 1, 5, 7, 8, 9, 10, 15, 16, 17, 146] [0, 1, 2, 3, 4] [0, 1, 2, 3, 4, 5] rfl rfl rfl rfl ?_)
         obtain ⟨hg15, h⟩ := chk_e h
         replace hg15 := not_t hg15
         refine Tk_condF (congrArg (fun b => some (Value.bool b)) hg15) ?_
         refine Tk_skip (Tk_seq (Tk_region (Tops_step rfl (OpT_move rfl rfl rfl rfl) ?_)))
         refine Tops_step rfl (OpT_move rfl rfl rfl rfl) ?_
         refine Tops_step rfl (OpT_move rfl rfl rfl rfl) ?_
         refine Tops_step rfl (OpT_lenS rfl rfl rfl rfl Try.underlying41 (i := 5) rfl) ?_
         obtain ⟨hc4, h⟩ := chk_e h
         refine Tops_ex rfl (OpT_sliceH (m := len give1.2.1) rfl rfl rfl rfl rfl slF45 (i := 4) rfl hc4) fun v22 => ?_
         refine Tops_step rfl (OpT_move rfl rfl rfl rfl) ?_
         obtain ⟨join1, hx15, h⟩ := ob_e h
         refine Tops_exP rfl (OpT_callP [5, 6, 2, 3, 4, 7] (w_cons_Join hx15) [0, 1] [2, 6, 5] rfl rfl rfl rfl rfl callee22 rfl rfl rfl rfl rfl) ?_
         rintro _ ⟨_, _, _, ⟨v23, rfl, rfl, rfl⟩, rfl⟩
         refine Tops_step rfl (OpT_move rfl rfl rfl rfl) ?_
         refine Tops_step rfl (OpT_extract rfl rfl rfl rfl rfl) ?_
         refine Tops_step rfl (OpT_extract rfl rfl rfl rfl rfl) ?_
         refine Tops_step rfl (OpT_assign rfl rfl rfl rfl) ?_
         refine Tops_step rfl (OpT_assign rfl rfl rfl rfl) ?_
         refine Tops_nil (Tk_wkS (fr' := [(0, some (vparts1)), (1, some (vsizes1)), (5, some (.pointer (some ⟨b1, 0, none⟩))), (7, some (.pointer (some ⟨b2, 0, none⟩))), (8, some (vS (put1 ++ (sub y5 (0 : Int) put2.2)))), (9, some (vS got1)), (10, some (vI i1)), (16, some (.pointer (some ⟨b4, 0, none⟩))), (19, some (v23)), (18, some (vI join1.2))]) (own' := [some (cellsR b1 76 [v3, v4]), some (rowsX u8S true v4 vs1 give1.2.2.2 none), some (cellsR b2 40 [v14]), some (rowS u8S v20 give1.1.Wait), some (cellsR b4 40 [v20]), some (rowS u8S v23 join1.1)]) (shr' := [Fact.sl (Shape.slice u8S) vparts1 parts, Fact.sl iS vsizes1 sizes, Fact.sl RegionS v3 mem1.l, Fact.sl u8S v14 Wait2]) [0, 1, 5, 7, 8, 9, 10, 16, 19, 18] [0, 1, 2, 3, 4, 5] [0, 1, 2, 3] rfl rfl rfl rfl ?_)
         refine Tk_seq (Tk_seq (Tk_region (Tops_step rfl (OpT_move rfl rfl rfl rfl) ?_)))
         refine Tops_step rfl (OpT_bin rfl rfl rfl rfl rfl (bin_neq_i (a := join1.2) (b := (0 : Int)))) ?_
         refine Tops_nil (Tk_wkS (fr' := [(0, some (vparts1)), (1, some (vsizes1)), (5, some (.pointer (some ⟨b1, 0, none⟩))), (7, some (.pointer (some ⟨b2, 0, none⟩))), (8, some (vS (put1 ++ (sub y5 (0 : Int) put2.2)))), (9, some (vS got1)), (10, some (vI i1)), (16, some (.pointer (some ⟨b4, 0, none⟩))), (19, some (v23)), (158, some (vB (join1.2 != (0 : Int))))]) (own' := [some (cellsR b1 76 [v3, v4]), some (rowsX u8S true v4 vs1 give1.2.2.2 none), some (cellsR b2 40 [v14]), some (rowS u8S v20 give1.1.Wait), some (cellsR b4 40 [v20]), some (rowS u8S v23 join1.1)]) (shr' := [Fact.sl (Shape.slice u8S) vparts1 parts, Fact.sl iS vsizes1 sizes, Fact.sl RegionS v3 mem1.l, Fact.sl u8S v14 Wait2]) [0, 1, 5, 7, 8, 9, 10, 16, 19, 158] [0, 1, 2, 3, 4, 5] [0, 1, 2, 3] rfl rfl rfl rfl ?_)
         obtain ⟨hg16, h⟩ := chk_e h
         replace hg16 := not_t hg16
         refine Tk_condF (congrArg (fun b => some (Value.bool b)) hg16) ?_
         refine Tk_skip (Tk_seq (Tk_region (Tops_step rfl (OpT_move rfl rfl rfl rfl) ?_)))
         refine Tops_step rfl (OpT_move rfl rfl rfl rfl) ?_
         refine Tops_retire (i := 5) rfl ?_
         refine Tops_step rfl (OpT_strS rfl rfl rfl rfl Try.underlying30 Try.underlying5 Try.underlying9 (i := 4) rfl) ?_
         obtain ⟨hc5, h⟩ := chk_e h
         refine Tops_step rfl (OpT_bin rfl rfl rfl rfl rfl (bin_add_s (a := got1) (b := join1.1) hc5)) ?_
         refine Tops_step rfl (OpT_assign rfl rfl rfl rfl) ?_
         refine Tops_nil (Tk_wkS (fr' := [(0, some (vparts1)), (1, some (vsizes1)), (5, some (.pointer (some ⟨b1, 0, none⟩))), (7, some (.pointer (some ⟨b2, 0, none⟩))), (8, some (vS (put1 ++ (sub y5 (0 : Int) put2.2)))), (9, some (vS (got1 ++ join1.1))), (10, some (vI i1)), (16, some (.pointer (some ⟨b4, 0, none⟩)))]) (own' := [some (cellsR b1 76 [v3, v4]), some (rowsX u8S true v4 vs1 give1.2.2.2 none), some (cellsR b2 40 [v14]), some (rowS u8S v20 give1.1.Wait), some (cellsR b4 40 [v20])]) (shr' := [Fact.sl (Shape.slice u8S) vparts1 parts, Fact.sl iS vsizes1 sizes, Fact.sl RegionS v3 mem1.l, Fact.sl u8S v14 Wait2]) [0, 1, 5, 7, 8, 9, 10, 16] [0, 1, 2, 3, 4] [0, 1, 2, 3] rfl rfl rfl rfl ?_)
         refine Tk_region (Tops_step rfl (OpT_loadCA (vs := [v20]) rfl rfl rfl rfl tyF40 (i := 4) rfl rfl rfl) ?_)
         refine Tops_step rfl (OpT_storeA1 (fun z0 => [z0]) (cs' := [v20]) rfl rfl rfl rfl tyF40 (i := 2) rfl (is_row (i := 3) rfl) (fun _ _ _ => rfl) rfl rfl rfl) ?_
         refine Tops_nil (Tk_wkS (fr' := [(0, some (vparts1)), (1, some (vsizes1)), (5, some (.pointer (some ⟨b1, 0, none⟩))), (7, some (.pointer (some ⟨b2, 0, none⟩))), (8, some (vS (put1 ++ (sub y5 (0 : Int) put2.2)))), (9, some (vS (got1 ++ join1.1))), (10, some (vI i1))]) (own' := [some (cellsR b1 76 [v3, v4]), some (rowsX u8S true v4 vs1 give1.2.2.2 none), some (cellsR b2 40 [v20]), some (rowS u8S v20 give1.1.Wait)]) (shr' := [Fact.sl (Shape.slice u8S) vparts1 parts, Fact.sl iS vsizes1 sizes, Fact.sl RegionS v3 mem1.l]) [0, 1, 5, 7, 8, 9, 10] [0, 1, 2, 3] [0, 1, 2] rfl rfl rfl rfl ?_)
         refine Tk_blk (Tk_region (Tops_step rfl (OpT_move rfl rfl rfl rfl) ?_))
         refine Tops_step rfl (OpT_bin rfl rfl rfl rfl rfl (bin_add_i (a := i1) (b := (1 : Int)))) ?_
         refine Tops_step rfl (OpT_assign rfl rfl rfl rfl) ?_
         refine Tops_nil (Tk_wkS (fr' := [(0, some (vparts1)), (1, some (vsizes1)), (5, some (.pointer (some ⟨b1, 0, none⟩))), (7, some (.pointer (some ⟨b2, 0, none⟩))), (8, some (vS (put1 ++ (sub y5 (0 : Int) put2.2)))), (9, some (vS (got1 ++ join1.1))), (10, some (vI (wi (i1 + (1 : Int)))))]) (own' := [some (cellsR b1 76 [v3, v4]), some (rowsX u8S true v4 vs1 give1.2.2.2 none), some (cellsR b2 40 [v20]), some (rowS u8S v20 give1.1.Wait)]) (shr' := [Fact.sl (Shape.slice u8S) vparts1 parts, Fact.sl iS vsizes1 sizes, Fact.sl RegionS v3 mem1.l]) [0, 1, 5, 7, 8, 9, 10] [0, 1, 2, 3] [0, 1, 2] rfl rfl rfl rfl ?_)
         refine Tk_retire (i := 3) rfl ?_
         exact Tk_backS (give1.2.2.2, give1.1.Wait, put1 ++ (sub y5 (0 : Int) put2.2), got1 ++ join1.1, wi (i1 + (1 : Int)), v20) h [0, 1, 5, 7, 8, 9, 10] [0, 1, 2] [0, 1, 2, 3] rfl rfl rfl rfl rfl
       ·replace h := br_f hg11 h
        refine Tops_no rfl rfl (congrArg (fun b => some (Value.bool b)) hg11) rfl rfl ?_
        refine Tops_no rfl rfl (congrArg (fun b => some (Value.bool b)) hg11) rfl rfl ?_
        refine Tops_no rfl rfl (congrArg (fun b => some (Value.bool b)) hg11) rfl rfl ?_
        refine Tops_no rfl rfl (congrArg (fun b => some (Value.bool b)) hg11) rfl rfl ?_
        refine Tops_yes rfl rfl (congrArg (fun b => some (Value.bool b)) hg10) (OpT_pickF rfl rfl rfl (congrArg (fun b => some (Value.bool b)) hg11) rfl) ?_
        rintro _ rfl
        refine Tops_step rfl (OpT_pickF rfl rfl rfl (congrArg (fun b => some (Value.bool b)) hg10) rfl) ?_
        refine Tops_nil (Tk_wkS (fr' := [(0, some (vparts1)), (1, some (vsizes1)), (5, some (.pointer (some ⟨b1, 0, none⟩))), (7, some (.pointer (some ⟨b2, 0, none⟩))), (8, some (vS put1)), (9, some (vS got1)), (10, some (vI i1)), (11, some (.pointer (some ⟨b3, 0, none⟩))), (12, some (vI put2.2)), (101, some (vB false))]) (own' := [some (cellsR b1 76 [v3, v4]), some (rowsX u8S true v4 vs1 rows1 none), some (cellsR b2 40 [v5]), some (cellsR b3 40 [v9])]) (shr' := [Fact.sl (Shape.slice u8S) vparts1 parts, Fact.sl iS vsizes1 sizes, Fact.sl RegionS v3 mem1.l, Fact.sl u8S v5 Wait1, Fact.sl u8S v9 put2.1.Wait]) [0, 1, 5, 7, 8, 9, 10, 11, 12, 101] [0, 1, 2, 3] [0, 1, 2, 3, 4] rfl rfl rfl rfl ?_)
        refine Tk_condF rfl ?_
        refine Tk_skip (Tk_seq (Tk_region (Tops_step rfl (OpT_move rfl rfl rfl rfl) ?_)))
        refine Tops_step rfl (OpT_move rfl rfl rfl rfl) ?_
        refine Tops_step rfl (OpT_move rfl rfl rfl rfl) ?_
        obtain ⟨y7, hx16, h⟩ := ob_e h
        refine Tops_ex rfl (OpT_idxS rfl rfl rfl rfl rfl slF55 (i := 0) rfl hx16) fun p7 => ?_
        refine Tops_ex rfl (OpT_loadPS rfl rfl rfl rfl tyF30 (i := 5) rfl) fun v24 => ?_
        refine Tops_step rfl (OpT_move rfl rfl rfl rfl) ?_
        obtain ⟨hc6, h⟩ := chk_e h
        refine Tops_ex rfl (OpT_sliceH (m := put2.2) rfl rfl rfl rfl rfl slF30 (i := 6) rfl hc6) fun v25 => ?_
        refine Tops_step rfl (OpT_strS rfl rfl rfl rfl Try.underlying30 Try.underlying5 Try.underlying9 (i := 7) rfl) ?_
        obtain ⟨hc7, h⟩ := chk_e h
        refine Tops_step rfl (OpT_bin rfl rfl rfl rfl rfl (bin_add_s (a := put1) (b := sub y7 (0 : Int) put2.2) hc7)) ?_
        refine Tops_step rfl (OpT_assign rfl rfl rfl rfl) ?_
        refine Tops_nil (Tk_wkS (fr' := [(0, some (vparts1)), (1, some (vsizes1)), (5, some (.pointer (some ⟨b1, 0, none⟩))), (7, some (.pointer (some ⟨b2, 0, none⟩))), (8, some (vS (put1 ++ (sub y7 (0 : Int) put2.2)))), (9, some (vS got1)), (10, some (vI i1)), (11, some (.pointer (some ⟨b3, 0, none⟩)))]) (own' := [some (cellsR b1 76 [v3, v4]), some (rowsX u8S true v4 vs1 rows1 none), some (cellsR b2 40 [v5]), some (cellsR b3 40 [v9])]) (shr' := [Fact.sl (Shape.slice u8S) vparts1 parts, Fact.sl iS vsizes1 sizes, Fact.sl RegionS v3 mem1.l, Fact.sl u8S v5 Wait1, Fact.sl u8S v9 put2.1.Wait]) [0, 1, 5, 7, 8, 9, 10, 11] [0, 1, 2, 3] [0, 1, 2, 3, 4] rfl rfl rfl rfl ?_)
        refine Tk_seq (Tk_region (Tops_step rfl (OpT_assign rfl rfl rfl rfl) ?_))
        refine Tops_nil (Tk_seq (Tk_seq (Tk_region (Tops_step rfl (OpT_assign rfl rfl rfl rfl) ?_))))
        refine Tops_nil (Tk_block (Tk_nilrow iS ?_))
        refine Tk_loopS (σ := (List UInt8) × (List UInt8) × (List Int) × Int × Value × Value × Value) [0, 1, 5, 7, 8, 9, 10, 11, 13, 14] [0, 1, 2, 3, 4] [0, 1, 2, 3, 4] (fun s => ⟨[(0, some (vparts1)), (1, some (vsizes1)), (5, some (.pointer (some ⟨b1, 0, none⟩))), (7, some (.pointer (some ⟨b2, 0, none⟩))), (8, some (vS (put1 ++ (sub y7 (0 : Int) put2.2)))), (9, some (vS got1)), (10, some (vI i1)), (11, some (.pointer (some ⟨b3, 0, none⟩))), (13, some (s.2.2.2.2.2.2)), (14, some (vI s.2.2.2.1))], [some (cellsR b1 76 [v3, v4]), some (rowsX u8S true v4 vs1 rows1 none), some (cellsR b2 40 [s.2.2.2.2.1]), some (cellsR b3 40 [s.2.2.2.2.2.1]), some (rowS iS s.2.2.2.2.2.2 s.2.2.1)], [Fact.sl (Shape.slice u8S) vparts1 parts, Fact.sl iS vsizes1 sizes, Fact.sl RegionS v3 mem1.l, Fact.sl u8S s.2.2.2.2.1 s.1, Fact.sl u8S s.2.2.2.2.2.1 s.2.1]⟩) (fun nf3 s => law28zConsStreamsL3 sizes mem1 rows1 put1 got1 i1 (law28zConsStreamsL1 parts sizes mem1 nf1) put2 y7 nf3 s.1 s.2.1 s.2.2.1 s.2.2.2.1 = some true) fuel (Wait1, put2.1.Wait, [], (0 : Int), v5, v9, (.slice none 0 0)) h rfl rfl rfl rfl rfl (fun s h => by cases h) ?_
        rintro nf3 ⟨Wait4, Wait5, l2, k2, v26, v27, v28⟩ h
        replace h : law28zConsStreamsL3B sizes mem1 rows1 put1 got1 i1 (law28zConsStreamsL1 parts sizes mem1 nf1) put2 y7 (law28zConsStreamsL3 sizes mem1 rows1 put1 got1 i1 (law28zConsStreamsL1 parts sizes mem1 nf1) put2 y7 nf3) Wait4 Wait5 l2 k2 = some true := h
        unfold law28zConsStreamsL3B at h
        refine Tk_seq (Tk_seq (Tk_region (Tops_step rfl (OpT_move rfl rfl rfl rfl) ?_)))
        refine Tops_step rfl (OpT_move rfl rfl rfl rfl) ?_
        refine Tops_step rfl (OpT_lenS rfl rfl rfl rfl Try.underlying31 (i := 1) rfl) ?_
        refine Tops_step rfl (OpT_bin rfl rfl rfl rfl rfl (bin_lss_i (a := k2) (b := len sizes))) ?_
        refine Tops_nil (Tk_wkS (fr' := [(0, some (vparts1)), (1, some (vsizes1)), (5, some (.pointer (some ⟨b1, 0, none⟩))), (7, some (.pointer (some ⟨b2, 0, none⟩))), (8, some (vS (put1 ++ (sub y7 (0 : Int) put2.2)))), (9, some (vS got1)), (10, some (vI i1)), (11, some (.pointer (some ⟨b3, 0, none⟩))), (13, some (v28)), (14, some (vI k2)), (114, some (vB (decide (k2 < (len sizes)))))]) (own' := [some (cellsR b1 76 [v3, v4]), some (rowsX u8S true v4 vs1 rows1 none), some (cellsR b2 40 [v26]), some (cellsR b3 40 [v27]), some (rowS iS v28 l2)]) (shr' := [Fact.sl (Shape.slice u8S) vparts1 parts, Fact.sl iS vsizes1 sizes, Fact.sl RegionS v3 mem1.l, Fact.sl u8S v26 Wait4, Fact.sl u8S v27 Wait5]) [0, 1, 5, 7, 8, 9, 10, 11, 13, 14, 114] [0, 1, 2, 3, 4] [0, 1, 2, 3, 4] rfl rfl rfl rfl ?_)
        rcases Bool.eq_false_or_eq_true (decide (k2 < (len sizes))) with hg17 | hg17
        ·replace h := br_t hg17 h
         refine Tk_condT (congrArg (fun b => some (Value.bool b)) hg17) ?_
         refine Tk_skip (Tk_seq (Tk_block (Tk_region (Tops_step rfl (OpT_move rfl rfl rfl rfl) ?_))))
         refine Tops_step rfl (OpT_move rfl rfl rfl rfl) ?_
         refine Tops_step rfl (OpT_move rfl rfl rfl rfl) ?_
         obtain ⟨y8, hx17, h⟩ := ob_e h
         refine Tops_ex rfl (OpT_idxS rfl rfl rfl rfl rfl slF31 (i := 1) rfl hx17) fun p8 => ?_
         refine Tops_step rfl (OpT_loadP rfl rfl rfl rfl tyF3 (i := 5) rfl rfl) ?_
         refine Tops_step rfl (OpT_move rfl rfl rfl rfl) ?_
         refine Tops_step rfl (OpT_bin rfl rfl rfl rfl rfl (bin_add_i (a := y8) (b := i1))) ?_
         obtain ⟨pick2, hx18, h⟩ := ob_e h
         refine Tops_exP rfl (OpT_call (w_kit_Pick hx18) [] [] rfl rfl rfl rfl rfl callee9 rfl rfl rfl rfl) ?_
         rintro _ ⟨_, _, _, ⟨rfl, rfl, rfl⟩, rfl⟩
         refine Tops_step rfl (OpT_bin rfl rfl rfl rfl rfl (bin_add_i (a := (1 : Int)) (b := pick2))) ?_
         refine Tops_ex rfl (OpT_buildSlice (S := iS) (xs := [wi ((1 : Int) + pick2)]) (css := [[vI (wi ((1 : Int) + pick2))]]) (cs := [vI (wi ((1 : Int) + pick2))]) (e := 3) rfl rfl rfl rfl (bldF slF31 (by decide) (by kernel_rfl)) rfl rfl rfl rfl (rel_plainD (S := iS) (xs := [wi ((1 : Int) + pick2)]) (css := [[vI (wi ((1 : Int) + pick2))]]) rfl rfl)) fun v29 => ?_
         obtain ⟨hc8, h⟩ := chk_e h
         refine Tops_ex rfl (OpT_appendB (S := iS) rfl rfl rfl rfl rfl rfl slF31 (i := 4) (j := 5) rfl rfl hc8) fun v30 => ?_
         refine Tops_step rfl (OpT_assign rfl rfl rfl rfl) ?_
         refine Tops_nil (Tk_wkS (fr' := [(0, some (vparts1)), (1, some (vsizes1)), (5, some (.pointer (some ⟨b1, 0, none⟩))), (7, some (.pointer (some ⟨b2, 0, none⟩))), (8, some (vS (put1 ++ (sub y7 (0 : Int) put2.2)))), (9, some (vS got1)), (10, some (vI i1)), (11, some (.pointer (some ⟨b3, 0, none⟩))), (13, some (v30)), (14, some (vI k2))]) (own' := [some (cellsR b1 76 [v3, v4]), some (rowsX u8S true v4 vs1 rows1 none), some (cellsR b2 40 [v26]), some (cellsR b3 40 [v27]), some (rowS iS v30 (l2 ++ [wi ((1 : Int) + pick2)]))]) (shr' := [Fact.sl (Shape.slice u8S) vparts1 parts, Fact.sl iS vsizes1 sizes, Fact.sl RegionS v3 mem1.l, Fact.sl u8S v26 Wait4, Fact.sl u8S v27 Wait5]) [0, 1, 5, 7, 8, 9, 10, 11, 13, 14] [0, 1, 2, 3, 4] [0, 1, 2, 3, 4] rfl rfl rfl rfl ?_)
         refine Tk_blk (Tk_region (Tops_step rfl (OpT_move rfl rfl rfl rfl) ?_))
         refine Tops_step rfl (OpT_bin rfl rfl rfl rfl rfl (bin_add_i (a := k2) (b := (1 : Int)))) ?_
         refine Tops_step rfl (OpT_assign rfl rfl rfl rfl) ?_
         refine Tops_nil (Tk_wkS (fr' := [(0, some (vparts1)), (1, some (vsizes1)), (5, some (.pointer (some ⟨b1, 0, none⟩))), (7, some (.pointer (some ⟨b2, 0, none⟩))), (8, some (vS (put1 ++ (sub y7 (0 : Int) put2.2)))), (9, some (vS got1)), (10, some (vI i1)), (11, some (.pointer (some ⟨b3, 0, none⟩))), (13, some (v30)), (14, some (vI (wi (k2 + (1 : Int)))))]) (own' := [some (cellsR b1 76 [v3, v4]), some (rowsX u8S true v4 vs1 rows1 none), some (cellsR b2 40 [v26]), some (cellsR b3 40 [v27]), some (rowS iS v30 (l2 ++ [wi ((1 : Int) + pick2)]))]) (shr' := [Fact.sl (Shape.slice u8S) vparts1 parts, Fact.sl iS vsizes1 sizes, Fact.sl RegionS v3 mem1.l, Fact.sl u8S v26 Wait4, Fact.sl u8S v27 Wait5]) [0, 1, 5, 7, 8, 9, 10, 11, 13, 14] [0, 1, 2, 3, 4] [0, 1, 2, 3, 4] rfl rfl rfl rfl ?_)
         exact Tk_backS (Wait4, Wait5, l2 ++ [wi ((1 : Int) + pick2)], wi (k2 + (1 : Int)), v26, v27, v30) h [0, 1, 5, 7, 8, 9, 10, 11, 13, 14] [0, 1, 2, 3, 4] [0, 1, 2, 3, 4] rfl rfl rfl rfl rfl
        ·replace h := br_f hg17 h
         refine Tk_condF (congrArg (fun b => some (Value.bool b)) hg17) ?_
         refine Tk_exit _ rfl ?_
         refine Tk_seq (Tk_region (Tops_step rfl (OpT_move rfl rfl rfl rfl) ?_))
         refine Tops_retire (i := 4) rfl ?_
         obtain ⟨rooms2, hx19, h⟩ := ob_e h
         refine Tops_exP rfl (OpT_call (w_law28zrooms hx19) [] [5] rfl rfl rfl rfl rfl callee17 rfl rfl rfl rfl) ?_
         rintro _ ⟨v31, _, _, ⟨_, rfl, rfl, rfl⟩, rfl⟩
         refine Tops_step rfl (OpT_assign rfl rfl rfl rfl) ?_
         refine Tops_nil (Tk_wkS (fr' := [(0, some (vparts1)), (1, some (vsizes1)), (5, some (.pointer (some ⟨b1, 0, none⟩))), (7, some (.pointer (some ⟨b2, 0, none⟩))), (8, some (vS (put1 ++ (sub y7 (0 : Int) put2.2)))), (9, some (vS got1)), (10, some (vI i1)), (11, some (.pointer (some ⟨b3, 0, none⟩))), (15, some (v31))]) (own' := [some (cellsR b1 76 [v3, v4]), some (rowsX u8S true v4 vs1 rows1 none), some (cellsR b2 40 [v26]), some (cellsR b3 40 [v27]), some (rowS (Shape.slice SegS) v31 rooms2)]) (shr' := [Fact.sl (Shape.slice u8S) vparts1 parts, Fact.sl iS vsizes1 sizes, Fact.sl RegionS v3 mem1.l, Fact.sl u8S v26 Wait4, Fact.sl u8S v27 Wait5]) [0, 1, 5, 7, 8, 9, 10, 11, 15] [0, 1, 2, 3, 5] [0, 1, 2, 3, 4] rfl rfl rfl rfl ?_)
         refine Tk_seq (Tk_region (Tops_step rfl (OpT_move rfl rfl rfl rfl) ?_))
         refine Tops_step rfl (OpT_loadCA (vs := [v27]) rfl rfl rfl rfl tyF40 (i := 3) rfl rfl rfl) ?_
         refine Tops_step rfl (OpT_move rfl rfl rfl rfl) ?_
         refine Tops_retire (i := 4) rfl ?_
         obtain ⟨give2, hx20, h⟩ := ob_e h
         refine Tops_exP rfl (OpT_callP [5, 6, 2, 3, 4, 7] (w_cons_Give hx20) [0, 1] [2, 4, 5] rfl rfl rfl rfl rfl callee15 rfl rfl rfl rfl rfl) ?_
         rintro _ ⟨_, _, _, ⟨v32, v33, rfl, rfl, rfl⟩, rfl⟩
         refine Tops_step rfl (OpT_move rfl rfl rfl rfl) ?_
         refine Tops_step rfl (OpT_extract rfl rfl rfl rfl rfl) ?_
         refine Tops_step rfl (OpT_extract rfl rfl rfl rfl rfl) ?_
         refine Tops_step rfl (OpT_extract rfl rfl rfl rfl rfl) ?_
         refine Tops_ex rfl (OpT_alloc rfl rfl rfl tyZ40) fun b5 => ?_
         refine Tops_step rfl (OpT_storeA1 (fun z0 => [z0]) (cs' := [v32]) rfl rfl rfl rfl tyF40 (i := 6) rfl (is_row (i := 5) rfl) (fun _ _ _ => rfl) rfl rfl rfl) ?_
         refine Tops_step rfl (OpT_assign rfl rfl rfl rfl) ?_
         refine Tops_step rfl (OpT_assign rfl rfl rfl rfl) ?_
         refine Tops_nil (Tk_wkS (fr' := [(0, some (vparts1)), (1, some (vsizes1)), (5, some (.pointer (some ⟨b1, 0, none⟩))), (7, some (.pointer (some ⟨b2, 0, none⟩))), (8, some (vS (put1 ++ (sub y7 (0 : Int) put2.2)))), (9, some (vS got1)), (10, some (vI i1)), (15, some (v31)), (16, some (.pointer (some ⟨b5, 0, none⟩))), (17, some (v33)), (18, some (vI give2.2.2.1))]) (own' := [some (cellsR b1 76 [v3, v4]), some (rowsX u8S true v4 vs1 give2.2.2.2 none), some (cellsR b2 40 [v26]), some (rowS u8S v32 give2.1.Wait), some (cellsR b5 40 [v32])]) (shr' := [Fact.sl (Shape.slice u8S) vparts1 parts, Fact.sl iS vsizes1 sizes, Fact.sl RegionS v3 mem1.l, Fact.sl u8S v26 Wait4, Fact.sl (Shape.slice SegS) v31 rooms2, Fact.sl u32S v33 give2.2.1]) [0, 1, 5, 7, 8, 9, 10, 15, 16, 17, 18] [0, 1, 2, 5, 6] [0, 1, 2, 3, 5, 6] rfl rfl rfl rfl ?_)
         refine Tk_seq (Tk_seq (Tk_region (Tops_step rfl (OpT_move rfl rfl rfl rfl) ?_)))
         refine Tops_step rfl (OpT_bin rfl rfl rfl rfl rfl (bin_neq_i (a := give2.2.2.1) (b := (0 : Int)))) ?_
         refine Tops_step rfl (OpT_move rfl rfl rfl rfl) ?_
         obtain ⟨hg18, h⟩ := chk_e h
         replace hg18 := not_t hg18
         refine Tops_yes rfl rfl (congrArg (fun b => some (Value.bool b)) hg18) (OpT_move rfl rfl rfl rfl) ?_
         rintro _ rfl
         refine Tops_yes rfl rfl (congrArg (fun b => some (Value.bool b)) hg18) (OpT_lenS rfl rfl rfl rfl Try.underlying41 (i := 5) rfl) ?_
         rintro _ rfl
         refine Tops_yes rfl rfl (congrArg (fun b => some (Value.bool b)) hg18) (OpT_move rfl rfl rfl rfl) ?_
         rintro _ rfl
         refine Tops_yes rfl rfl (congrArg (fun b => some (Value.bool b)) hg18) (OpT_lenS rfl rfl rfl rfl Try.underlying45 (i := 4) rfl) ?_
         rintro _ rfl
         refine Tops_yes rfl rfl (congrArg (fun b => some (Value.bool b)) hg18) (OpT_bin rfl rfl rfl rfl rfl (bin_gtr_i (a := len give2.2.1) (b := len rooms2))) ?_
         rintro _ rfl
         refine Tops_step rfl (OpT_pickF rfl rfl rfl (congrArg (fun b => some (Value.bool b)) hg18) rfl) ?_
         refine Tops_nil (Tk_wkS (fr' := [(0, some (vparts1)), (1, some (vsizes1)), (5, some (.pointer (some ⟨b1, 0, none⟩))), (7, some (.pointer (some ⟨b2, 0, none⟩))), (8, some (vS (put1 ++ (sub y7 (0 : Int) put2.2)))), (9, some (vS got1)), (10, some (vI i1)), (15, some (v31)), (16, some (.pointer (some ⟨b5, 0, none⟩))), (17, some (v33)), (146, some (vB (decide ((len give2.2.1) > (len rooms2)))))]) (own' := [some (cellsR b1 76 [v3, v4]), some (rowsX u8S true v4 vs1 give2.2.2.2 none), some (cellsR b2 40 [v26]), some (rowS u8S v32 give2.1.Wait), some (cellsR b5 40 [v32])]) (shr' := [Fact.sl (Shape.slice u8S) vparts1 parts, Fact.sl iS vsizes1 sizes, Fact.sl RegionS v3 mem1.l, Fact.sl u8S v26 Wait4, Fact.sl (Shape.slice SegS) v31 rooms2, Fact.sl u32S v33 give2.2.1]) [0, 1, 5, 7, 8, 9, 10, 15, 16, 17, 146] [0, 1, 2, 3, 4] [0, 1, 2, 3, 4, 5] rfl rfl rfl rfl ?_)
         obtain ⟨hg19, h⟩ := chk_e h
         replace hg19 := not_t hg19
         refine Tk_condF (congrArg (fun b => some (Value.bool b)) hg19) ?_
         refine Tk_skip (Tk_seq (Tk_region (Tops_step rfl (OpT_move rfl rfl rfl rfl) ?_)))
         refine Tops_step rfl (OpT_move rfl rfl rfl rfl) ?_
         refine Tops_step rfl (OpT_move rfl rfl rfl rfl) ?_
         refine Tops_step rfl (OpT_lenS rfl rfl rfl rfl Try.underlying41 (i := 5) rfl) ?_
         obtain ⟨hc9, h⟩ := chk_e h
         refine Tops_ex rfl (OpT_sliceH (m := len give2.2.1) rfl rfl rfl rfl rfl slF45 (i := 4) rfl hc9) fun v34 => ?_
         refine Tops_step rfl (OpT_move rfl rfl rfl rfl) ?_
         obtain ⟨join2, hx21, h⟩ := ob_e h
         refine Tops_exP rfl (OpT_callP [5, 6, 2, 3, 4, 7] (w_cons_Join hx21) [0, 1] [2, 6, 5] rfl rfl rfl rfl rfl callee22 rfl rfl rfl rfl rfl) ?_
         rintro _ ⟨_, _, _, ⟨v35, rfl, rfl, rfl⟩, rfl⟩
         refine Tops_step rfl (OpT_move rfl rfl rfl rfl) ?_
         refine Tops_step rfl (OpT_extract rfl rfl rfl rfl rfl) ?_
         refine Tops_step rfl (OpT_extract rfl rfl rfl rfl rfl) ?_
         refine Tops_step rfl (OpT_assign rfl rfl rfl rfl) ?_
         refine Tops_step rfl (OpT_assign rfl rfl rfl rfl) ?_
         refine Tops_nil (Tk_wkS (fr' := [(0, some (vparts1)), (1, some (vsizes1)), (5, some (.pointer (some ⟨b1, 0, none⟩))), (7, some (.pointer (some ⟨b2, 0, none⟩))), (8, some (vS (put1 ++ (sub y7 (0 : Int) put2.2)))), (9, some (vS got1)), (10, some (vI i1)), (16, some (.pointer (some ⟨b5, 0, none⟩))), (19, some (v35)), (18, some (vI join2.2))]) (own' := [some (cellsR b1 76 [v3, v4]), some (rowsX u8S true v4 vs1 give2.2.2.2 none), some (cellsR b2 40 [v26]), some (rowS u8S v32 give2.1.Wait), some (cellsR b5 40 [v32]), some (rowS u8S v35 join2.1)]) (shr' := [Fact.sl (Shape.slice u8S) vparts1 parts, Fact.sl iS vsizes1 sizes, Fact.sl RegionS v3 mem1.l, Fact.sl u8S v26 Wait4]) [0, 1, 5, 7, 8, 9, 10, 16, 19, 18] [0, 1, 2, 3, 4, 5] [0, 1, 2, 3] rfl rfl rfl rfl ?_)
         refine Tk_seq (Tk_seq (Tk_region (Tops_step rfl (OpT_move rfl rfl rfl rfl) ?_)))
         refine Tops_step rfl (OpT_bin rfl rfl rfl rfl rfl (bin_neq_i (a := join2.2) (b := (0 : Int)))) ?_
         refine Tops_nil (Tk_wkS (fr' := [(0, some (vparts1)), (1, some (vsizes1)), (5, some (.pointer (some ⟨b1, 0, none⟩))), (7, some (.pointer (some ⟨b2, 0, none⟩))), (8, some (vS (put1 ++ (sub y7 (0 : Int) put2.2)))), (9, some (vS got1)), (10, some (vI i1)), (16, some (.pointer (some ⟨b5, 0, none⟩))), (19, some (v35)), (158, some (vB (join2.2 != (0 : Int))))]) (own' := [some (cellsR b1 76 [v3, v4]), some (rowsX u8S true v4 vs1 give2.2.2.2 none), some (cellsR b2 40 [v26]), some (rowS u8S v32 give2.1.Wait), some (cellsR b5 40 [v32]), some (rowS u8S v35 join2.1)]) (shr' := [Fact.sl (Shape.slice u8S) vparts1 parts, Fact.sl iS vsizes1 sizes, Fact.sl RegionS v3 mem1.l, Fact.sl u8S v26 Wait4]) [0, 1, 5, 7, 8, 9, 10, 16, 19, 158] [0, 1, 2, 3, 4, 5] [0, 1, 2, 3] rfl rfl rfl rfl ?_)
         obtain ⟨hg20, h⟩ := chk_e h
         replace hg20 := not_t hg20
         refine Tk_condF (congrArg (fun b => some (Value.bool b)) hg20) ?_
         refine Tk_skip (Tk_seq (Tk_region (Tops_step rfl (OpT_move rfl rfl rfl rfl) ?_)))
         refine Tops_step rfl (OpT_move rfl rfl rfl rfl) ?_
         refine Tops_retire (i := 5) rfl ?_
         refine Tops_step rfl (OpT_strS rfl rfl rfl rfl Try.underlying30 Try.underlying5 Try.underlying9 (i := 4) rfl) ?_
         obtain ⟨hc10, h⟩ := chk_e h
         refine Tops_step rfl (OpT_bin rfl rfl rfl rfl rfl (bin_add_s (a := got1) (b := join2.1) hc10)) ?_
         refine Tops_step rfl (OpT_assign rfl rfl rfl rfl) ?_
         refine Tops_nil (Tk_wkS (fr' := [(0, some (vparts1)), (1, some (vsizes1)), (5, some (.pointer (some ⟨b1, 0, none⟩))), (7, some (.pointer (some ⟨b2, 0, none⟩))), (8, some (vS (put1 ++ (sub y7 (0 : Int) put2.2)))), (9, some (vS (got1 ++ join2.1))), (10, some (vI i1)), (16, some (.pointer (some ⟨b5, 0, none⟩)))]) (own' := [some (cellsR b1 76 [v3, v4]), some (rowsX u8S true v4 vs1 give2.2.2.2 none), some (cellsR b2 40 [v26]), some (rowS u8S v32 give2.1.Wait), some (cellsR b5 40 [v32])]) (shr' := [Fact.sl (Shape.slice u8S) vparts1 parts, Fact.sl iS vsizes1 sizes, Fact.sl RegionS v3 mem1.l, Fact.sl u8S v26 Wait4]) [0, 1, 5, 7, 8, 9, 10, 16] [0, 1, 2, 3, 4] [0, 1, 2, 3] rfl rfl rfl rfl ?_)
         refine Tk_region (Tops_step rfl (OpT_loadCA (vs := [v32]) rfl rfl rfl rfl tyF40 (i := 4) rfl rfl rfl) ?_)
         refine Tops_step rfl (OpT_storeA1 (fun z0 => [z0]) (cs' := [v32]) rfl rfl rfl rfl tyF40 (i := 2) rfl (is_row (i := 3) rfl) (fun _ _ _ => rfl) rfl rfl rfl) ?_
         refine Tops_nil (Tk_wkS (fr' := [(0, some (vparts1)), (1, some (vsizes1)), (5, some (.pointer (some ⟨b1, 0, none⟩))), (7, some (.pointer (some ⟨b2, 0, none⟩))), (8, some (vS (put1 ++ (sub y7 (0 : Int) put2.2)))), (9, some (vS (got1 ++ join2.1))), (10, some (vI i1))]) (own' := [some (cellsR b1 76 [v3, v4]), some (rowsX u8S true v4 vs1 give2.2.2.2 none), some (cellsR b2 40 [v32]), some (rowS u8S v32 give2.1.Wait)]) (shr' := [Fact.sl (Shape.slice u8S) vparts1 parts, Fact.sl iS vsizes1 sizes, Fact.sl RegionS v3 mem1.l]) [0, 1, 5, 7, 8, 9, 10] [0, 1, 2, 3] [0, 1, 2] rfl rfl rfl rfl ?_)
         refine Tk_blk (Tk_region (Tops_step rfl (OpT_move rfl rfl rfl rfl) ?_))
         refine Tops_step rfl (OpT_bin rfl rfl rfl rfl rfl (bin_add_i (a := i1) (b := (1 : Int)))) ?_
         refine Tops_step rfl (OpT_assign rfl rfl rfl rfl) ?_
         refine Tops_nil (Tk_wkS (fr' := [(0, some (vparts1)), (1, some (vsizes1)), (5, some (.pointer (some ⟨b1, 0, none⟩))), (7, some (.pointer (some ⟨b2, 0, none⟩))), (8, some (vS (put1 ++ (sub y7 (0 : Int) put2.2)))), (9, some (vS (got1 ++ join2.1))), (10, some (vI (wi (i1 + (1 : Int)))))]) (own' := [some (cellsR b1 76 [v3, v4]), some (rowsX u8S true v4 vs1 give2.2.2.2 none), some (cellsR b2 40 [v32]), some (rowS u8S v32 give2.1.Wait)]) (shr' := [Fact.sl (Shape.slice u8S) vparts1 parts, Fact.sl iS vsizes1 sizes, Fact.sl RegionS v3 mem1.l]) [0, 1, 5, 7, 8, 9, 10] [0, 1, 2, 3] [0, 1, 2] rfl rfl rfl rfl ?_)
         refine Tk_retire (i := 3) rfl ?_
         exact Tk_backS (give2.2.2.2, give2.1.Wait, put1 ++ (sub y7 (0 : Int) put2.2), got1 ++ join2.1, wi (i1 + (1 : Int)), v32) h [0, 1, 5, 7, 8, 9, 10] [0, 1, 2] [0, 1, 2, 3] rfl rfl rfl rfl rfl
    ·replace h := br_f hg5 h
     refine Tk_condF (congrArg (fun b => some (Value.bool b)) hg5) ?_
     refine Tk_exit _ rfl ?_
     refine Tk_seq (Tk_region (Tops_step rfl (OpT_move rfl rfl rfl rfl) ?_))
     refine Tops_step rfl (OpT_fieldC rfl rfl rfl rfl fldF40x0) ?_
     refine Tops_step rfl (OpT_loadC rfl rfl rfl rfl tyF30 (i := 2) rfl rfl) ?_
     refine Tops_step rfl (OpT_strS rfl rfl rfl rfl Try.underlying30 Try.underlying5 Try.underlying9 (i := 3) rfl) ?_
     obtain ⟨hc11, h⟩ := chk_e h
     refine Tops_step rfl (OpT_bin rfl rfl rfl rfl rfl (bin_add_s (a := got1) (b := Wait1) hc11)) ?_
     refine Tops_step rfl (OpT_move rfl rfl rfl rfl) ?_
     refine Tops_step rfl (OpT_bin rfl rfl rfl rfl rfl (bin_eql_s (a := got1 ++ Wait1) (b := put1))) ?_
     refine Tops_step rfl (OpT_assign rfl rfl rfl rfl) ?_
     refine Tops_nil (Tk_wkS (fr' := [(4, some (vB ((got1 ++ Wait1) == put1)))]) (own' := []) (shr' := []) [4] [] [] rfl rfl rfl rfl ?_)
     obtain ⟨hg21, h⟩ := chk_e h
     exact Tk_retV rfl rfl (resA (vs := [.bool true]) rfl ⟨(congrArg (fun b => some (Value.bool b)) hg21), trivial⟩) [] [] rfl rfl rfl ⟨rfl, rfl, rfl⟩
end Go.Proofs.Ytkjmmbmlapmkbaa
