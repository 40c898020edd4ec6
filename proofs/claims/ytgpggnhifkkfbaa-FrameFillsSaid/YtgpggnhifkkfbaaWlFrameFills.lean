/- The law FrameFills is walked: it returns what its plain words say. No condition. -/
import Derived.Test.YtgpggnhifkkfbaaWa3
namespace Go.Proofs.Ytgpggnhifkkfbaa

set_option maxRecDepth 100000 in
set_option maxHeartbeats 4000000 in
theorem w_law23zFrameFills {b : List UInt8} {start : Int} {off : Int} {vb1 : Value}  (h : law23zFrameFills b start off = some true) :
    Ctr Try.prog 4 #[vb1, vI start, vI off] [] [Fact.sl u8S vb1 b]
      (fun rv own shr => rv = .bool true ∧ own = [] ∧ shr = []) := by
  unfold law23zFrameFills at h
  refine Ctr.mk (args := [vb1, vI start, vI off]) Try.func4 rfl rfl (fun R0 w0 B => ?_)
  refine Tk_seq ?_
  refine Tk_region ?_
  refine Tops_step rfl (OpT_assign rfl rfl rfl rfl) ?_
  refine Tops_nil ?_
  refine Tk_wkS (fr' := [(0, some (vb1)), (1, some (vI start)), (2, some (vI off))]) (own' := []) (shr' := [Fact.sl u8S vb1 b]) [0, 1, 2] [] [0] rfl rfl rfl rfl ?_
  refine Tk_seq ?_
  refine Tk_seq ?_
  refine Tk_region ?_
  obtain ⟨lives1, hx1, h⟩ := ob_e h
  refine Tops_exP rfl (OpT_call (w_law23zlives hx1) [] [] rfl rfl rfl rfl rfl callee11 rfl rfl rfl rfl) ?_
  rintro _ ⟨_, _, _, ⟨rfl, rfl, rfl⟩, rfl⟩
  refine Tops_step rfl (OpT_not rfl rfl rfl rfl) ?_
  refine Tops_nil ?_
  refine Tk_wkS (fr' := [(0, some (vb1)), (1, some (vI start)), (2, some (vI off)), (16, some (vB (!lives1)))]) (own' := []) (shr' := [Fact.sl u8S vb1 b]) [0, 1, 2, 16] [] [0] rfl rfl rfl rfl ?_
  obtain ⟨hg1, h⟩ := chk_e h
  replace hg1 := not_t hg1
  refine Tk_condF (congrArg (fun b => some (Value.bool b)) hg1) ?_
  refine Tk_skip ?_
  refine Tk_seq ?_
  refine Tk_seq ?_
  refine Tk_region ?_
  refine Tops_step rfl (OpT_move rfl rfl rfl rfl) ?_
  refine Tops_step rfl (OpT_lenS rfl rfl rfl rfl Try.underlying22 (i := 0) rfl) ?_
  refine Tops_step rfl (OpT_bin rfl rfl rfl rfl rfl (bin_gtr_i (a := len b) (b := (3000 : Int)))) ?_
  refine Tops_nil ?_
  refine Tk_wkS (fr' := [(0, some (vb1)), (1, some (vI start)), (2, some (vI off)), (19, some (vB (decide ((len b) > (3000 : Int)))))]) (own' := []) (shr' := [Fact.sl u8S vb1 b]) [0, 1, 2, 19] [] [0] rfl rfl rfl rfl ?_
  rcases Bool.eq_false_or_eq_true (decide ((len b) > (3000 : Int))) with hg2 | hg2
  · replace h := br_t hg2 h
    refine Tk_condT (congrArg (fun b => some (Value.bool b)) hg2) ?_
    refine Tk_seq ?_
    refine Tk_region ?_
    refine Tops_step rfl (OpT_assign rfl rfl rfl rfl) ?_
    refine Tops_nil ?_
    refine Tk_wkS (fr' := [(6, some (vB true))]) (own' := []) (shr' := []) [6] [] [] rfl rfl rfl rfl ?_
    exact Tk_retV rfl rfl (resA (vs := [.bool true]) rfl ⟨rfl, trivial⟩) [] [] rfl rfl rfl ⟨rfl, rfl, rfl⟩
  · replace h := br_f hg2 h
    refine Tk_condF (congrArg (fun b => some (Value.bool b)) hg2) ?_
    refine Tk_skip ?_
    refine Tk_seq ?_
    refine Tk_region ?_
    refine Tops_step rfl (OpT_move rfl rfl rfl rfl) ?_
    obtain ⟨own1, hx2, h⟩ := ob_e h
    refine Tops_exP rfl (OpT_call (w_kit_Own hx2) [] [0] rfl rfl rfl rfl rfl callee13 rfl rfl rfl rfl) ?_
    rintro _ ⟨v1, _, _, ⟨_, rfl, rfl, rfl⟩, rfl⟩
    refine Tops_step rfl (OpT_build (v := .agg #[vU8 (0 : UInt8), vU16 (5000 : UInt16), vU16 (9 : UInt16), vU16 (0 : UInt16)]) rfl rfl rfl rfl (bldV (by kernel_rfl))) ?_
    obtain ⟨fill1, hx3, h⟩ := ob_e h
    refine Tops_exP rfl (OpT_callB [0] [0, 1] (w_frame_Fill hx3) [] rfl rfl rfl rfl rfl callee15 rfl rfl rfl rfl rfl rfl (bor_cons (bor_row 0 rfl rfl) bor_nil) (by rintro _ _ _ ⟨_, rfl, rfl, rfl⟩; exact ⟨rfl, (ri_cons (ri_row (S := u8S) rfl _ _) ri_nil)⟩)) ?_
    rintro _ ⟨_, _, _, ⟨v2, rfl, rfl, rfl⟩, rfl⟩
    refine Tops_step rfl (OpT_move rfl rfl rfl rfl) ?_
    refine Tops_step rfl (OpT_extract rfl rfl rfl rfl rfl) ?_
    refine Tops_step rfl (OpT_extract rfl rfl rfl rfl rfl) ?_
    refine Tops_step rfl (OpT_assign rfl rfl rfl rfl) ?_
    refine Tops_step rfl (OpT_assign rfl rfl rfl rfl) ?_
    refine Tops_nil ?_
    refine Tk_wkS (fr' := [(0, some (vb1)), (1, some (vI start)), (2, some (vI off)), (7, some (v2)), (8, some (vI fill1.2))]) (own' := [some (rowS u8S v2 fill1.1)]) (shr' := [Fact.sl u8S vb1 b]) [0, 1, 2, 7, 8] [1] [0] rfl rfl rfl rfl ?_
    refine Tk_seq ?_
    refine Tk_seq ?_
    refine Tk_region ?_
    refine Tops_step rfl (OpT_move rfl rfl rfl rfl) ?_
    refine Tops_step rfl (OpT_bin rfl rfl rfl rfl rfl (bin_neq_i (a := fill1.2) (b := (0 : Int)))) ?_
    refine Tops_step rfl (OpT_move rfl rfl rfl rfl) ?_
    obtain ⟨hg3, h⟩ := chk_e h
    replace hg3 := not_t hg3
    refine Tops_yes rfl rfl (congrArg (fun b => some (Value.bool b)) hg3) (OpT_move rfl rfl rfl rfl) ?_
    rintro _ rfl
    refine Tops_retire (i := 0) rfl ?_
    refine Tops_yes rfl rfl (congrArg (fun b => some (Value.bool b)) hg3) (OpT_strS rfl rfl rfl rfl Try.underlying22 Try.underlying5 Try.underlying9 (i := 1) rfl) ?_
    rintro _ rfl
    refine Tops_yes rfl rfl (congrArg (fun b => some (Value.bool b)) hg3) (OpT_move rfl rfl rfl rfl) ?_
    rintro _ rfl
    refine Tops_yes rfl rfl (congrArg (fun b => some (Value.bool b)) hg3) (OpT_strS rfl rfl rfl rfl Try.underlying22 Try.underlying5 Try.underlying9 (i := 0) rfl) ?_
    rintro _ rfl
    refine Tops_yes rfl rfl (congrArg (fun b => some (Value.bool b)) hg3) (OpT_bin rfl rfl rfl rfl rfl (bin_neq_s (a := fill1.1) (b := b))) ?_
    rintro _ rfl
    refine Tops_step rfl (OpT_pickF rfl rfl rfl (congrArg (fun b => some (Value.bool b)) hg3) rfl) ?_
    refine Tops_nil ?_
    refine Tk_wkS (fr' := [(0, some (vb1)), (1, some (vI start)), (2, some (vI off)), (35, some (vB (fill1.1 != b)))]) (own' := []) (shr' := [Fact.sl u8S vb1 b]) [0, 1, 2, 35] [] [0] rfl rfl rfl rfl ?_
    obtain ⟨hg4, h⟩ := chk_e h
    replace hg4 := not_t hg4
    refine Tk_condF (congrArg (fun b => some (Value.bool b)) hg4) ?_
    refine Tk_skip ?_
    refine Tk_seq ?_
    refine Tk_region ?_
    refine Tops_step rfl (OpT_move rfl rfl rfl rfl) ?_
    obtain ⟨pick1, hx4, h⟩ := ob_e h
    refine Tops_exP rfl (OpT_call (w_kit_Pick hx4) [] [] rfl rfl rfl rfl rfl callee14 rfl rfl rfl rfl) ?_
    rintro _ ⟨_, _, _, ⟨rfl, rfl, rfl⟩, rfl⟩
    refine Tops_step rfl (OpT_bin rfl rfl rfl rfl rfl (bin_mul_i (a := (2 : Int)) (b := pick1))) ?_
    refine Tops_step rfl (OpT_assign rfl rfl rfl rfl) ?_
    refine Tops_nil ?_
    refine Tk_wkS (fr' := [(0, some (vb1)), (2, some (vI off)), (9, some (vI (wi ((2 : Int) * pick1))))]) (own' := []) (shr' := [Fact.sl u8S vb1 b]) [0, 2, 9] [] [0] rfl rfl rfl rfl ?_
    refine Tk_seq ?_
    refine Tk_region ?_
    refine Tops_step rfl (OpT_move rfl rfl rfl rfl) ?_
    obtain ⟨pick2, hx5, h⟩ := ob_e h
    refine Tops_exP rfl (OpT_call (w_kit_Pick hx5) [] [] rfl rfl rfl rfl rfl callee14 rfl rfl rfl rfl) ?_
    rintro _ ⟨_, _, _, ⟨rfl, rfl, rfl⟩, rfl⟩
    refine Tops_step rfl (OpT_bin rfl rfl rfl rfl rfl (bin_mul_i (a := (2 : Int)) (b := pick2))) ?_
    refine Tops_step rfl (OpT_assign rfl rfl rfl rfl) ?_
    refine Tops_nil ?_
    refine Tk_wkS (fr' := [(0, some (vb1)), (9, some (vI (wi ((2 : Int) * pick1)))), (10, some (vI (wi ((2 : Int) * pick2))))]) (own' := []) (shr' := [Fact.sl u8S vb1 b]) [0, 9, 10] [] [0] rfl rfl rfl rfl ?_
    refine Tk_seq ?_
    refine Tk_region ?_
    refine Tops_step rfl (OpT_move rfl rfl rfl rfl) ?_
    refine Tops_step rfl (OpT_cnv rfl rfl rfl rfl (cnv_i_u16 (n := wi ((2 : Int) * pick1)) Try.underlying3 Try.underlying24)) ?_
    refine Tops_step rfl (OpT_move rfl rfl rfl rfl) ?_
    refine Tops_step rfl (OpT_cnv rfl rfl rfl rfl (cnv_i_u16 (n := wi ((2 : Int) * pick2)) Try.underlying3 Try.underlying24)) ?_
    refine Tops_step rfl (OpT_build (v := .agg #[vU8 (1 : UInt8), vU16 (u16 (wi ((2 : Int) * pick1))), vU16 (u16 (wi ((2 : Int) * pick2))), vU16 (0 : UInt16)]) rfl rfl rfl rfl (bldV (by kernel_rfl))) ?_
    refine Tops_ex rfl (OpT_alloc rfl rfl rfl tyZ34) fun b1 => ?_
    refine Tops_step rfl (OpT_storeC (cs' := [vU8 (1 : UInt8), vU16 (u16 (wi ((2 : Int) * pick1))), vU16 (u16 (wi ((2 : Int) * pick2))), vU16 (0 : UInt16)]) rfl rfl rfl rfl tyF34 (i := 0) rfl rfl rfl (one_of rfl) rfl) ?_
    refine Tops_nil ?_
    refine Tk_wkS (fr' := [(0, some (vb1)), (9, some (vI (wi ((2 : Int) * pick1)))), (10, some (vI (wi ((2 : Int) * pick2)))), (11, some (.pointer (some ⟨b1, 0, none⟩)))]) (own' := [some (cellsR b1 34 [vU8 (1 : UInt8), vU16 (u16 (wi ((2 : Int) * pick1))), vU16 (u16 (wi ((2 : Int) * pick2))), vU16 (0 : UInt16)])]) (shr' := [Fact.sl u8S vb1 b]) [0, 9, 10, 11] [0] [0] rfl rfl rfl rfl ?_
    refine Tk_seq ?_
    refine Tk_seq ?_
    refine Tk_region ?_
    refine Tops_step rfl (OpT_move rfl rfl rfl rfl) ?_
    refine Tops_step rfl (OpT_move rfl rfl rfl rfl) ?_
    refine Tops_step rfl (OpT_bin rfl rfl rfl rfl rfl (bin_add_i (a := wi ((2 : Int) * pick1)) (b := wi ((2 : Int) * pick2)))) ?_
    refine Tops_step rfl (OpT_bin rfl rfl rfl rfl rfl (bin_add_i (a := wi ((wi ((2 : Int) * pick1)) + (wi ((2 : Int) * pick2)))) (b := (2 : Int)))) ?_
    refine Tops_step rfl (OpT_move rfl rfl rfl rfl) ?_
    refine Tops_step rfl (OpT_lenS rfl rfl rfl rfl Try.underlying22 (i := 0) rfl) ?_
    refine Tops_step rfl (OpT_bin rfl rfl rfl rfl rfl (bin_gtr_i (a := wi ((wi ((wi ((2 : Int) * pick1)) + (wi ((2 : Int) * pick2)))) + (2 : Int))) (b := len b))) ?_
    refine Tops_nil ?_
    refine Tk_wkS (fr' := [(0, some (vb1)), (9, some (vI (wi ((2 : Int) * pick1)))), (10, some (vI (wi ((2 : Int) * pick2)))), (11, some (.pointer (some ⟨b1, 0, none⟩))), (53, some (vB (decide ((wi ((wi ((wi ((2 : Int) * pick1)) + (wi ((2 : Int) * pick2)))) + (2 : Int))) > (len b)))))]) (own' := [some (cellsR b1 34 [vU8 (1 : UInt8), vU16 (u16 (wi ((2 : Int) * pick1))), vU16 (u16 (wi ((2 : Int) * pick2))), vU16 (0 : UInt16)])]) (shr' := [Fact.sl u8S vb1 b]) [0, 9, 10, 11, 53] [0] [0] rfl rfl rfl rfl ?_
    rcases Bool.eq_false_or_eq_true (decide ((wi ((wi ((wi ((2 : Int) * pick1)) + (wi ((2 : Int) * pick2)))) + (2 : Int))) > (len b))) with hg5 | hg5
    · replace h := br_t hg5 h
      refine Tk_condT (congrArg (fun b => some (Value.bool b)) hg5) ?_
      refine Tk_seq ?_
      refine Tk_drawT (by kernel_rfl) ?_
      refine TA_tb [0, 1, 0, 7, 15, 31, 31, 127] (by kernel_rfl) fun htb => ?_
      refine TA_wkS (fr' := [(0, some (vb1)), (11, some (.pointer (some ⟨b1, 0, none⟩)))]) (own' := [some (cellsR b1 34 [vU8 (1 : UInt8), vU16 (u16 (wi ((2 : Int) * pick1))), vU16 (u16 (wi ((2 : Int) * pick2))), vU16 (0 : UInt16)])]) (shr' := [Fact.sl u8S vb1 b]) [0, 11] [0] [0] rfl rfl rfl rfl ?_
      obtain ⟨own2, hx6, h⟩ := ob_e h
      refine TA_seg (lo := 0) (hi := 3) htb rfl rfl (by kernel_rfl) (fun c L a w => ∃ (v3 : Value), Sat c ⟨[(0, some (vb1)), (11, some (.pointer (some ⟨b1, 0, none⟩))), (55, bif L 0 then some (vb1) else none), (56, bif L 1 then some (v3) else none), (57, bif L 2 then some (.agg #[vU8 (1 : UInt8), vU16 (u16 (wi ((2 : Int) * pick1))), vU16 (u16 (wi ((2 : Int) * pick2))), vU16 (0 : UInt16)]) else none)], [(some (cellsR b1 34 [vU8 (1 : UInt8), vU16 (u16 (wi ((2 : Int) * pick1))), vU16 (u16 (wi ((2 : Int) * pick2))), vU16 (0 : UInt16)]) : Option Res)], [Fact.sl u8S vb1 b, (bif L 1 then Fact.sl u8S v3 own2 else Fact.tt)]⟩ a w) [([], [1]), ([0], []), ([], [])] rfl (by kernel_rfl) ?_ (steps_cons ?_ (steps_cons ?_ (steps_cons ?_ (steps_nil)))) ?_
      · intro a w hs
        exact ⟨undef, hs.startF [55, 56, 57] [0] [0, 1] rfl rfl rfl rfl⟩
      · intro L a w hv K Q hK
        obtain ⟨v3, hs⟩ := hv
        refine wpOp_go rfl rfl hs (OpT_move rfl rfl rfl rfl) ?_
        rintro _ rfl a' w' hs'
        exact hK a' w' ⟨v3, hs'.putF (i := 2) rfl [0] [0, 1] rfl rfl rfl rfl⟩
      · intro L a w hv K Q hK
        obtain ⟨v3, hs⟩ := hv
        refine wpOp_go rfl rfl hs (OpT_call (ws_kit_Own hx6) [] [0] rfl rfl rfl rfl rfl callee13 rfl rfl rfl rfl) ?_
        rintro _ ⟨v3', _, _, ⟨_, rfl, rfl, rfl⟩, rfl⟩ a' w' hs'
        exact hK a' w' ⟨v3', hs'.putF (i := 3) rfl [0] [0, 2] rfl rfl rfl rfl⟩
      · intro L a w hv K Q hK
        obtain ⟨v3, hs⟩ := hv
        refine wpOp_go rfl rfl hs (OpT_loadCA (vs := [vU8 (1 : UInt8), vU16 (u16 (wi ((2 : Int) * pick1))), vU16 (u16 (wi ((2 : Int) * pick2))), vU16 (0 : UInt16)]) rfl rfl rfl rfl tyF34 (i := 0) rfl rfl rfl) ?_
        rintro _ rfl a' w' hs'
        exact hK a' w' ⟨v3, hs'.putF (i := 4) rfl [0] [0, 1] rfl rfl rfl rfl⟩
      · intro L a w hL hv
        rw [allTrue hL] at hv
        obtain ⟨v3, hs⟩ := hv
        refine (show TA _ _ _ 3 ⟨[(56, some (v3)), (57, some (.agg #[vU8 (1 : UInt8), vU16 (u16 (wi ((2 : Int) * pick1))), vU16 (u16 (wi ((2 : Int) * pick2))), vU16 (0 : UInt16)]))], [], [Fact.sl u8S v3 own2]⟩ from ?_) a w (hs.wkS [56, 57] [] [1] rfl rfl rfl rfl)
        clear hs hL
        obtain ⟨fill2, hx7, h⟩ := ob_e h
        refine TA_exP htb (by kernel_rfl) rfl rfl (OpT_call (w_frame_Fill hx7) [] [0] rfl rfl rfl rfl rfl callee15 rfl rfl rfl rfl) ?_
        rintro _ ⟨_, _, _, ⟨v4, rfl, rfl, rfl⟩, rfl⟩
        refine TA_step htb (by kernel_rfl) rfl rfl (OpT_move rfl rfl rfl rfl) ?_
        refine TA_wkS (fr' := [(54, some (.tuple #[v4, vI fill2.2]))]) (own' := [some (rowS u8S v4 fill2.1)]) (shr' := []) [54] [0] [] rfl rfl rfl rfl ?_
        refine TA_seg (lo := 5) (hi := 7) htb rfl rfl (by kernel_rfl) (fun c L a w => Sat c ⟨[(54, some (.tuple #[v4, vI fill2.2])), (59, bif L 5 then some (v4) else none), (60, bif L 6 then some (vI fill2.2) else none)], [(some (rowS u8S v4 fill2.1) : Option Res)], []⟩ a w) [([], []), ([], [])] rfl (by kernel_rfl) ?_ (steps_cons ?_ (steps_cons ?_ (steps_nil))) ?_
        · intro a w hs
          exact hs.startF [59, 60] [0] [] rfl rfl rfl rfl
        · intro L a w hv K Q hK
          have hs := hv
          refine wpOp_go rfl rfl hs (OpT_extract rfl rfl rfl rfl rfl) ?_
          rintro _ rfl a' w' hs'
          exact hK a' w' (hs'.putF (i := 1) rfl [0] [] rfl rfl rfl rfl)
        · intro L a w hv K Q hK
          have hs := hv
          refine wpOp_go rfl rfl hs (OpT_extract rfl rfl rfl rfl rfl) ?_
          rintro _ rfl a' w' hs'
          exact hK a' w' (hs'.putF (i := 2) rfl [0] [] rfl rfl rfl rfl)
        · intro L a w hL hv
          rw [allTrue hL] at hv
          have hs := hv
          refine (show TA _ _ _ 7 ⟨[(60, some (vI fill2.2))], [], []⟩ from ?_) a w (hs.wkS [60] [] [] rfl rfl rfl rfl)
          clear hs hL
          refine TA_step htb (by kernel_rfl) rfl rfl (OpT_assign rfl rfl rfl rfl) ?_
          refine TA_end rfl ?_
          refine Tk_wkS (fr' := [(8, some (vI fill2.2))]) (own' := []) (shr' := []) [8] [] [] rfl rfl rfl rfl ?_
          refine Tk_seq ?_
          refine Tk_region ?_
          refine Tops_step rfl (OpT_move rfl rfl rfl rfl) ?_
          refine Tops_step rfl (OpT_bin rfl rfl rfl rfl rfl (bin_eql_i (a := fill2.2) (b := (4 : Int)))) ?_
          refine Tops_step rfl (OpT_assign rfl rfl rfl rfl) ?_
          refine Tops_nil ?_
          refine Tk_wkS (fr' := [(6, some (vB (fill2.2 == (4 : Int))))]) (own' := []) (shr' := []) [6] [] [] rfl rfl rfl rfl ?_
          obtain ⟨hg6, h⟩ := chk_e h
          exact Tk_retV rfl rfl (resA (vs := [.bool true]) rfl ⟨(congrArg (fun b => some (Value.bool b)) hg6), trivial⟩) [] [] rfl rfl rfl ⟨rfl, rfl, rfl⟩
    · replace h := br_f hg5 h
      refine Tk_condF (congrArg (fun b => some (Value.bool b)) hg5) ?_
      refine Tk_skip ?_
      refine Tk_seq ?_
      refine Tk_region ?_
      refine Tops_step rfl (OpT_move rfl rfl rfl rfl) ?_
      obtain ⟨own3, hx8, h⟩ := ob_e h
      refine Tops_exP rfl (OpT_call (w_kit_Own hx8) [] [0] rfl rfl rfl rfl rfl callee13 rfl rfl rfl rfl) ?_
      rintro _ ⟨v5, _, _, ⟨_, rfl, rfl, rfl⟩, rfl⟩
      refine Tops_step rfl (OpT_assign rfl rfl rfl rfl) ?_
      refine Tops_nil ?_
      refine Tk_wkS (fr' := [(9, some (vI (wi ((2 : Int) * pick1)))), (10, some (vI (wi ((2 : Int) * pick2)))), (11, some (.pointer (some ⟨b1, 0, none⟩))), (12, some (v5))]) (own' := [some (cellsR b1 34 [vU8 (1 : UInt8), vU16 (u16 (wi ((2 : Int) * pick1))), vU16 (u16 (wi ((2 : Int) * pick2))), vU16 (0 : UInt16)]), some (rowS u8S v5 own3)]) (shr' := []) [9, 10, 11, 12] [0, 1] [] rfl rfl rfl rfl ?_
      refine Tk_seq ?_
      refine Tk_region ?_
      refine Tops_step rfl (OpT_move rfl rfl rfl rfl) ?_
      refine Tops_step rfl (OpT_move rfl rfl rfl rfl) ?_
      refine Tops_step rfl (OpT_move rfl rfl rfl rfl) ?_
      refine Tops_step rfl (OpT_bin rfl rfl rfl rfl rfl (bin_add_i (a := wi ((2 : Int) * pick1)) (b := wi ((2 : Int) * pick2)))) ?_
      refine Tops_step rfl (OpT_move rfl rfl rfl rfl) ?_
      refine Tops_step rfl (OpT_move rfl rfl rfl rfl) ?_
      refine Tops_step rfl (OpT_move rfl rfl rfl rfl) ?_
      refine Tops_step rfl (OpT_bin rfl rfl rfl rfl rfl (bin_add_i (a := wi ((2 : Int) * pick1)) (b := wi ((2 : Int) * pick2)))) ?_
      refine Tops_step rfl (OpT_bin rfl rfl rfl rfl rfl (bin_add_i (a := wi ((wi ((2 : Int) * pick1)) + (wi ((2 : Int) * pick2)))) (b := (1 : Int)))) ?_
      obtain ⟨y1, hx9, h⟩ := ob_e h
      refine Tops_step rfl (OpT_idxO rfl rfl rfl rfl rfl slF22 (i := 1) rfl hx9) ?_
      refine Tops_step rfl (OpT_storeO (S := u8S) (u := (0 : UInt8)) rfl rfl rfl rfl rfl tyF5 (i := 1) rfl hx9 rfl) ?_
      obtain ⟨y2, hx10, h⟩ := ob_e h
      refine Tops_step rfl (OpT_idxO rfl rfl rfl rfl rfl slF22 (i := 1) rfl hx10) ?_
      refine Tops_step rfl (OpT_storeO (S := u8S) (u := (0 : UInt8)) rfl rfl rfl rfl rfl tyF5 (i := 1) rfl hx10 rfl) ?_
      refine Tops_nil ?_
      refine Tk_wkS (fr' := [(9, some (vI (wi ((2 : Int) * pick1)))), (10, some (vI (wi ((2 : Int) * pick2)))), (11, some (.pointer (some ⟨b1, 0, none⟩))), (12, some (v5))]) (own' := [some (cellsR b1 34 [vU8 (1 : UInt8), vU16 (u16 (wi ((2 : Int) * pick1))), vU16 (u16 (wi ((2 : Int) * pick2))), vU16 (0 : UInt16)]), some (rowS u8S v5 ((own3.set (wi ((wi ((2 : Int) * pick1)) + (wi ((2 : Int) * pick2)))).toNat (0 : UInt8)).set (wi ((wi ((wi ((2 : Int) * pick1)) + (wi ((2 : Int) * pick2)))) + (1 : Int))).toNat (0 : UInt8)))]) (shr' := []) [9, 10, 11, 12] [0, 1] [] rfl rfl rfl rfl ?_
      refine Tk_seq ?_
      refine Tk_drawT (by kernel_rfl) ?_
      refine TA_tb [0, 1, 0, 7, 15, 31, 31, 63, 255] (by kernel_rfl) fun htb => ?_
      obtain ⟨own4, hx11, h⟩ := ob_e h
      refine TA_seg (lo := 0) (hi := 3) htb rfl rfl (by kernel_rfl) (fun c L a w => ∃ (v6 : Value), Sat c ⟨[(9, some (vI (wi ((2 : Int) * pick1)))), (10, some (vI (wi ((2 : Int) * pick2)))), (11, some (.pointer (some ⟨b1, 0, none⟩))), (12, some (v5)), (77, bif L 0 then some (v5) else none), (78, bif L 1 then some (v6) else none), (79, bif L 2 then some (.agg #[vU8 (1 : UInt8), vU16 (u16 (wi ((2 : Int) * pick1))), vU16 (u16 (wi ((2 : Int) * pick2))), vU16 (0 : UInt16)]) else none)], [(some (cellsR b1 34 [vU8 (1 : UInt8), vU16 (u16 (wi ((2 : Int) * pick1))), vU16 (u16 (wi ((2 : Int) * pick2))), vU16 (0 : UInt16)]) : Option Res), (some (rowS u8S v5 ((own3.set (wi ((wi ((2 : Int) * pick1)) + (wi ((2 : Int) * pick2)))).toNat (0 : UInt8)).set (wi ((wi ((wi ((2 : Int) * pick1)) + (wi ((2 : Int) * pick2)))) + (1 : Int))).toNat (0 : UInt8))) : Option Res), (bif L 1 then some (rowS u8S v6 own4) else none : Option Res)], []⟩ a w) [([], [1]), ([0], []), ([], [])] rfl (by kernel_rfl) ?_ (steps_cons ?_ (steps_cons ?_ (steps_cons ?_ (steps_nil)))) ?_
      · intro a w hs
        exact ⟨undef, hs.startF [77, 78, 79] [0, 1, 2] [] rfl rfl rfl rfl⟩
      · intro L a w hv K Q hK
        obtain ⟨v6, hs⟩ := hv
        refine wpOp_go rfl rfl hs (OpT_move rfl rfl rfl rfl) ?_
        rintro _ rfl a' w' hs'
        exact hK a' w' ⟨v6, hs'.putF (i := 4) rfl [0, 1, 2] [] rfl rfl rfl rfl⟩
      · intro L a w hv K Q hK
        obtain ⟨v6, hs⟩ := hv
        refine wpOp_go rfl rfl hs (OpT_callB [1] [0, 1, 2, 3] (w_kit_Own hx11) [] rfl rfl rfl rfl rfl callee13 rfl rfl rfl rfl rfl rfl (bor_cons (bor_row 1 rfl rfl) bor_nil) (by rintro _ _ _ ⟨_, rfl, rfl, rfl⟩; exact ⟨rfl, (ri_cons (ri_row (S := u8S) rfl _ _) ri_nil)⟩)) ?_
        rintro _ ⟨v6', _, _, ⟨_, rfl, rfl, rfl⟩, rfl⟩ a' w' hs'
        exact hK a' w' ⟨v6', hs'.putF (i := 5) rfl [0, 1, 3] [] rfl rfl rfl rfl⟩
      · intro L a w hv K Q hK
        obtain ⟨v6, hs⟩ := hv
        refine wpOp_go rfl rfl hs (OpT_loadCA (vs := [vU8 (1 : UInt8), vU16 (u16 (wi ((2 : Int) * pick1))), vU16 (u16 (wi ((2 : Int) * pick2))), vU16 (0 : UInt16)]) rfl rfl rfl rfl tyF34 (i := 0) rfl rfl rfl) ?_
        rintro _ rfl a' w' hs'
        exact hK a' w' ⟨v6, hs'.putF (i := 6) rfl [0, 1, 2] [] rfl rfl rfl rfl⟩
      · intro L a w hL hv
        rw [allTrue hL] at hv
        obtain ⟨v6, hs⟩ := hv
        refine (show TA _ _ _ 3 ⟨[(9, some (vI (wi ((2 : Int) * pick1)))), (10, some (vI (wi ((2 : Int) * pick2)))), (12, some (v5)), (78, some (v6)), (79, some (.agg #[vU8 (1 : UInt8), vU16 (u16 (wi ((2 : Int) * pick1))), vU16 (u16 (wi ((2 : Int) * pick2))), vU16 (0 : UInt16)]))], [some (rowS u8S v5 ((own3.set (wi ((wi ((2 : Int) * pick1)) + (wi ((2 : Int) * pick2)))).toNat (0 : UInt8)).set (wi ((wi ((wi ((2 : Int) * pick1)) + (wi ((2 : Int) * pick2)))) + (1 : Int))).toNat (0 : UInt8))), some (rowS u8S v6 own4)], []⟩ from ?_) a w (hs.wkS [9, 10, 12, 78, 79] [1, 2] [] rfl rfl rfl rfl)
        clear hs hL
        obtain ⟨fill3, hx12, h⟩ := ob_e h
        refine TA_exP htb (by kernel_rfl) rfl rfl (OpT_callB [1] [0, 1, 2] (w_frame_Fill hx12) [] rfl rfl rfl rfl rfl callee15 rfl rfl rfl rfl rfl rfl (bor_cons (bor_row 1 rfl rfl) bor_nil) (by rintro _ _ _ ⟨_, rfl, rfl, rfl⟩; exact ⟨rfl, (ri_cons (ri_row (S := u8S) rfl _ _) ri_nil)⟩)) ?_
        rintro _ ⟨_, _, _, ⟨v7, rfl, rfl, rfl⟩, rfl⟩
        refine TA_step htb (by kernel_rfl) rfl rfl (OpT_move rfl rfl rfl rfl) ?_
        refine TA_wkS (fr' := [(9, some (vI (wi ((2 : Int) * pick1)))), (10, some (vI (wi ((2 : Int) * pick2)))), (12, some (v5)), (76, some (.tuple #[v7, vI fill3.2]))]) (own' := [some (rowS u8S v5 ((own3.set (wi ((wi ((2 : Int) * pick1)) + (wi ((2 : Int) * pick2)))).toNat (0 : UInt8)).set (wi ((wi ((wi ((2 : Int) * pick1)) + (wi ((2 : Int) * pick2)))) + (1 : Int))).toNat (0 : UInt8))), some (rowS u8S v7 fill3.1)]) (shr' := []) [9, 10, 12, 76] [0, 2] [] rfl rfl rfl rfl ?_
        refine TA_seg (lo := 5) (hi := 8) htb rfl rfl (by kernel_rfl) (fun c L a w => Sat c ⟨[(9, some (vI (wi ((2 : Int) * pick1)))), (10, some (vI (wi ((2 : Int) * pick2)))), (12, some (v5)), (76, some (.tuple #[v7, vI fill3.2])), (81, bif L 5 then some (v7) else none), (82, bif L 6 then some (vI fill3.2) else none), (13, bif L 7 then some (v7) else none)], [(some (rowS u8S v5 ((own3.set (wi ((wi ((2 : Int) * pick1)) + (wi ((2 : Int) * pick2)))).toNat (0 : UInt8)).set (wi ((wi ((wi ((2 : Int) * pick1)) + (wi ((2 : Int) * pick2)))) + (1 : Int))).toNat (0 : UInt8))) : Option Res), (some (rowS u8S v7 fill3.1) : Option Res)], []⟩ a w) [([], [7]), ([], []), ([5], [])] rfl (by kernel_rfl) ?_ (steps_cons ?_ (steps_cons ?_ (steps_cons ?_ (steps_nil)))) ?_
        · intro a w hs
          exact hs.startF [81, 82, 13] [0, 1] [] rfl rfl rfl rfl
        · intro L a w hv K Q hK
          have hs := hv
          refine wpOp_go rfl rfl hs (OpT_extract rfl rfl rfl rfl rfl) ?_
          rintro _ rfl a' w' hs'
          exact hK a' w' (hs'.putF (i := 4) rfl [0, 1] [] rfl rfl rfl rfl)
        · intro L a w hv K Q hK
          have hs := hv
          refine wpOp_go rfl rfl hs (OpT_extract rfl rfl rfl rfl rfl) ?_
          rintro _ rfl a' w' hs'
          exact hK a' w' (hs'.putF (i := 5) rfl [0, 1] [] rfl rfl rfl rfl)
        · intro L a w hv K Q hK
          have hs := hv
          refine wpOp_go rfl rfl hs (OpT_assign rfl rfl rfl rfl) ?_
          rintro _ rfl a' w' hs'
          exact hK a' w' (hs'.putF (i := 6) rfl [0, 1] [] rfl rfl rfl rfl)
        · intro L a w hL hv
          rw [allTrue hL] at hv
          have hs := hv
          refine (show TA _ _ _ 8 ⟨[(9, some (vI (wi ((2 : Int) * pick1)))), (10, some (vI (wi ((2 : Int) * pick2)))), (12, some (v5)), (82, some (vI fill3.2)), (13, some (v7))], [some (rowS u8S v5 ((own3.set (wi ((wi ((2 : Int) * pick1)) + (wi ((2 : Int) * pick2)))).toNat (0 : UInt8)).set (wi ((wi ((wi ((2 : Int) * pick1)) + (wi ((2 : Int) * pick2)))) + (1 : Int))).toNat (0 : UInt8))), some (rowS u8S v7 fill3.1)], []⟩ from ?_) a w (hs.wkS [9, 10, 12, 82, 13] [0, 1] [] rfl rfl rfl rfl)
          clear hs hL
          refine TA_step htb (by kernel_rfl) rfl rfl (OpT_assign rfl rfl rfl rfl) ?_
          refine TA_end rfl ?_
          refine Tk_wkS (fr' := [(9, some (vI (wi ((2 : Int) * pick1)))), (10, some (vI (wi ((2 : Int) * pick2)))), (12, some (v5)), (13, some (v7)), (8, some (vI fill3.2))]) (own' := [some (rowS u8S v5 ((own3.set (wi ((wi ((2 : Int) * pick1)) + (wi ((2 : Int) * pick2)))).toNat (0 : UInt8)).set (wi ((wi ((wi ((2 : Int) * pick1)) + (wi ((2 : Int) * pick2)))) + (1 : Int))).toNat (0 : UInt8))), some (rowS u8S v7 fill3.1)]) (shr' := []) [9, 10, 12, 13, 8] [0, 1] [] rfl rfl rfl rfl ?_
          refine Tk_seq ?_
          refine Tk_seq ?_
          refine Tk_region ?_
          refine Tops_step rfl (OpT_move rfl rfl rfl rfl) ?_
          refine Tops_step rfl (OpT_bin rfl rfl rfl rfl rfl (bin_neq_i (a := fill3.2) (b := (0 : Int)))) ?_
          refine Tops_step rfl (OpT_move rfl rfl rfl rfl) ?_
          obtain ⟨hg7, h⟩ := chk_e h
          replace hg7 := not_t hg7
          refine Tops_yes rfl rfl (congrArg (fun b => some (Value.bool b)) hg7) (OpT_move rfl rfl rfl rfl) ?_
          rintro _ rfl
          refine Tops_yes rfl rfl (congrArg (fun b => some (Value.bool b)) hg7) (OpT_lenO rfl rfl rfl rfl Try.underlying22 (i := 1) rfl) ?_
          rintro _ rfl
          refine Tops_yes rfl rfl (congrArg (fun b => some (Value.bool b)) hg7) (OpT_move rfl rfl rfl rfl) ?_
          rintro _ rfl
          refine Tops_yes rfl rfl (congrArg (fun b => some (Value.bool b)) hg7) (OpT_lenO rfl rfl rfl rfl Try.underlying22 (i := 0) rfl) ?_
          rintro _ rfl
          refine Tops_yes rfl rfl (congrArg (fun b => some (Value.bool b)) hg7) (OpT_bin rfl rfl rfl rfl rfl (bin_neq_i (a := len fill3.1) (b := len ((own3.set (wi ((wi ((2 : Int) * pick1)) + (wi ((2 : Int) * pick2)))).toNat (0 : UInt8)).set (wi ((wi ((wi ((2 : Int) * pick1)) + (wi ((2 : Int) * pick2)))) + (1 : Int))).toNat (0 : UInt8))))) ?_
          rintro _ rfl
          refine Tops_step rfl (OpT_pickF rfl rfl rfl (congrArg (fun b => some (Value.bool b)) hg7) rfl) ?_
          refine Tops_nil ?_
          refine Tk_wkS (fr' := [(9, some (vI (wi ((2 : Int) * pick1)))), (10, some (vI (wi ((2 : Int) * pick2)))), (12, some (v5)), (13, some (v7)), (91, some (vB ((len fill3.1) != (len ((own3.set (wi ((wi ((2 : Int) * pick1)) + (wi ((2 : Int) * pick2)))).toNat (0 : UInt8)).set (wi ((wi ((wi ((2 : Int) * pick1)) + (wi ((2 : Int) * pick2)))) + (1 : Int))).toNat (0 : UInt8))))))]) (own' := [some (rowS u8S v5 ((own3.set (wi ((wi ((2 : Int) * pick1)) + (wi ((2 : Int) * pick2)))).toNat (0 : UInt8)).set (wi ((wi ((wi ((2 : Int) * pick1)) + (wi ((2 : Int) * pick2)))) + (1 : Int))).toNat (0 : UInt8))), some (rowS u8S v7 fill3.1)]) (shr' := []) [9, 10, 12, 13, 91] [0, 1] [] rfl rfl rfl rfl ?_
          obtain ⟨hg8, h⟩ := chk_e h
          replace hg8 := not_t hg8
          refine Tk_condF (congrArg (fun b => some (Value.bool b)) hg8) ?_
          refine Tk_skip ?_
          refine Tk_seq ?_
          refine Tk_seq ?_
          refine Tk_region ?_
          refine Tops_step rfl (OpT_assign rfl rfl rfl rfl) ?_
          refine Tops_nil ?_
          refine Tk_wkS (fr' := [(9, some (vI (wi ((2 : Int) * pick1)))), (10, some (vI (wi ((2 : Int) * pick2)))), (12, some (v5)), (13, some (v7)), (14, some (vI (0 : Int)))]) (own' := [some (rowS u8S v5 ((own3.set (wi ((wi ((2 : Int) * pick1)) + (wi ((2 : Int) * pick2)))).toNat (0 : UInt8)).set (wi ((wi ((wi ((2 : Int) * pick1)) + (wi ((2 : Int) * pick2)))) + (1 : Int))).toNat (0 : UInt8))), some (rowS u8S v7 fill3.1)]) (shr' := []) [9, 10, 12, 13, 14] [0, 1] [] rfl rfl rfl rfl ?_
          refine Tk_block ?_
          refine Tk_loopS (σ := Int) [9, 10, 12, 13, 14] [0, 1] [] (fun s => ⟨[(9, some (vI (wi ((2 : Int) * pick1)))), (10, some (vI (wi ((2 : Int) * pick2)))), (12, some (v5)), (13, some (v7)), (14, some (vI s))], [some (rowS u8S v5 ((own3.set (wi ((wi ((2 : Int) * pick1)) + (wi ((2 : Int) * pick2)))).toNat (0 : UInt8)).set (wi ((wi ((wi ((2 : Int) * pick1)) + (wi ((2 : Int) * pick2)))) + (1 : Int))).toNat (0 : UInt8))), some (rowS u8S v7 fill3.1)], []⟩) (fun nf s => law23zFrameFillsL1 pick1 pick2 own3 fill3 nf s = some true) fuel (0 : Int) h rfl rfl rfl rfl rfl (fun s h => by cases h) ?_
          rintro nf i1 h
          replace h : law23zFrameFillsL1B pick1 pick2 own3 fill3 (law23zFrameFillsL1 pick1 pick2 own3 fill3 nf) i1 = some true := h
          unfold law23zFrameFillsL1B at h
          refine Tk_seq ?_
          refine Tk_seq ?_
          refine Tk_region ?_
          refine Tops_step rfl (OpT_move rfl rfl rfl rfl) ?_
          refine Tops_step rfl (OpT_move rfl rfl rfl rfl) ?_
          refine Tops_step rfl (OpT_lenO rfl rfl rfl rfl Try.underlying22 (i := 0) rfl) ?_
          refine Tops_step rfl (OpT_bin rfl rfl rfl rfl rfl (bin_lss_i (a := i1) (b := len ((own3.set (wi ((wi ((2 : Int) * pick1)) + (wi ((2 : Int) * pick2)))).toNat (0 : UInt8)).set (wi ((wi ((wi ((2 : Int) * pick1)) + (wi ((2 : Int) * pick2)))) + (1 : Int))).toNat (0 : UInt8))))) ?_
          refine Tops_nil ?_
          refine Tk_wkS (fr' := [(9, some (vI (wi ((2 : Int) * pick1)))), (10, some (vI (wi ((2 : Int) * pick2)))), (12, some (v5)), (13, some (v7)), (14, some (vI i1)), (95, some (vB (decide (i1 < (len ((own3.set (wi ((wi ((2 : Int) * pick1)) + (wi ((2 : Int) * pick2)))).toNat (0 : UInt8)).set (wi ((wi ((wi ((2 : Int) * pick1)) + (wi ((2 : Int) * pick2)))) + (1 : Int))).toNat (0 : UInt8)))))))]) (own' := [some (rowS u8S v5 ((own3.set (wi ((wi ((2 : Int) * pick1)) + (wi ((2 : Int) * pick2)))).toNat (0 : UInt8)).set (wi ((wi ((wi ((2 : Int) * pick1)) + (wi ((2 : Int) * pick2)))) + (1 : Int))).toNat (0 : UInt8))), some (rowS u8S v7 fill3.1)]) (shr' := []) [9, 10, 12, 13, 14, 95] [0, 1] [] rfl rfl rfl rfl ?_
          rcases Bool.eq_false_or_eq_true (decide (i1 < (len ((own3.set (wi ((wi ((2 : Int) * pick1)) + (wi ((2 : Int) * pick2)))).toNat (0 : UInt8)).set (wi ((wi ((wi ((2 : Int) * pick1)) + (wi ((2 : Int) * pick2)))) + (1 : Int))).toNat (0 : UInt8))))) with hg9 | hg9
          · replace h := br_t hg9 h
            refine Tk_condT (congrArg (fun b => some (Value.bool b)) hg9) ?_
            refine Tk_skip ?_
            refine Tk_seq ?_
            refine Tk_block ?_
            refine Tk_seq ?_
            refine Tk_drawT (by kernel_rfl) ?_
            refine TA_tb [0, 0, 0, 6, 15, 31, 63, 63, 63, 447, 959, 2047, 4095, 8191, 16383, 16383, 65535, 131071, 16383, 16383, 802815, 1851391, 4194303, 8388607] (by kernel_rfl) fun htb => ?_
            refine TA_wkS (fr' := [(9, some (vI (wi ((2 : Int) * pick1)))), (10, some (vI (wi ((2 : Int) * pick2)))), (12, some (v5)), (13, some (v7)), (14, some (vI i1))]) (own' := [some (rowS u8S v5 ((own3.set (wi ((wi ((2 : Int) * pick1)) + (wi ((2 : Int) * pick2)))).toNat (0 : UInt8)).set (wi ((wi ((wi ((2 : Int) * pick1)) + (wi ((2 : Int) * pick2)))) + (1 : Int))).toNat (0 : UInt8))), some (rowS u8S v7 fill3.1)]) (shr' := []) [9, 10, 12, 13, 14] [0, 1] [] rfl rfl rfl rfl ?_
            refine TA_seg (lo := 0) (hi := 4) htb rfl rfl (by kernel_rfl) (fun c L a w => Sat c ⟨[(9, some (vI (wi ((2 : Int) * pick1)))), (10, some (vI (wi ((2 : Int) * pick2)))), (12, some (v5)), (13, some (v7)), (14, some (vI i1)), (98, bif L 0 then some (vI i1) else none), (99, bif L 1 then some (vI (wi ((2 : Int) * pick1))) else none), (100, bif L 2 then some (vI (wi ((2 : Int) * pick2))) else none), (101, bif L 3 then some (vI (wi ((wi ((2 : Int) * pick1)) + (wi ((2 : Int) * pick2))))) else none)], [(some (rowS u8S v5 ((own3.set (wi ((wi ((2 : Int) * pick1)) + (wi ((2 : Int) * pick2)))).toNat (0 : UInt8)).set (wi ((wi ((wi ((2 : Int) * pick1)) + (wi ((2 : Int) * pick2)))) + (1 : Int))).toNat (0 : UInt8))) : Option Res), (some (rowS u8S v7 fill3.1) : Option Res)], []⟩ a w) [([], []), ([], [3]), ([], [3]), ([1, 2], [])] rfl (by kernel_rfl) ?_ (steps_cons ?_ (steps_cons ?_ (steps_cons ?_ (steps_cons ?_ (steps_nil))))) ?_
            · intro a w hs
              exact hs.startF [98, 99, 100, 101] [0, 1] [] rfl rfl rfl rfl
            · intro L a w hv K Q hK
              have hs := hv
              refine wpOp_go rfl rfl hs (OpT_move rfl rfl rfl rfl) ?_
              rintro _ rfl a' w' hs'
              exact hK a' w' (hs'.putF (i := 5) rfl [0, 1] [] rfl rfl rfl rfl)
            · intro L a w hv K Q hK
              have hs := hv
              refine wpOp_go rfl rfl hs (OpT_move rfl rfl rfl rfl) ?_
              rintro _ rfl a' w' hs'
              exact hK a' w' (hs'.putF (i := 6) rfl [0, 1] [] rfl rfl rfl rfl)
            · intro L a w hv K Q hK
              have hs := hv
              refine wpOp_go rfl rfl hs (OpT_move rfl rfl rfl rfl) ?_
              rintro _ rfl a' w' hs'
              exact hK a' w' (hs'.putF (i := 7) rfl [0, 1] [] rfl rfl rfl rfl)
            · intro L a w hv K Q hK
              have hs := hv
              refine wpOp_go rfl rfl hs (OpT_bin rfl rfl rfl rfl rfl (bin_add_i (a := wi ((2 : Int) * pick1)) (b := wi ((2 : Int) * pick2)))) ?_
              rintro _ rfl a' w' hs'
              exact hK a' w' (hs'.putF (i := 8) rfl [0, 1] [] rfl rfl rfl rfl)
            · intro L a w hL hv
              rw [allTrue hL] at hv
              have hs := hv
              refine (show TA _ _ _ 4 ⟨[(9, some (vI (wi ((2 : Int) * pick1)))), (10, some (vI (wi ((2 : Int) * pick2)))), (12, some (v5)), (13, some (v7)), (14, some (vI i1)), (98, some (vI i1)), (101, some (vI (wi ((wi ((2 : Int) * pick1)) + (wi ((2 : Int) * pick2))))))], [some (rowS u8S v5 ((own3.set (wi ((wi ((2 : Int) * pick1)) + (wi ((2 : Int) * pick2)))).toNat (0 : UInt8)).set (wi ((wi ((wi ((2 : Int) * pick1)) + (wi ((2 : Int) * pick2)))) + (1 : Int))).toNat (0 : UInt8))), some (rowS u8S v7 fill3.1)], []⟩ from ?_) a w (hs.wkS [9, 10, 12, 13, 14, 98, 101] [0, 1] [] rfl rfl rfl rfl)
              clear hs hL
              refine TA_step htb (by kernel_rfl) rfl rfl (OpT_bin rfl rfl rfl rfl rfl (bin_neq_i (a := i1) (b := wi ((wi ((2 : Int) * pick1)) + (wi ((2 : Int) * pick2)))))) ?_
              refine TA_step htb (by kernel_rfl) rfl rfl (OpT_move rfl rfl rfl rfl) ?_
              refine TA_wkS (fr' := [(9, some (vI (wi ((2 : Int) * pick1)))), (10, some (vI (wi ((2 : Int) * pick2)))), (12, some (v5)), (13, some (v7)), (14, some (vI i1)), (103, some (vB (i1 != (wi ((wi ((2 : Int) * pick1)) + (wi ((2 : Int) * pick2)))))))]) (own' := [some (rowS u8S v5 ((own3.set (wi ((wi ((2 : Int) * pick1)) + (wi ((2 : Int) * pick2)))).toNat (0 : UInt8)).set (wi ((wi ((wi ((2 : Int) * pick1)) + (wi ((2 : Int) * pick2)))) + (1 : Int))).toNat (0 : UInt8))), some (rowS u8S v7 fill3.1)]) (shr' := []) [9, 10, 12, 13, 14, 103] [0, 1] [] rfl rfl rfl rfl ?_
              rcases Bool.eq_false_or_eq_true (i1 != (wi ((wi ((2 : Int) * pick1)) + (wi ((2 : Int) * pick2))))) with hg10 | hg10
              · replace h := br_t hg10 h
                refine TA_seg (lo := 6) (hi := 11) htb rfl rfl (by kernel_rfl) (fun c L a w => Sat c ⟨[(9, some (vI (wi ((2 : Int) * pick1)))), (10, some (vI (wi ((2 : Int) * pick2)))), (12, some (v5)), (13, some (v7)), (14, some (vI i1)), (103, some (vB (i1 != (wi ((wi ((2 : Int) * pick1)) + (wi ((2 : Int) * pick2))))))), (104, bif L 6 then some (vI i1) else none), (105, bif L 7 then some (vI (wi ((2 : Int) * pick1))) else none), (106, bif L 8 then some (vI (wi ((2 : Int) * pick2))) else none), (107, bif L 9 then some (vI (wi ((wi ((2 : Int) * pick1)) + (wi ((2 : Int) * pick2))))) else none), (108, bif L 10 then some (vI (wi ((wi ((wi ((2 : Int) * pick1)) + (wi ((2 : Int) * pick2)))) + (1 : Int)))) else none)], [(some (rowS u8S v5 ((own3.set (wi ((wi ((2 : Int) * pick1)) + (wi ((2 : Int) * pick2)))).toNat (0 : UInt8)).set (wi ((wi ((wi ((2 : Int) * pick1)) + (wi ((2 : Int) * pick2)))) + (1 : Int))).toNat (0 : UInt8))) : Option Res), (some (rowS u8S v7 fill3.1) : Option Res)], []⟩ a w) [([], []), ([], [9, 10]), ([], [9, 10]), ([7, 8], [10]), ([7, 8, 9], [])] rfl (by kernel_rfl) ?_ (steps_cons ?_ (steps_cons ?_ (steps_cons ?_ (steps_cons ?_ (steps_cons ?_ (steps_nil)))))) ?_
                · intro a w hs
                  exact hs.startF [104, 105, 106, 107, 108] [0, 1] [] rfl rfl rfl rfl
                · intro L a w hv K Q hK
                  have hs := hv
                  refine wpOp_yes rfl rfl rfl hs (congrArg (fun b => some (Value.bool b)) hg10) (OpT_move rfl rfl rfl rfl) ?_
                  rintro _ rfl a' w' hs'
                  exact hK a' w' (hs'.putF (i := 6) rfl [0, 1] [] rfl rfl rfl rfl)
                · intro L a w hv K Q hK
                  have hs := hv
                  refine wpOp_yes rfl rfl rfl hs (congrArg (fun b => some (Value.bool b)) hg10) (OpT_move rfl rfl rfl rfl) ?_
                  rintro _ rfl a' w' hs'
                  exact hK a' w' (hs'.putF (i := 7) rfl [0, 1] [] rfl rfl rfl rfl)
                · intro L a w hv K Q hK
                  have hs := hv
                  refine wpOp_yes rfl rfl rfl hs (congrArg (fun b => some (Value.bool b)) hg10) (OpT_move rfl rfl rfl rfl) ?_
                  rintro _ rfl a' w' hs'
                  exact hK a' w' (hs'.putF (i := 8) rfl [0, 1] [] rfl rfl rfl rfl)
                · intro L a w hv K Q hK
                  have hs := hv
                  refine wpOp_yes rfl rfl rfl hs (congrArg (fun b => some (Value.bool b)) hg10) (OpT_bin rfl rfl rfl rfl rfl (bin_add_i (a := wi ((2 : Int) * pick1)) (b := wi ((2 : Int) * pick2)))) ?_
                  rintro _ rfl a' w' hs'
                  exact hK a' w' (hs'.putF (i := 9) rfl [0, 1] [] rfl rfl rfl rfl)
                · intro L a w hv K Q hK
                  have hs := hv
                  refine wpOp_yes rfl rfl rfl hs (congrArg (fun b => some (Value.bool b)) hg10) (OpT_bin rfl rfl rfl rfl rfl (bin_add_i (a := wi ((wi ((2 : Int) * pick1)) + (wi ((2 : Int) * pick2)))) (b := (1 : Int)))) ?_
                  rintro _ rfl a' w' hs'
                  exact hK a' w' (hs'.putF (i := 10) rfl [0, 1] [] rfl rfl rfl rfl)
                · intro L a w hL hv
                  rw [allTrue hL] at hv
                  have hs := hv
                  refine (show TA _ _ _ 11 ⟨[(9, some (vI (wi ((2 : Int) * pick1)))), (10, some (vI (wi ((2 : Int) * pick2)))), (12, some (v5)), (13, some (v7)), (14, some (vI i1)), (103, some (vB (i1 != (wi ((wi ((2 : Int) * pick1)) + (wi ((2 : Int) * pick2))))))), (104, some (vI i1)), (108, some (vI (wi ((wi ((wi ((2 : Int) * pick1)) + (wi ((2 : Int) * pick2)))) + (1 : Int)))))], [some (rowS u8S v5 ((own3.set (wi ((wi ((2 : Int) * pick1)) + (wi ((2 : Int) * pick2)))).toNat (0 : UInt8)).set (wi ((wi ((wi ((2 : Int) * pick1)) + (wi ((2 : Int) * pick2)))) + (1 : Int))).toNat (0 : UInt8))), some (rowS u8S v7 fill3.1)], []⟩ from ?_) a w (hs.wkS [9, 10, 12, 13, 14, 103, 104, 108] [0, 1] [] rfl rfl rfl rfl)
                  clear hs hL
                  refine TA_yes htb (by kernel_rfl) rfl rfl rfl (congrArg (fun b => some (Value.bool b)) hg10) (OpT_bin rfl rfl rfl rfl rfl (bin_neq_i (a := i1) (b := wi ((wi ((wi ((2 : Int) * pick1)) + (wi ((2 : Int) * pick2)))) + (1 : Int))))) ?_
                  rintro _ rfl
                  refine TA_step htb (by kernel_rfl) rfl rfl (OpT_pickT rfl rfl rfl (congrArg (fun b => some (Value.bool b)) hg10) rfl) ?_
                  refine TA_step htb (by kernel_rfl) rfl rfl (OpT_move rfl rfl rfl rfl) ?_
                  refine TA_wkS (fr' := [(9, some (vI (wi ((2 : Int) * pick1)))), (10, some (vI (wi ((2 : Int) * pick2)))), (12, some (v5)), (13, some (v7)), (14, some (vI i1)), (111, some (vB (i1 != (wi ((wi ((wi ((2 : Int) * pick1)) + (wi ((2 : Int) * pick2)))) + (1 : Int))))))]) (own' := [some (rowS u8S v5 ((own3.set (wi ((wi ((2 : Int) * pick1)) + (wi ((2 : Int) * pick2)))).toNat (0 : UInt8)).set (wi ((wi ((wi ((2 : Int) * pick1)) + (wi ((2 : Int) * pick2)))) + (1 : Int))).toNat (0 : UInt8))), some (rowS u8S v7 fill3.1)]) (shr' := []) [9, 10, 12, 13, 14, 111] [0, 1] [] rfl rfl rfl rfl ?_
                  rcases Bool.eq_false_or_eq_true (i1 != (wi ((wi ((wi ((2 : Int) * pick1)) + (wi ((2 : Int) * pick2)))) + (1 : Int)))) with hg11 | hg11
                  · replace h := br_t hg11 h
                    obtain ⟨y3, hx13, h⟩ := ob_e h
                    obtain ⟨y4, hx14, h⟩ := ob_e h
                    refine TA_seg (lo := 14) (hi := 22) htb rfl rfl (by kernel_rfl) (fun c L a w => Sat c ⟨[(9, some (vI (wi ((2 : Int) * pick1)))), (10, some (vI (wi ((2 : Int) * pick2)))), (12, some (v5)), (13, some (v7)), (14, some (vI i1)), (111, some (vB (i1 != (wi ((wi ((wi ((2 : Int) * pick1)) + (wi ((2 : Int) * pick2)))) + (1 : Int)))))), (112, bif L 14 then some (v7) else none), (113, bif L 15 then some (vI i1) else none), (114, bif L 16 then some (rowPtr v7 (Int.toNat i1 * 1)) else none), (115, bif L 17 then some (vU8 y3) else none), (116, bif L 18 then some (v5) else none), (117, bif L 19 then some (vI i1) else none), (118, bif L 20 then some (rowPtr v5 (Int.toNat i1 * 1)) else none), (119, bif L 21 then some (vU8 y4) else none)], [(some (rowS u8S v5 ((own3.set (wi ((wi ((2 : Int) * pick1)) + (wi ((2 : Int) * pick2)))).toNat (0 : UInt8)).set (wi ((wi ((wi ((2 : Int) * pick1)) + (wi ((2 : Int) * pick2)))) + (1 : Int))).toNat (0 : UInt8))) : Option Res), (some (rowS u8S v7 fill3.1) : Option Res)], []⟩ a w) [([], [16, 17]), ([], [16, 17]), ([14, 15], [17]), ([14, 15, 16], []), ([], [20, 21]), ([], [20, 21]), ([18, 19], [21]), ([18, 19, 20], [])] rfl (by kernel_rfl) ?_ (steps_cons ?_ (steps_cons ?_ (steps_cons ?_ (steps_cons ?_ (steps_cons ?_ (steps_cons ?_ (steps_cons ?_ (steps_cons ?_ (steps_nil))))))))) ?_
                    · intro a w hs
                      exact hs.startF [112, 113, 114, 115, 116, 117, 118, 119] [0, 1] [] rfl rfl rfl rfl
                    · intro L a w hv K Q hK
                      have hs := hv
                      refine wpOp_yes rfl rfl rfl hs (congrArg (fun b => some (Value.bool b)) hg11) (OpT_move rfl rfl rfl rfl) ?_
                      rintro _ rfl a' w' hs'
                      exact hK a' w' (hs'.putF (i := 6) rfl [0, 1] [] rfl rfl rfl rfl)
                    · intro L a w hv K Q hK
                      have hs := hv
                      refine wpOp_yes rfl rfl rfl hs (congrArg (fun b => some (Value.bool b)) hg11) (OpT_move rfl rfl rfl rfl) ?_
                      rintro _ rfl a' w' hs'
                      exact hK a' w' (hs'.putF (i := 7) rfl [0, 1] [] rfl rfl rfl rfl)
                    · intro L a w hv K Q hK
                      have hs := hv
                      refine wpOp_yes rfl rfl rfl hs (congrArg (fun b => some (Value.bool b)) hg11) (OpT_idxO rfl rfl rfl rfl rfl slF22 (i := 1) rfl hx13) ?_
                      rintro _ rfl a' w' hs'
                      exact hK a' w' (hs'.putF (i := 8) rfl [0, 1] [] rfl rfl rfl rfl)
                    · intro L a w hv K Q hK
                      have hs := hv
                      refine wpOp_yes rfl rfl rfl hs (congrArg (fun b => some (Value.bool b)) hg11) (OpT_loadO (S := u8S) rfl rfl rfl rfl rfl tyF5 (i := 1) rfl hx13 rfl rfl) ?_
                      rintro _ rfl a' w' hs'
                      exact hK a' w' (hs'.putF (i := 9) rfl [0, 1] [] rfl rfl rfl rfl)
                    · intro L a w hv K Q hK
                      have hs := hv
                      refine wpOp_yes rfl rfl rfl hs (congrArg (fun b => some (Value.bool b)) hg11) (OpT_move rfl rfl rfl rfl) ?_
                      rintro _ rfl a' w' hs'
                      exact hK a' w' (hs'.putF (i := 10) rfl [0, 1] [] rfl rfl rfl rfl)
                    · intro L a w hv K Q hK
                      have hs := hv
                      refine wpOp_yes rfl rfl rfl hs (congrArg (fun b => some (Value.bool b)) hg11) (OpT_move rfl rfl rfl rfl) ?_
                      rintro _ rfl a' w' hs'
                      exact hK a' w' (hs'.putF (i := 11) rfl [0, 1] [] rfl rfl rfl rfl)
                    · intro L a w hv K Q hK
                      have hs := hv
                      refine wpOp_yes rfl rfl rfl hs (congrArg (fun b => some (Value.bool b)) hg11) (OpT_idxO rfl rfl rfl rfl rfl slF22 (i := 0) rfl hx14) ?_
                      rintro _ rfl a' w' hs'
                      exact hK a' w' (hs'.putF (i := 12) rfl [0, 1] [] rfl rfl rfl rfl)
                    · intro L a w hv K Q hK
                      have hs := hv
                      refine wpOp_yes rfl rfl rfl hs (congrArg (fun b => some (Value.bool b)) hg11) (OpT_loadO (S := u8S) rfl rfl rfl rfl rfl tyF5 (i := 0) rfl hx14 rfl rfl) ?_
                      rintro _ rfl a' w' hs'
                      exact hK a' w' (hs'.putF (i := 13) rfl [0, 1] [] rfl rfl rfl rfl)
                    · intro L a w hL hv
                      rw [allTrue hL] at hv
                      have hs := hv
                      refine (show TA _ _ _ 22 ⟨[(9, some (vI (wi ((2 : Int) * pick1)))), (10, some (vI (wi ((2 : Int) * pick2)))), (12, some (v5)), (13, some (v7)), (14, some (vI i1)), (111, some (vB (i1 != (wi ((wi ((wi ((2 : Int) * pick1)) + (wi ((2 : Int) * pick2)))) + (1 : Int)))))), (115, some (vU8 y3)), (119, some (vU8 y4))], [some (rowS u8S v5 ((own3.set (wi ((wi ((2 : Int) * pick1)) + (wi ((2 : Int) * pick2)))).toNat (0 : UInt8)).set (wi ((wi ((wi ((2 : Int) * pick1)) + (wi ((2 : Int) * pick2)))) + (1 : Int))).toNat (0 : UInt8))), some (rowS u8S v7 fill3.1)], []⟩ from ?_) a w (hs.wkS [9, 10, 12, 13, 14, 111, 115, 119] [0, 1] [] rfl rfl rfl rfl)
                      clear hs hL
                      refine TA_yes htb (by kernel_rfl) rfl rfl rfl (congrArg (fun b => some (Value.bool b)) hg11) (OpT_bin rfl rfl rfl rfl rfl (bin_neq_u8 (a := y3) (b := y4))) ?_
                      rintro _ rfl
                      refine TA_step htb (by kernel_rfl) rfl rfl (OpT_pickT rfl rfl rfl (congrArg (fun b => some (Value.bool b)) hg11) rfl) ?_
                      refine TA_end rfl ?_
                      refine Tk_wkS (fr' := [(9, some (vI (wi ((2 : Int) * pick1)))), (10, some (vI (wi ((2 : Int) * pick2)))), (12, some (v5)), (13, some (v7)), (14, some (vI i1)), (121, some (vB (y3 != y4)))]) (own' := [some (rowS u8S v5 ((own3.set (wi ((wi ((2 : Int) * pick1)) + (wi ((2 : Int) * pick2)))).toNat (0 : UInt8)).set (wi ((wi ((wi ((2 : Int) * pick1)) + (wi ((2 : Int) * pick2)))) + (1 : Int))).toNat (0 : UInt8))), some (rowS u8S v7 fill3.1)]) (shr' := []) [9, 10, 12, 13, 14, 121] [0, 1] [] rfl rfl rfl rfl ?_
                      obtain ⟨hg12, h⟩ := chk_e h
                      replace hg12 := not_t hg12
                      refine Tk_condF (congrArg (fun b => some (Value.bool b)) hg12) ?_
                      refine Tk_skip ?_
                      refine Tk_blk ?_
                      refine Tk_region ?_
                      refine Tops_step rfl (OpT_move rfl rfl rfl rfl) ?_
                      refine Tops_step rfl (OpT_bin rfl rfl rfl rfl rfl (bin_add_i (a := i1) (b := (1 : Int)))) ?_
                      refine Tops_step rfl (OpT_assign rfl rfl rfl rfl) ?_
                      refine Tops_nil ?_
                      refine Tk_wkS (fr' := [(9, some (vI (wi ((2 : Int) * pick1)))), (10, some (vI (wi ((2 : Int) * pick2)))), (12, some (v5)), (13, some (v7)), (14, some (vI (wi (i1 + (1 : Int)))))]) (own' := [some (rowS u8S v5 ((own3.set (wi ((wi ((2 : Int) * pick1)) + (wi ((2 : Int) * pick2)))).toNat (0 : UInt8)).set (wi ((wi ((wi ((2 : Int) * pick1)) + (wi ((2 : Int) * pick2)))) + (1 : Int))).toNat (0 : UInt8))), some (rowS u8S v7 fill3.1)]) (shr' := []) [9, 10, 12, 13, 14] [0, 1] [] rfl rfl rfl rfl ?_
                      exact Tk_backS (wi (i1 + (1 : Int))) h [9, 10, 12, 13, 14] [0, 1] [] rfl rfl rfl rfl rfl
                  · replace h := br_f hg11 h
                    refine TA_seg (lo := 14) (hi := 22) htb rfl rfl (by kernel_rfl) (fun c L a w => Sat c ⟨[(9, some (vI (wi ((2 : Int) * pick1)))), (10, some (vI (wi ((2 : Int) * pick2)))), (12, some (v5)), (13, some (v7)), (14, some (vI i1)), (111, some (vB (i1 != (wi ((wi ((wi ((2 : Int) * pick1)) + (wi ((2 : Int) * pick2)))) + (1 : Int)))))), (112, bif L 14 then some (undef) else none), (113, bif L 15 then some (undef) else none), (114, bif L 16 then some (undef) else none), (115, bif L 17 then some (undef) else none), (116, bif L 18 then some (undef) else none), (117, bif L 19 then some (undef) else none), (118, bif L 20 then some (undef) else none), (119, bif L 21 then some (undef) else none)], [(some (rowS u8S v5 ((own3.set (wi ((wi ((2 : Int) * pick1)) + (wi ((2 : Int) * pick2)))).toNat (0 : UInt8)).set (wi ((wi ((wi ((2 : Int) * pick1)) + (wi ((2 : Int) * pick2)))) + (1 : Int))).toNat (0 : UInt8))) : Option Res), (some (rowS u8S v7 fill3.1) : Option Res)], []⟩ a w) [([], [16, 17]), ([], [16, 17]), ([14, 15], [17]), ([14, 15, 16], []), ([], [20, 21]), ([], [20, 21]), ([18, 19], [21]), ([18, 19, 20], [])] rfl (by kernel_rfl) ?_ (steps_cons ?_ (steps_cons ?_ (steps_cons ?_ (steps_cons ?_ (steps_cons ?_ (steps_cons ?_ (steps_cons ?_ (steps_cons ?_ (steps_nil))))))))) ?_
                    · intro a w hs
                      exact hs.startF [112, 113, 114, 115, 116, 117, 118, 119] [0, 1] [] rfl rfl rfl rfl
                    · intro L a w hv K Q hK
                      have hs := hv
                      refine wpOp_no rfl rfl rfl hs (congrArg (fun b => some (Value.bool b)) hg11) rfl rfl ?_
                      intro a' w' hs'
                      exact hK a' w' (hs'.putF (i := 6) rfl [0, 1] [] rfl rfl rfl rfl)
                    · intro L a w hv K Q hK
                      have hs := hv
                      refine wpOp_no rfl rfl rfl hs (congrArg (fun b => some (Value.bool b)) hg11) rfl rfl ?_
                      intro a' w' hs'
                      exact hK a' w' (hs'.putF (i := 7) rfl [0, 1] [] rfl rfl rfl rfl)
                    · intro L a w hv K Q hK
                      have hs := hv
                      refine wpOp_no rfl rfl rfl hs (congrArg (fun b => some (Value.bool b)) hg11) rfl rfl ?_
                      intro a' w' hs'
                      exact hK a' w' (hs'.putF (i := 8) rfl [0, 1] [] rfl rfl rfl rfl)
                    · intro L a w hv K Q hK
                      have hs := hv
                      refine wpOp_no rfl rfl rfl hs (congrArg (fun b => some (Value.bool b)) hg11) rfl rfl ?_
                      intro a' w' hs'
                      exact hK a' w' (hs'.putF (i := 9) rfl [0, 1] [] rfl rfl rfl rfl)
                    · intro L a w hv K Q hK
                      have hs := hv
                      refine wpOp_no rfl rfl rfl hs (congrArg (fun b => some (Value.bool b)) hg11) rfl rfl ?_
                      intro a' w' hs'
                      exact hK a' w' (hs'.putF (i := 10) rfl [0, 1] [] rfl rfl rfl rfl)
                    · intro L a w hv K Q hK
                      have hs := hv
                      refine wpOp_no rfl rfl rfl hs (congrArg (fun b => some (Value.bool b)) hg11) rfl rfl ?_
                      intro a' w' hs'
                      exact hK a' w' (hs'.putF (i := 11) rfl [0, 1] [] rfl rfl rfl rfl)
                    · intro L a w hv K Q hK
                      have hs := hv
                      refine wpOp_no rfl rfl rfl hs (congrArg (fun b => some (Value.bool b)) hg11) rfl rfl ?_
                      intro a' w' hs'
                      exact hK a' w' (hs'.putF (i := 12) rfl [0, 1] [] rfl rfl rfl rfl)
                    · intro L a w hv K Q hK
                      have hs := hv
                      refine wpOp_no rfl rfl rfl hs (congrArg (fun b => some (Value.bool b)) hg11) rfl rfl ?_
                      intro a' w' hs'
                      exact hK a' w' (hs'.putF (i := 13) rfl [0, 1] [] rfl rfl rfl rfl)
                    · intro L a w hL hv
                      rw [allTrue hL] at hv
                      have hs := hv
                      refine (show TA _ _ _ 22 ⟨[(9, some (vI (wi ((2 : Int) * pick1)))), (10, some (vI (wi ((2 : Int) * pick2)))), (12, some (v5)), (13, some (v7)), (14, some (vI i1)), (111, some (vB (i1 != (wi ((wi ((wi ((2 : Int) * pick1)) + (wi ((2 : Int) * pick2)))) + (1 : Int)))))), (115, some (undef)), (119, some (undef))], [some (rowS u8S v5 ((own3.set (wi ((wi ((2 : Int) * pick1)) + (wi ((2 : Int) * pick2)))).toNat (0 : UInt8)).set (wi ((wi ((wi ((2 : Int) * pick1)) + (wi ((2 : Int) * pick2)))) + (1 : Int))).toNat (0 : UInt8))), some (rowS u8S v7 fill3.1)], []⟩ from ?_) a w (hs.wkS [9, 10, 12, 13, 14, 111, 115, 119] [0, 1] [] rfl rfl rfl rfl)
                      clear hs hL
                      refine TA_no htb (by kernel_rfl) rfl rfl rfl (congrArg (fun b => some (Value.bool b)) hg11) rfl rfl ?_
                      refine TA_step htb (by kernel_rfl) rfl rfl (OpT_pickF rfl rfl rfl (congrArg (fun b => some (Value.bool b)) hg11) rfl) ?_
                      refine TA_end rfl ?_
                      refine Tk_wkS (fr' := [(9, some (vI (wi ((2 : Int) * pick1)))), (10, some (vI (wi ((2 : Int) * pick2)))), (12, some (v5)), (13, some (v7)), (14, some (vI i1)), (121, some (vB false))]) (own' := [some (rowS u8S v5 ((own3.set (wi ((wi ((2 : Int) * pick1)) + (wi ((2 : Int) * pick2)))).toNat (0 : UInt8)).set (wi ((wi ((wi ((2 : Int) * pick1)) + (wi ((2 : Int) * pick2)))) + (1 : Int))).toNat (0 : UInt8))), some (rowS u8S v7 fill3.1)]) (shr' := []) [9, 10, 12, 13, 14, 121] [0, 1] [] rfl rfl rfl rfl ?_
                      refine Tk_condF rfl ?_
                      refine Tk_skip ?_
                      refine Tk_blk ?_
                      refine Tk_region ?_
                      refine Tops_step rfl (OpT_move rfl rfl rfl rfl) ?_
                      refine Tops_step rfl (OpT_bin rfl rfl rfl rfl rfl (bin_add_i (a := i1) (b := (1 : Int)))) ?_
                      refine Tops_step rfl (OpT_assign rfl rfl rfl rfl) ?_
                      refine Tops_nil ?_
                      refine Tk_wkS (fr' := [(9, some (vI (wi ((2 : Int) * pick1)))), (10, some (vI (wi ((2 : Int) * pick2)))), (12, some (v5)), (13, some (v7)), (14, some (vI (wi (i1 + (1 : Int)))))]) (own' := [some (rowS u8S v5 ((own3.set (wi ((wi ((2 : Int) * pick1)) + (wi ((2 : Int) * pick2)))).toNat (0 : UInt8)).set (wi ((wi ((wi ((2 : Int) * pick1)) + (wi ((2 : Int) * pick2)))) + (1 : Int))).toNat (0 : UInt8))), some (rowS u8S v7 fill3.1)]) (shr' := []) [9, 10, 12, 13, 14] [0, 1] [] rfl rfl rfl rfl ?_
                      exact Tk_backS (wi (i1 + (1 : Int))) h [9, 10, 12, 13, 14] [0, 1] [] rfl rfl rfl rfl rfl
              · replace h := br_f hg10 h
                refine TA_seg (lo := 6) (hi := 11) htb rfl rfl (by kernel_rfl) (fun c L a w => Sat c ⟨[(9, some (vI (wi ((2 : Int) * pick1)))), (10, some (vI (wi ((2 : Int) * pick2)))), (12, some (v5)), (13, some (v7)), (14, some (vI i1)), (103, some (vB (i1 != (wi ((wi ((2 : Int) * pick1)) + (wi ((2 : Int) * pick2))))))), (104, bif L 6 then some (undef) else none), (105, bif L 7 then some (undef) else none), (106, bif L 8 then some (undef) else none), (107, bif L 9 then some (undef) else none), (108, bif L 10 then some (undef) else none)], [(some (rowS u8S v5 ((own3.set (wi ((wi ((2 : Int) * pick1)) + (wi ((2 : Int) * pick2)))).toNat (0 : UInt8)).set (wi ((wi ((wi ((2 : Int) * pick1)) + (wi ((2 : Int) * pick2)))) + (1 : Int))).toNat (0 : UInt8))) : Option Res), (some (rowS u8S v7 fill3.1) : Option Res)], []⟩ a w) [([], []), ([], [9, 10]), ([], [9, 10]), ([7, 8], [10]), ([7, 8, 9], [])] rfl (by kernel_rfl) ?_ (steps_cons ?_ (steps_cons ?_ (steps_cons ?_ (steps_cons ?_ (steps_cons ?_ (steps_nil)))))) ?_
                · intro a w hs
                  exact hs.startF [104, 105, 106, 107, 108] [0, 1] [] rfl rfl rfl rfl
                · intro L a w hv K Q hK
                  have hs := hv
                  refine wpOp_no rfl rfl rfl hs (congrArg (fun b => some (Value.bool b)) hg10) rfl rfl ?_
                  intro a' w' hs'
                  exact hK a' w' (hs'.putF (i := 6) rfl [0, 1] [] rfl rfl rfl rfl)
                · intro L a w hv K Q hK
                  have hs := hv
                  refine wpOp_no rfl rfl rfl hs (congrArg (fun b => some (Value.bool b)) hg10) rfl rfl ?_
                  intro a' w' hs'
                  exact hK a' w' (hs'.putF (i := 7) rfl [0, 1] [] rfl rfl rfl rfl)
                · intro L a w hv K Q hK
                  have hs := hv
                  refine wpOp_no rfl rfl rfl hs (congrArg (fun b => some (Value.bool b)) hg10) rfl rfl ?_
                  intro a' w' hs'
                  exact hK a' w' (hs'.putF (i := 8) rfl [0, 1] [] rfl rfl rfl rfl)
                · intro L a w hv K Q hK
                  have hs := hv
                  refine wpOp_no rfl rfl rfl hs (congrArg (fun b => some (Value.bool b)) hg10) rfl rfl ?_
                  intro a' w' hs'
                  exact hK a' w' (hs'.putF (i := 9) rfl [0, 1] [] rfl rfl rfl rfl)
                · intro L a w hv K Q hK
                  have hs := hv
                  refine wpOp_no rfl rfl rfl hs (congrArg (fun b => some (Value.bool b)) hg10) rfl rfl ?_
                  intro a' w' hs'
                  exact hK a' w' (hs'.putF (i := 10) rfl [0, 1] [] rfl rfl rfl rfl)
                · intro L a w hL hv
                  rw [allTrue hL] at hv
                  have hs := hv
                  refine (show TA _ _ _ 11 ⟨[(9, some (vI (wi ((2 : Int) * pick1)))), (10, some (vI (wi ((2 : Int) * pick2)))), (12, some (v5)), (13, some (v7)), (14, some (vI i1)), (103, some (vB (i1 != (wi ((wi ((2 : Int) * pick1)) + (wi ((2 : Int) * pick2))))))), (104, some (undef)), (108, some (undef))], [some (rowS u8S v5 ((own3.set (wi ((wi ((2 : Int) * pick1)) + (wi ((2 : Int) * pick2)))).toNat (0 : UInt8)).set (wi ((wi ((wi ((2 : Int) * pick1)) + (wi ((2 : Int) * pick2)))) + (1 : Int))).toNat (0 : UInt8))), some (rowS u8S v7 fill3.1)], []⟩ from ?_) a w (hs.wkS [9, 10, 12, 13, 14, 103, 104, 108] [0, 1] [] rfl rfl rfl rfl)
                  clear hs hL
                  refine TA_no htb (by kernel_rfl) rfl rfl rfl (congrArg (fun b => some (Value.bool b)) hg10) rfl rfl ?_
                  refine TA_step htb (by kernel_rfl) rfl rfl (OpT_pickF rfl rfl rfl (congrArg (fun b => some (Value.bool b)) hg10) rfl) ?_
                  refine TA_step htb (by kernel_rfl) rfl rfl (OpT_move rfl rfl rfl rfl) ?_
                  refine TA_wkS (fr' := [(9, some (vI (wi ((2 : Int) * pick1)))), (10, some (vI (wi ((2 : Int) * pick2)))), (12, some (v5)), (13, some (v7)), (14, some (vI i1)), (111, some (vB false))]) (own' := [some (rowS u8S v5 ((own3.set (wi ((wi ((2 : Int) * pick1)) + (wi ((2 : Int) * pick2)))).toNat (0 : UInt8)).set (wi ((wi ((wi ((2 : Int) * pick1)) + (wi ((2 : Int) * pick2)))) + (1 : Int))).toNat (0 : UInt8))), some (rowS u8S v7 fill3.1)]) (shr' := []) [9, 10, 12, 13, 14, 111] [0, 1] [] rfl rfl rfl rfl ?_
                  refine TA_seg (lo := 14) (hi := 22) htb rfl rfl (by kernel_rfl) (fun c L a w => Sat c ⟨[(9, some (vI (wi ((2 : Int) * pick1)))), (10, some (vI (wi ((2 : Int) * pick2)))), (12, some (v5)), (13, some (v7)), (14, some (vI i1)), (111, some (vB false)), (112, bif L 14 then some (undef) else none), (113, bif L 15 then some (undef) else none), (114, bif L 16 then some (undef) else none), (115, bif L 17 then some (undef) else none), (116, bif L 18 then some (undef) else none), (117, bif L 19 then some (undef) else none), (118, bif L 20 then some (undef) else none), (119, bif L 21 then some (undef) else none)], [(some (rowS u8S v5 ((own3.set (wi ((wi ((2 : Int) * pick1)) + (wi ((2 : Int) * pick2)))).toNat (0 : UInt8)).set (wi ((wi ((wi ((2 : Int) * pick1)) + (wi ((2 : Int) * pick2)))) + (1 : Int))).toNat (0 : UInt8))) : Option Res), (some (rowS u8S v7 fill3.1) : Option Res)], []⟩ a w) [([], [16, 17]), ([], [16, 17]), ([14, 15], [17]), ([14, 15, 16], []), ([], [20, 21]), ([], [20, 21]), ([18, 19], [21]), ([18, 19, 20], [])] rfl (by kernel_rfl) ?_ (steps_cons ?_ (steps_cons ?_ (steps_cons ?_ (steps_cons ?_ (steps_cons ?_ (steps_cons ?_ (steps_cons ?_ (steps_cons ?_ (steps_nil))))))))) ?_
                  · intro a w hs
                    exact hs.startF [112, 113, 114, 115, 116, 117, 118, 119] [0, 1] [] rfl rfl rfl rfl
                  · intro L a w hv K Q hK
                    have hs := hv
                    refine wpOp_no rfl rfl rfl hs rfl rfl rfl ?_
                    intro a' w' hs'
                    exact hK a' w' (hs'.putF (i := 6) rfl [0, 1] [] rfl rfl rfl rfl)
                  · intro L a w hv K Q hK
                    have hs := hv
                    refine wpOp_no rfl rfl rfl hs rfl rfl rfl ?_
                    intro a' w' hs'
                    exact hK a' w' (hs'.putF (i := 7) rfl [0, 1] [] rfl rfl rfl rfl)
                  · intro L a w hv K Q hK
                    have hs := hv
                    refine wpOp_no rfl rfl rfl hs rfl rfl rfl ?_
                    intro a' w' hs'
                    exact hK a' w' (hs'.putF (i := 8) rfl [0, 1] [] rfl rfl rfl rfl)
                  · intro L a w hv K Q hK
                    have hs := hv
                    refine wpOp_no rfl rfl rfl hs rfl rfl rfl ?_
                    intro a' w' hs'
                    exact hK a' w' (hs'.putF (i := 9) rfl [0, 1] [] rfl rfl rfl rfl)
                  · intro L a w hv K Q hK
                    have hs := hv
                    refine wpOp_no rfl rfl rfl hs rfl rfl rfl ?_
                    intro a' w' hs'
                    exact hK a' w' (hs'.putF (i := 10) rfl [0, 1] [] rfl rfl rfl rfl)
                  · intro L a w hv K Q hK
                    have hs := hv
                    refine wpOp_no rfl rfl rfl hs rfl rfl rfl ?_
                    intro a' w' hs'
                    exact hK a' w' (hs'.putF (i := 11) rfl [0, 1] [] rfl rfl rfl rfl)
                  · intro L a w hv K Q hK
                    have hs := hv
                    refine wpOp_no rfl rfl rfl hs rfl rfl rfl ?_
                    intro a' w' hs'
                    exact hK a' w' (hs'.putF (i := 12) rfl [0, 1] [] rfl rfl rfl rfl)
                  · intro L a w hv K Q hK
                    have hs := hv
                    refine wpOp_no rfl rfl rfl hs rfl rfl rfl ?_
                    intro a' w' hs'
                    exact hK a' w' (hs'.putF (i := 13) rfl [0, 1] [] rfl rfl rfl rfl)
                  · intro L a w hL hv
                    rw [allTrue hL] at hv
                    have hs := hv
                    refine (show TA _ _ _ 22 ⟨[(9, some (vI (wi ((2 : Int) * pick1)))), (10, some (vI (wi ((2 : Int) * pick2)))), (12, some (v5)), (13, some (v7)), (14, some (vI i1)), (111, some (vB false)), (115, some (undef)), (119, some (undef))], [some (rowS u8S v5 ((own3.set (wi ((wi ((2 : Int) * pick1)) + (wi ((2 : Int) * pick2)))).toNat (0 : UInt8)).set (wi ((wi ((wi ((2 : Int) * pick1)) + (wi ((2 : Int) * pick2)))) + (1 : Int))).toNat (0 : UInt8))), some (rowS u8S v7 fill3.1)], []⟩ from ?_) a w (hs.wkS [9, 10, 12, 13, 14, 111, 115, 119] [0, 1] [] rfl rfl rfl rfl)
                    clear hs hL
                    refine TA_no htb (by kernel_rfl) rfl rfl rfl rfl rfl rfl ?_
                    refine TA_step htb (by kernel_rfl) rfl rfl (OpT_pickF rfl rfl rfl rfl rfl) ?_
                    refine TA_end rfl ?_
                    refine Tk_wkS (fr' := [(9, some (vI (wi ((2 : Int) * pick1)))), (10, some (vI (wi ((2 : Int) * pick2)))), (12, some (v5)), (13, some (v7)), (14, some (vI i1)), (121, some (vB false))]) (own' := [some (rowS u8S v5 ((own3.set (wi ((wi ((2 : Int) * pick1)) + (wi ((2 : Int) * pick2)))).toNat (0 : UInt8)).set (wi ((wi ((wi ((2 : Int) * pick1)) + (wi ((2 : Int) * pick2)))) + (1 : Int))).toNat (0 : UInt8))), some (rowS u8S v7 fill3.1)]) (shr' := []) [9, 10, 12, 13, 14, 121] [0, 1] [] rfl rfl rfl rfl ?_
                    refine Tk_condF rfl ?_
                    refine Tk_skip ?_
                    refine Tk_blk ?_
                    refine Tk_region ?_
                    refine Tops_step rfl (OpT_move rfl rfl rfl rfl) ?_
                    refine Tops_step rfl (OpT_bin rfl rfl rfl rfl rfl (bin_add_i (a := i1) (b := (1 : Int)))) ?_
                    refine Tops_step rfl (OpT_assign rfl rfl rfl rfl) ?_
                    refine Tops_nil ?_
                    refine Tk_wkS (fr' := [(9, some (vI (wi ((2 : Int) * pick1)))), (10, some (vI (wi ((2 : Int) * pick2)))), (12, some (v5)), (13, some (v7)), (14, some (vI (wi (i1 + (1 : Int)))))]) (own' := [some (rowS u8S v5 ((own3.set (wi ((wi ((2 : Int) * pick1)) + (wi ((2 : Int) * pick2)))).toNat (0 : UInt8)).set (wi ((wi ((wi ((2 : Int) * pick1)) + (wi ((2 : Int) * pick2)))) + (1 : Int))).toNat (0 : UInt8))), some (rowS u8S v7 fill3.1)]) (shr' := []) [9, 10, 12, 13, 14] [0, 1] [] rfl rfl rfl rfl ?_
                    exact Tk_backS (wi (i1 + (1 : Int))) h [9, 10, 12, 13, 14] [0, 1] [] rfl rfl rfl rfl rfl
          · replace h := br_f hg9 h
            refine Tk_condF (congrArg (fun b => some (Value.bool b)) hg9) ?_
            refine Tk_exit _ rfl ?_
            refine Tk_seq ?_
            refine Tk_region ?_
            refine Tops_step rfl (OpT_move rfl rfl rfl rfl) ?_
            refine Tops_step rfl (OpT_move rfl rfl rfl rfl) ?_
            obtain ⟨hc1, h⟩ := chk_e h
            refine Tops_step rfl (OpT_subL (S := u8S) (l := wi ((2 : Int) * pick1)) rfl rfl rfl rfl rfl slF22 (i := 1) rfl hc1) ?_
            obtain ⟨sum1, hx15, h⟩ := ob_e h
            refine Tops_exP rfl (OpT_callB [1] [0, 1] (w_frame_Sum hx15) [] rfl rfl rfl rfl rfl callee12 rfl rfl rfl rfl rfl rfl (bor_cons (bor_sub (S := u8S) (l := (wi ((2 : Int) * pick1))) (m := (len fill3.1)) 1 rfl rfl hc1) bor_nil) (by rintro _ _ _ ⟨rfl, rfl, rfl⟩; exact ⟨rfl, ri_nil⟩)) ?_
            rintro _ ⟨_, _, _, ⟨rfl, rfl, rfl⟩, rfl⟩
            refine Tops_step rfl (OpT_bin rfl rfl rfl rfl rfl (bin_eql_u16 (a := sum1) (b := (0 : UInt16)))) ?_
            refine Tops_step rfl (OpT_assign rfl rfl rfl rfl) ?_
            refine Tops_nil ?_
            refine Tk_wkS (fr' := [(6, some (vB (sum1 == (0 : UInt16))))]) (own' := []) (shr' := []) [6] [] [] rfl rfl rfl rfl ?_
            obtain ⟨hg13, h⟩ := chk_e h
            exact Tk_retV rfl rfl (resA (vs := [.bool true]) rfl ⟨(congrArg (fun b => some (Value.bool b)) hg13), trivial⟩) [] [] rfl rfl rfl ⟨rfl, rfl, rfl⟩
end Go.Proofs.Ytgpggnhifkkfbaa
