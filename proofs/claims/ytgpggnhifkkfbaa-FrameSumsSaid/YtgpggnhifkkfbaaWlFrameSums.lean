/- The law FrameSums is walked: it returns what its plain words say. No condition. -/
import Derived.Test.YtgpggnhifkkfbaaWa3
namespace Go.Proofs.Ytgpggnhifkkfbaa

set_option maxRecDepth 100000 in
set_option maxHeartbeats 4000000 in
theorem w_law23zFrameSums {b : List UInt8} {turn : Int} {vb1 : Value}  (h : law23zFrameSums b turn = some true) :
    Ctr Try.prog 3 #[vb1, vI turn] [] [Fact.sl u8S vb1 b]
      (fun rv own shr => rv = .bool true ∧ own = [] ∧ shr = []) := by
  unfold law23zFrameSums at h
  refine Ctr.mk (args := [vb1, vI turn]) Try.func3 rfl rfl (fun R0 w0 B => ?_)
  refine Tk_seq ?_
  refine Tk_region ?_
  refine Tops_step rfl (OpT_assign rfl rfl rfl rfl) ?_
  refine Tops_nil ?_
  refine Tk_wkS (fr' := [(0, some (vb1)), (1, some (vI turn))]) (own' := []) (shr' := [Fact.sl u8S vb1 b]) [0, 1] [] [0] rfl rfl rfl rfl ?_
  refine Tk_seq ?_
  refine Tk_seq ?_
  refine Tk_region ?_
  obtain ⟨lives1, hx1, h⟩ := ob_e h
  refine Tops_exP rfl (OpT_call (w_law23zlives hx1) [] [] rfl rfl rfl rfl rfl callee11 rfl rfl rfl rfl) ?_
  rintro _ ⟨_, _, _, ⟨rfl, rfl, rfl⟩, rfl⟩
  refine Tops_step rfl (OpT_not rfl rfl rfl rfl) ?_
  refine Tops_nil ?_
  refine Tk_wkS (fr' := [(0, some (vb1)), (1, some (vI turn)), (12, some (vB (!lives1)))]) (own' := []) (shr' := [Fact.sl u8S vb1 b]) [0, 1, 12] [] [0] rfl rfl rfl rfl ?_
  obtain ⟨hg1, h⟩ := chk_e h
  replace hg1 := not_t hg1
  refine Tk_condF (congrArg (fun b => some (Value.bool b)) hg1) ?_
  refine Tk_skip ?_
  refine Tk_seq ?_
  refine Tk_seq ?_
  refine Tk_region ?_
  refine Tops_step rfl (OpT_move rfl rfl rfl rfl) ?_
  refine Tops_step rfl (OpT_lenS rfl rfl rfl rfl Try.underlying22 (i := 0) rfl) ?_
  refine Tops_step rfl (OpT_bin rfl rfl rfl rfl rfl (bin_gtr_i (a := len b) (b := (3000 : Int)))) ?_
  refine Tops_nil ?_
  refine Tk_wkS (fr' := [(0, some (vb1)), (1, some (vI turn)), (15, some (vB (decide ((len b) > (3000 : Int)))))]) (own' := []) (shr' := [Fact.sl u8S vb1 b]) [0, 1, 15] [] [0] rfl rfl rfl rfl ?_
  rcases Bool.eq_false_or_eq_true (decide ((len b) > (3000 : Int))) with hg2 | hg2
  · replace h := br_t hg2 h
    refine Tk_condT (congrArg (fun b => some (Value.bool b)) hg2) ?_
    refine Tk_seq ?_
    refine Tk_region ?_
    refine Tops_step rfl (OpT_assign rfl rfl rfl rfl) ?_
    refine Tops_nil ?_
    refine Tk_wkS (fr' := [(4, some (vB true))]) (own' := []) (shr' := []) [4] [] [] rfl rfl rfl rfl ?_
    exact Tk_retV rfl rfl (resA (vs := [.bool true]) rfl ⟨rfl, trivial⟩) [] [] rfl rfl rfl ⟨rfl, rfl, rfl⟩
  · replace h := br_f hg2 h
    refine Tk_condF (congrArg (fun b => some (Value.bool b)) hg2) ?_
    refine Tk_skip ?_
    refine Tk_seq ?_
    refine Tk_region ?_
    refine Tops_step rfl (OpT_move rfl rfl rfl rfl) ?_
    obtain ⟨sum1, hx2, h⟩ := ob_e h
    refine Tops_exP rfl (OpT_call (w_frame_Sum hx2) [] [0] rfl rfl rfl rfl rfl callee12 rfl rfl rfl rfl) ?_
    rintro _ ⟨_, _, _, ⟨rfl, rfl, rfl⟩, rfl⟩
    refine Tops_step rfl (OpT_assign rfl rfl rfl rfl) ?_
    refine Tops_nil ?_
    refine Tk_wkS (fr' := [(0, some (vb1)), (1, some (vI turn)), (5, some (vU16 sum1))]) (own' := []) (shr' := [Fact.sl u8S vb1 b]) [0, 1, 5] [] [0] rfl rfl rfl rfl ?_
    refine Tk_seq ?_
    refine Tk_region ?_
    refine Tops_step rfl (OpT_move rfl rfl rfl rfl) ?_
    obtain ⟨own1, hx3, h⟩ := ob_e h
    refine Tops_exP rfl (OpT_call (w_kit_Own hx3) [] [0] rfl rfl rfl rfl rfl callee13 rfl rfl rfl rfl) ?_
    rintro _ ⟨v1, _, _, ⟨_, rfl, rfl, rfl⟩, rfl⟩
    refine Tops_step rfl (OpT_assign rfl rfl rfl rfl) ?_
    refine Tops_nil ?_
    refine Tk_wkS (fr' := [(1, some (vI turn)), (5, some (vU16 sum1)), (6, some (v1))]) (own' := [some (rowS u8S v1 own1)]) (shr' := []) [1, 5, 6] [0] [] rfl rfl rfl rfl ?_
    refine Tk_seq ?_
    refine Tk_seq ?_
    refine Tk_region ?_
    refine Tops_step rfl (OpT_move rfl rfl rfl rfl) ?_
    refine Tops_step rfl (OpT_lenO rfl rfl rfl rfl Try.underlying22 (i := 0) rfl) ?_
    refine Tops_step rfl (OpT_bin rfl rfl rfl rfl rfl (bin_rem_i (a := len own1) (b := (2 : Int)) rfl)) ?_
    refine Tops_step rfl (OpT_bin rfl rfl rfl rfl rfl (bin_eql_i (a := remi (len own1) (2 : Int)) (b := (1 : Int)))) ?_
    refine Tops_nil ?_
    refine Tk_wkS (fr' := [(1, some (vI turn)), (5, some (vU16 sum1)), (6, some (v1)), (23, some (vB ((remi (len own1) (2 : Int)) == (1 : Int))))]) (own' := [some (rowS u8S v1 own1)]) (shr' := []) [1, 5, 6, 23] [0] [] rfl rfl rfl rfl ?_
    refine Tk_join (α := (List UInt8) × Value) (fun s => ⟨[(1, some (vI turn)), (5, some (vU16 sum1)), (6, some (s.2))], [some (rowS u8S s.2 s.1)], []⟩) (fun s => law23zFrameSumsJ1 turn sum1 s.1 = some true) ?_ ?_
    · rintro ⟨even1, v2⟩ h
      replace h : law23zFrameSumsJ1 turn sum1 even1 = some true := h
      unfold law23zFrameSumsJ1 at h
      refine Tk_seq ?_
      refine Tk_region ?_
      refine Tops_step rfl (OpT_move rfl rfl rfl rfl) ?_
      refine Tops_step rfl (OpT_move rfl rfl rfl rfl) ?_
      refine Tops_step rfl (OpT_lenO rfl rfl rfl rfl Try.underlying22 (i := 0) rfl) ?_
      refine Tops_step rfl (OpT_bin rfl rfl rfl rfl rfl (bin_quo_i (a := len even1) (b := (2 : Int)) rfl)) ?_
      refine Tops_step rfl (OpT_bin rfl rfl rfl rfl rfl (bin_add_i (a := quoi (len even1) (2 : Int)) (b := (1 : Int)))) ?_
      obtain ⟨pick1, hx4, h⟩ := ob_e h
      refine Tops_exP rfl (OpT_call (w_kit_Pick hx4) [] [] rfl rfl rfl rfl rfl callee14 rfl rfl rfl rfl) ?_
      rintro _ ⟨_, _, _, ⟨rfl, rfl, rfl⟩, rfl⟩
      refine Tops_step rfl (OpT_bin rfl rfl rfl rfl rfl (bin_mul_i (a := (2 : Int)) (b := pick1))) ?_
      refine Tops_step rfl (OpT_assign rfl rfl rfl rfl) ?_
      refine Tops_nil ?_
      refine Tk_wkS (fr' := [(5, some (vU16 sum1)), (6, some (v2)), (7, some (vI (wi ((2 : Int) * pick1))))]) (own' := [some (rowS u8S v2 even1)]) (shr' := []) [5, 6, 7] [0] [] rfl rfl rfl rfl ?_
      refine Tk_seq ?_
      refine Tk_drawT (by kernel_rfl) ?_
      refine TA_tb [0, 0, 3, 7, 0, 0, 48, 127, 255] (by kernel_rfl) fun htb => ?_
      obtain ⟨hc1, h⟩ := chk_e h
      obtain ⟨own2, hx5, h⟩ := ob_e h
      obtain ⟨hc2, h⟩ := chk_e h
      refine TA_seg (lo := 0) (hi := 7) htb rfl rfl (by kernel_rfl) (fun c L a w => ∃ (v3 : Value), Sat c ⟨[(5, some (vU16 sum1)), (6, some (v2)), (7, some (vI (wi ((2 : Int) * pick1)))), (34, bif L 0 then some (v2) else none), (35, bif L 1 then some (vI (wi ((2 : Int) * pick1))) else none), (36, bif L 2 then some (subV v2 1 (Int.toNat (wi ((2 : Int) * pick1))) (Int.toNat (len even1))) else none), (37, bif L 3 then some (v3) else none), (38, bif L 4 then some (v2) else none), (39, bif L 5 then some (vI (wi ((2 : Int) * pick1))) else none), (40, bif L 6 then some (subV v2 1 (Int.toNat (0 : Int)) (Int.toNat (wi ((2 : Int) * pick1)))) else none)], [(some (rowS u8S v2 even1) : Option Res), (bif L 3 then some (rowS u8S v3 own2) else none : Option Res)], []⟩ a w) [([], [2, 3]), ([], [2, 3]), ([0, 1], [3]), ([0, 1, 2], []), ([], [6]), ([], [6]), ([4, 5], [])] rfl (by kernel_rfl) ?_ (steps_cons ?_ (steps_cons ?_ (steps_cons ?_ (steps_cons ?_ (steps_cons ?_ (steps_cons ?_ (steps_cons ?_ (steps_nil)))))))) ?_
      · intro a w hs
        exact ⟨undef, hs.startF [34, 35, 36, 37, 38, 39, 40] [0, 1] [] rfl rfl rfl rfl⟩
      · intro L a w hv K Q hK
        obtain ⟨v3, hs⟩ := hv
        refine wpOp_go rfl rfl hs (OpT_move rfl rfl rfl rfl) ?_
        rintro _ rfl a' w' hs'
        exact hK a' w' ⟨v3, hs'.putF (i := 3) rfl [0, 1] [] rfl rfl rfl rfl⟩
      · intro L a w hv K Q hK
        obtain ⟨v3, hs⟩ := hv
        refine wpOp_go rfl rfl hs (OpT_move rfl rfl rfl rfl) ?_
        rintro _ rfl a' w' hs'
        exact hK a' w' ⟨v3, hs'.putF (i := 4) rfl [0, 1] [] rfl rfl rfl rfl⟩
      · intro L a w hv K Q hK
        obtain ⟨v3, hs⟩ := hv
        refine wpOp_go rfl rfl hs (OpT_subL (S := u8S) (l := wi ((2 : Int) * pick1)) rfl rfl rfl rfl rfl slF22 (i := 0) rfl hc1) ?_
        rintro _ rfl a' w' hs'
        exact hK a' w' ⟨v3, hs'.putF (i := 5) rfl [0, 1] [] rfl rfl rfl rfl⟩
      · intro L a w hv K Q hK
        obtain ⟨v3, hs⟩ := hv
        refine wpOp_go rfl rfl hs (OpT_callB [0] [0, 1, 2] (w_kit_Own hx5) [] rfl rfl rfl rfl rfl callee13 rfl rfl rfl rfl rfl rfl (bor_cons (bor_sub (S := u8S) (l := (wi ((2 : Int) * pick1))) (m := (len even1)) 0 rfl rfl hc1) bor_nil) (by rintro _ _ _ ⟨_, rfl, rfl, rfl⟩; exact ⟨rfl, (ri_cons (ri_row (S := u8S) rfl _ _) ri_nil)⟩)) ?_
        rintro _ ⟨v3', _, _, ⟨_, rfl, rfl, rfl⟩, rfl⟩ a' w' hs'
        exact hK a' w' ⟨v3', hs'.putF (i := 6) rfl [0, 2] [] rfl rfl rfl rfl⟩
      · intro L a w hv K Q hK
        obtain ⟨v3, hs⟩ := hv
        refine wpOp_go rfl rfl hs (OpT_move rfl rfl rfl rfl) ?_
        rintro _ rfl a' w' hs'
        exact hK a' w' ⟨v3, hs'.putF (i := 7) rfl [0, 1] [] rfl rfl rfl rfl⟩
      · intro L a w hv K Q hK
        obtain ⟨v3, hs⟩ := hv
        refine wpOp_go rfl rfl hs (OpT_move rfl rfl rfl rfl) ?_
        rintro _ rfl a' w' hs'
        exact hK a' w' ⟨v3, hs'.putF (i := 8) rfl [0, 1] [] rfl rfl rfl rfl⟩
      · intro L a w hv K Q hK
        obtain ⟨v3, hs⟩ := hv
        refine wpOp_go rfl rfl hs (OpT_subH (S := u8S) (m := wi ((2 : Int) * pick1)) rfl rfl rfl rfl rfl slF22 (i := 0) rfl hc2) ?_
        rintro _ rfl a' w' hs'
        exact hK a' w' ⟨v3, hs'.putF (i := 9) rfl [0, 1] [] rfl rfl rfl rfl⟩
      · intro L a w hL hv
        rw [allTrue hL] at hv
        obtain ⟨v3, hs⟩ := hv
        refine (show TA _ _ _ 7 ⟨[(5, some (vU16 sum1)), (6, some (v2)), (7, some (vI (wi ((2 : Int) * pick1)))), (37, some (v3)), (40, some (subV v2 1 (Int.toNat (0 : Int)) (Int.toNat (wi ((2 : Int) * pick1)))))], [some (rowS u8S v2 even1), some (rowS u8S v3 own2)], []⟩ from ?_) a w (hs.wkS [5, 6, 7, 37, 40] [0, 1] [] rfl rfl rfl rfl)
        clear hs hL
        obtain ⟨hc3, h⟩ := chk_e h
        refine TA_ex htb (by kernel_rfl) rfl rfl (OpT_appendBs (S := u8S) (l := (0 : Int)) (m := (wi ((2 : Int) * pick1))) rfl rfl rfl rfl rfl rfl slF22 (i := 1) (j := 0) rfl rfl hc2 hc3) fun v4 => ?_
        refine TA_step htb (by kernel_rfl) rfl rfl (OpT_assign rfl rfl rfl rfl) ?_
        refine TA_end rfl ?_
        refine Tk_wkS (fr' := [(5, some (vU16 sum1)), (6, some (v2)), (7, some (vI (wi ((2 : Int) * pick1)))), (8, some (v4))]) (own' := [some (rowS u8S v2 even1), some (rowS u8S v4 (own2 ++ (sub even1 (0 : Int) (wi ((2 : Int) * pick1)))))]) (shr' := []) [5, 6, 7, 8] [0, 1] [] rfl rfl rfl rfl ?_
        refine Tk_seq ?_
        refine Tk_drawT (by kernel_rfl) ?_
        refine TA_tb [0, 0, 3, 7, 0, 31, 0, 0, 192, 511, 1023] (by kernel_rfl) fun htb => ?_
        obtain ⟨hc4, h⟩ := chk_e h
        obtain ⟨own3, hx6, h⟩ := ob_e h
        obtain ⟨hc5, h⟩ := chk_e h
        obtain ⟨hc6, h⟩ := chk_e h
        refine TA_seg (lo := 0) (hi := 9) htb rfl rfl (by kernel_rfl) (fun c L a w => ∃ (v5 : Value), ∃ (v6 : Value), ∃ (v7 : Value), Sat c ⟨[(5, some (vU16 sum1)), (6, some (v2)), (7, some (vI (wi ((2 : Int) * pick1)))), (8, some (v4)), (42, bif L 0 then some (v2) else none), (43, bif L 1 then some (vI (wi ((2 : Int) * pick1))) else none), (44, bif L 2 then some (subV v2 1 (Int.toNat (0 : Int)) (Int.toNat (wi ((2 : Int) * pick1)))) else none), (45, bif L 3 then some (v5) else none), (46, bif L 4 then some (v6) else none), (47, bif L 5 then some (v7) else none), (48, bif L 6 then some (v2) else none), (49, bif L 7 then some (vI (wi ((2 : Int) * pick1))) else none), (50, bif L 8 then some (subV v2 1 (Int.toNat (wi ((2 : Int) * pick1))) (Int.toNat (len even1))) else none)], [(some (rowS u8S v2 even1) : Option Res), (some (rowS u8S v4 (own2 ++ (sub even1 (0 : Int) (wi ((2 : Int) * pick1))))) : Option Res), (bif L 5 then some (rowS u8S v7 (own3 ++ [(0 : UInt8), (0 : UInt8)])) else bif L 3 then some (rowS u8S v5 own3) else none : Option Res), (bif L 4 then some (rowS u8S v6 [(0 : UInt8), (0 : UInt8)]) else none : Option Res)], []⟩ a w) [([], [2, 3, 5]), ([], [2, 3, 5]), ([0, 1], [3, 5]), ([0, 1, 2], [5]), ([], [5]), ([0, 1, 2, 3, 4], []), ([], [8]), ([], [8]), ([6, 7], [])] rfl (by kernel_rfl) ?_ (steps_cons ?_ (steps_cons ?_ (steps_cons ?_ (steps_cons ?_ (steps_cons ?_ (steps_cons ?_ (steps_cons ?_ (steps_cons ?_ (steps_cons ?_ (steps_nil)))))))))) ?_
        · intro a w hs
          exact ⟨undef, undef, undef, hs.startF [42, 43, 44, 45, 46, 47, 48, 49, 50] [0, 1, 2, 3] [] rfl rfl rfl rfl⟩
        · intro L a w hv K Q hK
          obtain ⟨v5, v6, v7, hs⟩ := hv
          refine wpOp_go rfl rfl hs (OpT_move rfl rfl rfl rfl) ?_
          rintro _ rfl a' w' hs'
          exact hK a' w' ⟨v5, v6, v7, hs'.putF (i := 4) rfl [0, 1, 2, 3] [] rfl rfl rfl rfl⟩
        · intro L a w hv K Q hK
          obtain ⟨v5, v6, v7, hs⟩ := hv
          refine wpOp_go rfl rfl hs (OpT_move rfl rfl rfl rfl) ?_
          rintro _ rfl a' w' hs'
          exact hK a' w' ⟨v5, v6, v7, hs'.putF (i := 5) rfl [0, 1, 2, 3] [] rfl rfl rfl rfl⟩
        · intro L a w hv K Q hK
          obtain ⟨v5, v6, v7, hs⟩ := hv
          refine wpOp_go rfl rfl hs (OpT_subH (S := u8S) (m := wi ((2 : Int) * pick1)) rfl rfl rfl rfl rfl slF22 (i := 0) rfl hc4) ?_
          rintro _ rfl a' w' hs'
          exact hK a' w' ⟨v5, v6, v7, hs'.putF (i := 6) rfl [0, 1, 2, 3] [] rfl rfl rfl rfl⟩
        · intro L a w hv K Q hK
          obtain ⟨v5, v6, v7, hs⟩ := hv
          refine wpOp_go rfl rfl hs (OpT_callB [0] [0, 1, 2, 3, 4] (w_kit_Own hx6) [] rfl rfl rfl rfl rfl callee13 rfl rfl rfl rfl rfl rfl (bor_cons (bor_sub (S := u8S) (l := (0 : Int)) (m := (wi ((2 : Int) * pick1))) 0 rfl rfl hc4) bor_nil) (by rintro _ _ _ ⟨_, rfl, rfl, rfl⟩; exact ⟨rfl, (ri_cons (ri_row (S := u8S) rfl _ _) ri_nil)⟩)) ?_
          rintro _ ⟨v5', _, _, ⟨_, rfl, rfl, rfl⟩, rfl⟩ a' w' hs'
          exact hK a' w' ⟨v5', v6, v7, hs'.putF (i := 7) rfl [0, 1, 4, 3] [] rfl rfl rfl rfl⟩
        · intro L a w hv K Q hK
          obtain ⟨v5, v6, v7, hs⟩ := hv
          refine wpOp_go rfl rfl hs (OpT_buildSlice (S := u8S) (xs := [(0 : UInt8), (0 : UInt8)]) (css := [[vU8 (0 : UInt8)], [vU8 (0 : UInt8)]]) (cs := [vU8 (0 : UInt8), vU8 (0 : UInt8)]) (e := 5) rfl rfl rfl rfl (bldF slF22 (by decide) (by kernel_rfl)) rfl rfl rfl rfl (rel_plainD (S := u8S) (xs := [(0 : UInt8), (0 : UInt8)]) (css := [[vU8 (0 : UInt8)], [vU8 (0 : UInt8)]]) rfl rfl)) ?_
          rintro _ ⟨v6', rfl⟩ a' w' hs'
          exact hK a' w' ⟨v5, v6', v7, hs'.putF (i := 8) rfl [0, 1, 2, 4] [] rfl rfl rfl rfl⟩
        · intro L a w hv K Q hK
          obtain ⟨v5, v6, v7, hs⟩ := hv
          refine wpOp_go rfl rfl hs (OpT_appendB (S := u8S) rfl rfl rfl rfl rfl rfl slF22 (i := 2) (j := 3) rfl rfl hc5) ?_
          rintro _ ⟨v7', rfl⟩ a' w' hs'
          exact hK a' w' ⟨v5, v6, v7', hs'.putF (i := 9) rfl [0, 1, 2, 3] [] rfl rfl rfl rfl⟩
        · intro L a w hv K Q hK
          obtain ⟨v5, v6, v7, hs⟩ := hv
          refine wpOp_go rfl rfl hs (OpT_move rfl rfl rfl rfl) ?_
          rintro _ rfl a' w' hs'
          exact hK a' w' ⟨v5, v6, v7, hs'.putF (i := 10) rfl [0, 1, 2, 3] [] rfl rfl rfl rfl⟩
        · intro L a w hv K Q hK
          obtain ⟨v5, v6, v7, hs⟩ := hv
          refine wpOp_go rfl rfl hs (OpT_move rfl rfl rfl rfl) ?_
          rintro _ rfl a' w' hs'
          exact hK a' w' ⟨v5, v6, v7, hs'.putF (i := 11) rfl [0, 1, 2, 3] [] rfl rfl rfl rfl⟩
        · intro L a w hv K Q hK
          obtain ⟨v5, v6, v7, hs⟩ := hv
          refine wpOp_go rfl rfl hs (OpT_subL (S := u8S) (l := wi ((2 : Int) * pick1)) rfl rfl rfl rfl rfl slF22 (i := 0) rfl hc6) ?_
          rintro _ rfl a' w' hs'
          exact hK a' w' ⟨v5, v6, v7, hs'.putF (i := 12) rfl [0, 1, 2, 3] [] rfl rfl rfl rfl⟩
        · intro L a w hL hv
          rw [allTrue hL] at hv
          obtain ⟨v5, v6, v7, hs⟩ := hv
          refine (show TA _ _ _ 9 ⟨[(5, some (vU16 sum1)), (6, some (v2)), (8, some (v4)), (47, some (v7)), (50, some (subV v2 1 (Int.toNat (wi ((2 : Int) * pick1))) (Int.toNat (len even1))))], [some (rowS u8S v2 even1), some (rowS u8S v4 (own2 ++ (sub even1 (0 : Int) (wi ((2 : Int) * pick1))))), some (rowS u8S v7 (own3 ++ [(0 : UInt8), (0 : UInt8)]))], []⟩ from ?_) a w (hs.wkS [5, 6, 8, 47, 50] [0, 1, 2] [] rfl rfl rfl rfl)
          clear hs hL
          obtain ⟨hc7, h⟩ := chk_e h
          refine TA_ex htb (by kernel_rfl) rfl rfl (OpT_appendBs (S := u8S) (l := (wi ((2 : Int) * pick1))) (m := (len even1)) rfl rfl rfl rfl rfl rfl slF22 (i := 2) (j := 0) rfl rfl hc6 hc7) fun v8 => ?_
          refine TA_step htb (by kernel_rfl) rfl rfl (OpT_assign rfl rfl rfl rfl) ?_
          refine TA_end rfl ?_
          refine Tk_wkS (fr' := [(5, some (vU16 sum1)), (6, some (v2)), (8, some (v4)), (9, some (v8))]) (own' := [some (rowS u8S v2 even1), some (rowS u8S v4 (own2 ++ (sub even1 (0 : Int) (wi ((2 : Int) * pick1))))), some (rowS u8S v8 ((own3 ++ [(0 : UInt8), (0 : UInt8)]) ++ (sub even1 (wi ((2 : Int) * pick1)) (len even1))))]) (shr' := []) [5, 6, 8, 9] [0, 1, 2] [] rfl rfl rfl rfl ?_
          refine Tk_seq ?_
          refine Tk_region ?_
          refine Tops_step rfl (OpT_move rfl rfl rfl rfl) ?_
          obtain ⟨own4, hx7, h⟩ := ob_e h
          refine Tops_exP rfl (OpT_callB [0] [0, 1, 2, 3] (w_kit_Own hx7) [] rfl rfl rfl rfl rfl callee13 rfl rfl rfl rfl rfl rfl (bor_cons (bor_row 0 rfl rfl) bor_nil) (by rintro _ _ _ ⟨_, rfl, rfl, rfl⟩; exact ⟨rfl, (ri_cons (ri_row (S := u8S) rfl _ _) ri_nil)⟩)) ?_
          rintro _ ⟨v9, _, _, ⟨_, rfl, rfl, rfl⟩, rfl⟩
          refine Tops_step rfl (OpT_move rfl rfl rfl rfl) ?_
          refine Tops_step rfl (OpT_bin rfl rfl rfl rfl rfl (bin_shr_u16_u64 (a := sum1) (n := (8 : UInt64)))) ?_
          refine Tops_step rfl (OpT_cnv rfl rfl rfl rfl (cnv_u16_u8 (n := shr16 sum1 ((8 : UInt64).toNat)) Try.underlying24 Try.underlying5)) ?_
          refine Tops_step rfl (OpT_move rfl rfl rfl rfl) ?_
          refine Tops_step rfl (OpT_cnv rfl rfl rfl rfl (cnv_u16_u8 (n := sum1) Try.underlying24 Try.underlying5)) ?_
          refine Tops_ex rfl (OpT_buildSlice (S := u8S) (xs := [(shr16 sum1 ((8 : UInt64).toNat)).toUInt8, sum1.toUInt8]) (css := [[vU8 ((shr16 sum1 ((8 : UInt64).toNat)).toUInt8)], [vU8 sum1.toUInt8]]) (cs := [vU8 ((shr16 sum1 ((8 : UInt64).toNat)).toUInt8), vU8 sum1.toUInt8]) (e := 5) rfl rfl rfl rfl (bldF slF22 (by decide) (by kernel_rfl)) rfl rfl rfl rfl (rel_plainD (S := u8S) (xs := [(shr16 sum1 ((8 : UInt64).toNat)).toUInt8, sum1.toUInt8]) (css := [[vU8 ((shr16 sum1 ((8 : UInt64).toNat)).toUInt8)], [vU8 sum1.toUInt8]]) rfl rfl)) fun v10 => ?_
          obtain ⟨hc8, h⟩ := chk_e h
          refine Tops_ex rfl (OpT_appendB (S := u8S) rfl rfl rfl rfl rfl rfl slF22 (i := 3) (j := 4) rfl rfl hc8) fun v11 => ?_
          refine Tops_step rfl (OpT_assign rfl rfl rfl rfl) ?_
          refine Tops_nil ?_
          refine Tk_wkS (fr' := [(5, some (vU16 sum1)), (6, some (v2)), (8, some (v4)), (9, some (v8)), (10, some (v11))]) (own' := [some (rowS u8S v2 even1), some (rowS u8S v4 (own2 ++ (sub even1 (0 : Int) (wi ((2 : Int) * pick1))))), some (rowS u8S v8 ((own3 ++ [(0 : UInt8), (0 : UInt8)]) ++ (sub even1 (wi ((2 : Int) * pick1)) (len even1)))), some (rowS u8S v11 (own4 ++ [(shr16 sum1 ((8 : UInt64).toNat)).toUInt8, sum1.toUInt8]))]) (shr' := []) [5, 6, 8, 9, 10] [0, 1, 2, 3] [] rfl rfl rfl rfl ?_
          refine Tk_seq ?_
          refine Tk_region ?_
          refine Tops_step rfl (OpT_move rfl rfl rfl rfl) ?_
          obtain ⟨sum2, hx8, h⟩ := ob_e h
          refine Tops_exP rfl (OpT_callB [0] [0, 1, 2, 3] (w_frame_Sum hx8) [] rfl rfl rfl rfl rfl callee12 rfl rfl rfl rfl rfl rfl (bor_cons (bor_row 0 rfl rfl) bor_nil) (by rintro _ _ _ ⟨rfl, rfl, rfl⟩; exact ⟨rfl, ri_nil⟩)) ?_
          rintro _ ⟨_, _, _, ⟨rfl, rfl, rfl⟩, rfl⟩
          refine Tops_step rfl (OpT_move rfl rfl rfl rfl) ?_
          refine Tops_step rfl (OpT_bin rfl rfl rfl rfl rfl (bin_eql_u16 (a := sum2) (b := sum1))) ?_
          refine Tops_step rfl (OpT_move rfl rfl rfl rfl) ?_
          obtain ⟨hg3, h⟩ := chk_e h
          refine Tops_yes rfl rfl (congrArg (fun b => some (Value.bool b)) hg3) (OpT_move rfl rfl rfl rfl) ?_
          rintro _ rfl
          obtain ⟨sum3, hx9, h⟩ := ob_e h
          refine Tops_yes rfl rfl (congrArg (fun b => some (Value.bool b)) hg3) (OpT_callB [1] [0, 1, 2, 3] (w_frame_Sum hx9) [] rfl rfl rfl rfl rfl callee12 rfl rfl rfl rfl rfl rfl (bor_cons (bor_row 1 rfl rfl) bor_nil) (by rintro _ _ _ ⟨rfl, rfl, rfl⟩; exact ⟨rfl, ri_nil⟩)) ?_
          rintro _ ⟨_, _, _, ⟨rfl, rfl, rfl⟩, rfl⟩
          refine Tops_yes rfl rfl (congrArg (fun b => some (Value.bool b)) hg3) (OpT_move rfl rfl rfl rfl) ?_
          rintro _ rfl
          refine Tops_yes rfl rfl (congrArg (fun b => some (Value.bool b)) hg3) (OpT_bin rfl rfl rfl rfl rfl (bin_eql_u16 (a := sum3) (b := sum1))) ?_
          rintro _ rfl
          refine Tops_step rfl (OpT_pickT rfl rfl rfl (congrArg (fun b => some (Value.bool b)) hg3) rfl) ?_
          refine Tops_step rfl (OpT_move rfl rfl rfl rfl) ?_
          obtain ⟨hg4, h⟩ := chk_e h
          refine Tops_yes rfl rfl (congrArg (fun b => some (Value.bool b)) hg4) (OpT_move rfl rfl rfl rfl) ?_
          rintro _ rfl
          obtain ⟨sum4, hx10, h⟩ := ob_e h
          refine Tops_yes rfl rfl (congrArg (fun b => some (Value.bool b)) hg4) (OpT_callB [2] [0, 1, 2, 3] (w_frame_Sum hx10) [] rfl rfl rfl rfl rfl callee12 rfl rfl rfl rfl rfl rfl (bor_cons (bor_row 2 rfl rfl) bor_nil) (by rintro _ _ _ ⟨rfl, rfl, rfl⟩; exact ⟨rfl, ri_nil⟩)) ?_
          rintro _ ⟨_, _, _, ⟨rfl, rfl, rfl⟩, rfl⟩
          refine Tops_yes rfl rfl (congrArg (fun b => some (Value.bool b)) hg4) (OpT_move rfl rfl rfl rfl) ?_
          rintro _ rfl
          refine Tops_yes rfl rfl (congrArg (fun b => some (Value.bool b)) hg4) (OpT_bin rfl rfl rfl rfl rfl (bin_eql_u16 (a := sum4) (b := sum1))) ?_
          rintro _ rfl
          refine Tops_step rfl (OpT_pickT rfl rfl rfl (congrArg (fun b => some (Value.bool b)) hg4) rfl) ?_
          refine Tops_step rfl (OpT_move rfl rfl rfl rfl) ?_
          obtain ⟨hg5, h⟩ := chk_e h
          refine Tops_yes rfl rfl (congrArg (fun b => some (Value.bool b)) hg5) (OpT_move rfl rfl rfl rfl) ?_
          rintro _ rfl
          obtain ⟨sum5, hx11, h⟩ := ob_e h
          refine Tops_yes rfl rfl (congrArg (fun b => some (Value.bool b)) hg5) (OpT_callB [3] [0, 1, 2, 3] (w_frame_Sum hx11) [] rfl rfl rfl rfl rfl callee12 rfl rfl rfl rfl rfl rfl (bor_cons (bor_row 3 rfl rfl) bor_nil) (by rintro _ _ _ ⟨rfl, rfl, rfl⟩; exact ⟨rfl, ri_nil⟩)) ?_
          rintro _ ⟨_, _, _, ⟨rfl, rfl, rfl⟩, rfl⟩
          refine Tops_yes rfl rfl (congrArg (fun b => some (Value.bool b)) hg5) (OpT_bin rfl rfl rfl rfl rfl (bin_eql_u16 (a := sum5) (b := (0 : UInt16)))) ?_
          rintro _ rfl
          refine Tops_step rfl (OpT_pickT rfl rfl rfl (congrArg (fun b => some (Value.bool b)) hg5) rfl) ?_
          refine Tops_step rfl (OpT_assign rfl rfl rfl rfl) ?_
          refine Tops_nil ?_
          refine Tk_wkS (fr' := [(4, some (vB (sum5 == (0 : UInt16))))]) (own' := []) (shr' := []) [4] [] [] rfl rfl rfl rfl ?_
          obtain ⟨hg6, h⟩ := chk_e h
          exact Tk_retV rfl rfl (resA (vs := [.bool true]) rfl ⟨(congrArg (fun b => some (Value.bool b)) hg6), trivial⟩) [] [] rfl rfl rfl ⟨rfl, rfl, rfl⟩
    · intro HJ1
      rcases Bool.eq_false_or_eq_true ((remi (len own1) (2 : Int)) == (1 : Int)) with hg7 | hg7
      · replace h := br_t hg7 h
        refine Tk_condT (congrArg (fun b => some (Value.bool b)) hg7) ?_
        refine Tk_region ?_
        refine Tops_step rfl (OpT_move rfl rfl rfl rfl) ?_
        refine Tops_ex rfl (OpT_buildSlice (S := u8S) (xs := [(0 : UInt8)]) (css := [[vU8 (0 : UInt8)]]) (cs := [vU8 (0 : UInt8)]) (e := 5) rfl rfl rfl rfl (bldF slF22 (by decide) (by kernel_rfl)) rfl rfl rfl rfl (rel_plainD (S := u8S) (xs := [(0 : UInt8)]) (css := [[vU8 (0 : UInt8)]]) rfl rfl)) fun v12 => ?_
        obtain ⟨hc9, h⟩ := chk_e h
        refine Tops_ex rfl (OpT_appendB (S := u8S) rfl rfl rfl rfl rfl rfl slF22 (i := 0) (j := 1) rfl rfl hc9) fun v13 => ?_
        refine Tops_step rfl (OpT_assign rfl rfl rfl rfl) ?_
        refine Tops_nil ?_
        refine Tk_wkS (fr' := [(1, some (vI turn)), (5, some (vU16 sum1)), (6, some (v13))]) (own' := [some (rowS u8S v13 (own1 ++ [(0 : UInt8)]))]) (shr' := []) [1, 5, 6] [0] [] rfl rfl rfl rfl ?_
        exact Tk_jmpS (HJ1 (own1 ++ [(0 : UInt8)], v13) h) [1, 5, 6] [0] [] rfl rfl rfl rfl
      · replace h := br_f hg7 h
        refine Tk_condF (congrArg (fun b => some (Value.bool b)) hg7) ?_
        refine Tk_skip ?_
        exact Tk_jmpS (HJ1 (own1, v1) h) [1, 5, 6] [0] [] rfl rfl rfl rfl
end Go.Proofs.Ytgpggnhifkkfbaa
