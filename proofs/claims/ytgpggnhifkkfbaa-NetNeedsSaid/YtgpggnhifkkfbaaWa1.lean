/- The functions do what the plain words say: each is walked once. No statement of the seat is proved here; no condition. -/
import Derived.Test.YtgpggnhifkkfbaaMo1
import Derived.Test.YtgpggnhifkkfbaaFc
namespace Go.Proofs.Ytgpggnhifkkfbaa

set_option maxRecDepth 100000 in
set_option maxHeartbeats 4000000 in
theorem w_frame_word {b : List UInt8} {vb1 : Value} {r : UInt16} (h : frame_word b = some r) :
    Ctr Try.prog 40 #[vb1] [] [Fact.sl u8S vb1 b]
      (fun rv own shr => rv = vU16 r ∧ own = [] ∧ shr = []) := by
  unfold frame_word at h
  refine Ctr.mk (args := [vb1]) Try.func40 rfl rfl (fun R0 w0 B => ?_)
  refine Tk_seq ?_
  refine Tk_region ?_
  refine Tops_step rfl (OpT_assign rfl rfl rfl rfl) ?_
  refine Tops_nil ?_
  refine Tk_wkS (fr' := [(0, some (vb1))]) (own' := []) (shr' := [Fact.sl u8S vb1 b]) [0] [] [0] rfl rfl rfl rfl ?_
  refine Tk_seq ?_
  refine Tk_drawT (by kernel_rfl) ?_
  refine TA_tb [0, 1, 3, 7, 15, 0, 32, 96, 224, 511, 1023] (by kernel_rfl) fun htb => ?_
  obtain ⟨y1, hx1, h⟩ := ob_e h
  obtain ⟨y2, hx2, h⟩ := ob_e h
  refine TA_seg (lo := 0) (hi := 9) htb rfl rfl (by kernel_rfl) (fun c L a w => ∃ (p1 : Value), ∃ (p2 : Value), Sat c ⟨[(0, some (vb1)), (3, bif L 0 then some (vb1) else none), (4, bif L 1 then some (p1) else none), (5, bif L 2 then some (vU8 y1) else none), (6, bif L 3 then some (vU16 y1.toUInt16) else none), (7, bif L 4 then some (vU16 (shl16 y1.toUInt16 ((8 : UInt64).toNat))) else none), (8, bif L 5 then some (vb1) else none), (9, bif L 6 then some (p2) else none), (10, bif L 7 then some (vU8 y2) else none), (11, bif L 8 then some (vU16 y2.toUInt16) else none)], [], [Fact.sl u8S vb1 b, (bif L 1 then Fact.pt u8S p1 y1 else Fact.tt), (bif L 6 then Fact.pt u8S p2 y2 else Fact.tt)]⟩ a w) [([], [1, 2, 3, 4]), ([0], [2, 3, 4]), ([0, 1], [3, 4]), ([0, 1, 2], [4]), ([0, 1, 2, 3], []), ([], [6, 7, 8]), ([5], [7, 8]), ([5, 6], [8]), ([5, 6, 7], [])] rfl (by kernel_rfl) ?_ (steps_cons ?_ (steps_cons ?_ (steps_cons ?_ (steps_cons ?_ (steps_cons ?_ (steps_cons ?_ (steps_cons ?_ (steps_cons ?_ (steps_cons ?_ (steps_nil)))))))))) ?_
  · intro a w hs
    exact ⟨undef, undef, hs.startF [3, 4, 5, 6, 7, 8, 9, 10, 11] [] [0, 1, 2] rfl rfl rfl rfl⟩
  · intro L a w hv K Q hK
    obtain ⟨p1, p2, hs⟩ := hv
    refine wpOp_go rfl rfl hs (OpT_move rfl rfl rfl rfl) ?_
    rintro _ rfl a' w' hs'
    exact hK a' w' ⟨p1, p2, hs'.putF (i := 1) rfl [] [0, 1, 2] rfl rfl rfl rfl⟩
  · intro L a w hv K Q hK
    obtain ⟨p1, p2, hs⟩ := hv
    refine wpOp_go rfl rfl hs (OpT_idxS rfl rfl rfl rfl rfl slF22 (i := 0) rfl hx1) ?_
    rintro _ ⟨p1', rfl⟩ a' w' hs'
    exact hK a' w' ⟨p1', p2, hs'.putF (i := 2) rfl [] [0, 3, 2] rfl rfl rfl rfl⟩
  · intro L a w hv K Q hK
    obtain ⟨p1, p2, hs⟩ := hv
    refine wpOp_go rfl rfl hs (OpT_loadP rfl rfl rfl rfl tyF5 (i := 1) rfl rfl) ?_
    rintro _ rfl a' w' hs'
    exact hK a' w' ⟨p1, p2, hs'.putF (i := 3) rfl [] [0, 1, 2] rfl rfl rfl rfl⟩
  · intro L a w hv K Q hK
    obtain ⟨p1, p2, hs⟩ := hv
    refine wpOp_go rfl rfl hs (OpT_cnv rfl rfl rfl rfl (cnv_u8_u16 (n := y1) Try.underlying5 Try.underlying24)) ?_
    rintro _ rfl a' w' hs'
    exact hK a' w' ⟨p1, p2, hs'.putF (i := 4) rfl [] [0, 1, 2] rfl rfl rfl rfl⟩
  · intro L a w hv K Q hK
    obtain ⟨p1, p2, hs⟩ := hv
    refine wpOp_go rfl rfl hs (OpT_bin rfl rfl rfl rfl rfl (bin_shl_u16_u64 (a := y1.toUInt16) (n := (8 : UInt64)))) ?_
    rintro _ rfl a' w' hs'
    exact hK a' w' ⟨p1, p2, hs'.putF (i := 5) rfl [] [0, 1, 2] rfl rfl rfl rfl⟩
  · intro L a w hv K Q hK
    obtain ⟨p1, p2, hs⟩ := hv
    refine wpOp_go rfl rfl hs (OpT_move rfl rfl rfl rfl) ?_
    rintro _ rfl a' w' hs'
    exact hK a' w' ⟨p1, p2, hs'.putF (i := 6) rfl [] [0, 1, 2] rfl rfl rfl rfl⟩
  · intro L a w hv K Q hK
    obtain ⟨p1, p2, hs⟩ := hv
    refine wpOp_go rfl rfl hs (OpT_idxS rfl rfl rfl rfl rfl slF22 (i := 0) rfl hx2) ?_
    rintro _ ⟨p2', rfl⟩ a' w' hs'
    exact hK a' w' ⟨p1, p2', hs'.putF (i := 7) rfl [] [0, 1, 3] rfl rfl rfl rfl⟩
  · intro L a w hv K Q hK
    obtain ⟨p1, p2, hs⟩ := hv
    refine wpOp_go rfl rfl hs (OpT_loadP rfl rfl rfl rfl tyF5 (i := 2) rfl rfl) ?_
    rintro _ rfl a' w' hs'
    exact hK a' w' ⟨p1, p2, hs'.putF (i := 8) rfl [] [0, 1, 2] rfl rfl rfl rfl⟩
  · intro L a w hv K Q hK
    obtain ⟨p1, p2, hs⟩ := hv
    refine wpOp_go rfl rfl hs (OpT_cnv rfl rfl rfl rfl (cnv_u8_u16 (n := y2) Try.underlying5 Try.underlying24)) ?_
    rintro _ rfl a' w' hs'
    exact hK a' w' ⟨p1, p2, hs'.putF (i := 9) rfl [] [0, 1, 2] rfl rfl rfl rfl⟩
  · intro L a w hL hv
    rw [allTrue hL] at hv
    obtain ⟨p1, p2, hs⟩ := hv
    refine (show TA _ _ _ 9 ⟨[(7, some (vU16 (shl16 y1.toUInt16 ((8 : UInt64).toNat)))), (11, some (vU16 y2.toUInt16))], [], []⟩ from ?_) a w (hs.wkS [7, 11] [] [] rfl rfl rfl rfl)
    clear hs hL
    refine TA_step htb (by kernel_rfl) rfl rfl (OpT_bin rfl rfl rfl rfl rfl (bin_or_u16 (a := shl16 y1.toUInt16 ((8 : UInt64).toNat)) (b := y2.toUInt16))) ?_
    refine TA_step htb (by kernel_rfl) rfl rfl (OpT_assign rfl rfl rfl rfl) ?_
    refine TA_end rfl ?_
    refine Tk_wkS (fr' := [(2, some (vU16 ((shl16 y1.toUInt16 ((8 : UInt64).toNat)) ||| y2.toUInt16)))]) (own' := []) (shr' := []) [2] [] [] rfl rfl rfl rfl ?_
    obtain rfl := Option.some.inj h
    exact Tk_retV rfl rfl (resA (vs := [vU16 ((shl16 y1.toUInt16 ((8 : UInt64).toNat)) ||| y2.toUInt16)]) rfl ⟨rfl, trivial⟩) [] [] rfl rfl rfl ⟨rfl, rfl, rfl⟩

set_option maxRecDepth 100000 in
set_option maxHeartbeats 4000000 in
theorem w_frame_Sum {b : List UInt8} {vb1 : Value} {r : UInt16} (h : frame_Sum b = some r) :
    Ctr Try.prog 12 #[vb1] [] [Fact.sl u8S vb1 b]
      (fun rv own shr => rv = vU16 r ∧ own = [] ∧ shr = []) := by
  unfold frame_Sum at h
  refine Ctr.mk (args := [vb1]) Try.func12 rfl rfl (fun R0 w0 B => ?_)
  refine Tk_seq ?_
  refine Tk_region ?_
  refine Tops_step rfl (OpT_assign rfl rfl rfl rfl) ?_
  refine Tops_nil ?_
  refine Tk_wkS (fr' := [(0, some (vb1))]) (own' := []) (shr' := [Fact.sl u8S vb1 b]) [0] [] [0] rfl rfl rfl rfl ?_
  refine Tk_seq ?_
  refine Tk_region ?_
  refine Tops_step rfl (OpT_assign rfl rfl rfl rfl) ?_
  refine Tops_nil ?_
  refine Tk_seq ?_
  refine Tk_block ?_
  refine Tk_loopS (σ := (List UInt8) × UInt64 × Value) [0, 3] [] [0] (fun s => ⟨[(0, some (s.2.2)), (3, some (vU64 s.2.1))], [], [Fact.sl u8S s.2.2 s.1]⟩) (fun nf s => frame_SumL1 nf s.1 s.2.1 = some r) fuel (b, (0 : UInt64), vb1) h rfl rfl rfl rfl rfl (fun s h => by cases h) ?_
  rintro nf ⟨b1, s1, v1⟩ h
  replace h : frame_SumL1B (frame_SumL1 nf) b1 s1 = some r := h
  unfold frame_SumL1B at h
  refine Tk_seq ?_
  refine Tk_seq ?_
  refine Tk_region ?_
  refine Tops_step rfl (OpT_move rfl rfl rfl rfl) ?_
  refine Tops_step rfl (OpT_lenS rfl rfl rfl rfl Try.underlying22 (i := 0) rfl) ?_
  refine Tops_step rfl (OpT_bin rfl rfl rfl rfl rfl (bin_gtr_i (a := len b1) (b := (1 : Int)))) ?_
  refine Tops_nil ?_
  refine Tk_wkS (fr' := [(0, some (v1)), (3, some (vU64 s1)), (6, some (vB (decide ((len b1) > (1 : Int)))))]) (own' := []) (shr' := [Fact.sl u8S v1 b1]) [0, 3, 6] [] [0] rfl rfl rfl rfl ?_
  rcases Bool.eq_false_or_eq_true (decide ((len b1) > (1 : Int))) with hg1 | hg1
  · replace h := br_t hg1 h
    refine Tk_condT (congrArg (fun b => some (Value.bool b)) hg1) ?_
    refine Tk_skip ?_
    refine Tk_seq ?_
    refine Tk_block ?_
    refine Tk_region ?_
    refine Tops_step rfl (OpT_move rfl rfl rfl rfl) ?_
    refine Tops_step rfl (OpT_move rfl rfl rfl rfl) ?_
    obtain ⟨word1, hx1, h⟩ := ob_e h
    refine Tops_exP rfl (OpT_call (w_frame_word hx1) [] [0] rfl rfl rfl rfl rfl callee40 rfl rfl rfl rfl) ?_
    rintro _ ⟨_, _, _, ⟨rfl, rfl, rfl⟩, rfl⟩
    refine Tops_step rfl (OpT_cnv rfl rfl rfl rfl (cnv_u16_u64 (n := word1) Try.underlying24 Try.underlying53)) ?_
    refine Tops_step rfl (OpT_bin rfl rfl rfl rfl rfl (bin_add_u64 (a := s1) (b := word1.toUInt64))) ?_
    refine Tops_step rfl (OpT_assign rfl rfl rfl rfl) ?_
    refine Tops_nil ?_
    refine Tk_wkS (fr' := [(0, some (v1)), (3, some (vU64 (s1 + word1.toUInt64)))]) (own' := []) (shr' := [Fact.sl u8S v1 b1]) [0, 3] [] [0] rfl rfl rfl rfl ?_
    refine Tk_blk ?_
    refine Tk_region ?_
    refine Tops_step rfl (OpT_move rfl rfl rfl rfl) ?_
    obtain ⟨hc1, h⟩ := chk_e h
    refine Tops_ex rfl (OpT_sliceL (l := (2 : Int)) rfl rfl rfl rfl rfl slF22 (i := 0) rfl hc1) fun v2 => ?_
    refine Tops_step rfl (OpT_assign rfl rfl rfl rfl) ?_
    refine Tops_nil ?_
    refine Tk_wkS (fr' := [(0, some (v2)), (3, some (vU64 (s1 + word1.toUInt64)))]) (own' := []) (shr' := [Fact.sl u8S v2 (sub b1 (2 : Int) (len b1))]) [0, 3] [] [1] rfl rfl rfl rfl ?_
    exact Tk_backS (sub b1 (2 : Int) (len b1), s1 + word1.toUInt64, v2) h [0, 3] [] [0] rfl rfl rfl rfl rfl
  · replace h := br_f hg1 h
    refine Tk_condF (congrArg (fun b => some (Value.bool b)) hg1) ?_
    refine Tk_exit _ rfl ?_
    refine Tk_seq ?_
    refine Tk_seq ?_
    refine Tk_region ?_
    refine Tops_step rfl (OpT_move rfl rfl rfl rfl) ?_
    refine Tops_step rfl (OpT_lenS rfl rfl rfl rfl Try.underlying22 (i := 0) rfl) ?_
    refine Tops_step rfl (OpT_bin rfl rfl rfl rfl rfl (bin_eql_i (a := len b1) (b := (1 : Int)))) ?_
    refine Tops_nil ?_
    refine Tk_wkS (fr' := [(0, some (v1)), (3, some (vU64 s1)), (16, some (vB ((len b1) == (1 : Int))))]) (own' := []) (shr' := [Fact.sl u8S v1 b1]) [0, 3, 16] [] [0] rfl rfl rfl rfl ?_
    refine Tk_join (α := UInt64) (fun s => ⟨[(3, some (vU64 s))], [], []⟩) (fun s => frame_SumJ2 s = some r) ?_ ?_
    · rintro s2 h
      replace h : frame_SumJ2 s2 = some r := h
      unfold frame_SumJ2 at h
      refine Tk_seq ?_
      refine Tk_block ?_
      refine Tk_loopS (σ := UInt64) [3] [] [] (fun s => ⟨[(3, some (vU64 s))], [], []⟩) (fun nf s => frame_SumL3 nf s = some r) fuel s2 h rfl rfl rfl rfl rfl (fun s h => by cases h) ?_
      rintro nf s3 h
      replace h : frame_SumL3B (frame_SumL3 nf) s3 = some r := h
      unfold frame_SumL3B at h
      refine Tk_seq ?_
      refine Tk_seq ?_
      refine Tk_region ?_
      refine Tops_step rfl (OpT_move rfl rfl rfl rfl) ?_
      refine Tops_step rfl (OpT_bin rfl rfl rfl rfl rfl (bin_shr_u64_u64 (a := s3) (n := (16 : UInt64)))) ?_
      refine Tops_step rfl (OpT_bin rfl rfl rfl rfl rfl (bin_neq_u64 (a := shr64 s3 ((16 : UInt64).toNat)) (b := (0 : UInt64)))) ?_
      refine Tops_nil ?_
      refine Tk_wkS (fr' := [(3, some (vU64 s3)), (26, some (vB ((shr64 s3 ((16 : UInt64).toNat)) != (0 : UInt64))))]) (own' := []) (shr' := []) [3, 26] [] [] rfl rfl rfl rfl ?_
      rcases Bool.eq_false_or_eq_true ((shr64 s3 ((16 : UInt64).toNat)) != (0 : UInt64)) with hg2 | hg2
      · replace h := br_t hg2 h
        refine Tk_condT (congrArg (fun b => some (Value.bool b)) hg2) ?_
        refine Tk_skip ?_
        refine Tk_block ?_
        refine Tk_region ?_
        refine Tops_step rfl (OpT_move rfl rfl rfl rfl) ?_
        refine Tops_step rfl (OpT_bin rfl rfl rfl rfl rfl (bin_shr_u64_u64 (a := s3) (n := (16 : UInt64)))) ?_
        refine Tops_step rfl (OpT_move rfl rfl rfl rfl) ?_
        refine Tops_step rfl (OpT_bin rfl rfl rfl rfl rfl (bin_and_u64 (a := s3) (b := (65535 : UInt64)))) ?_
        refine Tops_step rfl (OpT_bin rfl rfl rfl rfl rfl (bin_add_u64 (a := shr64 s3 ((16 : UInt64).toNat)) (b := s3 &&& (65535 : UInt64)))) ?_
        refine Tops_step rfl (OpT_assign rfl rfl rfl rfl) ?_
        refine Tops_nil ?_
        refine Tk_wkS (fr' := [(3, some (vU64 ((shr64 s3 ((16 : UInt64).toNat)) + (s3 &&& (65535 : UInt64)))))]) (own' := []) (shr' := []) [3] [] [] rfl rfl rfl rfl ?_
        refine Tk_blk ?_
        exact Tk_backS ((shr64 s3 ((16 : UInt64).toNat)) + (s3 &&& (65535 : UInt64))) h [3] [] [] rfl rfl rfl rfl rfl
      · replace h := br_f hg2 h
        refine Tk_condF (congrArg (fun b => some (Value.bool b)) hg2) ?_
        refine Tk_exit _ rfl ?_
        refine Tk_seq ?_
        refine Tk_region ?_
        refine Tops_step rfl (OpT_move rfl rfl rfl rfl) ?_
        refine Tops_step rfl (OpT_cnv rfl rfl rfl rfl (cnv_u64_u16 (n := s3) Try.underlying53 Try.underlying24)) ?_
        refine Tops_step rfl (OpT_xor_u16 (z := s3.toUInt16) rfl rfl rfl rfl) ?_
        refine Tops_step rfl (OpT_assign rfl rfl rfl rfl) ?_
        refine Tops_nil ?_
        refine Tk_wkS (fr' := [(2, some (vU16 (~~~s3.toUInt16)))]) (own' := []) (shr' := []) [2] [] [] rfl rfl rfl rfl ?_
        obtain rfl := Option.some.inj h
        exact Tk_retV rfl rfl (resA (vs := [vU16 (~~~s3.toUInt16)]) rfl ⟨rfl, trivial⟩) [] [] rfl rfl rfl ⟨rfl, rfl, rfl⟩
    · intro HJ1
      rcases Bool.eq_false_or_eq_true ((len b1) == (1 : Int)) with hg3 | hg3
      · replace h := br_t hg3 h
        refine Tk_condT (congrArg (fun b => some (Value.bool b)) hg3) ?_
        refine Tk_region ?_
        refine Tops_step rfl (OpT_move rfl rfl rfl rfl) ?_
        refine Tops_step rfl (OpT_move rfl rfl rfl rfl) ?_
        obtain ⟨y1, hx2, h⟩ := ob_e h
        refine Tops_ex rfl (OpT_idxS rfl rfl rfl rfl rfl slF22 (i := 0) rfl hx2) fun p1 => ?_
        refine Tops_step rfl (OpT_loadP rfl rfl rfl rfl tyF5 (i := 1) rfl rfl) ?_
        refine Tops_step rfl (OpT_cnv rfl rfl rfl rfl (cnv_u8_u64 (n := y1) Try.underlying5 Try.underlying53)) ?_
        refine Tops_step rfl (OpT_bin rfl rfl rfl rfl rfl (bin_shl_u64_u64 (a := y1.toUInt64) (n := (8 : UInt64)))) ?_
        refine Tops_step rfl (OpT_bin rfl rfl rfl rfl rfl (bin_add_u64 (a := s1) (b := shl64 y1.toUInt64 ((8 : UInt64).toNat)))) ?_
        refine Tops_step rfl (OpT_assign rfl rfl rfl rfl) ?_
        refine Tops_nil ?_
        refine Tk_wkS (fr' := [(3, some (vU64 (s1 + (shl64 y1.toUInt64 ((8 : UInt64).toNat)))))]) (own' := []) (shr' := []) [3] [] [] rfl rfl rfl rfl ?_
        exact Tk_jmpS (HJ1 (s1 + (shl64 y1.toUInt64 ((8 : UInt64).toNat))) h) [3] [] [] rfl rfl rfl rfl
      · replace h := br_f hg3 h
        refine Tk_condF (congrArg (fun b => some (Value.bool b)) hg3) ?_
        refine Tk_skip ?_
        exact Tk_jmpS (HJ1 s1 h) [3] [] [] rfl rfl rfl rfl

set_option maxRecDepth 100000 in
set_option maxHeartbeats 4000000 in
theorem w_kit_Own {b : List UInt8} {vb1 : Value} {r : (List UInt8)} (h : kit_Own b = some r) :
    Ctr Try.prog 13 #[vb1] [] [Fact.sl u8S vb1 b]
      (fun rv own shr => ∃ (w1 : Value), rv = w1 ∧ own = [(rowS u8S w1 r)] ∧ shr = []) := by
  unfold kit_Own at h
  refine Ctr.mk (args := [vb1]) Try.func13 rfl rfl (fun R0 w0 B => ?_)
  refine Tk_seq ?_
  refine Tk_region ?_
  refine Tops_step rfl (OpT_assign rfl rfl rfl rfl) ?_
  refine Tops_nil ?_
  refine Tk_wkS (fr' := [(0, some (vb1))]) (own' := []) (shr' := [Fact.sl u8S vb1 b]) [0] [] [0] rfl rfl rfl rfl ?_
  refine Tk_seq ?_
  refine Tk_region ?_
  refine Tops_ex rfl (OpT_buildSlice (S := u8S) (xs := ([] : List UInt8)) (css := []) (cs := []) (e := 5) rfl rfl rfl rfl (bldF slF22 (by decide) (by kernel_rfl)) rfl rfl rfl rfl (rel_plainD (S := u8S) (xs := ([] : List UInt8)) (css := []) rfl rfl)) fun v1 => ?_
  refine Tops_step rfl (OpT_move rfl rfl rfl rfl) ?_
  obtain ⟨hc1, h⟩ := chk_e h
  refine Tops_ex rfl (OpT_append rfl rfl rfl rfl rfl slF22 (i := 0) (j := 0) rfl rfl hc1) fun v2 => ?_
  refine Tops_step rfl (OpT_assign rfl rfl rfl rfl) ?_
  refine Tops_nil ?_
  refine Tk_wkS (fr' := [(2, some (v2))]) (own' := [some (rowS u8S v2 b)]) (shr' := []) [2] [0] [] rfl rfl rfl rfl ?_
  obtain rfl := Option.some.inj h
  exact Tk_retV rfl rfl (resA (vs := [v2]) rfl ⟨rfl, trivial⟩) [0] [] rfl rfl rfl ⟨v2, rfl, rfl, rfl⟩

set_option maxRecDepth 100000 in
set_option maxHeartbeats 4000000 in
theorem w_frame_Check {f : Frame} {vf1 : Value} {r : Int} (h : frame_Check f = some r) :
    Ctr Try.prog 20 #[.agg #[vU8 f.Dst.a0, vU8 f.Dst.a1, vU8 f.Dst.a2, vU8 f.Dst.a3, vU8 f.Dst.a4, vU8 f.Dst.a5, vU8 f.Src.a0, vU8 f.Src.a1, vU8 f.Src.a2, vU8 f.Src.a3, vU8 f.Src.a4, vU8 f.Src.a5, vI f.Vlan, vU16 f.Type_, vf1]] [] [Fact.sl u8S vf1 f.Data]
      (fun rv own shr => rv = vI r ∧ own = [] ∧ shr = []) := by
  unfold frame_Check at h
  refine Ctr.mk (args := [.agg #[vU8 f.Dst.a0, vU8 f.Dst.a1, vU8 f.Dst.a2, vU8 f.Dst.a3, vU8 f.Dst.a4, vU8 f.Dst.a5, vU8 f.Src.a0, vU8 f.Src.a1, vU8 f.Src.a2, vU8 f.Src.a3, vU8 f.Src.a4, vU8 f.Src.a5, vI f.Vlan, vU16 f.Type_, vf1]]) Try.func20 rfl rfl (fun R0 w0 B => ?_)
  refine Tk_seq ?_
  refine Tk_region ?_
  refine Tops_ex rfl (OpT_box rfl rfl rfl rfl) fun b1 => ?_
  refine Tops_step rfl (OpT_assign rfl rfl rfl rfl) ?_
  refine Tops_nil ?_
  refine Tk_wkS (fr' := [(1, some (.pointer (some ⟨b1, 0, none⟩)))]) (own' := [some (cellsR b1 38 [vU8 f.Dst.a0, vU8 f.Dst.a1, vU8 f.Dst.a2, vU8 f.Dst.a3, vU8 f.Dst.a4, vU8 f.Dst.a5, vU8 f.Src.a0, vU8 f.Src.a1, vU8 f.Src.a2, vU8 f.Src.a3, vU8 f.Src.a4, vU8 f.Src.a5, vI f.Vlan, vU16 f.Type_, vf1])]) (shr' := [Fact.sl u8S vf1 f.Data]) [1] [0] [0] rfl rfl rfl rfl ?_
  refine Tk_seq ?_
  refine Tk_seq ?_
  refine Tk_region ?_
  refine Tops_step rfl (OpT_fieldC rfl rfl rfl rfl fldF38x2) ?_
  refine Tops_step rfl (OpT_loadC rfl rfl rfl rfl tyF3 (i := 0) rfl rfl) ?_
  refine Tops_step rfl (OpT_bin rfl rfl rfl rfl rfl (bin_lss_i (a := f.Vlan) (b := ((-1) : Int)))) ?_
  refine Tops_step rfl (OpT_move rfl rfl rfl rfl) ?_
  rcases Bool.eq_false_or_eq_true (decide (f.Vlan < ((-1) : Int))) with hg1 | hg1
  · replace h := br_t hg1 h
    refine Tops_no rfl rfl (congrArg (fun b => some (Value.bool b)) hg1) rfl rfl ?_
    refine Tops_no rfl rfl (congrArg (fun b => some (Value.bool b)) hg1) rfl rfl ?_
    refine Tops_no rfl rfl (congrArg (fun b => some (Value.bool b)) hg1) rfl rfl ?_
    refine Tops_step rfl (OpT_pickT rfl rfl rfl (congrArg (fun b => some (Value.bool b)) hg1) rfl) ?_
    refine Tops_step rfl (OpT_move rfl rfl rfl rfl) ?_
    refine Tops_no rfl rfl rfl rfl rfl ?_
    refine Tops_no rfl rfl rfl rfl rfl ?_
    refine Tops_no rfl rfl rfl rfl rfl ?_
    refine Tops_step rfl (OpT_pickT rfl rfl rfl rfl rfl) ?_
    refine Tops_step rfl (OpT_move rfl rfl rfl rfl) ?_
    refine Tops_no rfl rfl rfl rfl rfl ?_
    refine Tops_no rfl rfl rfl rfl rfl ?_
    refine Tops_no rfl rfl rfl rfl rfl ?_
    refine Tops_no rfl rfl rfl rfl rfl ?_
    refine Tops_step rfl (OpT_pickT rfl rfl rfl rfl rfl) ?_
    refine Tops_nil ?_
    refine Tk_wkS (fr' := [(21, some (vB true))]) (own' := []) (shr' := []) [21] [] [] rfl rfl rfl rfl ?_
    refine Tk_condT rfl ?_
    refine Tk_seq ?_
    refine Tk_region ?_
    refine Tops_step rfl (OpT_assign rfl rfl rfl rfl) ?_
    refine Tops_nil ?_
    refine Tk_wkS (fr' := [(2, some (vI (2 : Int)))]) (own' := []) (shr' := []) [2] [] [] rfl rfl rfl rfl ?_
    obtain rfl := Option.some.inj h
    exact Tk_retV rfl rfl (resA (vs := [vI (2 : Int)]) rfl ⟨rfl, trivial⟩) [] [] rfl rfl rfl ⟨rfl, rfl, rfl⟩
  · replace h := br_f hg1 h
    refine Tops_yes rfl rfl (congrArg (fun b => some (Value.bool b)) hg1) (OpT_fieldC rfl rfl rfl rfl fldF38x2) ?_
    rintro _ rfl
    refine Tops_yes rfl rfl (congrArg (fun b => some (Value.bool b)) hg1) (OpT_loadC rfl rfl rfl rfl tyF3 (i := 0) rfl rfl) ?_
    rintro _ rfl
    refine Tops_yes rfl rfl (congrArg (fun b => some (Value.bool b)) hg1) (OpT_bin rfl rfl rfl rfl rfl (bin_gtr_i (a := f.Vlan) (b := (4095 : Int)))) ?_
    rintro _ rfl
    refine Tops_step rfl (OpT_pickF rfl rfl rfl (congrArg (fun b => some (Value.bool b)) hg1) rfl) ?_
    refine Tops_step rfl (OpT_move rfl rfl rfl rfl) ?_
    rcases Bool.eq_false_or_eq_true (decide (f.Vlan > (4095 : Int))) with hg2 | hg2
    · replace h := br_t hg2 h
      refine Tops_no rfl rfl (congrArg (fun b => some (Value.bool b)) hg2) rfl rfl ?_
      refine Tops_no rfl rfl (congrArg (fun b => some (Value.bool b)) hg2) rfl rfl ?_
      refine Tops_no rfl rfl (congrArg (fun b => some (Value.bool b)) hg2) rfl rfl ?_
      refine Tops_step rfl (OpT_pickT rfl rfl rfl (congrArg (fun b => some (Value.bool b)) hg2) rfl) ?_
      refine Tops_step rfl (OpT_move rfl rfl rfl rfl) ?_
      refine Tops_no rfl rfl rfl rfl rfl ?_
      refine Tops_no rfl rfl rfl rfl rfl ?_
      refine Tops_no rfl rfl rfl rfl rfl ?_
      refine Tops_no rfl rfl rfl rfl rfl ?_
      refine Tops_step rfl (OpT_pickT rfl rfl rfl rfl rfl) ?_
      refine Tops_nil ?_
      refine Tk_wkS (fr' := [(21, some (vB true))]) (own' := []) (shr' := []) [21] [] [] rfl rfl rfl rfl ?_
      refine Tk_condT rfl ?_
      refine Tk_seq ?_
      refine Tk_region ?_
      refine Tops_step rfl (OpT_assign rfl rfl rfl rfl) ?_
      refine Tops_nil ?_
      refine Tk_wkS (fr' := [(2, some (vI (2 : Int)))]) (own' := []) (shr' := []) [2] [] [] rfl rfl rfl rfl ?_
      obtain rfl := Option.some.inj h
      exact Tk_retV rfl rfl (resA (vs := [vI (2 : Int)]) rfl ⟨rfl, trivial⟩) [] [] rfl rfl rfl ⟨rfl, rfl, rfl⟩
    · replace h := br_f hg2 h
      refine Tops_yes rfl rfl (congrArg (fun b => some (Value.bool b)) hg2) (OpT_fieldC rfl rfl rfl rfl fldF38x3) ?_
      rintro _ rfl
      refine Tops_yes rfl rfl (congrArg (fun b => some (Value.bool b)) hg2) (OpT_loadC rfl rfl rfl rfl tyF24 (i := 0) rfl rfl) ?_
      rintro _ rfl
      refine Tops_yes rfl rfl (congrArg (fun b => some (Value.bool b)) hg2) (OpT_bin rfl rfl rfl rfl rfl (bin_eql_u16 (a := f.Type_) (b := (33024 : UInt16)))) ?_
      rintro _ rfl
      refine Tops_step rfl (OpT_pickF rfl rfl rfl (congrArg (fun b => some (Value.bool b)) hg2) rfl) ?_
      refine Tops_step rfl (OpT_move rfl rfl rfl rfl) ?_
      rcases Bool.eq_false_or_eq_true (f.Type_ == (33024 : UInt16)) with hg3 | hg3
      · replace h := br_t hg3 h
        refine Tops_no rfl rfl (congrArg (fun b => some (Value.bool b)) hg3) rfl rfl ?_
        refine Tops_no rfl rfl (congrArg (fun b => some (Value.bool b)) hg3) rfl rfl ?_
        refine Tops_no rfl rfl (congrArg (fun b => some (Value.bool b)) hg3) rfl rfl ?_
        refine Tops_no rfl rfl (congrArg (fun b => some (Value.bool b)) hg3) rfl rfl ?_
        refine Tops_step rfl (OpT_pickT rfl rfl rfl (congrArg (fun b => some (Value.bool b)) hg3) rfl) ?_
        refine Tops_nil ?_
        refine Tk_wkS (fr' := [(21, some (vB true))]) (own' := []) (shr' := []) [21] [] [] rfl rfl rfl rfl ?_
        refine Tk_condT rfl ?_
        refine Tk_seq ?_
        refine Tk_region ?_
        refine Tops_step rfl (OpT_assign rfl rfl rfl rfl) ?_
        refine Tops_nil ?_
        refine Tk_wkS (fr' := [(2, some (vI (2 : Int)))]) (own' := []) (shr' := []) [2] [] [] rfl rfl rfl rfl ?_
        obtain rfl := Option.some.inj h
        exact Tk_retV rfl rfl (resA (vs := [vI (2 : Int)]) rfl ⟨rfl, trivial⟩) [] [] rfl rfl rfl ⟨rfl, rfl, rfl⟩
      · replace h := br_f hg3 h
        refine Tops_yes rfl rfl (congrArg (fun b => some (Value.bool b)) hg3) (OpT_fieldC rfl rfl rfl rfl fldF38x4) ?_
        rintro _ rfl
        refine Tops_yes rfl rfl (congrArg (fun b => some (Value.bool b)) hg3) (OpT_loadC rfl rfl rfl rfl tyF22 (i := 0) rfl rfl) ?_
        rintro _ rfl
        refine Tops_yes rfl rfl (congrArg (fun b => some (Value.bool b)) hg3) (OpT_lenS rfl rfl rfl rfl Try.underlying22 (i := 0) rfl) ?_
        rintro _ rfl
        refine Tops_yes rfl rfl (congrArg (fun b => some (Value.bool b)) hg3) (OpT_bin rfl rfl rfl rfl rfl (bin_gtr_i (a := len f.Data) (b := (1500 : Int)))) ?_
        rintro _ rfl
        refine Tops_step rfl (OpT_pickF rfl rfl rfl (congrArg (fun b => some (Value.bool b)) hg3) rfl) ?_
        refine Tops_nil ?_
        refine Tk_wkS (fr' := [(21, some (vB (decide ((len f.Data) > (1500 : Int)))))]) (own' := []) (shr' := []) [21] [] [] rfl rfl rfl rfl ?_
        rcases Bool.eq_false_or_eq_true (decide ((len f.Data) > (1500 : Int))) with hg4 | hg4
        · replace h := br_t hg4 h
          refine Tk_condT (congrArg (fun b => some (Value.bool b)) hg4) ?_
          refine Tk_seq ?_
          refine Tk_region ?_
          refine Tops_step rfl (OpT_assign rfl rfl rfl rfl) ?_
          refine Tops_nil ?_
          refine Tk_wkS (fr' := [(2, some (vI (2 : Int)))]) (own' := []) (shr' := []) [2] [] [] rfl rfl rfl rfl ?_
          obtain rfl := Option.some.inj h
          exact Tk_retV rfl rfl (resA (vs := [vI (2 : Int)]) rfl ⟨rfl, trivial⟩) [] [] rfl rfl rfl ⟨rfl, rfl, rfl⟩
        · replace h := br_f hg4 h
          refine Tk_condF (congrArg (fun b => some (Value.bool b)) hg4) ?_
          refine Tk_skip ?_
          refine Tk_seq ?_
          refine Tk_region ?_
          refine Tops_step rfl (OpT_assign rfl rfl rfl rfl) ?_
          refine Tops_nil ?_
          refine Tk_wkS (fr' := [(2, some (vI (0 : Int)))]) (own' := []) (shr' := []) [2] [] [] rfl rfl rfl rfl ?_
          obtain rfl := Option.some.inj h
          exact Tk_retV rfl rfl (resA (vs := [vI (0 : Int)]) rfl ⟨rfl, trivial⟩) [] [] rfl rfl rfl ⟨rfl, rfl, rfl⟩

set_option maxRecDepth 100000 in
set_option maxHeartbeats 4000000 in
theorem w_slices_Grow_bytebyten0 {np1 : Int} {r : (List UInt8)} (h : slices_Grow_bytebyten0 np1 = some r) :
    Ctr Try.prog 49 #[.slice none 0 0, vI np1] [] []
      (fun rv own shr => ∃ (w1 : Value), rv = w1 ∧ own = [(rowS u8S w1 r)] ∧ shr = []) := by
  unfold slices_Grow_bytebyten0 at h
  refine Ctr.mk (args := [.slice none 0 0, vI np1]) Try.func49 rfl rfl (fun R0 w0 B => ?_)
  refine Tk_seq ?_
  refine Tk_region ?_
  refine Tops_step rfl (OpT_assign rfl rfl rfl rfl) ?_
  refine Tops_nil ?_
  refine Tk_wkS (fr' := [(0, some (.slice none 0 0)), (1, some (vI np1))]) (own' := []) (shr' := []) [0, 1] [] [] rfl rfl rfl rfl ?_
  refine Tk_seq ?_
  refine Tk_seq ?_
  refine Tk_region ?_
  refine Tops_step rfl (OpT_move rfl rfl rfl rfl) ?_
  refine Tops_step rfl (OpT_bin rfl rfl rfl rfl rfl (bin_lss_i (a := np1) (b := (0 : Int)))) ?_
  refine Tops_nil ?_
  refine Tk_wkS (fr' := [(0, some (.slice none 0 0)), (1, some (vI np1)), (6, some (vB (decide (np1 < (0 : Int)))))]) (own' := []) (shr' := []) [0, 1, 6] [] [] rfl rfl rfl rfl ?_
  refine Tk_join (α := Unit) (fun s => ⟨[(0, some (.slice none 0 0)), (1, some (vI np1))], [], []⟩) (fun s => slices_Grow_bytebyten0J1 np1 = some r) ?_ ?_
  · rintro _ h
    replace h : slices_Grow_bytebyten0J1 np1 = some r := h
    unfold slices_Grow_bytebyten0J1 at h
    refine Tk_seq ?_
    refine Tk_seq ?_
    refine Tk_region ?_
    refine Tops_step rfl (OpT_move rfl rfl rfl rfl) ?_
    refine Tops_step rfl (OpT_move rfl rfl rfl rfl) ?_
    refine Tops_step rfl (OpT_capN rfl rfl rfl rfl Try.underlying22) ?_
    refine Tops_step rfl (OpT_move rfl rfl rfl rfl) ?_
    refine Tops_step rfl (OpT_lenE rfl rfl rfl rfl Try.underlying22) ?_
    refine Tops_step rfl (OpT_bin rfl rfl rfl rfl rfl (bin_sub_i (a := (0 : Int)) (b := (0 : Int)))) ?_
    refine Tops_step rfl (OpT_bin rfl rfl rfl rfl rfl (bin_sub_i (a := np1) (b := wi ((0 : Int) - (0 : Int))))) ?_
    refine Tops_step rfl (OpT_assign rfl rfl rfl rfl) ?_
    refine Tops_nil ?_
    refine Tk_wkS (fr' := [(0, some (.slice none 0 0)), (1, some (vI (wi (np1 - (wi ((0 : Int) - (0 : Int)))))))]) (own' := []) (shr' := []) [0, 1] [] [] rfl rfl rfl rfl ?_
    refine Tk_seq ?_
    refine Tk_region ?_
    refine Tops_step rfl (OpT_move rfl rfl rfl rfl) ?_
    refine Tops_step rfl (OpT_bin rfl rfl rfl rfl rfl (bin_gtr_i (a := wi (np1 - (wi ((0 : Int) - (0 : Int))))) (b := (0 : Int)))) ?_
    refine Tops_nil ?_
    refine Tk_wkS (fr' := [(0, some (.slice none 0 0)), (1, some (vI (wi (np1 - (wi ((0 : Int) - (0 : Int))))))), (16, some (vB (decide ((wi (np1 - (wi ((0 : Int) - (0 : Int))))) > (0 : Int)))))]) (own' := []) (shr' := []) [0, 1, 16] [] [] rfl rfl rfl rfl ?_
    rcases Bool.eq_false_or_eq_true (decide ((wi (np1 - (wi ((0 : Int) - (0 : Int))))) > (0 : Int))) with hg1 | hg1
    · replace h := br_t hg1 h
      refine Tk_condT (congrArg (fun b => some (Value.bool b)) hg1) ?_
      refine Tk_region ?_
      refine Tops_step rfl (OpT_move rfl rfl rfl rfl) ?_
      refine Tops_step rfl (OpT_move rfl rfl rfl rfl) ?_
      refine Tops_step rfl (OpT_capN rfl rfl rfl rfl Try.underlying22) ?_
      refine Tops_step rfl (OpT_sliceN rfl rfl rfl rfl rfl Try.underlying22 ⟨_, (slF22).sz⟩) ?_
      refine Tops_step rfl (OpT_move rfl rfl rfl rfl) ?_
      obtain ⟨hc1, h⟩ := chk_e h
      refine Tops_ex rfl (OpT_appendZ u8S rfl (l := wi (np1 - (wi ((0 : Int) - (0 : Int))))) (u := (0 : UInt8)) rfl rfl rfl rfl rfl slF22 Try.underlying3 rfl hc1) fun v1 => ?_
      refine Tops_step rfl (OpT_move rfl rfl rfl rfl) ?_
      refine Tops_step rfl (OpT_lenE rfl rfl rfl rfl Try.underlying22) ?_
      obtain ⟨hc2, h⟩ := chk_e h
      refine Tops_ex rfl (OpT_sliceO (m := (0 : Int)) rfl rfl rfl rfl rfl slF22 (i := 0) rfl hc2) fun v2 => ?_
      refine Tops_step rfl (OpT_assign rfl rfl rfl rfl) ?_
      refine Tops_nil ?_
      refine Tk_wkS (fr' := [(0, some (v2))]) (own' := [some (rowS u8S v2 ((List.replicate (wi (np1 - (wi ((0 : Int) - (0 : Int))))).toNat (0 : UInt8)).take (0 : Int).toNat))]) (shr' := []) [0] [0] [] rfl rfl rfl rfl ?_
      refine Tk_seq ?_
      refine Tk_region ?_
      refine Tops_step rfl (OpT_move rfl rfl rfl rfl) ?_
      refine Tops_step rfl (OpT_assign rfl rfl rfl rfl) ?_
      refine Tops_nil ?_
      refine Tk_wkS (fr' := [(4, some (v2))]) (own' := [some (rowS u8S v2 ((List.replicate (wi (np1 - (wi ((0 : Int) - (0 : Int))))).toNat (0 : UInt8)).take (0 : Int).toNat))]) (shr' := []) [4] [0] [] rfl rfl rfl rfl ?_
      obtain rfl := Option.some.inj h
      exact Tk_retV rfl rfl (resA (vs := [v2]) rfl ⟨rfl, trivial⟩) [0] [] rfl rfl rfl ⟨v2, rfl, rfl, rfl⟩
    · replace h := br_f hg1 h
      refine Tk_condF (congrArg (fun b => some (Value.bool b)) hg1) ?_
      refine Tk_skip ?_
      refine Tk_seq ?_
      refine Tk_region ?_
      refine Tops_step rfl (OpT_move rfl rfl rfl rfl) ?_
      refine Tops_step rfl (OpT_assign rfl rfl rfl rfl) ?_
      refine Tops_nil ?_
      refine Tk_wkS (fr' := [(4, some (.slice none 0 0))]) (own' := []) (shr' := []) [4] [] [] rfl rfl rfl rfl ?_
      refine Tk_nilrow u8S ?_
      obtain rfl := Option.some.inj h
      exact Tk_retV rfl rfl (resA (vs := [.slice none 0 0]) rfl ⟨rfl, trivial⟩) [0] [] rfl rfl rfl ⟨(.slice none 0 0), rfl, rfl, rfl⟩
  · intro HJ1
    obtain ⟨hg2, h⟩ := chk_e h
    replace hg2 := not_t hg2
    refine Tk_condF (congrArg (fun b => some (Value.bool b)) hg2) ?_
    refine Tk_skip ?_
    exact Tk_jmpS (HJ1 () h) [0, 1] [] [] rfl rfl rfl rfl

set_option maxRecDepth 100000 in
set_option maxHeartbeats 4000000 in
theorem w_slices_Concat_bytebyte {slices : List (List UInt8)} {vslices1 : Value} {r : (List UInt8)} (h : slices_Concat_bytebyte slices = some r) :
    Ctr Try.prog 42 #[vslices1] [] [Fact.sl (Shape.slice u8S) vslices1 slices]
      (fun rv own shr => ∃ (w1 : Value), rv = w1 ∧ own = [(rowS u8S w1 r)] ∧ shr = []) := by
  unfold slices_Concat_bytebyte at h
  refine Ctr.mk (args := [vslices1]) Try.func42 rfl rfl (fun R0 w0 B => ?_)
  refine Tk_seq ?_
  refine Tk_region ?_
  refine Tops_step rfl (OpT_assign rfl rfl rfl rfl) ?_
  refine Tops_nil ?_
  refine Tk_wkS (fr' := [(0, some (vslices1))]) (own' := []) (shr' := [Fact.sl (Shape.slice u8S) vslices1 slices]) [0] [] [0] rfl rfl rfl rfl ?_
  refine Tk_seq ?_
  refine Tk_region ?_
  refine Tops_step rfl (OpT_assign rfl rfl rfl rfl) ?_
  refine Tops_nil ?_
  refine Tk_seq ?_
  refine Tk_seq ?_
  refine Tk_region ?_
  refine Tops_step rfl (OpT_move rfl rfl rfl rfl) ?_
  refine Tops_step rfl (OpT_lenS rfl rfl rfl rfl Try.underlying74 (i := 0) rfl) ?_
  refine Tops_step rfl (OpT_move rfl rfl rfl rfl) ?_
  refine Tops_nil ?_
  refine Tk_block ?_
  refine Tk_loopS (σ := Int × Int) [0, 3, 9, 10, 11] [] [0] (fun s => ⟨[(0, some (vslices1)), (3, some (vI s.1)), (9, some (vslices1)), (10, some (vI (len slices))), (11, some (vI s.2))], [], [Fact.sl (Shape.slice u8S) vslices1 slices]⟩) (fun nf s => slices_Concat_bytebyteL1 slices nf s.1 s.2 = some r) fuel ((0 : Int), (0 : Int)) h rfl rfl rfl rfl rfl (fun s h => by cases h) ?_
  rintro nf ⟨size1, x1⟩ h
  replace h : slices_Concat_bytebyteL1B slices (slices_Concat_bytebyteL1 slices nf) size1 x1 = some r := h
  unfold slices_Concat_bytebyteL1B at h
  refine Tk_seq ?_
  refine Tk_region ?_
  refine Tops_step rfl (OpT_bin rfl rfl rfl rfl rfl (bin_lss_i (a := x1) (b := len slices))) ?_
  refine Tops_nil ?_
  refine Tk_seq ?_
  rcases Bool.eq_false_or_eq_true (decide (x1 < (len slices))) with hg1 | hg1
  · replace h := br_t hg1 h
    refine Tk_condT (congrArg (fun b => some (Value.bool b)) hg1) ?_
    refine Tk_skip ?_
    refine Tk_seq ?_
    refine Tk_join (α := Int) (fun s => ⟨[(0, some (vslices1)), (3, some (vI s)), (9, some (vslices1)), (10, some (vI (len slices))), (11, some (vI x1))], [], [Fact.sl (Shape.slice u8S) vslices1 slices]⟩) (fun s => slices_Concat_bytebyteJ2 x1 (slices_Concat_bytebyteL1 slices nf) s = some r) ?_ ?_
    · rintro size2 h
      replace h : slices_Concat_bytebyteJ2 x1 (slices_Concat_bytebyteL1 slices nf) size2 = some r := h
      unfold slices_Concat_bytebyteJ2 at h
      refine Tk_region ?_
      refine Tops_step rfl (OpT_bin rfl rfl rfl rfl rfl (bin_add_i (a := x1) (b := (1 : Int)))) ?_
      refine Tops_step rfl (OpT_move rfl rfl rfl rfl) ?_
      refine Tops_nil ?_
      refine Tk_wkS (fr' := [(0, some (vslices1)), (3, some (vI size2)), (9, some (vslices1)), (10, some (vI (len slices))), (11, some (vI (wi (x1 + (1 : Int)))))]) (own' := []) (shr' := [Fact.sl (Shape.slice u8S) vslices1 slices]) [0, 3, 9, 10, 11] [] [0] rfl rfl rfl rfl ?_
      exact Tk_backS (size2, wi (x1 + (1 : Int))) h [0, 3, 9, 10, 11] [] [0] rfl rfl rfl rfl rfl
    · intro HJ1
      refine Tk_block ?_
      refine Tk_seq ?_
      refine Tk_region ?_
      obtain ⟨y1, hx1, h⟩ := ob_e h
      refine Tops_ex rfl (OpT_idxS rfl rfl rfl rfl rfl slF74 (i := 0) rfl hx1) fun p1 => ?_
      refine Tops_ex rfl (OpT_loadPS rfl rfl rfl rfl tyF22 (i := 1) rfl) fun v1 => ?_
      refine Tops_step rfl (OpT_assign rfl rfl rfl rfl) ?_
      refine Tops_nil ?_
      refine Tk_wkS (fr' := [(0, some (vslices1)), (3, some (vI size1)), (9, some (vslices1)), (10, some (vI (len slices))), (11, some (vI x1)), (5, some (v1))]) (own' := []) (shr' := [Fact.sl (Shape.slice u8S) vslices1 slices, Fact.sl u8S v1 y1]) [0, 3, 9, 10, 11, 5] [] [0, 2] rfl rfl rfl rfl ?_
      refine Tk_seq ?_
      refine Tk_region ?_
      refine Tops_step rfl (OpT_move rfl rfl rfl rfl) ?_
      refine Tops_step rfl (OpT_move rfl rfl rfl rfl) ?_
      refine Tops_step rfl (OpT_lenS rfl rfl rfl rfl Try.underlying22 (i := 1) rfl) ?_
      refine Tops_step rfl (OpT_bin rfl rfl rfl rfl rfl (bin_add_i (a := size1) (b := len y1))) ?_
      refine Tops_step rfl (OpT_assign rfl rfl rfl rfl) ?_
      refine Tops_nil ?_
      refine Tk_wkS (fr' := [(0, some (vslices1)), (3, some (vI (wi (size1 + (len y1))))), (9, some (vslices1)), (10, some (vI (len slices))), (11, some (vI x1))]) (own' := []) (shr' := [Fact.sl (Shape.slice u8S) vslices1 slices]) [0, 3, 9, 10, 11] [] [0] rfl rfl rfl rfl ?_
      refine Tk_seq ?_
      refine Tk_region ?_
      refine Tops_step rfl (OpT_move rfl rfl rfl rfl) ?_
      refine Tops_step rfl (OpT_bin rfl rfl rfl rfl rfl (bin_lss_i (a := wi (size1 + (len y1))) (b := (0 : Int)))) ?_
      refine Tops_nil ?_
      refine Tk_wkS (fr' := [(0, some (vslices1)), (3, some (vI (wi (size1 + (len y1))))), (9, some (vslices1)), (10, some (vI (len slices))), (11, some (vI x1)), (20, some (vB (decide ((wi (size1 + (len y1))) < (0 : Int)))))]) (own' := []) (shr' := [Fact.sl (Shape.slice u8S) vslices1 slices]) [0, 3, 9, 10, 11, 20] [] [0] rfl rfl rfl rfl ?_
      refine Tk_join (α := Unit) (fun s => ⟨[(0, some (vslices1)), (3, some (vI (wi (size1 + (len y1))))), (9, some (vslices1)), (10, some (vI (len slices))), (11, some (vI x1))], [], [Fact.sl (Shape.slice u8S) vslices1 slices]⟩) (fun s => slices_Concat_bytebyteJ3 size1 x1 (slices_Concat_bytebyteL1 slices nf) y1 = some r) ?_ ?_
      · rintro _ h
        replace h : slices_Concat_bytebyteJ3 size1 x1 (slices_Concat_bytebyteL1 slices nf) y1 = some r := h
        unfold slices_Concat_bytebyteJ3 at h
        refine Tk_blk ?_
        exact Tk_jmpS (HJ1 (wi (size1 + (len y1))) h) [0, 3, 9, 10, 11] [] [0] rfl rfl rfl rfl
      · intro HJ2
        obtain ⟨hg2, h⟩ := chk_e h
        replace hg2 := not_t hg2
        refine Tk_condF (congrArg (fun b => some (Value.bool b)) hg2) ?_
        refine Tk_skip ?_
        exact Tk_jmpS (HJ2 () h) [0, 3, 9, 10, 11] [] [0] rfl rfl rfl rfl
  · replace h := br_f hg1 h
    refine Tk_condF (congrArg (fun b => some (Value.bool b)) hg1) ?_
    refine Tk_exit _ rfl ?_
    refine Tk_seq ?_
    refine Tk_region ?_
    refine Tops_step rfl (OpT_move rfl rfl rfl rfl) ?_
    obtain ⟨growby1, hx2, h⟩ := ob_e h
    refine Tops_exP rfl (OpT_call (w_slices_Grow_bytebyten0 hx2) [] [] rfl rfl rfl rfl rfl callee49 rfl rfl rfl rfl) ?_
    rintro _ ⟨v2, _, _, ⟨_, rfl, rfl, rfl⟩, rfl⟩
    refine Tops_step rfl (OpT_assign rfl rfl rfl rfl) ?_
    refine Tops_nil ?_
    refine Tk_wkS (fr' := [(0, some (vslices1)), (6, some (v2))]) (own' := [some (rowS u8S v2 growby1)]) (shr' := [Fact.sl (Shape.slice u8S) vslices1 slices]) [0, 6] [0] [0] rfl rfl rfl rfl ?_
    refine Tk_seq ?_
    refine Tk_seq ?_
    refine Tk_region ?_
    refine Tops_step rfl (OpT_move rfl rfl rfl rfl) ?_
    refine Tops_step rfl (OpT_lenS rfl rfl rfl rfl Try.underlying74 (i := 0) rfl) ?_
    refine Tops_step rfl (OpT_move rfl rfl rfl rfl) ?_
    refine Tops_nil ?_
    refine Tk_wkS (fr' := [(6, some (v2)), (25, some (vslices1)), (26, some (vI (len slices))), (27, some (vI (0 : Int)))]) (own' := [some (rowS u8S v2 growby1)]) (shr' := [Fact.sl (Shape.slice u8S) vslices1 slices]) [6, 25, 26, 27] [0] [0] rfl rfl rfl rfl ?_
    refine Tk_block ?_
    refine Tk_loopS (σ := (List UInt8) × Int × Value) [6, 25, 26, 27] [0] [0] (fun s => ⟨[(6, some (s.2.2)), (25, some (vslices1)), (26, some (vI (len slices))), (27, some (vI s.2.1))], [some (rowS u8S s.2.2 s.1)], [Fact.sl (Shape.slice u8S) vslices1 slices]⟩) (fun nf s => slices_Concat_bytebyteL4 slices nf s.1 s.2.1 = some r) fuel (growby1, (0 : Int), v2) h rfl rfl rfl rfl rfl (fun s h => by cases h) ?_
    rintro nf ⟨newslice1, x2, v3⟩ h
    replace h : slices_Concat_bytebyteL4B slices (slices_Concat_bytebyteL4 slices nf) newslice1 x2 = some r := h
    unfold slices_Concat_bytebyteL4B at h
    refine Tk_seq ?_
    refine Tk_region ?_
    refine Tops_step rfl (OpT_bin rfl rfl rfl rfl rfl (bin_lss_i (a := x2) (b := len slices))) ?_
    refine Tops_nil ?_
    refine Tk_seq ?_
    rcases Bool.eq_false_or_eq_true (decide (x2 < (len slices))) with hg3 | hg3
    · replace h := br_t hg3 h
      refine Tk_condT (congrArg (fun b => some (Value.bool b)) hg3) ?_
      refine Tk_skip ?_
      refine Tk_seq ?_
      refine Tk_block ?_
      refine Tk_seq ?_
      refine Tk_region ?_
      obtain ⟨y2, hx3, h⟩ := ob_e h
      refine Tops_ex rfl (OpT_idxS rfl rfl rfl rfl rfl slF74 (i := 0) rfl hx3) fun p2 => ?_
      refine Tops_ex rfl (OpT_loadPS rfl rfl rfl rfl tyF22 (i := 1) rfl) fun v4 => ?_
      refine Tops_step rfl (OpT_assign rfl rfl rfl rfl) ?_
      refine Tops_nil ?_
      refine Tk_wkS (fr' := [(6, some (v3)), (25, some (vslices1)), (26, some (vI (len slices))), (27, some (vI x2)), (8, some (v4))]) (own' := [some (rowS u8S v3 newslice1)]) (shr' := [Fact.sl (Shape.slice u8S) vslices1 slices, Fact.sl u8S v4 y2]) [6, 25, 26, 27, 8] [0] [0, 2] rfl rfl rfl rfl ?_
      refine Tk_region ?_
      refine Tops_step rfl (OpT_move rfl rfl rfl rfl) ?_
      refine Tops_step rfl (OpT_move rfl rfl rfl rfl) ?_
      obtain ⟨hc1, h⟩ := chk_e h
      refine Tops_ex rfl (OpT_append rfl rfl rfl rfl rfl slF22 (i := 0) (j := 1) rfl rfl hc1) fun v5 => ?_
      refine Tops_step rfl (OpT_assign rfl rfl rfl rfl) ?_
      refine Tops_nil ?_
      refine Tk_wkS (fr' := [(6, some (v5)), (25, some (vslices1)), (26, some (vI (len slices))), (27, some (vI x2))]) (own' := [some (rowS u8S v5 (newslice1 ++ y2))]) (shr' := [Fact.sl (Shape.slice u8S) vslices1 slices]) [6, 25, 26, 27] [0] [0] rfl rfl rfl rfl ?_
      refine Tk_blk ?_
      refine Tk_region ?_
      refine Tops_step rfl (OpT_bin rfl rfl rfl rfl rfl (bin_add_i (a := x2) (b := (1 : Int)))) ?_
      refine Tops_step rfl (OpT_move rfl rfl rfl rfl) ?_
      refine Tops_nil ?_
      refine Tk_wkS (fr' := [(6, some (v5)), (25, some (vslices1)), (26, some (vI (len slices))), (27, some (vI (wi (x2 + (1 : Int)))))]) (own' := [some (rowS u8S v5 (newslice1 ++ y2))]) (shr' := [Fact.sl (Shape.slice u8S) vslices1 slices]) [6, 25, 26, 27] [0] [0] rfl rfl rfl rfl ?_
      exact Tk_backS (newslice1 ++ y2, wi (x2 + (1 : Int)), v5) h [6, 25, 26, 27] [0] [0] rfl rfl rfl rfl rfl
    · replace h := br_f hg3 h
      refine Tk_condF (congrArg (fun b => some (Value.bool b)) hg3) ?_
      refine Tk_exit _ rfl ?_
      refine Tk_seq ?_
      refine Tk_region ?_
      refine Tops_step rfl (OpT_move rfl rfl rfl rfl) ?_
      refine Tops_step rfl (OpT_assign rfl rfl rfl rfl) ?_
      refine Tops_nil ?_
      refine Tk_wkS (fr' := [(2, some (v3))]) (own' := [some (rowS u8S v3 newslice1)]) (shr' := []) [2] [0] [] rfl rfl rfl rfl ?_
      obtain rfl := Option.some.inj h
      exact Tk_retV rfl rfl (resA (vs := [v3]) rfl ⟨rfl, trivial⟩) [0] [] rfl rfl rfl ⟨v3, rfl, rfl, rfl⟩

set_option maxRecDepth 100000 in
set_option maxHeartbeats 4000000 in
theorem w_frame_Bytes {f : Frame} {vf1 : Value} {r : ((List UInt8) × Int)} (h : frame_Bytes f = some r) :
    Ctr Try.prog 16 #[.agg #[vU8 f.Dst.a0, vU8 f.Dst.a1, vU8 f.Dst.a2, vU8 f.Dst.a3, vU8 f.Dst.a4, vU8 f.Dst.a5, vU8 f.Src.a0, vU8 f.Src.a1, vU8 f.Src.a2, vU8 f.Src.a3, vU8 f.Src.a4, vU8 f.Src.a5, vI f.Vlan, vU16 f.Type_, vf1]] [] [Fact.sl u8S vf1 f.Data]
      (fun rv own shr => ∃ (w1 : Value), rv = .tuple #[w1, vI r.2] ∧ own = [(rowS u8S w1 r.1)] ∧ shr = []) := by
  unfold frame_Bytes at h
  refine Ctr.mk (args := [.agg #[vU8 f.Dst.a0, vU8 f.Dst.a1, vU8 f.Dst.a2, vU8 f.Dst.a3, vU8 f.Dst.a4, vU8 f.Dst.a5, vU8 f.Src.a0, vU8 f.Src.a1, vU8 f.Src.a2, vU8 f.Src.a3, vU8 f.Src.a4, vU8 f.Src.a5, vI f.Vlan, vU16 f.Type_, vf1]]) Try.func16 rfl rfl (fun R0 w0 B => ?_)
  refine Tk_seq ?_
  refine Tk_region ?_
  refine Tops_ex rfl (OpT_box rfl rfl rfl rfl) fun b1 => ?_
  refine Tops_step rfl (OpT_assign rfl rfl rfl rfl) ?_
  refine Tops_step rfl (OpT_assign rfl rfl rfl rfl) ?_
  refine Tops_nil ?_
  refine Tk_wkS (fr' := [(1, some (.pointer (some ⟨b1, 0, none⟩)))]) (own' := [some (cellsR b1 38 [vU8 f.Dst.a0, vU8 f.Dst.a1, vU8 f.Dst.a2, vU8 f.Dst.a3, vU8 f.Dst.a4, vU8 f.Dst.a5, vU8 f.Src.a0, vU8 f.Src.a1, vU8 f.Src.a2, vU8 f.Src.a3, vU8 f.Src.a4, vU8 f.Src.a5, vI f.Vlan, vU16 f.Type_, vf1])]) (shr' := [Fact.sl u8S vf1 f.Data]) [1] [0] [0] rfl rfl rfl rfl ?_
  refine Tk_seq ?_
  refine Tk_seq ?_
  refine Tk_region ?_
  refine Tops_step rfl (OpT_loadCA (vs := [vU8 f.Dst.a0, vU8 f.Dst.a1, vU8 f.Dst.a2, vU8 f.Dst.a3, vU8 f.Dst.a4, vU8 f.Dst.a5, vU8 f.Src.a0, vU8 f.Src.a1, vU8 f.Src.a2, vU8 f.Src.a3, vU8 f.Src.a4, vU8 f.Src.a5, vI f.Vlan, vU16 f.Type_, vf1]) rfl rfl rfl rfl tyF38 (i := 0) rfl rfl rfl) ?_
  obtain ⟨check1, hx1, h⟩ := ob_e h
  refine Tops_exP rfl (OpT_call (w_frame_Check hx1) [] [0] rfl rfl rfl rfl rfl callee20 rfl rfl rfl rfl) ?_
  rintro _ ⟨_, _, _, ⟨rfl, rfl, rfl⟩, rfl⟩
  refine Tops_step rfl (OpT_assign rfl rfl rfl rfl) ?_
  refine Tops_nil ?_
  refine Tk_wkS (fr' := [(1, some (.pointer (some ⟨b1, 0, none⟩))), (4, some (vI check1))]) (own' := [some (cellsR b1 38 [vU8 f.Dst.a0, vU8 f.Dst.a1, vU8 f.Dst.a2, vU8 f.Dst.a3, vU8 f.Dst.a4, vU8 f.Dst.a5, vU8 f.Src.a0, vU8 f.Src.a1, vU8 f.Src.a2, vU8 f.Src.a3, vU8 f.Src.a4, vU8 f.Src.a5, vI f.Vlan, vU16 f.Type_, vf1])]) (shr' := [Fact.sl u8S vf1 f.Data]) [1, 4] [0] [0] rfl rfl rfl rfl ?_
  refine Tk_seq ?_
  refine Tk_region ?_
  refine Tops_step rfl (OpT_move rfl rfl rfl rfl) ?_
  refine Tops_step rfl (OpT_bin rfl rfl rfl rfl rfl (bin_neq_i (a := check1) (b := (0 : Int)))) ?_
  refine Tops_nil ?_
  refine Tk_wkS (fr' := [(1, some (.pointer (some ⟨b1, 0, none⟩))), (4, some (vI check1)), (9, some (vB (check1 != (0 : Int))))]) (own' := [some (cellsR b1 38 [vU8 f.Dst.a0, vU8 f.Dst.a1, vU8 f.Dst.a2, vU8 f.Dst.a3, vU8 f.Dst.a4, vU8 f.Dst.a5, vU8 f.Src.a0, vU8 f.Src.a1, vU8 f.Src.a2, vU8 f.Src.a3, vU8 f.Src.a4, vU8 f.Src.a5, vI f.Vlan, vU16 f.Type_, vf1])]) (shr' := [Fact.sl u8S vf1 f.Data]) [1, 4, 9] [0] [0] rfl rfl rfl rfl ?_
  rcases Bool.eq_false_or_eq_true (check1 != (0 : Int)) with hg1 | hg1
  · replace h := br_t hg1 h
    refine Tk_condT (congrArg (fun b => some (Value.bool b)) hg1) ?_
    refine Tk_seq ?_
    refine Tk_region ?_
    refine Tops_step rfl (OpT_move rfl rfl rfl rfl) ?_
    refine Tops_step rfl (OpT_assign rfl rfl rfl rfl) ?_
    refine Tops_step rfl (OpT_assign rfl rfl rfl rfl) ?_
    refine Tops_nil ?_
    refine Tk_wkS (fr' := [(2, some (.slice none 0 0)), (3, some (vI check1))]) (own' := []) (shr' := []) [2, 3] [] [] rfl rfl rfl rfl ?_
    refine Tk_nilrow u8S ?_
    obtain rfl := Option.some.inj h
    exact Tk_retV rfl rfl (resA (vs := [.slice none 0 0, vI check1]) rfl ⟨rfl, rfl, trivial⟩) [0] [] rfl rfl rfl ⟨(.slice none 0 0), rfl, rfl, rfl⟩
  · replace h := br_f hg1 h
    refine Tk_condF (congrArg (fun b => some (Value.bool b)) hg1) ?_
    refine Tk_skip ?_
    refine Tk_seq ?_
    refine Tk_drawT (by kernel_rfl) ?_
    refine TA_tb [0, 1, 0, 4, 15, 31, 63] (by kernel_rfl) fun htb => ?_
    refine TA_wkS (fr' := [(1, some (.pointer (some ⟨b1, 0, none⟩)))]) (own' := [some (cellsR b1 38 [vU8 f.Dst.a0, vU8 f.Dst.a1, vU8 f.Dst.a2, vU8 f.Dst.a3, vU8 f.Dst.a4, vU8 f.Dst.a5, vU8 f.Src.a0, vU8 f.Src.a1, vU8 f.Src.a2, vU8 f.Src.a3, vU8 f.Src.a4, vU8 f.Src.a5, vI f.Vlan, vU16 f.Type_, vf1])]) (shr' := [Fact.sl u8S vf1 f.Data]) [1] [0] [0] rfl rfl rfl rfl ?_
    refine TA_vs (vs_retireP FrameS (x := f) (i := 0) rfl (rel_s1 (i := 0) rfl rfl rfl)) ?_
    refine TA_seg (lo := 0) (hi := 4) htb rfl rfl (by kernel_rfl) (fun c L a w => ∃ (p1 : Value), ∃ (v1 : Value), ∃ (p2 : Value), ∃ (v2 : Value), Sat c ⟨[(1, some (.pointer (some ⟨b1, 0, none⟩))), (11, bif L 0 then some (p1) else none), (12, bif L 1 then some (v1) else none), (13, bif L 2 then some (p2) else none), (14, bif L 3 then some (v2) else none)], [(none : Option Res)], [Fact.sl u8S vf1 f.Data, Fact.pt FrameS (.pointer (some ⟨b1, 0, none⟩)) f, (bif L 0 then Fact.pt a6UInt8S p1 f.Dst else Fact.tt), (bif L 1 then Fact.sl u8S v1 [f.Dst.a0, f.Dst.a1, f.Dst.a2, f.Dst.a3, f.Dst.a4, f.Dst.a5] else Fact.tt), (bif L 2 then Fact.pt a6UInt8S p2 f.Src else Fact.tt), (bif L 3 then Fact.sl u8S v2 [f.Src.a0, f.Src.a1, f.Src.a2, f.Src.a3, f.Src.a4, f.Src.a5] else Fact.tt)]⟩ a w) [([], [1]), ([0], []), ([], [3]), ([2], [])] rfl (by kernel_rfl) ?_ (steps_cons ?_ (steps_cons ?_ (steps_cons ?_ (steps_cons ?_ (steps_nil))))) ?_
    · intro a w hs
      exact ⟨undef, undef, undef, undef, hs.startF [11, 12, 13, 14] [0] [0, 1, 2, 3, 4, 5] rfl rfl rfl rfl⟩
    · intro L a w hv K Q hK
      obtain ⟨p1, v1, p2, v2, hs⟩ := hv
      refine wpOp_go rfl rfl hs (OpT_fieldP (S' := a6UInt8S) (y := f.Dst) rfl rfl rfl rfl fldF38x0 (i := 1) rfl (by intro h cs hr; obtain ⟨v, rfl, _⟩ := hr; rfl)) ?_
      rintro _ ⟨p1', rfl⟩ a' w' hs'
      exact hK a' w' ⟨p1', v1, p2, v2, hs'.putF (i := 1) rfl [0] [0, 1, 6, 3, 4, 5] rfl rfl rfl rfl⟩
    · intro L a w hv K Q hK
      obtain ⟨p1, v1, p2, v2, hs⟩ := hv
      refine wpOp_go rfl rfl hs (OpT_sliceArrP u8S rfl (xs := [f.Dst.a0, f.Dst.a1, f.Dst.a2, f.Dst.a3, f.Dst.a4, f.Dst.a5]) rfl rfl rfl rfl arrF36 (i := 2) rfl (fun _ _ h => h) rfl rfl) ?_
      rintro _ ⟨v1', rfl⟩ a' w' hs'
      exact hK a' w' ⟨p1, v1', p2, v2, hs'.putF (i := 2) rfl [0] [0, 1, 2, 6, 4, 5] rfl rfl rfl rfl⟩
    · intro L a w hv K Q hK
      obtain ⟨p1, v1, p2, v2, hs⟩ := hv
      refine wpOp_go rfl rfl hs (OpT_fieldP (S' := a6UInt8S) (y := f.Src) rfl rfl rfl rfl fldF38x1 (i := 1) rfl (by intro h cs hr; obtain ⟨v, rfl, _⟩ := hr; rfl)) ?_
      rintro _ ⟨p2', rfl⟩ a' w' hs'
      exact hK a' w' ⟨p1, v1, p2', v2, hs'.putF (i := 3) rfl [0] [0, 1, 2, 3, 6, 5] rfl rfl rfl rfl⟩
    · intro L a w hv K Q hK
      obtain ⟨p1, v1, p2, v2, hs⟩ := hv
      refine wpOp_go rfl rfl hs (OpT_sliceArrP u8S rfl (xs := [f.Src.a0, f.Src.a1, f.Src.a2, f.Src.a3, f.Src.a4, f.Src.a5]) rfl rfl rfl rfl arrF36 (i := 4) rfl (fun _ _ h => h) rfl rfl) ?_
      rintro _ ⟨v2', rfl⟩ a' w' hs'
      exact hK a' w' ⟨p1, v1, p2, v2', hs'.putF (i := 4) rfl [0] [0, 1, 2, 3, 4, 6] rfl rfl rfl rfl⟩
    · intro L a w hL hv
      rw [allTrue hL] at hv
      obtain ⟨p1, v1, p2, v2, hs⟩ := hv
      refine (show TA _ _ _ 4 ⟨[(1, some (.pointer (some ⟨b1, 0, none⟩))), (12, some (v1)), (14, some (v2))], [], [Fact.pt FrameS (.pointer (some ⟨b1, 0, none⟩)) f, Fact.sl u8S v1 [f.Dst.a0, f.Dst.a1, f.Dst.a2, f.Dst.a3, f.Dst.a4, f.Dst.a5], Fact.sl u8S v2 [f.Src.a0, f.Src.a1, f.Src.a2, f.Src.a3, f.Src.a4, f.Src.a5]]⟩ from ?_) a w (hs.wkS [1, 12, 14] [] [1, 3, 5] rfl rfl rfl rfl)
      clear hs hL
      refine TA_ex htb (by kernel_rfl) rfl rfl (OpT_buildSl (Shape.slice u8S) (vs := [v1, v2]) (xs := [[f.Dst.a0, f.Dst.a1, f.Dst.a2, f.Dst.a3, f.Dst.a4, f.Dst.a5], [f.Src.a0, f.Src.a1, f.Src.a2, f.Src.a3, f.Src.a4, f.Src.a5]]) rfl rfl rfl rfl rfl slF74 (isl_cons (is_sl (i := 1) rfl) (isl_cons (is_sl (i := 2) rfl) isl_nil)) rfl rfl rfl (rel_cons (rel_sl (i := 1) rfl) (rel_cons (rel_sl (i := 2) rfl) (rel_nil rfl)))) fun v3 => ?_
      obtain ⟨concat1, hx2, h⟩ := ob_e h
      refine TA_exP htb (by kernel_rfl) rfl rfl (OpT_callB [0] [0, 1] (w_slices_Concat_bytebyte hx2) [] rfl rfl rfl rfl rfl callee42 rfl rfl rfl rfl rfl rfl (bor_cons (bor_row 0 rfl rfl) bor_nil) (by rintro _ _ _ ⟨_, rfl, rfl, rfl⟩; exact ⟨rfl, (ri_cons (ri_row (S := u8S) rfl _ _) ri_nil)⟩)) ?_
      rintro _ ⟨v4, _, _, ⟨_, rfl, rfl, rfl⟩, rfl⟩
      refine TA_step htb (by kernel_rfl) rfl rfl (OpT_assign rfl rfl rfl rfl) ?_
      refine TA_end rfl ?_
      refine Tk_wkS (fr' := [(1, some (.pointer (some ⟨b1, 0, none⟩))), (5, some (v4))]) (own' := [some (rowS u8S v4 concat1)]) (shr' := [Fact.pt FrameS (.pointer (some ⟨b1, 0, none⟩)) f]) [1, 5] [1] [0] rfl rfl rfl rfl ?_
      refine Tk_seq ?_
      refine Tk_seq ?_
      refine Tk_region ?_
      refine Tops_ex rfl (OpT_fieldP (S' := iS) (y := f.Vlan) rfl rfl rfl rfl fldF38x2 (i := 0) rfl (by intro h cs hr; obtain ⟨v, rfl, _⟩ := hr; rfl)) fun p3 => ?_
      refine Tops_step rfl (OpT_loadP rfl rfl rfl rfl tyF3 (i := 1) rfl rfl) ?_
      refine Tops_step rfl (OpT_bin rfl rfl rfl rfl rfl (bin_geq_i (a := f.Vlan) (b := (0 : Int)))) ?_
      refine Tops_nil ?_
      refine Tk_wkS (fr' := [(1, some (.pointer (some ⟨b1, 0, none⟩))), (5, some (v4)), (19, some (vB (decide (f.Vlan ≥ (0 : Int)))))]) (own' := [some (rowS u8S v4 concat1)]) (shr' := [Fact.pt FrameS (.pointer (some ⟨b1, 0, none⟩)) f]) [1, 5, 19] [0] [0] rfl rfl rfl rfl ?_
      refine Tk_join (α := (List UInt8) × Value) (fun s => ⟨[(1, some (.pointer (some ⟨b1, 0, none⟩))), (5, some (s.2))], [some (rowS u8S s.2 s.1)], [Fact.pt FrameS (.pointer (some ⟨b1, 0, none⟩)) f]⟩) (fun s => frame_BytesJ1 f s.1 = some r) ?_ ?_
      · rintro ⟨b2, v5⟩ h
        replace h : frame_BytesJ1 f b2 = some r := h
        unfold frame_BytesJ1 at h
        refine Tk_seq ?_
        refine Tk_region ?_
        refine Tops_step rfl (OpT_move rfl rfl rfl rfl) ?_
        refine Tops_ex rfl (OpT_fieldP (S' := u16S) (y := f.Type_) rfl rfl rfl rfl fldF38x3 (i := 0) rfl (by intro h cs hr; obtain ⟨v, rfl, _⟩ := hr; rfl)) fun p4 => ?_
        refine Tops_step rfl (OpT_loadP rfl rfl rfl rfl tyF24 (i := 1) rfl rfl) ?_
        refine Tops_step rfl (OpT_bin rfl rfl rfl rfl rfl (bin_shr_u16_u64 (a := f.Type_) (n := (8 : UInt64)))) ?_
        refine Tops_step rfl (OpT_cnv rfl rfl rfl rfl (cnv_u16_u8 (n := shr16 f.Type_ ((8 : UInt64).toNat)) Try.underlying24 Try.underlying5)) ?_
        refine Tops_ex rfl (OpT_fieldP (S' := u16S) (y := f.Type_) rfl rfl rfl rfl fldF38x3 (i := 0) rfl (by intro h cs hr; obtain ⟨v, rfl, _⟩ := hr; rfl)) fun p5 => ?_
        refine Tops_step rfl (OpT_loadP rfl rfl rfl rfl tyF24 (i := 2) rfl rfl) ?_
        refine Tops_step rfl (OpT_cnv rfl rfl rfl rfl (cnv_u16_u8 (n := f.Type_) Try.underlying24 Try.underlying5)) ?_
        refine Tops_ex rfl (OpT_buildSlice (S := u8S) (xs := [(shr16 f.Type_ ((8 : UInt64).toNat)).toUInt8, f.Type_.toUInt8]) (css := [[vU8 ((shr16 f.Type_ ((8 : UInt64).toNat)).toUInt8)], [vU8 f.Type_.toUInt8]]) (cs := [vU8 ((shr16 f.Type_ ((8 : UInt64).toNat)).toUInt8), vU8 f.Type_.toUInt8]) (e := 5) rfl rfl rfl rfl (bldF slF22 (by decide) (by kernel_rfl)) rfl rfl rfl rfl (rel_plainD (S := u8S) (xs := [(shr16 f.Type_ ((8 : UInt64).toNat)).toUInt8, f.Type_.toUInt8]) (css := [[vU8 ((shr16 f.Type_ ((8 : UInt64).toNat)).toUInt8)], [vU8 f.Type_.toUInt8]]) rfl rfl)) fun v6 => ?_
        obtain ⟨hc1, h⟩ := chk_e h
        refine Tops_ex rfl (OpT_appendB (S := u8S) rfl rfl rfl rfl rfl rfl slF22 (i := 0) (j := 1) rfl rfl hc1) fun v7 => ?_
        refine Tops_step rfl (OpT_assign rfl rfl rfl rfl) ?_
        refine Tops_nil ?_
        refine Tk_wkS (fr' := [(1, some (.pointer (some ⟨b1, 0, none⟩))), (5, some (v7))]) (own' := [some (rowS u8S v7 (b2 ++ [(shr16 f.Type_ ((8 : UInt64).toNat)).toUInt8, f.Type_.toUInt8]))]) (shr' := [Fact.pt FrameS (.pointer (some ⟨b1, 0, none⟩)) f]) [1, 5] [0] [0] rfl rfl rfl rfl ?_
        refine Tk_seq ?_
        refine Tk_region ?_
        refine Tops_step rfl (OpT_move rfl rfl rfl rfl) ?_
        refine Tops_ex rfl (OpT_fieldP (S' := (Shape.slice u8S)) (y := f.Data) rfl rfl rfl rfl fldF38x4 (i := 0) rfl (by intro h cs hr; obtain ⟨v, rfl, hv⟩ := hr; exact ⟨v, rfl, hv⟩)) fun p6 => ?_
        refine Tops_ex rfl (OpT_loadPS rfl rfl rfl rfl tyF22 (i := 1) rfl) fun v8 => ?_
        obtain ⟨hc2, h⟩ := chk_e h
        refine Tops_ex rfl (OpT_append rfl rfl rfl rfl rfl slF22 (i := 0) (j := 2) rfl rfl hc2) fun v9 => ?_
        refine Tops_step rfl (OpT_assign rfl rfl rfl rfl) ?_
        refine Tops_step rfl (OpT_assign rfl rfl rfl rfl) ?_
        refine Tops_nil ?_
        refine Tk_wkS (fr' := [(2, some (v9)), (3, some (vI (0 : Int)))]) (own' := [some (rowS u8S v9 ((b2 ++ [(shr16 f.Type_ ((8 : UInt64).toNat)).toUInt8, f.Type_.toUInt8]) ++ f.Data))]) (shr' := []) [2, 3] [0] [] rfl rfl rfl rfl ?_
        obtain rfl := Option.some.inj h
        exact Tk_retV rfl rfl (resA (vs := [v9, vI (0 : Int)]) rfl ⟨rfl, rfl, trivial⟩) [0] [] rfl rfl rfl ⟨v9, rfl, rfl, rfl⟩
      · intro HJ1
        rcases Bool.eq_false_or_eq_true (decide (f.Vlan ≥ (0 : Int))) with hg2 | hg2
        · replace h := br_t hg2 h
          refine Tk_condT (congrArg (fun b => some (Value.bool b)) hg2) ?_
          refine Tk_region ?_
          refine Tops_step rfl (OpT_move rfl rfl rfl rfl) ?_
          refine Tops_ex rfl (OpT_fieldP (S' := iS) (y := f.Vlan) rfl rfl rfl rfl fldF38x2 (i := 0) rfl (by intro h cs hr; obtain ⟨v, rfl, _⟩ := hr; rfl)) fun p7 => ?_
          refine Tops_step rfl (OpT_loadP rfl rfl rfl rfl tyF3 (i := 1) rfl rfl) ?_
          refine Tops_step rfl (OpT_bin rfl rfl rfl rfl rfl (bin_shr_i_u64 (a := f.Vlan) (n := (8 : UInt64)))) ?_
          refine Tops_step rfl (OpT_cnv rfl rfl rfl rfl (cnv_i_u8 (n := shri f.Vlan ((8 : UInt64).toNat)) Try.underlying3 Try.underlying5)) ?_
          refine Tops_ex rfl (OpT_fieldP (S' := iS) (y := f.Vlan) rfl rfl rfl rfl fldF38x2 (i := 0) rfl (by intro h cs hr; obtain ⟨v, rfl, _⟩ := hr; rfl)) fun p8 => ?_
          refine Tops_step rfl (OpT_loadP rfl rfl rfl rfl tyF3 (i := 2) rfl rfl) ?_
          refine Tops_step rfl (OpT_cnv rfl rfl rfl rfl (cnv_i_u8 (n := f.Vlan) Try.underlying3 Try.underlying5)) ?_
          refine Tops_ex rfl (OpT_buildSlice (S := u8S) (xs := [(129 : UInt8), (0 : UInt8), u8 (shri f.Vlan ((8 : UInt64).toNat)), u8 f.Vlan]) (css := [[vU8 (129 : UInt8)], [vU8 (0 : UInt8)], [vU8 (u8 (shri f.Vlan ((8 : UInt64).toNat)))], [vU8 (u8 f.Vlan)]]) (cs := [vU8 (129 : UInt8), vU8 (0 : UInt8), vU8 (u8 (shri f.Vlan ((8 : UInt64).toNat))), vU8 (u8 f.Vlan)]) (e := 5) rfl rfl rfl rfl (bldF slF22 (by decide) (by kernel_rfl)) rfl rfl rfl rfl (rel_plainD (S := u8S) (xs := [(129 : UInt8), (0 : UInt8), u8 (shri f.Vlan ((8 : UInt64).toNat)), u8 f.Vlan]) (css := [[vU8 (129 : UInt8)], [vU8 (0 : UInt8)], [vU8 (u8 (shri f.Vlan ((8 : UInt64).toNat)))], [vU8 (u8 f.Vlan)]]) rfl rfl)) fun v10 => ?_
          obtain ⟨hc3, h⟩ := chk_e h
          refine Tops_ex rfl (OpT_appendB (S := u8S) rfl rfl rfl rfl rfl rfl slF22 (i := 0) (j := 1) rfl rfl hc3) fun v11 => ?_
          refine Tops_step rfl (OpT_assign rfl rfl rfl rfl) ?_
          refine Tops_nil ?_
          refine Tk_wkS (fr' := [(1, some (.pointer (some ⟨b1, 0, none⟩))), (5, some (v11))]) (own' := [some (rowS u8S v11 (concat1 ++ [(129 : UInt8), (0 : UInt8), u8 (shri f.Vlan ((8 : UInt64).toNat)), u8 f.Vlan]))]) (shr' := [Fact.pt FrameS (.pointer (some ⟨b1, 0, none⟩)) f]) [1, 5] [0] [0] rfl rfl rfl rfl ?_
          exact Tk_jmpS (HJ1 (concat1 ++ [(129 : UInt8), (0 : UInt8), u8 (shri f.Vlan ((8 : UInt64).toNat)), u8 f.Vlan], v11) h) [1, 5] [0] [0] rfl rfl rfl rfl
        · replace h := br_f hg2 h
          refine Tk_condF (congrArg (fun b => some (Value.bool b)) hg2) ?_
          refine Tk_skip ?_
          exact Tk_jmpS (HJ1 (concat1, v4) h) [1, 5] [0] [0] rfl rfl rfl rfl

set_option maxRecDepth 100000 in
set_option maxHeartbeats 4000000 in
theorem w_law23zlives  {r : Bool} (h : law23zlives = some r) :
    Ctr Try.prog 11 #[] [] []
      (fun rv own shr => rv = vB r ∧ own = [] ∧ shr = []) := by
  unfold law23zlives at h
  refine Ctr.mk (args := []) Try.func11 rfl rfl (fun R0 w0 B => ?_)
  refine Tk_seq ?_
  refine Tk_region ?_
  refine Tops_step rfl (OpT_assign rfl rfl rfl rfl) ?_
  refine Tops_nil ?_
  refine Tk_wkS (fr' := []) (own' := []) (shr' := []) [] [] [] rfl rfl rfl rfl ?_
  refine Tk_seq ?_
  refine Tk_region ?_
  refine Tops_step rfl (OpT_build (v := .agg #[vU8 (1 : UInt8), vU8 (2 : UInt8), vU8 (3 : UInt8), vU8 (4 : UInt8), vU8 (5 : UInt8), vU8 (6 : UInt8)]) rfl rfl rfl rfl (bldV (by kernel_rfl))) ?_
  refine Tops_step rfl (OpT_build (v := .agg #[vU8 (0 : UInt8), vU8 (0 : UInt8), vU8 (0 : UInt8), vU8 (0 : UInt8), vU8 (0 : UInt8), vU8 (0 : UInt8), vU8 (1 : UInt8), vU8 (2 : UInt8), vU8 (3 : UInt8), vU8 (4 : UInt8), vU8 (5 : UInt8), vU8 (6 : UInt8), vI (5 : Int), vU16 (2048 : UInt16), .slice none 0 0]) rfl rfl rfl rfl (bldV (by kernel_rfl))) ?_
  refine Tops_ex rfl (OpT_alloc rfl rfl rfl tyZ38) fun b1 => ?_
  refine Tops_step rfl (OpT_storeC (cs' := [vU8 (0 : UInt8), vU8 (0 : UInt8), vU8 (0 : UInt8), vU8 (0 : UInt8), vU8 (0 : UInt8), vU8 (0 : UInt8), vU8 (1 : UInt8), vU8 (2 : UInt8), vU8 (3 : UInt8), vU8 (4 : UInt8), vU8 (5 : UInt8), vU8 (6 : UInt8), vI (5 : Int), vU16 (2048 : UInt16), .slice none 0 0]) rfl rfl rfl rfl tyF38 (i := 0) rfl rfl rfl (one_of rfl) rfl) ?_
  refine Tops_nil ?_
  refine Tk_wkS (fr' := [(1, some (.pointer (some ⟨b1, 0, none⟩)))]) (own' := [some (cellsR b1 38 [vU8 (0 : UInt8), vU8 (0 : UInt8), vU8 (0 : UInt8), vU8 (0 : UInt8), vU8 (0 : UInt8), vU8 (0 : UInt8), vU8 (1 : UInt8), vU8 (2 : UInt8), vU8 (3 : UInt8), vU8 (4 : UInt8), vU8 (5 : UInt8), vU8 (6 : UInt8), vI (5 : Int), vU16 (2048 : UInt16), .slice none 0 0])]) (shr' := []) [1] [0] [] rfl rfl rfl rfl ?_
  refine Tk_seq ?_
  refine Tk_seq ?_
  refine Tk_region ?_
  refine Tops_step rfl (OpT_assign rfl rfl rfl rfl) ?_
  refine Tops_nil ?_
  refine Tk_block ?_
  refine Tk_nilfact u8S ?_
  refine Tk_loopS (σ := (A6 UInt8) × (A6 UInt8) × Int × UInt16 × (List UInt8) × Int × Value) [1, 2] [0] [0] (fun s => ⟨[(1, some (.pointer (some ⟨b1, 0, none⟩))), (2, some (vI s.2.2.2.2.2.1))], [some (cellsR b1 38 [vU8 s.1.a0, vU8 s.1.a1, vU8 s.1.a2, vU8 s.1.a3, vU8 s.1.a4, vU8 s.1.a5, vU8 s.2.1.a0, vU8 s.2.1.a1, vU8 s.2.1.a2, vU8 s.2.1.a3, vU8 s.2.1.a4, vU8 s.2.1.a5, vI s.2.2.1, vU16 s.2.2.2.1, s.2.2.2.2.2.2])], [Fact.sl u8S s.2.2.2.2.2.2 s.2.2.2.2.1]⟩) (fun nf s => law23zlivesL1 nf s.1 s.2.1 s.2.2.1 s.2.2.2.1 s.2.2.2.2.1 s.2.2.2.2.2.1 = some r) fuel ((A6.mk (0 : UInt8) (0 : UInt8) (0 : UInt8) (0 : UInt8) (0 : UInt8) (0 : UInt8)), (A6.mk (1 : UInt8) (2 : UInt8) (3 : UInt8) (4 : UInt8) (5 : UInt8) (6 : UInt8)), (5 : Int), (2048 : UInt16), ([] : List UInt8), (0 : Int), .slice none 0 0) h rfl rfl rfl rfl rfl (fun s h => by cases h) ?_
  rintro nf ⟨Dst1, Src1, Vlan1, Type1, Data1, i1, v1⟩ h
  replace h : law23zlivesL1B (law23zlivesL1 nf) Dst1 Src1 Vlan1 Type1 Data1 i1 = some r := h
  unfold law23zlivesL1B at h
  refine Tk_seq ?_
  refine Tk_seq ?_
  refine Tk_region ?_
  refine Tops_step rfl (OpT_move rfl rfl rfl rfl) ?_
  refine Tops_step rfl (OpT_bin rfl rfl rfl rfl rfl (bin_lss_i (a := i1) (b := (6 : Int)))) ?_
  refine Tops_nil ?_
  refine Tk_wkS (fr' := [(1, some (.pointer (some ⟨b1, 0, none⟩))), (2, some (vI i1)), (8, some (vB (decide (i1 < (6 : Int)))))]) (own' := [some (cellsR b1 38 [vU8 Dst1.a0, vU8 Dst1.a1, vU8 Dst1.a2, vU8 Dst1.a3, vU8 Dst1.a4, vU8 Dst1.a5, vU8 Src1.a0, vU8 Src1.a1, vU8 Src1.a2, vU8 Src1.a3, vU8 Src1.a4, vU8 Src1.a5, vI Vlan1, vU16 Type1, v1])]) (shr' := [Fact.sl u8S v1 Data1]) [1, 2, 8] [0] [0] rfl rfl rfl rfl ?_
  rcases Bool.eq_false_or_eq_true (decide (i1 < (6 : Int))) with hg1 | hg1
  · replace h := br_t hg1 h
    refine Tk_condT (congrArg (fun b => some (Value.bool b)) hg1) ?_
    refine Tk_skip ?_
    refine Tk_seq ?_
    refine Tk_block ?_
    refine Tk_region ?_
    refine Tops_step rfl (OpT_move rfl rfl rfl rfl) ?_
    refine Tops_step rfl (OpT_fieldC rfl rfl rfl rfl fldF38x0) ?_
    obtain ⟨hc1, h⟩ := chk_e h
    refine Tops_step rfl (OpT_indexC rfl rfl rfl rfl rfl arrF36 hc1) ?_
    obtain ⟨hc2, h⟩ := chk_e h
    refine Tops_step rfl (OpT_storeX (fun x => [vU8 x]) [Dst1.a0, Dst1.a1, Dst1.a2, Dst1.a3, Dst1.a4, Dst1.a5] [(Dst1.st i1.toNat (255 : UInt8)).a0, (Dst1.st i1.toNat (255 : UInt8)).a1, (Dst1.st i1.toNat (255 : UInt8)).a2, (Dst1.st i1.toNat (255 : UInt8)).a3, (Dst1.st i1.toNat (255 : UInt8)).a4, (Dst1.st i1.toNat (255 : UInt8)).a5] [] [vU8 Src1.a0, vU8 Src1.a1, vU8 Src1.a2, vU8 Src1.a3, vU8 Src1.a4, vU8 Src1.a5, vI Vlan1, vU16 Type1, v1] (u := (255 : UInt8)) (cs' := [vU8 ((Dst1.st i1.toNat (255 : UInt8)).a0), vU8 ((Dst1.st i1.toNat (255 : UInt8)).a1), vU8 ((Dst1.st i1.toNat (255 : UInt8)).a2), vU8 ((Dst1.st i1.toNat (255 : UInt8)).a3), vU8 ((Dst1.st i1.toNat (255 : UInt8)).a4), vU8 ((Dst1.st i1.toNat (255 : UInt8)).a5), vU8 Src1.a0, vU8 Src1.a1, vU8 Src1.a2, vU8 Src1.a3, vU8 Src1.a4, vU8 Src1.a5, vI Vlan1, vU16 Type1, v1]) rfl rfl rfl rfl tyF5 (i := 0) rfl (fun _ => rfl) (fun _ => rfl) rfl rfl rfl rfl hc2 (A6.st_set _ _ _)) ?_
    refine Tops_nil ?_
    refine Tk_wkS (fr' := [(1, some (.pointer (some ⟨b1, 0, none⟩))), (2, some (vI i1))]) (own' := [some (cellsR b1 38 [vU8 ((Dst1.st i1.toNat (255 : UInt8)).a0), vU8 ((Dst1.st i1.toNat (255 : UInt8)).a1), vU8 ((Dst1.st i1.toNat (255 : UInt8)).a2), vU8 ((Dst1.st i1.toNat (255 : UInt8)).a3), vU8 ((Dst1.st i1.toNat (255 : UInt8)).a4), vU8 ((Dst1.st i1.toNat (255 : UInt8)).a5), vU8 Src1.a0, vU8 Src1.a1, vU8 Src1.a2, vU8 Src1.a3, vU8 Src1.a4, vU8 Src1.a5, vI Vlan1, vU16 Type1, v1])]) (shr' := [Fact.sl u8S v1 Data1]) [1, 2] [0] [0] rfl rfl rfl rfl ?_
    refine Tk_blk ?_
    refine Tk_region ?_
    refine Tops_step rfl (OpT_move rfl rfl rfl rfl) ?_
    refine Tops_step rfl (OpT_bin rfl rfl rfl rfl rfl (bin_add_i (a := i1) (b := (1 : Int)))) ?_
    refine Tops_step rfl (OpT_assign rfl rfl rfl rfl) ?_
    refine Tops_nil ?_
    refine Tk_wkS (fr' := [(1, some (.pointer (some ⟨b1, 0, none⟩))), (2, some (vI (wi (i1 + (1 : Int)))))]) (own' := [some (cellsR b1 38 [vU8 ((Dst1.st i1.toNat (255 : UInt8)).a0), vU8 ((Dst1.st i1.toNat (255 : UInt8)).a1), vU8 ((Dst1.st i1.toNat (255 : UInt8)).a2), vU8 ((Dst1.st i1.toNat (255 : UInt8)).a3), vU8 ((Dst1.st i1.toNat (255 : UInt8)).a4), vU8 ((Dst1.st i1.toNat (255 : UInt8)).a5), vU8 Src1.a0, vU8 Src1.a1, vU8 Src1.a2, vU8 Src1.a3, vU8 Src1.a4, vU8 Src1.a5, vI Vlan1, vU16 Type1, v1])]) (shr' := [Fact.sl u8S v1 Data1]) [1, 2] [0] [0] rfl rfl rfl rfl ?_
    exact Tk_backS ((Dst1.st i1.toNat (255 : UInt8)), Src1, Vlan1, Type1, Data1, wi (i1 + (1 : Int)), v1) h [1, 2] [0] [0] rfl rfl rfl rfl rfl
  · replace h := br_f hg1 h
    refine Tk_condF (congrArg (fun b => some (Value.bool b)) hg1) ?_
    refine Tk_exit _ rfl ?_
    refine Tk_seq ?_
    refine Tk_region ?_
    refine Tops_step rfl (OpT_loadCA (vs := [vU8 Dst1.a0, vU8 Dst1.a1, vU8 Dst1.a2, vU8 Dst1.a3, vU8 Dst1.a4, vU8 Dst1.a5, vU8 Src1.a0, vU8 Src1.a1, vU8 Src1.a2, vU8 Src1.a3, vU8 Src1.a4, vU8 Src1.a5, vI Vlan1, vU16 Type1, v1]) rfl rfl rfl rfl tyF38 (i := 0) rfl rfl rfl) ?_
    obtain ⟨bytes1, hx1, h⟩ := ob_e h
    refine Tops_exP rfl (OpT_call (w_frame_Bytes hx1) [] [0] rfl rfl rfl rfl rfl callee16 rfl rfl rfl rfl) ?_
    rintro _ ⟨_, _, _, ⟨v2, rfl, rfl, rfl⟩, rfl⟩
    refine Tops_step rfl (OpT_move rfl rfl rfl rfl) ?_
    refine Tops_step rfl (OpT_extract rfl rfl rfl rfl rfl) ?_
    refine Tops_step rfl (OpT_extract rfl rfl rfl rfl rfl) ?_
    refine Tops_step rfl (OpT_assign rfl rfl rfl rfl) ?_
    refine Tops_step rfl (OpT_assign rfl rfl rfl rfl) ?_
    refine Tops_nil ?_
    refine Tk_wkS (fr' := [(3, some (v2)), (4, some (vI bytes1.2))]) (own' := [some (rowS u8S v2 bytes1.1)]) (shr' := []) [3, 4] [1] [] rfl rfl rfl rfl ?_
    refine Tk_seq ?_
    refine Tk_region ?_
    refine Tops_step rfl (OpT_move rfl rfl rfl rfl) ?_
    refine Tops_step rfl (OpT_bin rfl rfl rfl rfl rfl (bin_eql_i (a := bytes1.2) (b := (0 : Int)))) ?_
    refine Tops_step rfl (OpT_move rfl rfl rfl rfl) ?_
    rcases Bool.eq_false_or_eq_true (bytes1.2 == (0 : Int)) with hg2 | hg2
    · replace h := br_t hg2 h
      refine Tops_yes rfl rfl (congrArg (fun b => some (Value.bool b)) hg2) (OpT_move rfl rfl rfl rfl) ?_
      rintro _ rfl
      refine Tops_yes rfl rfl (congrArg (fun b => some (Value.bool b)) hg2) (OpT_lenO rfl rfl rfl rfl Try.underlying22 (i := 0) rfl) ?_
      rintro _ rfl
      refine Tops_yes rfl rfl (congrArg (fun b => some (Value.bool b)) hg2) (OpT_bin rfl rfl rfl rfl rfl (bin_eql_i (a := len bytes1.1) (b := (18 : Int)))) ?_
      rintro _ rfl
      refine Tops_step rfl (OpT_pickT rfl rfl rfl (congrArg (fun b => some (Value.bool b)) hg2) rfl) ?_
      refine Tops_step rfl (OpT_move rfl rfl rfl rfl) ?_
      rcases Bool.eq_false_or_eq_true ((len bytes1.1) == (18 : Int)) with hg3 | hg3
      · replace h := br_t hg3 h
        refine Tops_yes rfl rfl (congrArg (fun b => some (Value.bool b)) hg3) (OpT_move rfl rfl rfl rfl) ?_
        rintro _ rfl
        obtain ⟨hc3, h⟩ := chk_e h
        refine Tops_yes rfl rfl (congrArg (fun b => some (Value.bool b)) hg3) (OpT_subL (S := u8S) (l := (12 : Int)) rfl rfl rfl rfl rfl slF22 (i := 0) rfl hc3) ?_
        rintro _ rfl
        refine Tops_retire (i := 0) rfl ?_
        refine Tops_vs (vs_subSl (l := (12 : Int)) (m := (len bytes1.1)) (i := 0) rfl hc3) ?_
        refine Tops_yes rfl rfl (congrArg (fun b => some (Value.bool b)) hg3) (OpT_strS rfl rfl rfl rfl Try.underlying22 Try.underlying5 Try.underlying9 (i := 1) rfl) ?_
        rintro _ rfl
        refine Tops_yes rfl rfl (congrArg (fun b => some (Value.bool b)) hg3) (OpT_bin rfl rfl rfl rfl rfl (bin_eql_s (a := sub bytes1.1 (12 : Int) (len bytes1.1)) (b := ([129, 0, 0, 5, 8, 0] : List UInt8)))) ?_
        rintro _ rfl
        refine Tops_step rfl (OpT_pickT rfl rfl rfl (congrArg (fun b => some (Value.bool b)) hg3) rfl) ?_
        refine Tops_step rfl (OpT_move rfl rfl rfl rfl) ?_
        rcases Bool.eq_false_or_eq_true ((sub bytes1.1 (12 : Int) (len bytes1.1)) == ([129, 0, 0, 5, 8, 0] : List UInt8)) with hg4 | hg4
        · replace h := br_t hg4 h
          refine Tops_yes rfl rfl (congrArg (fun b => some (Value.bool b)) hg4) (OpT_buildSlice (S := u8S) (xs := [(0 : UInt8), (1 : UInt8), (242 : UInt8), (3 : UInt8), (244 : UInt8), (245 : UInt8), (246 : UInt8), (247 : UInt8)]) (css := [[vU8 (0 : UInt8)], [vU8 (1 : UInt8)], [vU8 (242 : UInt8)], [vU8 (3 : UInt8)], [vU8 (244 : UInt8)], [vU8 (245 : UInt8)], [vU8 (246 : UInt8)], [vU8 (247 : UInt8)]]) (cs := [vU8 (0 : UInt8), vU8 (1 : UInt8), vU8 (242 : UInt8), vU8 (3 : UInt8), vU8 (244 : UInt8), vU8 (245 : UInt8), vU8 (246 : UInt8), vU8 (247 : UInt8)]) (e := 5) rfl rfl rfl rfl (bldF slF22 (by decide) (by kernel_rfl)) rfl rfl rfl rfl (rel_plainD (S := u8S) (xs := [(0 : UInt8), (1 : UInt8), (242 : UInt8), (3 : UInt8), (244 : UInt8), (245 : UInt8), (246 : UInt8), (247 : UInt8)]) (css := [[vU8 (0 : UInt8)], [vU8 (1 : UInt8)], [vU8 (242 : UInt8)], [vU8 (3 : UInt8)], [vU8 (244 : UInt8)], [vU8 (245 : UInt8)], [vU8 (246 : UInt8)], [vU8 (247 : UInt8)]]) rfl rfl)) ?_
          rintro _ ⟨v3, rfl⟩
          obtain ⟨sum1, hx2, h⟩ := ob_e h
          refine Tops_yes rfl rfl (congrArg (fun b => some (Value.bool b)) hg4) (OpT_callB [1] [0, 1] (w_frame_Sum hx2) [] rfl rfl rfl rfl rfl callee12 rfl rfl rfl rfl rfl rfl (bor_cons (bor_row 1 rfl rfl) bor_nil) (by rintro _ _ _ ⟨rfl, rfl, rfl⟩; exact ⟨rfl, ri_nil⟩)) ?_
          rintro _ ⟨_, _, _, ⟨rfl, rfl, rfl⟩, rfl⟩
          refine Tops_yes rfl rfl (congrArg (fun b => some (Value.bool b)) hg4) (OpT_bin rfl rfl rfl rfl rfl (bin_eql_u16 (a := sum1) (b := (8717 : UInt16)))) ?_
          rintro _ rfl
          refine Tops_step rfl (OpT_pickT rfl rfl rfl (congrArg (fun b => some (Value.bool b)) hg4) rfl) ?_
          refine Tops_step rfl (OpT_assign rfl rfl rfl rfl) ?_
          refine Tops_nil ?_
          refine Tk_wkS (fr' := [(0, some (vB (sum1 == (8717 : UInt16))))]) (own' := []) (shr' := []) [0] [] [] rfl rfl rfl rfl ?_
          obtain rfl := Option.some.inj h
          exact Tk_retV rfl rfl (resA (vs := [vB (sum1 == (8717 : UInt16))]) rfl ⟨rfl, trivial⟩) [] [] rfl rfl rfl ⟨rfl, rfl, rfl⟩
        · replace h := br_f hg4 h
          refine Tops_no rfl rfl (congrArg (fun b => some (Value.bool b)) hg4) rfl rfl ?_
          refine Tops_no rfl rfl (congrArg (fun b => some (Value.bool b)) hg4) rfl rfl ?_
          refine Tops_no rfl rfl (congrArg (fun b => some (Value.bool b)) hg4) rfl rfl ?_
          refine Tops_step rfl (OpT_pickF rfl rfl rfl (congrArg (fun b => some (Value.bool b)) hg4) rfl) ?_
          refine Tops_step rfl (OpT_assign rfl rfl rfl rfl) ?_
          refine Tops_nil ?_
          refine Tk_wkS (fr' := [(0, some (vB false))]) (own' := []) (shr' := []) [0] [] [] rfl rfl rfl rfl ?_
          obtain rfl := Option.some.inj h
          exact Tk_retV rfl rfl (resA (vs := [vB false]) rfl ⟨rfl, trivial⟩) [] [] rfl rfl rfl ⟨rfl, rfl, rfl⟩
      · replace h := br_f hg3 h
        refine Tops_no rfl rfl (congrArg (fun b => some (Value.bool b)) hg3) rfl rfl ?_
        refine Tops_no rfl rfl (congrArg (fun b => some (Value.bool b)) hg3) rfl rfl ?_
        refine Tops_no rfl rfl (congrArg (fun b => some (Value.bool b)) hg3) rfl rfl ?_
        refine Tops_no rfl rfl (congrArg (fun b => some (Value.bool b)) hg3) rfl rfl ?_
        refine Tops_step rfl (OpT_pickF rfl rfl rfl (congrArg (fun b => some (Value.bool b)) hg3) rfl) ?_
        refine Tops_step rfl (OpT_move rfl rfl rfl rfl) ?_
        refine Tops_no rfl rfl rfl rfl rfl ?_
        refine Tops_no rfl rfl rfl rfl rfl ?_
        refine Tops_no rfl rfl rfl rfl rfl ?_
        refine Tops_step rfl (OpT_pickF rfl rfl rfl rfl rfl) ?_
        refine Tops_step rfl (OpT_assign rfl rfl rfl rfl) ?_
        refine Tops_nil ?_
        refine Tk_wkS (fr' := [(0, some (vB false))]) (own' := []) (shr' := []) [0] [] [] rfl rfl rfl rfl ?_
        obtain rfl := Option.some.inj h
        exact Tk_retV rfl rfl (resA (vs := [vB false]) rfl ⟨rfl, trivial⟩) [] [] rfl rfl rfl ⟨rfl, rfl, rfl⟩
    · replace h := br_f hg2 h
      refine Tops_no rfl rfl (congrArg (fun b => some (Value.bool b)) hg2) rfl rfl ?_
      refine Tops_no rfl rfl (congrArg (fun b => some (Value.bool b)) hg2) rfl rfl ?_
      refine Tops_no rfl rfl (congrArg (fun b => some (Value.bool b)) hg2) rfl rfl ?_
      refine Tops_step rfl (OpT_pickF rfl rfl rfl (congrArg (fun b => some (Value.bool b)) hg2) rfl) ?_
      refine Tops_step rfl (OpT_move rfl rfl rfl rfl) ?_
      refine Tops_no rfl rfl rfl rfl rfl ?_
      refine Tops_no rfl rfl rfl rfl rfl ?_
      refine Tops_no rfl rfl rfl rfl rfl ?_
      refine Tops_no rfl rfl rfl rfl rfl ?_
      refine Tops_step rfl (OpT_pickF rfl rfl rfl rfl rfl) ?_
      refine Tops_step rfl (OpT_move rfl rfl rfl rfl) ?_
      refine Tops_no rfl rfl rfl rfl rfl ?_
      refine Tops_no rfl rfl rfl rfl rfl ?_
      refine Tops_no rfl rfl rfl rfl rfl ?_
      refine Tops_step rfl (OpT_pickF rfl rfl rfl rfl rfl) ?_
      refine Tops_step rfl (OpT_assign rfl rfl rfl rfl) ?_
      refine Tops_nil ?_
      refine Tk_wkS (fr' := [(0, some (vB false))]) (own' := []) (shr' := []) [0] [] [] rfl rfl rfl rfl ?_
      obtain rfl := Option.some.inj h
      exact Tk_retV rfl rfl (resA (vs := [vB false]) rfl ⟨rfl, trivial⟩) [] [] rfl rfl rfl ⟨rfl, rfl, rfl⟩

set_option maxRecDepth 100000 in
set_option maxHeartbeats 4000000 in
theorem w_kit_Pick {np0 : Int} {m : Int} {r : Int} (h : kit_Pick np0 m = some r) :
    Ctr Try.prog 14 #[vI np0, vI m] [] []
      (fun rv own shr => rv = vI r ∧ own = [] ∧ shr = []) := by
  unfold kit_Pick at h
  refine Ctr.mk (args := [vI np0, vI m]) Try.func14 rfl rfl (fun R0 w0 B => ?_)
  refine Tk_seq ?_
  refine Tk_region ?_
  refine Tops_step rfl (OpT_assign rfl rfl rfl rfl) ?_
  refine Tops_nil ?_
  refine Tk_wkS (fr' := [(0, some (vI np0)), (1, some (vI m))]) (own' := []) (shr' := []) [0, 1] [] [] rfl rfl rfl rfl ?_
  refine Tk_seq ?_
  refine Tk_seq ?_
  refine Tk_region ?_
  refine Tops_step rfl (OpT_move rfl rfl rfl rfl) ?_
  refine Tops_step rfl (OpT_bin rfl rfl rfl rfl rfl (bin_lss_i (a := m) (b := (1 : Int)))) ?_
  refine Tops_nil ?_
  refine Tk_wkS (fr' := [(0, some (vI np0)), (1, some (vI m)), (6, some (vB (decide (m < (1 : Int)))))]) (own' := []) (shr' := []) [0, 1, 6] [] [] rfl rfl rfl rfl ?_
  rcases Bool.eq_false_or_eq_true (decide (m < (1 : Int))) with hg1 | hg1
  · replace h := br_t hg1 h
    refine Tk_condT (congrArg (fun b => some (Value.bool b)) hg1) ?_
    refine Tk_seq ?_
    refine Tk_region ?_
    refine Tops_step rfl (OpT_assign rfl rfl rfl rfl) ?_
    refine Tops_nil ?_
    refine Tk_wkS (fr' := [(4, some (vI (0 : Int)))]) (own' := []) (shr' := []) [4] [] [] rfl rfl rfl rfl ?_
    obtain rfl := Option.some.inj h
    exact Tk_retV rfl rfl (resA (vs := [vI (0 : Int)]) rfl ⟨rfl, trivial⟩) [] [] rfl rfl rfl ⟨rfl, rfl, rfl⟩
  · replace h := br_f hg1 h
    refine Tk_condF (congrArg (fun b => some (Value.bool b)) hg1) ?_
    refine Tk_skip ?_
    refine Tk_seq ?_
    refine Tk_region ?_
    refine Tops_step rfl (OpT_move rfl rfl rfl rfl) ?_
    refine Tops_step rfl (OpT_move rfl rfl rfl rfl) ?_
    obtain ⟨hc1, h⟩ := chk_e h
    refine Tops_step rfl (OpT_bin rfl rfl rfl rfl rfl (bin_rem_i (a := np0) (b := m) (not_t hc1))) ?_
    refine Tops_step rfl (OpT_assign rfl rfl rfl rfl) ?_
    refine Tops_nil ?_
    refine Tk_wkS (fr' := [(0, some (vI (remi np0 m))), (1, some (vI m))]) (own' := []) (shr' := []) [0, 1] [] [] rfl rfl rfl rfl ?_
    refine Tk_seq ?_
    refine Tk_seq ?_
    refine Tk_region ?_
    refine Tops_step rfl (OpT_move rfl rfl rfl rfl) ?_
    refine Tops_step rfl (OpT_bin rfl rfl rfl rfl rfl (bin_lss_i (a := remi np0 m) (b := (0 : Int)))) ?_
    refine Tops_nil ?_
    refine Tk_wkS (fr' := [(0, some (vI (remi np0 m))), (1, some (vI m)), (11, some (vB (decide ((remi np0 m) < (0 : Int)))))]) (own' := []) (shr' := []) [0, 1, 11] [] [] rfl rfl rfl rfl ?_
    rcases Bool.eq_false_or_eq_true (decide ((remi np0 m) < (0 : Int))) with hg2 | hg2
    · replace h := br_t hg2 h
      refine Tk_condT (congrArg (fun b => some (Value.bool b)) hg2) ?_
      refine Tk_region ?_
      refine Tops_step rfl (OpT_move rfl rfl rfl rfl) ?_
      refine Tops_step rfl (OpT_move rfl rfl rfl rfl) ?_
      refine Tops_step rfl (OpT_bin rfl rfl rfl rfl rfl (bin_add_i (a := remi np0 m) (b := m))) ?_
      refine Tops_step rfl (OpT_assign rfl rfl rfl rfl) ?_
      refine Tops_nil ?_
      refine Tk_wkS (fr' := [(0, some (vI (wi ((remi np0 m) + m))))]) (own' := []) (shr' := []) [0] [] [] rfl rfl rfl rfl ?_
      refine Tk_seq ?_
      refine Tk_region ?_
      refine Tops_step rfl (OpT_move rfl rfl rfl rfl) ?_
      refine Tops_step rfl (OpT_assign rfl rfl rfl rfl) ?_
      refine Tops_nil ?_
      refine Tk_wkS (fr' := [(4, some (vI (wi ((remi np0 m) + m))))]) (own' := []) (shr' := []) [4] [] [] rfl rfl rfl rfl ?_
      obtain rfl := Option.some.inj h
      exact Tk_retV rfl rfl (resA (vs := [vI (wi ((remi np0 m) + m))]) rfl ⟨rfl, trivial⟩) [] [] rfl rfl rfl ⟨rfl, rfl, rfl⟩
    · replace h := br_f hg2 h
      refine Tk_condF (congrArg (fun b => some (Value.bool b)) hg2) ?_
      refine Tk_skip ?_
      refine Tk_seq ?_
      refine Tk_region ?_
      refine Tops_step rfl (OpT_move rfl rfl rfl rfl) ?_
      refine Tops_step rfl (OpT_assign rfl rfl rfl rfl) ?_
      refine Tops_nil ?_
      refine Tk_wkS (fr' := [(4, some (vI (remi np0 m)))]) (own' := []) (shr' := []) [4] [] [] rfl rfl rfl rfl ?_
      obtain rfl := Option.some.inj h
      exact Tk_retV rfl rfl (resA (vs := [vI (remi np0 m)]) rfl ⟨rfl, trivial⟩) [] [] rfl rfl rfl ⟨rfl, rfl, rfl⟩

set_option maxRecDepth 100000 in
set_option maxHeartbeats 4000000 in
theorem w_slices_Clone_bytebyte {sp0 : List UInt8} {vsp01 : Value} {r : (List UInt8)} (h : slices_Clone_bytebyte sp0 = some r) :
    Ctr Try.prog 41 #[vsp01] [] [Fact.sl u8S vsp01 sp0]
      (fun rv own shr => ∃ (w1 : Value), rv = w1 ∧ own = [(rowS u8S w1 r)] ∧ shr = []) := by
  unfold slices_Clone_bytebyte at h
  refine Ctr.mk (args := [vsp01]) Try.func41 rfl rfl (fun R0 w0 B => ?_)
  refine Tk_seq ?_
  refine Tk_region ?_
  refine Tops_step rfl (OpT_assign rfl rfl rfl rfl) ?_
  refine Tops_nil ?_
  refine Tk_wkS (fr' := [(0, some (vsp01))]) (own' := []) (shr' := [Fact.sl u8S vsp01 sp0]) [0] [] [0] rfl rfl rfl rfl ?_
  refine Tk_seq ?_
  refine Tk_seq ?_
  refine Tk_region ?_
  refine Tops_step rfl (OpT_move rfl rfl rfl rfl) ?_
  refine Tops_exP rfl (OpT_eqNil rfl rfl rfl (.inl rfl) rfl rfl Try.underlying22 (i := 0) rfl) ?_
  rintro _ ⟨q1, hq1, rfl⟩
  refine Tops_nil ?_
  refine Tk_wkS (fr' := [(0, some (vsp01)), (4, some (vB q1))]) (own' := []) (shr' := [Fact.sl u8S vsp01 sp0]) [0, 4] [] [0] rfl rfl rfl rfl ?_
  rcases Bool.eq_false_or_eq_true q1 with hg1 | hg1
  · obtain rfl := hq1 hg1
    replace h : some ([] : List UInt8) = some r := h
    refine Tk_condT (congrArg (fun b => some (Value.bool b)) hg1) ?_
    refine Tk_seq ?_
    refine Tk_region ?_
    refine Tops_step rfl (OpT_assign rfl rfl rfl rfl) ?_
    refine Tops_nil ?_
    refine Tk_wkS (fr' := [(2, some (.slice none 0 0))]) (own' := []) (shr' := []) [2] [] [] rfl rfl rfl rfl ?_
    refine Tk_nilrow u8S ?_
    obtain rfl := Option.some.inj h
    exact Tk_retV rfl rfl (resA (vs := [.slice none 0 0]) rfl ⟨rfl, trivial⟩) [0] [] rfl rfl rfl ⟨(.slice none 0 0), rfl, rfl, rfl⟩
  · refine Tk_condF (congrArg (fun b => some (Value.bool b)) hg1) ?_
    refine Tk_skip ?_
    refine Tk_seq ?_
    refine Tk_region ?_
    refine Tops_ex rfl (OpT_buildSlice (S := u8S) (xs := ([] : List UInt8)) (css := []) (cs := []) (e := 5) rfl rfl rfl rfl (bldF slF22 (by decide) (by kernel_rfl)) rfl rfl rfl rfl (rel_plainD (S := u8S) (xs := ([] : List UInt8)) (css := []) rfl rfl)) fun v1 => ?_
    refine Tops_step rfl (OpT_move rfl rfl rfl rfl) ?_
    obtain ⟨hc1, h⟩ := chk_e h
    refine Tops_ex rfl (OpT_append rfl rfl rfl rfl rfl slF22 (i := 0) (j := 0) rfl rfl hc1) fun v2 => ?_
    refine Tops_step rfl (OpT_assign rfl rfl rfl rfl) ?_
    refine Tops_nil ?_
    refine Tk_wkS (fr' := [(2, some (v2))]) (own' := [some (rowS u8S v2 sp0)]) (shr' := []) [2] [0] [] rfl rfl rfl rfl ?_
    obtain rfl := Option.some.inj h
    exact Tk_retV rfl rfl (resA (vs := [v2]) rfl ⟨rfl, trivial⟩) [0] [] rfl rfl rfl ⟨v2, rfl, rfl, rfl⟩

set_option maxRecDepth 100000 in
set_option maxHeartbeats 4000000 in
theorem w_frame_Fill {b : List UInt8} {hp1 : Hdr} {vb1 : Value} {r : ((List UInt8) × Int)} (h : frame_Fill b hp1 = some r) :
    Ctr Try.prog 15 #[vb1, .agg #[vU8 hp1.Flags, vU16 hp1.Start, vU16 hp1.Off, vU16 hp1.Buffers]] [] [Fact.sl u8S vb1 b]
      (fun rv own shr => ∃ (w1 : Value), rv = .tuple #[w1, vI r.2] ∧ own = [(rowS u8S w1 r.1)] ∧ shr = []) := by
  unfold frame_Fill at h
  refine Ctr.mk (args := [vb1, .agg #[vU8 hp1.Flags, vU16 hp1.Start, vU16 hp1.Off, vU16 hp1.Buffers]]) Try.func15 rfl rfl (fun R0 w0 B => ?_)
  refine Tk_seq ?_
  refine Tk_region ?_
  refine Tops_ex rfl (OpT_box rfl rfl rfl rfl) fun b1 => ?_
  refine Tops_step rfl (OpT_assign rfl rfl rfl rfl) ?_
  refine Tops_step rfl (OpT_assign rfl rfl rfl rfl) ?_
  refine Tops_nil ?_
  refine Tk_wkS (fr' := [(0, some (vb1)), (3, some (.pointer (some ⟨b1, 0, none⟩)))]) (own' := [some (cellsR b1 34 [vU8 hp1.Flags, vU16 hp1.Start, vU16 hp1.Off, vU16 hp1.Buffers])]) (shr' := [Fact.sl u8S vb1 b]) [0, 3] [0] [0] rfl rfl rfl rfl ?_
  refine Tk_seq ?_
  refine Tk_seq ?_
  refine Tk_region ?_
  refine Tops_step rfl (OpT_fieldC rfl rfl rfl rfl fldF34x0) ?_
  refine Tops_step rfl (OpT_loadC rfl rfl rfl rfl tyF5 (i := 0) rfl rfl) ?_
  refine Tops_step rfl (OpT_bin rfl rfl rfl rfl rfl (bin_and_u8 (a := hp1.Flags) (b := (1 : UInt8)))) ?_
  refine Tops_step rfl (OpT_bin rfl rfl rfl rfl rfl (bin_eql_u8 (a := hp1.Flags &&& (1 : UInt8)) (b := (0 : UInt8)))) ?_
  refine Tops_nil ?_
  refine Tk_wkS (fr' := [(0, some (vb1)), (3, some (.pointer (some ⟨b1, 0, none⟩))), (13, some (vB ((hp1.Flags &&& (1 : UInt8)) == (0 : UInt8))))]) (own' := [some (cellsR b1 34 [vU8 hp1.Flags, vU16 hp1.Start, vU16 hp1.Off, vU16 hp1.Buffers])]) (shr' := [Fact.sl u8S vb1 b]) [0, 3, 13] [0] [0] rfl rfl rfl rfl ?_
  rcases Bool.eq_false_or_eq_true ((hp1.Flags &&& (1 : UInt8)) == (0 : UInt8)) with hg1 | hg1
  · replace h := br_t hg1 h
    refine Tk_condT (congrArg (fun b => some (Value.bool b)) hg1) ?_
    refine Tk_seq ?_
    refine Tk_region ?_
    refine Tops_step rfl (OpT_move rfl rfl rfl rfl) ?_
    obtain ⟨cloneb1, hx1, h⟩ := ob_e h
    refine Tops_exP rfl (OpT_call (w_slices_Clone_bytebyte hx1) [] [0] rfl rfl rfl rfl rfl callee41 rfl rfl rfl rfl) ?_
    rintro _ ⟨v1, _, _, ⟨_, rfl, rfl, rfl⟩, rfl⟩
    refine Tops_step rfl (OpT_assign rfl rfl rfl rfl) ?_
    refine Tops_step rfl (OpT_assign rfl rfl rfl rfl) ?_
    refine Tops_nil ?_
    refine Tk_wkS (fr' := [(4, some (v1)), (5, some (vI (0 : Int)))]) (own' := [some (rowS u8S v1 cloneb1)]) (shr' := []) [4, 5] [1] [] rfl rfl rfl rfl ?_
    obtain rfl := Option.some.inj h
    exact Tk_retV rfl rfl (resA (vs := [v1, vI (0 : Int)]) rfl ⟨rfl, rfl, trivial⟩) [0] [] rfl rfl rfl ⟨v1, rfl, rfl, rfl⟩
  · replace h := br_f hg1 h
    refine Tk_condF (congrArg (fun b => some (Value.bool b)) hg1) ?_
    refine Tk_skip ?_
    refine Tk_seq ?_
    refine Tk_region ?_
    refine Tops_step rfl (OpT_fieldC rfl rfl rfl rfl fldF34x1) ?_
    refine Tops_step rfl (OpT_loadC rfl rfl rfl rfl tyF24 (i := 0) rfl rfl) ?_
    refine Tops_step rfl (OpT_cnv rfl rfl rfl rfl (cnv_u16_i (n := hp1.Start) Try.underlying24 Try.underlying3)) ?_
    refine Tops_step rfl (OpT_assign rfl rfl rfl rfl) ?_
    refine Tops_nil ?_
    refine Tk_wkS (fr' := [(0, some (vb1)), (3, some (.pointer (some ⟨b1, 0, none⟩))), (6, some (vI (i16 hp1.Start)))]) (own' := [some (cellsR b1 34 [vU8 hp1.Flags, vU16 hp1.Start, vU16 hp1.Off, vU16 hp1.Buffers])]) (shr' := [Fact.sl u8S vb1 b]) [0, 3, 6] [0] [0] rfl rfl rfl rfl ?_
    refine Tk_seq ?_
    refine Tk_region ?_
    refine Tops_step rfl (OpT_move rfl rfl rfl rfl) ?_
    refine Tops_step rfl (OpT_fieldC rfl rfl rfl rfl fldF34x2) ?_
    refine Tops_step rfl (OpT_loadC rfl rfl rfl rfl tyF24 (i := 0) rfl rfl) ?_
    refine Tops_step rfl (OpT_cnv rfl rfl rfl rfl (cnv_u16_i (n := hp1.Off) Try.underlying24 Try.underlying3)) ?_
    refine Tops_step rfl (OpT_bin rfl rfl rfl rfl rfl (bin_add_i (a := i16 hp1.Start) (b := i16 hp1.Off))) ?_
    refine Tops_step rfl (OpT_assign rfl rfl rfl rfl) ?_
    refine Tops_nil ?_
    refine Tk_wkS (fr' := [(0, some (vb1)), (6, some (vI (i16 hp1.Start))), (7, some (vI (wi ((i16 hp1.Start) + (i16 hp1.Off)))))]) (own' := []) (shr' := [Fact.sl u8S vb1 b]) [0, 6, 7] [] [0] rfl rfl rfl rfl ?_
    refine Tk_seq ?_
    refine Tk_seq ?_
    refine Tk_region ?_
    refine Tops_step rfl (OpT_move rfl rfl rfl rfl) ?_
    refine Tops_step rfl (OpT_move rfl rfl rfl rfl) ?_
    refine Tops_step rfl (OpT_lenS rfl rfl rfl rfl Try.underlying22 (i := 0) rfl) ?_
    refine Tops_step rfl (OpT_bin rfl rfl rfl rfl rfl (bin_gtr_i (a := i16 hp1.Start) (b := len b))) ?_
    refine Tops_step rfl (OpT_move rfl rfl rfl rfl) ?_
    rcases Bool.eq_false_or_eq_true (decide ((i16 hp1.Start) > (len b))) with hg2 | hg2
    · replace h := br_t hg2 h
      refine Tops_no rfl rfl (congrArg (fun b => some (Value.bool b)) hg2) rfl rfl ?_
      refine Tops_no rfl rfl (congrArg (fun b => some (Value.bool b)) hg2) rfl rfl ?_
      refine Tops_no rfl rfl (congrArg (fun b => some (Value.bool b)) hg2) rfl rfl ?_
      refine Tops_no rfl rfl (congrArg (fun b => some (Value.bool b)) hg2) rfl rfl ?_
      refine Tops_no rfl rfl (congrArg (fun b => some (Value.bool b)) hg2) rfl rfl ?_
      refine Tops_step rfl (OpT_pickT rfl rfl rfl (congrArg (fun b => some (Value.bool b)) hg2) rfl) ?_
      refine Tops_nil ?_
      refine Tk_wkS (fr' := [(0, some (vb1)), (6, some (vI (i16 hp1.Start))), (7, some (vI (wi ((i16 hp1.Start) + (i16 hp1.Off))))), (34, some (vB true))]) (own' := []) (shr' := [Fact.sl u8S vb1 b]) [0, 6, 7, 34] [] [0] rfl rfl rfl rfl ?_
      refine Tk_condT rfl ?_
      refine Tk_seq ?_
      refine Tk_region ?_
      refine Tops_step rfl (OpT_assign rfl rfl rfl rfl) ?_
      refine Tops_step rfl (OpT_assign rfl rfl rfl rfl) ?_
      refine Tops_nil ?_
      refine Tk_wkS (fr' := [(4, some (.slice none 0 0)), (5, some (vI (4 : Int)))]) (own' := []) (shr' := []) [4, 5] [] [] rfl rfl rfl rfl ?_
      refine Tk_nilrow u8S ?_
      obtain rfl := Option.some.inj h
      exact Tk_retV rfl rfl (resA (vs := [.slice none 0 0, vI (4 : Int)]) rfl ⟨rfl, rfl, trivial⟩) [0] [] rfl rfl rfl ⟨(.slice none 0 0), rfl, rfl, rfl⟩
    · replace h := br_f hg2 h
      refine Tops_yes rfl rfl (congrArg (fun b => some (Value.bool b)) hg2) (OpT_move rfl rfl rfl rfl) ?_
      rintro _ rfl
      refine Tops_yes rfl rfl (congrArg (fun b => some (Value.bool b)) hg2) (OpT_bin rfl rfl rfl rfl rfl (bin_add_i (a := wi ((i16 hp1.Start) + (i16 hp1.Off))) (b := (2 : Int)))) ?_
      rintro _ rfl
      refine Tops_yes rfl rfl (congrArg (fun b => some (Value.bool b)) hg2) (OpT_move rfl rfl rfl rfl) ?_
      rintro _ rfl
      refine Tops_yes rfl rfl (congrArg (fun b => some (Value.bool b)) hg2) (OpT_lenS rfl rfl rfl rfl Try.underlying22 (i := 0) rfl) ?_
      rintro _ rfl
      refine Tops_yes rfl rfl (congrArg (fun b => some (Value.bool b)) hg2) (OpT_bin rfl rfl rfl rfl rfl (bin_gtr_i (a := wi ((wi ((i16 hp1.Start) + (i16 hp1.Off))) + (2 : Int))) (b := len b))) ?_
      rintro _ rfl
      refine Tops_step rfl (OpT_pickF rfl rfl rfl (congrArg (fun b => some (Value.bool b)) hg2) rfl) ?_
      refine Tops_nil ?_
      refine Tk_wkS (fr' := [(0, some (vb1)), (6, some (vI (i16 hp1.Start))), (7, some (vI (wi ((i16 hp1.Start) + (i16 hp1.Off))))), (34, some (vB (decide ((wi ((wi ((i16 hp1.Start) + (i16 hp1.Off))) + (2 : Int))) > (len b)))))]) (own' := []) (shr' := [Fact.sl u8S vb1 b]) [0, 6, 7, 34] [] [0] rfl rfl rfl rfl ?_
      rcases Bool.eq_false_or_eq_true (decide ((wi ((wi ((i16 hp1.Start) + (i16 hp1.Off))) + (2 : Int))) > (len b))) with hg3 | hg3
      · replace h := br_t hg3 h
        refine Tk_condT (congrArg (fun b => some (Value.bool b)) hg3) ?_
        refine Tk_seq ?_
        refine Tk_region ?_
        refine Tops_step rfl (OpT_assign rfl rfl rfl rfl) ?_
        refine Tops_step rfl (OpT_assign rfl rfl rfl rfl) ?_
        refine Tops_nil ?_
        refine Tk_wkS (fr' := [(4, some (.slice none 0 0)), (5, some (vI (4 : Int)))]) (own' := []) (shr' := []) [4, 5] [] [] rfl rfl rfl rfl ?_
        refine Tk_nilrow u8S ?_
        obtain rfl := Option.some.inj h
        exact Tk_retV rfl rfl (resA (vs := [.slice none 0 0, vI (4 : Int)]) rfl ⟨rfl, rfl, trivial⟩) [0] [] rfl rfl rfl ⟨(.slice none 0 0), rfl, rfl, rfl⟩
      · replace h := br_f hg3 h
        refine Tk_condF (congrArg (fun b => some (Value.bool b)) hg3) ?_
        refine Tk_skip ?_
        refine Tk_seq ?_
        refine Tk_region ?_
        refine Tops_step rfl (OpT_move rfl rfl rfl rfl) ?_
        obtain ⟨cloneb2, hx2, h⟩ := ob_e h
        refine Tops_exP rfl (OpT_call (w_slices_Clone_bytebyte hx2) [] [0] rfl rfl rfl rfl rfl callee41 rfl rfl rfl rfl) ?_
        rintro _ ⟨v2, _, _, ⟨_, rfl, rfl, rfl⟩, rfl⟩
        refine Tops_step rfl (OpT_assign rfl rfl rfl rfl) ?_
        refine Tops_nil ?_
        refine Tk_wkS (fr' := [(6, some (vI (i16 hp1.Start))), (7, some (vI (wi ((i16 hp1.Start) + (i16 hp1.Off))))), (8, some (v2))]) (own' := [some (rowS u8S v2 cloneb2)]) (shr' := []) [6, 7, 8] [0] [] rfl rfl rfl rfl ?_
        refine Tk_seq ?_
        refine Tk_region ?_
        refine Tops_step rfl (OpT_move rfl rfl rfl rfl) ?_
        refine Tops_step rfl (OpT_move rfl rfl rfl rfl) ?_
        obtain ⟨hc1, h⟩ := chk_e h
        refine Tops_step rfl (OpT_subL (S := u8S) (l := i16 hp1.Start) rfl rfl rfl rfl rfl slF22 (i := 0) rfl hc1) ?_
        obtain ⟨sum1, hx3, h⟩ := ob_e h
        refine Tops_exP rfl (OpT_callB [0] [0] (w_frame_Sum hx3) [] rfl rfl rfl rfl rfl callee12 rfl rfl rfl rfl rfl rfl (bor_cons (bor_sub (S := u8S) (l := (i16 hp1.Start)) (m := (len cloneb2)) 0 rfl rfl hc1) bor_nil) (by rintro _ _ _ ⟨rfl, rfl, rfl⟩; exact ⟨rfl, ri_nil⟩)) ?_
        rintro _ ⟨_, _, _, ⟨rfl, rfl, rfl⟩, rfl⟩
        refine Tops_step rfl (OpT_assign rfl rfl rfl rfl) ?_
        refine Tops_nil ?_
        refine Tk_wkS (fr' := [(7, some (vI (wi ((i16 hp1.Start) + (i16 hp1.Off))))), (8, some (v2)), (9, some (vU16 sum1))]) (own' := [some (rowS u8S v2 cloneb2)]) (shr' := []) [7, 8, 9] [0] [] rfl rfl rfl rfl ?_
        refine Tk_seq ?_
        refine Tk_region ?_
        refine Tops_step rfl (OpT_move rfl rfl rfl rfl) ?_
        refine Tops_step rfl (OpT_move rfl rfl rfl rfl) ?_
        refine Tops_step rfl (OpT_move rfl rfl rfl rfl) ?_
        refine Tops_step rfl (OpT_move rfl rfl rfl rfl) ?_
        refine Tops_step rfl (OpT_bin rfl rfl rfl rfl rfl (bin_add_i (a := wi ((i16 hp1.Start) + (i16 hp1.Off))) (b := (1 : Int)))) ?_
        refine Tops_step rfl (OpT_move rfl rfl rfl rfl) ?_
        refine Tops_step rfl (OpT_bin rfl rfl rfl rfl rfl (bin_shr_u16_u64 (a := sum1) (n := (8 : UInt64)))) ?_
        refine Tops_step rfl (OpT_cnv rfl rfl rfl rfl (cnv_u16_u8 (n := shr16 sum1 ((8 : UInt64).toNat)) Try.underlying24 Try.underlying5)) ?_
        refine Tops_step rfl (OpT_move rfl rfl rfl rfl) ?_
        refine Tops_step rfl (OpT_cnv rfl rfl rfl rfl (cnv_u16_u8 (n := sum1) Try.underlying24 Try.underlying5)) ?_
        obtain ⟨y1, hx4, h⟩ := ob_e h
        refine Tops_step rfl (OpT_idxO rfl rfl rfl rfl rfl slF22 (i := 0) rfl hx4) ?_
        refine Tops_step rfl (OpT_storeO (S := u8S) (u := (shr16 sum1 ((8 : UInt64).toNat)).toUInt8) rfl rfl rfl rfl rfl tyF5 (i := 0) rfl hx4 rfl) ?_
        obtain ⟨y2, hx5, h⟩ := ob_e h
        refine Tops_step rfl (OpT_idxO rfl rfl rfl rfl rfl slF22 (i := 0) rfl hx5) ?_
        refine Tops_step rfl (OpT_storeO (S := u8S) (u := sum1.toUInt8) rfl rfl rfl rfl rfl tyF5 (i := 0) rfl hx5 rfl) ?_
        refine Tops_nil ?_
        refine Tk_wkS (fr' := [(8, some (v2))]) (own' := [some (rowS u8S v2 ((cloneb2.set (wi ((i16 hp1.Start) + (i16 hp1.Off))).toNat ((shr16 sum1 ((8 : UInt64).toNat)).toUInt8)).set (wi ((wi ((i16 hp1.Start) + (i16 hp1.Off))) + (1 : Int))).toNat sum1.toUInt8))]) (shr' := []) [8] [0] [] rfl rfl rfl rfl ?_
        refine Tk_seq ?_
        refine Tk_region ?_
        refine Tops_step rfl (OpT_move rfl rfl rfl rfl) ?_
        refine Tops_step rfl (OpT_assign rfl rfl rfl rfl) ?_
        refine Tops_step rfl (OpT_assign rfl rfl rfl rfl) ?_
        refine Tops_nil ?_
        refine Tk_wkS (fr' := [(4, some (v2)), (5, some (vI (0 : Int)))]) (own' := [some (rowS u8S v2 ((cloneb2.set (wi ((i16 hp1.Start) + (i16 hp1.Off))).toNat ((shr16 sum1 ((8 : UInt64).toNat)).toUInt8)).set (wi ((wi ((i16 hp1.Start) + (i16 hp1.Off))) + (1 : Int))).toNat sum1.toUInt8))]) (shr' := []) [4, 5] [0] [] rfl rfl rfl rfl ?_
        obtain rfl := Option.some.inj h
        exact Tk_retV rfl rfl (resA (vs := [v2, vI (0 : Int)]) rfl ⟨rfl, rfl, trivial⟩) [0] [] rfl rfl rfl ⟨v2, rfl, rfl, rfl⟩

theorem ws_kit_Own {b : List UInt8} {vb1 : Value} {r : (List UInt8)} (h : kit_Own b = some r) :
    Ctr Try.prog 13 #[vb1] [] [Fact.sl u8S vb1 b]
      (fun rv own shr => ∃ (w1 : Value), rv = w1 ∧ own = [] ∧ shr = [Fact.sl u8S w1 r]) :=
  Ctr.sh (w_kit_Own h) (by rintro w1 _ _ ⟨_, rfl, rfl, rfl⟩; exact ⟨[], _, _, _, _, rfl, w1, rfl, rfl, rfl⟩)

set_option maxRecDepth 100000 in
set_option maxHeartbeats 4000000 in
theorem w_frame_HdrOf {hp0 : Hdr} {r : (List UInt8)} (h : frame_HdrOf hp0 = some r) :
    Ctr Try.prog 17 #[.agg #[vU8 hp0.Flags, vU16 hp0.Start, vU16 hp0.Off, vU16 hp0.Buffers]] [] []
      (fun rv own shr => ∃ (w1 : Value), rv = w1 ∧ own = [(rowS u8S w1 r)] ∧ shr = []) := by
  unfold frame_HdrOf at h
  refine Ctr.mk (args := [.agg #[vU8 hp0.Flags, vU16 hp0.Start, vU16 hp0.Off, vU16 hp0.Buffers]]) Try.func17 rfl rfl (fun R0 w0 B => ?_)
  refine Tk_seq ?_
  refine Tk_region ?_
  refine Tops_ex rfl (OpT_box rfl rfl rfl rfl) fun b1 => ?_
  refine Tops_step rfl (OpT_assign rfl rfl rfl rfl) ?_
  refine Tops_nil ?_
  refine Tk_wkS (fr' := [(1, some (.pointer (some ⟨b1, 0, none⟩)))]) (own' := [some (cellsR b1 34 [vU8 hp0.Flags, vU16 hp0.Start, vU16 hp0.Off, vU16 hp0.Buffers])]) (shr' := []) [1] [0] [] rfl rfl rfl rfl ?_
  refine Tk_seq ?_
  refine Tk_region ?_
  obtain ⟨hc1, h⟩ := chk_e h
  refine Tops_ex rfl (OpT_makeD u8S rfl (u := (0 : UInt8)) rfl rfl rfl rfl rfl slF22 rfl hc1) fun v1 => ?_
  refine Tops_step rfl (OpT_assign rfl rfl rfl rfl) ?_
  refine Tops_nil ?_
  refine Tk_wkS (fr' := [(1, some (.pointer (some ⟨b1, 0, none⟩))), (3, some (v1))]) (own' := [some (cellsR b1 34 [vU8 hp0.Flags, vU16 hp0.Start, vU16 hp0.Off, vU16 hp0.Buffers]), some (rowS u8S v1 (List.replicate (12 : Int).toNat (0 : UInt8)))]) (shr' := []) [1, 3] [0, 1] [] rfl rfl rfl rfl ?_
  refine Tk_seq ?_
  refine Tk_region ?_
  refine Tops_step rfl (OpT_move rfl rfl rfl rfl) ?_
  refine Tops_step rfl (OpT_fieldC rfl rfl rfl rfl fldF34x0) ?_
  refine Tops_step rfl (OpT_loadC rfl rfl rfl rfl tyF5 (i := 0) rfl rfl) ?_
  obtain ⟨y1, hx1, h⟩ := ob_e h
  refine Tops_step rfl (OpT_idxO rfl rfl rfl rfl rfl slF22 (i := 1) rfl hx1) ?_
  refine Tops_step rfl (OpT_storeO (S := u8S) (u := hp0.Flags) rfl rfl rfl rfl rfl tyF5 (i := 1) rfl hx1 rfl) ?_
  refine Tops_nil ?_
  refine Tk_wkS (fr' := [(1, some (.pointer (some ⟨b1, 0, none⟩))), (3, some (v1))]) (own' := [some (cellsR b1 34 [vU8 hp0.Flags, vU16 hp0.Start, vU16 hp0.Off, vU16 hp0.Buffers]), some (rowS u8S v1 ((List.replicate (12 : Int).toNat (0 : UInt8)).set (0 : Int).toNat hp0.Flags))]) (shr' := []) [1, 3] [0, 1] [] rfl rfl rfl rfl ?_
  refine Tk_seq ?_
  refine Tk_seq ?_
  refine Tk_region ?_
  refine Tops_step rfl (OpT_fieldC rfl rfl rfl rfl fldF34x1) ?_
  refine Tops_step rfl (OpT_loadC rfl rfl rfl rfl tyF24 (i := 0) rfl rfl) ?_
  refine Tops_step rfl (OpT_fieldC rfl rfl rfl rfl fldF34x2) ?_
  refine Tops_step rfl (OpT_loadC rfl rfl rfl rfl tyF24 (i := 0) rfl rfl) ?_
  refine Tops_step rfl (OpT_fieldC rfl rfl rfl rfl fldF34x3) ?_
  refine Tops_step rfl (OpT_loadC rfl rfl rfl rfl tyF24 (i := 0) rfl rfl) ?_
  refine Tops_step rfl (OpT_build (v := .agg #[vU16 hp0.Start, vU16 hp0.Off, vU16 hp0.Buffers]) rfl rfl rfl rfl (bldV (by kernel_rfl))) ?_
  refine Tops_step rfl (OpT_move rfl rfl rfl rfl) ?_
  refine Tops_nil ?_
  refine Tk_wkS (fr' := [(3, some (v1)), (17, some (.agg #[vU16 hp0.Start, vU16 hp0.Off, vU16 hp0.Buffers])), (18, some (vI (0 : Int)))]) (own' := [some (rowS u8S v1 ((List.replicate (12 : Int).toNat (0 : UInt8)).set (0 : Int).toNat hp0.Flags))]) (shr' := []) [3, 17, 18] [1] [] rfl rfl rfl rfl ?_
  refine Tk_block ?_
  refine Tk_loopS (σ := (List UInt8) × Int × Value) [3, 17, 18] [0] [] (fun s => ⟨[(3, some (s.2.2)), (17, some (.agg #[vU16 hp0.Start, vU16 hp0.Off, vU16 hp0.Buffers])), (18, some (vI s.2.1))], [some (rowS u8S s.2.2 s.1)], []⟩) (fun nf s => frame_HdrOfL1 hp0 nf s.1 s.2.1 = some r) fuel ((List.replicate (12 : Int).toNat (0 : UInt8)).set (0 : Int).toNat hp0.Flags, (0 : Int), v1) h rfl rfl rfl rfl rfl (fun s h => by cases h) ?_
  rintro nf ⟨l1, x1, v2⟩ h
  replace h : frame_HdrOfL1B hp0 (frame_HdrOfL1 hp0 nf) l1 x1 = some r := h
  unfold frame_HdrOfL1B at h
  refine Tk_seq ?_
  refine Tk_region ?_
  refine Tops_step rfl (OpT_bin rfl rfl rfl rfl rfl (bin_lss_i (a := x1) (b := (3 : Int)))) ?_
  refine Tops_nil ?_
  refine Tk_seq ?_
  rcases Bool.eq_false_or_eq_true (decide (x1 < (3 : Int))) with hg1 | hg1
  · replace h := br_t hg1 h
    refine Tk_condT (congrArg (fun b => some (Value.bool b)) hg1) ?_
    refine Tk_skip ?_
    refine Tk_seq ?_
    refine Tk_block ?_
    refine Tk_seq ?_
    refine Tk_region ?_
    refine Tops_step rfl (OpT_move rfl rfl rfl rfl) ?_
    obtain ⟨u1, hx2, h⟩ := ob_e h
    refine Tops_step rfl (OpT_idxV vU16 [hp0.Start, hp0.Off, hp0.Buffers] rfl rfl rfl rfl rfl arrF64 tyF24 rfl rfl hx2) ?_
    refine Tops_step rfl (OpT_assign rfl rfl rfl rfl) ?_
    refine Tops_step rfl (OpT_assign rfl rfl rfl rfl) ?_
    refine Tops_nil ?_
    refine Tk_wkS (fr' := [(3, some (v2)), (17, some (.agg #[vU16 hp0.Start, vU16 hp0.Off, vU16 hp0.Buffers])), (18, some (vI x1)), (4, some (vI x1)), (5, some (vU16 u1))]) (own' := [some (rowS u8S v2 l1)]) (shr' := []) [3, 17, 18, 4, 5] [0] [] rfl rfl rfl rfl ?_
    refine Tk_region ?_
    refine Tops_step rfl (OpT_move rfl rfl rfl rfl) ?_
    refine Tops_step rfl (OpT_move rfl rfl rfl rfl) ?_
    refine Tops_step rfl (OpT_bin rfl rfl rfl rfl rfl (bin_mul_i (a := (2 : Int)) (b := x1))) ?_
    refine Tops_step rfl (OpT_bin rfl rfl rfl rfl rfl (bin_add_i (a := (6 : Int)) (b := wi ((2 : Int) * x1)))) ?_
    refine Tops_step rfl (OpT_move rfl rfl rfl rfl) ?_
    refine Tops_step rfl (OpT_move rfl rfl rfl rfl) ?_
    refine Tops_step rfl (OpT_bin rfl rfl rfl rfl rfl (bin_mul_i (a := (2 : Int)) (b := x1))) ?_
    refine Tops_step rfl (OpT_bin rfl rfl rfl rfl rfl (bin_add_i (a := (7 : Int)) (b := wi ((2 : Int) * x1)))) ?_
    refine Tops_step rfl (OpT_move rfl rfl rfl rfl) ?_
    refine Tops_step rfl (OpT_cnv rfl rfl rfl rfl (cnv_u16_u8 (n := u1) Try.underlying24 Try.underlying5)) ?_
    refine Tops_step rfl (OpT_move rfl rfl rfl rfl) ?_
    refine Tops_step rfl (OpT_bin rfl rfl rfl rfl rfl (bin_shr_u16_u64 (a := u1) (n := (8 : UInt64)))) ?_
    refine Tops_step rfl (OpT_cnv rfl rfl rfl rfl (cnv_u16_u8 (n := shr16 u1 ((8 : UInt64).toNat)) Try.underlying24 Try.underlying5)) ?_
    obtain ⟨y2, hx3, h⟩ := ob_e h
    refine Tops_step rfl (OpT_idxO rfl rfl rfl rfl rfl slF22 (i := 0) rfl hx3) ?_
    refine Tops_step rfl (OpT_storeO (S := u8S) (u := u1.toUInt8) rfl rfl rfl rfl rfl tyF5 (i := 0) rfl hx3 rfl) ?_
    obtain ⟨y3, hx4, h⟩ := ob_e h
    refine Tops_step rfl (OpT_idxO rfl rfl rfl rfl rfl slF22 (i := 0) rfl hx4) ?_
    refine Tops_step rfl (OpT_storeO (S := u8S) (u := (shr16 u1 ((8 : UInt64).toNat)).toUInt8) rfl rfl rfl rfl rfl tyF5 (i := 0) rfl hx4 rfl) ?_
    refine Tops_nil ?_
    refine Tk_wkS (fr' := [(3, some (v2)), (17, some (.agg #[vU16 hp0.Start, vU16 hp0.Off, vU16 hp0.Buffers])), (18, some (vI x1))]) (own' := [some (rowS u8S v2 ((l1.set (wi ((6 : Int) + (wi ((2 : Int) * x1)))).toNat u1.toUInt8).set (wi ((7 : Int) + (wi ((2 : Int) * x1)))).toNat ((shr16 u1 ((8 : UInt64).toNat)).toUInt8)))]) (shr' := []) [3, 17, 18] [0] [] rfl rfl rfl rfl ?_
    refine Tk_blk ?_
    refine Tk_region ?_
    refine Tops_step rfl (OpT_bin rfl rfl rfl rfl rfl (bin_add_i (a := x1) (b := (1 : Int)))) ?_
    refine Tops_step rfl (OpT_move rfl rfl rfl rfl) ?_
    refine Tops_nil ?_
    refine Tk_wkS (fr' := [(3, some (v2)), (17, some (.agg #[vU16 hp0.Start, vU16 hp0.Off, vU16 hp0.Buffers])), (18, some (vI (wi (x1 + (1 : Int)))))]) (own' := [some (rowS u8S v2 ((l1.set (wi ((6 : Int) + (wi ((2 : Int) * x1)))).toNat u1.toUInt8).set (wi ((7 : Int) + (wi ((2 : Int) * x1)))).toNat ((shr16 u1 ((8 : UInt64).toNat)).toUInt8)))]) (shr' := []) [3, 17, 18] [0] [] rfl rfl rfl rfl ?_
    exact Tk_backS ((l1.set (wi ((6 : Int) + (wi ((2 : Int) * x1)))).toNat u1.toUInt8).set (wi ((7 : Int) + (wi ((2 : Int) * x1)))).toNat ((shr16 u1 ((8 : UInt64).toNat)).toUInt8), wi (x1 + (1 : Int)), v2) h [3, 17, 18] [0] [] rfl rfl rfl rfl rfl
  · replace h := br_f hg1 h
    refine Tk_condF (congrArg (fun b => some (Value.bool b)) hg1) ?_
    refine Tk_exit _ rfl ?_
    refine Tk_seq ?_
    refine Tk_region ?_
    refine Tops_step rfl (OpT_move rfl rfl rfl rfl) ?_
    refine Tops_step rfl (OpT_assign rfl rfl rfl rfl) ?_
    refine Tops_nil ?_
    refine Tk_wkS (fr' := [(2, some (v2))]) (own' := [some (rowS u8S v2 l1)]) (shr' := []) [2] [0] [] rfl rfl rfl rfl ?_
    obtain rfl := Option.some.inj h
    exact Tk_retV rfl rfl (resA (vs := [v2]) rfl ⟨rfl, trivial⟩) [0] [] rfl rfl rfl ⟨v2, rfl, rfl, rfl⟩

theorem ws_frame_HdrOf {hp0 : Hdr} {r : (List UInt8)} (h : frame_HdrOf hp0 = some r) :
    Ctr Try.prog 17 #[.agg #[vU8 hp0.Flags, vU16 hp0.Start, vU16 hp0.Off, vU16 hp0.Buffers]] [] []
      (fun rv own shr => ∃ (w1 : Value), rv = w1 ∧ own = [] ∧ shr = [Fact.sl u8S w1 r]) :=
  Ctr.sh (w_frame_HdrOf h) (by rintro w1 _ _ ⟨_, rfl, rfl, rfl⟩; exact ⟨[], _, _, _, _, rfl, w1, rfl, rfl, rfl⟩)

set_option maxRecDepth 100000 in
set_option maxHeartbeats 4000000 in
theorem w_frame_All {m : A6 UInt8} {r : Bool} (h : frame_All m = some r) :
    Ctr Try.prog 18 #[.agg #[vU8 m.a0, vU8 m.a1, vU8 m.a2, vU8 m.a3, vU8 m.a4, vU8 m.a5]] [] []
      (fun rv own shr => rv = vB r ∧ own = [] ∧ shr = []) := by
  unfold frame_All at h
  refine Ctr.mk (args := [.agg #[vU8 m.a0, vU8 m.a1, vU8 m.a2, vU8 m.a3, vU8 m.a4, vU8 m.a5]]) Try.func18 rfl rfl (fun R0 w0 B => ?_)
  refine Tk_seq ?_
  refine Tk_region ?_
  refine Tops_ex rfl (OpT_box rfl rfl rfl rfl) fun b1 => ?_
  refine Tops_step rfl (OpT_assign rfl rfl rfl rfl) ?_
  refine Tops_nil ?_
  refine Tk_wkS (fr' := [(1, some (.pointer (some ⟨b1, 0, none⟩)))]) (own' := [some (cellsR b1 36 [vU8 m.a0, vU8 m.a1, vU8 m.a2, vU8 m.a3, vU8 m.a4, vU8 m.a5])]) (shr' := []) [1] [0] [] rfl rfl rfl rfl ?_
  refine Tk_seq ?_
  refine Tk_region ?_
  refine Tops_step rfl (OpT_loadCA (vs := [vU8 m.a0, vU8 m.a1, vU8 m.a2, vU8 m.a3, vU8 m.a4, vU8 m.a5]) rfl rfl rfl rfl tyF36 (i := 0) rfl rfl rfl) ?_
  refine Tops_step rfl (OpT_build (v := .agg #[vU8 (255 : UInt8), vU8 (255 : UInt8), vU8 (255 : UInt8), vU8 (255 : UInt8), vU8 (255 : UInt8), vU8 (255 : UInt8)]) rfl rfl rfl rfl (bldV (by kernel_rfl))) ?_
  refine Tops_step rfl (OpT_bin rfl rfl rfl rfl rfl (eqT36_eql m (A6.mk (255 : UInt8) (255 : UInt8) (255 : UInt8) (255 : UInt8) (255 : UInt8) (255 : UInt8)))) ?_
  refine Tops_step rfl (OpT_assign rfl rfl rfl rfl) ?_
  refine Tops_nil ?_
  refine Tk_wkS (fr' := [(2, some (vB (m == (A6.mk (255 : UInt8) (255 : UInt8) (255 : UInt8) (255 : UInt8) (255 : UInt8) (255 : UInt8)))))]) (own' := []) (shr' := []) [2] [] [] rfl rfl rfl rfl ?_
  obtain rfl := Option.some.inj h
  exact Tk_retV rfl rfl (resA (vs := [vB (m == (A6.mk (255 : UInt8) (255 : UInt8) (255 : UInt8) (255 : UInt8) (255 : UInt8) (255 : UInt8)))]) rfl ⟨rfl, trivial⟩) [] [] rfl rfl rfl ⟨rfl, rfl, rfl⟩

set_option maxRecDepth 100000 in
set_option maxHeartbeats 4000000 in
theorem w_frame_Group {m : A6 UInt8} {r : Bool} (h : frame_Group m = some r) :
    Ctr Try.prog 19 #[.agg #[vU8 m.a0, vU8 m.a1, vU8 m.a2, vU8 m.a3, vU8 m.a4, vU8 m.a5]] [] []
      (fun rv own shr => rv = vB r ∧ own = [] ∧ shr = []) := by
  unfold frame_Group at h
  refine Ctr.mk (args := [.agg #[vU8 m.a0, vU8 m.a1, vU8 m.a2, vU8 m.a3, vU8 m.a4, vU8 m.a5]]) Try.func19 rfl rfl (fun R0 w0 B => ?_)
  refine Tk_seq ?_
  refine Tk_region ?_
  refine Tops_ex rfl (OpT_box rfl rfl rfl rfl) fun b1 => ?_
  refine Tops_step rfl (OpT_assign rfl rfl rfl rfl) ?_
  refine Tops_nil ?_
  refine Tk_wkS (fr' := [(1, some (.pointer (some ⟨b1, 0, none⟩)))]) (own' := [some (cellsR b1 36 [vU8 m.a0, vU8 m.a1, vU8 m.a2, vU8 m.a3, vU8 m.a4, vU8 m.a5])]) (shr' := []) [1] [0] [] rfl rfl rfl rfl ?_
  refine Tk_seq ?_
  refine Tk_region ?_
  refine Tops_step rfl (OpT_indexC rfl rfl rfl rfl rfl arrF36 (by decide)) ?_
  refine Tops_step rfl (OpT_loadC rfl rfl rfl rfl tyF5 (i := 0) rfl rfl) ?_
  refine Tops_step rfl (OpT_bin rfl rfl rfl rfl rfl (bin_and_u8 (a := m.a0) (b := (1 : UInt8)))) ?_
  refine Tops_step rfl (OpT_bin rfl rfl rfl rfl rfl (bin_eql_u8 (a := m.a0 &&& (1 : UInt8)) (b := (1 : UInt8)))) ?_
  refine Tops_step rfl (OpT_assign rfl rfl rfl rfl) ?_
  refine Tops_nil ?_
  refine Tk_wkS (fr' := [(2, some (vB ((m.a0 &&& (1 : UInt8)) == (1 : UInt8))))]) (own' := []) (shr' := []) [2] [] [] rfl rfl rfl rfl ?_
  obtain rfl := Option.some.inj h
  exact Tk_retV rfl rfl (resA (vs := [vB ((m.a0 &&& (1 : UInt8)) == (1 : UInt8))]) rfl ⟨rfl, trivial⟩) [] [] rfl rfl rfl ⟨rfl, rfl, rfl⟩

set_option maxRecDepth 100000 in
set_option maxHeartbeats 4000000 in
theorem w_slices_Equal_bytebyte {s1 : List UInt8} {s2 : List UInt8} {vs11 : Value} {vs21 : Value} {r : Bool} (h : slices_Equal_bytebyte s1 s2 = some r) :
    Ctr Try.prog 43 #[vs11, vs21] [] [Fact.sl u8S vs11 s1, Fact.sl u8S vs21 s2]
      (fun rv own shr => rv = vB r ∧ own = [] ∧ shr = []) := by
  unfold slices_Equal_bytebyte at h
  refine Ctr.mk (args := [vs11, vs21]) Try.func43 rfl rfl (fun R0 w0 B => ?_)
  refine Tk_seq ?_
  refine Tk_region ?_
  refine Tops_step rfl (OpT_assign rfl rfl rfl rfl) ?_
  refine Tops_nil ?_
  refine Tk_wkS (fr' := [(0, some (vs11)), (1, some (vs21))]) (own' := []) (shr' := [Fact.sl u8S vs11 s1, Fact.sl u8S vs21 s2]) [0, 1] [] [0, 1] rfl rfl rfl rfl ?_
  refine Tk_seq ?_
  refine Tk_seq ?_
  refine Tk_region ?_
  refine Tops_step rfl (OpT_move rfl rfl rfl rfl) ?_
  refine Tops_step rfl (OpT_lenS rfl rfl rfl rfl Try.underlying22 (i := 0) rfl) ?_
  refine Tops_step rfl (OpT_move rfl rfl rfl rfl) ?_
  refine Tops_step rfl (OpT_lenS rfl rfl rfl rfl Try.underlying22 (i := 1) rfl) ?_
  refine Tops_step rfl (OpT_bin rfl rfl rfl rfl rfl (bin_neq_i (a := len s1) (b := len s2))) ?_
  refine Tops_nil ?_
  refine Tk_wkS (fr' := [(0, some (vs11)), (1, some (vs21)), (10, some (vB ((len s1) != (len s2))))]) (own' := []) (shr' := [Fact.sl u8S vs11 s1, Fact.sl u8S vs21 s2]) [0, 1, 10] [] [0, 1] rfl rfl rfl rfl ?_
  rcases Bool.eq_false_or_eq_true ((len s1) != (len s2)) with hg1 | hg1
  · replace h := br_t hg1 h
    refine Tk_condT (congrArg (fun b => some (Value.bool b)) hg1) ?_
    refine Tk_seq ?_
    refine Tk_region ?_
    refine Tops_step rfl (OpT_assign rfl rfl rfl rfl) ?_
    refine Tops_nil ?_
    refine Tk_wkS (fr' := [(4, some (vB false))]) (own' := []) (shr' := []) [4] [] [] rfl rfl rfl rfl ?_
    obtain rfl := Option.some.inj h
    exact Tk_retV rfl rfl (resA (vs := [vB false]) rfl ⟨rfl, trivial⟩) [] [] rfl rfl rfl ⟨rfl, rfl, rfl⟩
  · replace h := br_f hg1 h
    refine Tk_condF (congrArg (fun b => some (Value.bool b)) hg1) ?_
    refine Tk_skip ?_
    refine Tk_seq ?_
    refine Tk_seq ?_
    refine Tk_region ?_
    refine Tops_step rfl (OpT_move rfl rfl rfl rfl) ?_
    refine Tops_step rfl (OpT_lenS rfl rfl rfl rfl Try.underlying22 (i := 0) rfl) ?_
    refine Tops_step rfl (OpT_move rfl rfl rfl rfl) ?_
    refine Tops_nil ?_
    refine Tk_wkS (fr' := [(0, some (vs11)), (1, some (vs21)), (12, some (vI (len s1))), (13, some (vI (0 : Int)))]) (own' := []) (shr' := [Fact.sl u8S vs11 s1, Fact.sl u8S vs21 s2]) [0, 1, 12, 13] [] [0, 1] rfl rfl rfl rfl ?_
    refine Tk_block ?_
    refine Tk_loopS (σ := Int) [0, 1, 12, 13] [] [0, 1] (fun s => ⟨[(0, some (vs11)), (1, some (vs21)), (12, some (vI (len s1))), (13, some (vI s))], [], [Fact.sl u8S vs11 s1, Fact.sl u8S vs21 s2]⟩) (fun nf s => slices_Equal_bytebyteL1 s1 s2 nf s = some r) fuel (0 : Int) h rfl rfl rfl rfl rfl (fun s h => by cases h) ?_
    rintro nf x1 h
    replace h : slices_Equal_bytebyteL1B s1 s2 (slices_Equal_bytebyteL1 s1 s2 nf) x1 = some r := h
    unfold slices_Equal_bytebyteL1B at h
    refine Tk_seq ?_
    refine Tk_region ?_
    refine Tops_step rfl (OpT_bin rfl rfl rfl rfl rfl (bin_lss_i (a := x1) (b := len s1))) ?_
    refine Tops_nil ?_
    refine Tk_seq ?_
    rcases Bool.eq_false_or_eq_true (decide (x1 < (len s1))) with hg2 | hg2
    · replace h := br_t hg2 h
      refine Tk_condT (congrArg (fun b => some (Value.bool b)) hg2) ?_
      refine Tk_skip ?_
      refine Tk_seq ?_
      refine Tk_block ?_
      refine Tk_seq ?_
      refine Tk_region ?_
      refine Tops_step rfl (OpT_move rfl rfl rfl rfl) ?_
      refine Tops_step rfl (OpT_assign rfl rfl rfl rfl) ?_
      refine Tops_nil ?_
      refine Tk_wkS (fr' := [(0, some (vs11)), (1, some (vs21)), (12, some (vI (len s1))), (13, some (vI x1)), (5, some (vI x1))]) (own' := []) (shr' := [Fact.sl u8S vs11 s1, Fact.sl u8S vs21 s2]) [0, 1, 12, 13, 5] [] [0, 1] rfl rfl rfl rfl ?_
      refine Tk_seq ?_
      refine Tk_drawT (by kernel_rfl) ?_
      refine TA_tb [0, 0, 3, 7, 0, 0, 48, 112, 255] (by kernel_rfl) fun htb => ?_
      obtain ⟨y1, hx1, h⟩ := ob_e h
      obtain ⟨y2, hx2, h⟩ := ob_e h
      refine TA_seg (lo := 0) (hi := 8) htb rfl rfl (by kernel_rfl) (fun c L a w => ∃ (p1 : Value), ∃ (p2 : Value), Sat c ⟨[(0, some (vs11)), (1, some (vs21)), (12, some (vI (len s1))), (13, some (vI x1)), (5, some (vI x1)), (16, bif L 0 then some (vs11) else none), (17, bif L 1 then some (vI x1) else none), (18, bif L 2 then some (p1) else none), (19, bif L 3 then some (vU8 y1) else none), (20, bif L 4 then some (vs21) else none), (21, bif L 5 then some (vI x1) else none), (22, bif L 6 then some (p2) else none), (23, bif L 7 then some (vU8 y2) else none)], [], [Fact.sl u8S vs11 s1, Fact.sl u8S vs21 s2, (bif L 2 then Fact.pt u8S p1 y1 else Fact.tt), (bif L 6 then Fact.pt u8S p2 y2 else Fact.tt)]⟩ a w) [([], [2, 3]), ([], [2, 3]), ([0, 1], [3]), ([0, 1, 2], []), ([], [6, 7]), ([], [6, 7]), ([4, 5], [7]), ([4, 5, 6], [])] rfl (by kernel_rfl) ?_ (steps_cons ?_ (steps_cons ?_ (steps_cons ?_ (steps_cons ?_ (steps_cons ?_ (steps_cons ?_ (steps_cons ?_ (steps_cons ?_ (steps_nil))))))))) ?_
      · intro a w hs
        exact ⟨undef, undef, hs.startF [16, 17, 18, 19, 20, 21, 22, 23] [] [0, 1, 2, 3] rfl rfl rfl rfl⟩
      · intro L a w hv K Q hK
        obtain ⟨p1, p2, hs⟩ := hv
        refine wpOp_go rfl rfl hs (OpT_move rfl rfl rfl rfl) ?_
        rintro _ rfl a' w' hs'
        exact hK a' w' ⟨p1, p2, hs'.putF (i := 5) rfl [] [0, 1, 2, 3] rfl rfl rfl rfl⟩
      · intro L a w hv K Q hK
        obtain ⟨p1, p2, hs⟩ := hv
        refine wpOp_go rfl rfl hs (OpT_move rfl rfl rfl rfl) ?_
        rintro _ rfl a' w' hs'
        exact hK a' w' ⟨p1, p2, hs'.putF (i := 6) rfl [] [0, 1, 2, 3] rfl rfl rfl rfl⟩
      · intro L a w hv K Q hK
        obtain ⟨p1, p2, hs⟩ := hv
        refine wpOp_go rfl rfl hs (OpT_idxS rfl rfl rfl rfl rfl slF22 (i := 0) rfl hx1) ?_
        rintro _ ⟨p1', rfl⟩ a' w' hs'
        exact hK a' w' ⟨p1', p2, hs'.putF (i := 7) rfl [] [0, 1, 4, 3] rfl rfl rfl rfl⟩
      · intro L a w hv K Q hK
        obtain ⟨p1, p2, hs⟩ := hv
        refine wpOp_go rfl rfl hs (OpT_loadP rfl rfl rfl rfl tyF5 (i := 2) rfl rfl) ?_
        rintro _ rfl a' w' hs'
        exact hK a' w' ⟨p1, p2, hs'.putF (i := 8) rfl [] [0, 1, 2, 3] rfl rfl rfl rfl⟩
      · intro L a w hv K Q hK
        obtain ⟨p1, p2, hs⟩ := hv
        refine wpOp_go rfl rfl hs (OpT_move rfl rfl rfl rfl) ?_
        rintro _ rfl a' w' hs'
        exact hK a' w' ⟨p1, p2, hs'.putF (i := 9) rfl [] [0, 1, 2, 3] rfl rfl rfl rfl⟩
      · intro L a w hv K Q hK
        obtain ⟨p1, p2, hs⟩ := hv
        refine wpOp_go rfl rfl hs (OpT_move rfl rfl rfl rfl) ?_
        rintro _ rfl a' w' hs'
        exact hK a' w' ⟨p1, p2, hs'.putF (i := 10) rfl [] [0, 1, 2, 3] rfl rfl rfl rfl⟩
      · intro L a w hv K Q hK
        obtain ⟨p1, p2, hs⟩ := hv
        refine wpOp_go rfl rfl hs (OpT_idxS rfl rfl rfl rfl rfl slF22 (i := 1) rfl hx2) ?_
        rintro _ ⟨p2', rfl⟩ a' w' hs'
        exact hK a' w' ⟨p1, p2', hs'.putF (i := 11) rfl [] [0, 1, 2, 4] rfl rfl rfl rfl⟩
      · intro L a w hv K Q hK
        obtain ⟨p1, p2, hs⟩ := hv
        refine wpOp_go rfl rfl hs (OpT_loadP rfl rfl rfl rfl tyF5 (i := 3) rfl rfl) ?_
        rintro _ rfl a' w' hs'
        exact hK a' w' ⟨p1, p2, hs'.putF (i := 12) rfl [] [0, 1, 2, 3] rfl rfl rfl rfl⟩
      · intro L a w hL hv
        rw [allTrue hL] at hv
        obtain ⟨p1, p2, hs⟩ := hv
        refine (show TA _ _ _ 8 ⟨[(0, some (vs11)), (1, some (vs21)), (12, some (vI (len s1))), (13, some (vI x1)), (19, some (vU8 y1)), (23, some (vU8 y2))], [], [Fact.sl u8S vs11 s1, Fact.sl u8S vs21 s2]⟩ from ?_) a w (hs.wkS [0, 1, 12, 13, 19, 23] [] [0, 1] rfl rfl rfl rfl)
        clear hs hL
        refine TA_step htb (by kernel_rfl) rfl rfl (OpT_bin rfl rfl rfl rfl rfl (bin_neq_u8 (a := y1) (b := y2))) ?_
        refine TA_end rfl ?_
        refine Tk_wkS (fr' := [(0, some (vs11)), (1, some (vs21)), (12, some (vI (len s1))), (13, some (vI x1)), (24, some (vB (y1 != y2)))]) (own' := []) (shr' := [Fact.sl u8S vs11 s1, Fact.sl u8S vs21 s2]) [0, 1, 12, 13, 24] [] [0, 1] rfl rfl rfl rfl ?_
        rcases Bool.eq_false_or_eq_true (y1 != y2) with hg3 | hg3
        · replace h := br_t hg3 h
          refine Tk_condT (congrArg (fun b => some (Value.bool b)) hg3) ?_
          refine Tk_seq ?_
          refine Tk_region ?_
          refine Tops_step rfl (OpT_assign rfl rfl rfl rfl) ?_
          refine Tops_nil ?_
          refine Tk_wkS (fr' := [(4, some (vB false))]) (own' := []) (shr' := []) [4] [] [] rfl rfl rfl rfl ?_
          obtain rfl := Option.some.inj h
          exact Tk_retV rfl rfl (resA (vs := [vB false]) rfl ⟨rfl, trivial⟩) [] [] rfl rfl rfl ⟨rfl, rfl, rfl⟩
        · replace h := br_f hg3 h
          refine Tk_condF (congrArg (fun b => some (Value.bool b)) hg3) ?_
          refine Tk_skip ?_
          refine Tk_blk ?_
          refine Tk_region ?_
          refine Tops_step rfl (OpT_bin rfl rfl rfl rfl rfl (bin_add_i (a := x1) (b := (1 : Int)))) ?_
          refine Tops_step rfl (OpT_move rfl rfl rfl rfl) ?_
          refine Tops_nil ?_
          refine Tk_wkS (fr' := [(0, some (vs11)), (1, some (vs21)), (12, some (vI (len s1))), (13, some (vI (wi (x1 + (1 : Int)))))]) (own' := []) (shr' := [Fact.sl u8S vs11 s1, Fact.sl u8S vs21 s2]) [0, 1, 12, 13] [] [0, 1] rfl rfl rfl rfl ?_
          exact Tk_backS (wi (x1 + (1 : Int))) h [0, 1, 12, 13] [] [0, 1] rfl rfl rfl rfl rfl
    · replace h := br_f hg2 h
      refine Tk_condF (congrArg (fun b => some (Value.bool b)) hg2) ?_
      refine Tk_exit _ rfl ?_
      refine Tk_seq ?_
      refine Tk_region ?_
      refine Tops_step rfl (OpT_assign rfl rfl rfl rfl) ?_
      refine Tops_nil ?_
      refine Tk_wkS (fr' := [(4, some (vB true))]) (own' := []) (shr' := []) [4] [] [] rfl rfl rfl rfl ?_
      obtain rfl := Option.some.inj h
      exact Tk_retV rfl rfl (resA (vs := [vB true]) rfl ⟨rfl, trivial⟩) [] [] rfl rfl rfl ⟨rfl, rfl, rfl⟩

set_option maxRecDepth 100000 in
set_option maxHeartbeats 4000000 in
theorem w_frame_Same {ap0 : Frame} {b : Frame} {vap01 : Value} {vb1 : Value} {r : Bool} (h : frame_Same ap0 b = some r) :
    Ctr Try.prog 21 #[.agg #[vU8 ap0.Dst.a0, vU8 ap0.Dst.a1, vU8 ap0.Dst.a2, vU8 ap0.Dst.a3, vU8 ap0.Dst.a4, vU8 ap0.Dst.a5, vU8 ap0.Src.a0, vU8 ap0.Src.a1, vU8 ap0.Src.a2, vU8 ap0.Src.a3, vU8 ap0.Src.a4, vU8 ap0.Src.a5, vI ap0.Vlan, vU16 ap0.Type_, vap01], .agg #[vU8 b.Dst.a0, vU8 b.Dst.a1, vU8 b.Dst.a2, vU8 b.Dst.a3, vU8 b.Dst.a4, vU8 b.Dst.a5, vU8 b.Src.a0, vU8 b.Src.a1, vU8 b.Src.a2, vU8 b.Src.a3, vU8 b.Src.a4, vU8 b.Src.a5, vI b.Vlan, vU16 b.Type_, vb1]] [] [Fact.sl u8S vap01 ap0.Data, Fact.sl u8S vb1 b.Data]
      (fun rv own shr => rv = vB r ∧ own = [] ∧ shr = []) := by
  unfold frame_Same at h
  refine Ctr.mk (args := [.agg #[vU8 ap0.Dst.a0, vU8 ap0.Dst.a1, vU8 ap0.Dst.a2, vU8 ap0.Dst.a3, vU8 ap0.Dst.a4, vU8 ap0.Dst.a5, vU8 ap0.Src.a0, vU8 ap0.Src.a1, vU8 ap0.Src.a2, vU8 ap0.Src.a3, vU8 ap0.Src.a4, vU8 ap0.Src.a5, vI ap0.Vlan, vU16 ap0.Type_, vap01], .agg #[vU8 b.Dst.a0, vU8 b.Dst.a1, vU8 b.Dst.a2, vU8 b.Dst.a3, vU8 b.Dst.a4, vU8 b.Dst.a5, vU8 b.Src.a0, vU8 b.Src.a1, vU8 b.Src.a2, vU8 b.Src.a3, vU8 b.Src.a4, vU8 b.Src.a5, vI b.Vlan, vU16 b.Type_, vb1]]) Try.func21 rfl rfl (fun R0 w0 B => ?_)
  refine Tk_seq ?_
  refine Tk_region ?_
  refine Tops_ex rfl (OpT_box rfl rfl rfl rfl) fun b1 => ?_
  refine Tops_ex rfl (OpT_box rfl rfl rfl rfl) fun b2 => ?_
  refine Tops_step rfl (OpT_assign rfl rfl rfl rfl) ?_
  refine Tops_nil ?_
  refine Tk_wkS (fr' := [(2, some (.pointer (some ⟨b1, 0, none⟩))), (3, some (.pointer (some ⟨b2, 0, none⟩)))]) (own' := [some (cellsR b1 38 [vU8 ap0.Dst.a0, vU8 ap0.Dst.a1, vU8 ap0.Dst.a2, vU8 ap0.Dst.a3, vU8 ap0.Dst.a4, vU8 ap0.Dst.a5, vU8 ap0.Src.a0, vU8 ap0.Src.a1, vU8 ap0.Src.a2, vU8 ap0.Src.a3, vU8 ap0.Src.a4, vU8 ap0.Src.a5, vI ap0.Vlan, vU16 ap0.Type_, vap01]), some (cellsR b2 38 [vU8 b.Dst.a0, vU8 b.Dst.a1, vU8 b.Dst.a2, vU8 b.Dst.a3, vU8 b.Dst.a4, vU8 b.Dst.a5, vU8 b.Src.a0, vU8 b.Src.a1, vU8 b.Src.a2, vU8 b.Src.a3, vU8 b.Src.a4, vU8 b.Src.a5, vI b.Vlan, vU16 b.Type_, vb1])]) (shr' := [Fact.sl u8S vap01 ap0.Data, Fact.sl u8S vb1 b.Data]) [2, 3] [0, 1] [0, 1] rfl rfl rfl rfl ?_
  refine Tk_seq ?_
  refine Tk_region ?_
  refine Tops_step rfl (OpT_fieldC rfl rfl rfl rfl fldF38x0) ?_
  refine Tops_step rfl (OpT_loadCA (vs := [vU8 ap0.Dst.a0, vU8 ap0.Dst.a1, vU8 ap0.Dst.a2, vU8 ap0.Dst.a3, vU8 ap0.Dst.a4, vU8 ap0.Dst.a5]) rfl rfl rfl rfl tyF36 (i := 0) rfl rfl rfl) ?_
  refine Tops_step rfl (OpT_fieldC rfl rfl rfl rfl fldF38x0) ?_
  refine Tops_step rfl (OpT_loadCA (vs := [vU8 b.Dst.a0, vU8 b.Dst.a1, vU8 b.Dst.a2, vU8 b.Dst.a3, vU8 b.Dst.a4, vU8 b.Dst.a5]) rfl rfl rfl rfl tyF36 (i := 1) rfl rfl rfl) ?_
  refine Tops_step rfl (OpT_bin rfl rfl rfl rfl rfl (eqT36_eql ap0.Dst b.Dst)) ?_
  refine Tops_step rfl (OpT_move rfl rfl rfl rfl) ?_
  rcases Bool.eq_false_or_eq_true (ap0.Dst == b.Dst) with hg1 | hg1
  · replace h := br_t hg1 h
    refine Tops_yes rfl rfl (congrArg (fun b => some (Value.bool b)) hg1) (OpT_fieldC rfl rfl rfl rfl fldF38x1) ?_
    rintro _ rfl
    refine Tops_yes rfl rfl (congrArg (fun b => some (Value.bool b)) hg1) (OpT_loadCA (vs := [vU8 ap0.Src.a0, vU8 ap0.Src.a1, vU8 ap0.Src.a2, vU8 ap0.Src.a3, vU8 ap0.Src.a4, vU8 ap0.Src.a5]) rfl rfl rfl rfl tyF36 (i := 0) rfl rfl rfl) ?_
    rintro _ rfl
    refine Tops_yes rfl rfl (congrArg (fun b => some (Value.bool b)) hg1) (OpT_fieldC rfl rfl rfl rfl fldF38x1) ?_
    rintro _ rfl
    refine Tops_yes rfl rfl (congrArg (fun b => some (Value.bool b)) hg1) (OpT_loadCA (vs := [vU8 b.Src.a0, vU8 b.Src.a1, vU8 b.Src.a2, vU8 b.Src.a3, vU8 b.Src.a4, vU8 b.Src.a5]) rfl rfl rfl rfl tyF36 (i := 1) rfl rfl rfl) ?_
    rintro _ rfl
    refine Tops_yes rfl rfl (congrArg (fun b => some (Value.bool b)) hg1) (OpT_bin rfl rfl rfl rfl rfl (eqT36_eql ap0.Src b.Src)) ?_
    rintro _ rfl
    refine Tops_step rfl (OpT_pickT rfl rfl rfl (congrArg (fun b => some (Value.bool b)) hg1) rfl) ?_
    refine Tops_step rfl (OpT_move rfl rfl rfl rfl) ?_
    rcases Bool.eq_false_or_eq_true (ap0.Src == b.Src) with hg2 | hg2
    · replace h := br_t hg2 h
      refine Tops_yes rfl rfl (congrArg (fun b => some (Value.bool b)) hg2) (OpT_fieldC rfl rfl rfl rfl fldF38x2) ?_
      rintro _ rfl
      refine Tops_yes rfl rfl (congrArg (fun b => some (Value.bool b)) hg2) (OpT_loadC rfl rfl rfl rfl tyF3 (i := 0) rfl rfl) ?_
      rintro _ rfl
      refine Tops_yes rfl rfl (congrArg (fun b => some (Value.bool b)) hg2) (OpT_fieldC rfl rfl rfl rfl fldF38x2) ?_
      rintro _ rfl
      refine Tops_yes rfl rfl (congrArg (fun b => some (Value.bool b)) hg2) (OpT_loadC rfl rfl rfl rfl tyF3 (i := 1) rfl rfl) ?_
      rintro _ rfl
      refine Tops_yes rfl rfl (congrArg (fun b => some (Value.bool b)) hg2) (OpT_bin rfl rfl rfl rfl rfl (bin_eql_i (a := ap0.Vlan) (b := b.Vlan))) ?_
      rintro _ rfl
      refine Tops_step rfl (OpT_pickT rfl rfl rfl (congrArg (fun b => some (Value.bool b)) hg2) rfl) ?_
      refine Tops_step rfl (OpT_move rfl rfl rfl rfl) ?_
      rcases Bool.eq_false_or_eq_true (ap0.Vlan == b.Vlan) with hg3 | hg3
      · replace h := br_t hg3 h
        refine Tops_yes rfl rfl (congrArg (fun b => some (Value.bool b)) hg3) (OpT_fieldC rfl rfl rfl rfl fldF38x3) ?_
        rintro _ rfl
        refine Tops_yes rfl rfl (congrArg (fun b => some (Value.bool b)) hg3) (OpT_loadC rfl rfl rfl rfl tyF24 (i := 0) rfl rfl) ?_
        rintro _ rfl
        refine Tops_yes rfl rfl (congrArg (fun b => some (Value.bool b)) hg3) (OpT_fieldC rfl rfl rfl rfl fldF38x3) ?_
        rintro _ rfl
        refine Tops_yes rfl rfl (congrArg (fun b => some (Value.bool b)) hg3) (OpT_loadC rfl rfl rfl rfl tyF24 (i := 1) rfl rfl) ?_
        rintro _ rfl
        refine Tops_yes rfl rfl (congrArg (fun b => some (Value.bool b)) hg3) (OpT_bin rfl rfl rfl rfl rfl (bin_eql_u16 (a := ap0.Type_) (b := b.Type_))) ?_
        rintro _ rfl
        refine Tops_step rfl (OpT_pickT rfl rfl rfl (congrArg (fun b => some (Value.bool b)) hg3) rfl) ?_
        refine Tops_step rfl (OpT_move rfl rfl rfl rfl) ?_
        rcases Bool.eq_false_or_eq_true (ap0.Type_ == b.Type_) with hg4 | hg4
        · replace h := br_t hg4 h
          refine Tops_yes rfl rfl (congrArg (fun b => some (Value.bool b)) hg4) (OpT_fieldC rfl rfl rfl rfl fldF38x4) ?_
          rintro _ rfl
          refine Tops_yes rfl rfl (congrArg (fun b => some (Value.bool b)) hg4) (OpT_loadC rfl rfl rfl rfl tyF22 (i := 0) rfl rfl) ?_
          rintro _ rfl
          refine Tops_yes rfl rfl (congrArg (fun b => some (Value.bool b)) hg4) (OpT_fieldC rfl rfl rfl rfl fldF38x4) ?_
          rintro _ rfl
          refine Tops_yes rfl rfl (congrArg (fun b => some (Value.bool b)) hg4) (OpT_loadC rfl rfl rfl rfl tyF22 (i := 1) rfl rfl) ?_
          rintro _ rfl
          obtain ⟨equalb1, hx1, h⟩ := ob_e h
          refine Tops_yes rfl rfl (congrArg (fun b => some (Value.bool b)) hg4) (OpT_call (w_slices_Equal_bytebyte hx1) [] [0, 1] rfl rfl rfl rfl rfl callee43 rfl rfl rfl rfl) ?_
          rintro _ ⟨_, _, _, ⟨rfl, rfl, rfl⟩, rfl⟩
          refine Tops_step rfl (OpT_pickT rfl rfl rfl (congrArg (fun b => some (Value.bool b)) hg4) rfl) ?_
          refine Tops_step rfl (OpT_assign rfl rfl rfl rfl) ?_
          refine Tops_nil ?_
          refine Tk_wkS (fr' := [(4, some (vB equalb1))]) (own' := []) (shr' := []) [4] [] [] rfl rfl rfl rfl ?_
          obtain rfl := Option.some.inj h
          exact Tk_retV rfl rfl (resA (vs := [vB equalb1]) rfl ⟨rfl, trivial⟩) [] [] rfl rfl rfl ⟨rfl, rfl, rfl⟩
        · replace h := br_f hg4 h
          refine Tops_no rfl rfl (congrArg (fun b => some (Value.bool b)) hg4) rfl rfl ?_
          refine Tops_no rfl rfl (congrArg (fun b => some (Value.bool b)) hg4) rfl rfl ?_
          refine Tops_no rfl rfl (congrArg (fun b => some (Value.bool b)) hg4) rfl rfl ?_
          refine Tops_no rfl rfl (congrArg (fun b => some (Value.bool b)) hg4) rfl rfl ?_
          refine Tops_no rfl rfl (congrArg (fun b => some (Value.bool b)) hg4) rfl rfl ?_
          refine Tops_step rfl (OpT_pickF rfl rfl rfl (congrArg (fun b => some (Value.bool b)) hg4) rfl) ?_
          refine Tops_step rfl (OpT_assign rfl rfl rfl rfl) ?_
          refine Tops_nil ?_
          refine Tk_wkS (fr' := [(4, some (vB false))]) (own' := []) (shr' := []) [4] [] [] rfl rfl rfl rfl ?_
          obtain rfl := Option.some.inj h
          exact Tk_retV rfl rfl (resA (vs := [vB false]) rfl ⟨rfl, trivial⟩) [] [] rfl rfl rfl ⟨rfl, rfl, rfl⟩
      · replace h := br_f hg3 h
        refine Tops_no rfl rfl (congrArg (fun b => some (Value.bool b)) hg3) rfl rfl ?_
        refine Tops_no rfl rfl (congrArg (fun b => some (Value.bool b)) hg3) rfl rfl ?_
        refine Tops_no rfl rfl (congrArg (fun b => some (Value.bool b)) hg3) rfl rfl ?_
        refine Tops_no rfl rfl (congrArg (fun b => some (Value.bool b)) hg3) rfl rfl ?_
        refine Tops_no rfl rfl (congrArg (fun b => some (Value.bool b)) hg3) rfl rfl ?_
        refine Tops_step rfl (OpT_pickF rfl rfl rfl (congrArg (fun b => some (Value.bool b)) hg3) rfl) ?_
        refine Tops_step rfl (OpT_move rfl rfl rfl rfl) ?_
        refine Tops_no rfl rfl rfl rfl rfl ?_
        refine Tops_no rfl rfl rfl rfl rfl ?_
        refine Tops_no rfl rfl rfl rfl rfl ?_
        refine Tops_no rfl rfl rfl rfl rfl ?_
        refine Tops_no rfl rfl rfl rfl rfl ?_
        refine Tops_step rfl (OpT_pickF rfl rfl rfl rfl rfl) ?_
        refine Tops_step rfl (OpT_assign rfl rfl rfl rfl) ?_
        refine Tops_nil ?_
        refine Tk_wkS (fr' := [(4, some (vB false))]) (own' := []) (shr' := []) [4] [] [] rfl rfl rfl rfl ?_
        obtain rfl := Option.some.inj h
        exact Tk_retV rfl rfl (resA (vs := [vB false]) rfl ⟨rfl, trivial⟩) [] [] rfl rfl rfl ⟨rfl, rfl, rfl⟩
    · replace h := br_f hg2 h
      refine Tops_no rfl rfl (congrArg (fun b => some (Value.bool b)) hg2) rfl rfl ?_
      refine Tops_no rfl rfl (congrArg (fun b => some (Value.bool b)) hg2) rfl rfl ?_
      refine Tops_no rfl rfl (congrArg (fun b => some (Value.bool b)) hg2) rfl rfl ?_
      refine Tops_no rfl rfl (congrArg (fun b => some (Value.bool b)) hg2) rfl rfl ?_
      refine Tops_no rfl rfl (congrArg (fun b => some (Value.bool b)) hg2) rfl rfl ?_
      refine Tops_step rfl (OpT_pickF rfl rfl rfl (congrArg (fun b => some (Value.bool b)) hg2) rfl) ?_
      refine Tops_step rfl (OpT_move rfl rfl rfl rfl) ?_
      refine Tops_no rfl rfl rfl rfl rfl ?_
      refine Tops_no rfl rfl rfl rfl rfl ?_
      refine Tops_no rfl rfl rfl rfl rfl ?_
      refine Tops_no rfl rfl rfl rfl rfl ?_
      refine Tops_no rfl rfl rfl rfl rfl ?_
      refine Tops_step rfl (OpT_pickF rfl rfl rfl rfl rfl) ?_
      refine Tops_step rfl (OpT_move rfl rfl rfl rfl) ?_
      refine Tops_no rfl rfl rfl rfl rfl ?_
      refine Tops_no rfl rfl rfl rfl rfl ?_
      refine Tops_no rfl rfl rfl rfl rfl ?_
      refine Tops_no rfl rfl rfl rfl rfl ?_
      refine Tops_no rfl rfl rfl rfl rfl ?_
      refine Tops_step rfl (OpT_pickF rfl rfl rfl rfl rfl) ?_
      refine Tops_step rfl (OpT_assign rfl rfl rfl rfl) ?_
      refine Tops_nil ?_
      refine Tk_wkS (fr' := [(4, some (vB false))]) (own' := []) (shr' := []) [4] [] [] rfl rfl rfl rfl ?_
      obtain rfl := Option.some.inj h
      exact Tk_retV rfl rfl (resA (vs := [vB false]) rfl ⟨rfl, trivial⟩) [] [] rfl rfl rfl ⟨rfl, rfl, rfl⟩
  · replace h := br_f hg1 h
    refine Tops_no rfl rfl (congrArg (fun b => some (Value.bool b)) hg1) rfl rfl ?_
    refine Tops_no rfl rfl (congrArg (fun b => some (Value.bool b)) hg1) rfl rfl ?_
    refine Tops_no rfl rfl (congrArg (fun b => some (Value.bool b)) hg1) rfl rfl ?_
    refine Tops_no rfl rfl (congrArg (fun b => some (Value.bool b)) hg1) rfl rfl ?_
    refine Tops_no rfl rfl (congrArg (fun b => some (Value.bool b)) hg1) rfl rfl ?_
    refine Tops_step rfl (OpT_pickF rfl rfl rfl (congrArg (fun b => some (Value.bool b)) hg1) rfl) ?_
    refine Tops_step rfl (OpT_move rfl rfl rfl rfl) ?_
    refine Tops_no rfl rfl rfl rfl rfl ?_
    refine Tops_no rfl rfl rfl rfl rfl ?_
    refine Tops_no rfl rfl rfl rfl rfl ?_
    refine Tops_no rfl rfl rfl rfl rfl ?_
    refine Tops_no rfl rfl rfl rfl rfl ?_
    refine Tops_step rfl (OpT_pickF rfl rfl rfl rfl rfl) ?_
    refine Tops_step rfl (OpT_move rfl rfl rfl rfl) ?_
    refine Tops_no rfl rfl rfl rfl rfl ?_
    refine Tops_no rfl rfl rfl rfl rfl ?_
    refine Tops_no rfl rfl rfl rfl rfl ?_
    refine Tops_no rfl rfl rfl rfl rfl ?_
    refine Tops_no rfl rfl rfl rfl rfl ?_
    refine Tops_step rfl (OpT_pickF rfl rfl rfl rfl rfl) ?_
    refine Tops_step rfl (OpT_move rfl rfl rfl rfl) ?_
    refine Tops_no rfl rfl rfl rfl rfl ?_
    refine Tops_no rfl rfl rfl rfl rfl ?_
    refine Tops_no rfl rfl rfl rfl rfl ?_
    refine Tops_no rfl rfl rfl rfl rfl ?_
    refine Tops_no rfl rfl rfl rfl rfl ?_
    refine Tops_step rfl (OpT_pickF rfl rfl rfl rfl rfl) ?_
    refine Tops_step rfl (OpT_assign rfl rfl rfl rfl) ?_
    refine Tops_nil ?_
    refine Tk_wkS (fr' := [(4, some (vB false))]) (own' := []) (shr' := []) [4] [] [] rfl rfl rfl rfl ?_
    obtain rfl := Option.some.inj h
    exact Tk_retV rfl rfl (resA (vs := [vB false]) rfl ⟨rfl, trivial⟩) [] [] rfl rfl rfl ⟨rfl, rfl, rfl⟩

theorem ws_slices_Clone_bytebyte {sp0 : List UInt8} {vsp01 : Value} {r : (List UInt8)} (h : slices_Clone_bytebyte sp0 = some r) :
    Ctr Try.prog 41 #[vsp01] [] [Fact.sl u8S vsp01 sp0]
      (fun rv own shr => ∃ (w1 : Value), rv = w1 ∧ own = [] ∧ shr = [Fact.sl u8S w1 r]) :=
  Ctr.sh (w_slices_Clone_bytebyte h) (by rintro w1 _ _ ⟨_, rfl, rfl, rfl⟩; exact ⟨[], _, _, _, _, rfl, w1, rfl, rfl, rfl⟩)

set_option maxRecDepth 100000 in
set_option maxHeartbeats 4000000 in
theorem w_frame_Read {b : List UInt8} {vb1 : Value} {r : (Frame × Int)} (h : frame_Read b = some r) :
    Ctr Try.prog 22 #[vb1] [] [Fact.sl u8S vb1 b]
      (fun rv own shr => ∃ (w1 : Value), rv = .tuple #[.agg #[vU8 r.1.Dst.a0, vU8 r.1.Dst.a1, vU8 r.1.Dst.a2, vU8 r.1.Dst.a3, vU8 r.1.Dst.a4, vU8 r.1.Dst.a5, vU8 r.1.Src.a0, vU8 r.1.Src.a1, vU8 r.1.Src.a2, vU8 r.1.Src.a3, vU8 r.1.Src.a4, vU8 r.1.Src.a5, vI r.1.Vlan, vU16 r.1.Type_, w1], vI r.2] ∧ own = [] ∧ shr = [Fact.sl u8S w1 r.1.Data]) := by
  unfold frame_Read at h
  refine Ctr.mk (args := [vb1]) Try.func22 rfl rfl (fun R0 w0 B => ?_)
  refine Tk_seq ?_
  refine Tk_region ?_
  refine Tops_ex rfl (OpT_alloc rfl rfl rfl tyZ38) fun b1 => ?_
  refine Tops_step rfl (OpT_assign rfl rfl rfl rfl) ?_
  refine Tops_nil ?_
  refine Tk_wkS (fr' := [(0, some (vb1)), (2, some (.pointer (some ⟨b1, 0, none⟩)))]) (own' := [some (cellsR b1 38 [vU8 (0 : UInt8), vU8 (0 : UInt8), vU8 (0 : UInt8), vU8 (0 : UInt8), vU8 (0 : UInt8), vU8 (0 : UInt8), vU8 (0 : UInt8), vU8 (0 : UInt8), vU8 (0 : UInt8), vU8 (0 : UInt8), vU8 (0 : UInt8), vU8 (0 : UInt8), vI (0 : Int), vU16 (0 : UInt16), .slice none 0 0])]) (shr' := [Fact.sl u8S vb1 b]) [0, 2] [0] [0] rfl rfl rfl rfl ?_
  refine Tk_seq ?_
  refine Tk_seq ?_
  refine Tk_region ?_
  refine Tops_step rfl (OpT_move rfl rfl rfl rfl) ?_
  refine Tops_step rfl (OpT_lenS rfl rfl rfl rfl Try.underlying22 (i := 0) rfl) ?_
  refine Tops_step rfl (OpT_bin rfl rfl rfl rfl rfl (bin_lss_i (a := len b) (b := (14 : Int)))) ?_
  refine Tops_nil ?_
  refine Tk_wkS (fr' := [(0, some (vb1)), (2, some (.pointer (some ⟨b1, 0, none⟩))), (8, some (vB (decide ((len b) < (14 : Int)))))]) (own' := [some (cellsR b1 38 [vU8 (0 : UInt8), vU8 (0 : UInt8), vU8 (0 : UInt8), vU8 (0 : UInt8), vU8 (0 : UInt8), vU8 (0 : UInt8), vU8 (0 : UInt8), vU8 (0 : UInt8), vU8 (0 : UInt8), vU8 (0 : UInt8), vU8 (0 : UInt8), vU8 (0 : UInt8), vI (0 : Int), vU16 (0 : UInt16), .slice none 0 0])]) (shr' := [Fact.sl u8S vb1 b]) [0, 2, 8] [0] [0] rfl rfl rfl rfl ?_
  rcases Bool.eq_false_or_eq_true (decide ((len b) < (14 : Int))) with hg1 | hg1
  · replace h := br_t hg1 h
    refine Tk_condT (congrArg (fun b => some (Value.bool b)) hg1) ?_
    refine Tk_seq ?_
    refine Tk_region ?_
    refine Tops_step rfl (OpT_build (v := .agg #[vU8 (0 : UInt8), vU8 (0 : UInt8), vU8 (0 : UInt8), vU8 (0 : UInt8), vU8 (0 : UInt8), vU8 (0 : UInt8), vU8 (0 : UInt8), vU8 (0 : UInt8), vU8 (0 : UInt8), vU8 (0 : UInt8), vU8 (0 : UInt8), vU8 (0 : UInt8), vI (0 : Int), vU16 (0 : UInt16), .slice none 0 0]) rfl rfl rfl rfl (bldV (by kernel_rfl))) ?_
    refine Tops_step rfl (OpT_storeC (cs' := [vU8 (0 : UInt8), vU8 (0 : UInt8), vU8 (0 : UInt8), vU8 (0 : UInt8), vU8 (0 : UInt8), vU8 (0 : UInt8), vU8 (0 : UInt8), vU8 (0 : UInt8), vU8 (0 : UInt8), vU8 (0 : UInt8), vU8 (0 : UInt8), vU8 (0 : UInt8), vI (0 : Int), vU16 (0 : UInt16), .slice none 0 0]) rfl rfl rfl rfl tyF38 (i := 0) rfl rfl rfl (one_of rfl) rfl) ?_
    refine Tops_step rfl (OpT_assign rfl rfl rfl rfl) ?_
    refine Tops_nil ?_
    refine Tk_wkS (fr' := [(2, some (.pointer (some ⟨b1, 0, none⟩))), (3, some (vI (4 : Int)))]) (own' := [some (cellsR b1 38 [vU8 (0 : UInt8), vU8 (0 : UInt8), vU8 (0 : UInt8), vU8 (0 : UInt8), vU8 (0 : UInt8), vU8 (0 : UInt8), vU8 (0 : UInt8), vU8 (0 : UInt8), vU8 (0 : UInt8), vU8 (0 : UInt8), vU8 (0 : UInt8), vU8 (0 : UInt8), vI (0 : Int), vU16 (0 : UInt16), .slice none 0 0])]) (shr' := []) [2, 3] [0] [] rfl rfl rfl rfl ?_
    refine Tk_nilfact u8S ?_
    obtain rfl := Option.some.inj h
    exact Tk_retV rfl rfl (resA (vs := [.agg #[vU8 (0 : UInt8), vU8 (0 : UInt8), vU8 (0 : UInt8), vU8 (0 : UInt8), vU8 (0 : UInt8), vU8 (0 : UInt8), vU8 (0 : UInt8), vU8 (0 : UInt8), vU8 (0 : UInt8), vU8 (0 : UInt8), vU8 (0 : UInt8), vU8 (0 : UInt8), vI (0 : Int), vU16 (0 : UInt16), .slice none 0 0], vI (4 : Int)]) rfl ⟨⟨_, 0, _, _, _, rfl, rfl, .inl ⟨tyF38, rfl, rfl⟩⟩, rfl, trivial⟩) [] [0] rfl rfl rfl ⟨(.slice none 0 0), rfl, rfl, rfl⟩
  · replace h := br_f hg1 h
    refine Tk_condF (congrArg (fun b => some (Value.bool b)) hg1) ?_
    refine Tk_skip ?_
    refine Tk_seq ?_
    refine Tk_drawT (by kernel_rfl) ?_
    refine TA_tb [0, 1, 3, 7, 0, 16, 48, 112, 255, 0, 1023] (by kernel_rfl) fun htb => ?_
    refine TA_wkS (fr' := [(0, some (vb1)), (2, some (.pointer (some ⟨b1, 0, none⟩)))]) (own' := [some (cellsR b1 38 [vU8 (0 : UInt8), vU8 (0 : UInt8), vU8 (0 : UInt8), vU8 (0 : UInt8), vU8 (0 : UInt8), vU8 (0 : UInt8), vU8 (0 : UInt8), vU8 (0 : UInt8), vU8 (0 : UInt8), vU8 (0 : UInt8), vU8 (0 : UInt8), vU8 (0 : UInt8), vI (0 : Int), vU16 (0 : UInt16), .slice none 0 0])]) (shr' := [Fact.sl u8S vb1 b]) [0, 2] [0] [0] rfl rfl rfl rfl ?_
    obtain ⟨hc1, h⟩ := chk_e h
    obtain ⟨hc2, h⟩ := chk_e h
    obtain ⟨a1, ha1, h⟩ := ob_e h
    obtain ⟨hc3, h⟩ := chk_e h
    obtain ⟨hc4, h⟩ := chk_e h
    obtain ⟨a2, ha2, h⟩ := ob_e h
    refine TA_seg (lo := 0) (hi := 10) htb rfl rfl (by kernel_rfl) (fun c L a w => ∃ (v1 : Value), ∃ (p1 : Value), ∃ (v2 : Value), ∃ (p2 : Value), ∃ (b2 : Nat), Sat c ⟨[(0, some (vb1)), (2, some (.pointer (some ⟨b1, 0, none⟩))), (10, bif L 0 then some (vb1) else none), (11, bif L 1 then some (v1) else none), (12, bif L 2 then some (p1) else none), (13, bif L 3 then some (.agg #[vU8 a1.a0, vU8 a1.a1, vU8 a1.a2, vU8 a1.a3, vU8 a1.a4, vU8 a1.a5]) else none), (14, bif L 4 then some (vb1) else none), (15, bif L 5 then some (v2) else none), (16, bif L 6 then some (p2) else none), (17, bif L 7 then some (.agg #[vU8 a2.a0, vU8 a2.a1, vU8 a2.a2, vU8 a2.a3, vU8 a2.a4, vU8 a2.a5]) else none), (18, bif L 8 then some (.agg #[vU8 a1.a0, vU8 a1.a1, vU8 a1.a2, vU8 a1.a3, vU8 a1.a4, vU8 a1.a5, vU8 a2.a0, vU8 a2.a1, vU8 a2.a2, vU8 a2.a3, vU8 a2.a4, vU8 a2.a5, vI ((-1) : Int), vU16 (0 : UInt16), .slice none 0 0]) else none), (4, bif L 9 then some (.pointer (some ⟨b2, 0, none⟩)) else none)], [(some (cellsR b1 38 [vU8 (0 : UInt8), vU8 (0 : UInt8), vU8 (0 : UInt8), vU8 (0 : UInt8), vU8 (0 : UInt8), vU8 (0 : UInt8), vU8 (0 : UInt8), vU8 (0 : UInt8), vU8 (0 : UInt8), vU8 (0 : UInt8), vU8 (0 : UInt8), vU8 (0 : UInt8), vI (0 : Int), vU16 (0 : UInt16), .slice none 0 0]) : Option Res), (bif L 9 then some (cellsR b2 38 [vU8 (0 : UInt8), vU8 (0 : UInt8), vU8 (0 : UInt8), vU8 (0 : UInt8), vU8 (0 : UInt8), vU8 (0 : UInt8), vU8 (0 : UInt8), vU8 (0 : UInt8), vU8 (0 : UInt8), vU8 (0 : UInt8), vU8 (0 : UInt8), vU8 (0 : UInt8), vI (0 : Int), vU16 (0 : UInt16), .slice none 0 0]) else none : Option Res)], [Fact.sl u8S vb1 b, (bif L 1 then Fact.sl u8S v1 (sub b (0 : Int) (6 : Int)) else Fact.tt), (bif L 2 then Fact.arr u8S p1 6 ((sub b (0 : Int) (6 : Int)).take 6) else Fact.tt), (bif L 5 then Fact.sl u8S v2 (sub b (6 : Int) (12 : Int)) else Fact.tt), (bif L 6 then Fact.arr u8S p2 6 ((sub b (6 : Int) (12 : Int)).take 6) else Fact.tt)]⟩ a w) [([], [1, 2, 3, 8]), ([0], [2, 3, 8]), ([0, 1], [3, 8]), ([0, 1, 2], [8]), ([], [5, 6, 7, 8]), ([4], [6, 7, 8]), ([4, 5], [7, 8]), ([4, 5, 6], [8]), ([0, 1, 2, 3, 4, 5, 6, 7], []), ([], [])] rfl (by kernel_rfl) ?_ (steps_cons ?_ (steps_cons ?_ (steps_cons ?_ (steps_cons ?_ (steps_cons ?_ (steps_cons ?_ (steps_cons ?_ (steps_cons ?_ (steps_cons ?_ (steps_cons ?_ (steps_nil))))))))))) ?_
    · intro a w hs
      exact ⟨undef, undef, undef, undef, 0, hs.startF [10, 11, 12, 13, 14, 15, 16, 17, 18, 4] [0, 1] [0, 1, 2, 3, 4] rfl rfl rfl rfl⟩
    · intro L a w hv K Q hK
      obtain ⟨v1, p1, v2, p2, b2, hs⟩ := hv
      refine wpOp_go rfl rfl hs (OpT_move rfl rfl rfl rfl) ?_
      rintro _ rfl a' w' hs'
      exact hK a' w' ⟨v1, p1, v2, p2, b2, hs'.putF (i := 2) rfl [0, 1] [0, 1, 2, 3, 4] rfl rfl rfl rfl⟩
    · intro L a w hv K Q hK
      obtain ⟨v1, p1, v2, p2, b2, hs⟩ := hv
      refine wpOp_go rfl rfl hs (OpT_sliceH (m := (6 : Int)) rfl rfl rfl rfl rfl slF22 (i := 0) rfl hc1) ?_
      rintro _ ⟨v1', rfl⟩ a' w' hs'
      exact hK a' w' ⟨v1', p1, v2, p2, b2, hs'.putF (i := 3) rfl [0, 1] [0, 5, 2, 3, 4] rfl rfl rfl rfl⟩
    · intro L a w hv K Q hK
      obtain ⟨v1, p1, v2, p2, b2, hs⟩ := hv
      refine wpOp_go rfl rfl hs (OpT_toArr rfl rfl rfl rfl arrF36 (i := 1) rfl hc2 rfl) ?_
      rintro _ ⟨p1', rfl⟩ a' w' hs'
      exact hK a' w' ⟨v1, p1', v2, p2, b2, hs'.putF (i := 4) rfl [0, 1] [0, 1, 5, 3, 4] rfl rfl rfl rfl⟩
    · intro L a w hv K Q hK
      obtain ⟨v1, p1, v2, p2, b2, hs⟩ := hv
      refine wpOp_go rfl rfl hs (OpT_loadArrE u8S rfl (f := vU8) (fun _ => rfl) rfl rfl rfl rfl tyF36 (i := 2) rfl rfl (A6.ofL_eq ha1) rfl) ?_
      rintro _ rfl a' w' hs'
      exact hK a' w' ⟨v1, p1, v2, p2, b2, hs'.putF (i := 5) rfl [0, 1] [0, 1, 2, 3, 4] rfl rfl rfl rfl⟩
    · intro L a w hv K Q hK
      obtain ⟨v1, p1, v2, p2, b2, hs⟩ := hv
      refine wpOp_go rfl rfl hs (OpT_move rfl rfl rfl rfl) ?_
      rintro _ rfl a' w' hs'
      exact hK a' w' ⟨v1, p1, v2, p2, b2, hs'.putF (i := 6) rfl [0, 1] [0, 1, 2, 3, 4] rfl rfl rfl rfl⟩
    · intro L a w hv K Q hK
      obtain ⟨v1, p1, v2, p2, b2, hs⟩ := hv
      refine wpOp_go rfl rfl hs (OpT_sliceLH (l := (6 : Int)) (m := (12 : Int)) rfl rfl rfl rfl rfl rfl slF22 (i := 0) rfl hc3) ?_
      rintro _ ⟨v2', rfl⟩ a' w' hs'
      exact hK a' w' ⟨v1, p1, v2', p2, b2, hs'.putF (i := 7) rfl [0, 1] [0, 1, 2, 5, 4] rfl rfl rfl rfl⟩
    · intro L a w hv K Q hK
      obtain ⟨v1, p1, v2, p2, b2, hs⟩ := hv
      refine wpOp_go rfl rfl hs (OpT_toArr rfl rfl rfl rfl arrF36 (i := 3) rfl hc4 rfl) ?_
      rintro _ ⟨p2', rfl⟩ a' w' hs'
      exact hK a' w' ⟨v1, p1, v2, p2', b2, hs'.putF (i := 8) rfl [0, 1] [0, 1, 2, 3, 5] rfl rfl rfl rfl⟩
    · intro L a w hv K Q hK
      obtain ⟨v1, p1, v2, p2, b2, hs⟩ := hv
      refine wpOp_go rfl rfl hs (OpT_loadArrE u8S rfl (f := vU8) (fun _ => rfl) rfl rfl rfl rfl tyF36 (i := 4) rfl rfl (A6.ofL_eq ha2) rfl) ?_
      rintro _ rfl a' w' hs'
      exact hK a' w' ⟨v1, p1, v2, p2, b2, hs'.putF (i := 9) rfl [0, 1] [0, 1, 2, 3, 4] rfl rfl rfl rfl⟩
    · intro L a w hv K Q hK
      obtain ⟨v1, p1, v2, p2, b2, hs⟩ := hv
      refine wpOp_go rfl rfl hs (OpT_build (v := .agg #[vU8 a1.a0, vU8 a1.a1, vU8 a1.a2, vU8 a1.a3, vU8 a1.a4, vU8 a1.a5, vU8 a2.a0, vU8 a2.a1, vU8 a2.a2, vU8 a2.a3, vU8 a2.a4, vU8 a2.a5, vI ((-1) : Int), vU16 (0 : UInt16), .slice none 0 0]) rfl rfl rfl rfl (bldV (by kernel_rfl))) ?_
      rintro _ rfl a' w' hs'
      exact hK a' w' ⟨v1, p1, v2, p2, b2, hs'.putF (i := 10) rfl [0, 1] [0, 1, 2, 3, 4] rfl rfl rfl rfl⟩
    · intro L a w hv K Q hK
      obtain ⟨v1, p1, v2, p2, b2, hs⟩ := hv
      refine wpOp_go rfl rfl hs (OpT_alloc rfl rfl rfl tyZ38) ?_
      rintro _ ⟨b2', rfl⟩ a' w' hs'
      exact hK a' w' ⟨v1, p1, v2, p2, b2', hs'.putF (i := 11) rfl [0, 2] [0, 1, 2, 3, 4] rfl rfl rfl rfl⟩
    · intro L a w hL hv
      rw [allTrue hL] at hv
      obtain ⟨v1, p1, v2, p2, b2, hs⟩ := hv
      refine (show TA _ _ _ 10 ⟨[(0, some (vb1)), (2, some (.pointer (some ⟨b1, 0, none⟩))), (18, some (.agg #[vU8 a1.a0, vU8 a1.a1, vU8 a1.a2, vU8 a1.a3, vU8 a1.a4, vU8 a1.a5, vU8 a2.a0, vU8 a2.a1, vU8 a2.a2, vU8 a2.a3, vU8 a2.a4, vU8 a2.a5, vI ((-1) : Int), vU16 (0 : UInt16), .slice none 0 0])), (4, some (.pointer (some ⟨b2, 0, none⟩)))], [some (cellsR b1 38 [vU8 (0 : UInt8), vU8 (0 : UInt8), vU8 (0 : UInt8), vU8 (0 : UInt8), vU8 (0 : UInt8), vU8 (0 : UInt8), vU8 (0 : UInt8), vU8 (0 : UInt8), vU8 (0 : UInt8), vU8 (0 : UInt8), vU8 (0 : UInt8), vU8 (0 : UInt8), vI (0 : Int), vU16 (0 : UInt16), .slice none 0 0]), some (cellsR b2 38 [vU8 (0 : UInt8), vU8 (0 : UInt8), vU8 (0 : UInt8), vU8 (0 : UInt8), vU8 (0 : UInt8), vU8 (0 : UInt8), vU8 (0 : UInt8), vU8 (0 : UInt8), vU8 (0 : UInt8), vU8 (0 : UInt8), vU8 (0 : UInt8), vU8 (0 : UInt8), vI (0 : Int), vU16 (0 : UInt16), .slice none 0 0])], [Fact.sl u8S vb1 b]⟩ from ?_) a w (hs.wkS [0, 2, 18, 4] [0, 1] [0] rfl rfl rfl rfl)
      clear hs hL
      refine TA_step htb (by kernel_rfl) rfl rfl (OpT_storeC (cs' := [vU8 a1.a0, vU8 a1.a1, vU8 a1.a2, vU8 a1.a3, vU8 a1.a4, vU8 a1.a5, vU8 a2.a0, vU8 a2.a1, vU8 a2.a2, vU8 a2.a3, vU8 a2.a4, vU8 a2.a5, vI ((-1) : Int), vU16 (0 : UInt16), .slice none 0 0]) rfl rfl rfl rfl tyF38 (i := 1) rfl rfl rfl (one_of rfl) rfl) ?_
      refine TA_end rfl ?_
      refine Tk_wkS (fr' := [(0, some (vb1)), (2, some (.pointer (some ⟨b1, 0, none⟩))), (4, some (.pointer (some ⟨b2, 0, none⟩)))]) (own' := [some (cellsR b1 38 [vU8 (0 : UInt8), vU8 (0 : UInt8), vU8 (0 : UInt8), vU8 (0 : UInt8), vU8 (0 : UInt8), vU8 (0 : UInt8), vU8 (0 : UInt8), vU8 (0 : UInt8), vU8 (0 : UInt8), vU8 (0 : UInt8), vU8 (0 : UInt8), vU8 (0 : UInt8), vI (0 : Int), vU16 (0 : UInt16), .slice none 0 0]), some (cellsR b2 38 [vU8 a1.a0, vU8 a1.a1, vU8 a1.a2, vU8 a1.a3, vU8 a1.a4, vU8 a1.a5, vU8 a2.a0, vU8 a2.a1, vU8 a2.a2, vU8 a2.a3, vU8 a2.a4, vU8 a2.a5, vI ((-1) : Int), vU16 (0 : UInt16), .slice none 0 0])]) (shr' := [Fact.sl u8S vb1 b]) [0, 2, 4] [0, 1] [0] rfl rfl rfl rfl ?_
      refine Tk_seq ?_
      refine Tk_region ?_
      refine Tops_step rfl (OpT_move rfl rfl rfl rfl) ?_
      obtain ⟨hc5, h⟩ := chk_e h
      refine Tops_ex rfl (OpT_sliceL (l := (12 : Int)) rfl rfl rfl rfl rfl slF22 (i := 0) rfl hc5) fun v3 => ?_
      refine Tops_step rfl (OpT_assign rfl rfl rfl rfl) ?_
      refine Tops_nil ?_
      refine Tk_wkS (fr' := [(2, some (.pointer (some ⟨b1, 0, none⟩))), (4, some (.pointer (some ⟨b2, 0, none⟩))), (5, some (v3))]) (own' := [some (cellsR b1 38 [vU8 (0 : UInt8), vU8 (0 : UInt8), vU8 (0 : UInt8), vU8 (0 : UInt8), vU8 (0 : UInt8), vU8 (0 : UInt8), vU8 (0 : UInt8), vU8 (0 : UInt8), vU8 (0 : UInt8), vU8 (0 : UInt8), vU8 (0 : UInt8), vU8 (0 : UInt8), vI (0 : Int), vU16 (0 : UInt16), .slice none 0 0]), some (cellsR b2 38 [vU8 a1.a0, vU8 a1.a1, vU8 a1.a2, vU8 a1.a3, vU8 a1.a4, vU8 a1.a5, vU8 a2.a0, vU8 a2.a1, vU8 a2.a2, vU8 a2.a3, vU8 a2.a4, vU8 a2.a5, vI ((-1) : Int), vU16 (0 : UInt16), .slice none 0 0])]) (shr' := [Fact.sl u8S v3 (sub b (12 : Int) (len b))]) [2, 4, 5] [0, 1] [1] rfl rfl rfl rfl ?_
      refine Tk_seq ?_
      refine Tk_seq ?_
      refine Tk_region ?_
      refine Tops_step rfl (OpT_move rfl rfl rfl rfl) ?_
      obtain ⟨word1, hx1, h⟩ := ob_e h
      refine Tops_exP rfl (OpT_call (w_frame_word hx1) [] [0] rfl rfl rfl rfl rfl callee40 rfl rfl rfl rfl) ?_
      rintro _ ⟨_, _, _, ⟨rfl, rfl, rfl⟩, rfl⟩
      refine Tops_step rfl (OpT_bin rfl rfl rfl rfl rfl (bin_eql_u16 (a := word1) (b := (33024 : UInt16)))) ?_
      refine Tops_nil ?_
      refine Tk_wkS (fr' := [(2, some (.pointer (some ⟨b1, 0, none⟩))), (4, some (.pointer (some ⟨b2, 0, none⟩))), (5, some (v3)), (23, some (vB (word1 == (33024 : UInt16))))]) (own' := [some (cellsR b1 38 [vU8 (0 : UInt8), vU8 (0 : UInt8), vU8 (0 : UInt8), vU8 (0 : UInt8), vU8 (0 : UInt8), vU8 (0 : UInt8), vU8 (0 : UInt8), vU8 (0 : UInt8), vU8 (0 : UInt8), vU8 (0 : UInt8), vU8 (0 : UInt8), vU8 (0 : UInt8), vI (0 : Int), vU16 (0 : UInt16), .slice none 0 0]), some (cellsR b2 38 [vU8 a1.a0, vU8 a1.a1, vU8 a1.a2, vU8 a1.a3, vU8 a1.a4, vU8 a1.a5, vU8 a2.a0, vU8 a2.a1, vU8 a2.a2, vU8 a2.a3, vU8 a2.a4, vU8 a2.a5, vI ((-1) : Int), vU16 (0 : UInt16), .slice none 0 0])]) (shr' := [Fact.sl u8S v3 (sub b (12 : Int) (len b))]) [2, 4, 5, 23] [0, 1] [0] rfl rfl rfl rfl ?_
      refine Tk_join (α := (A6 UInt8) × (A6 UInt8) × Int × UInt16 × (List UInt8) × (A6 UInt8) × (A6 UInt8) × Int × UInt16 × (List UInt8) × (List UInt8) × Value × Value × Value) (fun s => ⟨[(2, some (.pointer (some ⟨b1, 0, none⟩))), (4, some (.pointer (some ⟨b2, 0, none⟩))), (5, some (s.2.2.2.2.2.2.2.2.2.2.2.2.2))], [some (cellsR b1 38 [vU8 s.1.a0, vU8 s.1.a1, vU8 s.1.a2, vU8 s.1.a3, vU8 s.1.a4, vU8 s.1.a5, vU8 s.2.1.a0, vU8 s.2.1.a1, vU8 s.2.1.a2, vU8 s.2.1.a3, vU8 s.2.1.a4, vU8 s.2.1.a5, vI s.2.2.1, vU16 s.2.2.2.1, s.2.2.2.2.2.2.2.2.2.2.2.1]), some (cellsR b2 38 [vU8 s.2.2.2.2.2.1.a0, vU8 s.2.2.2.2.2.1.a1, vU8 s.2.2.2.2.2.1.a2, vU8 s.2.2.2.2.2.1.a3, vU8 s.2.2.2.2.2.1.a4, vU8 s.2.2.2.2.2.1.a5, vU8 s.2.2.2.2.2.2.1.a0, vU8 s.2.2.2.2.2.2.1.a1, vU8 s.2.2.2.2.2.2.1.a2, vU8 s.2.2.2.2.2.2.1.a3, vU8 s.2.2.2.2.2.2.1.a4, vU8 s.2.2.2.2.2.2.1.a5, vI s.2.2.2.2.2.2.2.1, vU16 s.2.2.2.2.2.2.2.2.1, s.2.2.2.2.2.2.2.2.2.2.2.2.1])], [Fact.sl u8S s.2.2.2.2.2.2.2.2.2.2.2.1 s.2.2.2.2.1, Fact.sl u8S s.2.2.2.2.2.2.2.2.2.2.2.2.1 s.2.2.2.2.2.2.2.2.2.1, Fact.sl u8S s.2.2.2.2.2.2.2.2.2.2.2.2.2 s.2.2.2.2.2.2.2.2.2.2.1]⟩) (fun s => frame_ReadJ1 s.1 s.2.1 s.2.2.1 s.2.2.2.1 s.2.2.2.2.1 s.2.2.2.2.2.1 s.2.2.2.2.2.2.1 s.2.2.2.2.2.2.2.1 s.2.2.2.2.2.2.2.2.1 s.2.2.2.2.2.2.2.2.2.1 s.2.2.2.2.2.2.2.2.2.2.1 = some r) ?_ ?_
      · rintro ⟨Dst1, Src1, Vlan1, Type1, Data1, Dst2, Src2, Vlan2, Type2, Data2, rest1, v4, v5, v6⟩ h
        replace h : frame_ReadJ1 Dst1 Src1 Vlan1 Type1 Data1 Dst2 Src2 Vlan2 Type2 Data2 rest1 = some r := h
        unfold frame_ReadJ1 at h
        refine Tk_seq ?_
        refine Tk_drawT (by kernel_rfl) ?_
        refine TA_tb [0, 1, 0, 4, 15, 3, 63, 127, 255] (by kernel_rfl) fun htb => ?_
        obtain ⟨word2, hx2, h⟩ := ob_e h
        obtain ⟨hc6, h⟩ := chk_e h
        obtain ⟨cloneb1, hx3, h⟩ := ob_e h
        refine TA_seg (lo := 0) (hi := 6) htb rfl rfl (by kernel_rfl) (fun c L a w => ∃ (v7 : Value), ∃ (v8 : Value), Sat c ⟨[(2, some (.pointer (some ⟨b1, 0, none⟩))), (4, some (.pointer (some ⟨b2, 0, none⟩))), (5, some (v6)), (35, bif L 0 then some (v6) else none), (36, bif L 1 then some (vU16 word2) else none), (37, bif L 2 then some (v6) else none), (38, bif L 3 then some (v7) else none), (39, bif L 4 then some (v8) else none), (40, bif L 5 then some (.pointer (some ⟨b2, 13, none⟩)) else none)], [(some (cellsR b1 38 [vU8 Dst1.a0, vU8 Dst1.a1, vU8 Dst1.a2, vU8 Dst1.a3, vU8 Dst1.a4, vU8 Dst1.a5, vU8 Src1.a0, vU8 Src1.a1, vU8 Src1.a2, vU8 Src1.a3, vU8 Src1.a4, vU8 Src1.a5, vI Vlan1, vU16 Type1, v4]) : Option Res), (some (cellsR b2 38 [vU8 Dst2.a0, vU8 Dst2.a1, vU8 Dst2.a2, vU8 Dst2.a3, vU8 Dst2.a4, vU8 Dst2.a5, vU8 Src2.a0, vU8 Src2.a1, vU8 Src2.a2, vU8 Src2.a3, vU8 Src2.a4, vU8 Src2.a5, vI Vlan2, vU16 Type2, v5]) : Option Res)], [Fact.sl u8S v4 Data1, Fact.sl u8S v5 Data2, Fact.sl u8S v6 rest1, (bif L 3 then Fact.sl u8S v7 (sub rest1 (2 : Int) (len rest1)) else Fact.tt), (bif L 4 then Fact.sl u8S v8 cloneb1 else Fact.tt)]⟩ a w) [([], [1, 4, 5]), ([0], [4, 5]), ([], [3, 4]), ([2], [4]), ([0, 1, 2, 3], []), ([0, 1], [])] rfl (by kernel_rfl) ?_ (steps_cons ?_ (steps_cons ?_ (steps_cons ?_ (steps_cons ?_ (steps_cons ?_ (steps_cons ?_ (steps_nil))))))) ?_
        · intro a w hs
          exact ⟨undef, undef, hs.startF [35, 36, 37, 38, 39, 40] [0, 1] [0, 1, 2, 3, 4] rfl rfl rfl rfl⟩
        · intro L a w hv K Q hK
          obtain ⟨v7, v8, hs⟩ := hv
          refine wpOp_go rfl rfl hs (OpT_move rfl rfl rfl rfl) ?_
          rintro _ rfl a' w' hs'
          exact hK a' w' ⟨v7, v8, hs'.putF (i := 3) rfl [0, 1] [0, 1, 2, 3, 4] rfl rfl rfl rfl⟩
        · intro L a w hv K Q hK
          obtain ⟨v7, v8, hs⟩ := hv
          refine wpOp_go rfl rfl hs (OpT_call (w_frame_word hx2) [] [2] rfl rfl rfl rfl rfl callee40 rfl rfl rfl rfl) ?_
          rintro _ ⟨_, _, _, ⟨rfl, rfl, rfl⟩, rfl⟩ a' w' hs'
          exact hK a' w' ⟨v7, v8, hs'.putF (i := 4) rfl [0, 1] [0, 1, 2, 3, 4] rfl rfl rfl rfl⟩
        · intro L a w hv K Q hK
          obtain ⟨v7, v8, hs⟩ := hv
          refine wpOp_go rfl rfl hs (OpT_move rfl rfl rfl rfl) ?_
          rintro _ rfl a' w' hs'
          exact hK a' w' ⟨v7, v8, hs'.putF (i := 5) rfl [0, 1] [0, 1, 2, 3, 4] rfl rfl rfl rfl⟩
        · intro L a w hv K Q hK
          obtain ⟨v7, v8, hs⟩ := hv
          refine wpOp_go rfl rfl hs (OpT_sliceL (l := (2 : Int)) rfl rfl rfl rfl rfl slF22 (i := 2) rfl hc6) ?_
          rintro _ ⟨v7', rfl⟩ a' w' hs'
          exact hK a' w' ⟨v7', v8, hs'.putF (i := 6) rfl [0, 1] [0, 1, 2, 5, 4] rfl rfl rfl rfl⟩
        · intro L a w hv K Q hK
          obtain ⟨v7, v8, hs⟩ := hv
          refine wpOp_go rfl rfl hs (OpT_call (ws_slices_Clone_bytebyte hx3) [] [3] rfl rfl rfl rfl rfl callee41 rfl rfl rfl rfl) ?_
          rintro _ ⟨v8', _, _, ⟨_, rfl, rfl, rfl⟩, rfl⟩ a' w' hs'
          exact hK a' w' ⟨v7, v8', hs'.putF (i := 7) rfl [0, 1] [0, 1, 2, 3, 5] rfl rfl rfl rfl⟩
        · intro L a w hv K Q hK
          obtain ⟨v7, v8, hs⟩ := hv
          refine wpOp_go rfl rfl hs (OpT_fieldC rfl rfl rfl rfl fldF38x3) ?_
          rintro _ rfl a' w' hs'
          exact hK a' w' ⟨v7, v8, hs'.putF (i := 8) rfl [0, 1] [0, 1, 2, 3, 4] rfl rfl rfl rfl⟩
        · intro L a w hL hv
          rw [allTrue hL] at hv
          obtain ⟨v7, v8, hs⟩ := hv
          refine (show TA _ _ _ 6 ⟨[(2, some (.pointer (some ⟨b1, 0, none⟩))), (4, some (.pointer (some ⟨b2, 0, none⟩))), (36, some (vU16 word2)), (39, some (v8)), (40, some (.pointer (some ⟨b2, 13, none⟩)))], [some (cellsR b1 38 [vU8 Dst1.a0, vU8 Dst1.a1, vU8 Dst1.a2, vU8 Dst1.a3, vU8 Dst1.a4, vU8 Dst1.a5, vU8 Src1.a0, vU8 Src1.a1, vU8 Src1.a2, vU8 Src1.a3, vU8 Src1.a4, vU8 Src1.a5, vI Vlan1, vU16 Type1, v4]), some (cellsR b2 38 [vU8 Dst2.a0, vU8 Dst2.a1, vU8 Dst2.a2, vU8 Dst2.a3, vU8 Dst2.a4, vU8 Dst2.a5, vU8 Src2.a0, vU8 Src2.a1, vU8 Src2.a2, vU8 Src2.a3, vU8 Src2.a4, vU8 Src2.a5, vI Vlan2, vU16 Type2, v5])], [Fact.sl u8S v4 Data1, Fact.sl u8S v5 Data2, Fact.sl u8S v8 cloneb1]⟩ from ?_) a w (hs.wkS [2, 4, 36, 39, 40] [0, 1] [0, 1, 4] rfl rfl rfl rfl)
          clear hs hL
          refine TA_step htb (by kernel_rfl) rfl rfl (OpT_storeC (cs' := [vU8 Dst2.a0, vU8 Dst2.a1, vU8 Dst2.a2, vU8 Dst2.a3, vU8 Dst2.a4, vU8 Dst2.a5, vU8 Src2.a0, vU8 Src2.a1, vU8 Src2.a2, vU8 Src2.a3, vU8 Src2.a4, vU8 Src2.a5, vI Vlan2, vU16 word2, v5]) rfl rfl rfl rfl tyF24 (i := 1) rfl rfl rfl (one_of rfl) rfl) ?_
          refine TA_step htb (by kernel_rfl) rfl rfl (OpT_fieldC rfl rfl rfl rfl fldF38x4) ?_
          refine TA_step htb (by kernel_rfl) rfl rfl (OpT_storeV (cs' := [vU8 Dst2.a0, vU8 Dst2.a1, vU8 Dst2.a2, vU8 Dst2.a3, vU8 Dst2.a4, vU8 Dst2.a5, vU8 Src2.a0, vU8 Src2.a1, vU8 Src2.a2, vU8 Src2.a3, vU8 Src2.a4, vU8 Src2.a5, vI Vlan2, vU16 word2, v8]) rfl rfl rfl rfl tyF22 (i := 1) rfl (is_sl (i := 2) rfl) rfl rfl) ?_
          refine TA_end rfl ?_
          refine Tk_wkS (fr' := [(2, some (.pointer (some ⟨b1, 0, none⟩))), (4, some (.pointer (some ⟨b2, 0, none⟩)))]) (own' := [some (cellsR b1 38 [vU8 Dst1.a0, vU8 Dst1.a1, vU8 Dst1.a2, vU8 Dst1.a3, vU8 Dst1.a4, vU8 Dst1.a5, vU8 Src1.a0, vU8 Src1.a1, vU8 Src1.a2, vU8 Src1.a3, vU8 Src1.a4, vU8 Src1.a5, vI Vlan1, vU16 Type1, v4]), some (cellsR b2 38 [vU8 Dst2.a0, vU8 Dst2.a1, vU8 Dst2.a2, vU8 Dst2.a3, vU8 Dst2.a4, vU8 Dst2.a5, vU8 Src2.a0, vU8 Src2.a1, vU8 Src2.a2, vU8 Src2.a3, vU8 Src2.a4, vU8 Src2.a5, vI Vlan2, vU16 word2, v8])]) (shr' := [Fact.sl u8S v4 Data1, Fact.sl u8S v8 cloneb1]) [2, 4] [0, 1] [0, 2] rfl rfl rfl rfl ?_
          refine Tk_seq ?_
          refine Tk_seq ?_
          refine Tk_region ?_
          refine Tops_step rfl (OpT_loadCA (vs := [vU8 Dst2.a0, vU8 Dst2.a1, vU8 Dst2.a2, vU8 Dst2.a3, vU8 Dst2.a4, vU8 Dst2.a5, vU8 Src2.a0, vU8 Src2.a1, vU8 Src2.a2, vU8 Src2.a3, vU8 Src2.a4, vU8 Src2.a5, vI Vlan2, vU16 word2, v8]) rfl rfl rfl rfl tyF38 (i := 1) rfl rfl rfl) ?_
          obtain ⟨check1, hx4, h⟩ := ob_e h
          refine Tops_exP rfl (OpT_call (w_frame_Check hx4) [] [1] rfl rfl rfl rfl rfl callee20 rfl rfl rfl rfl) ?_
          rintro _ ⟨_, _, _, ⟨rfl, rfl, rfl⟩, rfl⟩
          refine Tops_step rfl (OpT_bin rfl rfl rfl rfl rfl (bin_neq_i (a := check1) (b := (0 : Int)))) ?_
          refine Tops_nil ?_
          refine Tk_wkS (fr' := [(2, some (.pointer (some ⟨b1, 0, none⟩))), (4, some (.pointer (some ⟨b2, 0, none⟩))), (44, some (vB (check1 != (0 : Int))))]) (own' := [some (cellsR b1 38 [vU8 Dst1.a0, vU8 Dst1.a1, vU8 Dst1.a2, vU8 Dst1.a3, vU8 Dst1.a4, vU8 Dst1.a5, vU8 Src1.a0, vU8 Src1.a1, vU8 Src1.a2, vU8 Src1.a3, vU8 Src1.a4, vU8 Src1.a5, vI Vlan1, vU16 Type1, v4]), some (cellsR b2 38 [vU8 Dst2.a0, vU8 Dst2.a1, vU8 Dst2.a2, vU8 Dst2.a3, vU8 Dst2.a4, vU8 Dst2.a5, vU8 Src2.a0, vU8 Src2.a1, vU8 Src2.a2, vU8 Src2.a3, vU8 Src2.a4, vU8 Src2.a5, vI Vlan2, vU16 word2, v8])]) (shr' := [Fact.sl u8S v4 Data1, Fact.sl u8S v8 cloneb1]) [2, 4, 44] [0, 1] [0, 1] rfl rfl rfl rfl ?_
          rcases Bool.eq_false_or_eq_true (check1 != (0 : Int)) with hg2 | hg2
          · replace h := br_t hg2 h
            refine Tk_condT (congrArg (fun b => some (Value.bool b)) hg2) ?_
            refine Tk_seq ?_
            refine Tk_region ?_
            refine Tops_step rfl (OpT_build (v := .agg #[vU8 (0 : UInt8), vU8 (0 : UInt8), vU8 (0 : UInt8), vU8 (0 : UInt8), vU8 (0 : UInt8), vU8 (0 : UInt8), vU8 (0 : UInt8), vU8 (0 : UInt8), vU8 (0 : UInt8), vU8 (0 : UInt8), vU8 (0 : UInt8), vU8 (0 : UInt8), vI (0 : Int), vU16 (0 : UInt16), .slice none 0 0]) rfl rfl rfl rfl (bldV (by kernel_rfl))) ?_
            refine Tops_step rfl (OpT_storeC (cs' := [vU8 (0 : UInt8), vU8 (0 : UInt8), vU8 (0 : UInt8), vU8 (0 : UInt8), vU8 (0 : UInt8), vU8 (0 : UInt8), vU8 (0 : UInt8), vU8 (0 : UInt8), vU8 (0 : UInt8), vU8 (0 : UInt8), vU8 (0 : UInt8), vU8 (0 : UInt8), vI (0 : Int), vU16 (0 : UInt16), .slice none 0 0]) rfl rfl rfl rfl tyF38 (i := 0) rfl rfl rfl (one_of rfl) rfl) ?_
            refine Tops_step rfl (OpT_assign rfl rfl rfl rfl) ?_
            refine Tops_nil ?_
            refine Tk_wkS (fr' := [(2, some (.pointer (some ⟨b1, 0, none⟩))), (3, some (vI (4 : Int)))]) (own' := [some (cellsR b1 38 [vU8 (0 : UInt8), vU8 (0 : UInt8), vU8 (0 : UInt8), vU8 (0 : UInt8), vU8 (0 : UInt8), vU8 (0 : UInt8), vU8 (0 : UInt8), vU8 (0 : UInt8), vU8 (0 : UInt8), vU8 (0 : UInt8), vU8 (0 : UInt8), vU8 (0 : UInt8), vI (0 : Int), vU16 (0 : UInt16), .slice none 0 0])]) (shr' := []) [2, 3] [0] [] rfl rfl rfl rfl ?_
            refine Tk_nilfact u8S ?_
            obtain rfl := Option.some.inj h
            exact Tk_retV rfl rfl (resA (vs := [.agg #[vU8 (0 : UInt8), vU8 (0 : UInt8), vU8 (0 : UInt8), vU8 (0 : UInt8), vU8 (0 : UInt8), vU8 (0 : UInt8), vU8 (0 : UInt8), vU8 (0 : UInt8), vU8 (0 : UInt8), vU8 (0 : UInt8), vU8 (0 : UInt8), vU8 (0 : UInt8), vI (0 : Int), vU16 (0 : UInt16), .slice none 0 0], vI (4 : Int)]) rfl ⟨⟨_, 0, _, _, _, rfl, rfl, .inl ⟨tyF38, rfl, rfl⟩⟩, rfl, trivial⟩) [] [0] rfl rfl rfl ⟨(.slice none 0 0), rfl, rfl, rfl⟩
          · replace h := br_f hg2 h
            refine Tk_condF (congrArg (fun b => some (Value.bool b)) hg2) ?_
            refine Tk_skip ?_
            refine Tk_seq ?_
            refine Tk_region ?_
            refine Tops_step rfl (OpT_loadCA (vs := [vU8 Dst2.a0, vU8 Dst2.a1, vU8 Dst2.a2, vU8 Dst2.a3, vU8 Dst2.a4, vU8 Dst2.a5, vU8 Src2.a0, vU8 Src2.a1, vU8 Src2.a2, vU8 Src2.a3, vU8 Src2.a4, vU8 Src2.a5, vI Vlan2, vU16 word2, v8]) rfl rfl rfl rfl tyF38 (i := 1) rfl rfl rfl) ?_
            refine Tops_step rfl (OpT_storeA1 (fun z0 => [vU8 Dst2.a0, vU8 Dst2.a1, vU8 Dst2.a2, vU8 Dst2.a3, vU8 Dst2.a4, vU8 Dst2.a5, vU8 Src2.a0, vU8 Src2.a1, vU8 Src2.a2, vU8 Src2.a3, vU8 Src2.a4, vU8 Src2.a5, vI Vlan2, vU16 word2, z0]) (cs' := [vU8 Dst2.a0, vU8 Dst2.a1, vU8 Dst2.a2, vU8 Dst2.a3, vU8 Dst2.a4, vU8 Dst2.a5, vU8 Src2.a0, vU8 Src2.a1, vU8 Src2.a2, vU8 Src2.a3, vU8 Src2.a4, vU8 Src2.a5, vI Vlan2, vU16 word2, v8]) rfl rfl rfl rfl tyF38 (i := 0) rfl (is_sl (i := 1) rfl) (fun _ _ _ => rfl) rfl rfl rfl) ?_
            refine Tops_step rfl (OpT_assign rfl rfl rfl rfl) ?_
            refine Tops_nil ?_
            refine Tk_wkS (fr' := [(2, some (.pointer (some ⟨b1, 0, none⟩))), (3, some (vI (0 : Int)))]) (own' := [some (cellsR b1 38 [vU8 Dst2.a0, vU8 Dst2.a1, vU8 Dst2.a2, vU8 Dst2.a3, vU8 Dst2.a4, vU8 Dst2.a5, vU8 Src2.a0, vU8 Src2.a1, vU8 Src2.a2, vU8 Src2.a3, vU8 Src2.a4, vU8 Src2.a5, vI Vlan2, vU16 word2, v8])]) (shr' := [Fact.sl u8S v8 cloneb1]) [2, 3] [0] [1] rfl rfl rfl rfl ?_
            obtain rfl := Option.some.inj h
            exact Tk_retV rfl rfl (resA (vs := [.agg #[vU8 Dst2.a0, vU8 Dst2.a1, vU8 Dst2.a2, vU8 Dst2.a3, vU8 Dst2.a4, vU8 Dst2.a5, vU8 Src2.a0, vU8 Src2.a1, vU8 Src2.a2, vU8 Src2.a3, vU8 Src2.a4, vU8 Src2.a5, vI Vlan2, vU16 word2, v8], vI (0 : Int)]) rfl ⟨⟨_, 0, _, _, _, rfl, rfl, .inl ⟨tyF38, rfl, rfl⟩⟩, rfl, trivial⟩) [] [0] rfl rfl rfl ⟨v8, rfl, rfl, rfl⟩
      · intro HJ1
        rcases Bool.eq_false_or_eq_true (word1 == (33024 : UInt16)) with hg3 | hg3
        · replace h := br_t hg3 h
          refine Tk_condT (congrArg (fun b => some (Value.bool b)) hg3) ?_
          refine Tk_seq ?_
          refine Tk_seq ?_
          refine Tk_region ?_
          refine Tops_step rfl (OpT_move rfl rfl rfl rfl) ?_
          refine Tops_step rfl (OpT_lenS rfl rfl rfl rfl Try.underlying22 (i := 0) rfl) ?_
          refine Tops_step rfl (OpT_bin rfl rfl rfl rfl rfl (bin_lss_i (a := len (sub b (12 : Int) (len b))) (b := (6 : Int)))) ?_
          refine Tops_nil ?_
          refine Tk_wkS (fr' := [(2, some (.pointer (some ⟨b1, 0, none⟩))), (4, some (.pointer (some ⟨b2, 0, none⟩))), (5, some (v3)), (26, some (vB (decide ((len (sub b (12 : Int) (len b))) < (6 : Int)))))]) (own' := [some (cellsR b1 38 [vU8 (0 : UInt8), vU8 (0 : UInt8), vU8 (0 : UInt8), vU8 (0 : UInt8), vU8 (0 : UInt8), vU8 (0 : UInt8), vU8 (0 : UInt8), vU8 (0 : UInt8), vU8 (0 : UInt8), vU8 (0 : UInt8), vU8 (0 : UInt8), vU8 (0 : UInt8), vI (0 : Int), vU16 (0 : UInt16), .slice none 0 0]), some (cellsR b2 38 [vU8 a1.a0, vU8 a1.a1, vU8 a1.a2, vU8 a1.a3, vU8 a1.a4, vU8 a1.a5, vU8 a2.a0, vU8 a2.a1, vU8 a2.a2, vU8 a2.a3, vU8 a2.a4, vU8 a2.a5, vI ((-1) : Int), vU16 (0 : UInt16), .slice none 0 0])]) (shr' := [Fact.sl u8S v3 (sub b (12 : Int) (len b))]) [2, 4, 5, 26] [0, 1] [0] rfl rfl rfl rfl ?_
          rcases Bool.eq_false_or_eq_true (decide ((len (sub b (12 : Int) (len b))) < (6 : Int))) with hg4 | hg4
          · replace h := br_t hg4 h
            refine Tk_condT (congrArg (fun b => some (Value.bool b)) hg4) ?_
            refine Tk_seq ?_
            refine Tk_region ?_
            refine Tops_step rfl (OpT_build (v := .agg #[vU8 (0 : UInt8), vU8 (0 : UInt8), vU8 (0 : UInt8), vU8 (0 : UInt8), vU8 (0 : UInt8), vU8 (0 : UInt8), vU8 (0 : UInt8), vU8 (0 : UInt8), vU8 (0 : UInt8), vU8 (0 : UInt8), vU8 (0 : UInt8), vU8 (0 : UInt8), vI (0 : Int), vU16 (0 : UInt16), .slice none 0 0]) rfl rfl rfl rfl (bldV (by kernel_rfl))) ?_
            refine Tops_step rfl (OpT_storeC (cs' := [vU8 (0 : UInt8), vU8 (0 : UInt8), vU8 (0 : UInt8), vU8 (0 : UInt8), vU8 (0 : UInt8), vU8 (0 : UInt8), vU8 (0 : UInt8), vU8 (0 : UInt8), vU8 (0 : UInt8), vU8 (0 : UInt8), vU8 (0 : UInt8), vU8 (0 : UInt8), vI (0 : Int), vU16 (0 : UInt16), .slice none 0 0]) rfl rfl rfl rfl tyF38 (i := 0) rfl rfl rfl (one_of rfl) rfl) ?_
            refine Tops_step rfl (OpT_assign rfl rfl rfl rfl) ?_
            refine Tops_nil ?_
            refine Tk_wkS (fr' := [(2, some (.pointer (some ⟨b1, 0, none⟩))), (3, some (vI (4 : Int)))]) (own' := [some (cellsR b1 38 [vU8 (0 : UInt8), vU8 (0 : UInt8), vU8 (0 : UInt8), vU8 (0 : UInt8), vU8 (0 : UInt8), vU8 (0 : UInt8), vU8 (0 : UInt8), vU8 (0 : UInt8), vU8 (0 : UInt8), vU8 (0 : UInt8), vU8 (0 : UInt8), vU8 (0 : UInt8), vI (0 : Int), vU16 (0 : UInt16), .slice none 0 0])]) (shr' := []) [2, 3] [0] [] rfl rfl rfl rfl ?_
            refine Tk_nilfact u8S ?_
            obtain rfl := Option.some.inj h
            exact Tk_retV rfl rfl (resA (vs := [.agg #[vU8 (0 : UInt8), vU8 (0 : UInt8), vU8 (0 : UInt8), vU8 (0 : UInt8), vU8 (0 : UInt8), vU8 (0 : UInt8), vU8 (0 : UInt8), vU8 (0 : UInt8), vU8 (0 : UInt8), vU8 (0 : UInt8), vU8 (0 : UInt8), vU8 (0 : UInt8), vI (0 : Int), vU16 (0 : UInt16), .slice none 0 0], vI (4 : Int)]) rfl ⟨⟨_, 0, _, _, _, rfl, rfl, .inl ⟨tyF38, rfl, rfl⟩⟩, rfl, trivial⟩) [] [0] rfl rfl rfl ⟨(.slice none 0 0), rfl, rfl, rfl⟩
          · replace h := br_f hg4 h
            refine Tk_condF (congrArg (fun b => some (Value.bool b)) hg4) ?_
            refine Tk_skip ?_
            refine Tk_drawT (by kernel_rfl) ?_
            refine TA_tb [0, 1, 3, 7, 0, 16, 15, 79, 255] (by kernel_rfl) fun htb => ?_
            refine TA_wkS (fr' := [(2, some (.pointer (some ⟨b1, 0, none⟩))), (4, some (.pointer (some ⟨b2, 0, none⟩))), (5, some (v3))]) (own' := [some (cellsR b1 38 [vU8 (0 : UInt8), vU8 (0 : UInt8), vU8 (0 : UInt8), vU8 (0 : UInt8), vU8 (0 : UInt8), vU8 (0 : UInt8), vU8 (0 : UInt8), vU8 (0 : UInt8), vU8 (0 : UInt8), vU8 (0 : UInt8), vU8 (0 : UInt8), vU8 (0 : UInt8), vI (0 : Int), vU16 (0 : UInt16), .slice none 0 0]), some (cellsR b2 38 [vU8 a1.a0, vU8 a1.a1, vU8 a1.a2, vU8 a1.a3, vU8 a1.a4, vU8 a1.a5, vU8 a2.a0, vU8 a2.a1, vU8 a2.a2, vU8 a2.a3, vU8 a2.a4, vU8 a2.a5, vI ((-1) : Int), vU16 (0 : UInt16), .slice none 0 0])]) (shr' := [Fact.sl u8S v3 (sub b (12 : Int) (len b))]) [2, 4, 5] [0, 1] [0] rfl rfl rfl rfl ?_
            obtain ⟨hc7, h⟩ := chk_e h
            obtain ⟨word3, hx5, h⟩ := ob_e h
            obtain ⟨hc8, h⟩ := chk_e h
            refine TA_seg (lo := 0) (hi := 8) htb rfl rfl (by kernel_rfl) (fun c L a w => ∃ (v9 : Value), ∃ (v10 : Value), Sat c ⟨[(2, some (.pointer (some ⟨b1, 0, none⟩))), (4, some (.pointer (some ⟨b2, 0, none⟩))), (5, some (v3)), (28, bif L 0 then some (v3) else none), (29, bif L 1 then some (v9) else none), (30, bif L 2 then some (vU16 word3) else none), (31, bif L 3 then some (vI (i16 word3)) else none), (32, bif L 4 then some (v3) else none), (33, bif L 5 then some (v10) else none), (34, bif L 6 then some (.pointer (some ⟨b2, 12, none⟩)) else none)], [(some (cellsR b1 38 [vU8 (0 : UInt8), vU8 (0 : UInt8), vU8 (0 : UInt8), vU8 (0 : UInt8), vU8 (0 : UInt8), vU8 (0 : UInt8), vU8 (0 : UInt8), vU8 (0 : UInt8), vU8 (0 : UInt8), vU8 (0 : UInt8), vU8 (0 : UInt8), vU8 (0 : UInt8), vI (0 : Int), vU16 (0 : UInt16), .slice none 0 0]) : Option Res), (bif L 7 then some (cellsR b2 38 [vU8 a1.a0, vU8 a1.a1, vU8 a1.a2, vU8 a1.a3, vU8 a1.a4, vU8 a1.a5, vU8 a2.a0, vU8 a2.a1, vU8 a2.a2, vU8 a2.a3, vU8 a2.a4, vU8 a2.a5, vI (i16 word3), vU16 (0 : UInt16), .slice none 0 0]) else some (cellsR b2 38 [vU8 a1.a0, vU8 a1.a1, vU8 a1.a2, vU8 a1.a3, vU8 a1.a4, vU8 a1.a5, vU8 a2.a0, vU8 a2.a1, vU8 a2.a2, vU8 a2.a3, vU8 a2.a4, vU8 a2.a5, vI ((-1) : Int), vU16 (0 : UInt16), .slice none 0 0]) : Option Res)], [Fact.sl u8S v3 (sub b (12 : Int) (len b)), (bif L 1 then Fact.sl u8S v9 (sub (sub b (12 : Int) (len b)) (2 : Int) (len (sub b (12 : Int) (len b)))) else Fact.tt), (bif L 5 then Fact.sl u8S v10 (sub (sub b (12 : Int) (len b)) (4 : Int) (len (sub b (12 : Int) (len b)))) else Fact.tt)]⟩ a w) [([], [1, 2, 3, 6, 7]), ([0], [2, 3, 6, 7]), ([0, 1], [3, 6, 7]), ([0, 1, 2], [6, 7]), ([], [5]), ([4], []), ([0, 1, 2, 3], [7]), ([0, 1, 2, 3, 6], [])] rfl (by kernel_rfl) ?_ (steps_cons ?_ (steps_cons ?_ (steps_cons ?_ (steps_cons ?_ (steps_cons ?_ (steps_cons ?_ (steps_cons ?_ (steps_cons ?_ (steps_nil))))))))) ?_
            · intro a w hs
              exact ⟨undef, undef, hs.startF [28, 29, 30, 31, 32, 33, 34] [0, 1] [0, 1, 2] rfl rfl rfl rfl⟩
            · intro L a w hv K Q hK
              obtain ⟨v9, v10, hs⟩ := hv
              refine wpOp_go rfl rfl hs (OpT_move rfl rfl rfl rfl) ?_
              rintro _ rfl a' w' hs'
              exact hK a' w' ⟨v9, v10, hs'.putF (i := 3) rfl [0, 1] [0, 1, 2] rfl rfl rfl rfl⟩
            · intro L a w hv K Q hK
              obtain ⟨v9, v10, hs⟩ := hv
              refine wpOp_go rfl rfl hs (OpT_sliceL (l := (2 : Int)) rfl rfl rfl rfl rfl slF22 (i := 0) rfl hc7) ?_
              rintro _ ⟨v9', rfl⟩ a' w' hs'
              exact hK a' w' ⟨v9', v10, hs'.putF (i := 4) rfl [0, 1] [0, 3, 2] rfl rfl rfl rfl⟩
            · intro L a w hv K Q hK
              obtain ⟨v9, v10, hs⟩ := hv
              refine wpOp_go rfl rfl hs (OpT_call (w_frame_word hx5) [] [1] rfl rfl rfl rfl rfl callee40 rfl rfl rfl rfl) ?_
              rintro _ ⟨_, _, _, ⟨rfl, rfl, rfl⟩, rfl⟩ a' w' hs'
              exact hK a' w' ⟨v9, v10, hs'.putF (i := 5) rfl [0, 1] [0, 1, 2] rfl rfl rfl rfl⟩
            · intro L a w hv K Q hK
              obtain ⟨v9, v10, hs⟩ := hv
              refine wpOp_go rfl rfl hs (OpT_cnv rfl rfl rfl rfl (cnv_u16_i (n := word3) Try.underlying24 Try.underlying3)) ?_
              rintro _ rfl a' w' hs'
              exact hK a' w' ⟨v9, v10, hs'.putF (i := 6) rfl [0, 1] [0, 1, 2] rfl rfl rfl rfl⟩
            · intro L a w hv K Q hK
              obtain ⟨v9, v10, hs⟩ := hv
              refine wpOp_go rfl rfl hs (OpT_move rfl rfl rfl rfl) ?_
              rintro _ rfl a' w' hs'
              exact hK a' w' ⟨v9, v10, hs'.putF (i := 7) rfl [0, 1] [0, 1, 2] rfl rfl rfl rfl⟩
            · intro L a w hv K Q hK
              obtain ⟨v9, v10, hs⟩ := hv
              refine wpOp_go rfl rfl hs (OpT_sliceL (l := (4 : Int)) rfl rfl rfl rfl rfl slF22 (i := 0) rfl hc8) ?_
              rintro _ ⟨v10', rfl⟩ a' w' hs'
              exact hK a' w' ⟨v9, v10', hs'.putF (i := 8) rfl [0, 1] [0, 1, 3] rfl rfl rfl rfl⟩
            · intro L a w hv K Q hK
              obtain ⟨v9, v10, hs⟩ := hv
              refine wpOp_go rfl rfl hs (OpT_fieldC rfl rfl rfl rfl fldF38x2) ?_
              rintro _ rfl a' w' hs'
              exact hK a' w' ⟨v9, v10, hs'.putF (i := 9) rfl [0, 1] [0, 1, 2] rfl rfl rfl rfl⟩
            · intro L a w hv K Q hK
              obtain ⟨v9, v10, hs⟩ := hv
              refine wpOp_go rfl rfl hs (OpT_storeC (cs' := [vU8 a1.a0, vU8 a1.a1, vU8 a1.a2, vU8 a1.a3, vU8 a1.a4, vU8 a1.a5, vU8 a2.a0, vU8 a2.a1, vU8 a2.a2, vU8 a2.a3, vU8 a2.a4, vU8 a2.a5, vI (i16 word3), vU16 (0 : UInt16), .slice none 0 0]) rfl rfl rfl rfl tyF3 (i := 1) rfl rfl rfl (one_of rfl) rfl) ?_
              rintro _ rfl a' w' hs'
              exact hK a' w' ⟨v9, v10, hs'.sameF [0, 1] [0, 1, 2] rfl rfl rfl rfl⟩
            · intro L a w hL hv
              rw [allTrue hL] at hv
              obtain ⟨v9, v10, hs⟩ := hv
              refine (show TA _ _ _ 8 ⟨[(2, some (.pointer (some ⟨b1, 0, none⟩))), (4, some (.pointer (some ⟨b2, 0, none⟩))), (33, some (v10))], [some (cellsR b1 38 [vU8 (0 : UInt8), vU8 (0 : UInt8), vU8 (0 : UInt8), vU8 (0 : UInt8), vU8 (0 : UInt8), vU8 (0 : UInt8), vU8 (0 : UInt8), vU8 (0 : UInt8), vU8 (0 : UInt8), vU8 (0 : UInt8), vU8 (0 : UInt8), vU8 (0 : UInt8), vI (0 : Int), vU16 (0 : UInt16), .slice none 0 0]), some (cellsR b2 38 [vU8 a1.a0, vU8 a1.a1, vU8 a1.a2, vU8 a1.a3, vU8 a1.a4, vU8 a1.a5, vU8 a2.a0, vU8 a2.a1, vU8 a2.a2, vU8 a2.a3, vU8 a2.a4, vU8 a2.a5, vI (i16 word3), vU16 (0 : UInt16), .slice none 0 0])], [Fact.sl u8S v10 (sub (sub b (12 : Int) (len b)) (4 : Int) (len (sub b (12 : Int) (len b))))]⟩ from ?_) a w (hs.wkS [2, 4, 33] [0, 1] [2] rfl rfl rfl rfl)
              clear hs hL
              refine TA_step htb (by kernel_rfl) rfl rfl (OpT_assign rfl rfl rfl rfl) ?_
              refine TA_end rfl ?_
              refine Tk_wkS (fr' := [(2, some (.pointer (some ⟨b1, 0, none⟩))), (4, some (.pointer (some ⟨b2, 0, none⟩))), (5, some (v10))]) (own' := [some (cellsR b1 38 [vU8 (0 : UInt8), vU8 (0 : UInt8), vU8 (0 : UInt8), vU8 (0 : UInt8), vU8 (0 : UInt8), vU8 (0 : UInt8), vU8 (0 : UInt8), vU8 (0 : UInt8), vU8 (0 : UInt8), vU8 (0 : UInt8), vU8 (0 : UInt8), vU8 (0 : UInt8), vI (0 : Int), vU16 (0 : UInt16), .slice none 0 0]), some (cellsR b2 38 [vU8 a1.a0, vU8 a1.a1, vU8 a1.a2, vU8 a1.a3, vU8 a1.a4, vU8 a1.a5, vU8 a2.a0, vU8 a2.a1, vU8 a2.a2, vU8 a2.a3, vU8 a2.a4, vU8 a2.a5, vI (i16 word3), vU16 (0 : UInt16), .slice none 0 0])]) (shr' := [Fact.sl u8S v10 (sub (sub b (12 : Int) (len b)) (4 : Int) (len (sub b (12 : Int) (len b))))]) [2, 4, 5] [0, 1] [0] rfl rfl rfl rfl ?_
              refine Tk_nilfact u8S ?_
              refine Tk_nilfact u8S ?_
              exact Tk_jmpS (HJ1 ((A6.mk (0 : UInt8) (0 : UInt8) (0 : UInt8) (0 : UInt8) (0 : UInt8) (0 : UInt8)), (A6.mk (0 : UInt8) (0 : UInt8) (0 : UInt8) (0 : UInt8) (0 : UInt8) (0 : UInt8)), (0 : Int), (0 : UInt16), ([] : List UInt8), a1, a2, i16 word3, (0 : UInt16), ([] : List UInt8), sub (sub b (12 : Int) (len b)) (4 : Int) (len (sub b (12 : Int) (len b))), .slice none 0 0, .slice none 0 0, v10) h) [2, 4, 5] [0, 1] [1, 2, 0] rfl rfl rfl rfl
        · replace h := br_f hg3 h
          refine Tk_condF (congrArg (fun b => some (Value.bool b)) hg3) ?_
          refine Tk_skip ?_
          refine Tk_nilfact u8S ?_
          refine Tk_nilfact u8S ?_
          exact Tk_jmpS (HJ1 ((A6.mk (0 : UInt8) (0 : UInt8) (0 : UInt8) (0 : UInt8) (0 : UInt8) (0 : UInt8)), (A6.mk (0 : UInt8) (0 : UInt8) (0 : UInt8) (0 : UInt8) (0 : UInt8) (0 : UInt8)), (0 : Int), (0 : UInt16), ([] : List UInt8), a1, a2, ((-1) : Int), (0 : UInt16), ([] : List UInt8), sub b (12 : Int) (len b), .slice none 0 0, .slice none 0 0, v3) h) [2, 4, 5] [0, 1] [1, 2, 0] rfl rfl rfl rfl

set_option maxRecDepth 100000 in
set_option maxHeartbeats 4000000 in
theorem w_frame_ReadHdr_1 {ip0 : Int} {arg1 : List UInt8} {b_arg1 : Nat} {varg11 : Value} {r : UInt16} (h : frame_ReadHdr_1 ip0 arg1 = some r) :
    Ctr Try.prog 44 #[vI ip0, .pointer (some ⟨b_arg1, 0, none⟩)] [(cellsR b_arg1 22 [varg11])] [Fact.sl u8S varg11 arg1]
      (fun rv own shr => rv = vU16 r ∧ own = [(cellsR b_arg1 22 [varg11])] ∧ shr = []) := by
  unfold frame_ReadHdr_1 at h
  refine Ctr.mk (args := [vI ip0, .pointer (some ⟨b_arg1, 0, none⟩)]) Try.func44 rfl rfl (fun R0 w0 B => ?_)
  refine Tk_seq ?_
  refine Tk_region ?_
  refine Tops_step rfl (OpT_assign rfl rfl rfl rfl) ?_
  refine Tops_nil ?_
  refine Tk_wkS (fr' := [(0, some (vI ip0)), (1, some (.pointer (some ⟨b_arg1, 0, none⟩)))]) (own' := [some (cellsR b_arg1 22 [varg11])]) (shr' := [Fact.sl u8S varg11 arg1]) [0, 1] [0] [0] rfl rfl rfl rfl ?_
  refine Tk_seq ?_
  refine Tk_drawT (by kernel_rfl) ?_
  refine TA_tb [0, 0, 3, 7, 15, 0, 0, 64, 224, 480, 992, 2016, 4095, 8191] (by kernel_rfl) fun htb => ?_
  obtain ⟨y1, hx1, h⟩ := ob_e h
  obtain ⟨y2, hx2, h⟩ := ob_e h
  refine TA_seg (lo := 0) (hi := 12) htb rfl rfl (by kernel_rfl) (fun c L a w => ∃ (p1 : Value), ∃ (p2 : Value), Sat c ⟨[(0, some (vI ip0)), (1, some (.pointer (some ⟨b_arg1, 0, none⟩))), (4, bif L 0 then some (varg11) else none), (5, bif L 1 then some (vI ip0) else none), (6, bif L 2 then some (p1) else none), (7, bif L 3 then some (vU8 y1) else none), (8, bif L 4 then some (vU16 y1.toUInt16) else none), (9, bif L 5 then some (varg11) else none), (10, bif L 6 then some (vI ip0) else none), (11, bif L 7 then some (vI (wi (ip0 + (1 : Int)))) else none), (12, bif L 8 then some (p2) else none), (13, bif L 9 then some (vU8 y2) else none), (14, bif L 10 then some (vU16 y2.toUInt16) else none), (15, bif L 11 then some (vU16 (shl16 y2.toUInt16 ((8 : UInt64).toNat))) else none)], [(some (cellsR b_arg1 22 [varg11]) : Option Res)], [Fact.sl u8S varg11 arg1, (bif L 2 then Fact.pt u8S p1 y1 else Fact.tt), (bif L 8 then Fact.pt u8S p2 y2 else Fact.tt)]⟩ a w) [([], [2, 3, 4]), ([], [2, 3, 4]), ([0, 1], [3, 4]), ([0, 1, 2], [4]), ([0, 1, 2, 3], []), ([], [8, 9, 10, 11]), ([], [7, 8, 9, 10, 11]), ([6], [8, 9, 10, 11]), ([5, 6, 7], [9, 10, 11]), ([5, 6, 7, 8], [10, 11]), ([5, 6, 7, 8, 9], [11]), ([5, 6, 7, 8, 9, 10], [])] rfl (by kernel_rfl) ?_ (steps_cons ?_ (steps_cons ?_ (steps_cons ?_ (steps_cons ?_ (steps_cons ?_ (steps_cons ?_ (steps_cons ?_ (steps_cons ?_ (steps_cons ?_ (steps_cons ?_ (steps_cons ?_ (steps_cons ?_ (steps_nil))))))))))))) ?_
  · intro a w hs
    exact ⟨undef, undef, hs.startF [4, 5, 6, 7, 8, 9, 10, 11, 12, 13, 14, 15] [0] [0, 1, 2] rfl rfl rfl rfl⟩
  · intro L a w hv K Q hK
    obtain ⟨p1, p2, hs⟩ := hv
    refine wpOp_go rfl rfl hs (OpT_loadC rfl rfl rfl rfl tyF22 (i := 0) rfl rfl) ?_
    rintro _ rfl a' w' hs'
    exact hK a' w' ⟨p1, p2, hs'.putF (i := 2) rfl [0] [0, 1, 2] rfl rfl rfl rfl⟩
  · intro L a w hv K Q hK
    obtain ⟨p1, p2, hs⟩ := hv
    refine wpOp_go rfl rfl hs (OpT_move rfl rfl rfl rfl) ?_
    rintro _ rfl a' w' hs'
    exact hK a' w' ⟨p1, p2, hs'.putF (i := 3) rfl [0] [0, 1, 2] rfl rfl rfl rfl⟩
  · intro L a w hv K Q hK
    obtain ⟨p1, p2, hs⟩ := hv
    refine wpOp_go rfl rfl hs (OpT_idxS rfl rfl rfl rfl rfl slF22 (i := 0) rfl hx1) ?_
    rintro _ ⟨p1', rfl⟩ a' w' hs'
    exact hK a' w' ⟨p1', p2, hs'.putF (i := 4) rfl [0] [0, 3, 2] rfl rfl rfl rfl⟩
  · intro L a w hv K Q hK
    obtain ⟨p1, p2, hs⟩ := hv
    refine wpOp_go rfl rfl hs (OpT_loadP rfl rfl rfl rfl tyF5 (i := 1) rfl rfl) ?_
    rintro _ rfl a' w' hs'
    exact hK a' w' ⟨p1, p2, hs'.putF (i := 5) rfl [0] [0, 1, 2] rfl rfl rfl rfl⟩
  · intro L a w hv K Q hK
    obtain ⟨p1, p2, hs⟩ := hv
    refine wpOp_go rfl rfl hs (OpT_cnv rfl rfl rfl rfl (cnv_u8_u16 (n := y1) Try.underlying5 Try.underlying24)) ?_
    rintro _ rfl a' w' hs'
    exact hK a' w' ⟨p1, p2, hs'.putF (i := 6) rfl [0] [0, 1, 2] rfl rfl rfl rfl⟩
  · intro L a w hv K Q hK
    obtain ⟨p1, p2, hs⟩ := hv
    refine wpOp_go rfl rfl hs (OpT_loadC rfl rfl rfl rfl tyF22 (i := 0) rfl rfl) ?_
    rintro _ rfl a' w' hs'
    exact hK a' w' ⟨p1, p2, hs'.putF (i := 7) rfl [0] [0, 1, 2] rfl rfl rfl rfl⟩
  · intro L a w hv K Q hK
    obtain ⟨p1, p2, hs⟩ := hv
    refine wpOp_go rfl rfl hs (OpT_move rfl rfl rfl rfl) ?_
    rintro _ rfl a' w' hs'
    exact hK a' w' ⟨p1, p2, hs'.putF (i := 8) rfl [0] [0, 1, 2] rfl rfl rfl rfl⟩
  · intro L a w hv K Q hK
    obtain ⟨p1, p2, hs⟩ := hv
    refine wpOp_go rfl rfl hs (OpT_bin rfl rfl rfl rfl rfl (bin_add_i (a := ip0) (b := (1 : Int)))) ?_
    rintro _ rfl a' w' hs'
    exact hK a' w' ⟨p1, p2, hs'.putF (i := 9) rfl [0] [0, 1, 2] rfl rfl rfl rfl⟩
  · intro L a w hv K Q hK
    obtain ⟨p1, p2, hs⟩ := hv
    refine wpOp_go rfl rfl hs (OpT_idxS rfl rfl rfl rfl rfl slF22 (i := 0) rfl hx2) ?_
    rintro _ ⟨p2', rfl⟩ a' w' hs'
    exact hK a' w' ⟨p1, p2', hs'.putF (i := 10) rfl [0] [0, 1, 3] rfl rfl rfl rfl⟩
  · intro L a w hv K Q hK
    obtain ⟨p1, p2, hs⟩ := hv
    refine wpOp_go rfl rfl hs (OpT_loadP rfl rfl rfl rfl tyF5 (i := 2) rfl rfl) ?_
    rintro _ rfl a' w' hs'
    exact hK a' w' ⟨p1, p2, hs'.putF (i := 11) rfl [0] [0, 1, 2] rfl rfl rfl rfl⟩
  · intro L a w hv K Q hK
    obtain ⟨p1, p2, hs⟩ := hv
    refine wpOp_go rfl rfl hs (OpT_cnv rfl rfl rfl rfl (cnv_u8_u16 (n := y2) Try.underlying5 Try.underlying24)) ?_
    rintro _ rfl a' w' hs'
    exact hK a' w' ⟨p1, p2, hs'.putF (i := 12) rfl [0] [0, 1, 2] rfl rfl rfl rfl⟩
  · intro L a w hv K Q hK
    obtain ⟨p1, p2, hs⟩ := hv
    refine wpOp_go rfl rfl hs (OpT_bin rfl rfl rfl rfl rfl (bin_shl_u16_u64 (a := y2.toUInt16) (n := (8 : UInt64)))) ?_
    rintro _ rfl a' w' hs'
    exact hK a' w' ⟨p1, p2, hs'.putF (i := 13) rfl [0] [0, 1, 2] rfl rfl rfl rfl⟩
  · intro L a w hL hv
    rw [allTrue hL] at hv
    obtain ⟨p1, p2, hs⟩ := hv
    refine (show TA _ _ _ 12 ⟨[(8, some (vU16 y1.toUInt16)), (15, some (vU16 (shl16 y2.toUInt16 ((8 : UInt64).toNat))))], [some (cellsR b_arg1 22 [varg11])], [Fact.sl u8S varg11 arg1]⟩ from ?_) a w (hs.wkS [8, 15] [0] [0] rfl rfl rfl rfl)
    clear hs hL
    refine TA_step htb (by kernel_rfl) rfl rfl (OpT_bin rfl rfl rfl rfl rfl (bin_or_u16 (a := y1.toUInt16) (b := shl16 y2.toUInt16 ((8 : UInt64).toNat)))) ?_
    refine TA_step htb (by kernel_rfl) rfl rfl (OpT_assign rfl rfl rfl rfl) ?_
    refine TA_end rfl ?_
    refine Tk_wkS (fr' := [(3, some (vU16 (y1.toUInt16 ||| (shl16 y2.toUInt16 ((8 : UInt64).toNat)))))]) (own' := [some (cellsR b_arg1 22 [varg11])]) (shr' := [Fact.sl u8S varg11 arg1]) [3] [0] [0] rfl rfl rfl rfl ?_
    obtain rfl := Option.some.inj h
    exact Tk_retV rfl rfl (resA (vs := [vU16 (y1.toUInt16 ||| (shl16 y2.toUInt16 ((8 : UInt64).toNat)))]) rfl ⟨rfl, trivial⟩) [0] [] rfl rfl rfl ⟨rfl, rfl, rfl⟩

set_option maxRecDepth 100000 in
set_option maxHeartbeats 4000000 in
theorem w_frame_ReadHdr {b : List UInt8} {vb1 : Value} {r : (Hdr × Int)} (h : frame_ReadHdr b = some r) :
    Ctr Try.prog 23 #[vb1] [] [Fact.sl u8S vb1 b]
      (fun rv own shr => rv = .tuple #[.agg #[vU8 r.1.Flags, vU16 r.1.Start, vU16 r.1.Off, vU16 r.1.Buffers], vI r.2] ∧ own = [] ∧ shr = []) := by
  unfold frame_ReadHdr at h
  refine Ctr.mk (args := [vb1]) Try.func23 rfl rfl (fun R0 w0 B => ?_)
  refine Tk_seq ?_
  refine Tk_region ?_
  refine Tops_ex rfl (OpT_box1 rfl rfl rfl rfl (is_sl (i := 0) rfl)) fun b1 => ?_
  refine Tops_ex rfl (OpT_alloc rfl rfl rfl tyZ34) fun b2 => ?_
  refine Tops_step rfl (OpT_assign rfl rfl rfl rfl) ?_
  refine Tops_nil ?_
  refine Tk_wkS (fr' := [(1, some (.pointer (some ⟨b1, 0, none⟩))), (2, some (.pointer (some ⟨b2, 0, none⟩)))]) (own' := [some (cellsR b1 22 [vb1]), some (cellsR b2 34 [vU8 (0 : UInt8), vU16 (0 : UInt16), vU16 (0 : UInt16), vU16 (0 : UInt16)])]) (shr' := [Fact.sl u8S vb1 b]) [1, 2] [0, 1] [0] rfl rfl rfl rfl ?_
  refine Tk_seq ?_
  refine Tk_seq ?_
  refine Tk_region ?_
  refine Tops_step rfl (OpT_loadC rfl rfl rfl rfl tyF22 (i := 0) rfl rfl) ?_
  refine Tops_step rfl (OpT_lenS rfl rfl rfl rfl Try.underlying22 (i := 0) rfl) ?_
  refine Tops_step rfl (OpT_bin rfl rfl rfl rfl rfl (bin_lss_i (a := len b) (b := (12 : Int)))) ?_
  refine Tops_nil ?_
  refine Tk_wkS (fr' := [(1, some (.pointer (some ⟨b1, 0, none⟩))), (2, some (.pointer (some ⟨b2, 0, none⟩))), (7, some (vB (decide ((len b) < (12 : Int)))))]) (own' := [some (cellsR b1 22 [vb1]), some (cellsR b2 34 [vU8 (0 : UInt8), vU16 (0 : UInt16), vU16 (0 : UInt16), vU16 (0 : UInt16)])]) (shr' := [Fact.sl u8S vb1 b]) [1, 2, 7] [0, 1] [0] rfl rfl rfl rfl ?_
  rcases Bool.eq_false_or_eq_true (decide ((len b) < (12 : Int))) with hg1 | hg1
  · replace h := br_t hg1 h
    refine Tk_condT (congrArg (fun b => some (Value.bool b)) hg1) ?_
    refine Tk_seq ?_
    refine Tk_region ?_
    refine Tops_step rfl (OpT_build (v := .agg #[vU8 (0 : UInt8), vU16 (0 : UInt16), vU16 (0 : UInt16), vU16 (0 : UInt16)]) rfl rfl rfl rfl (bldV (by kernel_rfl))) ?_
    refine Tops_step rfl (OpT_storeC (cs' := [vU8 (0 : UInt8), vU16 (0 : UInt16), vU16 (0 : UInt16), vU16 (0 : UInt16)]) rfl rfl rfl rfl tyF34 (i := 1) rfl rfl rfl (one_of rfl) rfl) ?_
    refine Tops_step rfl (OpT_assign rfl rfl rfl rfl) ?_
    refine Tops_nil ?_
    refine Tk_wkS (fr' := [(2, some (.pointer (some ⟨b2, 0, none⟩))), (3, some (vI (4 : Int)))]) (own' := [some (cellsR b2 34 [vU8 (0 : UInt8), vU16 (0 : UInt16), vU16 (0 : UInt16), vU16 (0 : UInt16)])]) (shr' := []) [2, 3] [1] [] rfl rfl rfl rfl ?_
    obtain rfl := Option.some.inj h
    exact Tk_retV rfl rfl (resA (vs := [.agg #[vU8 (0 : UInt8), vU16 (0 : UInt16), vU16 (0 : UInt16), vU16 (0 : UInt16)], vI (4 : Int)]) rfl ⟨⟨_, 0, _, _, _, rfl, rfl, .inl ⟨tyF34, rfl, rfl⟩⟩, rfl, trivial⟩) [] [] rfl rfl rfl ⟨rfl, rfl, rfl⟩
  · replace h := br_f hg1 h
    refine Tk_condF (congrArg (fun b => some (Value.bool b)) hg1) ?_
    refine Tk_skip ?_
    refine Tk_seq ?_
    refine Tk_region ?_
    refine Tops_step rfl (OpT_makeFunc (vs := [.pointer (some ⟨b1, 0, none⟩)]) rfl rfl rfl rfl) ?_
    refine Tops_step rfl (OpT_assign rfl rfl rfl rfl) ?_
    refine Tops_nil ?_
    refine Tk_wkS (fr' := [(1, some (.pointer (some ⟨b1, 0, none⟩))), (2, some (.pointer (some ⟨b2, 0, none⟩))), (4, some (.func (.func 44) #[] #[.pointer (some ⟨b1, 0, none⟩)]))]) (own' := [some (cellsR b1 22 [vb1]), some (cellsR b2 34 [vU8 (0 : UInt8), vU16 (0 : UInt16), vU16 (0 : UInt16), vU16 (0 : UInt16)])]) (shr' := [Fact.sl u8S vb1 b]) [1, 2, 4] [0, 1] [0] rfl rfl rfl rfl ?_
    refine Tk_seq ?_
    refine Tk_drawT (by kernel_rfl) ?_
    refine TA_tb [0, 1, 3, 0, 8, 0, 56, 0, 248, 511, 1023, 2047] (by kernel_rfl) fun htb => ?_
    obtain ⟨y1, hx1, h⟩ := ob_e h
    obtain ⟨readhd1, hx2, h⟩ := ob_e h
    obtain ⟨readhd2, hx3, h⟩ := ob_e h
    obtain ⟨readhd3, hx4, h⟩ := ob_e h
    refine TA_seg (lo := 0) (hi := 9) htb rfl rfl (by kernel_rfl) (fun c L a w => ∃ (p1 : Value), Sat c ⟨[(1, some (.pointer (some ⟨b1, 0, none⟩))), (2, some (.pointer (some ⟨b2, 0, none⟩))), (4, some (.func (.func 44) #[] #[.pointer (some ⟨b1, 0, none⟩)])), (10, bif L 0 then some (vb1) else none), (11, bif L 1 then some (p1) else none), (12, bif L 2 then some (vU8 y1) else none), (13, bif L 3 then some (.func (.func 44) #[] #[.pointer (some ⟨b1, 0, none⟩)]) else none), (14, bif L 4 then some (vU16 readhd1) else none), (15, bif L 5 then some (.func (.func 44) #[] #[.pointer (some ⟨b1, 0, none⟩)]) else none), (16, bif L 6 then some (vU16 readhd2) else none), (17, bif L 7 then some (.func (.func 44) #[] #[.pointer (some ⟨b1, 0, none⟩)]) else none), (18, bif L 8 then some (vU16 readhd3) else none)], [(some (cellsR b1 22 [vb1]) : Option Res), (some (cellsR b2 34 [vU8 (0 : UInt8), vU16 (0 : UInt16), vU16 (0 : UInt16), vU16 (0 : UInt16)]) : Option Res)], [Fact.sl u8S vb1 b, (bif L 1 then Fact.pt u8S p1 y1 else Fact.tt)]⟩ a w) [([], [1, 2]), ([0], [2]), ([0, 1], []), ([], [4, 6, 8]), ([3], [6, 8]), ([], [6, 8]), ([3, 4, 5], [8]), ([], [8]), ([3, 4, 5, 6, 7], [])] rfl (by kernel_rfl) ?_ (steps_cons ?_ (steps_cons ?_ (steps_cons ?_ (steps_cons ?_ (steps_cons ?_ (steps_cons ?_ (steps_cons ?_ (steps_cons ?_ (steps_cons ?_ (steps_nil)))))))))) ?_
    · intro a w hs
      exact ⟨undef, hs.startF [10, 11, 12, 13, 14, 15, 16, 17, 18] [0, 1] [0, 1] rfl rfl rfl rfl⟩
    · intro L a w hv K Q hK
      obtain ⟨p1, hs⟩ := hv
      refine wpOp_go rfl rfl hs (OpT_loadC rfl rfl rfl rfl tyF22 (i := 0) rfl rfl) ?_
      rintro _ rfl a' w' hs'
      exact hK a' w' ⟨p1, hs'.putF (i := 3) rfl [0, 1] [0, 1] rfl rfl rfl rfl⟩
    · intro L a w hv K Q hK
      obtain ⟨p1, hs⟩ := hv
      refine wpOp_go rfl rfl hs (OpT_idxS rfl rfl rfl rfl rfl slF22 (i := 0) rfl hx1) ?_
      rintro _ ⟨p1', rfl⟩ a' w' hs'
      exact hK a' w' ⟨p1', hs'.putF (i := 4) rfl [0, 1] [0, 2] rfl rfl rfl rfl⟩
    · intro L a w hv K Q hK
      obtain ⟨p1, hs⟩ := hv
      refine wpOp_go rfl rfl hs (OpT_loadP rfl rfl rfl rfl tyF5 (i := 1) rfl rfl) ?_
      rintro _ rfl a' w' hs'
      exact hK a' w' ⟨p1, hs'.putF (i := 5) rfl [0, 1] [0, 1] rfl rfl rfl rfl⟩
    · intro L a w hv K Q hK
      obtain ⟨p1, hs⟩ := hv
      refine wpOp_go rfl rfl hs (OpT_move rfl rfl rfl rfl) ?_
      rintro _ rfl a' w' hs'
      exact hK a' w' ⟨p1, hs'.putF (i := 6) rfl [0, 1] [0, 1] rfl rfl rfl rfl⟩
    · intro L a w hv K Q hK
      obtain ⟨p1, hs⟩ := hv
      refine wpOp_go rfl rfl hs (OpT_callP [2, 1] (w_frame_ReadHdr_1 hx2) [0] [0] rfl rfl rfl rfl rfl callee44 rfl rfl rfl rfl rfl) ?_
      rintro _ ⟨_, _, _, ⟨rfl, rfl, rfl⟩, rfl⟩ a' w' hs'
      exact hK a' w' ⟨p1, hs'.putF (i := 7) rfl [0, 1] [0, 1] rfl rfl rfl rfl⟩
    · intro L a w hv K Q hK
      obtain ⟨p1, hs⟩ := hv
      refine wpOp_go rfl rfl hs (OpT_move rfl rfl rfl rfl) ?_
      rintro _ rfl a' w' hs'
      exact hK a' w' ⟨p1, hs'.putF (i := 8) rfl [0, 1] [0, 1] rfl rfl rfl rfl⟩
    · intro L a w hv K Q hK
      obtain ⟨p1, hs⟩ := hv
      refine wpOp_go rfl rfl hs (OpT_callP [2, 1] (w_frame_ReadHdr_1 hx3) [0] [0] rfl rfl rfl rfl rfl callee44 rfl rfl rfl rfl rfl) ?_
      rintro _ ⟨_, _, _, ⟨rfl, rfl, rfl⟩, rfl⟩ a' w' hs'
      exact hK a' w' ⟨p1, hs'.putF (i := 9) rfl [0, 1] [0, 1] rfl rfl rfl rfl⟩
    · intro L a w hv K Q hK
      obtain ⟨p1, hs⟩ := hv
      refine wpOp_go rfl rfl hs (OpT_move rfl rfl rfl rfl) ?_
      rintro _ rfl a' w' hs'
      exact hK a' w' ⟨p1, hs'.putF (i := 10) rfl [0, 1] [0, 1] rfl rfl rfl rfl⟩
    · intro L a w hv K Q hK
      obtain ⟨p1, hs⟩ := hv
      refine wpOp_go rfl rfl hs (OpT_callP [2, 1] (w_frame_ReadHdr_1 hx4) [0] [0] rfl rfl rfl rfl rfl callee44 rfl rfl rfl rfl rfl) ?_
      rintro _ ⟨_, _, _, ⟨rfl, rfl, rfl⟩, rfl⟩ a' w' hs'
      exact hK a' w' ⟨p1, hs'.putF (i := 11) rfl [0, 1] [0, 1] rfl rfl rfl rfl⟩
    · intro L a w hL hv
      rw [allTrue hL] at hv
      obtain ⟨p1, hs⟩ := hv
      refine (show TA _ _ _ 9 ⟨[(2, some (.pointer (some ⟨b2, 0, none⟩))), (12, some (vU8 y1)), (14, some (vU16 readhd1)), (16, some (vU16 readhd2)), (18, some (vU16 readhd3))], [some (cellsR b2 34 [vU8 (0 : UInt8), vU16 (0 : UInt16), vU16 (0 : UInt16), vU16 (0 : UInt16)])], []⟩ from ?_) a w (hs.wkS [2, 12, 14, 16, 18] [1] [] rfl rfl rfl rfl)
      clear hs hL
      refine TA_step htb (by kernel_rfl) rfl rfl (OpT_build (v := .agg #[vU8 y1, vU16 readhd1, vU16 readhd2, vU16 readhd3]) rfl rfl rfl rfl (bldV (by kernel_rfl))) ?_
      refine TA_step htb (by kernel_rfl) rfl rfl (OpT_storeC (cs' := [vU8 y1, vU16 readhd1, vU16 readhd2, vU16 readhd3]) rfl rfl rfl rfl tyF34 (i := 0) rfl rfl rfl (one_of rfl) rfl) ?_
      refine TA_step htb (by kernel_rfl) rfl rfl (OpT_assign rfl rfl rfl rfl) ?_
      refine TA_end rfl ?_
      refine Tk_wkS (fr' := [(2, some (.pointer (some ⟨b2, 0, none⟩))), (3, some (vI (0 : Int)))]) (own' := [some (cellsR b2 34 [vU8 y1, vU16 readhd1, vU16 readhd2, vU16 readhd3])]) (shr' := []) [2, 3] [0] [] rfl rfl rfl rfl ?_
      obtain rfl := Option.some.inj h
      exact Tk_retV rfl rfl (resA (vs := [.agg #[vU8 y1, vU16 readhd1, vU16 readhd2, vU16 readhd3], vI (0 : Int)]) rfl ⟨⟨_, 0, _, _, _, rfl, rfl, .inl ⟨tyF34, rfl, rfl⟩⟩, rfl, trivial⟩) [] [] rfl rfl rfl ⟨rfl, rfl, rfl⟩

set_option maxRecDepth 100000 in
set_option maxHeartbeats 4000000 in
theorem w_ref_Check23 {f : Frame} {vf1 : Value} {r : Int} (h : ref_Check23 f = some r) :
    Ctr Try.prog 27 #[.agg #[vU8 f.Dst.a0, vU8 f.Dst.a1, vU8 f.Dst.a2, vU8 f.Dst.a3, vU8 f.Dst.a4, vU8 f.Dst.a5, vU8 f.Src.a0, vU8 f.Src.a1, vU8 f.Src.a2, vU8 f.Src.a3, vU8 f.Src.a4, vU8 f.Src.a5, vI f.Vlan, vU16 f.Type_, vf1]] [] [Fact.sl u8S vf1 f.Data]
      (fun rv own shr => rv = vI r ∧ own = [] ∧ shr = []) := by
  unfold ref_Check23 at h
  refine Ctr.mk (args := [.agg #[vU8 f.Dst.a0, vU8 f.Dst.a1, vU8 f.Dst.a2, vU8 f.Dst.a3, vU8 f.Dst.a4, vU8 f.Dst.a5, vU8 f.Src.a0, vU8 f.Src.a1, vU8 f.Src.a2, vU8 f.Src.a3, vU8 f.Src.a4, vU8 f.Src.a5, vI f.Vlan, vU16 f.Type_, vf1]]) Try.func27 rfl rfl (fun R0 w0 B => ?_)
  refine Tk_seq ?_
  refine Tk_region ?_
  refine Tops_ex rfl (OpT_box rfl rfl rfl rfl) fun b1 => ?_
  refine Tops_step rfl (OpT_assign rfl rfl rfl rfl) ?_
  refine Tops_nil ?_
  refine Tk_wkS (fr' := [(1, some (.pointer (some ⟨b1, 0, none⟩)))]) (own' := [some (cellsR b1 38 [vU8 f.Dst.a0, vU8 f.Dst.a1, vU8 f.Dst.a2, vU8 f.Dst.a3, vU8 f.Dst.a4, vU8 f.Dst.a5, vU8 f.Src.a0, vU8 f.Src.a1, vU8 f.Src.a2, vU8 f.Src.a3, vU8 f.Src.a4, vU8 f.Src.a5, vI f.Vlan, vU16 f.Type_, vf1])]) (shr' := [Fact.sl u8S vf1 f.Data]) [1] [0] [0] rfl rfl rfl rfl ?_
  refine Tk_seq ?_
  refine Tk_seq ?_
  refine Tk_region ?_
  refine Tops_step rfl (OpT_fieldC rfl rfl rfl rfl fldF38x2) ?_
  refine Tops_step rfl (OpT_loadC rfl rfl rfl rfl tyF3 (i := 0) rfl rfl) ?_
  refine Tops_step rfl (OpT_bin rfl rfl rfl rfl rfl (bin_lss_i (a := f.Vlan) (b := ((-1) : Int)))) ?_
  refine Tops_step rfl (OpT_move rfl rfl rfl rfl) ?_
  rcases Bool.eq_false_or_eq_true (decide (f.Vlan < ((-1) : Int))) with hg1 | hg1
  · replace h := br_t hg1 h
    refine Tops_no rfl rfl (congrArg (fun b => some (Value.bool b)) hg1) rfl rfl ?_
    refine Tops_no rfl rfl (congrArg (fun b => some (Value.bool b)) hg1) rfl rfl ?_
    refine Tops_no rfl rfl (congrArg (fun b => some (Value.bool b)) hg1) rfl rfl ?_
    refine Tops_step rfl (OpT_pickT rfl rfl rfl (congrArg (fun b => some (Value.bool b)) hg1) rfl) ?_
    refine Tops_step rfl (OpT_move rfl rfl rfl rfl) ?_
    refine Tops_no rfl rfl rfl rfl rfl ?_
    refine Tops_no rfl rfl rfl rfl rfl ?_
    refine Tops_no rfl rfl rfl rfl rfl ?_
    refine Tops_step rfl (OpT_pickT rfl rfl rfl rfl rfl) ?_
    refine Tops_step rfl (OpT_move rfl rfl rfl rfl) ?_
    refine Tops_no rfl rfl rfl rfl rfl ?_
    refine Tops_no rfl rfl rfl rfl rfl ?_
    refine Tops_no rfl rfl rfl rfl rfl ?_
    refine Tops_no rfl rfl rfl rfl rfl ?_
    refine Tops_step rfl (OpT_pickT rfl rfl rfl rfl rfl) ?_
    refine Tops_nil ?_
    refine Tk_wkS (fr' := [(21, some (vB true))]) (own' := []) (shr' := []) [21] [] [] rfl rfl rfl rfl ?_
    refine Tk_condT rfl ?_
    refine Tk_seq ?_
    refine Tk_region ?_
    refine Tops_step rfl (OpT_assign rfl rfl rfl rfl) ?_
    refine Tops_nil ?_
    refine Tk_wkS (fr' := [(2, some (vI (2 : Int)))]) (own' := []) (shr' := []) [2] [] [] rfl rfl rfl rfl ?_
    obtain rfl := Option.some.inj h
    exact Tk_retV rfl rfl (resA (vs := [vI (2 : Int)]) rfl ⟨rfl, trivial⟩) [] [] rfl rfl rfl ⟨rfl, rfl, rfl⟩
  · replace h := br_f hg1 h
    refine Tops_yes rfl rfl (congrArg (fun b => some (Value.bool b)) hg1) (OpT_fieldC rfl rfl rfl rfl fldF38x2) ?_
    rintro _ rfl
    refine Tops_yes rfl rfl (congrArg (fun b => some (Value.bool b)) hg1) (OpT_loadC rfl rfl rfl rfl tyF3 (i := 0) rfl rfl) ?_
    rintro _ rfl
    refine Tops_yes rfl rfl (congrArg (fun b => some (Value.bool b)) hg1) (OpT_bin rfl rfl rfl rfl rfl (bin_gtr_i (a := f.Vlan) (b := (4095 : Int)))) ?_
    rintro _ rfl
    refine Tops_step rfl (OpT_pickF rfl rfl rfl (congrArg (fun b => some (Value.bool b)) hg1) rfl) ?_
    refine Tops_step rfl (OpT_move rfl rfl rfl rfl) ?_
    rcases Bool.eq_false_or_eq_true (decide (f.Vlan > (4095 : Int))) with hg2 | hg2
    · replace h := br_t hg2 h
      refine Tops_no rfl rfl (congrArg (fun b => some (Value.bool b)) hg2) rfl rfl ?_
      refine Tops_no rfl rfl (congrArg (fun b => some (Value.bool b)) hg2) rfl rfl ?_
      refine Tops_no rfl rfl (congrArg (fun b => some (Value.bool b)) hg2) rfl rfl ?_
      refine Tops_step rfl (OpT_pickT rfl rfl rfl (congrArg (fun b => some (Value.bool b)) hg2) rfl) ?_
      refine Tops_step rfl (OpT_move rfl rfl rfl rfl) ?_
      refine Tops_no rfl rfl rfl rfl rfl ?_
      refine Tops_no rfl rfl rfl rfl rfl ?_
      refine Tops_no rfl rfl rfl rfl rfl ?_
      refine Tops_no rfl rfl rfl rfl rfl ?_
      refine Tops_step rfl (OpT_pickT rfl rfl rfl rfl rfl) ?_
      refine Tops_nil ?_
      refine Tk_wkS (fr' := [(21, some (vB true))]) (own' := []) (shr' := []) [21] [] [] rfl rfl rfl rfl ?_
      refine Tk_condT rfl ?_
      refine Tk_seq ?_
      refine Tk_region ?_
      refine Tops_step rfl (OpT_assign rfl rfl rfl rfl) ?_
      refine Tops_nil ?_
      refine Tk_wkS (fr' := [(2, some (vI (2 : Int)))]) (own' := []) (shr' := []) [2] [] [] rfl rfl rfl rfl ?_
      obtain rfl := Option.some.inj h
      exact Tk_retV rfl rfl (resA (vs := [vI (2 : Int)]) rfl ⟨rfl, trivial⟩) [] [] rfl rfl rfl ⟨rfl, rfl, rfl⟩
    · replace h := br_f hg2 h
      refine Tops_yes rfl rfl (congrArg (fun b => some (Value.bool b)) hg2) (OpT_fieldC rfl rfl rfl rfl fldF38x3) ?_
      rintro _ rfl
      refine Tops_yes rfl rfl (congrArg (fun b => some (Value.bool b)) hg2) (OpT_loadC rfl rfl rfl rfl tyF24 (i := 0) rfl rfl) ?_
      rintro _ rfl
      refine Tops_yes rfl rfl (congrArg (fun b => some (Value.bool b)) hg2) (OpT_bin rfl rfl rfl rfl rfl (bin_eql_u16 (a := f.Type_) (b := (33024 : UInt16)))) ?_
      rintro _ rfl
      refine Tops_step rfl (OpT_pickF rfl rfl rfl (congrArg (fun b => some (Value.bool b)) hg2) rfl) ?_
      refine Tops_step rfl (OpT_move rfl rfl rfl rfl) ?_
      rcases Bool.eq_false_or_eq_true (f.Type_ == (33024 : UInt16)) with hg3 | hg3
      · replace h := br_t hg3 h
        refine Tops_no rfl rfl (congrArg (fun b => some (Value.bool b)) hg3) rfl rfl ?_
        refine Tops_no rfl rfl (congrArg (fun b => some (Value.bool b)) hg3) rfl rfl ?_
        refine Tops_no rfl rfl (congrArg (fun b => some (Value.bool b)) hg3) rfl rfl ?_
        refine Tops_no rfl rfl (congrArg (fun b => some (Value.bool b)) hg3) rfl rfl ?_
        refine Tops_step rfl (OpT_pickT rfl rfl rfl (congrArg (fun b => some (Value.bool b)) hg3) rfl) ?_
        refine Tops_nil ?_
        refine Tk_wkS (fr' := [(21, some (vB true))]) (own' := []) (shr' := []) [21] [] [] rfl rfl rfl rfl ?_
        refine Tk_condT rfl ?_
        refine Tk_seq ?_
        refine Tk_region ?_
        refine Tops_step rfl (OpT_assign rfl rfl rfl rfl) ?_
        refine Tops_nil ?_
        refine Tk_wkS (fr' := [(2, some (vI (2 : Int)))]) (own' := []) (shr' := []) [2] [] [] rfl rfl rfl rfl ?_
        obtain rfl := Option.some.inj h
        exact Tk_retV rfl rfl (resA (vs := [vI (2 : Int)]) rfl ⟨rfl, trivial⟩) [] [] rfl rfl rfl ⟨rfl, rfl, rfl⟩
      · replace h := br_f hg3 h
        refine Tops_yes rfl rfl (congrArg (fun b => some (Value.bool b)) hg3) (OpT_fieldC rfl rfl rfl rfl fldF38x4) ?_
        rintro _ rfl
        refine Tops_yes rfl rfl (congrArg (fun b => some (Value.bool b)) hg3) (OpT_loadC rfl rfl rfl rfl tyF22 (i := 0) rfl rfl) ?_
        rintro _ rfl
        refine Tops_yes rfl rfl (congrArg (fun b => some (Value.bool b)) hg3) (OpT_lenS rfl rfl rfl rfl Try.underlying22 (i := 0) rfl) ?_
        rintro _ rfl
        refine Tops_yes rfl rfl (congrArg (fun b => some (Value.bool b)) hg3) (OpT_bin rfl rfl rfl rfl rfl (bin_gtr_i (a := len f.Data) (b := (1500 : Int)))) ?_
        rintro _ rfl
        refine Tops_step rfl (OpT_pickF rfl rfl rfl (congrArg (fun b => some (Value.bool b)) hg3) rfl) ?_
        refine Tops_nil ?_
        refine Tk_wkS (fr' := [(21, some (vB (decide ((len f.Data) > (1500 : Int)))))]) (own' := []) (shr' := []) [21] [] [] rfl rfl rfl rfl ?_
        rcases Bool.eq_false_or_eq_true (decide ((len f.Data) > (1500 : Int))) with hg4 | hg4
        · replace h := br_t hg4 h
          refine Tk_condT (congrArg (fun b => some (Value.bool b)) hg4) ?_
          refine Tk_seq ?_
          refine Tk_region ?_
          refine Tops_step rfl (OpT_assign rfl rfl rfl rfl) ?_
          refine Tops_nil ?_
          refine Tk_wkS (fr' := [(2, some (vI (2 : Int)))]) (own' := []) (shr' := []) [2] [] [] rfl rfl rfl rfl ?_
          obtain rfl := Option.some.inj h
          exact Tk_retV rfl rfl (resA (vs := [vI (2 : Int)]) rfl ⟨rfl, trivial⟩) [] [] rfl rfl rfl ⟨rfl, rfl, rfl⟩
        · replace h := br_f hg4 h
          refine Tk_condF (congrArg (fun b => some (Value.bool b)) hg4) ?_
          refine Tk_skip ?_
          refine Tk_seq ?_
          refine Tk_region ?_
          refine Tops_step rfl (OpT_assign rfl rfl rfl rfl) ?_
          refine Tops_nil ?_
          refine Tk_wkS (fr' := [(2, some (vI (0 : Int)))]) (own' := []) (shr' := []) [2] [] [] rfl rfl rfl rfl ?_
          obtain rfl := Option.some.inj h
          exact Tk_retV rfl rfl (resA (vs := [vI (0 : Int)]) rfl ⟨rfl, trivial⟩) [] [] rfl rfl rfl ⟨rfl, rfl, rfl⟩

set_option maxRecDepth 100000 in
set_option maxHeartbeats 4000000 in
theorem w_ref_Read23 {b : List UInt8} {vb1 : Value} {r : (Frame × Int)} (h : ref_Read23 b = some r) :
    Ctr Try.prog 25 #[vb1] [] [Fact.sl u8S vb1 b]
      (fun rv own shr => ∃ (w1 : Value), rv = .tuple #[.agg #[vU8 r.1.Dst.a0, vU8 r.1.Dst.a1, vU8 r.1.Dst.a2, vU8 r.1.Dst.a3, vU8 r.1.Dst.a4, vU8 r.1.Dst.a5, vU8 r.1.Src.a0, vU8 r.1.Src.a1, vU8 r.1.Src.a2, vU8 r.1.Src.a3, vU8 r.1.Src.a4, vU8 r.1.Src.a5, vI r.1.Vlan, vU16 r.1.Type_, w1], vI r.2] ∧ own = [(rowS u8S w1 r.1.Data)] ∧ shr = []) := by
  unfold ref_Read23 at h
  refine Ctr.mk (args := [vb1]) Try.func25 rfl rfl (fun R0 w0 B => ?_)
  refine Tk_seq ?_
  refine Tk_region ?_
  refine Tops_ex rfl (OpT_alloc rfl rfl rfl tyZ38) fun b1 => ?_
  refine Tops_step rfl (OpT_assign rfl rfl rfl rfl) ?_
  refine Tops_nil ?_
  refine Tk_wkS (fr' := [(0, some (vb1)), (2, some (.pointer (some ⟨b1, 0, none⟩)))]) (own' := [some (cellsR b1 38 [vU8 (0 : UInt8), vU8 (0 : UInt8), vU8 (0 : UInt8), vU8 (0 : UInt8), vU8 (0 : UInt8), vU8 (0 : UInt8), vU8 (0 : UInt8), vU8 (0 : UInt8), vU8 (0 : UInt8), vU8 (0 : UInt8), vU8 (0 : UInt8), vU8 (0 : UInt8), vI (0 : Int), vU16 (0 : UInt16), .slice none 0 0])]) (shr' := [Fact.sl u8S vb1 b]) [0, 2] [0] [0] rfl rfl rfl rfl ?_
  refine Tk_seq ?_
  refine Tk_seq ?_
  refine Tk_region ?_
  refine Tops_step rfl (OpT_move rfl rfl rfl rfl) ?_
  refine Tops_step rfl (OpT_lenS rfl rfl rfl rfl Try.underlying22 (i := 0) rfl) ?_
  refine Tops_step rfl (OpT_bin rfl rfl rfl rfl rfl (bin_lss_i (a := len b) (b := (14 : Int)))) ?_
  refine Tops_nil ?_
  refine Tk_wkS (fr' := [(0, some (vb1)), (2, some (.pointer (some ⟨b1, 0, none⟩))), (9, some (vB (decide ((len b) < (14 : Int)))))]) (own' := [some (cellsR b1 38 [vU8 (0 : UInt8), vU8 (0 : UInt8), vU8 (0 : UInt8), vU8 (0 : UInt8), vU8 (0 : UInt8), vU8 (0 : UInt8), vU8 (0 : UInt8), vU8 (0 : UInt8), vU8 (0 : UInt8), vU8 (0 : UInt8), vU8 (0 : UInt8), vU8 (0 : UInt8), vI (0 : Int), vU16 (0 : UInt16), .slice none 0 0])]) (shr' := [Fact.sl u8S vb1 b]) [0, 2, 9] [0] [0] rfl rfl rfl rfl ?_
  rcases Bool.eq_false_or_eq_true (decide ((len b) < (14 : Int))) with hg1 | hg1
  · replace h := br_t hg1 h
    refine Tk_condT (congrArg (fun b => some (Value.bool b)) hg1) ?_
    refine Tk_seq ?_
    refine Tk_region ?_
    refine Tops_step rfl (OpT_build (v := .agg #[vU8 (0 : UInt8), vU8 (0 : UInt8), vU8 (0 : UInt8), vU8 (0 : UInt8), vU8 (0 : UInt8), vU8 (0 : UInt8), vU8 (0 : UInt8), vU8 (0 : UInt8), vU8 (0 : UInt8), vU8 (0 : UInt8), vU8 (0 : UInt8), vU8 (0 : UInt8), vI (0 : Int), vU16 (0 : UInt16), .slice none 0 0]) rfl rfl rfl rfl (bldV (by kernel_rfl))) ?_
    refine Tops_step rfl (OpT_storeC (cs' := [vU8 (0 : UInt8), vU8 (0 : UInt8), vU8 (0 : UInt8), vU8 (0 : UInt8), vU8 (0 : UInt8), vU8 (0 : UInt8), vU8 (0 : UInt8), vU8 (0 : UInt8), vU8 (0 : UInt8), vU8 (0 : UInt8), vU8 (0 : UInt8), vU8 (0 : UInt8), vI (0 : Int), vU16 (0 : UInt16), .slice none 0 0]) rfl rfl rfl rfl tyF38 (i := 0) rfl rfl rfl (one_of rfl) rfl) ?_
    refine Tops_step rfl (OpT_assign rfl rfl rfl rfl) ?_
    refine Tops_nil ?_
    refine Tk_wkS (fr' := [(2, some (.pointer (some ⟨b1, 0, none⟩))), (3, some (vI (4 : Int)))]) (own' := [some (cellsR b1 38 [vU8 (0 : UInt8), vU8 (0 : UInt8), vU8 (0 : UInt8), vU8 (0 : UInt8), vU8 (0 : UInt8), vU8 (0 : UInt8), vU8 (0 : UInt8), vU8 (0 : UInt8), vU8 (0 : UInt8), vU8 (0 : UInt8), vU8 (0 : UInt8), vU8 (0 : UInt8), vI (0 : Int), vU16 (0 : UInt16), .slice none 0 0])]) (shr' := []) [2, 3] [0] [] rfl rfl rfl rfl ?_
    refine Tk_nilrow u8S ?_
    obtain rfl := Option.some.inj h
    exact Tk_retV rfl rfl (resA (vs := [.agg #[vU8 (0 : UInt8), vU8 (0 : UInt8), vU8 (0 : UInt8), vU8 (0 : UInt8), vU8 (0 : UInt8), vU8 (0 : UInt8), vU8 (0 : UInt8), vU8 (0 : UInt8), vU8 (0 : UInt8), vU8 (0 : UInt8), vU8 (0 : UInt8), vU8 (0 : UInt8), vI (0 : Int), vU16 (0 : UInt16), .slice none 0 0], vI (4 : Int)]) rfl ⟨⟨_, 0, _, _, _, rfl, rfl, .inl ⟨tyF38, rfl, rfl⟩⟩, rfl, trivial⟩) [1] [] rfl rfl rfl ⟨(.slice none 0 0), rfl, rfl, rfl⟩
  · replace h := br_f hg1 h
    refine Tk_condF (congrArg (fun b => some (Value.bool b)) hg1) ?_
    refine Tk_skip ?_
    refine Tk_seq ?_
    refine Tk_region ?_
    refine Tops_step rfl (OpT_build (v := .agg #[vU8 (0 : UInt8), vU8 (0 : UInt8), vU8 (0 : UInt8), vU8 (0 : UInt8), vU8 (0 : UInt8), vU8 (0 : UInt8), vU8 (0 : UInt8), vU8 (0 : UInt8), vU8 (0 : UInt8), vU8 (0 : UInt8), vU8 (0 : UInt8), vU8 (0 : UInt8), vI ((-1) : Int), vU16 (0 : UInt16), .slice none 0 0]) rfl rfl rfl rfl (bldV (by kernel_rfl))) ?_
    refine Tops_ex rfl (OpT_alloc rfl rfl rfl tyZ38) fun b2 => ?_
    refine Tops_step rfl (OpT_storeC (cs' := [vU8 (0 : UInt8), vU8 (0 : UInt8), vU8 (0 : UInt8), vU8 (0 : UInt8), vU8 (0 : UInt8), vU8 (0 : UInt8), vU8 (0 : UInt8), vU8 (0 : UInt8), vU8 (0 : UInt8), vU8 (0 : UInt8), vU8 (0 : UInt8), vU8 (0 : UInt8), vI ((-1) : Int), vU16 (0 : UInt16), .slice none 0 0]) rfl rfl rfl rfl tyF38 (i := 1) rfl rfl rfl (one_of rfl) rfl) ?_
    refine Tops_nil ?_
    refine Tk_wkS (fr' := [(0, some (vb1)), (2, some (.pointer (some ⟨b1, 0, none⟩))), (4, some (.pointer (some ⟨b2, 0, none⟩)))]) (own' := [some (cellsR b1 38 [vU8 (0 : UInt8), vU8 (0 : UInt8), vU8 (0 : UInt8), vU8 (0 : UInt8), vU8 (0 : UInt8), vU8 (0 : UInt8), vU8 (0 : UInt8), vU8 (0 : UInt8), vU8 (0 : UInt8), vU8 (0 : UInt8), vU8 (0 : UInt8), vU8 (0 : UInt8), vI (0 : Int), vU16 (0 : UInt16), .slice none 0 0]), some (cellsR b2 38 [vU8 (0 : UInt8), vU8 (0 : UInt8), vU8 (0 : UInt8), vU8 (0 : UInt8), vU8 (0 : UInt8), vU8 (0 : UInt8), vU8 (0 : UInt8), vU8 (0 : UInt8), vU8 (0 : UInt8), vU8 (0 : UInt8), vU8 (0 : UInt8), vU8 (0 : UInt8), vI ((-1) : Int), vU16 (0 : UInt16), .slice none 0 0])]) (shr' := [Fact.sl u8S vb1 b]) [0, 2, 4] [0, 1] [0] rfl rfl rfl rfl ?_
    refine Tk_seq ?_
    refine Tk_seq ?_
    refine Tk_region ?_
    refine Tops_step rfl (OpT_assign rfl rfl rfl rfl) ?_
    refine Tops_nil ?_
    refine Tk_block ?_
    refine Tk_nilfact u8S ?_
    refine Tk_nilfact u8S ?_
    refine Tk_loopS (σ := (A6 UInt8) × (A6 UInt8) × Int × UInt16 × (List UInt8) × (A6 UInt8) × (A6 UInt8) × Int × UInt16 × (List UInt8) × Int × Value × Value) [0, 2, 4, 5] [0, 1] [0, 1, 2] (fun s => ⟨[(0, some (vb1)), (2, some (.pointer (some ⟨b1, 0, none⟩))), (4, some (.pointer (some ⟨b2, 0, none⟩))), (5, some (vI s.2.2.2.2.2.2.2.2.2.2.1))], [some (cellsR b1 38 [vU8 s.1.a0, vU8 s.1.a1, vU8 s.1.a2, vU8 s.1.a3, vU8 s.1.a4, vU8 s.1.a5, vU8 s.2.1.a0, vU8 s.2.1.a1, vU8 s.2.1.a2, vU8 s.2.1.a3, vU8 s.2.1.a4, vU8 s.2.1.a5, vI s.2.2.1, vU16 s.2.2.2.1, s.2.2.2.2.2.2.2.2.2.2.2.1]), some (cellsR b2 38 [vU8 s.2.2.2.2.2.1.a0, vU8 s.2.2.2.2.2.1.a1, vU8 s.2.2.2.2.2.1.a2, vU8 s.2.2.2.2.2.1.a3, vU8 s.2.2.2.2.2.1.a4, vU8 s.2.2.2.2.2.1.a5, vU8 s.2.2.2.2.2.2.1.a0, vU8 s.2.2.2.2.2.2.1.a1, vU8 s.2.2.2.2.2.2.1.a2, vU8 s.2.2.2.2.2.2.1.a3, vU8 s.2.2.2.2.2.2.1.a4, vU8 s.2.2.2.2.2.2.1.a5, vI s.2.2.2.2.2.2.2.1, vU16 s.2.2.2.2.2.2.2.2.1, s.2.2.2.2.2.2.2.2.2.2.2.2])], [Fact.sl u8S vb1 b, Fact.sl u8S s.2.2.2.2.2.2.2.2.2.2.2.1 s.2.2.2.2.1, Fact.sl u8S s.2.2.2.2.2.2.2.2.2.2.2.2 s.2.2.2.2.2.2.2.2.2.1]⟩) (fun nf s => ref_Read23L1 b nf s.1 s.2.1 s.2.2.1 s.2.2.2.1 s.2.2.2.2.1 s.2.2.2.2.2.1 s.2.2.2.2.2.2.1 s.2.2.2.2.2.2.2.1 s.2.2.2.2.2.2.2.2.1 s.2.2.2.2.2.2.2.2.2.1 s.2.2.2.2.2.2.2.2.2.2.1 = some r) fuel ((A6.mk (0 : UInt8) (0 : UInt8) (0 : UInt8) (0 : UInt8) (0 : UInt8) (0 : UInt8)), (A6.mk (0 : UInt8) (0 : UInt8) (0 : UInt8) (0 : UInt8) (0 : UInt8) (0 : UInt8)), (0 : Int), (0 : UInt16), ([] : List UInt8), (A6.mk (0 : UInt8) (0 : UInt8) (0 : UInt8) (0 : UInt8) (0 : UInt8) (0 : UInt8)), (A6.mk (0 : UInt8) (0 : UInt8) (0 : UInt8) (0 : UInt8) (0 : UInt8) (0 : UInt8)), ((-1) : Int), (0 : UInt16), ([] : List UInt8), (0 : Int), .slice none 0 0, .slice none 0 0) h rfl rfl rfl rfl rfl (fun s h => by cases h) ?_
    rintro nf ⟨Dst1, Src1, Vlan1, Type1, Data1, Dst2, Src2, Vlan2, Type2, Data2, i1, v1, v2⟩ h
    replace h : ref_Read23L1B b (ref_Read23L1 b nf) Dst1 Src1 Vlan1 Type1 Data1 Dst2 Src2 Vlan2 Type2 Data2 i1 = some r := h
    unfold ref_Read23L1B at h
    refine Tk_seq ?_
    refine Tk_seq ?_
    refine Tk_region ?_
    refine Tops_step rfl (OpT_move rfl rfl rfl rfl) ?_
    refine Tops_step rfl (OpT_bin rfl rfl rfl rfl rfl (bin_lss_i (a := i1) (b := (6 : Int)))) ?_
    refine Tops_nil ?_
    refine Tk_wkS (fr' := [(0, some (vb1)), (2, some (.pointer (some ⟨b1, 0, none⟩))), (4, some (.pointer (some ⟨b2, 0, none⟩))), (5, some (vI i1)), (13, some (vB (decide (i1 < (6 : Int)))))]) (own' := [some (cellsR b1 38 [vU8 Dst1.a0, vU8 Dst1.a1, vU8 Dst1.a2, vU8 Dst1.a3, vU8 Dst1.a4, vU8 Dst1.a5, vU8 Src1.a0, vU8 Src1.a1, vU8 Src1.a2, vU8 Src1.a3, vU8 Src1.a4, vU8 Src1.a5, vI Vlan1, vU16 Type1, v1]), some (cellsR b2 38 [vU8 Dst2.a0, vU8 Dst2.a1, vU8 Dst2.a2, vU8 Dst2.a3, vU8 Dst2.a4, vU8 Dst2.a5, vU8 Src2.a0, vU8 Src2.a1, vU8 Src2.a2, vU8 Src2.a3, vU8 Src2.a4, vU8 Src2.a5, vI Vlan2, vU16 Type2, v2])]) (shr' := [Fact.sl u8S vb1 b, Fact.sl u8S v1 Data1, Fact.sl u8S v2 Data2]) [0, 2, 4, 5, 13] [0, 1] [0, 1, 2] rfl rfl rfl rfl ?_
    rcases Bool.eq_false_or_eq_true (decide (i1 < (6 : Int))) with hg2 | hg2
    · replace h := br_t hg2 h
      refine Tk_condT (congrArg (fun b => some (Value.bool b)) hg2) ?_
      refine Tk_skip ?_
      refine Tk_seq ?_
      refine Tk_block ?_
      refine Tk_drawT (by kernel_rfl) ?_
      refine TA_tb [0, 0, 0, 0, 12, 28, 0, 0, 128, 448, 960, 0, 2109, 6205, 0, 32767, 65535] (by kernel_rfl) fun htb => ?_
      refine TA_wkS (fr' := [(0, some (vb1)), (2, some (.pointer (some ⟨b1, 0, none⟩))), (4, some (.pointer (some ⟨b2, 0, none⟩))), (5, some (vI i1))]) (own' := [some (cellsR b1 38 [vU8 Dst1.a0, vU8 Dst1.a1, vU8 Dst1.a2, vU8 Dst1.a3, vU8 Dst1.a4, vU8 Dst1.a5, vU8 Src1.a0, vU8 Src1.a1, vU8 Src1.a2, vU8 Src1.a3, vU8 Src1.a4, vU8 Src1.a5, vI Vlan1, vU16 Type1, v1]), some (cellsR b2 38 [vU8 Dst2.a0, vU8 Dst2.a1, vU8 Dst2.a2, vU8 Dst2.a3, vU8 Dst2.a4, vU8 Dst2.a5, vU8 Src2.a0, vU8 Src2.a1, vU8 Src2.a2, vU8 Src2.a3, vU8 Src2.a4, vU8 Src2.a5, vI Vlan2, vU16 Type2, v2])]) (shr' := [Fact.sl u8S vb1 b, Fact.sl u8S v1 Data1, Fact.sl u8S v2 Data2]) [0, 2, 4, 5] [0, 1] [0, 1, 2] rfl rfl rfl rfl ?_
      obtain ⟨y1, hx1, h⟩ := ob_e h
      obtain ⟨y2, hx2, h⟩ := ob_e h
      obtain ⟨hc1, h⟩ := chk_e h
      obtain ⟨hc2, h⟩ := chk_e h
      refine TA_seg (lo := 0) (hi := 15) htb rfl rfl (by kernel_rfl) (fun c L a w => ∃ (p1 : Value), ∃ (p2 : Value), Sat c ⟨[(0, some (vb1)), (2, some (.pointer (some ⟨b1, 0, none⟩))), (4, some (.pointer (some ⟨b2, 0, none⟩))), (5, some (vI i1)), (16, bif L 0 then some (vI i1) else none), (17, bif L 1 then some (vI i1) else none), (18, bif L 2 then some (vb1) else none), (19, bif L 3 then some (vI i1) else none), (20, bif L 4 then some (p1) else none), (21, bif L 5 then some (vU8 y1) else none), (22, bif L 6 then some (vb1) else none), (23, bif L 7 then some (vI i1) else none), (24, bif L 8 then some (vI (wi ((6 : Int) + i1))) else none), (25, bif L 9 then some (p2) else none), (26, bif L 10 then some (vU8 y2) else none), (27, bif L 11 then some (.pointer (some ⟨b2, 0, none⟩)) else none), (28, bif L 12 then some (.pointer (some ⟨b2, 0 + Int.toNat i1 * 1, none⟩)) else none), (29, bif L 14 then some (.pointer (some ⟨b2, 6, none⟩)) else none)], [(some (cellsR b1 38 [vU8 Dst1.a0, vU8 Dst1.a1, vU8 Dst1.a2, vU8 Dst1.a3, vU8 Dst1.a4, vU8 Dst1.a5, vU8 Src1.a0, vU8 Src1.a1, vU8 Src1.a2, vU8 Src1.a3, vU8 Src1.a4, vU8 Src1.a5, vI Vlan1, vU16 Type1, v1]) : Option Res), (bif L 13 then some (cellsR b2 38 [vU8 ((Dst2.st i1.toNat y1).a0), vU8 ((Dst2.st i1.toNat y1).a1), vU8 ((Dst2.st i1.toNat y1).a2), vU8 ((Dst2.st i1.toNat y1).a3), vU8 ((Dst2.st i1.toNat y1).a4), vU8 ((Dst2.st i1.toNat y1).a5), vU8 Src2.a0, vU8 Src2.a1, vU8 Src2.a2, vU8 Src2.a3, vU8 Src2.a4, vU8 Src2.a5, vI Vlan2, vU16 Type2, v2]) else some (cellsR b2 38 [vU8 Dst2.a0, vU8 Dst2.a1, vU8 Dst2.a2, vU8 Dst2.a3, vU8 Dst2.a4, vU8 Dst2.a5, vU8 Src2.a0, vU8 Src2.a1, vU8 Src2.a2, vU8 Src2.a3, vU8 Src2.a4, vU8 Src2.a5, vI Vlan2, vU16 Type2, v2]) : Option Res)], [Fact.sl u8S vb1 b, Fact.sl u8S v1 Data1, Fact.sl u8S v2 Data2, (bif L 4 then Fact.pt u8S p1 y1 else Fact.tt), (bif L 9 then Fact.pt u8S p2 y2 else Fact.tt)]⟩ a w) [([], [12, 13]), ([], []), ([], [4, 5, 12, 13]), ([], [4, 5, 12, 13]), ([2, 3], [5, 12, 13]), ([2, 3, 4], [12, 13]), ([], [9, 10]), ([], [8, 9, 10]), ([7], [9, 10]), ([6, 7, 8], [10]), ([6, 7, 8, 9], []), ([], [12, 13]), ([0, 2, 3, 4, 5, 11], [13]), ([0, 2, 3, 4, 5, 11, 12], []), ([], [])] rfl (by kernel_rfl) ?_ (steps_cons ?_ (steps_cons ?_ (steps_cons ?_ (steps_cons ?_ (steps_cons ?_ (steps_cons ?_ (steps_cons ?_ (steps_cons ?_ (steps_cons ?_ (steps_cons ?_ (steps_cons ?_ (steps_cons ?_ (steps_cons ?_ (steps_cons ?_ (steps_cons ?_ (steps_nil)))))))))))))))) ?_
      · intro a w hs
        exact ⟨undef, undef, hs.startF [16, 17, 18, 19, 20, 21, 22, 23, 24, 25, 26, 27, 28, 29] [0, 1] [0, 1, 2, 3, 4] rfl rfl rfl rfl⟩
      · intro L a w hv K Q hK
        obtain ⟨p1, p2, hs⟩ := hv
        refine wpOp_go rfl rfl hs (OpT_move rfl rfl rfl rfl) ?_
        rintro _ rfl a' w' hs'
        exact hK a' w' ⟨p1, p2, hs'.putF (i := 4) rfl [0, 1] [0, 1, 2, 3, 4] rfl rfl rfl rfl⟩
      · intro L a w hv K Q hK
        obtain ⟨p1, p2, hs⟩ := hv
        refine wpOp_go rfl rfl hs (OpT_move rfl rfl rfl rfl) ?_
        rintro _ rfl a' w' hs'
        exact hK a' w' ⟨p1, p2, hs'.putF (i := 5) rfl [0, 1] [0, 1, 2, 3, 4] rfl rfl rfl rfl⟩
      · intro L a w hv K Q hK
        obtain ⟨p1, p2, hs⟩ := hv
        refine wpOp_go rfl rfl hs (OpT_move rfl rfl rfl rfl) ?_
        rintro _ rfl a' w' hs'
        exact hK a' w' ⟨p1, p2, hs'.putF (i := 6) rfl [0, 1] [0, 1, 2, 3, 4] rfl rfl rfl rfl⟩
      · intro L a w hv K Q hK
        obtain ⟨p1, p2, hs⟩ := hv
        refine wpOp_go rfl rfl hs (OpT_move rfl rfl rfl rfl) ?_
        rintro _ rfl a' w' hs'
        exact hK a' w' ⟨p1, p2, hs'.putF (i := 7) rfl [0, 1] [0, 1, 2, 3, 4] rfl rfl rfl rfl⟩
      · intro L a w hv K Q hK
        obtain ⟨p1, p2, hs⟩ := hv
        refine wpOp_go rfl rfl hs (OpT_idxS rfl rfl rfl rfl rfl slF22 (i := 0) rfl hx1) ?_
        rintro _ ⟨p1', rfl⟩ a' w' hs'
        exact hK a' w' ⟨p1', p2, hs'.putF (i := 8) rfl [0, 1] [0, 1, 2, 5, 4] rfl rfl rfl rfl⟩
      · intro L a w hv K Q hK
        obtain ⟨p1, p2, hs⟩ := hv
        refine wpOp_go rfl rfl hs (OpT_loadP rfl rfl rfl rfl tyF5 (i := 3) rfl rfl) ?_
        rintro _ rfl a' w' hs'
        exact hK a' w' ⟨p1, p2, hs'.putF (i := 9) rfl [0, 1] [0, 1, 2, 3, 4] rfl rfl rfl rfl⟩
      · intro L a w hv K Q hK
        obtain ⟨p1, p2, hs⟩ := hv
        refine wpOp_go rfl rfl hs (OpT_move rfl rfl rfl rfl) ?_
        rintro _ rfl a' w' hs'
        exact hK a' w' ⟨p1, p2, hs'.putF (i := 10) rfl [0, 1] [0, 1, 2, 3, 4] rfl rfl rfl rfl⟩
      · intro L a w hv K Q hK
        obtain ⟨p1, p2, hs⟩ := hv
        refine wpOp_go rfl rfl hs (OpT_move rfl rfl rfl rfl) ?_
        rintro _ rfl a' w' hs'
        exact hK a' w' ⟨p1, p2, hs'.putF (i := 11) rfl [0, 1] [0, 1, 2, 3, 4] rfl rfl rfl rfl⟩
      · intro L a w hv K Q hK
        obtain ⟨p1, p2, hs⟩ := hv
        refine wpOp_go rfl rfl hs (OpT_bin rfl rfl rfl rfl rfl (bin_add_i (a := (6 : Int)) (b := i1))) ?_
        rintro _ rfl a' w' hs'
        exact hK a' w' ⟨p1, p2, hs'.putF (i := 12) rfl [0, 1] [0, 1, 2, 3, 4] rfl rfl rfl rfl⟩
      · intro L a w hv K Q hK
        obtain ⟨p1, p2, hs⟩ := hv
        refine wpOp_go rfl rfl hs (OpT_idxS rfl rfl rfl rfl rfl slF22 (i := 0) rfl hx2) ?_
        rintro _ ⟨p2', rfl⟩ a' w' hs'
        exact hK a' w' ⟨p1, p2', hs'.putF (i := 13) rfl [0, 1] [0, 1, 2, 3, 5] rfl rfl rfl rfl⟩
      · intro L a w hv K Q hK
        obtain ⟨p1, p2, hs⟩ := hv
        refine wpOp_go rfl rfl hs (OpT_loadP rfl rfl rfl rfl tyF5 (i := 4) rfl rfl) ?_
        rintro _ rfl a' w' hs'
        exact hK a' w' ⟨p1, p2, hs'.putF (i := 14) rfl [0, 1] [0, 1, 2, 3, 4] rfl rfl rfl rfl⟩
      · intro L a w hv K Q hK
        obtain ⟨p1, p2, hs⟩ := hv
        refine wpOp_go rfl rfl hs (OpT_fieldC rfl rfl rfl rfl fldF38x0) ?_
        rintro _ rfl a' w' hs'
        exact hK a' w' ⟨p1, p2, hs'.putF (i := 15) rfl [0, 1] [0, 1, 2, 3, 4] rfl rfl rfl rfl⟩
      · intro L a w hv K Q hK
        obtain ⟨p1, p2, hs⟩ := hv
        refine wpOp_go rfl rfl hs (OpT_indexC rfl rfl rfl rfl rfl arrF36 hc1) ?_
        rintro _ rfl a' w' hs'
        exact hK a' w' ⟨p1, p2, hs'.putF (i := 16) rfl [0, 1] [0, 1, 2, 3, 4] rfl rfl rfl rfl⟩
      · intro L a w hv K Q hK
        obtain ⟨p1, p2, hs⟩ := hv
        refine wpOp_go rfl rfl hs (OpT_storeX (fun x => [vU8 x]) [Dst2.a0, Dst2.a1, Dst2.a2, Dst2.a3, Dst2.a4, Dst2.a5] [(Dst2.st i1.toNat y1).a0, (Dst2.st i1.toNat y1).a1, (Dst2.st i1.toNat y1).a2, (Dst2.st i1.toNat y1).a3, (Dst2.st i1.toNat y1).a4, (Dst2.st i1.toNat y1).a5] [] [vU8 Src2.a0, vU8 Src2.a1, vU8 Src2.a2, vU8 Src2.a3, vU8 Src2.a4, vU8 Src2.a5, vI Vlan2, vU16 Type2, v2] (u := y1) (cs' := [vU8 ((Dst2.st i1.toNat y1).a0), vU8 ((Dst2.st i1.toNat y1).a1), vU8 ((Dst2.st i1.toNat y1).a2), vU8 ((Dst2.st i1.toNat y1).a3), vU8 ((Dst2.st i1.toNat y1).a4), vU8 ((Dst2.st i1.toNat y1).a5), vU8 Src2.a0, vU8 Src2.a1, vU8 Src2.a2, vU8 Src2.a3, vU8 Src2.a4, vU8 Src2.a5, vI Vlan2, vU16 Type2, v2]) rfl rfl rfl rfl tyF5 (i := 1) rfl (fun _ => rfl) (fun _ => rfl) rfl rfl rfl rfl hc2 (A6.st_set _ _ _)) ?_
        rintro _ rfl a' w' hs'
        exact hK a' w' ⟨p1, p2, hs'.sameF [0, 1] [0, 1, 2, 3, 4] rfl rfl rfl rfl⟩
      · intro L a w hv K Q hK
        obtain ⟨p1, p2, hs⟩ := hv
        refine wpOp_go rfl rfl hs (OpT_fieldC rfl rfl rfl rfl fldF38x1) ?_
        rintro _ rfl a' w' hs'
        exact hK a' w' ⟨p1, p2, hs'.putF (i := 17) rfl [0, 1] [0, 1, 2, 3, 4] rfl rfl rfl rfl⟩
      · intro L a w hL hv
        rw [allTrue hL] at hv
        obtain ⟨p1, p2, hs⟩ := hv
        refine (show TA _ _ _ 15 ⟨[(0, some (vb1)), (2, some (.pointer (some ⟨b1, 0, none⟩))), (4, some (.pointer (some ⟨b2, 0, none⟩))), (5, some (vI i1)), (17, some (vI i1)), (26, some (vU8 y2)), (29, some (.pointer (some ⟨b2, 6, none⟩)))], [some (cellsR b1 38 [vU8 Dst1.a0, vU8 Dst1.a1, vU8 Dst1.a2, vU8 Dst1.a3, vU8 Dst1.a4, vU8 Dst1.a5, vU8 Src1.a0, vU8 Src1.a1, vU8 Src1.a2, vU8 Src1.a3, vU8 Src1.a4, vU8 Src1.a5, vI Vlan1, vU16 Type1, v1]), some (cellsR b2 38 [vU8 ((Dst2.st i1.toNat y1).a0), vU8 ((Dst2.st i1.toNat y1).a1), vU8 ((Dst2.st i1.toNat y1).a2), vU8 ((Dst2.st i1.toNat y1).a3), vU8 ((Dst2.st i1.toNat y1).a4), vU8 ((Dst2.st i1.toNat y1).a5), vU8 Src2.a0, vU8 Src2.a1, vU8 Src2.a2, vU8 Src2.a3, vU8 Src2.a4, vU8 Src2.a5, vI Vlan2, vU16 Type2, v2])], [Fact.sl u8S vb1 b, Fact.sl u8S v1 Data1, Fact.sl u8S v2 Data2]⟩ from ?_) a w (hs.wkS [0, 2, 4, 5, 17, 26, 29] [0, 1] [0, 1, 2] rfl rfl rfl rfl)
        clear hs hL
        obtain ⟨hc3, h⟩ := chk_e h
        refine TA_step htb (by kernel_rfl) rfl rfl (OpT_indexC rfl rfl rfl rfl rfl arrF36 hc3) ?_
        obtain ⟨hc4, h⟩ := chk_e h
        refine TA_step htb (by kernel_rfl) rfl rfl (OpT_storeX (fun x => [vU8 x]) [Src2.a0, Src2.a1, Src2.a2, Src2.a3, Src2.a4, Src2.a5] [(Src2.st i1.toNat y2).a0, (Src2.st i1.toNat y2).a1, (Src2.st i1.toNat y2).a2, (Src2.st i1.toNat y2).a3, (Src2.st i1.toNat y2).a4, (Src2.st i1.toNat y2).a5] [vU8 ((Dst2.st i1.toNat y1).a0), vU8 ((Dst2.st i1.toNat y1).a1), vU8 ((Dst2.st i1.toNat y1).a2), vU8 ((Dst2.st i1.toNat y1).a3), vU8 ((Dst2.st i1.toNat y1).a4), vU8 ((Dst2.st i1.toNat y1).a5)] [vI Vlan2, vU16 Type2, v2] (u := y2) (cs' := [vU8 ((Dst2.st i1.toNat y1).a0), vU8 ((Dst2.st i1.toNat y1).a1), vU8 ((Dst2.st i1.toNat y1).a2), vU8 ((Dst2.st i1.toNat y1).a3), vU8 ((Dst2.st i1.toNat y1).a4), vU8 ((Dst2.st i1.toNat y1).a5), vU8 ((Src2.st i1.toNat y2).a0), vU8 ((Src2.st i1.toNat y2).a1), vU8 ((Src2.st i1.toNat y2).a2), vU8 ((Src2.st i1.toNat y2).a3), vU8 ((Src2.st i1.toNat y2).a4), vU8 ((Src2.st i1.toNat y2).a5), vI Vlan2, vU16 Type2, v2]) rfl rfl rfl rfl tyF5 (i := 1) rfl (fun _ => rfl) (fun _ => rfl) rfl rfl rfl rfl hc4 (A6.st_set _ _ _)) ?_
        refine TA_end rfl ?_
        refine Tk_wkS (fr' := [(0, some (vb1)), (2, some (.pointer (some ⟨b1, 0, none⟩))), (4, some (.pointer (some ⟨b2, 0, none⟩))), (5, some (vI i1))]) (own' := [some (cellsR b1 38 [vU8 Dst1.a0, vU8 Dst1.a1, vU8 Dst1.a2, vU8 Dst1.a3, vU8 Dst1.a4, vU8 Dst1.a5, vU8 Src1.a0, vU8 Src1.a1, vU8 Src1.a2, vU8 Src1.a3, vU8 Src1.a4, vU8 Src1.a5, vI Vlan1, vU16 Type1, v1]), some (cellsR b2 38 [vU8 ((Dst2.st i1.toNat y1).a0), vU8 ((Dst2.st i1.toNat y1).a1), vU8 ((Dst2.st i1.toNat y1).a2), vU8 ((Dst2.st i1.toNat y1).a3), vU8 ((Dst2.st i1.toNat y1).a4), vU8 ((Dst2.st i1.toNat y1).a5), vU8 ((Src2.st i1.toNat y2).a0), vU8 ((Src2.st i1.toNat y2).a1), vU8 ((Src2.st i1.toNat y2).a2), vU8 ((Src2.st i1.toNat y2).a3), vU8 ((Src2.st i1.toNat y2).a4), vU8 ((Src2.st i1.toNat y2).a5), vI Vlan2, vU16 Type2, v2])]) (shr' := [Fact.sl u8S vb1 b, Fact.sl u8S v1 Data1, Fact.sl u8S v2 Data2]) [0, 2, 4, 5] [0, 1] [0, 1, 2] rfl rfl rfl rfl ?_
        refine Tk_blk ?_
        refine Tk_region ?_
        refine Tops_step rfl (OpT_move rfl rfl rfl rfl) ?_
        refine Tops_step rfl (OpT_bin rfl rfl rfl rfl rfl (bin_add_i (a := i1) (b := (1 : Int)))) ?_
        refine Tops_step rfl (OpT_assign rfl rfl rfl rfl) ?_
        refine Tops_nil ?_
        refine Tk_wkS (fr' := [(0, some (vb1)), (2, some (.pointer (some ⟨b1, 0, none⟩))), (4, some (.pointer (some ⟨b2, 0, none⟩))), (5, some (vI (wi (i1 + (1 : Int)))))]) (own' := [some (cellsR b1 38 [vU8 Dst1.a0, vU8 Dst1.a1, vU8 Dst1.a2, vU8 Dst1.a3, vU8 Dst1.a4, vU8 Dst1.a5, vU8 Src1.a0, vU8 Src1.a1, vU8 Src1.a2, vU8 Src1.a3, vU8 Src1.a4, vU8 Src1.a5, vI Vlan1, vU16 Type1, v1]), some (cellsR b2 38 [vU8 ((Dst2.st i1.toNat y1).a0), vU8 ((Dst2.st i1.toNat y1).a1), vU8 ((Dst2.st i1.toNat y1).a2), vU8 ((Dst2.st i1.toNat y1).a3), vU8 ((Dst2.st i1.toNat y1).a4), vU8 ((Dst2.st i1.toNat y1).a5), vU8 ((Src2.st i1.toNat y2).a0), vU8 ((Src2.st i1.toNat y2).a1), vU8 ((Src2.st i1.toNat y2).a2), vU8 ((Src2.st i1.toNat y2).a3), vU8 ((Src2.st i1.toNat y2).a4), vU8 ((Src2.st i1.toNat y2).a5), vI Vlan2, vU16 Type2, v2])]) (shr' := [Fact.sl u8S vb1 b, Fact.sl u8S v1 Data1, Fact.sl u8S v2 Data2]) [0, 2, 4, 5] [0, 1] [0, 1, 2] rfl rfl rfl rfl ?_
        exact Tk_backS (Dst1, Src1, Vlan1, Type1, Data1, (Dst2.st i1.toNat y1), (Src2.st i1.toNat y2), Vlan2, Type2, Data2, wi (i1 + (1 : Int)), v1, v2) h [0, 2, 4, 5] [0, 1] [0, 1, 2] rfl rfl rfl rfl rfl
    · replace h := br_f hg2 h
      refine Tk_condF (congrArg (fun b => some (Value.bool b)) hg2) ?_
      refine Tk_exit _ rfl ?_
      refine Tk_seq ?_
      refine Tk_region ?_
      refine Tops_step rfl (OpT_assign rfl rfl rfl rfl) ?_
      refine Tops_nil ?_
      refine Tk_wkS (fr' := [(0, some (vb1)), (2, some (.pointer (some ⟨b1, 0, none⟩))), (4, some (.pointer (some ⟨b2, 0, none⟩))), (6, some (vI (12 : Int)))]) (own' := [some (cellsR b1 38 [vU8 Dst1.a0, vU8 Dst1.a1, vU8 Dst1.a2, vU8 Dst1.a3, vU8 Dst1.a4, vU8 Dst1.a5, vU8 Src1.a0, vU8 Src1.a1, vU8 Src1.a2, vU8 Src1.a3, vU8 Src1.a4, vU8 Src1.a5, vI Vlan1, vU16 Type1, v1]), some (cellsR b2 38 [vU8 Dst2.a0, vU8 Dst2.a1, vU8 Dst2.a2, vU8 Dst2.a3, vU8 Dst2.a4, vU8 Dst2.a5, vU8 Src2.a0, vU8 Src2.a1, vU8 Src2.a2, vU8 Src2.a3, vU8 Src2.a4, vU8 Src2.a5, vI Vlan2, vU16 Type2, v2])]) (shr' := [Fact.sl u8S vb1 b, Fact.sl u8S v1 Data1, Fact.sl u8S v2 Data2]) [0, 2, 4, 6] [0, 1] [0, 1, 2] rfl rfl rfl rfl ?_
      refine Tk_seq ?_
      refine Tk_seq ?_
      refine Tk_region ?_
      refine Tops_step rfl (OpT_move rfl rfl rfl rfl) ?_
      obtain ⟨y3, hx3, h⟩ := ob_e h
      refine Tops_ex rfl (OpT_idxS rfl rfl rfl rfl rfl slF22 (i := 0) rfl hx3) fun p3 => ?_
      refine Tops_step rfl (OpT_loadP rfl rfl rfl rfl tyF5 (i := 3) rfl rfl) ?_
      refine Tops_step rfl (OpT_bin rfl rfl rfl rfl rfl (bin_eql_u8 (a := y3) (b := (129 : UInt8)))) ?_
      refine Tops_step rfl (OpT_move rfl rfl rfl rfl) ?_
      rcases Bool.eq_false_or_eq_true (y3 == (129 : UInt8)) with hg3 | hg3
      · replace h := br_t hg3 h
        refine Tops_yes rfl rfl (congrArg (fun b => some (Value.bool b)) hg3) (OpT_move rfl rfl rfl rfl) ?_
        rintro _ rfl
        obtain ⟨y4, hx4, h⟩ := ob_e h
        refine Tops_yes rfl rfl (congrArg (fun b => some (Value.bool b)) hg3) (OpT_idxS rfl rfl rfl rfl rfl slF22 (i := 0) rfl hx4) ?_
        rintro _ ⟨p4, rfl⟩
        refine Tops_yes rfl rfl (congrArg (fun b => some (Value.bool b)) hg3) (OpT_loadP rfl rfl rfl rfl tyF5 (i := 4) rfl rfl) ?_
        rintro _ rfl
        refine Tops_yes rfl rfl (congrArg (fun b => some (Value.bool b)) hg3) (OpT_bin rfl rfl rfl rfl rfl (bin_eql_u8 (a := y4) (b := (0 : UInt8)))) ?_
        rintro _ rfl
        refine Tops_step rfl (OpT_pickT rfl rfl rfl (congrArg (fun b => some (Value.bool b)) hg3) rfl) ?_
        refine Tops_nil ?_
        refine Tk_wkS (fr' := [(0, some (vb1)), (2, some (.pointer (some ⟨b1, 0, none⟩))), (4, some (.pointer (some ⟨b2, 0, none⟩))), (6, some (vI (12 : Int))), (40, some (vB (y4 == (0 : UInt8))))]) (own' := [some (cellsR b1 38 [vU8 Dst1.a0, vU8 Dst1.a1, vU8 Dst1.a2, vU8 Dst1.a3, vU8 Dst1.a4, vU8 Dst1.a5, vU8 Src1.a0, vU8 Src1.a1, vU8 Src1.a2, vU8 Src1.a3, vU8 Src1.a4, vU8 Src1.a5, vI Vlan1, vU16 Type1, v1]), some (cellsR b2 38 [vU8 Dst2.a0, vU8 Dst2.a1, vU8 Dst2.a2, vU8 Dst2.a3, vU8 Dst2.a4, vU8 Dst2.a5, vU8 Src2.a0, vU8 Src2.a1, vU8 Src2.a2, vU8 Src2.a3, vU8 Src2.a4, vU8 Src2.a5, vI Vlan2, vU16 Type2, v2])]) (shr' := [Fact.sl u8S vb1 b, Fact.sl u8S v1 Data1, Fact.sl u8S v2 Data2]) [0, 2, 4, 6, 40] [0, 1] [0, 1, 2] rfl rfl rfl rfl ?_
        refine Tk_join (α := (A6 UInt8) × (A6 UInt8) × Int × UInt16 × (List UInt8) × (A6 UInt8) × (A6 UInt8) × Int × UInt16 × (List UInt8) × Int × Value × Value) (fun s => ⟨[(0, some (vb1)), (2, some (.pointer (some ⟨b1, 0, none⟩))), (4, some (.pointer (some ⟨b2, 0, none⟩))), (6, some (vI s.2.2.2.2.2.2.2.2.2.2.1))], [some (cellsR b1 38 [vU8 s.1.a0, vU8 s.1.a1, vU8 s.1.a2, vU8 s.1.a3, vU8 s.1.a4, vU8 s.1.a5, vU8 s.2.1.a0, vU8 s.2.1.a1, vU8 s.2.1.a2, vU8 s.2.1.a3, vU8 s.2.1.a4, vU8 s.2.1.a5, vI s.2.2.1, vU16 s.2.2.2.1, s.2.2.2.2.2.2.2.2.2.2.2.1]), some (cellsR b2 38 [vU8 s.2.2.2.2.2.1.a0, vU8 s.2.2.2.2.2.1.a1, vU8 s.2.2.2.2.2.1.a2, vU8 s.2.2.2.2.2.1.a3, vU8 s.2.2.2.2.2.1.a4, vU8 s.2.2.2.2.2.1.a5, vU8 s.2.2.2.2.2.2.1.a0, vU8 s.2.2.2.2.2.2.1.a1, vU8 s.2.2.2.2.2.2.1.a2, vU8 s.2.2.2.2.2.2.1.a3, vU8 s.2.2.2.2.2.2.1.a4, vU8 s.2.2.2.2.2.2.1.a5, vI s.2.2.2.2.2.2.2.1, vU16 s.2.2.2.2.2.2.2.2.1, s.2.2.2.2.2.2.2.2.2.2.2.2])], [Fact.sl u8S vb1 b, Fact.sl u8S s.2.2.2.2.2.2.2.2.2.2.2.1 s.2.2.2.2.1, Fact.sl u8S s.2.2.2.2.2.2.2.2.2.2.2.2 s.2.2.2.2.2.2.2.2.2.1]⟩) (fun s => ref_Read23J2 b s.1 s.2.1 s.2.2.1 s.2.2.2.1 s.2.2.2.2.1 s.2.2.2.2.2.1 s.2.2.2.2.2.2.1 s.2.2.2.2.2.2.2.1 s.2.2.2.2.2.2.2.2.1 s.2.2.2.2.2.2.2.2.2.1 s.2.2.2.2.2.2.2.2.2.2.1 = some r) ?_ ?_
        · rintro ⟨Dst3, Src3, Vlan3, Type3, Data3, Dst4, Src4, Vlan4, Type4, Data4, at1, v3, v4⟩ h
          replace h : ref_Read23J2 b Dst3 Src3 Vlan3 Type3 Data3 Dst4 Src4 Vlan4 Type4 Data4 at1 = some r := h
          unfold ref_Read23J2 at h
          refine Tk_seq ?_
          refine Tk_drawT (by kernel_rfl) ?_
          refine TA_tb [0, 0, 3, 7, 15, 31, 0, 0, 128, 448, 960, 1984, 4095, 8191, 16383] (by kernel_rfl) fun htb => ?_
          obtain ⟨y5, hx5, h⟩ := ob_e h
          obtain ⟨y6, hx6, h⟩ := ob_e h
          refine TA_seg (lo := 0) (hi := 12) htb rfl rfl (by kernel_rfl) (fun c L a w => ∃ (p5 : Value), ∃ (p6 : Value), Sat c ⟨[(0, some (vb1)), (2, some (.pointer (some ⟨b1, 0, none⟩))), (4, some (.pointer (some ⟨b2, 0, none⟩))), (6, some (vI at1)), (62, bif L 0 then some (vb1) else none), (63, bif L 1 then some (vI at1) else none), (64, bif L 2 then some (p5) else none), (65, bif L 3 then some (vU8 y5) else none), (66, bif L 4 then some (vU16 y5.toUInt16) else none), (67, bif L 5 then some (vU16 (shl16 y5.toUInt16 ((8 : UInt64).toNat))) else none), (68, bif L 6 then some (vb1) else none), (69, bif L 7 then some (vI at1) else none), (70, bif L 8 then some (vI (wi (at1 + (1 : Int)))) else none), (71, bif L 9 then some (p6) else none), (72, bif L 10 then some (vU8 y6) else none), (73, bif L 11 then some (vU16 y6.toUInt16) else none)], [(some (cellsR b1 38 [vU8 Dst3.a0, vU8 Dst3.a1, vU8 Dst3.a2, vU8 Dst3.a3, vU8 Dst3.a4, vU8 Dst3.a5, vU8 Src3.a0, vU8 Src3.a1, vU8 Src3.a2, vU8 Src3.a3, vU8 Src3.a4, vU8 Src3.a5, vI Vlan3, vU16 Type3, v3]) : Option Res), (some (cellsR b2 38 [vU8 Dst4.a0, vU8 Dst4.a1, vU8 Dst4.a2, vU8 Dst4.a3, vU8 Dst4.a4, vU8 Dst4.a5, vU8 Src4.a0, vU8 Src4.a1, vU8 Src4.a2, vU8 Src4.a3, vU8 Src4.a4, vU8 Src4.a5, vI Vlan4, vU16 Type4, v4]) : Option Res)], [Fact.sl u8S vb1 b, Fact.sl u8S v3 Data3, Fact.sl u8S v4 Data4, (bif L 2 then Fact.pt u8S p5 y5 else Fact.tt), (bif L 9 then Fact.pt u8S p6 y6 else Fact.tt)]⟩ a w) [([], [2, 3, 4, 5]), ([], [2, 3, 4, 5]), ([0, 1], [3, 4, 5]), ([0, 1, 2], [4, 5]), ([0, 1, 2, 3], [5]), ([0, 1, 2, 3, 4], []), ([], [9, 10, 11]), ([], [8, 9, 10, 11]), ([7], [9, 10, 11]), ([6, 7, 8], [10, 11]), ([6, 7, 8, 9], [11]), ([6, 7, 8, 9, 10], [])] rfl (by kernel_rfl) ?_ (steps_cons ?_ (steps_cons ?_ (steps_cons ?_ (steps_cons ?_ (steps_cons ?_ (steps_cons ?_ (steps_cons ?_ (steps_cons ?_ (steps_cons ?_ (steps_cons ?_ (steps_cons ?_ (steps_cons ?_ (steps_nil))))))))))))) ?_
          · intro a w hs
            exact ⟨undef, undef, hs.startF [62, 63, 64, 65, 66, 67, 68, 69, 70, 71, 72, 73] [0, 1] [0, 1, 2, 3, 4] rfl rfl rfl rfl⟩
          · intro L a w hv K Q hK
            obtain ⟨p5, p6, hs⟩ := hv
            refine wpOp_go rfl rfl hs (OpT_move rfl rfl rfl rfl) ?_
            rintro _ rfl a' w' hs'
            exact hK a' w' ⟨p5, p6, hs'.putF (i := 4) rfl [0, 1] [0, 1, 2, 3, 4] rfl rfl rfl rfl⟩
          · intro L a w hv K Q hK
            obtain ⟨p5, p6, hs⟩ := hv
            refine wpOp_go rfl rfl hs (OpT_move rfl rfl rfl rfl) ?_
            rintro _ rfl a' w' hs'
            exact hK a' w' ⟨p5, p6, hs'.putF (i := 5) rfl [0, 1] [0, 1, 2, 3, 4] rfl rfl rfl rfl⟩
          · intro L a w hv K Q hK
            obtain ⟨p5, p6, hs⟩ := hv
            refine wpOp_go rfl rfl hs (OpT_idxS rfl rfl rfl rfl rfl slF22 (i := 0) rfl hx5) ?_
            rintro _ ⟨p5', rfl⟩ a' w' hs'
            exact hK a' w' ⟨p5', p6, hs'.putF (i := 6) rfl [0, 1] [0, 1, 2, 5, 4] rfl rfl rfl rfl⟩
          · intro L a w hv K Q hK
            obtain ⟨p5, p6, hs⟩ := hv
            refine wpOp_go rfl rfl hs (OpT_loadP rfl rfl rfl rfl tyF5 (i := 3) rfl rfl) ?_
            rintro _ rfl a' w' hs'
            exact hK a' w' ⟨p5, p6, hs'.putF (i := 7) rfl [0, 1] [0, 1, 2, 3, 4] rfl rfl rfl rfl⟩
          · intro L a w hv K Q hK
            obtain ⟨p5, p6, hs⟩ := hv
            refine wpOp_go rfl rfl hs (OpT_cnv rfl rfl rfl rfl (cnv_u8_u16 (n := y5) Try.underlying5 Try.underlying24)) ?_
            rintro _ rfl a' w' hs'
            exact hK a' w' ⟨p5, p6, hs'.putF (i := 8) rfl [0, 1] [0, 1, 2, 3, 4] rfl rfl rfl rfl⟩
          · intro L a w hv K Q hK
            obtain ⟨p5, p6, hs⟩ := hv
            refine wpOp_go rfl rfl hs (OpT_bin rfl rfl rfl rfl rfl (bin_shl_u16_u64 (a := y5.toUInt16) (n := (8 : UInt64)))) ?_
            rintro _ rfl a' w' hs'
            exact hK a' w' ⟨p5, p6, hs'.putF (i := 9) rfl [0, 1] [0, 1, 2, 3, 4] rfl rfl rfl rfl⟩
          · intro L a w hv K Q hK
            obtain ⟨p5, p6, hs⟩ := hv
            refine wpOp_go rfl rfl hs (OpT_move rfl rfl rfl rfl) ?_
            rintro _ rfl a' w' hs'
            exact hK a' w' ⟨p5, p6, hs'.putF (i := 10) rfl [0, 1] [0, 1, 2, 3, 4] rfl rfl rfl rfl⟩
          · intro L a w hv K Q hK
            obtain ⟨p5, p6, hs⟩ := hv
            refine wpOp_go rfl rfl hs (OpT_move rfl rfl rfl rfl) ?_
            rintro _ rfl a' w' hs'
            exact hK a' w' ⟨p5, p6, hs'.putF (i := 11) rfl [0, 1] [0, 1, 2, 3, 4] rfl rfl rfl rfl⟩
          · intro L a w hv K Q hK
            obtain ⟨p5, p6, hs⟩ := hv
            refine wpOp_go rfl rfl hs (OpT_bin rfl rfl rfl rfl rfl (bin_add_i (a := at1) (b := (1 : Int)))) ?_
            rintro _ rfl a' w' hs'
            exact hK a' w' ⟨p5, p6, hs'.putF (i := 12) rfl [0, 1] [0, 1, 2, 3, 4] rfl rfl rfl rfl⟩
          · intro L a w hv K Q hK
            obtain ⟨p5, p6, hs⟩ := hv
            refine wpOp_go rfl rfl hs (OpT_idxS rfl rfl rfl rfl rfl slF22 (i := 0) rfl hx6) ?_
            rintro _ ⟨p6', rfl⟩ a' w' hs'
            exact hK a' w' ⟨p5, p6', hs'.putF (i := 13) rfl [0, 1] [0, 1, 2, 3, 5] rfl rfl rfl rfl⟩
          · intro L a w hv K Q hK
            obtain ⟨p5, p6, hs⟩ := hv
            refine wpOp_go rfl rfl hs (OpT_loadP rfl rfl rfl rfl tyF5 (i := 4) rfl rfl) ?_
            rintro _ rfl a' w' hs'
            exact hK a' w' ⟨p5, p6, hs'.putF (i := 14) rfl [0, 1] [0, 1, 2, 3, 4] rfl rfl rfl rfl⟩
          · intro L a w hv K Q hK
            obtain ⟨p5, p6, hs⟩ := hv
            refine wpOp_go rfl rfl hs (OpT_cnv rfl rfl rfl rfl (cnv_u8_u16 (n := y6) Try.underlying5 Try.underlying24)) ?_
            rintro _ rfl a' w' hs'
            exact hK a' w' ⟨p5, p6, hs'.putF (i := 15) rfl [0, 1] [0, 1, 2, 3, 4] rfl rfl rfl rfl⟩
          · intro L a w hL hv
            rw [allTrue hL] at hv
            obtain ⟨p5, p6, hs⟩ := hv
            refine (show TA _ _ _ 12 ⟨[(0, some (vb1)), (2, some (.pointer (some ⟨b1, 0, none⟩))), (4, some (.pointer (some ⟨b2, 0, none⟩))), (6, some (vI at1)), (67, some (vU16 (shl16 y5.toUInt16 ((8 : UInt64).toNat)))), (73, some (vU16 y6.toUInt16))], [some (cellsR b1 38 [vU8 Dst3.a0, vU8 Dst3.a1, vU8 Dst3.a2, vU8 Dst3.a3, vU8 Dst3.a4, vU8 Dst3.a5, vU8 Src3.a0, vU8 Src3.a1, vU8 Src3.a2, vU8 Src3.a3, vU8 Src3.a4, vU8 Src3.a5, vI Vlan3, vU16 Type3, v3]), some (cellsR b2 38 [vU8 Dst4.a0, vU8 Dst4.a1, vU8 Dst4.a2, vU8 Dst4.a3, vU8 Dst4.a4, vU8 Dst4.a5, vU8 Src4.a0, vU8 Src4.a1, vU8 Src4.a2, vU8 Src4.a3, vU8 Src4.a4, vU8 Src4.a5, vI Vlan4, vU16 Type4, v4])], [Fact.sl u8S vb1 b, Fact.sl u8S v3 Data3, Fact.sl u8S v4 Data4]⟩ from ?_) a w (hs.wkS [0, 2, 4, 6, 67, 73] [0, 1] [0, 1, 2] rfl rfl rfl rfl)
            clear hs hL
            refine TA_step htb (by kernel_rfl) rfl rfl (OpT_bin rfl rfl rfl rfl rfl (bin_or_u16 (a := shl16 y5.toUInt16 ((8 : UInt64).toNat)) (b := y6.toUInt16))) ?_
            refine TA_step htb (by kernel_rfl) rfl rfl (OpT_fieldC rfl rfl rfl rfl fldF38x3) ?_
            refine TA_step htb (by kernel_rfl) rfl rfl (OpT_storeC (cs' := [vU8 Dst4.a0, vU8 Dst4.a1, vU8 Dst4.a2, vU8 Dst4.a3, vU8 Dst4.a4, vU8 Dst4.a5, vU8 Src4.a0, vU8 Src4.a1, vU8 Src4.a2, vU8 Src4.a3, vU8 Src4.a4, vU8 Src4.a5, vI Vlan4, vU16 ((shl16 y5.toUInt16 ((8 : UInt64).toNat)) ||| y6.toUInt16), v4]) rfl rfl rfl rfl tyF24 (i := 1) rfl rfl rfl (one_of rfl) rfl) ?_
            refine TA_end rfl ?_
            refine Tk_wkS (fr' := [(0, some (vb1)), (2, some (.pointer (some ⟨b1, 0, none⟩))), (4, some (.pointer (some ⟨b2, 0, none⟩))), (6, some (vI at1))]) (own' := [some (cellsR b1 38 [vU8 Dst3.a0, vU8 Dst3.a1, vU8 Dst3.a2, vU8 Dst3.a3, vU8 Dst3.a4, vU8 Dst3.a5, vU8 Src3.a0, vU8 Src3.a1, vU8 Src3.a2, vU8 Src3.a3, vU8 Src3.a4, vU8 Src3.a5, vI Vlan3, vU16 Type3, v3]), some (cellsR b2 38 [vU8 Dst4.a0, vU8 Dst4.a1, vU8 Dst4.a2, vU8 Dst4.a3, vU8 Dst4.a4, vU8 Dst4.a5, vU8 Src4.a0, vU8 Src4.a1, vU8 Src4.a2, vU8 Src4.a3, vU8 Src4.a4, vU8 Src4.a5, vI Vlan4, vU16 ((shl16 y5.toUInt16 ((8 : UInt64).toNat)) ||| y6.toUInt16), v4])]) (shr' := [Fact.sl u8S vb1 b, Fact.sl u8S v3 Data3, Fact.sl u8S v4 Data4]) [0, 2, 4, 6] [0, 1] [0, 1, 2] rfl rfl rfl rfl ?_
            refine Tk_seq ?_
            refine Tk_region ?_
            refine Tops_ex rfl (OpT_buildSlice (S := u8S) (xs := ([] : List UInt8)) (css := []) (cs := []) (e := 5) rfl rfl rfl rfl (bldF slF22 (by decide) (by kernel_rfl)) rfl rfl rfl rfl (rel_plainD (S := u8S) (xs := ([] : List UInt8)) (css := []) rfl rfl)) fun v5 => ?_
            refine Tops_step rfl (OpT_move rfl rfl rfl rfl) ?_
            refine Tops_step rfl (OpT_move rfl rfl rfl rfl) ?_
            refine Tops_step rfl (OpT_bin rfl rfl rfl rfl rfl (bin_add_i (a := at1) (b := (2 : Int)))) ?_
            obtain ⟨hc5, h⟩ := chk_e h
            refine Tops_ex rfl (OpT_sliceL (l := wi (at1 + (2 : Int))) rfl rfl rfl rfl rfl slF22 (i := 0) rfl hc5) fun v6 => ?_
            obtain ⟨hc6, h⟩ := chk_e h
            refine Tops_ex rfl (OpT_append rfl rfl rfl rfl rfl slF22 (i := 2) (j := 3) rfl rfl hc6) fun v7 => ?_
            refine Tops_step rfl (OpT_fieldC rfl rfl rfl rfl fldF38x4) ?_
            refine Tops_step rfl (OpT_storeV (cs' := [vU8 Dst4.a0, vU8 Dst4.a1, vU8 Dst4.a2, vU8 Dst4.a3, vU8 Dst4.a4, vU8 Dst4.a5, vU8 Src4.a0, vU8 Src4.a1, vU8 Src4.a2, vU8 Src4.a3, vU8 Src4.a4, vU8 Src4.a5, vI Vlan4, vU16 ((shl16 y5.toUInt16 ((8 : UInt64).toNat)) ||| y6.toUInt16), v7]) rfl rfl rfl rfl tyF22 (i := 1) rfl (is_row (i := 2) rfl) rfl rfl) ?_
            refine Tops_nil ?_
            refine Tk_wkS (fr' := [(2, some (.pointer (some ⟨b1, 0, none⟩))), (4, some (.pointer (some ⟨b2, 0, none⟩)))]) (own' := [some (cellsR b1 38 [vU8 Dst3.a0, vU8 Dst3.a1, vU8 Dst3.a2, vU8 Dst3.a3, vU8 Dst3.a4, vU8 Dst3.a5, vU8 Src3.a0, vU8 Src3.a1, vU8 Src3.a2, vU8 Src3.a3, vU8 Src3.a4, vU8 Src3.a5, vI Vlan3, vU16 Type3, v3]), some (cellsR b2 38 [vU8 Dst4.a0, vU8 Dst4.a1, vU8 Dst4.a2, vU8 Dst4.a3, vU8 Dst4.a4, vU8 Dst4.a5, vU8 Src4.a0, vU8 Src4.a1, vU8 Src4.a2, vU8 Src4.a3, vU8 Src4.a4, vU8 Src4.a5, vI Vlan4, vU16 ((shl16 y5.toUInt16 ((8 : UInt64).toNat)) ||| y6.toUInt16), v7]), some (rowS u8S v7 (sub b (wi (at1 + (2 : Int))) (len b)))]) (shr' := [Fact.sl u8S v3 Data3]) [2, 4] [0, 1, 2] [1] rfl rfl rfl rfl ?_
            refine Tk_seq ?_
            refine Tk_seq ?_
            refine Tk_region ?_
            refine Tops_step rfl (OpT_loadCA (vs := [vU8 Dst4.a0, vU8 Dst4.a1, vU8 Dst4.a2, vU8 Dst4.a3, vU8 Dst4.a4, vU8 Dst4.a5, vU8 Src4.a0, vU8 Src4.a1, vU8 Src4.a2, vU8 Src4.a3, vU8 Src4.a4, vU8 Src4.a5, vI Vlan4, vU16 ((shl16 y5.toUInt16 ((8 : UInt64).toNat)) ||| y6.toUInt16), v7]) rfl rfl rfl rfl tyF38 (i := 1) rfl rfl rfl) ?_
            obtain ⟨check1, hx7, h⟩ := ob_e h
            refine Tops_exP rfl (OpT_callB [2] [0, 1, 2] (w_ref_Check23 hx7) [] rfl rfl rfl rfl rfl callee27 rfl rfl rfl rfl rfl rfl (bor_cons (bor_row 2 rfl rfl) bor_nil) (by rintro _ _ _ ⟨rfl, rfl, rfl⟩; exact ⟨rfl, ri_nil⟩)) ?_
            rintro _ ⟨_, _, _, ⟨rfl, rfl, rfl⟩, rfl⟩
            refine Tops_step rfl (OpT_bin rfl rfl rfl rfl rfl (bin_neq_i (a := check1) (b := (0 : Int)))) ?_
            refine Tops_nil ?_
            refine Tk_wkS (fr' := [(2, some (.pointer (some ⟨b1, 0, none⟩))), (4, some (.pointer (some ⟨b2, 0, none⟩))), (85, some (vB (check1 != (0 : Int))))]) (own' := [some (cellsR b1 38 [vU8 Dst3.a0, vU8 Dst3.a1, vU8 Dst3.a2, vU8 Dst3.a3, vU8 Dst3.a4, vU8 Dst3.a5, vU8 Src3.a0, vU8 Src3.a1, vU8 Src3.a2, vU8 Src3.a3, vU8 Src3.a4, vU8 Src3.a5, vI Vlan3, vU16 Type3, v3]), some (cellsR b2 38 [vU8 Dst4.a0, vU8 Dst4.a1, vU8 Dst4.a2, vU8 Dst4.a3, vU8 Dst4.a4, vU8 Dst4.a5, vU8 Src4.a0, vU8 Src4.a1, vU8 Src4.a2, vU8 Src4.a3, vU8 Src4.a4, vU8 Src4.a5, vI Vlan4, vU16 ((shl16 y5.toUInt16 ((8 : UInt64).toNat)) ||| y6.toUInt16), v7]), some (rowS u8S v7 (sub b (wi (at1 + (2 : Int))) (len b)))]) (shr' := [Fact.sl u8S v3 Data3]) [2, 4, 85] [0, 1, 2] [0] rfl rfl rfl rfl ?_
            rcases Bool.eq_false_or_eq_true (check1 != (0 : Int)) with hg4 | hg4
            · replace h := br_t hg4 h
              refine Tk_condT (congrArg (fun b => some (Value.bool b)) hg4) ?_
              refine Tk_seq ?_
              refine Tk_region ?_
              refine Tops_step rfl (OpT_build (v := .agg #[vU8 (0 : UInt8), vU8 (0 : UInt8), vU8 (0 : UInt8), vU8 (0 : UInt8), vU8 (0 : UInt8), vU8 (0 : UInt8), vU8 (0 : UInt8), vU8 (0 : UInt8), vU8 (0 : UInt8), vU8 (0 : UInt8), vU8 (0 : UInt8), vU8 (0 : UInt8), vI (0 : Int), vU16 (0 : UInt16), .slice none 0 0]) rfl rfl rfl rfl (bldV (by kernel_rfl))) ?_
              refine Tops_step rfl (OpT_storeC (cs' := [vU8 (0 : UInt8), vU8 (0 : UInt8), vU8 (0 : UInt8), vU8 (0 : UInt8), vU8 (0 : UInt8), vU8 (0 : UInt8), vU8 (0 : UInt8), vU8 (0 : UInt8), vU8 (0 : UInt8), vU8 (0 : UInt8), vU8 (0 : UInt8), vU8 (0 : UInt8), vI (0 : Int), vU16 (0 : UInt16), .slice none 0 0]) rfl rfl rfl rfl tyF38 (i := 0) rfl rfl rfl (one_of rfl) rfl) ?_
              refine Tops_step rfl (OpT_assign rfl rfl rfl rfl) ?_
              refine Tops_nil ?_
              refine Tk_wkS (fr' := [(2, some (.pointer (some ⟨b1, 0, none⟩))), (3, some (vI (4 : Int)))]) (own' := [some (cellsR b1 38 [vU8 (0 : UInt8), vU8 (0 : UInt8), vU8 (0 : UInt8), vU8 (0 : UInt8), vU8 (0 : UInt8), vU8 (0 : UInt8), vU8 (0 : UInt8), vU8 (0 : UInt8), vU8 (0 : UInt8), vU8 (0 : UInt8), vU8 (0 : UInt8), vU8 (0 : UInt8), vI (0 : Int), vU16 (0 : UInt16), .slice none 0 0])]) (shr' := []) [2, 3] [0] [] rfl rfl rfl rfl ?_
              refine Tk_nilrow u8S ?_
              obtain rfl := Option.some.inj h
              exact Tk_retV rfl rfl (resA (vs := [.agg #[vU8 (0 : UInt8), vU8 (0 : UInt8), vU8 (0 : UInt8), vU8 (0 : UInt8), vU8 (0 : UInt8), vU8 (0 : UInt8), vU8 (0 : UInt8), vU8 (0 : UInt8), vU8 (0 : UInt8), vU8 (0 : UInt8), vU8 (0 : UInt8), vU8 (0 : UInt8), vI (0 : Int), vU16 (0 : UInt16), .slice none 0 0], vI (4 : Int)]) rfl ⟨⟨_, 0, _, _, _, rfl, rfl, .inl ⟨tyF38, rfl, rfl⟩⟩, rfl, trivial⟩) [1] [] rfl rfl rfl ⟨(.slice none 0 0), rfl, rfl, rfl⟩
            · replace h := br_f hg4 h
              refine Tk_condF (congrArg (fun b => some (Value.bool b)) hg4) ?_
              refine Tk_skip ?_
              refine Tk_seq ?_
              refine Tk_region ?_
              refine Tops_step rfl (OpT_loadCA (vs := [vU8 Dst4.a0, vU8 Dst4.a1, vU8 Dst4.a2, vU8 Dst4.a3, vU8 Dst4.a4, vU8 Dst4.a5, vU8 Src4.a0, vU8 Src4.a1, vU8 Src4.a2, vU8 Src4.a3, vU8 Src4.a4, vU8 Src4.a5, vI Vlan4, vU16 ((shl16 y5.toUInt16 ((8 : UInt64).toNat)) ||| y6.toUInt16), v7]) rfl rfl rfl rfl tyF38 (i := 1) rfl rfl rfl) ?_
              refine Tops_step rfl (OpT_storeA1 (fun z0 => [vU8 Dst4.a0, vU8 Dst4.a1, vU8 Dst4.a2, vU8 Dst4.a3, vU8 Dst4.a4, vU8 Dst4.a5, vU8 Src4.a0, vU8 Src4.a1, vU8 Src4.a2, vU8 Src4.a3, vU8 Src4.a4, vU8 Src4.a5, vI Vlan4, vU16 ((shl16 y5.toUInt16 ((8 : UInt64).toNat)) ||| y6.toUInt16), z0]) (cs' := [vU8 Dst4.a0, vU8 Dst4.a1, vU8 Dst4.a2, vU8 Dst4.a3, vU8 Dst4.a4, vU8 Dst4.a5, vU8 Src4.a0, vU8 Src4.a1, vU8 Src4.a2, vU8 Src4.a3, vU8 Src4.a4, vU8 Src4.a5, vI Vlan4, vU16 ((shl16 y5.toUInt16 ((8 : UInt64).toNat)) ||| y6.toUInt16), v7]) rfl rfl rfl rfl tyF38 (i := 0) rfl (is_row (i := 2) rfl) (fun _ _ _ => rfl) rfl rfl rfl) ?_
              refine Tops_step rfl (OpT_assign rfl rfl rfl rfl) ?_
              refine Tops_nil ?_
              refine Tk_wkS (fr' := [(2, some (.pointer (some ⟨b1, 0, none⟩))), (3, some (vI (0 : Int)))]) (own' := [some (cellsR b1 38 [vU8 Dst4.a0, vU8 Dst4.a1, vU8 Dst4.a2, vU8 Dst4.a3, vU8 Dst4.a4, vU8 Dst4.a5, vU8 Src4.a0, vU8 Src4.a1, vU8 Src4.a2, vU8 Src4.a3, vU8 Src4.a4, vU8 Src4.a5, vI Vlan4, vU16 ((shl16 y5.toUInt16 ((8 : UInt64).toNat)) ||| y6.toUInt16), v7]), some (rowS u8S v7 (sub b (wi (at1 + (2 : Int))) (len b)))]) (shr' := []) [2, 3] [0, 2] [] rfl rfl rfl rfl ?_
              obtain rfl := Option.some.inj h
              exact Tk_retV rfl rfl (resA (vs := [.agg #[vU8 Dst4.a0, vU8 Dst4.a1, vU8 Dst4.a2, vU8 Dst4.a3, vU8 Dst4.a4, vU8 Dst4.a5, vU8 Src4.a0, vU8 Src4.a1, vU8 Src4.a2, vU8 Src4.a3, vU8 Src4.a4, vU8 Src4.a5, vI Vlan4, vU16 ((shl16 y5.toUInt16 ((8 : UInt64).toNat)) ||| y6.toUInt16), v7], vI (0 : Int)]) rfl ⟨⟨_, 0, _, _, _, rfl, rfl, .inl ⟨tyF38, rfl, rfl⟩⟩, rfl, trivial⟩) [1] [] rfl rfl rfl ⟨v7, rfl, rfl, rfl⟩
        · intro HJ1
          rcases Bool.eq_false_or_eq_true (y4 == (0 : UInt8)) with hg5 | hg5
          · replace h := br_t hg5 h
            refine Tk_condT (congrArg (fun b => some (Value.bool b)) hg5) ?_
            refine Tk_seq ?_
            refine Tk_seq ?_
            refine Tk_region ?_
            refine Tops_step rfl (OpT_move rfl rfl rfl rfl) ?_
            refine Tops_step rfl (OpT_lenS rfl rfl rfl rfl Try.underlying22 (i := 0) rfl) ?_
            refine Tops_step rfl (OpT_bin rfl rfl rfl rfl rfl (bin_lss_i (a := len b) (b := (18 : Int)))) ?_
            refine Tops_step rfl (OpT_move rfl rfl rfl rfl) ?_
            rcases Bool.eq_false_or_eq_true (decide ((len b) < (18 : Int))) with hg6 | hg6
            · replace h := br_t hg6 h
              refine Tops_no rfl rfl (congrArg (fun b => some (Value.bool b)) hg6) rfl rfl ?_
              refine Tops_no rfl rfl (congrArg (fun b => some (Value.bool b)) hg6) rfl rfl ?_
              refine Tops_no rfl rfl (congrArg (fun b => some (Value.bool b)) hg6) rfl rfl ?_
              refine Tops_no rfl rfl (congrArg (fun b => some (Value.bool b)) hg6) rfl rfl ?_
              refine Tops_step rfl (OpT_pickT rfl rfl rfl (congrArg (fun b => some (Value.bool b)) hg6) rfl) ?_
              refine Tops_nil ?_
              refine Tk_wkS (fr' := [(0, some (vb1)), (2, some (.pointer (some ⟨b1, 0, none⟩))), (4, some (.pointer (some ⟨b2, 0, none⟩))), (49, some (vB true))]) (own' := [some (cellsR b1 38 [vU8 Dst1.a0, vU8 Dst1.a1, vU8 Dst1.a2, vU8 Dst1.a3, vU8 Dst1.a4, vU8 Dst1.a5, vU8 Src1.a0, vU8 Src1.a1, vU8 Src1.a2, vU8 Src1.a3, vU8 Src1.a4, vU8 Src1.a5, vI Vlan1, vU16 Type1, v1]), some (cellsR b2 38 [vU8 Dst2.a0, vU8 Dst2.a1, vU8 Dst2.a2, vU8 Dst2.a3, vU8 Dst2.a4, vU8 Dst2.a5, vU8 Src2.a0, vU8 Src2.a1, vU8 Src2.a2, vU8 Src2.a3, vU8 Src2.a4, vU8 Src2.a5, vI Vlan2, vU16 Type2, v2])]) (shr' := [Fact.sl u8S vb1 b, Fact.sl u8S v1 Data1, Fact.sl u8S v2 Data2]) [0, 2, 4, 49] [0, 1] [0, 1, 2] rfl rfl rfl rfl ?_
              refine Tk_condT rfl ?_
              refine Tk_seq ?_
              refine Tk_region ?_
              refine Tops_step rfl (OpT_build (v := .agg #[vU8 (0 : UInt8), vU8 (0 : UInt8), vU8 (0 : UInt8), vU8 (0 : UInt8), vU8 (0 : UInt8), vU8 (0 : UInt8), vU8 (0 : UInt8), vU8 (0 : UInt8), vU8 (0 : UInt8), vU8 (0 : UInt8), vU8 (0 : UInt8), vU8 (0 : UInt8), vI (0 : Int), vU16 (0 : UInt16), .slice none 0 0]) rfl rfl rfl rfl (bldV (by kernel_rfl))) ?_
              refine Tops_step rfl (OpT_storeC (cs' := [vU8 (0 : UInt8), vU8 (0 : UInt8), vU8 (0 : UInt8), vU8 (0 : UInt8), vU8 (0 : UInt8), vU8 (0 : UInt8), vU8 (0 : UInt8), vU8 (0 : UInt8), vU8 (0 : UInt8), vU8 (0 : UInt8), vU8 (0 : UInt8), vU8 (0 : UInt8), vI (0 : Int), vU16 (0 : UInt16), .slice none 0 0]) rfl rfl rfl rfl tyF38 (i := 0) rfl rfl rfl (one_of rfl) rfl) ?_
              refine Tops_step rfl (OpT_assign rfl rfl rfl rfl) ?_
              refine Tops_nil ?_
              refine Tk_wkS (fr' := [(2, some (.pointer (some ⟨b1, 0, none⟩))), (3, some (vI (4 : Int)))]) (own' := [some (cellsR b1 38 [vU8 (0 : UInt8), vU8 (0 : UInt8), vU8 (0 : UInt8), vU8 (0 : UInt8), vU8 (0 : UInt8), vU8 (0 : UInt8), vU8 (0 : UInt8), vU8 (0 : UInt8), vU8 (0 : UInt8), vU8 (0 : UInt8), vU8 (0 : UInt8), vU8 (0 : UInt8), vI (0 : Int), vU16 (0 : UInt16), .slice none 0 0])]) (shr' := []) [2, 3] [0] [] rfl rfl rfl rfl ?_
              refine Tk_nilrow u8S ?_
              obtain rfl := Option.some.inj h
              exact Tk_retV rfl rfl (resA (vs := [.agg #[vU8 (0 : UInt8), vU8 (0 : UInt8), vU8 (0 : UInt8), vU8 (0 : UInt8), vU8 (0 : UInt8), vU8 (0 : UInt8), vU8 (0 : UInt8), vU8 (0 : UInt8), vU8 (0 : UInt8), vU8 (0 : UInt8), vU8 (0 : UInt8), vU8 (0 : UInt8), vI (0 : Int), vU16 (0 : UInt16), .slice none 0 0], vI (4 : Int)]) rfl ⟨⟨_, 0, _, _, _, rfl, rfl, .inl ⟨tyF38, rfl, rfl⟩⟩, rfl, trivial⟩) [1] [] rfl rfl rfl ⟨(.slice none 0 0), rfl, rfl, rfl⟩
            · replace h := br_f hg6 h
              refine Tops_yes rfl rfl (congrArg (fun b => some (Value.bool b)) hg6) (OpT_move rfl rfl rfl rfl) ?_
              rintro _ rfl
              obtain ⟨y7, hx8, h⟩ := ob_e h
              refine Tops_yes rfl rfl (congrArg (fun b => some (Value.bool b)) hg6) (OpT_idxS rfl rfl rfl rfl rfl slF22 (i := 0) rfl hx8) ?_
              rintro _ ⟨p7, rfl⟩
              refine Tops_yes rfl rfl (congrArg (fun b => some (Value.bool b)) hg6) (OpT_loadP rfl rfl rfl rfl tyF5 (i := 3) rfl rfl) ?_
              rintro _ rfl
              refine Tops_yes rfl rfl (congrArg (fun b => some (Value.bool b)) hg6) (OpT_bin rfl rfl rfl rfl rfl (bin_gtr_u8 (a := y7) (b := (15 : UInt8)))) ?_
              rintro _ rfl
              refine Tops_step rfl (OpT_pickF rfl rfl rfl (congrArg (fun b => some (Value.bool b)) hg6) rfl) ?_
              refine Tops_nil ?_
              refine Tk_wkS (fr' := [(0, some (vb1)), (2, some (.pointer (some ⟨b1, 0, none⟩))), (4, some (.pointer (some ⟨b2, 0, none⟩))), (49, some (vB (decide (y7 > (15 : UInt8)))))]) (own' := [some (cellsR b1 38 [vU8 Dst1.a0, vU8 Dst1.a1, vU8 Dst1.a2, vU8 Dst1.a3, vU8 Dst1.a4, vU8 Dst1.a5, vU8 Src1.a0, vU8 Src1.a1, vU8 Src1.a2, vU8 Src1.a3, vU8 Src1.a4, vU8 Src1.a5, vI Vlan1, vU16 Type1, v1]), some (cellsR b2 38 [vU8 Dst2.a0, vU8 Dst2.a1, vU8 Dst2.a2, vU8 Dst2.a3, vU8 Dst2.a4, vU8 Dst2.a5, vU8 Src2.a0, vU8 Src2.a1, vU8 Src2.a2, vU8 Src2.a3, vU8 Src2.a4, vU8 Src2.a5, vI Vlan2, vU16 Type2, v2])]) (shr' := [Fact.sl u8S vb1 b, Fact.sl u8S v1 Data1, Fact.sl u8S v2 Data2]) [0, 2, 4, 49] [0, 1] [0, 1, 2] rfl rfl rfl rfl ?_
              rcases Bool.eq_false_or_eq_true (decide (y7 > (15 : UInt8))) with hg7 | hg7
              · replace h := br_t hg7 h
                refine Tk_condT (congrArg (fun b => some (Value.bool b)) hg7) ?_
                refine Tk_seq ?_
                refine Tk_region ?_
                refine Tops_step rfl (OpT_build (v := .agg #[vU8 (0 : UInt8), vU8 (0 : UInt8), vU8 (0 : UInt8), vU8 (0 : UInt8), vU8 (0 : UInt8), vU8 (0 : UInt8), vU8 (0 : UInt8), vU8 (0 : UInt8), vU8 (0 : UInt8), vU8 (0 : UInt8), vU8 (0 : UInt8), vU8 (0 : UInt8), vI (0 : Int), vU16 (0 : UInt16), .slice none 0 0]) rfl rfl rfl rfl (bldV (by kernel_rfl))) ?_
                refine Tops_step rfl (OpT_storeC (cs' := [vU8 (0 : UInt8), vU8 (0 : UInt8), vU8 (0 : UInt8), vU8 (0 : UInt8), vU8 (0 : UInt8), vU8 (0 : UInt8), vU8 (0 : UInt8), vU8 (0 : UInt8), vU8 (0 : UInt8), vU8 (0 : UInt8), vU8 (0 : UInt8), vU8 (0 : UInt8), vI (0 : Int), vU16 (0 : UInt16), .slice none 0 0]) rfl rfl rfl rfl tyF38 (i := 0) rfl rfl rfl (one_of rfl) rfl) ?_
                refine Tops_step rfl (OpT_assign rfl rfl rfl rfl) ?_
                refine Tops_nil ?_
                refine Tk_wkS (fr' := [(2, some (.pointer (some ⟨b1, 0, none⟩))), (3, some (vI (4 : Int)))]) (own' := [some (cellsR b1 38 [vU8 (0 : UInt8), vU8 (0 : UInt8), vU8 (0 : UInt8), vU8 (0 : UInt8), vU8 (0 : UInt8), vU8 (0 : UInt8), vU8 (0 : UInt8), vU8 (0 : UInt8), vU8 (0 : UInt8), vU8 (0 : UInt8), vU8 (0 : UInt8), vU8 (0 : UInt8), vI (0 : Int), vU16 (0 : UInt16), .slice none 0 0])]) (shr' := []) [2, 3] [0] [] rfl rfl rfl rfl ?_
                refine Tk_nilrow u8S ?_
                obtain rfl := Option.some.inj h
                exact Tk_retV rfl rfl (resA (vs := [.agg #[vU8 (0 : UInt8), vU8 (0 : UInt8), vU8 (0 : UInt8), vU8 (0 : UInt8), vU8 (0 : UInt8), vU8 (0 : UInt8), vU8 (0 : UInt8), vU8 (0 : UInt8), vU8 (0 : UInt8), vU8 (0 : UInt8), vU8 (0 : UInt8), vU8 (0 : UInt8), vI (0 : Int), vU16 (0 : UInt16), .slice none 0 0], vI (4 : Int)]) rfl ⟨⟨_, 0, _, _, _, rfl, rfl, .inl ⟨tyF38, rfl, rfl⟩⟩, rfl, trivial⟩) [1] [] rfl rfl rfl ⟨(.slice none 0 0), rfl, rfl, rfl⟩
              · replace h := br_f hg7 h
                refine Tk_condF (congrArg (fun b => some (Value.bool b)) hg7) ?_
                refine Tk_skip ?_
                refine Tk_seq ?_
                refine Tk_drawT (by kernel_rfl) ?_
                refine TA_tb [0, 1, 3, 7, 15, 0, 32, 96, 224, 511, 1023, 2047] (by kernel_rfl) fun htb => ?_
                refine TA_wkS (fr' := [(0, some (vb1)), (2, some (.pointer (some ⟨b1, 0, none⟩))), (4, some (.pointer (some ⟨b2, 0, none⟩)))]) (own' := [some (cellsR b1 38 [vU8 Dst1.a0, vU8 Dst1.a1, vU8 Dst1.a2, vU8 Dst1.a3, vU8 Dst1.a4, vU8 Dst1.a5, vU8 Src1.a0, vU8 Src1.a1, vU8 Src1.a2, vU8 Src1.a3, vU8 Src1.a4, vU8 Src1.a5, vI Vlan1, vU16 Type1, v1]), some (cellsR b2 38 [vU8 Dst2.a0, vU8 Dst2.a1, vU8 Dst2.a2, vU8 Dst2.a3, vU8 Dst2.a4, vU8 Dst2.a5, vU8 Src2.a0, vU8 Src2.a1, vU8 Src2.a2, vU8 Src2.a3, vU8 Src2.a4, vU8 Src2.a5, vI Vlan2, vU16 Type2, v2])]) (shr' := [Fact.sl u8S vb1 b, Fact.sl u8S v1 Data1, Fact.sl u8S v2 Data2]) [0, 2, 4] [0, 1] [0, 1, 2] rfl rfl rfl rfl ?_
                obtain ⟨y8, hx9, h⟩ := ob_e h
                obtain ⟨y9, hx10, h⟩ := ob_e h
                refine TA_seg (lo := 0) (hi := 9) htb rfl rfl (by kernel_rfl) (fun c L a w => ∃ (p8 : Value), ∃ (p9 : Value), Sat c ⟨[(0, some (vb1)), (2, some (.pointer (some ⟨b1, 0, none⟩))), (4, some (.pointer (some ⟨b2, 0, none⟩))), (51, bif L 0 then some (vb1) else none), (52, bif L 1 then some (p8) else none), (53, bif L 2 then some (vU8 y8) else none), (54, bif L 3 then some (vI (i8 y8)) else none), (55, bif L 4 then some (vI (shli (i8 y8) ((8 : UInt64).toNat))) else none), (56, bif L 5 then some (vb1) else none), (57, bif L 6 then some (p9) else none), (58, bif L 7 then some (vU8 y9) else none), (59, bif L 8 then some (vI (i8 y9)) else none)], [(some (cellsR b1 38 [vU8 Dst1.a0, vU8 Dst1.a1, vU8 Dst1.a2, vU8 Dst1.a3, vU8 Dst1.a4, vU8 Dst1.a5, vU8 Src1.a0, vU8 Src1.a1, vU8 Src1.a2, vU8 Src1.a3, vU8 Src1.a4, vU8 Src1.a5, vI Vlan1, vU16 Type1, v1]) : Option Res), (some (cellsR b2 38 [vU8 Dst2.a0, vU8 Dst2.a1, vU8 Dst2.a2, vU8 Dst2.a3, vU8 Dst2.a4, vU8 Dst2.a5, vU8 Src2.a0, vU8 Src2.a1, vU8 Src2.a2, vU8 Src2.a3, vU8 Src2.a4, vU8 Src2.a5, vI Vlan2, vU16 Type2, v2]) : Option Res)], [Fact.sl u8S vb1 b, Fact.sl u8S v1 Data1, Fact.sl u8S v2 Data2, (bif L 1 then Fact.pt u8S p8 y8 else Fact.tt), (bif L 6 then Fact.pt u8S p9 y9 else Fact.tt)]⟩ a w) [([], [1, 2, 3, 4]), ([0], [2, 3, 4]), ([0, 1], [3, 4]), ([0, 1, 2], [4]), ([0, 1, 2, 3], []), ([], [6, 7, 8]), ([5], [7, 8]), ([5, 6], [8]), ([5, 6, 7], [])] rfl (by kernel_rfl) ?_ (steps_cons ?_ (steps_cons ?_ (steps_cons ?_ (steps_cons ?_ (steps_cons ?_ (steps_cons ?_ (steps_cons ?_ (steps_cons ?_ (steps_cons ?_ (steps_nil)))))))))) ?_
                · intro a w hs
                  exact ⟨undef, undef, hs.startF [51, 52, 53, 54, 55, 56, 57, 58, 59] [0, 1] [0, 1, 2, 3, 4] rfl rfl rfl rfl⟩
                · intro L a w hv K Q hK
                  obtain ⟨p8, p9, hs⟩ := hv
                  refine wpOp_go rfl rfl hs (OpT_move rfl rfl rfl rfl) ?_
                  rintro _ rfl a' w' hs'
                  exact hK a' w' ⟨p8, p9, hs'.putF (i := 3) rfl [0, 1] [0, 1, 2, 3, 4] rfl rfl rfl rfl⟩
                · intro L a w hv K Q hK
                  obtain ⟨p8, p9, hs⟩ := hv
                  refine wpOp_go rfl rfl hs (OpT_idxS rfl rfl rfl rfl rfl slF22 (i := 0) rfl hx9) ?_
                  rintro _ ⟨p8', rfl⟩ a' w' hs'
                  exact hK a' w' ⟨p8', p9, hs'.putF (i := 4) rfl [0, 1] [0, 1, 2, 5, 4] rfl rfl rfl rfl⟩
                · intro L a w hv K Q hK
                  obtain ⟨p8, p9, hs⟩ := hv
                  refine wpOp_go rfl rfl hs (OpT_loadP rfl rfl rfl rfl tyF5 (i := 3) rfl rfl) ?_
                  rintro _ rfl a' w' hs'
                  exact hK a' w' ⟨p8, p9, hs'.putF (i := 5) rfl [0, 1] [0, 1, 2, 3, 4] rfl rfl rfl rfl⟩
                · intro L a w hv K Q hK
                  obtain ⟨p8, p9, hs⟩ := hv
                  refine wpOp_go rfl rfl hs (OpT_cnv rfl rfl rfl rfl (cnv_u8_i (n := y8) Try.underlying5 Try.underlying3)) ?_
                  rintro _ rfl a' w' hs'
                  exact hK a' w' ⟨p8, p9, hs'.putF (i := 6) rfl [0, 1] [0, 1, 2, 3, 4] rfl rfl rfl rfl⟩
                · intro L a w hv K Q hK
                  obtain ⟨p8, p9, hs⟩ := hv
                  refine wpOp_go rfl rfl hs (OpT_bin rfl rfl rfl rfl rfl (bin_shl_i_u64 (a := i8 y8) (n := (8 : UInt64)))) ?_
                  rintro _ rfl a' w' hs'
                  exact hK a' w' ⟨p8, p9, hs'.putF (i := 7) rfl [0, 1] [0, 1, 2, 3, 4] rfl rfl rfl rfl⟩
                · intro L a w hv K Q hK
                  obtain ⟨p8, p9, hs⟩ := hv
                  refine wpOp_go rfl rfl hs (OpT_move rfl rfl rfl rfl) ?_
                  rintro _ rfl a' w' hs'
                  exact hK a' w' ⟨p8, p9, hs'.putF (i := 8) rfl [0, 1] [0, 1, 2, 3, 4] rfl rfl rfl rfl⟩
                · intro L a w hv K Q hK
                  obtain ⟨p8, p9, hs⟩ := hv
                  refine wpOp_go rfl rfl hs (OpT_idxS rfl rfl rfl rfl rfl slF22 (i := 0) rfl hx10) ?_
                  rintro _ ⟨p9', rfl⟩ a' w' hs'
                  exact hK a' w' ⟨p8, p9', hs'.putF (i := 9) rfl [0, 1] [0, 1, 2, 3, 5] rfl rfl rfl rfl⟩
                · intro L a w hv K Q hK
                  obtain ⟨p8, p9, hs⟩ := hv
                  refine wpOp_go rfl rfl hs (OpT_loadP rfl rfl rfl rfl tyF5 (i := 4) rfl rfl) ?_
                  rintro _ rfl a' w' hs'
                  exact hK a' w' ⟨p8, p9, hs'.putF (i := 10) rfl [0, 1] [0, 1, 2, 3, 4] rfl rfl rfl rfl⟩
                · intro L a w hv K Q hK
                  obtain ⟨p8, p9, hs⟩ := hv
                  refine wpOp_go rfl rfl hs (OpT_cnv rfl rfl rfl rfl (cnv_u8_i (n := y9) Try.underlying5 Try.underlying3)) ?_
                  rintro _ rfl a' w' hs'
                  exact hK a' w' ⟨p8, p9, hs'.putF (i := 11) rfl [0, 1] [0, 1, 2, 3, 4] rfl rfl rfl rfl⟩
                · intro L a w hL hv
                  rw [allTrue hL] at hv
                  obtain ⟨p8, p9, hs⟩ := hv
                  refine (show TA _ _ _ 9 ⟨[(0, some (vb1)), (2, some (.pointer (some ⟨b1, 0, none⟩))), (4, some (.pointer (some ⟨b2, 0, none⟩))), (55, some (vI (shli (i8 y8) ((8 : UInt64).toNat)))), (59, some (vI (i8 y9)))], [some (cellsR b1 38 [vU8 Dst1.a0, vU8 Dst1.a1, vU8 Dst1.a2, vU8 Dst1.a3, vU8 Dst1.a4, vU8 Dst1.a5, vU8 Src1.a0, vU8 Src1.a1, vU8 Src1.a2, vU8 Src1.a3, vU8 Src1.a4, vU8 Src1.a5, vI Vlan1, vU16 Type1, v1]), some (cellsR b2 38 [vU8 Dst2.a0, vU8 Dst2.a1, vU8 Dst2.a2, vU8 Dst2.a3, vU8 Dst2.a4, vU8 Dst2.a5, vU8 Src2.a0, vU8 Src2.a1, vU8 Src2.a2, vU8 Src2.a3, vU8 Src2.a4, vU8 Src2.a5, vI Vlan2, vU16 Type2, v2])], [Fact.sl u8S vb1 b, Fact.sl u8S v1 Data1, Fact.sl u8S v2 Data2]⟩ from ?_) a w (hs.wkS [0, 2, 4, 55, 59] [0, 1] [0, 1, 2] rfl rfl rfl rfl)
                  clear hs hL
                  refine TA_step htb (by kernel_rfl) rfl rfl (OpT_bin rfl rfl rfl rfl rfl (bin_or_i (a := shli (i8 y8) ((8 : UInt64).toNat)) (b := i8 y9))) ?_
                  refine TA_step htb (by kernel_rfl) rfl rfl (OpT_fieldC rfl rfl rfl rfl fldF38x2) ?_
                  refine TA_step htb (by kernel_rfl) rfl rfl (OpT_storeC (cs' := [vU8 Dst2.a0, vU8 Dst2.a1, vU8 Dst2.a2, vU8 Dst2.a3, vU8 Dst2.a4, vU8 Dst2.a5, vU8 Src2.a0, vU8 Src2.a1, vU8 Src2.a2, vU8 Src2.a3, vU8 Src2.a4, vU8 Src2.a5, vI (ori (shli (i8 y8) ((8 : UInt64).toNat)) (i8 y9)), vU16 Type2, v2]) rfl rfl rfl rfl tyF3 (i := 1) rfl rfl rfl (one_of rfl) rfl) ?_
                  refine TA_end rfl ?_
                  refine Tk_wkS (fr' := [(0, some (vb1)), (2, some (.pointer (some ⟨b1, 0, none⟩))), (4, some (.pointer (some ⟨b2, 0, none⟩)))]) (own' := [some (cellsR b1 38 [vU8 Dst1.a0, vU8 Dst1.a1, vU8 Dst1.a2, vU8 Dst1.a3, vU8 Dst1.a4, vU8 Dst1.a5, vU8 Src1.a0, vU8 Src1.a1, vU8 Src1.a2, vU8 Src1.a3, vU8 Src1.a4, vU8 Src1.a5, vI Vlan1, vU16 Type1, v1]), some (cellsR b2 38 [vU8 Dst2.a0, vU8 Dst2.a1, vU8 Dst2.a2, vU8 Dst2.a3, vU8 Dst2.a4, vU8 Dst2.a5, vU8 Src2.a0, vU8 Src2.a1, vU8 Src2.a2, vU8 Src2.a3, vU8 Src2.a4, vU8 Src2.a5, vI (ori (shli (i8 y8) ((8 : UInt64).toNat)) (i8 y9)), vU16 Type2, v2])]) (shr' := [Fact.sl u8S vb1 b, Fact.sl u8S v1 Data1, Fact.sl u8S v2 Data2]) [0, 2, 4] [0, 1] [0, 1, 2] rfl rfl rfl rfl ?_
                  refine Tk_region ?_
                  refine Tops_step rfl (OpT_assign rfl rfl rfl rfl) ?_
                  refine Tops_nil ?_
                  exact Tk_jmpS (HJ1 (Dst1, Src1, Vlan1, Type1, Data1, Dst2, Src2, ori (shli (i8 y8) ((8 : UInt64).toNat)) (i8 y9), Type2, Data2, (16 : Int), v1, v2) h) [0, 2, 4, 6] [0, 1] [0, 1, 2] rfl rfl rfl rfl
          · replace h := br_f hg5 h
            refine Tk_condF (congrArg (fun b => some (Value.bool b)) hg5) ?_
            refine Tk_skip ?_
            exact Tk_jmpS (HJ1 (Dst1, Src1, Vlan1, Type1, Data1, Dst2, Src2, Vlan2, Type2, Data2, (12 : Int), v1, v2) h) [0, 2, 4, 6] [0, 1] [0, 1, 2] rfl rfl rfl rfl
      · replace h := br_f hg3 h
        refine Tops_no rfl rfl (congrArg (fun b => some (Value.bool b)) hg3) rfl rfl ?_
        refine Tops_no rfl rfl (congrArg (fun b => some (Value.bool b)) hg3) rfl rfl ?_
        refine Tops_no rfl rfl (congrArg (fun b => some (Value.bool b)) hg3) rfl rfl ?_
        refine Tops_no rfl rfl (congrArg (fun b => some (Value.bool b)) hg3) rfl rfl ?_
        refine Tops_step rfl (OpT_pickF rfl rfl rfl (congrArg (fun b => some (Value.bool b)) hg3) rfl) ?_
        refine Tops_nil ?_
        refine Tk_wkS (fr' := [(0, some (vb1)), (2, some (.pointer (some ⟨b1, 0, none⟩))), (4, some (.pointer (some ⟨b2, 0, none⟩))), (6, some (vI (12 : Int))), (40, some (vB false))]) (own' := [some (cellsR b1 38 [vU8 Dst1.a0, vU8 Dst1.a1, vU8 Dst1.a2, vU8 Dst1.a3, vU8 Dst1.a4, vU8 Dst1.a5, vU8 Src1.a0, vU8 Src1.a1, vU8 Src1.a2, vU8 Src1.a3, vU8 Src1.a4, vU8 Src1.a5, vI Vlan1, vU16 Type1, v1]), some (cellsR b2 38 [vU8 Dst2.a0, vU8 Dst2.a1, vU8 Dst2.a2, vU8 Dst2.a3, vU8 Dst2.a4, vU8 Dst2.a5, vU8 Src2.a0, vU8 Src2.a1, vU8 Src2.a2, vU8 Src2.a3, vU8 Src2.a4, vU8 Src2.a5, vI Vlan2, vU16 Type2, v2])]) (shr' := [Fact.sl u8S vb1 b, Fact.sl u8S v1 Data1, Fact.sl u8S v2 Data2]) [0, 2, 4, 6, 40] [0, 1] [0, 1, 2] rfl rfl rfl rfl ?_
        refine Tk_condF rfl ?_
        refine Tk_skip ?_
        refine Tk_seq ?_
        refine Tk_drawT (by kernel_rfl) ?_
        refine TA_tb [0, 0, 3, 7, 15, 31, 0, 0, 128, 448, 960, 1984, 4095, 8191, 16383] (by kernel_rfl) fun htb => ?_
        refine TA_wkS (fr' := [(0, some (vb1)), (2, some (.pointer (some ⟨b1, 0, none⟩))), (4, some (.pointer (some ⟨b2, 0, none⟩))), (6, some (vI (12 : Int)))]) (own' := [some (cellsR b1 38 [vU8 Dst1.a0, vU8 Dst1.a1, vU8 Dst1.a2, vU8 Dst1.a3, vU8 Dst1.a4, vU8 Dst1.a5, vU8 Src1.a0, vU8 Src1.a1, vU8 Src1.a2, vU8 Src1.a3, vU8 Src1.a4, vU8 Src1.a5, vI Vlan1, vU16 Type1, v1]), some (cellsR b2 38 [vU8 Dst2.a0, vU8 Dst2.a1, vU8 Dst2.a2, vU8 Dst2.a3, vU8 Dst2.a4, vU8 Dst2.a5, vU8 Src2.a0, vU8 Src2.a1, vU8 Src2.a2, vU8 Src2.a3, vU8 Src2.a4, vU8 Src2.a5, vI Vlan2, vU16 Type2, v2])]) (shr' := [Fact.sl u8S vb1 b, Fact.sl u8S v1 Data1, Fact.sl u8S v2 Data2]) [0, 2, 4, 6] [0, 1] [0, 1, 2] rfl rfl rfl rfl ?_
        obtain ⟨y10, hx11, h⟩ := ob_e h
        obtain ⟨y11, hx12, h⟩ := ob_e h
        refine TA_seg (lo := 0) (hi := 12) htb rfl rfl (by kernel_rfl) (fun c L a w => ∃ (p10 : Value), ∃ (p11 : Value), Sat c ⟨[(0, some (vb1)), (2, some (.pointer (some ⟨b1, 0, none⟩))), (4, some (.pointer (some ⟨b2, 0, none⟩))), (6, some (vI (12 : Int))), (62, bif L 0 then some (vb1) else none), (63, bif L 1 then some (vI (12 : Int)) else none), (64, bif L 2 then some (p10) else none), (65, bif L 3 then some (vU8 y10) else none), (66, bif L 4 then some (vU16 y10.toUInt16) else none), (67, bif L 5 then some (vU16 (shl16 y10.toUInt16 ((8 : UInt64).toNat))) else none), (68, bif L 6 then some (vb1) else none), (69, bif L 7 then some (vI (12 : Int)) else none), (70, bif L 8 then some (vI (wi ((12 : Int) + (1 : Int)))) else none), (71, bif L 9 then some (p11) else none), (72, bif L 10 then some (vU8 y11) else none), (73, bif L 11 then some (vU16 y11.toUInt16) else none)], [(some (cellsR b1 38 [vU8 Dst1.a0, vU8 Dst1.a1, vU8 Dst1.a2, vU8 Dst1.a3, vU8 Dst1.a4, vU8 Dst1.a5, vU8 Src1.a0, vU8 Src1.a1, vU8 Src1.a2, vU8 Src1.a3, vU8 Src1.a4, vU8 Src1.a5, vI Vlan1, vU16 Type1, v1]) : Option Res), (some (cellsR b2 38 [vU8 Dst2.a0, vU8 Dst2.a1, vU8 Dst2.a2, vU8 Dst2.a3, vU8 Dst2.a4, vU8 Dst2.a5, vU8 Src2.a0, vU8 Src2.a1, vU8 Src2.a2, vU8 Src2.a3, vU8 Src2.a4, vU8 Src2.a5, vI Vlan2, vU16 Type2, v2]) : Option Res)], [Fact.sl u8S vb1 b, Fact.sl u8S v1 Data1, Fact.sl u8S v2 Data2, (bif L 2 then Fact.pt u8S p10 y10 else Fact.tt), (bif L 9 then Fact.pt u8S p11 y11 else Fact.tt)]⟩ a w) [([], [2, 3, 4, 5]), ([], [2, 3, 4, 5]), ([0, 1], [3, 4, 5]), ([0, 1, 2], [4, 5]), ([0, 1, 2, 3], [5]), ([0, 1, 2, 3, 4], []), ([], [9, 10, 11]), ([], [8, 9, 10, 11]), ([7], [9, 10, 11]), ([6, 7, 8], [10, 11]), ([6, 7, 8, 9], [11]), ([6, 7, 8, 9, 10], [])] rfl (by kernel_rfl) ?_ (steps_cons ?_ (steps_cons ?_ (steps_cons ?_ (steps_cons ?_ (steps_cons ?_ (steps_cons ?_ (steps_cons ?_ (steps_cons ?_ (steps_cons ?_ (steps_cons ?_ (steps_cons ?_ (steps_cons ?_ (steps_nil))))))))))))) ?_
        · intro a w hs
          exact ⟨undef, undef, hs.startF [62, 63, 64, 65, 66, 67, 68, 69, 70, 71, 72, 73] [0, 1] [0, 1, 2, 3, 4] rfl rfl rfl rfl⟩
        · intro L a w hv K Q hK
          obtain ⟨p10, p11, hs⟩ := hv
          refine wpOp_go rfl rfl hs (OpT_move rfl rfl rfl rfl) ?_
          rintro _ rfl a' w' hs'
          exact hK a' w' ⟨p10, p11, hs'.putF (i := 4) rfl [0, 1] [0, 1, 2, 3, 4] rfl rfl rfl rfl⟩
        · intro L a w hv K Q hK
          obtain ⟨p10, p11, hs⟩ := hv
          refine wpOp_go rfl rfl hs (OpT_move rfl rfl rfl rfl) ?_
          rintro _ rfl a' w' hs'
          exact hK a' w' ⟨p10, p11, hs'.putF (i := 5) rfl [0, 1] [0, 1, 2, 3, 4] rfl rfl rfl rfl⟩
        · intro L a w hv K Q hK
          obtain ⟨p10, p11, hs⟩ := hv
          refine wpOp_go rfl rfl hs (OpT_idxS rfl rfl rfl rfl rfl slF22 (i := 0) rfl hx11) ?_
          rintro _ ⟨p10', rfl⟩ a' w' hs'
          exact hK a' w' ⟨p10', p11, hs'.putF (i := 6) rfl [0, 1] [0, 1, 2, 5, 4] rfl rfl rfl rfl⟩
        · intro L a w hv K Q hK
          obtain ⟨p10, p11, hs⟩ := hv
          refine wpOp_go rfl rfl hs (OpT_loadP rfl rfl rfl rfl tyF5 (i := 3) rfl rfl) ?_
          rintro _ rfl a' w' hs'
          exact hK a' w' ⟨p10, p11, hs'.putF (i := 7) rfl [0, 1] [0, 1, 2, 3, 4] rfl rfl rfl rfl⟩
        · intro L a w hv K Q hK
          obtain ⟨p10, p11, hs⟩ := hv
          refine wpOp_go rfl rfl hs (OpT_cnv rfl rfl rfl rfl (cnv_u8_u16 (n := y10) Try.underlying5 Try.underlying24)) ?_
          rintro _ rfl a' w' hs'
          exact hK a' w' ⟨p10, p11, hs'.putF (i := 8) rfl [0, 1] [0, 1, 2, 3, 4] rfl rfl rfl rfl⟩
        · intro L a w hv K Q hK
          obtain ⟨p10, p11, hs⟩ := hv
          refine wpOp_go rfl rfl hs (OpT_bin rfl rfl rfl rfl rfl (bin_shl_u16_u64 (a := y10.toUInt16) (n := (8 : UInt64)))) ?_
          rintro _ rfl a' w' hs'
          exact hK a' w' ⟨p10, p11, hs'.putF (i := 9) rfl [0, 1] [0, 1, 2, 3, 4] rfl rfl rfl rfl⟩
        · intro L a w hv K Q hK
          obtain ⟨p10, p11, hs⟩ := hv
          refine wpOp_go rfl rfl hs (OpT_move rfl rfl rfl rfl) ?_
          rintro _ rfl a' w' hs'
          exact hK a' w' ⟨p10, p11, hs'.putF (i := 10) rfl [0, 1] [0, 1, 2, 3, 4] rfl rfl rfl rfl⟩
        · intro L a w hv K Q hK
          obtain ⟨p10, p11, hs⟩ := hv
          refine wpOp_go rfl rfl hs (OpT_move rfl rfl rfl rfl) ?_
          rintro _ rfl a' w' hs'
          exact hK a' w' ⟨p10, p11, hs'.putF (i := 11) rfl [0, 1] [0, 1, 2, 3, 4] rfl rfl rfl rfl⟩
        · intro L a w hv K Q hK
          obtain ⟨p10, p11, hs⟩ := hv
          refine wpOp_go rfl rfl hs (OpT_bin rfl rfl rfl rfl rfl (bin_add_i (a := (12 : Int)) (b := (1 : Int)))) ?_
          rintro _ rfl a' w' hs'
          exact hK a' w' ⟨p10, p11, hs'.putF (i := 12) rfl [0, 1] [0, 1, 2, 3, 4] rfl rfl rfl rfl⟩
        · intro L a w hv K Q hK
          obtain ⟨p10, p11, hs⟩ := hv
          refine wpOp_go rfl rfl hs (OpT_idxS rfl rfl rfl rfl rfl slF22 (i := 0) rfl hx12) ?_
          rintro _ ⟨p11', rfl⟩ a' w' hs'
          exact hK a' w' ⟨p10, p11', hs'.putF (i := 13) rfl [0, 1] [0, 1, 2, 3, 5] rfl rfl rfl rfl⟩
        · intro L a w hv K Q hK
          obtain ⟨p10, p11, hs⟩ := hv
          refine wpOp_go rfl rfl hs (OpT_loadP rfl rfl rfl rfl tyF5 (i := 4) rfl rfl) ?_
          rintro _ rfl a' w' hs'
          exact hK a' w' ⟨p10, p11, hs'.putF (i := 14) rfl [0, 1] [0, 1, 2, 3, 4] rfl rfl rfl rfl⟩
        · intro L a w hv K Q hK
          obtain ⟨p10, p11, hs⟩ := hv
          refine wpOp_go rfl rfl hs (OpT_cnv rfl rfl rfl rfl (cnv_u8_u16 (n := y11) Try.underlying5 Try.underlying24)) ?_
          rintro _ rfl a' w' hs'
          exact hK a' w' ⟨p10, p11, hs'.putF (i := 15) rfl [0, 1] [0, 1, 2, 3, 4] rfl rfl rfl rfl⟩
        · intro L a w hL hv
          rw [allTrue hL] at hv
          obtain ⟨p10, p11, hs⟩ := hv
          refine (show TA _ _ _ 12 ⟨[(0, some (vb1)), (2, some (.pointer (some ⟨b1, 0, none⟩))), (4, some (.pointer (some ⟨b2, 0, none⟩))), (6, some (vI (12 : Int))), (67, some (vU16 (shl16 y10.toUInt16 ((8 : UInt64).toNat)))), (73, some (vU16 y11.toUInt16))], [some (cellsR b1 38 [vU8 Dst1.a0, vU8 Dst1.a1, vU8 Dst1.a2, vU8 Dst1.a3, vU8 Dst1.a4, vU8 Dst1.a5, vU8 Src1.a0, vU8 Src1.a1, vU8 Src1.a2, vU8 Src1.a3, vU8 Src1.a4, vU8 Src1.a5, vI Vlan1, vU16 Type1, v1]), some (cellsR b2 38 [vU8 Dst2.a0, vU8 Dst2.a1, vU8 Dst2.a2, vU8 Dst2.a3, vU8 Dst2.a4, vU8 Dst2.a5, vU8 Src2.a0, vU8 Src2.a1, vU8 Src2.a2, vU8 Src2.a3, vU8 Src2.a4, vU8 Src2.a5, vI Vlan2, vU16 Type2, v2])], [Fact.sl u8S vb1 b, Fact.sl u8S v1 Data1, Fact.sl u8S v2 Data2]⟩ from ?_) a w (hs.wkS [0, 2, 4, 6, 67, 73] [0, 1] [0, 1, 2] rfl rfl rfl rfl)
          clear hs hL
          refine TA_step htb (by kernel_rfl) rfl rfl (OpT_bin rfl rfl rfl rfl rfl (bin_or_u16 (a := shl16 y10.toUInt16 ((8 : UInt64).toNat)) (b := y11.toUInt16))) ?_
          refine TA_step htb (by kernel_rfl) rfl rfl (OpT_fieldC rfl rfl rfl rfl fldF38x3) ?_
          refine TA_step htb (by kernel_rfl) rfl rfl (OpT_storeC (cs' := [vU8 Dst2.a0, vU8 Dst2.a1, vU8 Dst2.a2, vU8 Dst2.a3, vU8 Dst2.a4, vU8 Dst2.a5, vU8 Src2.a0, vU8 Src2.a1, vU8 Src2.a2, vU8 Src2.a3, vU8 Src2.a4, vU8 Src2.a5, vI Vlan2, vU16 ((shl16 y10.toUInt16 ((8 : UInt64).toNat)) ||| y11.toUInt16), v2]) rfl rfl rfl rfl tyF24 (i := 1) rfl rfl rfl (one_of rfl) rfl) ?_
          refine TA_end rfl ?_
          refine Tk_wkS (fr' := [(0, some (vb1)), (2, some (.pointer (some ⟨b1, 0, none⟩))), (4, some (.pointer (some ⟨b2, 0, none⟩))), (6, some (vI (12 : Int)))]) (own' := [some (cellsR b1 38 [vU8 Dst1.a0, vU8 Dst1.a1, vU8 Dst1.a2, vU8 Dst1.a3, vU8 Dst1.a4, vU8 Dst1.a5, vU8 Src1.a0, vU8 Src1.a1, vU8 Src1.a2, vU8 Src1.a3, vU8 Src1.a4, vU8 Src1.a5, vI Vlan1, vU16 Type1, v1]), some (cellsR b2 38 [vU8 Dst2.a0, vU8 Dst2.a1, vU8 Dst2.a2, vU8 Dst2.a3, vU8 Dst2.a4, vU8 Dst2.a5, vU8 Src2.a0, vU8 Src2.a1, vU8 Src2.a2, vU8 Src2.a3, vU8 Src2.a4, vU8 Src2.a5, vI Vlan2, vU16 ((shl16 y10.toUInt16 ((8 : UInt64).toNat)) ||| y11.toUInt16), v2])]) (shr' := [Fact.sl u8S vb1 b, Fact.sl u8S v1 Data1, Fact.sl u8S v2 Data2]) [0, 2, 4, 6] [0, 1] [0, 1, 2] rfl rfl rfl rfl ?_
          refine Tk_seq ?_
          refine Tk_region ?_
          refine Tops_ex rfl (OpT_buildSlice (S := u8S) (xs := ([] : List UInt8)) (css := []) (cs := []) (e := 5) rfl rfl rfl rfl (bldF slF22 (by decide) (by kernel_rfl)) rfl rfl rfl rfl (rel_plainD (S := u8S) (xs := ([] : List UInt8)) (css := []) rfl rfl)) fun v8 => ?_
          refine Tops_step rfl (OpT_move rfl rfl rfl rfl) ?_
          refine Tops_step rfl (OpT_move rfl rfl rfl rfl) ?_
          refine Tops_step rfl (OpT_bin rfl rfl rfl rfl rfl (bin_add_i (a := (12 : Int)) (b := (2 : Int)))) ?_
          obtain ⟨hc7, h⟩ := chk_e h
          refine Tops_ex rfl (OpT_sliceL (l := wi ((12 : Int) + (2 : Int))) rfl rfl rfl rfl rfl slF22 (i := 0) rfl hc7) fun v9 => ?_
          obtain ⟨hc8, h⟩ := chk_e h
          refine Tops_ex rfl (OpT_append rfl rfl rfl rfl rfl slF22 (i := 2) (j := 3) rfl rfl hc8) fun v10 => ?_
          refine Tops_step rfl (OpT_fieldC rfl rfl rfl rfl fldF38x4) ?_
          refine Tops_step rfl (OpT_storeV (cs' := [vU8 Dst2.a0, vU8 Dst2.a1, vU8 Dst2.a2, vU8 Dst2.a3, vU8 Dst2.a4, vU8 Dst2.a5, vU8 Src2.a0, vU8 Src2.a1, vU8 Src2.a2, vU8 Src2.a3, vU8 Src2.a4, vU8 Src2.a5, vI Vlan2, vU16 ((shl16 y10.toUInt16 ((8 : UInt64).toNat)) ||| y11.toUInt16), v10]) rfl rfl rfl rfl tyF22 (i := 1) rfl (is_row (i := 2) rfl) rfl rfl) ?_
          refine Tops_nil ?_
          refine Tk_wkS (fr' := [(2, some (.pointer (some ⟨b1, 0, none⟩))), (4, some (.pointer (some ⟨b2, 0, none⟩)))]) (own' := [some (cellsR b1 38 [vU8 Dst1.a0, vU8 Dst1.a1, vU8 Dst1.a2, vU8 Dst1.a3, vU8 Dst1.a4, vU8 Dst1.a5, vU8 Src1.a0, vU8 Src1.a1, vU8 Src1.a2, vU8 Src1.a3, vU8 Src1.a4, vU8 Src1.a5, vI Vlan1, vU16 Type1, v1]), some (cellsR b2 38 [vU8 Dst2.a0, vU8 Dst2.a1, vU8 Dst2.a2, vU8 Dst2.a3, vU8 Dst2.a4, vU8 Dst2.a5, vU8 Src2.a0, vU8 Src2.a1, vU8 Src2.a2, vU8 Src2.a3, vU8 Src2.a4, vU8 Src2.a5, vI Vlan2, vU16 ((shl16 y10.toUInt16 ((8 : UInt64).toNat)) ||| y11.toUInt16), v10]), some (rowS u8S v10 (sub b (wi ((12 : Int) + (2 : Int))) (len b)))]) (shr' := [Fact.sl u8S v1 Data1]) [2, 4] [0, 1, 2] [1] rfl rfl rfl rfl ?_
          refine Tk_seq ?_
          refine Tk_seq ?_
          refine Tk_region ?_
          refine Tops_step rfl (OpT_loadCA (vs := [vU8 Dst2.a0, vU8 Dst2.a1, vU8 Dst2.a2, vU8 Dst2.a3, vU8 Dst2.a4, vU8 Dst2.a5, vU8 Src2.a0, vU8 Src2.a1, vU8 Src2.a2, vU8 Src2.a3, vU8 Src2.a4, vU8 Src2.a5, vI Vlan2, vU16 ((shl16 y10.toUInt16 ((8 : UInt64).toNat)) ||| y11.toUInt16), v10]) rfl rfl rfl rfl tyF38 (i := 1) rfl rfl rfl) ?_
          obtain ⟨check2, hx13, h⟩ := ob_e h
          refine Tops_exP rfl (OpT_callB [2] [0, 1, 2] (w_ref_Check23 hx13) [] rfl rfl rfl rfl rfl callee27 rfl rfl rfl rfl rfl rfl (bor_cons (bor_row 2 rfl rfl) bor_nil) (by rintro _ _ _ ⟨rfl, rfl, rfl⟩; exact ⟨rfl, ri_nil⟩)) ?_
          rintro _ ⟨_, _, _, ⟨rfl, rfl, rfl⟩, rfl⟩
          refine Tops_step rfl (OpT_bin rfl rfl rfl rfl rfl (bin_neq_i (a := check2) (b := (0 : Int)))) ?_
          refine Tops_nil ?_
          refine Tk_wkS (fr' := [(2, some (.pointer (some ⟨b1, 0, none⟩))), (4, some (.pointer (some ⟨b2, 0, none⟩))), (85, some (vB (check2 != (0 : Int))))]) (own' := [some (cellsR b1 38 [vU8 Dst1.a0, vU8 Dst1.a1, vU8 Dst1.a2, vU8 Dst1.a3, vU8 Dst1.a4, vU8 Dst1.a5, vU8 Src1.a0, vU8 Src1.a1, vU8 Src1.a2, vU8 Src1.a3, vU8 Src1.a4, vU8 Src1.a5, vI Vlan1, vU16 Type1, v1]), some (cellsR b2 38 [vU8 Dst2.a0, vU8 Dst2.a1, vU8 Dst2.a2, vU8 Dst2.a3, vU8 Dst2.a4, vU8 Dst2.a5, vU8 Src2.a0, vU8 Src2.a1, vU8 Src2.a2, vU8 Src2.a3, vU8 Src2.a4, vU8 Src2.a5, vI Vlan2, vU16 ((shl16 y10.toUInt16 ((8 : UInt64).toNat)) ||| y11.toUInt16), v10]), some (rowS u8S v10 (sub b (wi ((12 : Int) + (2 : Int))) (len b)))]) (shr' := [Fact.sl u8S v1 Data1]) [2, 4, 85] [0, 1, 2] [0] rfl rfl rfl rfl ?_
          rcases Bool.eq_false_or_eq_true (check2 != (0 : Int)) with hg8 | hg8
          · replace h := br_t hg8 h
            refine Tk_condT (congrArg (fun b => some (Value.bool b)) hg8) ?_
            refine Tk_seq ?_
            refine Tk_region ?_
            refine Tops_step rfl (OpT_build (v := .agg #[vU8 (0 : UInt8), vU8 (0 : UInt8), vU8 (0 : UInt8), vU8 (0 : UInt8), vU8 (0 : UInt8), vU8 (0 : UInt8), vU8 (0 : UInt8), vU8 (0 : UInt8), vU8 (0 : UInt8), vU8 (0 : UInt8), vU8 (0 : UInt8), vU8 (0 : UInt8), vI (0 : Int), vU16 (0 : UInt16), .slice none 0 0]) rfl rfl rfl rfl (bldV (by kernel_rfl))) ?_
            refine Tops_step rfl (OpT_storeC (cs' := [vU8 (0 : UInt8), vU8 (0 : UInt8), vU8 (0 : UInt8), vU8 (0 : UInt8), vU8 (0 : UInt8), vU8 (0 : UInt8), vU8 (0 : UInt8), vU8 (0 : UInt8), vU8 (0 : UInt8), vU8 (0 : UInt8), vU8 (0 : UInt8), vU8 (0 : UInt8), vI (0 : Int), vU16 (0 : UInt16), .slice none 0 0]) rfl rfl rfl rfl tyF38 (i := 0) rfl rfl rfl (one_of rfl) rfl) ?_
            refine Tops_step rfl (OpT_assign rfl rfl rfl rfl) ?_
            refine Tops_nil ?_
            refine Tk_wkS (fr' := [(2, some (.pointer (some ⟨b1, 0, none⟩))), (3, some (vI (4 : Int)))]) (own' := [some (cellsR b1 38 [vU8 (0 : UInt8), vU8 (0 : UInt8), vU8 (0 : UInt8), vU8 (0 : UInt8), vU8 (0 : UInt8), vU8 (0 : UInt8), vU8 (0 : UInt8), vU8 (0 : UInt8), vU8 (0 : UInt8), vU8 (0 : UInt8), vU8 (0 : UInt8), vU8 (0 : UInt8), vI (0 : Int), vU16 (0 : UInt16), .slice none 0 0])]) (shr' := []) [2, 3] [0] [] rfl rfl rfl rfl ?_
            refine Tk_nilrow u8S ?_
            obtain rfl := Option.some.inj h
            exact Tk_retV rfl rfl (resA (vs := [.agg #[vU8 (0 : UInt8), vU8 (0 : UInt8), vU8 (0 : UInt8), vU8 (0 : UInt8), vU8 (0 : UInt8), vU8 (0 : UInt8), vU8 (0 : UInt8), vU8 (0 : UInt8), vU8 (0 : UInt8), vU8 (0 : UInt8), vU8 (0 : UInt8), vU8 (0 : UInt8), vI (0 : Int), vU16 (0 : UInt16), .slice none 0 0], vI (4 : Int)]) rfl ⟨⟨_, 0, _, _, _, rfl, rfl, .inl ⟨tyF38, rfl, rfl⟩⟩, rfl, trivial⟩) [1] [] rfl rfl rfl ⟨(.slice none 0 0), rfl, rfl, rfl⟩
          · replace h := br_f hg8 h
            refine Tk_condF (congrArg (fun b => some (Value.bool b)) hg8) ?_
            refine Tk_skip ?_
            refine Tk_seq ?_
            refine Tk_region ?_
            refine Tops_step rfl (OpT_loadCA (vs := [vU8 Dst2.a0, vU8 Dst2.a1, vU8 Dst2.a2, vU8 Dst2.a3, vU8 Dst2.a4, vU8 Dst2.a5, vU8 Src2.a0, vU8 Src2.a1, vU8 Src2.a2, vU8 Src2.a3, vU8 Src2.a4, vU8 Src2.a5, vI Vlan2, vU16 ((shl16 y10.toUInt16 ((8 : UInt64).toNat)) ||| y11.toUInt16), v10]) rfl rfl rfl rfl tyF38 (i := 1) rfl rfl rfl) ?_
            refine Tops_step rfl (OpT_storeA1 (fun z0 => [vU8 Dst2.a0, vU8 Dst2.a1, vU8 Dst2.a2, vU8 Dst2.a3, vU8 Dst2.a4, vU8 Dst2.a5, vU8 Src2.a0, vU8 Src2.a1, vU8 Src2.a2, vU8 Src2.a3, vU8 Src2.a4, vU8 Src2.a5, vI Vlan2, vU16 ((shl16 y10.toUInt16 ((8 : UInt64).toNat)) ||| y11.toUInt16), z0]) (cs' := [vU8 Dst2.a0, vU8 Dst2.a1, vU8 Dst2.a2, vU8 Dst2.a3, vU8 Dst2.a4, vU8 Dst2.a5, vU8 Src2.a0, vU8 Src2.a1, vU8 Src2.a2, vU8 Src2.a3, vU8 Src2.a4, vU8 Src2.a5, vI Vlan2, vU16 ((shl16 y10.toUInt16 ((8 : UInt64).toNat)) ||| y11.toUInt16), v10]) rfl rfl rfl rfl tyF38 (i := 0) rfl (is_row (i := 2) rfl) (fun _ _ _ => rfl) rfl rfl rfl) ?_
            refine Tops_step rfl (OpT_assign rfl rfl rfl rfl) ?_
            refine Tops_nil ?_
            refine Tk_wkS (fr' := [(2, some (.pointer (some ⟨b1, 0, none⟩))), (3, some (vI (0 : Int)))]) (own' := [some (cellsR b1 38 [vU8 Dst2.a0, vU8 Dst2.a1, vU8 Dst2.a2, vU8 Dst2.a3, vU8 Dst2.a4, vU8 Dst2.a5, vU8 Src2.a0, vU8 Src2.a1, vU8 Src2.a2, vU8 Src2.a3, vU8 Src2.a4, vU8 Src2.a5, vI Vlan2, vU16 ((shl16 y10.toUInt16 ((8 : UInt64).toNat)) ||| y11.toUInt16), v10]), some (rowS u8S v10 (sub b (wi ((12 : Int) + (2 : Int))) (len b)))]) (shr' := []) [2, 3] [0, 2] [] rfl rfl rfl rfl ?_
            obtain rfl := Option.some.inj h
            exact Tk_retV rfl rfl (resA (vs := [.agg #[vU8 Dst2.a0, vU8 Dst2.a1, vU8 Dst2.a2, vU8 Dst2.a3, vU8 Dst2.a4, vU8 Dst2.a5, vU8 Src2.a0, vU8 Src2.a1, vU8 Src2.a2, vU8 Src2.a3, vU8 Src2.a4, vU8 Src2.a5, vI Vlan2, vU16 ((shl16 y10.toUInt16 ((8 : UInt64).toNat)) ||| y11.toUInt16), v10], vI (0 : Int)]) rfl ⟨⟨_, 0, _, _, _, rfl, rfl, .inl ⟨tyF38, rfl, rfl⟩⟩, rfl, trivial⟩) [1] [] rfl rfl rfl ⟨v10, rfl, rfl, rfl⟩
end Go.Proofs.Ytgpggnhifkkfbaa
