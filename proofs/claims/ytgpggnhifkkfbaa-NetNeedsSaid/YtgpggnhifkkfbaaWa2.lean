/- The functions do what the plain words say: each is walked once. No statement of the seat is proved here; no condition. -/
import Derived.Test.YtgpggnhifkkfbaaWa1
namespace Go.Proofs.Ytgpggnhifkkfbaa

set_option maxRecDepth 100000 in
set_option maxHeartbeats 4000000 in
theorem w_ref_ReadHdr23 {b : List UInt8} {vb1 : Value} {r : (Hdr × Int)} (h : ref_ReadHdr23 b = some r) :
    Ctr Try.prog 30 #[vb1] [] [Fact.sl u8S vb1 b]
      (fun rv own shr => rv = .tuple #[.agg #[vU8 r.1.Flags, vU16 r.1.Start, vU16 r.1.Off, vU16 r.1.Buffers], vI r.2] ∧ own = [] ∧ shr = []) := by
  unfold ref_ReadHdr23 at h
  refine Ctr.mk (args := [vb1]) Try.func30 rfl rfl (fun R0 w0 B => ?_)
  refine Tk_seq ?_
  refine Tk_region ?_
  refine Tops_ex rfl (OpT_alloc rfl rfl rfl tyZ34) fun b1 => ?_
  refine Tops_step rfl (OpT_assign rfl rfl rfl rfl) ?_
  refine Tops_nil ?_
  refine Tk_wkS (fr' := [(0, some (vb1)), (2, some (.pointer (some ⟨b1, 0, none⟩)))]) (own' := [some (cellsR b1 34 [vU8 (0 : UInt8), vU16 (0 : UInt16), vU16 (0 : UInt16), vU16 (0 : UInt16)])]) (shr' := [Fact.sl u8S vb1 b]) [0, 2] [0] [0] rfl rfl rfl rfl ?_
  refine Tk_seq ?_
  refine Tk_seq ?_
  refine Tk_region ?_
  refine Tops_step rfl (OpT_move rfl rfl rfl rfl) ?_
  refine Tops_step rfl (OpT_lenS rfl rfl rfl rfl Try.underlying22 (i := 0) rfl) ?_
  refine Tops_step rfl (OpT_bin rfl rfl rfl rfl rfl (bin_lss_i (a := len b) (b := (12 : Int)))) ?_
  refine Tops_nil ?_
  refine Tk_wkS (fr' := [(0, some (vb1)), (2, some (.pointer (some ⟨b1, 0, none⟩))), (6, some (vB (decide ((len b) < (12 : Int)))))]) (own' := [some (cellsR b1 34 [vU8 (0 : UInt8), vU16 (0 : UInt16), vU16 (0 : UInt16), vU16 (0 : UInt16)])]) (shr' := [Fact.sl u8S vb1 b]) [0, 2, 6] [0] [0] rfl rfl rfl rfl ?_
  rcases Bool.eq_false_or_eq_true (decide ((len b) < (12 : Int))) with hg1 | hg1
  · replace h := br_t hg1 h
    refine Tk_condT (congrArg (fun b => some (Value.bool b)) hg1) ?_
    refine Tk_seq ?_
    refine Tk_region ?_
    refine Tops_step rfl (OpT_build (v := .agg #[vU8 (0 : UInt8), vU16 (0 : UInt16), vU16 (0 : UInt16), vU16 (0 : UInt16)]) rfl rfl rfl rfl (bldV (by kernel_rfl))) ?_
    refine Tops_step rfl (OpT_storeC (cs' := [vU8 (0 : UInt8), vU16 (0 : UInt16), vU16 (0 : UInt16), vU16 (0 : UInt16)]) rfl rfl rfl rfl tyF34 (i := 0) rfl rfl rfl (one_of rfl) rfl) ?_
    refine Tops_step rfl (OpT_assign rfl rfl rfl rfl) ?_
    refine Tops_nil ?_
    refine Tk_wkS (fr' := [(2, some (.pointer (some ⟨b1, 0, none⟩))), (3, some (vI (4 : Int)))]) (own' := [some (cellsR b1 34 [vU8 (0 : UInt8), vU16 (0 : UInt16), vU16 (0 : UInt16), vU16 (0 : UInt16)])]) (shr' := []) [2, 3] [0] [] rfl rfl rfl rfl ?_
    obtain rfl := Option.some.inj h
    exact Tk_retV rfl rfl (resA (vs := [.agg #[vU8 (0 : UInt8), vU16 (0 : UInt16), vU16 (0 : UInt16), vU16 (0 : UInt16)], vI (4 : Int)]) rfl ⟨⟨_, 0, _, _, _, rfl, rfl, .inl ⟨tyF34, rfl, rfl⟩⟩, rfl, trivial⟩) [] [] rfl rfl rfl ⟨rfl, rfl, rfl⟩
  · replace h := br_f hg1 h
    refine Tk_condF (congrArg (fun b => some (Value.bool b)) hg1) ?_
    refine Tk_skip ?_
    refine Tk_seq ?_
    refine Tk_drawT (by kernel_rfl) ?_
    refine TA_tb [0, 1, 3, 0, 8, 24, 56, 0, 128, 384, 896, 1920, 4088, 0, 8192, 24576, 57344, 0, 131072, 393216, 917504, 1966080, 4186112, 0, 8388608, 25165824, 58720256, 0, 134217728, 402653184, 939524096, 2013265920, 4286578688, 8589934591, 17179869183, 34359738367] (by kernel_rfl) fun htb => ?_
    refine TA_wkS (fr' := [(0, some (vb1)), (2, some (.pointer (some ⟨b1, 0, none⟩)))]) (own' := [some (cellsR b1 34 [vU8 (0 : UInt8), vU16 (0 : UInt16), vU16 (0 : UInt16), vU16 (0 : UInt16)])]) (shr' := [Fact.sl u8S vb1 b]) [0, 2] [0] [0] rfl rfl rfl rfl ?_
    obtain ⟨y1, hx1, h⟩ := ob_e h
    obtain ⟨y2, hx2, h⟩ := ob_e h
    obtain ⟨y3, hx3, h⟩ := ob_e h
    obtain ⟨y4, hx4, h⟩ := ob_e h
    obtain ⟨y5, hx5, h⟩ := ob_e h
    obtain ⟨y6, hx6, h⟩ := ob_e h
    obtain ⟨y7, hx7, h⟩ := ob_e h
    refine TA_seg (lo := 0) (hi := 33) htb rfl rfl (by kernel_rfl) (fun c L a w => ∃ (p1 : Value), ∃ (p2 : Value), ∃ (p3 : Value), ∃ (p4 : Value), ∃ (p5 : Value), ∃ (p6 : Value), ∃ (p7 : Value), Sat c ⟨[(0, some (vb1)), (2, some (.pointer (some ⟨b1, 0, none⟩))), (8, bif L 0 then some (vb1) else none), (9, bif L 1 then some (p1) else none), (10, bif L 2 then some (vU8 y1) else none), (11, bif L 3 then some (vb1) else none), (12, bif L 4 then some (p2) else none), (13, bif L 5 then some (vU8 y2) else none), (14, bif L 6 then some (vU16 y2.toUInt16) else none), (15, bif L 7 then some (vb1) else none), (16, bif L 8 then some (p3) else none), (17, bif L 9 then some (vU8 y3) else none), (18, bif L 10 then some (vU16 y3.toUInt16) else none), (19, bif L 11 then some (vU16 (shl16 y3.toUInt16 ((8 : UInt64).toNat))) else none), (20, bif L 12 then some (vU16 (y2.toUInt16 ||| (shl16 y3.toUInt16 ((8 : UInt64).toNat)))) else none), (21, bif L 13 then some (vb1) else none), (22, bif L 14 then some (p4) else none), (23, bif L 15 then some (vU8 y4) else none), (24, bif L 16 then some (vU16 y4.toUInt16) else none), (25, bif L 17 then some (vb1) else none), (26, bif L 18 then some (p5) else none), (27, bif L 19 then some (vU8 y5) else none), (28, bif L 20 then some (vU16 y5.toUInt16) else none), (29, bif L 21 then some (vU16 (shl16 y5.toUInt16 ((8 : UInt64).toNat))) else none), (30, bif L 22 then some (vU16 (y4.toUInt16 ||| (shl16 y5.toUInt16 ((8 : UInt64).toNat)))) else none), (31, bif L 23 then some (vb1) else none), (32, bif L 24 then some (p6) else none), (33, bif L 25 then some (vU8 y6) else none), (34, bif L 26 then some (vU16 y6.toUInt16) else none), (35, bif L 27 then some (vb1) else none), (36, bif L 28 then some (p7) else none), (37, bif L 29 then some (vU8 y7) else none), (38, bif L 30 then some (vU16 y7.toUInt16) else none), (39, bif L 31 then some (vU16 (shl16 y7.toUInt16 ((8 : UInt64).toNat))) else none), (40, bif L 32 then some (vU16 (y6.toUInt16 ||| (shl16 y7.toUInt16 ((8 : UInt64).toNat)))) else none)], [(some (cellsR b1 34 [vU8 (0 : UInt8), vU16 (0 : UInt16), vU16 (0 : UInt16), vU16 (0 : UInt16)]) : Option Res)], [Fact.sl u8S vb1 b, (bif L 1 then Fact.pt u8S p1 y1 else Fact.tt), (bif L 4 then Fact.pt u8S p2 y2 else Fact.tt), (bif L 8 then Fact.pt u8S p3 y3 else Fact.tt), (bif L 14 then Fact.pt u8S p4 y4 else Fact.tt), (bif L 18 then Fact.pt u8S p5 y5 else Fact.tt), (bif L 24 then Fact.pt u8S p6 y6 else Fact.tt), (bif L 28 then Fact.pt u8S p7 y7 else Fact.tt)]⟩ a w) [([], [1, 2]), ([0], [2]), ([0, 1], []), ([], [4, 5, 6, 12]), ([3], [5, 6, 12]), ([3, 4], [6, 12]), ([3, 4, 5], [12]), ([], [8, 9, 10, 11, 12]), ([7], [9, 10, 11, 12]), ([7, 8], [10, 11, 12]), ([7, 8, 9], [11, 12]), ([7, 8, 9, 10], [12]), ([3, 4, 5, 6, 7, 8, 9, 10, 11], []), ([], [14, 15, 16, 22]), ([13], [15, 16, 22]), ([13, 14], [16, 22]), ([13, 14, 15], [22]), ([], [18, 19, 20, 21, 22]), ([17], [19, 20, 21, 22]), ([17, 18], [20, 21, 22]), ([17, 18, 19], [21, 22]), ([17, 18, 19, 20], [22]), ([13, 14, 15, 16, 17, 18, 19, 20, 21], []), ([], [24, 25, 26, 32]), ([23], [25, 26, 32]), ([23, 24], [26, 32]), ([23, 24, 25], [32]), ([], [28, 29, 30, 31, 32]), ([27], [29, 30, 31, 32]), ([27, 28], [30, 31, 32]), ([27, 28, 29], [31, 32]), ([27, 28, 29, 30], [32]), ([23, 24, 25, 26, 27, 28, 29, 30, 31], [])] rfl (by kernel_rfl) ?_ (steps_cons ?_ (steps_cons ?_ (steps_cons ?_ (steps_cons ?_ (steps_cons ?_ (steps_cons ?_ (steps_cons ?_ (steps_cons ?_ (steps_cons ?_ (steps_cons ?_ (steps_cons ?_ (steps_cons ?_ (steps_cons ?_ (steps_cons ?_ (steps_cons ?_ (steps_cons ?_ (steps_cons ?_ (steps_cons ?_ (steps_cons ?_ (steps_cons ?_ (steps_cons ?_ (steps_cons ?_ (steps_cons ?_ (steps_cons ?_ (steps_cons ?_ (steps_cons ?_ (steps_cons ?_ (steps_cons ?_ (steps_cons ?_ (steps_cons ?_ (steps_cons ?_ (steps_cons ?_ (steps_cons ?_ (steps_nil)))))))))))))))))))))))))))))))))) ?_
    · intro a w hs
      exact ⟨undef, undef, undef, undef, undef, undef, undef, hs.startF [8, 9, 10, 11, 12, 13, 14, 15, 16, 17, 18, 19, 20, 21, 22, 23, 24, 25, 26, 27, 28, 29, 30, 31, 32, 33, 34, 35, 36, 37, 38, 39, 40] [0] [0, 1, 2, 3, 4, 5, 6, 7] rfl rfl rfl rfl⟩
    · intro L a w hv K Q hK
      obtain ⟨p1, p2, p3, p4, p5, p6, p7, hs⟩ := hv
      refine wpOp_go rfl rfl hs (OpT_move rfl rfl rfl rfl) ?_
      rintro _ rfl a' w' hs'
      exact hK a' w' ⟨p1, p2, p3, p4, p5, p6, p7, hs'.putF (i := 2) rfl [0] [0, 1, 2, 3, 4, 5, 6, 7] rfl rfl rfl rfl⟩
    · intro L a w hv K Q hK
      obtain ⟨p1, p2, p3, p4, p5, p6, p7, hs⟩ := hv
      refine wpOp_go rfl rfl hs (OpT_idxS rfl rfl rfl rfl rfl slF22 (i := 0) rfl hx1) ?_
      rintro _ ⟨p1', rfl⟩ a' w' hs'
      exact hK a' w' ⟨p1', p2, p3, p4, p5, p6, p7, hs'.putF (i := 3) rfl [0] [0, 8, 2, 3, 4, 5, 6, 7] rfl rfl rfl rfl⟩
    · intro L a w hv K Q hK
      obtain ⟨p1, p2, p3, p4, p5, p6, p7, hs⟩ := hv
      refine wpOp_go rfl rfl hs (OpT_loadP rfl rfl rfl rfl tyF5 (i := 1) rfl rfl) ?_
      rintro _ rfl a' w' hs'
      exact hK a' w' ⟨p1, p2, p3, p4, p5, p6, p7, hs'.putF (i := 4) rfl [0] [0, 1, 2, 3, 4, 5, 6, 7] rfl rfl rfl rfl⟩
    · intro L a w hv K Q hK
      obtain ⟨p1, p2, p3, p4, p5, p6, p7, hs⟩ := hv
      refine wpOp_go rfl rfl hs (OpT_move rfl rfl rfl rfl) ?_
      rintro _ rfl a' w' hs'
      exact hK a' w' ⟨p1, p2, p3, p4, p5, p6, p7, hs'.putF (i := 5) rfl [0] [0, 1, 2, 3, 4, 5, 6, 7] rfl rfl rfl rfl⟩
    · intro L a w hv K Q hK
      obtain ⟨p1, p2, p3, p4, p5, p6, p7, hs⟩ := hv
      refine wpOp_go rfl rfl hs (OpT_idxS rfl rfl rfl rfl rfl slF22 (i := 0) rfl hx2) ?_
      rintro _ ⟨p2', rfl⟩ a' w' hs'
      exact hK a' w' ⟨p1, p2', p3, p4, p5, p6, p7, hs'.putF (i := 6) rfl [0] [0, 1, 8, 3, 4, 5, 6, 7] rfl rfl rfl rfl⟩
    · intro L a w hv K Q hK
      obtain ⟨p1, p2, p3, p4, p5, p6, p7, hs⟩ := hv
      refine wpOp_go rfl rfl hs (OpT_loadP rfl rfl rfl rfl tyF5 (i := 2) rfl rfl) ?_
      rintro _ rfl a' w' hs'
      exact hK a' w' ⟨p1, p2, p3, p4, p5, p6, p7, hs'.putF (i := 7) rfl [0] [0, 1, 2, 3, 4, 5, 6, 7] rfl rfl rfl rfl⟩
    · intro L a w hv K Q hK
      obtain ⟨p1, p2, p3, p4, p5, p6, p7, hs⟩ := hv
      refine wpOp_go rfl rfl hs (OpT_cnv rfl rfl rfl rfl (cnv_u8_u16 (n := y2) Try.underlying5 Try.underlying24)) ?_
      rintro _ rfl a' w' hs'
      exact hK a' w' ⟨p1, p2, p3, p4, p5, p6, p7, hs'.putF (i := 8) rfl [0] [0, 1, 2, 3, 4, 5, 6, 7] rfl rfl rfl rfl⟩
    · intro L a w hv K Q hK
      obtain ⟨p1, p2, p3, p4, p5, p6, p7, hs⟩ := hv
      refine wpOp_go rfl rfl hs (OpT_move rfl rfl rfl rfl) ?_
      rintro _ rfl a' w' hs'
      exact hK a' w' ⟨p1, p2, p3, p4, p5, p6, p7, hs'.putF (i := 9) rfl [0] [0, 1, 2, 3, 4, 5, 6, 7] rfl rfl rfl rfl⟩
    · intro L a w hv K Q hK
      obtain ⟨p1, p2, p3, p4, p5, p6, p7, hs⟩ := hv
      refine wpOp_go rfl rfl hs (OpT_idxS rfl rfl rfl rfl rfl slF22 (i := 0) rfl hx3) ?_
      rintro _ ⟨p3', rfl⟩ a' w' hs'
      exact hK a' w' ⟨p1, p2, p3', p4, p5, p6, p7, hs'.putF (i := 10) rfl [0] [0, 1, 2, 8, 4, 5, 6, 7] rfl rfl rfl rfl⟩
    · intro L a w hv K Q hK
      obtain ⟨p1, p2, p3, p4, p5, p6, p7, hs⟩ := hv
      refine wpOp_go rfl rfl hs (OpT_loadP rfl rfl rfl rfl tyF5 (i := 3) rfl rfl) ?_
      rintro _ rfl a' w' hs'
      exact hK a' w' ⟨p1, p2, p3, p4, p5, p6, p7, hs'.putF (i := 11) rfl [0] [0, 1, 2, 3, 4, 5, 6, 7] rfl rfl rfl rfl⟩
    · intro L a w hv K Q hK
      obtain ⟨p1, p2, p3, p4, p5, p6, p7, hs⟩ := hv
      refine wpOp_go rfl rfl hs (OpT_cnv rfl rfl rfl rfl (cnv_u8_u16 (n := y3) Try.underlying5 Try.underlying24)) ?_
      rintro _ rfl a' w' hs'
      exact hK a' w' ⟨p1, p2, p3, p4, p5, p6, p7, hs'.putF (i := 12) rfl [0] [0, 1, 2, 3, 4, 5, 6, 7] rfl rfl rfl rfl⟩
    · intro L a w hv K Q hK
      obtain ⟨p1, p2, p3, p4, p5, p6, p7, hs⟩ := hv
      refine wpOp_go rfl rfl hs (OpT_bin rfl rfl rfl rfl rfl (bin_shl_u16_u64 (a := y3.toUInt16) (n := (8 : UInt64)))) ?_
      rintro _ rfl a' w' hs'
      exact hK a' w' ⟨p1, p2, p3, p4, p5, p6, p7, hs'.putF (i := 13) rfl [0] [0, 1, 2, 3, 4, 5, 6, 7] rfl rfl rfl rfl⟩
    · intro L a w hv K Q hK
      obtain ⟨p1, p2, p3, p4, p5, p6, p7, hs⟩ := hv
      refine wpOp_go rfl rfl hs (OpT_bin rfl rfl rfl rfl rfl (bin_or_u16 (a := y2.toUInt16) (b := shl16 y3.toUInt16 ((8 : UInt64).toNat)))) ?_
      rintro _ rfl a' w' hs'
      exact hK a' w' ⟨p1, p2, p3, p4, p5, p6, p7, hs'.putF (i := 14) rfl [0] [0, 1, 2, 3, 4, 5, 6, 7] rfl rfl rfl rfl⟩
    · intro L a w hv K Q hK
      obtain ⟨p1, p2, p3, p4, p5, p6, p7, hs⟩ := hv
      refine wpOp_go rfl rfl hs (OpT_move rfl rfl rfl rfl) ?_
      rintro _ rfl a' w' hs'
      exact hK a' w' ⟨p1, p2, p3, p4, p5, p6, p7, hs'.putF (i := 15) rfl [0] [0, 1, 2, 3, 4, 5, 6, 7] rfl rfl rfl rfl⟩
    · intro L a w hv K Q hK
      obtain ⟨p1, p2, p3, p4, p5, p6, p7, hs⟩ := hv
      refine wpOp_go rfl rfl hs (OpT_idxS rfl rfl rfl rfl rfl slF22 (i := 0) rfl hx4) ?_
      rintro _ ⟨p4', rfl⟩ a' w' hs'
      exact hK a' w' ⟨p1, p2, p3, p4', p5, p6, p7, hs'.putF (i := 16) rfl [0] [0, 1, 2, 3, 8, 5, 6, 7] rfl rfl rfl rfl⟩
    · intro L a w hv K Q hK
      obtain ⟨p1, p2, p3, p4, p5, p6, p7, hs⟩ := hv
      refine wpOp_go rfl rfl hs (OpT_loadP rfl rfl rfl rfl tyF5 (i := 4) rfl rfl) ?_
      rintro _ rfl a' w' hs'
      exact hK a' w' ⟨p1, p2, p3, p4, p5, p6, p7, hs'.putF (i := 17) rfl [0] [0, 1, 2, 3, 4, 5, 6, 7] rfl rfl rfl rfl⟩
    · intro L a w hv K Q hK
      obtain ⟨p1, p2, p3, p4, p5, p6, p7, hs⟩ := hv
      refine wpOp_go rfl rfl hs (OpT_cnv rfl rfl rfl rfl (cnv_u8_u16 (n := y4) Try.underlying5 Try.underlying24)) ?_
      rintro _ rfl a' w' hs'
      exact hK a' w' ⟨p1, p2, p3, p4, p5, p6, p7, hs'.putF (i := 18) rfl [0] [0, 1, 2, 3, 4, 5, 6, 7] rfl rfl rfl rfl⟩
    · intro L a w hv K Q hK
      obtain ⟨p1, p2, p3, p4, p5, p6, p7, hs⟩ := hv
      refine wpOp_go rfl rfl hs (OpT_move rfl rfl rfl rfl) ?_
      rintro _ rfl a' w' hs'
      exact hK a' w' ⟨p1, p2, p3, p4, p5, p6, p7, hs'.putF (i := 19) rfl [0] [0, 1, 2, 3, 4, 5, 6, 7] rfl rfl rfl rfl⟩
    · intro L a w hv K Q hK
      obtain ⟨p1, p2, p3, p4, p5, p6, p7, hs⟩ := hv
      refine wpOp_go rfl rfl hs (OpT_idxS rfl rfl rfl rfl rfl slF22 (i := 0) rfl hx5) ?_
      rintro _ ⟨p5', rfl⟩ a' w' hs'
      exact hK a' w' ⟨p1, p2, p3, p4, p5', p6, p7, hs'.putF (i := 20) rfl [0] [0, 1, 2, 3, 4, 8, 6, 7] rfl rfl rfl rfl⟩
    · intro L a w hv K Q hK
      obtain ⟨p1, p2, p3, p4, p5, p6, p7, hs⟩ := hv
      refine wpOp_go rfl rfl hs (OpT_loadP rfl rfl rfl rfl tyF5 (i := 5) rfl rfl) ?_
      rintro _ rfl a' w' hs'
      exact hK a' w' ⟨p1, p2, p3, p4, p5, p6, p7, hs'.putF (i := 21) rfl [0] [0, 1, 2, 3, 4, 5, 6, 7] rfl rfl rfl rfl⟩
    · intro L a w hv K Q hK
      obtain ⟨p1, p2, p3, p4, p5, p6, p7, hs⟩ := hv
      refine wpOp_go rfl rfl hs (OpT_cnv rfl rfl rfl rfl (cnv_u8_u16 (n := y5) Try.underlying5 Try.underlying24)) ?_
      rintro _ rfl a' w' hs'
      exact hK a' w' ⟨p1, p2, p3, p4, p5, p6, p7, hs'.putF (i := 22) rfl [0] [0, 1, 2, 3, 4, 5, 6, 7] rfl rfl rfl rfl⟩
    · intro L a w hv K Q hK
      obtain ⟨p1, p2, p3, p4, p5, p6, p7, hs⟩ := hv
      refine wpOp_go rfl rfl hs (OpT_bin rfl rfl rfl rfl rfl (bin_shl_u16_u64 (a := y5.toUInt16) (n := (8 : UInt64)))) ?_
      rintro _ rfl a' w' hs'
      exact hK a' w' ⟨p1, p2, p3, p4, p5, p6, p7, hs'.putF (i := 23) rfl [0] [0, 1, 2, 3, 4, 5, 6, 7] rfl rfl rfl rfl⟩
    · intro L a w hv K Q hK
      obtain ⟨p1, p2, p3, p4, p5, p6, p7, hs⟩ := hv
      refine wpOp_go rfl rfl hs (OpT_bin rfl rfl rfl rfl rfl (bin_or_u16 (a := y4.toUInt16) (b := shl16 y5.toUInt16 ((8 : UInt64).toNat)))) ?_
      rintro _ rfl a' w' hs'
      exact hK a' w' ⟨p1, p2, p3, p4, p5, p6, p7, hs'.putF (i := 24) rfl [0] [0, 1, 2, 3, 4, 5, 6, 7] rfl rfl rfl rfl⟩
    · intro L a w hv K Q hK
      obtain ⟨p1, p2, p3, p4, p5, p6, p7, hs⟩ := hv
      refine wpOp_go rfl rfl hs (OpT_move rfl rfl rfl rfl) ?_
      rintro _ rfl a' w' hs'
      exact hK a' w' ⟨p1, p2, p3, p4, p5, p6, p7, hs'.putF (i := 25) rfl [0] [0, 1, 2, 3, 4, 5, 6, 7] rfl rfl rfl rfl⟩
    · intro L a w hv K Q hK
      obtain ⟨p1, p2, p3, p4, p5, p6, p7, hs⟩ := hv
      refine wpOp_go rfl rfl hs (OpT_idxS rfl rfl rfl rfl rfl slF22 (i := 0) rfl hx6) ?_
      rintro _ ⟨p6', rfl⟩ a' w' hs'
      exact hK a' w' ⟨p1, p2, p3, p4, p5, p6', p7, hs'.putF (i := 26) rfl [0] [0, 1, 2, 3, 4, 5, 8, 7] rfl rfl rfl rfl⟩
    · intro L a w hv K Q hK
      obtain ⟨p1, p2, p3, p4, p5, p6, p7, hs⟩ := hv
      refine wpOp_go rfl rfl hs (OpT_loadP rfl rfl rfl rfl tyF5 (i := 6) rfl rfl) ?_
      rintro _ rfl a' w' hs'
      exact hK a' w' ⟨p1, p2, p3, p4, p5, p6, p7, hs'.putF (i := 27) rfl [0] [0, 1, 2, 3, 4, 5, 6, 7] rfl rfl rfl rfl⟩
    · intro L a w hv K Q hK
      obtain ⟨p1, p2, p3, p4, p5, p6, p7, hs⟩ := hv
      refine wpOp_go rfl rfl hs (OpT_cnv rfl rfl rfl rfl (cnv_u8_u16 (n := y6) Try.underlying5 Try.underlying24)) ?_
      rintro _ rfl a' w' hs'
      exact hK a' w' ⟨p1, p2, p3, p4, p5, p6, p7, hs'.putF (i := 28) rfl [0] [0, 1, 2, 3, 4, 5, 6, 7] rfl rfl rfl rfl⟩
    · intro L a w hv K Q hK
      obtain ⟨p1, p2, p3, p4, p5, p6, p7, hs⟩ := hv
      refine wpOp_go rfl rfl hs (OpT_move rfl rfl rfl rfl) ?_
      rintro _ rfl a' w' hs'
      exact hK a' w' ⟨p1, p2, p3, p4, p5, p6, p7, hs'.putF (i := 29) rfl [0] [0, 1, 2, 3, 4, 5, 6, 7] rfl rfl rfl rfl⟩
    · intro L a w hv K Q hK
      obtain ⟨p1, p2, p3, p4, p5, p6, p7, hs⟩ := hv
      refine wpOp_go rfl rfl hs (OpT_idxS rfl rfl rfl rfl rfl slF22 (i := 0) rfl hx7) ?_
      rintro _ ⟨p7', rfl⟩ a' w' hs'
      exact hK a' w' ⟨p1, p2, p3, p4, p5, p6, p7', hs'.putF (i := 30) rfl [0] [0, 1, 2, 3, 4, 5, 6, 8] rfl rfl rfl rfl⟩
    · intro L a w hv K Q hK
      obtain ⟨p1, p2, p3, p4, p5, p6, p7, hs⟩ := hv
      refine wpOp_go rfl rfl hs (OpT_loadP rfl rfl rfl rfl tyF5 (i := 7) rfl rfl) ?_
      rintro _ rfl a' w' hs'
      exact hK a' w' ⟨p1, p2, p3, p4, p5, p6, p7, hs'.putF (i := 31) rfl [0] [0, 1, 2, 3, 4, 5, 6, 7] rfl rfl rfl rfl⟩
    · intro L a w hv K Q hK
      obtain ⟨p1, p2, p3, p4, p5, p6, p7, hs⟩ := hv
      refine wpOp_go rfl rfl hs (OpT_cnv rfl rfl rfl rfl (cnv_u8_u16 (n := y7) Try.underlying5 Try.underlying24)) ?_
      rintro _ rfl a' w' hs'
      exact hK a' w' ⟨p1, p2, p3, p4, p5, p6, p7, hs'.putF (i := 32) rfl [0] [0, 1, 2, 3, 4, 5, 6, 7] rfl rfl rfl rfl⟩
    · intro L a w hv K Q hK
      obtain ⟨p1, p2, p3, p4, p5, p6, p7, hs⟩ := hv
      refine wpOp_go rfl rfl hs (OpT_bin rfl rfl rfl rfl rfl (bin_shl_u16_u64 (a := y7.toUInt16) (n := (8 : UInt64)))) ?_
      rintro _ rfl a' w' hs'
      exact hK a' w' ⟨p1, p2, p3, p4, p5, p6, p7, hs'.putF (i := 33) rfl [0] [0, 1, 2, 3, 4, 5, 6, 7] rfl rfl rfl rfl⟩
    · intro L a w hv K Q hK
      obtain ⟨p1, p2, p3, p4, p5, p6, p7, hs⟩ := hv
      refine wpOp_go rfl rfl hs (OpT_bin rfl rfl rfl rfl rfl (bin_or_u16 (a := y6.toUInt16) (b := shl16 y7.toUInt16 ((8 : UInt64).toNat)))) ?_
      rintro _ rfl a' w' hs'
      exact hK a' w' ⟨p1, p2, p3, p4, p5, p6, p7, hs'.putF (i := 34) rfl [0] [0, 1, 2, 3, 4, 5, 6, 7] rfl rfl rfl rfl⟩
    · intro L a w hL hv
      rw [allTrue hL] at hv
      obtain ⟨p1, p2, p3, p4, p5, p6, p7, hs⟩ := hv
      refine (show TA _ _ _ 33 ⟨[(2, some (.pointer (some ⟨b1, 0, none⟩))), (10, some (vU8 y1)), (20, some (vU16 (y2.toUInt16 ||| (shl16 y3.toUInt16 ((8 : UInt64).toNat))))), (30, some (vU16 (y4.toUInt16 ||| (shl16 y5.toUInt16 ((8 : UInt64).toNat))))), (40, some (vU16 (y6.toUInt16 ||| (shl16 y7.toUInt16 ((8 : UInt64).toNat)))))], [some (cellsR b1 34 [vU8 (0 : UInt8), vU16 (0 : UInt16), vU16 (0 : UInt16), vU16 (0 : UInt16)])], []⟩ from ?_) a w (hs.wkS [2, 10, 20, 30, 40] [0] [] rfl rfl rfl rfl)
      clear hs hL
      refine TA_step htb (by kernel_rfl) rfl rfl (OpT_build (v := .agg #[vU8 y1, vU16 (y2.toUInt16 ||| (shl16 y3.toUInt16 ((8 : UInt64).toNat))), vU16 (y4.toUInt16 ||| (shl16 y5.toUInt16 ((8 : UInt64).toNat))), vU16 (y6.toUInt16 ||| (shl16 y7.toUInt16 ((8 : UInt64).toNat)))]) rfl rfl rfl rfl (bldV (by kernel_rfl))) ?_
      refine TA_step htb (by kernel_rfl) rfl rfl (OpT_storeC (cs' := [vU8 y1, vU16 (y2.toUInt16 ||| (shl16 y3.toUInt16 ((8 : UInt64).toNat))), vU16 (y4.toUInt16 ||| (shl16 y5.toUInt16 ((8 : UInt64).toNat))), vU16 (y6.toUInt16 ||| (shl16 y7.toUInt16 ((8 : UInt64).toNat)))]) rfl rfl rfl rfl tyF34 (i := 0) rfl rfl rfl (one_of rfl) rfl) ?_
      refine TA_step htb (by kernel_rfl) rfl rfl (OpT_assign rfl rfl rfl rfl) ?_
      refine TA_end rfl ?_
      refine Tk_wkS (fr' := [(2, some (.pointer (some ⟨b1, 0, none⟩))), (3, some (vI (0 : Int)))]) (own' := [some (cellsR b1 34 [vU8 y1, vU16 (y2.toUInt16 ||| (shl16 y3.toUInt16 ((8 : UInt64).toNat))), vU16 (y4.toUInt16 ||| (shl16 y5.toUInt16 ((8 : UInt64).toNat))), vU16 (y6.toUInt16 ||| (shl16 y7.toUInt16 ((8 : UInt64).toNat)))])]) (shr' := []) [2, 3] [0] [] rfl rfl rfl rfl ?_
      obtain rfl := Option.some.inj h
      exact Tk_retV rfl rfl (resA (vs := [.agg #[vU8 y1, vU16 (y2.toUInt16 ||| (shl16 y3.toUInt16 ((8 : UInt64).toNat))), vU16 (y4.toUInt16 ||| (shl16 y5.toUInt16 ((8 : UInt64).toNat))), vU16 (y6.toUInt16 ||| (shl16 y7.toUInt16 ((8 : UInt64).toNat)))], vI (0 : Int)]) rfl ⟨⟨_, 0, _, _, _, rfl, rfl, .inl ⟨tyF34, rfl, rfl⟩⟩, rfl, trivial⟩) [] [] rfl rfl rfl ⟨rfl, rfl, rfl⟩

set_option maxRecDepth 100000 in
set_option maxHeartbeats 4000000 in
theorem w_ref_Sum23 {b : List UInt8} {vb1 : Value} {r : UInt16} (h : ref_Sum23 b = some r) :
    Ctr Try.prog 33 #[vb1] [] [Fact.sl u8S vb1 b]
      (fun rv own shr => rv = vU16 r ∧ own = [] ∧ shr = []) := by
  unfold ref_Sum23 at h
  refine Ctr.mk (args := [vb1]) Try.func33 rfl rfl (fun R0 w0 B => ?_)
  refine Tk_seq ?_
  refine Tk_region ?_
  refine Tops_step rfl (OpT_assign rfl rfl rfl rfl) ?_
  refine Tops_nil ?_
  refine Tk_wkS (fr' := [(0, some (vb1))]) (own' := []) (shr' := [Fact.sl u8S vb1 b]) [0] [] [0] rfl rfl rfl rfl ?_
  refine Tk_seq ?_
  refine Tk_region ?_
  refine Tops_step rfl (OpT_assign rfl rfl rfl rfl) ?_
  refine Tops_nil ?_
  refine Tk_seq ?_
  refine Tk_seq ?_
  refine Tk_region ?_
  refine Tops_step rfl (OpT_assign rfl rfl rfl rfl) ?_
  refine Tops_nil ?_
  refine Tk_block ?_
  refine Tk_loopS (σ := UInt64 × Int) [0, 3, 4] [] [0] (fun s => ⟨[(0, some (vb1)), (3, some (vU64 s.1)), (4, some (vI s.2))], [], [Fact.sl u8S vb1 b]⟩) (fun nf s => ref_Sum23L1 b nf s.1 s.2 = some r) fuel ((0 : UInt64), (0 : Int)) h rfl rfl rfl rfl rfl (fun s h => by cases h) ?_
  rintro nf ⟨n1, i1⟩ h
  replace h : ref_Sum23L1B b (ref_Sum23L1 b nf) n1 i1 = some r := h
  unfold ref_Sum23L1B at h
  refine Tk_seq ?_
  refine Tk_seq ?_
  refine Tk_region ?_
  refine Tops_step rfl (OpT_move rfl rfl rfl rfl) ?_
  refine Tops_step rfl (OpT_move rfl rfl rfl rfl) ?_
  refine Tops_step rfl (OpT_lenS rfl rfl rfl rfl Try.underlying22 (i := 0) rfl) ?_
  refine Tops_step rfl (OpT_bin rfl rfl rfl rfl rfl (bin_lss_i (a := i1) (b := len b))) ?_
  refine Tops_nil ?_
  refine Tk_wkS (fr' := [(0, some (vb1)), (3, some (vU64 n1)), (4, some (vI i1)), (8, some (vB (decide (i1 < (len b)))))]) (own' := []) (shr' := [Fact.sl u8S vb1 b]) [0, 3, 4, 8] [] [0] rfl rfl rfl rfl ?_
  rcases Bool.eq_false_or_eq_true (decide (i1 < (len b))) with hg1 | hg1
  · replace h := br_t hg1 h
    refine Tk_condT (congrArg (fun b => some (Value.bool b)) hg1) ?_
    refine Tk_skip ?_
    refine Tk_seq ?_
    refine Tk_join (α := UInt64) (fun s => ⟨[(0, some (vb1)), (3, some (vU64 s)), (4, some (vI i1))], [], [Fact.sl u8S vb1 b]⟩) (fun s => ref_Sum23J2 i1 (ref_Sum23L1 b nf) s = some r) ?_ ?_
    · rintro n2 h
      replace h : ref_Sum23J2 i1 (ref_Sum23L1 b nf) n2 = some r := h
      unfold ref_Sum23J2 at h
      refine Tk_region ?_
      refine Tops_step rfl (OpT_move rfl rfl rfl rfl) ?_
      refine Tops_step rfl (OpT_bin rfl rfl rfl rfl rfl (bin_add_i (a := i1) (b := (2 : Int)))) ?_
      refine Tops_step rfl (OpT_assign rfl rfl rfl rfl) ?_
      refine Tops_nil ?_
      refine Tk_wkS (fr' := [(0, some (vb1)), (3, some (vU64 n2)), (4, some (vI (wi (i1 + (2 : Int)))))]) (own' := []) (shr' := [Fact.sl u8S vb1 b]) [0, 3, 4] [] [0] rfl rfl rfl rfl ?_
      exact Tk_backS (n2, wi (i1 + (2 : Int))) h [0, 3, 4] [] [0] rfl rfl rfl rfl rfl
    · intro HJ1
      refine Tk_block ?_
      refine Tk_seq ?_
      refine Tk_region ?_
      refine Tops_step rfl (OpT_move rfl rfl rfl rfl) ?_
      refine Tops_step rfl (OpT_move rfl rfl rfl rfl) ?_
      refine Tops_step rfl (OpT_move rfl rfl rfl rfl) ?_
      obtain ⟨y1, hx1, h⟩ := ob_e h
      refine Tops_ex rfl (OpT_idxS rfl rfl rfl rfl rfl slF22 (i := 0) rfl hx1) fun p1 => ?_
      refine Tops_step rfl (OpT_loadP rfl rfl rfl rfl tyF5 (i := 1) rfl rfl) ?_
      refine Tops_step rfl (OpT_cnv rfl rfl rfl rfl (cnv_u8_u64 (n := y1) Try.underlying5 Try.underlying53)) ?_
      refine Tops_step rfl (OpT_bin rfl rfl rfl rfl rfl (bin_shl_u64_u64 (a := y1.toUInt64) (n := (8 : UInt64)))) ?_
      refine Tops_step rfl (OpT_bin rfl rfl rfl rfl rfl (bin_add_u64 (a := n1) (b := shl64 y1.toUInt64 ((8 : UInt64).toNat)))) ?_
      refine Tops_step rfl (OpT_assign rfl rfl rfl rfl) ?_
      refine Tops_nil ?_
      refine Tk_wkS (fr' := [(0, some (vb1)), (3, some (vU64 (n1 + (shl64 y1.toUInt64 ((8 : UInt64).toNat))))), (4, some (vI i1))]) (own' := []) (shr' := [Fact.sl u8S vb1 b]) [0, 3, 4] [] [0] rfl rfl rfl rfl ?_
      refine Tk_seq ?_
      refine Tk_region ?_
      refine Tops_step rfl (OpT_move rfl rfl rfl rfl) ?_
      refine Tops_step rfl (OpT_bin rfl rfl rfl rfl rfl (bin_add_i (a := i1) (b := (1 : Int)))) ?_
      refine Tops_step rfl (OpT_move rfl rfl rfl rfl) ?_
      refine Tops_step rfl (OpT_lenS rfl rfl rfl rfl Try.underlying22 (i := 0) rfl) ?_
      refine Tops_step rfl (OpT_bin rfl rfl rfl rfl rfl (bin_lss_i (a := wi (i1 + (1 : Int))) (b := len b))) ?_
      refine Tops_nil ?_
      refine Tk_wkS (fr' := [(0, some (vb1)), (3, some (vU64 (n1 + (shl64 y1.toUInt64 ((8 : UInt64).toNat))))), (4, some (vI i1)), (23, some (vB (decide ((wi (i1 + (1 : Int))) < (len b)))))]) (own' := []) (shr' := [Fact.sl u8S vb1 b]) [0, 3, 4, 23] [] [0] rfl rfl rfl rfl ?_
      refine Tk_join (α := UInt64) (fun s => ⟨[(0, some (vb1)), (3, some (vU64 s)), (4, some (vI i1))], [], [Fact.sl u8S vb1 b]⟩) (fun s => ref_Sum23J3 i1 (ref_Sum23L1 b nf) s = some r) ?_ ?_
      · rintro n3 h
        replace h : ref_Sum23J3 i1 (ref_Sum23L1 b nf) n3 = some r := h
        unfold ref_Sum23J3 at h
        refine Tk_blk ?_
        exact Tk_jmpS (HJ1 n3 h) [0, 3, 4] [] [0] rfl rfl rfl rfl
      · intro HJ2
        rcases Bool.eq_false_or_eq_true (decide ((wi (i1 + (1 : Int))) < (len b))) with hg2 | hg2
        · replace h := br_t hg2 h
          refine Tk_condT (congrArg (fun b => some (Value.bool b)) hg2) ?_
          refine Tk_region ?_
          refine Tops_step rfl (OpT_move rfl rfl rfl rfl) ?_
          refine Tops_step rfl (OpT_move rfl rfl rfl rfl) ?_
          refine Tops_step rfl (OpT_move rfl rfl rfl rfl) ?_
          refine Tops_step rfl (OpT_bin rfl rfl rfl rfl rfl (bin_add_i (a := i1) (b := (1 : Int)))) ?_
          obtain ⟨y2, hx2, h⟩ := ob_e h
          refine Tops_ex rfl (OpT_idxS rfl rfl rfl rfl rfl slF22 (i := 0) rfl hx2) fun p2 => ?_
          refine Tops_step rfl (OpT_loadP rfl rfl rfl rfl tyF5 (i := 1) rfl rfl) ?_
          refine Tops_step rfl (OpT_cnv rfl rfl rfl rfl (cnv_u8_u64 (n := y2) Try.underlying5 Try.underlying53)) ?_
          refine Tops_step rfl (OpT_bin rfl rfl rfl rfl rfl (bin_add_u64 (a := n1 + (shl64 y1.toUInt64 ((8 : UInt64).toNat))) (b := y2.toUInt64))) ?_
          refine Tops_step rfl (OpT_assign rfl rfl rfl rfl) ?_
          refine Tops_nil ?_
          refine Tk_wkS (fr' := [(0, some (vb1)), (3, some (vU64 ((n1 + (shl64 y1.toUInt64 ((8 : UInt64).toNat))) + y2.toUInt64))), (4, some (vI i1))]) (own' := []) (shr' := [Fact.sl u8S vb1 b]) [0, 3, 4] [] [0] rfl rfl rfl rfl ?_
          exact Tk_jmpS (HJ2 ((n1 + (shl64 y1.toUInt64 ((8 : UInt64).toNat))) + y2.toUInt64) h) [0, 3, 4] [] [0] rfl rfl rfl rfl
        · replace h := br_f hg2 h
          refine Tk_condF (congrArg (fun b => some (Value.bool b)) hg2) ?_
          refine Tk_skip ?_
          exact Tk_jmpS (HJ2 (n1 + (shl64 y1.toUInt64 ((8 : UInt64).toNat))) h) [0, 3, 4] [] [0] rfl rfl rfl rfl
  · replace h := br_f hg1 h
    refine Tk_condF (congrArg (fun b => some (Value.bool b)) hg1) ?_
    refine Tk_exit _ rfl ?_
    refine Tk_seq ?_
    refine Tk_block ?_
    refine Tk_loopS (σ := UInt64) [3] [] [] (fun s => ⟨[(3, some (vU64 s))], [], []⟩) (fun nf s => ref_Sum23L4 nf s = some r) fuel n1 h rfl rfl rfl rfl rfl (fun s h => by cases h) ?_
    rintro nf n4 h
    replace h : ref_Sum23L4B (ref_Sum23L4 nf) n4 = some r := h
    unfold ref_Sum23L4B at h
    refine Tk_seq ?_
    refine Tk_seq ?_
    refine Tk_region ?_
    refine Tops_step rfl (OpT_move rfl rfl rfl rfl) ?_
    refine Tops_step rfl (OpT_bin rfl rfl rfl rfl rfl (bin_gtr_u64 (a := n4) (b := (65535 : UInt64)))) ?_
    refine Tops_nil ?_
    refine Tk_wkS (fr' := [(3, some (vU64 n4)), (33, some (vB (decide (n4 > (65535 : UInt64)))))]) (own' := []) (shr' := []) [3, 33] [] [] rfl rfl rfl rfl ?_
    rcases Bool.eq_false_or_eq_true (decide (n4 > (65535 : UInt64))) with hg3 | hg3
    · replace h := br_t hg3 h
      refine Tk_condT (congrArg (fun b => some (Value.bool b)) hg3) ?_
      refine Tk_skip ?_
      refine Tk_block ?_
      refine Tk_region ?_
      refine Tops_step rfl (OpT_move rfl rfl rfl rfl) ?_
      refine Tops_step rfl (OpT_bin rfl rfl rfl rfl rfl (bin_rem_u64 (a := n4) (b := (65536 : UInt64)) rfl)) ?_
      refine Tops_step rfl (OpT_move rfl rfl rfl rfl) ?_
      refine Tops_step rfl (OpT_bin rfl rfl rfl rfl rfl (bin_quo_u64 (a := n4) (b := (65536 : UInt64)) rfl)) ?_
      refine Tops_step rfl (OpT_bin rfl rfl rfl rfl rfl (bin_add_u64 (a := n4 % (65536 : UInt64)) (b := n4 / (65536 : UInt64)))) ?_
      refine Tops_step rfl (OpT_assign rfl rfl rfl rfl) ?_
      refine Tops_nil ?_
      refine Tk_wkS (fr' := [(3, some (vU64 ((n4 % (65536 : UInt64)) + (n4 / (65536 : UInt64)))))]) (own' := []) (shr' := []) [3] [] [] rfl rfl rfl rfl ?_
      refine Tk_blk ?_
      exact Tk_backS ((n4 % (65536 : UInt64)) + (n4 / (65536 : UInt64))) h [3] [] [] rfl rfl rfl rfl rfl
    · replace h := br_f hg3 h
      refine Tk_condF (congrArg (fun b => some (Value.bool b)) hg3) ?_
      refine Tk_exit _ rfl ?_
      refine Tk_seq ?_
      refine Tk_region ?_
      refine Tops_step rfl (OpT_move rfl rfl rfl rfl) ?_
      refine Tops_step rfl (OpT_cnv rfl rfl rfl rfl (cnv_u64_u16 (n := n4) Try.underlying53 Try.underlying24)) ?_
      refine Tops_step rfl (OpT_xor_u16 (z := n4.toUInt16) rfl rfl rfl rfl) ?_
      refine Tops_step rfl (OpT_assign rfl rfl rfl rfl) ?_
      refine Tops_nil ?_
      refine Tk_wkS (fr' := [(2, some (vU16 (~~~n4.toUInt16)))]) (own' := []) (shr' := []) [2] [] [] rfl rfl rfl rfl ?_
      obtain rfl := Option.some.inj h
      exact Tk_retV rfl rfl (resA (vs := [vU16 (~~~n4.toUInt16)]) rfl ⟨rfl, trivial⟩) [] [] rfl rfl rfl ⟨rfl, rfl, rfl⟩

set_option maxRecDepth 100000 in
set_option maxHeartbeats 4000000 in
theorem w_ref_Fill23 {b : List UInt8} {hp1 : Hdr} {vb1 : Value} {r : ((List UInt8) × Int)} (h : ref_Fill23 b hp1 = some r) :
    Ctr Try.prog 31 #[vb1, .agg #[vU8 hp1.Flags, vU16 hp1.Start, vU16 hp1.Off, vU16 hp1.Buffers]] [] [Fact.sl u8S vb1 b]
      (fun rv own shr => ∃ (w1 : Value), rv = .tuple #[w1, vI r.2] ∧ own = [(rowS u8S w1 r.1)] ∧ shr = []) := by
  unfold ref_Fill23 at h
  refine Ctr.mk (args := [vb1, .agg #[vU8 hp1.Flags, vU16 hp1.Start, vU16 hp1.Off, vU16 hp1.Buffers]]) Try.func31 rfl rfl (fun R0 w0 B => ?_)
  refine Tk_seq ?_
  refine Tk_region ?_
  refine Tops_ex rfl (OpT_box rfl rfl rfl rfl) fun b1 => ?_
  refine Tops_step rfl (OpT_assign rfl rfl rfl rfl) ?_
  refine Tops_step rfl (OpT_assign rfl rfl rfl rfl) ?_
  refine Tops_nil ?_
  refine Tk_wkS (fr' := [(0, some (vb1)), (3, some (.pointer (some ⟨b1, 0, none⟩)))]) (own' := [some (cellsR b1 34 [vU8 hp1.Flags, vU16 hp1.Start, vU16 hp1.Off, vU16 hp1.Buffers])]) (shr' := [Fact.sl u8S vb1 b]) [0, 3] [0] [0] rfl rfl rfl rfl ?_
  refine Tk_seq ?_
  refine Tk_region ?_
  refine Tops_ex rfl (OpT_buildSlice (S := u8S) (xs := ([] : List UInt8)) (css := []) (cs := []) (e := 5) rfl rfl rfl rfl (bldF slF22 (by decide) (by kernel_rfl)) rfl rfl rfl rfl (rel_plainD (S := u8S) (xs := ([] : List UInt8)) (css := []) rfl rfl)) fun v1 => ?_
  refine Tops_step rfl (OpT_move rfl rfl rfl rfl) ?_
  obtain ⟨hc1, h⟩ := chk_e h
  refine Tops_ex rfl (OpT_append rfl rfl rfl rfl rfl slF22 (i := 1) (j := 0) rfl rfl hc1) fun v2 => ?_
  refine Tops_step rfl (OpT_assign rfl rfl rfl rfl) ?_
  refine Tops_nil ?_
  refine Tk_wkS (fr' := [(0, some (vb1)), (3, some (.pointer (some ⟨b1, 0, none⟩))), (6, some (v2))]) (own' := [some (cellsR b1 34 [vU8 hp1.Flags, vU16 hp1.Start, vU16 hp1.Off, vU16 hp1.Buffers]), some (rowS u8S v2 b)]) (shr' := [Fact.sl u8S vb1 b]) [0, 3, 6] [0, 1] [0] rfl rfl rfl rfl ?_
  refine Tk_seq ?_
  refine Tk_seq ?_
  refine Tk_region ?_
  refine Tops_step rfl (OpT_fieldC rfl rfl rfl rfl fldF34x0) ?_
  refine Tops_step rfl (OpT_loadC rfl rfl rfl rfl tyF5 (i := 0) rfl rfl) ?_
  refine Tops_step rfl (OpT_bin rfl rfl rfl rfl rfl (bin_and_u8 (a := hp1.Flags) (b := (1 : UInt8)))) ?_
  refine Tops_step rfl (OpT_bin rfl rfl rfl rfl rfl (bin_eql_u8 (a := hp1.Flags &&& (1 : UInt8)) (b := (0 : UInt8)))) ?_
  refine Tops_nil ?_
  refine Tk_wkS (fr' := [(0, some (vb1)), (3, some (.pointer (some ⟨b1, 0, none⟩))), (6, some (v2)), (15, some (vB ((hp1.Flags &&& (1 : UInt8)) == (0 : UInt8))))]) (own' := [some (cellsR b1 34 [vU8 hp1.Flags, vU16 hp1.Start, vU16 hp1.Off, vU16 hp1.Buffers]), some (rowS u8S v2 b)]) (shr' := [Fact.sl u8S vb1 b]) [0, 3, 6, 15] [0, 1] [0] rfl rfl rfl rfl ?_
  rcases Bool.eq_false_or_eq_true ((hp1.Flags &&& (1 : UInt8)) == (0 : UInt8)) with hg1 | hg1
  · replace h := br_t hg1 h
    refine Tk_condT (congrArg (fun b => some (Value.bool b)) hg1) ?_
    refine Tk_seq ?_
    refine Tk_region ?_
    refine Tops_step rfl (OpT_move rfl rfl rfl rfl) ?_
    refine Tops_step rfl (OpT_assign rfl rfl rfl rfl) ?_
    refine Tops_step rfl (OpT_assign rfl rfl rfl rfl) ?_
    refine Tops_nil ?_
    refine Tk_wkS (fr' := [(4, some (v2)), (5, some (vI (0 : Int)))]) (own' := [some (rowS u8S v2 b)]) (shr' := []) [4, 5] [1] [] rfl rfl rfl rfl ?_
    obtain rfl := Option.some.inj h
    exact Tk_retV rfl rfl (resA (vs := [v2, vI (0 : Int)]) rfl ⟨rfl, rfl, trivial⟩) [0] [] rfl rfl rfl ⟨v2, rfl, rfl, rfl⟩
  · replace h := br_f hg1 h
    refine Tk_condF (congrArg (fun b => some (Value.bool b)) hg1) ?_
    refine Tk_skip ?_
    refine Tk_seq ?_
    refine Tk_region ?_
    refine Tops_step rfl (OpT_fieldC rfl rfl rfl rfl fldF34x1) ?_
    refine Tops_step rfl (OpT_loadC rfl rfl rfl rfl tyF24 (i := 0) rfl rfl) ?_
    refine Tops_step rfl (OpT_cnv rfl rfl rfl rfl (cnv_u16_i (n := hp1.Start) Try.underlying24 Try.underlying3)) ?_
    refine Tops_step rfl (OpT_fieldC rfl rfl rfl rfl fldF34x2) ?_
    refine Tops_step rfl (OpT_loadC rfl rfl rfl rfl tyF24 (i := 0) rfl rfl) ?_
    refine Tops_step rfl (OpT_cnv rfl rfl rfl rfl (cnv_u16_i (n := hp1.Off) Try.underlying24 Try.underlying3)) ?_
    refine Tops_step rfl (OpT_bin rfl rfl rfl rfl rfl (bin_add_i (a := i16 hp1.Start) (b := i16 hp1.Off))) ?_
    refine Tops_step rfl (OpT_assign rfl rfl rfl rfl) ?_
    refine Tops_nil ?_
    refine Tk_wkS (fr' := [(0, some (vb1)), (3, some (.pointer (some ⟨b1, 0, none⟩))), (6, some (v2)), (7, some (vI (wi ((i16 hp1.Start) + (i16 hp1.Off)))))]) (own' := [some (cellsR b1 34 [vU8 hp1.Flags, vU16 hp1.Start, vU16 hp1.Off, vU16 hp1.Buffers]), some (rowS u8S v2 b)]) (shr' := [Fact.sl u8S vb1 b]) [0, 3, 6, 7] [0, 1] [0] rfl rfl rfl rfl ?_
    refine Tk_seq ?_
    refine Tk_seq ?_
    refine Tk_region ?_
    refine Tops_step rfl (OpT_fieldC rfl rfl rfl rfl fldF34x1) ?_
    refine Tops_step rfl (OpT_loadC rfl rfl rfl rfl tyF24 (i := 0) rfl rfl) ?_
    refine Tops_step rfl (OpT_cnv rfl rfl rfl rfl (cnv_u16_i (n := hp1.Start) Try.underlying24 Try.underlying3)) ?_
    refine Tops_step rfl (OpT_move rfl rfl rfl rfl) ?_
    refine Tops_step rfl (OpT_lenS rfl rfl rfl rfl Try.underlying22 (i := 0) rfl) ?_
    refine Tops_step rfl (OpT_bin rfl rfl rfl rfl rfl (bin_gtr_i (a := i16 hp1.Start) (b := len b))) ?_
    refine Tops_step rfl (OpT_move rfl rfl rfl rfl) ?_
    rcases Bool.eq_false_or_eq_true (decide ((i16 hp1.Start) > (len b))) with hg2 | hg2
    · replace h := br_t hg2 h
      refine Tops_no rfl rfl (congrArg (fun b => some (Value.bool b)) hg2) rfl rfl ?_
      refine Tops_no rfl rfl (congrArg (fun b => some (Value.bool b)) hg2) rfl rfl ?_
      refine Tops_no rfl rfl (congrArg (fun b => some (Value.bool b)) hg2) rfl rfl ?_
      refine Tops_no rfl rfl (congrArg (fun b => some (Value.bool b)) hg2) rfl rfl ?_
      refine Tops_no rfl rfl (congrArg (fun b => some (Value.bool b)) hg2) rfl rfl ?_
      refine Tops_step rfl (OpT_pickT rfl rfl rfl (congrArg (fun b => some (Value.bool b)) hg2) rfl) ?_
      refine Tops_nil ?_
      refine Tk_wkS (fr' := [(0, some (vb1)), (3, some (.pointer (some ⟨b1, 0, none⟩))), (6, some (v2)), (7, some (vI (wi ((i16 hp1.Start) + (i16 hp1.Off))))), (36, some (vB true))]) (own' := [some (cellsR b1 34 [vU8 hp1.Flags, vU16 hp1.Start, vU16 hp1.Off, vU16 hp1.Buffers]), some (rowS u8S v2 b)]) (shr' := [Fact.sl u8S vb1 b]) [0, 3, 6, 7, 36] [0, 1] [0] rfl rfl rfl rfl ?_
      refine Tk_condT rfl ?_
      refine Tk_seq ?_
      refine Tk_region ?_
      refine Tops_step rfl (OpT_assign rfl rfl rfl rfl) ?_
      refine Tops_step rfl (OpT_assign rfl rfl rfl rfl) ?_
      refine Tops_nil ?_
      refine Tk_wkS (fr' := [(4, some (.slice none 0 0)), (5, some (vI (4 : Int)))]) (own' := []) (shr' := []) [4, 5] [] [] rfl rfl rfl rfl ?_
      refine Tk_nilrow u8S ?_
      obtain rfl := Option.some.inj h
      exact Tk_retV rfl rfl (resA (vs := [.slice none 0 0, vI (4 : Int)]) rfl ⟨rfl, rfl, trivial⟩) [0] [] rfl rfl rfl ⟨(.slice none 0 0), rfl, rfl, rfl⟩
    · replace h := br_f hg2 h
      refine Tops_yes rfl rfl (congrArg (fun b => some (Value.bool b)) hg2) (OpT_move rfl rfl rfl rfl) ?_
      rintro _ rfl
      refine Tops_yes rfl rfl (congrArg (fun b => some (Value.bool b)) hg2) (OpT_bin rfl rfl rfl rfl rfl (bin_add_i (a := wi ((i16 hp1.Start) + (i16 hp1.Off))) (b := (2 : Int)))) ?_
      rintro _ rfl
      refine Tops_yes rfl rfl (congrArg (fun b => some (Value.bool b)) hg2) (OpT_move rfl rfl rfl rfl) ?_
      rintro _ rfl
      refine Tops_yes rfl rfl (congrArg (fun b => some (Value.bool b)) hg2) (OpT_lenS rfl rfl rfl rfl Try.underlying22 (i := 0) rfl) ?_
      rintro _ rfl
      refine Tops_yes rfl rfl (congrArg (fun b => some (Value.bool b)) hg2) (OpT_bin rfl rfl rfl rfl rfl (bin_gtr_i (a := wi ((wi ((i16 hp1.Start) + (i16 hp1.Off))) + (2 : Int))) (b := len b))) ?_
      rintro _ rfl
      refine Tops_step rfl (OpT_pickF rfl rfl rfl (congrArg (fun b => some (Value.bool b)) hg2) rfl) ?_
      refine Tops_nil ?_
      refine Tk_wkS (fr' := [(0, some (vb1)), (3, some (.pointer (some ⟨b1, 0, none⟩))), (6, some (v2)), (7, some (vI (wi ((i16 hp1.Start) + (i16 hp1.Off))))), (36, some (vB (decide ((wi ((wi ((i16 hp1.Start) + (i16 hp1.Off))) + (2 : Int))) > (len b)))))]) (own' := [some (cellsR b1 34 [vU8 hp1.Flags, vU16 hp1.Start, vU16 hp1.Off, vU16 hp1.Buffers]), some (rowS u8S v2 b)]) (shr' := [Fact.sl u8S vb1 b]) [0, 3, 6, 7, 36] [0, 1] [0] rfl rfl rfl rfl ?_
      rcases Bool.eq_false_or_eq_true (decide ((wi ((wi ((i16 hp1.Start) + (i16 hp1.Off))) + (2 : Int))) > (len b))) with hg3 | hg3
      · replace h := br_t hg3 h
        refine Tk_condT (congrArg (fun b => some (Value.bool b)) hg3) ?_
        refine Tk_seq ?_
        refine Tk_region ?_
        refine Tops_step rfl (OpT_assign rfl rfl rfl rfl) ?_
        refine Tops_step rfl (OpT_assign rfl rfl rfl rfl) ?_
        refine Tops_nil ?_
        refine Tk_wkS (fr' := [(4, some (.slice none 0 0)), (5, some (vI (4 : Int)))]) (own' := []) (shr' := []) [4, 5] [] [] rfl rfl rfl rfl ?_
        refine Tk_nilrow u8S ?_
        obtain rfl := Option.some.inj h
        exact Tk_retV rfl rfl (resA (vs := [.slice none 0 0, vI (4 : Int)]) rfl ⟨rfl, rfl, trivial⟩) [0] [] rfl rfl rfl ⟨(.slice none 0 0), rfl, rfl, rfl⟩
      · replace h := br_f hg3 h
        refine Tk_condF (congrArg (fun b => some (Value.bool b)) hg3) ?_
        refine Tk_skip ?_
        refine Tk_seq ?_
        refine Tk_region ?_
        refine Tops_step rfl (OpT_move rfl rfl rfl rfl) ?_
        refine Tops_step rfl (OpT_fieldC rfl rfl rfl rfl fldF34x1) ?_
        refine Tops_step rfl (OpT_loadC rfl rfl rfl rfl tyF24 (i := 0) rfl rfl) ?_
        obtain ⟨hc2, h⟩ := chk_e h
        refine Tops_ex rfl (OpT_sliceL (l := (hp1.Start.toNat : Int)) rfl rfl rfl rfl rfl slF22 (i := 0) rfl hc2) fun v3 => ?_
        obtain ⟨sum1, hx1, h⟩ := ob_e h
        refine Tops_exP rfl (OpT_call (w_ref_Sum23 hx1) [] [1] rfl rfl rfl rfl rfl callee33 rfl rfl rfl rfl) ?_
        rintro _ ⟨_, _, _, ⟨rfl, rfl, rfl⟩, rfl⟩
        refine Tops_step rfl (OpT_assign rfl rfl rfl rfl) ?_
        refine Tops_nil ?_
        refine Tk_wkS (fr' := [(6, some (v2)), (7, some (vI (wi ((i16 hp1.Start) + (i16 hp1.Off))))), (8, some (vU16 sum1))]) (own' := [some (rowS u8S v2 b)]) (shr' := []) [6, 7, 8] [1] [] rfl rfl rfl rfl ?_
        refine Tk_seq ?_
        refine Tk_region ?_
        refine Tops_step rfl (OpT_move rfl rfl rfl rfl) ?_
        refine Tops_step rfl (OpT_move rfl rfl rfl rfl) ?_
        refine Tops_step rfl (OpT_move rfl rfl rfl rfl) ?_
        refine Tops_step rfl (OpT_move rfl rfl rfl rfl) ?_
        refine Tops_step rfl (OpT_bin rfl rfl rfl rfl rfl (bin_add_i (a := wi ((i16 hp1.Start) + (i16 hp1.Off))) (b := (1 : Int)))) ?_
        refine Tops_step rfl (OpT_move rfl rfl rfl rfl) ?_
        refine Tops_step rfl (OpT_bin rfl rfl rfl rfl rfl (bin_shr_u16_u64 (a := sum1) (n := (8 : UInt64)))) ?_
        refine Tops_step rfl (OpT_cnv rfl rfl rfl rfl (cnv_u16_u8 (n := shr16 sum1 ((8 : UInt64).toNat)) Try.underlying24 Try.underlying5)) ?_
        refine Tops_step rfl (OpT_move rfl rfl rfl rfl) ?_
        refine Tops_step rfl (OpT_cnv rfl rfl rfl rfl (cnv_u16_u8 (n := sum1) Try.underlying24 Try.underlying5)) ?_
        obtain ⟨y1, hx2, h⟩ := ob_e h
        refine Tops_step rfl (OpT_idxO rfl rfl rfl rfl rfl slF22 (i := 0) rfl hx2) ?_
        refine Tops_step rfl (OpT_storeO (S := u8S) (u := (shr16 sum1 ((8 : UInt64).toNat)).toUInt8) rfl rfl rfl rfl rfl tyF5 (i := 0) rfl hx2 rfl) ?_
        obtain ⟨y2, hx3, h⟩ := ob_e h
        refine Tops_step rfl (OpT_idxO rfl rfl rfl rfl rfl slF22 (i := 0) rfl hx3) ?_
        refine Tops_step rfl (OpT_storeO (S := u8S) (u := sum1.toUInt8) rfl rfl rfl rfl rfl tyF5 (i := 0) rfl hx3 rfl) ?_
        refine Tops_nil ?_
        refine Tk_wkS (fr' := [(6, some (v2))]) (own' := [some (rowS u8S v2 ((b.set (wi ((i16 hp1.Start) + (i16 hp1.Off))).toNat ((shr16 sum1 ((8 : UInt64).toNat)).toUInt8)).set (wi ((wi ((i16 hp1.Start) + (i16 hp1.Off))) + (1 : Int))).toNat sum1.toUInt8))]) (shr' := []) [6] [0] [] rfl rfl rfl rfl ?_
        refine Tk_seq ?_
        refine Tk_region ?_
        refine Tops_step rfl (OpT_move rfl rfl rfl rfl) ?_
        refine Tops_step rfl (OpT_assign rfl rfl rfl rfl) ?_
        refine Tops_step rfl (OpT_assign rfl rfl rfl rfl) ?_
        refine Tops_nil ?_
        refine Tk_wkS (fr' := [(4, some (v2)), (5, some (vI (0 : Int)))]) (own' := [some (rowS u8S v2 ((b.set (wi ((i16 hp1.Start) + (i16 hp1.Off))).toNat ((shr16 sum1 ((8 : UInt64).toNat)).toUInt8)).set (wi ((wi ((i16 hp1.Start) + (i16 hp1.Off))) + (1 : Int))).toNat sum1.toUInt8))]) (shr' := []) [4, 5] [0] [] rfl rfl rfl rfl ?_
        obtain rfl := Option.some.inj h
        exact Tk_retV rfl rfl (resA (vs := [v2, vI (0 : Int)]) rfl ⟨rfl, rfl, trivial⟩) [0] [] rfl rfl rfl ⟨v2, rfl, rfl, rfl⟩

set_option maxRecDepth 100000 in
set_option maxHeartbeats 4000000 in
theorem w_ref_Bytes23 {f : Frame} {vf1 : Value} {r : ((List UInt8) × Int)} (h : ref_Bytes23 f = some r) :
    Ctr Try.prog 24 #[.agg #[vU8 f.Dst.a0, vU8 f.Dst.a1, vU8 f.Dst.a2, vU8 f.Dst.a3, vU8 f.Dst.a4, vU8 f.Dst.a5, vU8 f.Src.a0, vU8 f.Src.a1, vU8 f.Src.a2, vU8 f.Src.a3, vU8 f.Src.a4, vU8 f.Src.a5, vI f.Vlan, vU16 f.Type_, vf1]] [] [Fact.sl u8S vf1 f.Data]
      (fun rv own shr => ∃ (w1 : Value), rv = .tuple #[w1, vI r.2] ∧ own = [(rowS u8S w1 r.1)] ∧ shr = []) := by
  unfold ref_Bytes23 at h
  refine Ctr.mk (args := [.agg #[vU8 f.Dst.a0, vU8 f.Dst.a1, vU8 f.Dst.a2, vU8 f.Dst.a3, vU8 f.Dst.a4, vU8 f.Dst.a5, vU8 f.Src.a0, vU8 f.Src.a1, vU8 f.Src.a2, vU8 f.Src.a3, vU8 f.Src.a4, vU8 f.Src.a5, vI f.Vlan, vU16 f.Type_, vf1]]) Try.func24 rfl rfl (fun R0 w0 B => ?_)
  refine Tk_seq ?_
  refine Tk_region ?_
  refine Tops_ex rfl (OpT_box rfl rfl rfl rfl) fun b1 => ?_
  refine Tops_step rfl (OpT_assign rfl rfl rfl rfl) ?_
  refine Tops_step rfl (OpT_assign rfl rfl rfl rfl) ?_
  refine Tops_nil ?_
  refine Tk_wkS (fr' := [(1, some (.pointer (some ⟨b1, 0, none⟩)))]) (own' := [some (cellsR b1 38 [vU8 f.Dst.a0, vU8 f.Dst.a1, vU8 f.Dst.a2, vU8 f.Dst.a3, vU8 f.Dst.a4, vU8 f.Dst.a5, vU8 f.Src.a0, vU8 f.Src.a1, vU8 f.Src.a2, vU8 f.Src.a3, vU8 f.Src.a4, vU8 f.Src.a5, vI f.Vlan, vU16 f.Type_, vf1])]) (shr' := [Fact.sl u8S vf1 f.Data]) [1] [0] [0] rfl rfl rfl rfl ?_
  refine Tk_seq ?_
  refine Tk_region ?_
  refine Tops_step rfl (OpT_loadCA (vs := [vU8 f.Dst.a0, vU8 f.Dst.a1, vU8 f.Dst.a2, vU8 f.Dst.a3, vU8 f.Dst.a4, vU8 f.Dst.a5, vU8 f.Src.a0, vU8 f.Src.a1, vU8 f.Src.a2, vU8 f.Src.a3, vU8 f.Src.a4, vU8 f.Src.a5, vI f.Vlan, vU16 f.Type_, vf1]) rfl rfl rfl rfl tyF38 (i := 0) rfl rfl rfl) ?_
  obtain ⟨check1, hx1, h⟩ := ob_e h
  refine Tops_exP rfl (OpT_call (w_ref_Check23 hx1) [] [0] rfl rfl rfl rfl rfl callee27 rfl rfl rfl rfl) ?_
  rintro _ ⟨_, _, _, ⟨rfl, rfl, rfl⟩, rfl⟩
  refine Tops_step rfl (OpT_assign rfl rfl rfl rfl) ?_
  refine Tops_nil ?_
  refine Tk_wkS (fr' := [(1, some (.pointer (some ⟨b1, 0, none⟩))), (4, some (vI check1))]) (own' := [some (cellsR b1 38 [vU8 f.Dst.a0, vU8 f.Dst.a1, vU8 f.Dst.a2, vU8 f.Dst.a3, vU8 f.Dst.a4, vU8 f.Dst.a5, vU8 f.Src.a0, vU8 f.Src.a1, vU8 f.Src.a2, vU8 f.Src.a3, vU8 f.Src.a4, vU8 f.Src.a5, vI f.Vlan, vU16 f.Type_, vf1])]) (shr' := [Fact.sl u8S vf1 f.Data]) [1, 4] [0] [0] rfl rfl rfl rfl ?_
  refine Tk_seq ?_
  refine Tk_seq ?_
  refine Tk_region ?_
  refine Tops_step rfl (OpT_move rfl rfl rfl rfl) ?_
  refine Tops_step rfl (OpT_bin rfl rfl rfl rfl rfl (bin_neq_i (a := check1) (b := (0 : Int)))) ?_
  refine Tops_nil ?_
  refine Tk_wkS (fr' := [(1, some (.pointer (some ⟨b1, 0, none⟩))), (4, some (vI check1)), (11, some (vB (check1 != (0 : Int))))]) (own' := [some (cellsR b1 38 [vU8 f.Dst.a0, vU8 f.Dst.a1, vU8 f.Dst.a2, vU8 f.Dst.a3, vU8 f.Dst.a4, vU8 f.Dst.a5, vU8 f.Src.a0, vU8 f.Src.a1, vU8 f.Src.a2, vU8 f.Src.a3, vU8 f.Src.a4, vU8 f.Src.a5, vI f.Vlan, vU16 f.Type_, vf1])]) (shr' := [Fact.sl u8S vf1 f.Data]) [1, 4, 11] [0] [0] rfl rfl rfl rfl ?_
  rcases Bool.eq_false_or_eq_true (check1 != (0 : Int)) with hg1 | hg1
  · replace h := br_t hg1 h
    refine Tk_condT (congrArg (fun b => some (Value.bool b)) hg1) ?_
    refine Tk_seq ?_
    refine Tk_region ?_
    refine Tops_step rfl (OpT_move rfl rfl rfl rfl) ?_
    refine Tops_step rfl (OpT_assign rfl rfl rfl rfl) ?_
    refine Tops_step rfl (OpT_assign rfl rfl rfl rfl) ?_
    refine Tops_nil ?_
    refine Tk_wkS (fr' := [(2, some (.slice none 0 0)), (3, some (vI check1))]) (own' := []) (shr' := []) [2, 3] [] [] rfl rfl rfl rfl ?_
    refine Tk_nilrow u8S ?_
    obtain rfl := Option.some.inj h
    exact Tk_retV rfl rfl (resA (vs := [.slice none 0 0, vI check1]) rfl ⟨rfl, rfl, trivial⟩) [0] [] rfl rfl rfl ⟨(.slice none 0 0), rfl, rfl, rfl⟩
  · replace h := br_f hg1 h
    refine Tk_condF (congrArg (fun b => some (Value.bool b)) hg1) ?_
    refine Tk_skip ?_
    refine Tk_seq ?_
    refine Tk_region ?_
    refine Tops_step rfl (OpT_assign rfl rfl rfl rfl) ?_
    refine Tops_nil ?_
    refine Tk_wkS (fr' := [(1, some (.pointer (some ⟨b1, 0, none⟩))), (5, some (.slice none 0 0))]) (own' := [some (cellsR b1 38 [vU8 f.Dst.a0, vU8 f.Dst.a1, vU8 f.Dst.a2, vU8 f.Dst.a3, vU8 f.Dst.a4, vU8 f.Dst.a5, vU8 f.Src.a0, vU8 f.Src.a1, vU8 f.Src.a2, vU8 f.Src.a3, vU8 f.Src.a4, vU8 f.Src.a5, vI f.Vlan, vU16 f.Type_, vf1])]) (shr' := [Fact.sl u8S vf1 f.Data]) [1, 5] [0] [0] rfl rfl rfl rfl ?_
    refine Tk_seq ?_
    refine Tk_seq ?_
    refine Tk_region ?_
    refine Tops_step rfl (OpT_assign rfl rfl rfl rfl) ?_
    refine Tops_nil ?_
    refine Tk_block ?_
    refine Tk_nilrow u8S ?_
    refine Tk_loopS (σ := (A6 UInt8) × (A6 UInt8) × Int × UInt16 × (List UInt8) × (List UInt8) × Int × Value × Value) [1, 5, 6] [0, 1] [0] (fun s => ⟨[(1, some (.pointer (some ⟨b1, 0, none⟩))), (5, some (s.2.2.2.2.2.2.2.2)), (6, some (vI s.2.2.2.2.2.2.1))], [some (cellsR b1 38 [vU8 s.1.a0, vU8 s.1.a1, vU8 s.1.a2, vU8 s.1.a3, vU8 s.1.a4, vU8 s.1.a5, vU8 s.2.1.a0, vU8 s.2.1.a1, vU8 s.2.1.a2, vU8 s.2.1.a3, vU8 s.2.1.a4, vU8 s.2.1.a5, vI s.2.2.1, vU16 s.2.2.2.1, s.2.2.2.2.2.2.2.1]), some (rowS u8S s.2.2.2.2.2.2.2.2 s.2.2.2.2.2.1)], [Fact.sl u8S s.2.2.2.2.2.2.2.1 s.2.2.2.2.1]⟩) (fun nf s => ref_Bytes23L1 nf s.1 s.2.1 s.2.2.1 s.2.2.2.1 s.2.2.2.2.1 s.2.2.2.2.2.1 s.2.2.2.2.2.2.1 = some r) fuel (f.Dst, f.Src, f.Vlan, f.Type_, f.Data, [], (0 : Int), vf1, (.slice none 0 0)) h rfl rfl rfl rfl rfl (fun s h => by cases h) ?_
    rintro nf ⟨Dst1, Src1, Vlan1, Type1, Data1, b2, i1, v1, v2⟩ h
    replace h : ref_Bytes23L1B (ref_Bytes23L1 nf) Dst1 Src1 Vlan1 Type1 Data1 b2 i1 = some r := h
    unfold ref_Bytes23L1B at h
    refine Tk_seq ?_
    refine Tk_seq ?_
    refine Tk_region ?_
    refine Tops_step rfl (OpT_move rfl rfl rfl rfl) ?_
    refine Tops_step rfl (OpT_bin rfl rfl rfl rfl rfl (bin_lss_i (a := i1) (b := (6 : Int)))) ?_
    refine Tops_nil ?_
    refine Tk_wkS (fr' := [(1, some (.pointer (some ⟨b1, 0, none⟩))), (5, some (v2)), (6, some (vI i1)), (14, some (vB (decide (i1 < (6 : Int)))))]) (own' := [some (cellsR b1 38 [vU8 Dst1.a0, vU8 Dst1.a1, vU8 Dst1.a2, vU8 Dst1.a3, vU8 Dst1.a4, vU8 Dst1.a5, vU8 Src1.a0, vU8 Src1.a1, vU8 Src1.a2, vU8 Src1.a3, vU8 Src1.a4, vU8 Src1.a5, vI Vlan1, vU16 Type1, v1]), some (rowS u8S v2 b2)]) (shr' := [Fact.sl u8S v1 Data1]) [1, 5, 6, 14] [0, 1] [0] rfl rfl rfl rfl ?_
    rcases Bool.eq_false_or_eq_true (decide (i1 < (6 : Int))) with hg2 | hg2
    · replace h := br_t hg2 h
      refine Tk_condT (congrArg (fun b => some (Value.bool b)) hg2) ?_
      refine Tk_skip ?_
      refine Tk_seq ?_
      refine Tk_block ?_
      refine Tk_region ?_
      refine Tops_step rfl (OpT_move rfl rfl rfl rfl) ?_
      refine Tops_step rfl (OpT_move rfl rfl rfl rfl) ?_
      refine Tops_step rfl (OpT_fieldC rfl rfl rfl rfl fldF38x0) ?_
      obtain ⟨hc1, h⟩ := chk_e h
      refine Tops_step rfl (OpT_indexC rfl rfl rfl rfl rfl arrF36 hc1) ?_
      obtain ⟨u1, hx2, h⟩ := ob_e h
      refine Tops_step rfl (OpT_loadX1 vU8 [Dst1.a0, Dst1.a1, Dst1.a2, Dst1.a3, Dst1.a4, Dst1.a5] [] [vU8 Src1.a0, vU8 Src1.a1, vU8 Src1.a2, vU8 Src1.a3, vU8 Src1.a4, vU8 Src1.a5, vI Vlan1, vU16 Type1, v1] rfl rfl rfl rfl tyF5 (i := 0) rfl rfl rfl hx2) ?_
      refine Tops_ex rfl (OpT_buildSlice (S := u8S) (xs := [u1]) (css := [[vU8 u1]]) (cs := [vU8 u1]) (e := 5) rfl rfl rfl rfl (bldF slF22 (by decide) (by kernel_rfl)) rfl rfl rfl rfl (rel_plainD (S := u8S) (xs := [u1]) (css := [[vU8 u1]]) rfl rfl)) fun v3 => ?_
      obtain ⟨hc2, h⟩ := chk_e h
      refine Tops_ex rfl (OpT_appendB (S := u8S) rfl rfl rfl rfl rfl rfl slF22 (i := 1) (j := 2) rfl rfl hc2) fun v4 => ?_
      refine Tops_step rfl (OpT_assign rfl rfl rfl rfl) ?_
      refine Tops_nil ?_
      refine Tk_wkS (fr' := [(1, some (.pointer (some ⟨b1, 0, none⟩))), (5, some (v4)), (6, some (vI i1))]) (own' := [some (cellsR b1 38 [vU8 Dst1.a0, vU8 Dst1.a1, vU8 Dst1.a2, vU8 Dst1.a3, vU8 Dst1.a4, vU8 Dst1.a5, vU8 Src1.a0, vU8 Src1.a1, vU8 Src1.a2, vU8 Src1.a3, vU8 Src1.a4, vU8 Src1.a5, vI Vlan1, vU16 Type1, v1]), some (rowS u8S v4 (b2 ++ [u1]))]) (shr' := [Fact.sl u8S v1 Data1]) [1, 5, 6] [0, 1] [0] rfl rfl rfl rfl ?_
      refine Tk_blk ?_
      refine Tk_region ?_
      refine Tops_step rfl (OpT_move rfl rfl rfl rfl) ?_
      refine Tops_step rfl (OpT_bin rfl rfl rfl rfl rfl (bin_add_i (a := i1) (b := (1 : Int)))) ?_
      refine Tops_step rfl (OpT_assign rfl rfl rfl rfl) ?_
      refine Tops_nil ?_
      refine Tk_wkS (fr' := [(1, some (.pointer (some ⟨b1, 0, none⟩))), (5, some (v4)), (6, some (vI (wi (i1 + (1 : Int)))))]) (own' := [some (cellsR b1 38 [vU8 Dst1.a0, vU8 Dst1.a1, vU8 Dst1.a2, vU8 Dst1.a3, vU8 Dst1.a4, vU8 Dst1.a5, vU8 Src1.a0, vU8 Src1.a1, vU8 Src1.a2, vU8 Src1.a3, vU8 Src1.a4, vU8 Src1.a5, vI Vlan1, vU16 Type1, v1]), some (rowS u8S v4 (b2 ++ [u1]))]) (shr' := [Fact.sl u8S v1 Data1]) [1, 5, 6] [0, 1] [0] rfl rfl rfl rfl ?_
      exact Tk_backS (Dst1, Src1, Vlan1, Type1, Data1, b2 ++ [u1], wi (i1 + (1 : Int)), v1, v4) h [1, 5, 6] [0, 1] [0] rfl rfl rfl rfl rfl
    · replace h := br_f hg2 h
      refine Tk_condF (congrArg (fun b => some (Value.bool b)) hg2) ?_
      refine Tk_exit _ rfl ?_
      refine Tk_seq ?_
      refine Tk_seq ?_
      refine Tk_region ?_
      refine Tops_step rfl (OpT_assign rfl rfl rfl rfl) ?_
      refine Tops_nil ?_
      refine Tk_wkS (fr' := [(1, some (.pointer (some ⟨b1, 0, none⟩))), (5, some (v2)), (7, some (vI (0 : Int)))]) (own' := [some (cellsR b1 38 [vU8 Dst1.a0, vU8 Dst1.a1, vU8 Dst1.a2, vU8 Dst1.a3, vU8 Dst1.a4, vU8 Dst1.a5, vU8 Src1.a0, vU8 Src1.a1, vU8 Src1.a2, vU8 Src1.a3, vU8 Src1.a4, vU8 Src1.a5, vI Vlan1, vU16 Type1, v1]), some (rowS u8S v2 b2)]) (shr' := [Fact.sl u8S v1 Data1]) [1, 5, 7] [0, 1] [0] rfl rfl rfl rfl ?_
      refine Tk_block ?_
      refine Tk_loopS (σ := (A6 UInt8) × (A6 UInt8) × Int × UInt16 × (List UInt8) × (List UInt8) × Int × Value × Value) [1, 5, 7] [0, 1] [0] (fun s => ⟨[(1, some (.pointer (some ⟨b1, 0, none⟩))), (5, some (s.2.2.2.2.2.2.2.2)), (7, some (vI s.2.2.2.2.2.2.1))], [some (cellsR b1 38 [vU8 s.1.a0, vU8 s.1.a1, vU8 s.1.a2, vU8 s.1.a3, vU8 s.1.a4, vU8 s.1.a5, vU8 s.2.1.a0, vU8 s.2.1.a1, vU8 s.2.1.a2, vU8 s.2.1.a3, vU8 s.2.1.a4, vU8 s.2.1.a5, vI s.2.2.1, vU16 s.2.2.2.1, s.2.2.2.2.2.2.2.1]), some (rowS u8S s.2.2.2.2.2.2.2.2 s.2.2.2.2.2.1)], [Fact.sl u8S s.2.2.2.2.2.2.2.1 s.2.2.2.2.1]⟩) (fun nf s => ref_Bytes23L2 nf s.1 s.2.1 s.2.2.1 s.2.2.2.1 s.2.2.2.2.1 s.2.2.2.2.2.1 s.2.2.2.2.2.2.1 = some r) fuel (Dst1, Src1, Vlan1, Type1, Data1, b2, (0 : Int), v1, v2) h rfl rfl rfl rfl rfl (fun s h => by cases h) ?_
      rintro nf ⟨Dst2, Src2, Vlan2, Type2, Data2, b3, i2, v5, v6⟩ h
      replace h : ref_Bytes23L2B (ref_Bytes23L2 nf) Dst2 Src2 Vlan2 Type2 Data2 b3 i2 = some r := h
      unfold ref_Bytes23L2B at h
      refine Tk_seq ?_
      refine Tk_seq ?_
      refine Tk_region ?_
      refine Tops_step rfl (OpT_move rfl rfl rfl rfl) ?_
      refine Tops_step rfl (OpT_bin rfl rfl rfl rfl rfl (bin_lss_i (a := i2) (b := (6 : Int)))) ?_
      refine Tops_nil ?_
      refine Tk_wkS (fr' := [(1, some (.pointer (some ⟨b1, 0, none⟩))), (5, some (v6)), (7, some (vI i2)), (25, some (vB (decide (i2 < (6 : Int)))))]) (own' := [some (cellsR b1 38 [vU8 Dst2.a0, vU8 Dst2.a1, vU8 Dst2.a2, vU8 Dst2.a3, vU8 Dst2.a4, vU8 Dst2.a5, vU8 Src2.a0, vU8 Src2.a1, vU8 Src2.a2, vU8 Src2.a3, vU8 Src2.a4, vU8 Src2.a5, vI Vlan2, vU16 Type2, v5]), some (rowS u8S v6 b3)]) (shr' := [Fact.sl u8S v5 Data2]) [1, 5, 7, 25] [0, 1] [0] rfl rfl rfl rfl ?_
      rcases Bool.eq_false_or_eq_true (decide (i2 < (6 : Int))) with hg3 | hg3
      · replace h := br_t hg3 h
        refine Tk_condT (congrArg (fun b => some (Value.bool b)) hg3) ?_
        refine Tk_skip ?_
        refine Tk_seq ?_
        refine Tk_block ?_
        refine Tk_region ?_
        refine Tops_step rfl (OpT_move rfl rfl rfl rfl) ?_
        refine Tops_step rfl (OpT_move rfl rfl rfl rfl) ?_
        refine Tops_step rfl (OpT_fieldC rfl rfl rfl rfl fldF38x1) ?_
        obtain ⟨hc3, h⟩ := chk_e h
        refine Tops_step rfl (OpT_indexC rfl rfl rfl rfl rfl arrF36 hc3) ?_
        obtain ⟨u2, hx3, h⟩ := ob_e h
        refine Tops_step rfl (OpT_loadX1 vU8 [Src2.a0, Src2.a1, Src2.a2, Src2.a3, Src2.a4, Src2.a5] [vU8 Dst2.a0, vU8 Dst2.a1, vU8 Dst2.a2, vU8 Dst2.a3, vU8 Dst2.a4, vU8 Dst2.a5] [vI Vlan2, vU16 Type2, v5] rfl rfl rfl rfl tyF5 (i := 0) rfl rfl rfl hx3) ?_
        refine Tops_ex rfl (OpT_buildSlice (S := u8S) (xs := [u2]) (css := [[vU8 u2]]) (cs := [vU8 u2]) (e := 5) rfl rfl rfl rfl (bldF slF22 (by decide) (by kernel_rfl)) rfl rfl rfl rfl (rel_plainD (S := u8S) (xs := [u2]) (css := [[vU8 u2]]) rfl rfl)) fun v7 => ?_
        obtain ⟨hc4, h⟩ := chk_e h
        refine Tops_ex rfl (OpT_appendB (S := u8S) rfl rfl rfl rfl rfl rfl slF22 (i := 1) (j := 2) rfl rfl hc4) fun v8 => ?_
        refine Tops_step rfl (OpT_assign rfl rfl rfl rfl) ?_
        refine Tops_nil ?_
        refine Tk_wkS (fr' := [(1, some (.pointer (some ⟨b1, 0, none⟩))), (5, some (v8)), (7, some (vI i2))]) (own' := [some (cellsR b1 38 [vU8 Dst2.a0, vU8 Dst2.a1, vU8 Dst2.a2, vU8 Dst2.a3, vU8 Dst2.a4, vU8 Dst2.a5, vU8 Src2.a0, vU8 Src2.a1, vU8 Src2.a2, vU8 Src2.a3, vU8 Src2.a4, vU8 Src2.a5, vI Vlan2, vU16 Type2, v5]), some (rowS u8S v8 (b3 ++ [u2]))]) (shr' := [Fact.sl u8S v5 Data2]) [1, 5, 7] [0, 1] [0] rfl rfl rfl rfl ?_
        refine Tk_blk ?_
        refine Tk_region ?_
        refine Tops_step rfl (OpT_move rfl rfl rfl rfl) ?_
        refine Tops_step rfl (OpT_bin rfl rfl rfl rfl rfl (bin_add_i (a := i2) (b := (1 : Int)))) ?_
        refine Tops_step rfl (OpT_assign rfl rfl rfl rfl) ?_
        refine Tops_nil ?_
        refine Tk_wkS (fr' := [(1, some (.pointer (some ⟨b1, 0, none⟩))), (5, some (v8)), (7, some (vI (wi (i2 + (1 : Int)))))]) (own' := [some (cellsR b1 38 [vU8 Dst2.a0, vU8 Dst2.a1, vU8 Dst2.a2, vU8 Dst2.a3, vU8 Dst2.a4, vU8 Dst2.a5, vU8 Src2.a0, vU8 Src2.a1, vU8 Src2.a2, vU8 Src2.a3, vU8 Src2.a4, vU8 Src2.a5, vI Vlan2, vU16 Type2, v5]), some (rowS u8S v8 (b3 ++ [u2]))]) (shr' := [Fact.sl u8S v5 Data2]) [1, 5, 7] [0, 1] [0] rfl rfl rfl rfl ?_
        exact Tk_backS (Dst2, Src2, Vlan2, Type2, Data2, b3 ++ [u2], wi (i2 + (1 : Int)), v5, v8) h [1, 5, 7] [0, 1] [0] rfl rfl rfl rfl rfl
      · replace h := br_f hg3 h
        refine Tk_condF (congrArg (fun b => some (Value.bool b)) hg3) ?_
        refine Tk_exit _ rfl ?_
        refine Tk_seq ?_
        refine Tk_seq ?_
        refine Tk_region ?_
        refine Tops_step rfl (OpT_fieldC rfl rfl rfl rfl fldF38x2) ?_
        refine Tops_step rfl (OpT_loadC rfl rfl rfl rfl tyF3 (i := 0) rfl rfl) ?_
        refine Tops_step rfl (OpT_bin rfl rfl rfl rfl rfl (bin_geq_i (a := Vlan2) (b := (0 : Int)))) ?_
        refine Tops_nil ?_
        refine Tk_wkS (fr' := [(1, some (.pointer (some ⟨b1, 0, none⟩))), (5, some (v6)), (37, some (vB (decide (Vlan2 ≥ (0 : Int)))))]) (own' := [some (cellsR b1 38 [vU8 Dst2.a0, vU8 Dst2.a1, vU8 Dst2.a2, vU8 Dst2.a3, vU8 Dst2.a4, vU8 Dst2.a5, vU8 Src2.a0, vU8 Src2.a1, vU8 Src2.a2, vU8 Src2.a3, vU8 Src2.a4, vU8 Src2.a5, vI Vlan2, vU16 Type2, v5]), some (rowS u8S v6 b3)]) (shr' := [Fact.sl u8S v5 Data2]) [1, 5, 37] [0, 1] [0] rfl rfl rfl rfl ?_
        refine Tk_join (α := (A6 UInt8) × (A6 UInt8) × Int × UInt16 × (List UInt8) × (List UInt8) × Value × Value) (fun s => ⟨[(1, some (.pointer (some ⟨b1, 0, none⟩))), (5, some (s.2.2.2.2.2.2.2))], [some (cellsR b1 38 [vU8 s.1.a0, vU8 s.1.a1, vU8 s.1.a2, vU8 s.1.a3, vU8 s.1.a4, vU8 s.1.a5, vU8 s.2.1.a0, vU8 s.2.1.a1, vU8 s.2.1.a2, vU8 s.2.1.a3, vU8 s.2.1.a4, vU8 s.2.1.a5, vI s.2.2.1, vU16 s.2.2.2.1, s.2.2.2.2.2.2.1]), some (rowS u8S s.2.2.2.2.2.2.2 s.2.2.2.2.2.1)], [Fact.sl u8S s.2.2.2.2.2.2.1 s.2.2.2.2.1]⟩) (fun s => ref_Bytes23J3 s.1 s.2.1 s.2.2.1 s.2.2.2.1 s.2.2.2.2.1 s.2.2.2.2.2.1 = some r) ?_ ?_
        · rintro ⟨Dst3, Src3, Vlan3, Type3, Data3, b4, v9, v10⟩ h
          replace h : ref_Bytes23J3 Dst3 Src3 Vlan3 Type3 Data3 b4 = some r := h
          unfold ref_Bytes23J3 at h
          refine Tk_seq ?_
          refine Tk_drawT (by kernel_rfl) ?_
          refine TA_tb [0, 0, 2, 6, 14, 0, 32, 96, 254, 511, 0, 1024, 4095, 8191, 16383] (by kernel_rfl) fun htb => ?_
          obtain ⟨hc5, h⟩ := chk_e h
          refine TA_seg (lo := 0) (hi := 12) htb rfl rfl (by kernel_rfl) (fun c L a w => ∃ (v11 : Value), ∃ (v12 : Value), Sat c ⟨[(1, some (.pointer (some ⟨b1, 0, none⟩))), (5, some (v10)), (48, bif L 0 then some (v10) else none), (49, bif L 1 then some (.pointer (some ⟨b1, 13, none⟩)) else none), (50, bif L 2 then some (vU16 Type3) else none), (51, bif L 3 then some (vU16 (shr16 Type3 ((8 : UInt64).toNat))) else none), (52, bif L 4 then some (vU8 ((shr16 Type3 ((8 : UInt64).toNat)).toUInt8)) else none), (53, bif L 5 then some (.pointer (some ⟨b1, 13, none⟩)) else none), (54, bif L 6 then some (vU16 Type3) else none), (55, bif L 7 then some (vU8 Type3.toUInt8) else none), (56, bif L 8 then some (v11) else none), (57, bif L 9 then some (v12) else none), (58, bif L 10 then some (.pointer (some ⟨b1, 14, none⟩)) else none), (59, bif L 11 then some (v9) else none)], [(some (cellsR b1 38 [vU8 Dst3.a0, vU8 Dst3.a1, vU8 Dst3.a2, vU8 Dst3.a3, vU8 Dst3.a4, vU8 Dst3.a5, vU8 Src3.a0, vU8 Src3.a1, vU8 Src3.a2, vU8 Src3.a3, vU8 Src3.a4, vU8 Src3.a5, vI Vlan3, vU16 Type3, v9]) : Option Res), (bif L 9 then some (rowS u8S v12 (b4 ++ [(shr16 Type3 ((8 : UInt64).toNat)).toUInt8, Type3.toUInt8])) else some (rowS u8S v10 b4) : Option Res), (bif L 8 then some (rowS u8S v11 [(shr16 Type3 ((8 : UInt64).toNat)).toUInt8, Type3.toUInt8]) else none : Option Res)], [Fact.sl u8S v9 Data3]⟩ a w) [([], [9]), ([], [2, 3, 4, 8, 9]), ([1], [3, 4, 8, 9]), ([1, 2], [4, 8, 9]), ([1, 2, 3], [8, 9]), ([], [6, 7, 8, 9]), ([5], [7, 8, 9]), ([5, 6], [8, 9]), ([1, 2, 3, 4, 5, 6, 7], [9]), ([0, 1, 2, 3, 4, 5, 6, 7, 8], []), ([], [11]), ([10], [])] rfl (by kernel_rfl) ?_ (steps_cons ?_ (steps_cons ?_ (steps_cons ?_ (steps_cons ?_ (steps_cons ?_ (steps_cons ?_ (steps_cons ?_ (steps_cons ?_ (steps_cons ?_ (steps_cons ?_ (steps_cons ?_ (steps_cons ?_ (steps_nil))))))))))))) ?_
          · intro a w hs
            exact ⟨undef, undef, hs.startF [48, 49, 50, 51, 52, 53, 54, 55, 56, 57, 58, 59] [0, 1, 2] [0] rfl rfl rfl rfl⟩
          · intro L a w hv K Q hK
            obtain ⟨v11, v12, hs⟩ := hv
            refine wpOp_go rfl rfl hs (OpT_move rfl rfl rfl rfl) ?_
            rintro _ rfl a' w' hs'
            exact hK a' w' ⟨v11, v12, hs'.putF (i := 2) rfl [0, 1, 2] [0] rfl rfl rfl rfl⟩
          · intro L a w hv K Q hK
            obtain ⟨v11, v12, hs⟩ := hv
            refine wpOp_go rfl rfl hs (OpT_fieldC rfl rfl rfl rfl fldF38x3) ?_
            rintro _ rfl a' w' hs'
            exact hK a' w' ⟨v11, v12, hs'.putF (i := 3) rfl [0, 1, 2] [0] rfl rfl rfl rfl⟩
          · intro L a w hv K Q hK
            obtain ⟨v11, v12, hs⟩ := hv
            refine wpOp_go rfl rfl hs (OpT_loadC rfl rfl rfl rfl tyF24 (i := 0) rfl rfl) ?_
            rintro _ rfl a' w' hs'
            exact hK a' w' ⟨v11, v12, hs'.putF (i := 4) rfl [0, 1, 2] [0] rfl rfl rfl rfl⟩
          · intro L a w hv K Q hK
            obtain ⟨v11, v12, hs⟩ := hv
            refine wpOp_go rfl rfl hs (OpT_bin rfl rfl rfl rfl rfl (bin_shr_u16_u64 (a := Type3) (n := (8 : UInt64)))) ?_
            rintro _ rfl a' w' hs'
            exact hK a' w' ⟨v11, v12, hs'.putF (i := 5) rfl [0, 1, 2] [0] rfl rfl rfl rfl⟩
          · intro L a w hv K Q hK
            obtain ⟨v11, v12, hs⟩ := hv
            refine wpOp_go rfl rfl hs (OpT_cnv rfl rfl rfl rfl (cnv_u16_u8 (n := shr16 Type3 ((8 : UInt64).toNat)) Try.underlying24 Try.underlying5)) ?_
            rintro _ rfl a' w' hs'
            exact hK a' w' ⟨v11, v12, hs'.putF (i := 6) rfl [0, 1, 2] [0] rfl rfl rfl rfl⟩
          · intro L a w hv K Q hK
            obtain ⟨v11, v12, hs⟩ := hv
            refine wpOp_go rfl rfl hs (OpT_fieldC rfl rfl rfl rfl fldF38x3) ?_
            rintro _ rfl a' w' hs'
            exact hK a' w' ⟨v11, v12, hs'.putF (i := 7) rfl [0, 1, 2] [0] rfl rfl rfl rfl⟩
          · intro L a w hv K Q hK
            obtain ⟨v11, v12, hs⟩ := hv
            refine wpOp_go rfl rfl hs (OpT_loadC rfl rfl rfl rfl tyF24 (i := 0) rfl rfl) ?_
            rintro _ rfl a' w' hs'
            exact hK a' w' ⟨v11, v12, hs'.putF (i := 8) rfl [0, 1, 2] [0] rfl rfl rfl rfl⟩
          · intro L a w hv K Q hK
            obtain ⟨v11, v12, hs⟩ := hv
            refine wpOp_go rfl rfl hs (OpT_cnv rfl rfl rfl rfl (cnv_u16_u8 (n := Type3) Try.underlying24 Try.underlying5)) ?_
            rintro _ rfl a' w' hs'
            exact hK a' w' ⟨v11, v12, hs'.putF (i := 9) rfl [0, 1, 2] [0] rfl rfl rfl rfl⟩
          · intro L a w hv K Q hK
            obtain ⟨v11, v12, hs⟩ := hv
            refine wpOp_go rfl rfl hs (OpT_buildSlice (S := u8S) (xs := [(shr16 Type3 ((8 : UInt64).toNat)).toUInt8, Type3.toUInt8]) (css := [[vU8 ((shr16 Type3 ((8 : UInt64).toNat)).toUInt8)], [vU8 Type3.toUInt8]]) (cs := [vU8 ((shr16 Type3 ((8 : UInt64).toNat)).toUInt8), vU8 Type3.toUInt8]) (e := 5) rfl rfl rfl rfl (bldF slF22 (by decide) (by kernel_rfl)) rfl rfl rfl rfl (rel_plainD (S := u8S) (xs := [(shr16 Type3 ((8 : UInt64).toNat)).toUInt8, Type3.toUInt8]) (css := [[vU8 ((shr16 Type3 ((8 : UInt64).toNat)).toUInt8)], [vU8 Type3.toUInt8]]) rfl rfl)) ?_
            rintro _ ⟨v11', rfl⟩ a' w' hs'
            exact hK a' w' ⟨v11', v12, hs'.putF (i := 10) rfl [0, 1, 3] [0] rfl rfl rfl rfl⟩
          · intro L a w hv K Q hK
            obtain ⟨v11, v12, hs⟩ := hv
            refine wpOp_go rfl rfl hs (OpT_appendB (S := u8S) rfl rfl rfl rfl rfl rfl slF22 (i := 1) (j := 2) rfl rfl hc5) ?_
            rintro _ ⟨v12', rfl⟩ a' w' hs'
            exact hK a' w' ⟨v11, v12', hs'.putF (i := 11) rfl [0, 1, 2] [0] rfl rfl rfl rfl⟩
          · intro L a w hv K Q hK
            obtain ⟨v11, v12, hs⟩ := hv
            refine wpOp_go rfl rfl hs (OpT_fieldC rfl rfl rfl rfl fldF38x4) ?_
            rintro _ rfl a' w' hs'
            exact hK a' w' ⟨v11, v12, hs'.putF (i := 12) rfl [0, 1, 2] [0] rfl rfl rfl rfl⟩
          · intro L a w hv K Q hK
            obtain ⟨v11, v12, hs⟩ := hv
            refine wpOp_go rfl rfl hs (OpT_loadC rfl rfl rfl rfl tyF22 (i := 0) rfl rfl) ?_
            rintro _ rfl a' w' hs'
            exact hK a' w' ⟨v11, v12, hs'.putF (i := 13) rfl [0, 1, 2] [0] rfl rfl rfl rfl⟩
          · intro L a w hL hv
            rw [allTrue hL] at hv
            obtain ⟨v11, v12, hs⟩ := hv
            refine (show TA _ _ _ 12 ⟨[(57, some (v12)), (59, some (v9))], [some (rowS u8S v12 (b4 ++ [(shr16 Type3 ((8 : UInt64).toNat)).toUInt8, Type3.toUInt8]))], [Fact.sl u8S v9 Data3]⟩ from ?_) a w (hs.wkS [57, 59] [1] [0] rfl rfl rfl rfl)
            clear hs hL
            obtain ⟨hc6, h⟩ := chk_e h
            refine TA_ex htb (by kernel_rfl) rfl rfl (OpT_append rfl rfl rfl rfl rfl slF22 (i := 0) (j := 0) rfl rfl hc6) fun v13 => ?_
            refine TA_step htb (by kernel_rfl) rfl rfl (OpT_assign rfl rfl rfl rfl) ?_
            refine TA_step htb (by kernel_rfl) rfl rfl (OpT_assign rfl rfl rfl rfl) ?_
            refine TA_end rfl ?_
            refine Tk_wkS (fr' := [(2, some (v13)), (3, some (vI (0 : Int)))]) (own' := [some (rowS u8S v13 ((b4 ++ [(shr16 Type3 ((8 : UInt64).toNat)).toUInt8, Type3.toUInt8]) ++ Data3))]) (shr' := []) [2, 3] [0] [] rfl rfl rfl rfl ?_
            obtain rfl := Option.some.inj h
            exact Tk_retV rfl rfl (resA (vs := [v13, vI (0 : Int)]) rfl ⟨rfl, rfl, trivial⟩) [0] [] rfl rfl rfl ⟨v13, rfl, rfl, rfl⟩
        · intro HJ1
          rcases Bool.eq_false_or_eq_true (decide (Vlan2 ≥ (0 : Int))) with hg4 | hg4
          · replace h := br_t hg4 h
            refine Tk_condT (congrArg (fun b => some (Value.bool b)) hg4) ?_
            refine Tk_region ?_
            refine Tops_step rfl (OpT_move rfl rfl rfl rfl) ?_
            refine Tops_step rfl (OpT_fieldC rfl rfl rfl rfl fldF38x2) ?_
            refine Tops_step rfl (OpT_loadC rfl rfl rfl rfl tyF3 (i := 0) rfl rfl) ?_
            refine Tops_step rfl (OpT_bin rfl rfl rfl rfl rfl (bin_shr_i_u64 (a := Vlan2) (n := (8 : UInt64)))) ?_
            refine Tops_step rfl (OpT_cnv rfl rfl rfl rfl (cnv_i_u8 (n := shri Vlan2 ((8 : UInt64).toNat)) Try.underlying3 Try.underlying5)) ?_
            refine Tops_step rfl (OpT_fieldC rfl rfl rfl rfl fldF38x2) ?_
            refine Tops_step rfl (OpT_loadC rfl rfl rfl rfl tyF3 (i := 0) rfl rfl) ?_
            refine Tops_step rfl (OpT_cnv rfl rfl rfl rfl (cnv_i_u8 (n := Vlan2) Try.underlying3 Try.underlying5)) ?_
            refine Tops_ex rfl (OpT_buildSlice (S := u8S) (xs := [(129 : UInt8), (0 : UInt8), u8 (shri Vlan2 ((8 : UInt64).toNat)), u8 Vlan2]) (css := [[vU8 (129 : UInt8)], [vU8 (0 : UInt8)], [vU8 (u8 (shri Vlan2 ((8 : UInt64).toNat)))], [vU8 (u8 Vlan2)]]) (cs := [vU8 (129 : UInt8), vU8 (0 : UInt8), vU8 (u8 (shri Vlan2 ((8 : UInt64).toNat))), vU8 (u8 Vlan2)]) (e := 5) rfl rfl rfl rfl (bldF slF22 (by decide) (by kernel_rfl)) rfl rfl rfl rfl (rel_plainD (S := u8S) (xs := [(129 : UInt8), (0 : UInt8), u8 (shri Vlan2 ((8 : UInt64).toNat)), u8 Vlan2]) (css := [[vU8 (129 : UInt8)], [vU8 (0 : UInt8)], [vU8 (u8 (shri Vlan2 ((8 : UInt64).toNat)))], [vU8 (u8 Vlan2)]]) rfl rfl)) fun v14 => ?_
            obtain ⟨hc7, h⟩ := chk_e h
            refine Tops_ex rfl (OpT_appendB (S := u8S) rfl rfl rfl rfl rfl rfl slF22 (i := 1) (j := 2) rfl rfl hc7) fun v15 => ?_
            refine Tops_step rfl (OpT_assign rfl rfl rfl rfl) ?_
            refine Tops_nil ?_
            refine Tk_wkS (fr' := [(1, some (.pointer (some ⟨b1, 0, none⟩))), (5, some (v15))]) (own' := [some (cellsR b1 38 [vU8 Dst2.a0, vU8 Dst2.a1, vU8 Dst2.a2, vU8 Dst2.a3, vU8 Dst2.a4, vU8 Dst2.a5, vU8 Src2.a0, vU8 Src2.a1, vU8 Src2.a2, vU8 Src2.a3, vU8 Src2.a4, vU8 Src2.a5, vI Vlan2, vU16 Type2, v5]), some (rowS u8S v15 (b3 ++ [(129 : UInt8), (0 : UInt8), u8 (shri Vlan2 ((8 : UInt64).toNat)), u8 Vlan2]))]) (shr' := [Fact.sl u8S v5 Data2]) [1, 5] [0, 1] [0] rfl rfl rfl rfl ?_
            exact Tk_jmpS (HJ1 (Dst2, Src2, Vlan2, Type2, Data2, b3 ++ [(129 : UInt8), (0 : UInt8), u8 (shri Vlan2 ((8 : UInt64).toNat)), u8 Vlan2], v5, v15) h) [1, 5] [0, 1] [0] rfl rfl rfl rfl
          · replace h := br_f hg4 h
            refine Tk_condF (congrArg (fun b => some (Value.bool b)) hg4) ?_
            refine Tk_skip ?_
            exact Tk_jmpS (HJ1 (Dst2, Src2, Vlan2, Type2, Data2, b3, v5, v6) h) [1, 5] [0, 1] [0] rfl rfl rfl rfl

set_option maxRecDepth 100000 in
set_option maxHeartbeats 4000000 in
theorem w_kit_Frame {ap0 : Frame} {b : Frame} {vap01 : Value} {vb1 : Value} {r : Bool} (h : kit_Frame ap0 b = some r) :
    Ctr Try.prog 26 #[.agg #[vU8 ap0.Dst.a0, vU8 ap0.Dst.a1, vU8 ap0.Dst.a2, vU8 ap0.Dst.a3, vU8 ap0.Dst.a4, vU8 ap0.Dst.a5, vU8 ap0.Src.a0, vU8 ap0.Src.a1, vU8 ap0.Src.a2, vU8 ap0.Src.a3, vU8 ap0.Src.a4, vU8 ap0.Src.a5, vI ap0.Vlan, vU16 ap0.Type_, vap01], .agg #[vU8 b.Dst.a0, vU8 b.Dst.a1, vU8 b.Dst.a2, vU8 b.Dst.a3, vU8 b.Dst.a4, vU8 b.Dst.a5, vU8 b.Src.a0, vU8 b.Src.a1, vU8 b.Src.a2, vU8 b.Src.a3, vU8 b.Src.a4, vU8 b.Src.a5, vI b.Vlan, vU16 b.Type_, vb1]] [] [Fact.sl u8S vap01 ap0.Data, Fact.sl u8S vb1 b.Data]
      (fun rv own shr => rv = vB r ∧ own = [] ∧ shr = []) := by
  unfold kit_Frame at h
  refine Ctr.mk (args := [.agg #[vU8 ap0.Dst.a0, vU8 ap0.Dst.a1, vU8 ap0.Dst.a2, vU8 ap0.Dst.a3, vU8 ap0.Dst.a4, vU8 ap0.Dst.a5, vU8 ap0.Src.a0, vU8 ap0.Src.a1, vU8 ap0.Src.a2, vU8 ap0.Src.a3, vU8 ap0.Src.a4, vU8 ap0.Src.a5, vI ap0.Vlan, vU16 ap0.Type_, vap01], .agg #[vU8 b.Dst.a0, vU8 b.Dst.a1, vU8 b.Dst.a2, vU8 b.Dst.a3, vU8 b.Dst.a4, vU8 b.Dst.a5, vU8 b.Src.a0, vU8 b.Src.a1, vU8 b.Src.a2, vU8 b.Src.a3, vU8 b.Src.a4, vU8 b.Src.a5, vI b.Vlan, vU16 b.Type_, vb1]]) Try.func26 rfl rfl (fun R0 w0 B => ?_)
  refine Tk_seq ?_
  refine Tk_region ?_
  refine Tops_ex rfl (OpT_box rfl rfl rfl rfl) fun b1 => ?_
  refine Tops_ex rfl (OpT_box rfl rfl rfl rfl) fun b2 => ?_
  refine Tops_step rfl (OpT_assign rfl rfl rfl rfl) ?_
  refine Tops_nil ?_
  refine Tk_wkS (fr' := [(2, some (.pointer (some ⟨b1, 0, none⟩))), (3, some (.pointer (some ⟨b2, 0, none⟩)))]) (own' := [some (cellsR b1 38 [vU8 ap0.Dst.a0, vU8 ap0.Dst.a1, vU8 ap0.Dst.a2, vU8 ap0.Dst.a3, vU8 ap0.Dst.a4, vU8 ap0.Dst.a5, vU8 ap0.Src.a0, vU8 ap0.Src.a1, vU8 ap0.Src.a2, vU8 ap0.Src.a3, vU8 ap0.Src.a4, vU8 ap0.Src.a5, vI ap0.Vlan, vU16 ap0.Type_, vap01]), some (cellsR b2 38 [vU8 b.Dst.a0, vU8 b.Dst.a1, vU8 b.Dst.a2, vU8 b.Dst.a3, vU8 b.Dst.a4, vU8 b.Dst.a5, vU8 b.Src.a0, vU8 b.Src.a1, vU8 b.Src.a2, vU8 b.Src.a3, vU8 b.Src.a4, vU8 b.Src.a5, vI b.Vlan, vU16 b.Type_, vb1])]) (shr' := [Fact.sl u8S vap01 ap0.Data, Fact.sl u8S vb1 b.Data]) [2, 3] [0, 1] [0, 1] rfl rfl rfl rfl ?_
  refine Tk_seq ?_
  refine Tk_region ?_
  refine Tops_step rfl (OpT_fieldC rfl rfl rfl rfl fldF38x0) ?_
  refine Tops_step rfl (OpT_loadCA (vs := [vU8 ap0.Dst.a0, vU8 ap0.Dst.a1, vU8 ap0.Dst.a2, vU8 ap0.Dst.a3, vU8 ap0.Dst.a4, vU8 ap0.Dst.a5]) rfl rfl rfl rfl tyF36 (i := 0) rfl rfl rfl) ?_
  refine Tops_step rfl (OpT_fieldC rfl rfl rfl rfl fldF38x0) ?_
  refine Tops_step rfl (OpT_loadCA (vs := [vU8 b.Dst.a0, vU8 b.Dst.a1, vU8 b.Dst.a2, vU8 b.Dst.a3, vU8 b.Dst.a4, vU8 b.Dst.a5]) rfl rfl rfl rfl tyF36 (i := 1) rfl rfl rfl) ?_
  refine Tops_step rfl (OpT_bin rfl rfl rfl rfl rfl (eqT36_eql ap0.Dst b.Dst)) ?_
  refine Tops_step rfl (OpT_move rfl rfl rfl rfl) ?_
  rcases Bool.eq_false_or_eq_true (ap0.Dst == b.Dst) with hg1 | hg1
  · replace h := br_t hg1 h
    refine Tops_yes rfl rfl (congrArg (fun b => some (Value.bool b)) hg1) (OpT_fieldC rfl rfl rfl rfl fldF38x1) ?_
    rintro _ rfl
    refine Tops_yes rfl rfl (congrArg (fun b => some (Value.bool b)) hg1) (OpT_loadCA (vs := [vU8 ap0.Src.a0, vU8 ap0.Src.a1, vU8 ap0.Src.a2, vU8 ap0.Src.a3, vU8 ap0.Src.a4, vU8 ap0.Src.a5]) rfl rfl rfl rfl tyF36 (i := 0) rfl rfl rfl) ?_
    rintro _ rfl
    refine Tops_yes rfl rfl (congrArg (fun b => some (Value.bool b)) hg1) (OpT_fieldC rfl rfl rfl rfl fldF38x1) ?_
    rintro _ rfl
    refine Tops_yes rfl rfl (congrArg (fun b => some (Value.bool b)) hg1) (OpT_loadCA (vs := [vU8 b.Src.a0, vU8 b.Src.a1, vU8 b.Src.a2, vU8 b.Src.a3, vU8 b.Src.a4, vU8 b.Src.a5]) rfl rfl rfl rfl tyF36 (i := 1) rfl rfl rfl) ?_
    rintro _ rfl
    refine Tops_yes rfl rfl (congrArg (fun b => some (Value.bool b)) hg1) (OpT_bin rfl rfl rfl rfl rfl (eqT36_eql ap0.Src b.Src)) ?_
    rintro _ rfl
    refine Tops_step rfl (OpT_pickT rfl rfl rfl (congrArg (fun b => some (Value.bool b)) hg1) rfl) ?_
    refine Tops_step rfl (OpT_move rfl rfl rfl rfl) ?_
    rcases Bool.eq_false_or_eq_true (ap0.Src == b.Src) with hg2 | hg2
    · replace h := br_t hg2 h
      refine Tops_yes rfl rfl (congrArg (fun b => some (Value.bool b)) hg2) (OpT_fieldC rfl rfl rfl rfl fldF38x2) ?_
      rintro _ rfl
      refine Tops_yes rfl rfl (congrArg (fun b => some (Value.bool b)) hg2) (OpT_loadC rfl rfl rfl rfl tyF3 (i := 0) rfl rfl) ?_
      rintro _ rfl
      refine Tops_yes rfl rfl (congrArg (fun b => some (Value.bool b)) hg2) (OpT_fieldC rfl rfl rfl rfl fldF38x2) ?_
      rintro _ rfl
      refine Tops_yes rfl rfl (congrArg (fun b => some (Value.bool b)) hg2) (OpT_loadC rfl rfl rfl rfl tyF3 (i := 1) rfl rfl) ?_
      rintro _ rfl
      refine Tops_yes rfl rfl (congrArg (fun b => some (Value.bool b)) hg2) (OpT_bin rfl rfl rfl rfl rfl (bin_eql_i (a := ap0.Vlan) (b := b.Vlan))) ?_
      rintro _ rfl
      refine Tops_step rfl (OpT_pickT rfl rfl rfl (congrArg (fun b => some (Value.bool b)) hg2) rfl) ?_
      refine Tops_step rfl (OpT_move rfl rfl rfl rfl) ?_
      rcases Bool.eq_false_or_eq_true (ap0.Vlan == b.Vlan) with hg3 | hg3
      · replace h := br_t hg3 h
        refine Tops_yes rfl rfl (congrArg (fun b => some (Value.bool b)) hg3) (OpT_fieldC rfl rfl rfl rfl fldF38x3) ?_
        rintro _ rfl
        refine Tops_yes rfl rfl (congrArg (fun b => some (Value.bool b)) hg3) (OpT_loadC rfl rfl rfl rfl tyF24 (i := 0) rfl rfl) ?_
        rintro _ rfl
        refine Tops_yes rfl rfl (congrArg (fun b => some (Value.bool b)) hg3) (OpT_fieldC rfl rfl rfl rfl fldF38x3) ?_
        rintro _ rfl
        refine Tops_yes rfl rfl (congrArg (fun b => some (Value.bool b)) hg3) (OpT_loadC rfl rfl rfl rfl tyF24 (i := 1) rfl rfl) ?_
        rintro _ rfl
        refine Tops_yes rfl rfl (congrArg (fun b => some (Value.bool b)) hg3) (OpT_bin rfl rfl rfl rfl rfl (bin_eql_u16 (a := ap0.Type_) (b := b.Type_))) ?_
        rintro _ rfl
        refine Tops_step rfl (OpT_pickT rfl rfl rfl (congrArg (fun b => some (Value.bool b)) hg3) rfl) ?_
        refine Tops_step rfl (OpT_move rfl rfl rfl rfl) ?_
        rcases Bool.eq_false_or_eq_true (ap0.Type_ == b.Type_) with hg4 | hg4
        · replace h := br_t hg4 h
          refine Tops_yes rfl rfl (congrArg (fun b => some (Value.bool b)) hg4) (OpT_fieldC rfl rfl rfl rfl fldF38x4) ?_
          rintro _ rfl
          refine Tops_yes rfl rfl (congrArg (fun b => some (Value.bool b)) hg4) (OpT_loadC rfl rfl rfl rfl tyF22 (i := 0) rfl rfl) ?_
          rintro _ rfl
          refine Tops_yes rfl rfl (congrArg (fun b => some (Value.bool b)) hg4) (OpT_strS rfl rfl rfl rfl Try.underlying22 Try.underlying5 Try.underlying9 (i := 0) rfl) ?_
          rintro _ rfl
          refine Tops_yes rfl rfl (congrArg (fun b => some (Value.bool b)) hg4) (OpT_fieldC rfl rfl rfl rfl fldF38x4) ?_
          rintro _ rfl
          refine Tops_yes rfl rfl (congrArg (fun b => some (Value.bool b)) hg4) (OpT_loadC rfl rfl rfl rfl tyF22 (i := 1) rfl rfl) ?_
          rintro _ rfl
          refine Tops_yes rfl rfl (congrArg (fun b => some (Value.bool b)) hg4) (OpT_strS rfl rfl rfl rfl Try.underlying22 Try.underlying5 Try.underlying9 (i := 1) rfl) ?_
          rintro _ rfl
          refine Tops_yes rfl rfl (congrArg (fun b => some (Value.bool b)) hg4) (OpT_bin rfl rfl rfl rfl rfl (bin_eql_s (a := ap0.Data) (b := b.Data))) ?_
          rintro _ rfl
          refine Tops_step rfl (OpT_pickT rfl rfl rfl (congrArg (fun b => some (Value.bool b)) hg4) rfl) ?_
          refine Tops_step rfl (OpT_assign rfl rfl rfl rfl) ?_
          refine Tops_nil ?_
          refine Tk_wkS (fr' := [(4, some (vB (ap0.Data == b.Data)))]) (own' := []) (shr' := []) [4] [] [] rfl rfl rfl rfl ?_
          obtain rfl := Option.some.inj h
          exact Tk_retV rfl rfl (resA (vs := [vB (ap0.Data == b.Data)]) rfl ⟨rfl, trivial⟩) [] [] rfl rfl rfl ⟨rfl, rfl, rfl⟩
        · replace h := br_f hg4 h
          refine Tops_no rfl rfl (congrArg (fun b => some (Value.bool b)) hg4) rfl rfl ?_
          refine Tops_no rfl rfl (congrArg (fun b => some (Value.bool b)) hg4) rfl rfl ?_
          refine Tops_no rfl rfl (congrArg (fun b => some (Value.bool b)) hg4) rfl rfl ?_
          refine Tops_no rfl rfl (congrArg (fun b => some (Value.bool b)) hg4) rfl rfl ?_
          refine Tops_no rfl rfl (congrArg (fun b => some (Value.bool b)) hg4) rfl rfl ?_
          refine Tops_no rfl rfl (congrArg (fun b => some (Value.bool b)) hg4) rfl rfl ?_
          refine Tops_no rfl rfl (congrArg (fun b => some (Value.bool b)) hg4) rfl rfl ?_
          refine Tops_step rfl (OpT_pickF rfl rfl rfl (congrArg (fun b => some (Value.bool b)) hg4) rfl) ?_
          refine Tops_step rfl (OpT_assign rfl rfl rfl rfl) ?_
          refine Tops_nil ?_
          refine Tk_wkS (fr' := [(4, some (vB false))]) (own' := []) (shr' := []) [4] [] [] rfl rfl rfl rfl ?_
          obtain rfl := Option.some.inj h
          exact Tk_retV rfl rfl (resA (vs := [vB false]) rfl ⟨rfl, trivial⟩) [] [] rfl rfl rfl ⟨rfl, rfl, rfl⟩
      · replace h := br_f hg3 h
        refine Tops_no rfl rfl (congrArg (fun b => some (Value.bool b)) hg3) rfl rfl ?_
        refine Tops_no rfl rfl (congrArg (fun b => some (Value.bool b)) hg3) rfl rfl ?_
        refine Tops_no rfl rfl (congrArg (fun b => some (Value.bool b)) hg3) rfl rfl ?_
        refine Tops_no rfl rfl (congrArg (fun b => some (Value.bool b)) hg3) rfl rfl ?_
        refine Tops_no rfl rfl (congrArg (fun b => some (Value.bool b)) hg3) rfl rfl ?_
        refine Tops_step rfl (OpT_pickF rfl rfl rfl (congrArg (fun b => some (Value.bool b)) hg3) rfl) ?_
        refine Tops_step rfl (OpT_move rfl rfl rfl rfl) ?_
        refine Tops_no rfl rfl rfl rfl rfl ?_
        refine Tops_no rfl rfl rfl rfl rfl ?_
        refine Tops_no rfl rfl rfl rfl rfl ?_
        refine Tops_no rfl rfl rfl rfl rfl ?_
        refine Tops_no rfl rfl rfl rfl rfl ?_
        refine Tops_no rfl rfl rfl rfl rfl ?_
        refine Tops_no rfl rfl rfl rfl rfl ?_
        refine Tops_step rfl (OpT_pickF rfl rfl rfl rfl rfl) ?_
        refine Tops_step rfl (OpT_assign rfl rfl rfl rfl) ?_
        refine Tops_nil ?_
        refine Tk_wkS (fr' := [(4, some (vB false))]) (own' := []) (shr' := []) [4] [] [] rfl rfl rfl rfl ?_
        obtain rfl := Option.some.inj h
        exact Tk_retV rfl rfl (resA (vs := [vB false]) rfl ⟨rfl, trivial⟩) [] [] rfl rfl rfl ⟨rfl, rfl, rfl⟩
    · replace h := br_f hg2 h
      refine Tops_no rfl rfl (congrArg (fun b => some (Value.bool b)) hg2) rfl rfl ?_
      refine Tops_no rfl rfl (congrArg (fun b => some (Value.bool b)) hg2) rfl rfl ?_
      refine Tops_no rfl rfl (congrArg (fun b => some (Value.bool b)) hg2) rfl rfl ?_
      refine Tops_no rfl rfl (congrArg (fun b => some (Value.bool b)) hg2) rfl rfl ?_
      refine Tops_no rfl rfl (congrArg (fun b => some (Value.bool b)) hg2) rfl rfl ?_
      refine Tops_step rfl (OpT_pickF rfl rfl rfl (congrArg (fun b => some (Value.bool b)) hg2) rfl) ?_
      refine Tops_step rfl (OpT_move rfl rfl rfl rfl) ?_
      refine Tops_no rfl rfl rfl rfl rfl ?_
      refine Tops_no rfl rfl rfl rfl rfl ?_
      refine Tops_no rfl rfl rfl rfl rfl ?_
      refine Tops_no rfl rfl rfl rfl rfl ?_
      refine Tops_no rfl rfl rfl rfl rfl ?_
      refine Tops_step rfl (OpT_pickF rfl rfl rfl rfl rfl) ?_
      refine Tops_step rfl (OpT_move rfl rfl rfl rfl) ?_
      refine Tops_no rfl rfl rfl rfl rfl ?_
      refine Tops_no rfl rfl rfl rfl rfl ?_
      refine Tops_no rfl rfl rfl rfl rfl ?_
      refine Tops_no rfl rfl rfl rfl rfl ?_
      refine Tops_no rfl rfl rfl rfl rfl ?_
      refine Tops_no rfl rfl rfl rfl rfl ?_
      refine Tops_no rfl rfl rfl rfl rfl ?_
      refine Tops_step rfl (OpT_pickF rfl rfl rfl rfl rfl) ?_
      refine Tops_step rfl (OpT_assign rfl rfl rfl rfl) ?_
      refine Tops_nil ?_
      refine Tk_wkS (fr' := [(4, some (vB false))]) (own' := []) (shr' := []) [4] [] [] rfl rfl rfl rfl ?_
      obtain rfl := Option.some.inj h
      exact Tk_retV rfl rfl (resA (vs := [vB false]) rfl ⟨rfl, trivial⟩) [] [] rfl rfl rfl ⟨rfl, rfl, rfl⟩
  · replace h := br_f hg1 h
    refine Tops_no rfl rfl (congrArg (fun b => some (Value.bool b)) hg1) rfl rfl ?_
    refine Tops_no rfl rfl (congrArg (fun b => some (Value.bool b)) hg1) rfl rfl ?_
    refine Tops_no rfl rfl (congrArg (fun b => some (Value.bool b)) hg1) rfl rfl ?_
    refine Tops_no rfl rfl (congrArg (fun b => some (Value.bool b)) hg1) rfl rfl ?_
    refine Tops_no rfl rfl (congrArg (fun b => some (Value.bool b)) hg1) rfl rfl ?_
    refine Tops_step rfl (OpT_pickF rfl rfl rfl (congrArg (fun b => some (Value.bool b)) hg1) rfl) ?_
    refine Tops_step rfl (OpT_move rfl rfl rfl rfl) ?_
    refine Tops_no rfl rfl rfl rfl rfl ?_
    refine Tops_no rfl rfl rfl rfl rfl ?_
    refine Tops_no rfl rfl rfl rfl rfl ?_
    refine Tops_no rfl rfl rfl rfl rfl ?_
    refine Tops_no rfl rfl rfl rfl rfl ?_
    refine Tops_step rfl (OpT_pickF rfl rfl rfl rfl rfl) ?_
    refine Tops_step rfl (OpT_move rfl rfl rfl rfl) ?_
    refine Tops_no rfl rfl rfl rfl rfl ?_
    refine Tops_no rfl rfl rfl rfl rfl ?_
    refine Tops_no rfl rfl rfl rfl rfl ?_
    refine Tops_no rfl rfl rfl rfl rfl ?_
    refine Tops_no rfl rfl rfl rfl rfl ?_
    refine Tops_step rfl (OpT_pickF rfl rfl rfl rfl rfl) ?_
    refine Tops_step rfl (OpT_move rfl rfl rfl rfl) ?_
    refine Tops_no rfl rfl rfl rfl rfl ?_
    refine Tops_no rfl rfl rfl rfl rfl ?_
    refine Tops_no rfl rfl rfl rfl rfl ?_
    refine Tops_no rfl rfl rfl rfl rfl ?_
    refine Tops_no rfl rfl rfl rfl rfl ?_
    refine Tops_no rfl rfl rfl rfl rfl ?_
    refine Tops_no rfl rfl rfl rfl rfl ?_
    refine Tops_step rfl (OpT_pickF rfl rfl rfl rfl rfl) ?_
    refine Tops_step rfl (OpT_assign rfl rfl rfl rfl) ?_
    refine Tops_nil ?_
    refine Tk_wkS (fr' := [(4, some (vB false))]) (own' := []) (shr' := []) [4] [] [] rfl rfl rfl rfl ?_
    obtain rfl := Option.some.inj h
    exact Tk_retV rfl rfl (resA (vs := [vB false]) rfl ⟨rfl, trivial⟩) [] [] rfl rfl rfl ⟨rfl, rfl, rfl⟩

set_option maxRecDepth 100000 in
set_option maxHeartbeats 4000000 in
theorem w_ref_Group23 {mac : A6 UInt8} {r : Bool} (h : ref_Group23 mac = some r) :
    Ctr Try.prog 28 #[.agg #[vU8 mac.a0, vU8 mac.a1, vU8 mac.a2, vU8 mac.a3, vU8 mac.a4, vU8 mac.a5]] [] []
      (fun rv own shr => rv = vB r ∧ own = [] ∧ shr = []) := by
  unfold ref_Group23 at h
  refine Ctr.mk (args := [.agg #[vU8 mac.a0, vU8 mac.a1, vU8 mac.a2, vU8 mac.a3, vU8 mac.a4, vU8 mac.a5]]) Try.func28 rfl rfl (fun R0 w0 B => ?_)
  refine Tk_seq ?_
  refine Tk_region ?_
  refine Tops_ex rfl (OpT_box rfl rfl rfl rfl) fun b1 => ?_
  refine Tops_step rfl (OpT_assign rfl rfl rfl rfl) ?_
  refine Tops_nil ?_
  refine Tk_wkS (fr' := [(1, some (.pointer (some ⟨b1, 0, none⟩)))]) (own' := [some (cellsR b1 36 [vU8 mac.a0, vU8 mac.a1, vU8 mac.a2, vU8 mac.a3, vU8 mac.a4, vU8 mac.a5])]) (shr' := []) [1] [0] [] rfl rfl rfl rfl ?_
  refine Tk_seq ?_
  refine Tk_region ?_
  refine Tops_step rfl (OpT_indexC rfl rfl rfl rfl rfl arrF36 (by decide)) ?_
  refine Tops_step rfl (OpT_loadC rfl rfl rfl rfl tyF5 (i := 0) rfl rfl) ?_
  refine Tops_step rfl (OpT_bin rfl rfl rfl rfl rfl (bin_rem_u8 (a := mac.a0) (b := (2 : UInt8)) rfl)) ?_
  refine Tops_step rfl (OpT_bin rfl rfl rfl rfl rfl (bin_eql_u8 (a := mac.a0 % (2 : UInt8)) (b := (1 : UInt8)))) ?_
  refine Tops_step rfl (OpT_assign rfl rfl rfl rfl) ?_
  refine Tops_nil ?_
  refine Tk_wkS (fr' := [(2, some (vB ((mac.a0 % (2 : UInt8)) == (1 : UInt8))))]) (own' := []) (shr' := []) [2] [] [] rfl rfl rfl rfl ?_
  obtain rfl := Option.some.inj h
  exact Tk_retV rfl rfl (resA (vs := [vB ((mac.a0 % (2 : UInt8)) == (1 : UInt8))]) rfl ⟨rfl, trivial⟩) [] [] rfl rfl rfl ⟨rfl, rfl, rfl⟩

set_option maxRecDepth 100000 in
set_option maxHeartbeats 4000000 in
theorem w_ref_All23 {mac : A6 UInt8} {r : Bool} (h : ref_All23 mac = some r) :
    Ctr Try.prog 29 #[.agg #[vU8 mac.a0, vU8 mac.a1, vU8 mac.a2, vU8 mac.a3, vU8 mac.a4, vU8 mac.a5]] [] []
      (fun rv own shr => rv = vB r ∧ own = [] ∧ shr = []) := by
  unfold ref_All23 at h
  refine Ctr.mk (args := [.agg #[vU8 mac.a0, vU8 mac.a1, vU8 mac.a2, vU8 mac.a3, vU8 mac.a4, vU8 mac.a5]]) Try.func29 rfl rfl (fun R0 w0 B => ?_)
  refine Tk_seq ?_
  refine Tk_region ?_
  refine Tops_ex rfl (OpT_box rfl rfl rfl rfl) fun b1 => ?_
  refine Tops_step rfl (OpT_assign rfl rfl rfl rfl) ?_
  refine Tops_nil ?_
  refine Tk_wkS (fr' := [(1, some (.pointer (some ⟨b1, 0, none⟩)))]) (own' := [some (cellsR b1 36 [vU8 mac.a0, vU8 mac.a1, vU8 mac.a2, vU8 mac.a3, vU8 mac.a4, vU8 mac.a5])]) (shr' := []) [1] [0] [] rfl rfl rfl rfl ?_
  refine Tk_seq ?_
  refine Tk_seq ?_
  refine Tk_region ?_
  refine Tops_step rfl (OpT_assign rfl rfl rfl rfl) ?_
  refine Tops_nil ?_
  refine Tk_block ?_
  refine Tk_loopS (σ := Int) [1, 3] [0] [] (fun s => ⟨[(1, some (.pointer (some ⟨b1, 0, none⟩))), (3, some (vI s))], [some (cellsR b1 36 [vU8 mac.a0, vU8 mac.a1, vU8 mac.a2, vU8 mac.a3, vU8 mac.a4, vU8 mac.a5])], []⟩) (fun nf s => ref_All23L1 mac nf s = some r) fuel (0 : Int) h rfl rfl rfl rfl rfl (fun s h => by cases h) ?_
  rintro nf i1 h
  replace h : ref_All23L1B mac (ref_All23L1 mac nf) i1 = some r := h
  unfold ref_All23L1B at h
  refine Tk_seq ?_
  refine Tk_seq ?_
  refine Tk_region ?_
  refine Tops_step rfl (OpT_move rfl rfl rfl rfl) ?_
  refine Tops_step rfl (OpT_bin rfl rfl rfl rfl rfl (bin_lss_i (a := i1) (b := (6 : Int)))) ?_
  refine Tops_nil ?_
  refine Tk_wkS (fr' := [(1, some (.pointer (some ⟨b1, 0, none⟩))), (3, some (vI i1)), (5, some (vB (decide (i1 < (6 : Int)))))]) (own' := [some (cellsR b1 36 [vU8 mac.a0, vU8 mac.a1, vU8 mac.a2, vU8 mac.a3, vU8 mac.a4, vU8 mac.a5])]) (shr' := []) [1, 3, 5] [0] [] rfl rfl rfl rfl ?_
  rcases Bool.eq_false_or_eq_true (decide (i1 < (6 : Int))) with hg1 | hg1
  · replace h := br_t hg1 h
    refine Tk_condT (congrArg (fun b => some (Value.bool b)) hg1) ?_
    refine Tk_skip ?_
    refine Tk_seq ?_
    refine Tk_block ?_
    refine Tk_seq ?_
    refine Tk_region ?_
    refine Tops_step rfl (OpT_move rfl rfl rfl rfl) ?_
    obtain ⟨hc1, h⟩ := chk_e h
    refine Tops_step rfl (OpT_indexC rfl rfl rfl rfl rfl arrF36 hc1) ?_
    obtain ⟨u1, hx1, h⟩ := ob_e h
    refine Tops_step rfl (OpT_loadX1 vU8 [mac.a0, mac.a1, mac.a2, mac.a3, mac.a4, mac.a5] [] [] rfl rfl rfl rfl tyF5 (i := 0) rfl rfl rfl hx1) ?_
    refine Tops_step rfl (OpT_bin rfl rfl rfl rfl rfl (bin_neq_u8 (a := u1) (b := (255 : UInt8)))) ?_
    refine Tops_nil ?_
    refine Tk_wkS (fr' := [(1, some (.pointer (some ⟨b1, 0, none⟩))), (3, some (vI i1)), (11, some (vB (u1 != (255 : UInt8))))]) (own' := [some (cellsR b1 36 [vU8 mac.a0, vU8 mac.a1, vU8 mac.a2, vU8 mac.a3, vU8 mac.a4, vU8 mac.a5])]) (shr' := []) [1, 3, 11] [0] [] rfl rfl rfl rfl ?_
    rcases Bool.eq_false_or_eq_true (u1 != (255 : UInt8)) with hg2 | hg2
    · replace h := br_t hg2 h
      refine Tk_condT (congrArg (fun b => some (Value.bool b)) hg2) ?_
      refine Tk_seq ?_
      refine Tk_region ?_
      refine Tops_step rfl (OpT_assign rfl rfl rfl rfl) ?_
      refine Tops_nil ?_
      refine Tk_wkS (fr' := [(2, some (vB false))]) (own' := []) (shr' := []) [2] [] [] rfl rfl rfl rfl ?_
      obtain rfl := Option.some.inj h
      exact Tk_retV rfl rfl (resA (vs := [vB false]) rfl ⟨rfl, trivial⟩) [] [] rfl rfl rfl ⟨rfl, rfl, rfl⟩
    · replace h := br_f hg2 h
      refine Tk_condF (congrArg (fun b => some (Value.bool b)) hg2) ?_
      refine Tk_skip ?_
      refine Tk_blk ?_
      refine Tk_region ?_
      refine Tops_step rfl (OpT_move rfl rfl rfl rfl) ?_
      refine Tops_step rfl (OpT_bin rfl rfl rfl rfl rfl (bin_add_i (a := i1) (b := (1 : Int)))) ?_
      refine Tops_step rfl (OpT_assign rfl rfl rfl rfl) ?_
      refine Tops_nil ?_
      refine Tk_wkS (fr' := [(1, some (.pointer (some ⟨b1, 0, none⟩))), (3, some (vI (wi (i1 + (1 : Int)))))]) (own' := [some (cellsR b1 36 [vU8 mac.a0, vU8 mac.a1, vU8 mac.a2, vU8 mac.a3, vU8 mac.a4, vU8 mac.a5])]) (shr' := []) [1, 3] [0] [] rfl rfl rfl rfl ?_
      exact Tk_backS (wi (i1 + (1 : Int))) h [1, 3] [0] [] rfl rfl rfl rfl rfl
  · replace h := br_f hg1 h
    refine Tk_condF (congrArg (fun b => some (Value.bool b)) hg1) ?_
    refine Tk_exit _ rfl ?_
    refine Tk_seq ?_
    refine Tk_region ?_
    refine Tops_step rfl (OpT_assign rfl rfl rfl rfl) ?_
    refine Tops_nil ?_
    refine Tk_wkS (fr' := [(2, some (vB true))]) (own' := []) (shr' := []) [2] [] [] rfl rfl rfl rfl ?_
    obtain rfl := Option.some.inj h
    exact Tk_retV rfl rfl (resA (vs := [vB true]) rfl ⟨rfl, trivial⟩) [] [] rfl rfl rfl ⟨rfl, rfl, rfl⟩

set_option maxRecDepth 100000 in
set_option maxHeartbeats 4000000 in
theorem w_ref_HdrOf23 {hp0 : Hdr} {r : (List UInt8)} (h : ref_HdrOf23 hp0 = some r) :
    Ctr Try.prog 32 #[.agg #[vU8 hp0.Flags, vU16 hp0.Start, vU16 hp0.Off, vU16 hp0.Buffers]] [] []
      (fun rv own shr => ∃ (w1 : Value), rv = w1 ∧ own = [(rowS u8S w1 r)] ∧ shr = []) := by
  unfold ref_HdrOf23 at h
  refine Ctr.mk (args := [.agg #[vU8 hp0.Flags, vU16 hp0.Start, vU16 hp0.Off, vU16 hp0.Buffers]]) Try.func32 rfl rfl (fun R0 w0 B => ?_)
  refine Tk_seq ?_
  refine Tk_region ?_
  refine Tops_ex rfl (OpT_box rfl rfl rfl rfl) fun b1 => ?_
  refine Tops_step rfl (OpT_assign rfl rfl rfl rfl) ?_
  refine Tops_nil ?_
  refine Tk_wkS (fr' := [(1, some (.pointer (some ⟨b1, 0, none⟩)))]) (own' := [some (cellsR b1 34 [vU8 hp0.Flags, vU16 hp0.Start, vU16 hp0.Off, vU16 hp0.Buffers])]) (shr' := []) [1] [0] [] rfl rfl rfl rfl ?_
  refine Tk_seq ?_
  refine Tk_region ?_
  refine Tops_step rfl (OpT_fieldC rfl rfl rfl rfl fldF34x0) ?_
  refine Tops_step rfl (OpT_loadC rfl rfl rfl rfl tyF5 (i := 0) rfl rfl) ?_
  refine Tops_step rfl (OpT_fieldC rfl rfl rfl rfl fldF34x1) ?_
  refine Tops_step rfl (OpT_loadC rfl rfl rfl rfl tyF24 (i := 0) rfl rfl) ?_
  refine Tops_step rfl (OpT_cnv rfl rfl rfl rfl (cnv_u16_u8 (n := hp0.Start) Try.underlying24 Try.underlying5)) ?_
  refine Tops_step rfl (OpT_fieldC rfl rfl rfl rfl fldF34x1) ?_
  refine Tops_step rfl (OpT_loadC rfl rfl rfl rfl tyF24 (i := 0) rfl rfl) ?_
  refine Tops_step rfl (OpT_bin rfl rfl rfl rfl rfl (bin_shr_u16_u64 (a := hp0.Start) (n := (8 : UInt64)))) ?_
  refine Tops_step rfl (OpT_cnv rfl rfl rfl rfl (cnv_u16_u8 (n := shr16 hp0.Start ((8 : UInt64).toNat)) Try.underlying24 Try.underlying5)) ?_
  refine Tops_step rfl (OpT_fieldC rfl rfl rfl rfl fldF34x2) ?_
  refine Tops_step rfl (OpT_loadC rfl rfl rfl rfl tyF24 (i := 0) rfl rfl) ?_
  refine Tops_step rfl (OpT_cnv rfl rfl rfl rfl (cnv_u16_u8 (n := hp0.Off) Try.underlying24 Try.underlying5)) ?_
  refine Tops_step rfl (OpT_fieldC rfl rfl rfl rfl fldF34x2) ?_
  refine Tops_step rfl (OpT_loadC rfl rfl rfl rfl tyF24 (i := 0) rfl rfl) ?_
  refine Tops_step rfl (OpT_bin rfl rfl rfl rfl rfl (bin_shr_u16_u64 (a := hp0.Off) (n := (8 : UInt64)))) ?_
  refine Tops_step rfl (OpT_cnv rfl rfl rfl rfl (cnv_u16_u8 (n := shr16 hp0.Off ((8 : UInt64).toNat)) Try.underlying24 Try.underlying5)) ?_
  refine Tops_step rfl (OpT_fieldC rfl rfl rfl rfl fldF34x3) ?_
  refine Tops_step rfl (OpT_loadC rfl rfl rfl rfl tyF24 (i := 0) rfl rfl) ?_
  refine Tops_step rfl (OpT_cnv rfl rfl rfl rfl (cnv_u16_u8 (n := hp0.Buffers) Try.underlying24 Try.underlying5)) ?_
  refine Tops_step rfl (OpT_fieldC rfl rfl rfl rfl fldF34x3) ?_
  refine Tops_step rfl (OpT_loadC rfl rfl rfl rfl tyF24 (i := 0) rfl rfl) ?_
  refine Tops_step rfl (OpT_bin rfl rfl rfl rfl rfl (bin_shr_u16_u64 (a := hp0.Buffers) (n := (8 : UInt64)))) ?_
  refine Tops_step rfl (OpT_cnv rfl rfl rfl rfl (cnv_u16_u8 (n := shr16 hp0.Buffers ((8 : UInt64).toNat)) Try.underlying24 Try.underlying5)) ?_
  refine Tops_ex rfl (OpT_buildSlice (S := u8S) (xs := [hp0.Flags, (0 : UInt8), (0 : UInt8), (0 : UInt8), (0 : UInt8), (0 : UInt8), hp0.Start.toUInt8, (shr16 hp0.Start ((8 : UInt64).toNat)).toUInt8, hp0.Off.toUInt8, (shr16 hp0.Off ((8 : UInt64).toNat)).toUInt8, hp0.Buffers.toUInt8, (shr16 hp0.Buffers ((8 : UInt64).toNat)).toUInt8]) (css := [[vU8 hp0.Flags], [vU8 (0 : UInt8)], [vU8 (0 : UInt8)], [vU8 (0 : UInt8)], [vU8 (0 : UInt8)], [vU8 (0 : UInt8)], [vU8 hp0.Start.toUInt8], [vU8 ((shr16 hp0.Start ((8 : UInt64).toNat)).toUInt8)], [vU8 hp0.Off.toUInt8], [vU8 ((shr16 hp0.Off ((8 : UInt64).toNat)).toUInt8)], [vU8 hp0.Buffers.toUInt8], [vU8 ((shr16 hp0.Buffers ((8 : UInt64).toNat)).toUInt8)]]) (cs := [vU8 hp0.Flags, vU8 (0 : UInt8), vU8 (0 : UInt8), vU8 (0 : UInt8), vU8 (0 : UInt8), vU8 (0 : UInt8), vU8 hp0.Start.toUInt8, vU8 ((shr16 hp0.Start ((8 : UInt64).toNat)).toUInt8), vU8 hp0.Off.toUInt8, vU8 ((shr16 hp0.Off ((8 : UInt64).toNat)).toUInt8), vU8 hp0.Buffers.toUInt8, vU8 ((shr16 hp0.Buffers ((8 : UInt64).toNat)).toUInt8)]) (e := 5) rfl rfl rfl rfl (bldF slF22 (by decide) (by kernel_rfl)) rfl rfl rfl rfl (rel_plainD (S := u8S) (xs := [hp0.Flags, (0 : UInt8), (0 : UInt8), (0 : UInt8), (0 : UInt8), (0 : UInt8), hp0.Start.toUInt8, (shr16 hp0.Start ((8 : UInt64).toNat)).toUInt8, hp0.Off.toUInt8, (shr16 hp0.Off ((8 : UInt64).toNat)).toUInt8, hp0.Buffers.toUInt8, (shr16 hp0.Buffers ((8 : UInt64).toNat)).toUInt8]) (css := [[vU8 hp0.Flags], [vU8 (0 : UInt8)], [vU8 (0 : UInt8)], [vU8 (0 : UInt8)], [vU8 (0 : UInt8)], [vU8 (0 : UInt8)], [vU8 hp0.Start.toUInt8], [vU8 ((shr16 hp0.Start ((8 : UInt64).toNat)).toUInt8)], [vU8 hp0.Off.toUInt8], [vU8 ((shr16 hp0.Off ((8 : UInt64).toNat)).toUInt8)], [vU8 hp0.Buffers.toUInt8], [vU8 ((shr16 hp0.Buffers ((8 : UInt64).toNat)).toUInt8)]]) rfl rfl)) fun v1 => ?_
  refine Tops_step rfl (OpT_assign rfl rfl rfl rfl) ?_
  refine Tops_nil ?_
  refine Tk_wkS (fr' := [(2, some (v1))]) (own' := [some (rowS u8S v1 [hp0.Flags, (0 : UInt8), (0 : UInt8), (0 : UInt8), (0 : UInt8), (0 : UInt8), hp0.Start.toUInt8, (shr16 hp0.Start ((8 : UInt64).toNat)).toUInt8, hp0.Off.toUInt8, (shr16 hp0.Off ((8 : UInt64).toNat)).toUInt8, hp0.Buffers.toUInt8, (shr16 hp0.Buffers ((8 : UInt64).toNat)).toUInt8])]) (shr' := []) [2] [1] [] rfl rfl rfl rfl ?_
  obtain rfl := Option.some.inj h
  exact Tk_retV rfl rfl (resA (vs := [v1]) rfl ⟨rfl, trivial⟩) [0] [] rfl rfl rfl ⟨v1, rfl, rfl, rfl⟩

theorem ws_ref_HdrOf23 {hp0 : Hdr} {r : (List UInt8)} (h : ref_HdrOf23 hp0 = some r) :
    Ctr Try.prog 32 #[.agg #[vU8 hp0.Flags, vU16 hp0.Start, vU16 hp0.Off, vU16 hp0.Buffers]] [] []
      (fun rv own shr => ∃ (w1 : Value), rv = w1 ∧ own = [] ∧ shr = [Fact.sl u8S w1 r]) :=
  Ctr.sh (w_ref_HdrOf23 h) (by rintro w1 _ _ ⟨_, rfl, rfl, rfl⟩; exact ⟨[], _, _, _, _, rfl, w1, rfl, rfl, rfl⟩)

set_option maxRecDepth 100000 in
set_option maxHeartbeats 4000000 in
theorem w_kit_LightBufs {l : List (List Seg)} {most : Int} {segs : Int} {vl1 : Value} {r : Bool} (h : kit_LightBufs l most segs = some r) :
    Ctr Try.prog 35 #[vl1, vI most, vI segs] [] [Fact.sl (Shape.slice SegS) vl1 l]
      (fun rv own shr => rv = vB r ∧ own = [] ∧ shr = []) := by
  unfold kit_LightBufs at h
  refine Ctr.mk (args := [vl1, vI most, vI segs]) Try.func35 rfl rfl (fun R0 w0 B => ?_)
  refine Tk_seq ?_
  refine Tk_region ?_
  refine Tops_step rfl (OpT_assign rfl rfl rfl rfl) ?_
  refine Tops_nil ?_
  refine Tk_wkS (fr' := [(0, some (vl1)), (1, some (vI most)), (2, some (vI segs))]) (own' := []) (shr' := [Fact.sl (Shape.slice SegS) vl1 l]) [0, 1, 2] [] [0] rfl rfl rfl rfl ?_
  refine Tk_seq ?_
  refine Tk_seq ?_
  refine Tk_region ?_
  refine Tops_step rfl (OpT_move rfl rfl rfl rfl) ?_
  refine Tops_step rfl (OpT_lenS rfl rfl rfl rfl Try.underlying52 (i := 0) rfl) ?_
  refine Tops_step rfl (OpT_move rfl rfl rfl rfl) ?_
  refine Tops_step rfl (OpT_bin rfl rfl rfl rfl rfl (bin_gtr_i (a := len l) (b := most))) ?_
  refine Tops_nil ?_
  refine Tk_wkS (fr' := [(0, some (vl1)), (2, some (vI segs)), (11, some (vB (decide ((len l) > most))))]) (own' := []) (shr' := [Fact.sl (Shape.slice SegS) vl1 l]) [0, 2, 11] [] [0] rfl rfl rfl rfl ?_
  rcases Bool.eq_false_or_eq_true (decide ((len l) > most)) with hg1 | hg1
  · replace h := br_t hg1 h
    refine Tk_condT (congrArg (fun b => some (Value.bool b)) hg1) ?_
    refine Tk_seq ?_
    refine Tk_region ?_
    refine Tops_step rfl (OpT_assign rfl rfl rfl rfl) ?_
    refine Tops_nil ?_
    refine Tk_wkS (fr' := [(6, some (vB false))]) (own' := []) (shr' := []) [6] [] [] rfl rfl rfl rfl ?_
    obtain rfl := Option.some.inj h
    exact Tk_retV rfl rfl (resA (vs := [vB false]) rfl ⟨rfl, trivial⟩) [] [] rfl rfl rfl ⟨rfl, rfl, rfl⟩
  · replace h := br_f hg1 h
    refine Tk_condF (congrArg (fun b => some (Value.bool b)) hg1) ?_
    refine Tk_skip ?_
    refine Tk_seq ?_
    refine Tk_seq ?_
    refine Tk_region ?_
    refine Tops_step rfl (OpT_assign rfl rfl rfl rfl) ?_
    refine Tops_nil ?_
    refine Tk_wkS (fr' := [(0, some (vl1)), (2, some (vI segs)), (7, some (vI (0 : Int)))]) (own' := []) (shr' := [Fact.sl (Shape.slice SegS) vl1 l]) [0, 2, 7] [] [0] rfl rfl rfl rfl ?_
    refine Tk_block ?_
    refine Tk_loopS (σ := Int) [0, 2, 7] [] [0] (fun s => ⟨[(0, some (vl1)), (2, some (vI segs)), (7, some (vI s))], [], [Fact.sl (Shape.slice SegS) vl1 l]⟩) (fun nf s => kit_LightBufsL1 l segs nf s = some r) fuel (0 : Int) h rfl rfl rfl rfl rfl (fun s h => by cases h) ?_
    rintro nf i1 h
    replace h : kit_LightBufsL1B l segs (kit_LightBufsL1 l segs nf) i1 = some r := h
    unfold kit_LightBufsL1B at h
    refine Tk_seq ?_
    refine Tk_seq ?_
    refine Tk_region ?_
    refine Tops_step rfl (OpT_move rfl rfl rfl rfl) ?_
    refine Tops_step rfl (OpT_move rfl rfl rfl rfl) ?_
    refine Tops_step rfl (OpT_lenS rfl rfl rfl rfl Try.underlying52 (i := 0) rfl) ?_
    refine Tops_step rfl (OpT_bin rfl rfl rfl rfl rfl (bin_lss_i (a := i1) (b := len l))) ?_
    refine Tops_nil ?_
    refine Tk_wkS (fr' := [(0, some (vl1)), (2, some (vI segs)), (7, some (vI i1)), (15, some (vB (decide (i1 < (len l)))))]) (own' := []) (shr' := [Fact.sl (Shape.slice SegS) vl1 l]) [0, 2, 7, 15] [] [0] rfl rfl rfl rfl ?_
    rcases Bool.eq_false_or_eq_true (decide (i1 < (len l))) with hg2 | hg2
    · replace h := br_t hg2 h
      refine Tk_condT (congrArg (fun b => some (Value.bool b)) hg2) ?_
      refine Tk_skip ?_
      refine Tk_seq ?_
      refine Tk_block ?_
      refine Tk_seq ?_
      refine Tk_region ?_
      refine Tops_step rfl (OpT_move rfl rfl rfl rfl) ?_
      refine Tops_step rfl (OpT_move rfl rfl rfl rfl) ?_
      obtain ⟨y1, hx1, h⟩ := ob_e h
      refine Tops_ex rfl (OpT_idxS rfl rfl rfl rfl rfl slF52 (i := 0) rfl hx1) fun p1 => ?_
      refine Tops_ex rfl (OpT_loadPS rfl rfl rfl rfl tyF54 (i := 1) rfl) fun v1 => ?_
      refine Tops_step rfl (OpT_lenS rfl rfl rfl rfl Try.underlying54 (i := 2) rfl) ?_
      refine Tops_step rfl (OpT_move rfl rfl rfl rfl) ?_
      refine Tops_step rfl (OpT_bin rfl rfl rfl rfl rfl (bin_gtr_i (a := len y1) (b := segs))) ?_
      refine Tops_nil ?_
      refine Tk_wkS (fr' := [(0, some (vl1)), (2, some (vI segs)), (7, some (vI i1)), (24, some (vB (decide ((len y1) > segs))))]) (own' := []) (shr' := [Fact.sl (Shape.slice SegS) vl1 l]) [0, 2, 7, 24] [] [0] rfl rfl rfl rfl ?_
      rcases Bool.eq_false_or_eq_true (decide ((len y1) > segs)) with hg3 | hg3
      · replace h := br_t hg3 h
        refine Tk_condT (congrArg (fun b => some (Value.bool b)) hg3) ?_
        refine Tk_seq ?_
        refine Tk_region ?_
        refine Tops_step rfl (OpT_assign rfl rfl rfl rfl) ?_
        refine Tops_nil ?_
        refine Tk_wkS (fr' := [(6, some (vB false))]) (own' := []) (shr' := []) [6] [] [] rfl rfl rfl rfl ?_
        obtain rfl := Option.some.inj h
        exact Tk_retV rfl rfl (resA (vs := [vB false]) rfl ⟨rfl, trivial⟩) [] [] rfl rfl rfl ⟨rfl, rfl, rfl⟩
      · replace h := br_f hg3 h
        refine Tk_condF (congrArg (fun b => some (Value.bool b)) hg3) ?_
        refine Tk_skip ?_
        refine Tk_blk ?_
        refine Tk_region ?_
        refine Tops_step rfl (OpT_move rfl rfl rfl rfl) ?_
        refine Tops_step rfl (OpT_bin rfl rfl rfl rfl rfl (bin_add_i (a := i1) (b := (1 : Int)))) ?_
        refine Tops_step rfl (OpT_assign rfl rfl rfl rfl) ?_
        refine Tops_nil ?_
        refine Tk_wkS (fr' := [(0, some (vl1)), (2, some (vI segs)), (7, some (vI (wi (i1 + (1 : Int)))))]) (own' := []) (shr' := [Fact.sl (Shape.slice SegS) vl1 l]) [0, 2, 7] [] [0] rfl rfl rfl rfl ?_
        exact Tk_backS (wi (i1 + (1 : Int))) h [0, 2, 7] [] [0] rfl rfl rfl rfl rfl
    · replace h := br_f hg2 h
      refine Tk_condF (congrArg (fun b => some (Value.bool b)) hg2) ?_
      refine Tk_exit _ rfl ?_
      refine Tk_seq ?_
      refine Tk_region ?_
      refine Tops_step rfl (OpT_assign rfl rfl rfl rfl) ?_
      refine Tops_nil ?_
      refine Tk_wkS (fr' := [(6, some (vB true))]) (own' := []) (shr' := []) [6] [] [] rfl rfl rfl rfl ?_
      obtain rfl := Option.some.inj h
      exact Tk_retV rfl rfl (resA (vs := [vB true]) rfl ⟨rfl, trivial⟩) [] [] rfl rfl rfl ⟨rfl, rfl, rfl⟩

set_option maxRecDepth 100000 in
set_option maxHeartbeats 4000000 in
theorem w_kit_Segs {l : List Seg} {vl1 : Value} {r : (List Seg)} (h : kit_Segs l = some r) :
    Ctr Try.prog 38 #[vl1] [] [Fact.sl SegS vl1 l]
      (fun rv own shr => ∃ (w1 : Value), rv = w1 ∧ own = [(rowS SegS w1 r)] ∧ shr = []) := by
  unfold kit_Segs at h
  refine Ctr.mk (args := [vl1]) Try.func38 rfl rfl (fun R0 w0 B => ?_)
  refine Tk_seq ?_
  refine Tk_region ?_
  refine Tops_step rfl (OpT_assign rfl rfl rfl rfl) ?_
  refine Tops_nil ?_
  refine Tk_wkS (fr' := [(0, some (vl1))]) (own' := []) (shr' := [Fact.sl SegS vl1 l]) [0] [] [0] rfl rfl rfl rfl ?_
  refine Tk_seq ?_
  refine Tk_region ?_
  refine Tops_ex rfl (OpT_buildSlice (S := SegS) (xs := ([] : List Seg)) (css := []) (cs := []) (e := 73) rfl rfl rfl rfl (bldF slF54 (by decide) (by kernel_rfl)) rfl rfl rfl rfl (rel_plainD (S := SegS) (xs := ([] : List Seg)) (css := []) rfl rfl)) fun v1 => ?_
  refine Tops_step rfl (OpT_move rfl rfl rfl rfl) ?_
  obtain ⟨hc1, h⟩ := chk_e h
  refine Tops_ex rfl (OpT_append rfl rfl rfl rfl rfl slF54 (i := 0) (j := 0) rfl rfl hc1) fun v2 => ?_
  refine Tops_step rfl (OpT_assign rfl rfl rfl rfl) ?_
  refine Tops_nil ?_
  refine Tk_wkS (fr' := [(2, some (v2))]) (own' := [some (rowS SegS v2 l)]) (shr' := []) [2] [0] [] rfl rfl rfl rfl ?_
  obtain rfl := Option.some.inj h
  exact Tk_retV rfl rfl (resA (vs := [v2]) rfl ⟨rfl, trivial⟩) [0] [] rfl rfl rfl ⟨v2, rfl, rfl, rfl⟩

set_option maxRecDepth 100000 in
set_option maxHeartbeats 4000000 in
theorem w_kit_Bufs {l : List (List Seg)} {vl1 : Value} {r : (List (List Seg))} (h : kit_Bufs l = some r) :
    Ctr Try.prog 37 #[vl1] [] [Fact.sl (Shape.slice SegS) vl1 l]
      (fun rv own shr => ∃ (w1 : Value), rv = w1 ∧ own = [(rowS (Shape.slice SegS) w1 r)] ∧ shr = []) := by
  unfold kit_Bufs at h
  refine Ctr.mk (args := [vl1]) Try.func37 rfl rfl (fun R0 w0 B => ?_)
  refine Tk_seq ?_
  refine Tk_region ?_
  refine Tops_step rfl (OpT_assign rfl rfl rfl rfl) ?_
  refine Tops_nil ?_
  refine Tk_wkS (fr' := [(0, some (vl1))]) (own' := []) (shr' := [Fact.sl (Shape.slice SegS) vl1 l]) [0] [] [0] rfl rfl rfl rfl ?_
  refine Tk_seq ?_
  refine Tk_region ?_
  refine Tops_step rfl (OpT_assign rfl rfl rfl rfl) ?_
  refine Tops_nil ?_
  refine Tk_seq ?_
  refine Tk_seq ?_
  refine Tk_region ?_
  refine Tops_step rfl (OpT_assign rfl rfl rfl rfl) ?_
  refine Tops_nil ?_
  refine Tk_block ?_
  refine Tk_nilrow (Shape.slice SegS) ?_
  refine Tk_loopS (σ := (List (List Seg)) × Int × Value) [0, 3, 4] [0] [0] (fun s => ⟨[(0, some (vl1)), (3, some (s.2.2)), (4, some (vI s.2.1))], [some (rowS (Shape.slice SegS) s.2.2 s.1)], [Fact.sl (Shape.slice SegS) vl1 l]⟩) (fun nf s => kit_BufsL1 l nf s.1 s.2.1 = some r) fuel ([], (0 : Int), (.slice none 0 0)) h rfl rfl rfl rfl rfl (fun s h => by cases h) ?_
  rintro nf ⟨out1, i1, v1⟩ h
  replace h : kit_BufsL1B l (kit_BufsL1 l nf) out1 i1 = some r := h
  unfold kit_BufsL1B at h
  refine Tk_seq ?_
  refine Tk_seq ?_
  refine Tk_region ?_
  refine Tops_step rfl (OpT_move rfl rfl rfl rfl) ?_
  refine Tops_step rfl (OpT_move rfl rfl rfl rfl) ?_
  refine Tops_step rfl (OpT_lenS rfl rfl rfl rfl Try.underlying52 (i := 0) rfl) ?_
  refine Tops_step rfl (OpT_bin rfl rfl rfl rfl rfl (bin_lss_i (a := i1) (b := len l))) ?_
  refine Tops_nil ?_
  refine Tk_wkS (fr' := [(0, some (vl1)), (3, some (v1)), (4, some (vI i1)), (8, some (vB (decide (i1 < (len l)))))]) (own' := [some (rowS (Shape.slice SegS) v1 out1)]) (shr' := [Fact.sl (Shape.slice SegS) vl1 l]) [0, 3, 4, 8] [0] [0] rfl rfl rfl rfl ?_
  rcases Bool.eq_false_or_eq_true (decide (i1 < (len l))) with hg1 | hg1
  · replace h := br_t hg1 h
    refine Tk_condT (congrArg (fun b => some (Value.bool b)) hg1) ?_
    refine Tk_skip ?_
    refine Tk_seq ?_
    refine Tk_block ?_
    refine Tk_region ?_
    refine Tops_step rfl (OpT_move rfl rfl rfl rfl) ?_
    refine Tops_step rfl (OpT_move rfl rfl rfl rfl) ?_
    refine Tops_step rfl (OpT_move rfl rfl rfl rfl) ?_
    obtain ⟨y1, hx1, h⟩ := ob_e h
    refine Tops_ex rfl (OpT_idxS rfl rfl rfl rfl rfl slF52 (i := 0) rfl hx1) fun p1 => ?_
    refine Tops_ex rfl (OpT_loadPS rfl rfl rfl rfl tyF54 (i := 1) rfl) fun v2 => ?_
    obtain ⟨segs1, hx2, h⟩ := ob_e h
    refine Tops_exP rfl (OpT_call (w_kit_Segs hx2) [] [2] rfl rfl rfl rfl rfl callee38 rfl rfl rfl rfl) ?_
    rintro _ ⟨v3, _, _, ⟨_, rfl, rfl, rfl⟩, rfl⟩
    refine Tops_retire (i := 1) rfl ?_
    refine Tops_ex rfl (OpT_buildSl (Shape.slice SegS) (vs := [v3]) (xs := [segs1]) rfl rfl rfl rfl rfl slF52 (isl_cons (is_sl (i := 3) rfl) isl_nil) rfl rfl rfl (rel_cons (rel_sl (i := 3) rfl) (rel_nil rfl))) fun v4 => ?_
    refine Tops_retire (i := 2) rfl ?_
    obtain ⟨hc1, h⟩ := chk_e h
    refine Tops_ex rfl (OpT_append rfl rfl rfl rfl rfl slF52 (i := 0) (j := 4) rfl rfl hc1) fun v5 => ?_
    refine Tops_step rfl (OpT_assign rfl rfl rfl rfl) ?_
    refine Tops_nil ?_
    refine Tk_wkS (fr' := [(0, some (vl1)), (3, some (v5)), (4, some (vI i1))]) (own' := [some (rowS (Shape.slice SegS) v5 (out1 ++ [segs1]))]) (shr' := [Fact.sl (Shape.slice SegS) vl1 l]) [0, 3, 4] [0] [0] rfl rfl rfl rfl ?_
    refine Tk_blk ?_
    refine Tk_region ?_
    refine Tops_step rfl (OpT_move rfl rfl rfl rfl) ?_
    refine Tops_step rfl (OpT_bin rfl rfl rfl rfl rfl (bin_add_i (a := i1) (b := (1 : Int)))) ?_
    refine Tops_step rfl (OpT_assign rfl rfl rfl rfl) ?_
    refine Tops_nil ?_
    refine Tk_wkS (fr' := [(0, some (vl1)), (3, some (v5)), (4, some (vI (wi (i1 + (1 : Int)))))]) (own' := [some (rowS (Shape.slice SegS) v5 (out1 ++ [segs1]))]) (shr' := [Fact.sl (Shape.slice SegS) vl1 l]) [0, 3, 4] [0] [0] rfl rfl rfl rfl ?_
    exact Tk_backS (out1 ++ [segs1], wi (i1 + (1 : Int)), v5) h [0, 3, 4] [0] [0] rfl rfl rfl rfl rfl
  · replace h := br_f hg1 h
    refine Tk_condF (congrArg (fun b => some (Value.bool b)) hg1) ?_
    refine Tk_exit _ rfl ?_
    refine Tk_seq ?_
    refine Tk_region ?_
    refine Tops_step rfl (OpT_move rfl rfl rfl rfl) ?_
    refine Tops_step rfl (OpT_assign rfl rfl rfl rfl) ?_
    refine Tops_nil ?_
    refine Tk_wkS (fr' := [(2, some (v1))]) (own' := [some (rowS (Shape.slice SegS) v1 out1)]) (shr' := []) [2] [0] [] rfl rfl rfl rfl ?_
    obtain rfl := Option.some.inj h
    exact Tk_retV rfl rfl (resA (vs := [v1]) rfl ⟨rfl, trivial⟩) [0] [] rfl rfl rfl ⟨v1, rfl, rfl, rfl⟩

set_option maxRecDepth 100000 in
set_option maxHeartbeats 4000000 in
theorem wb_seg_Check_1 {arg0 : Int} {arg1 : UInt64} {b_arg0 : Nat} {b_arg1 : Nat} {r : Int} (h : seg_Check_1 arg0 arg1 = some r) :
    BodyOk Try.prog 52 [.pointer (some ⟨b_arg0, 0, none⟩), .pointer (some ⟨b_arg1, 0, none⟩)] [(cellsR b_arg0 30 [vI arg0]), (cellsR b_arg1 53 [vU64 arg1])] []
      (fun rv own shr => rv = .tuple #[] ∧ own = [(cellsR b_arg0 30 [vI r]), (cellsR b_arg1 53 [vU64 arg1])] ∧ shr = []) := by
  unfold seg_Check_1 at h
  refine BodyOk.mk Try.func52 rfl rfl (fun R0 w0 B => ?_)
  refine Tk_seq ?_
  refine Tk_region ?_
  refine Tops_step rfl (OpT_loadC rfl rfl rfl rfl tyF30 (i := 0) rfl rfl) ?_
  refine Tops_step rfl (OpT_bin rfl rfl rfl rfl rfl (bin_eql_i (a := arg0) (b := (0 : Int)))) ?_
  refine Tops_step rfl (OpT_move rfl rfl rfl rfl) ?_
  rcases Bool.eq_false_or_eq_true (arg0 == (0 : Int)) with hg1 | hg1
  · replace h := br_t hg1 h
    refine Tops_yes rfl rfl (congrArg (fun b => some (Value.bool b)) hg1) (OpT_loadC rfl rfl rfl rfl tyF53 (i := 1) rfl rfl) ?_
    rintro _ rfl
    refine Tops_yes rfl rfl (congrArg (fun b => some (Value.bool b)) hg1) (OpT_bin rfl rfl rfl rfl rfl (bin_geq_u64 (a := arg1) (b := (4294967296 : UInt64)))) ?_
    rintro _ rfl
    refine Tops_step rfl (OpT_pickT rfl rfl rfl (congrArg (fun b => some (Value.bool b)) hg1) rfl) ?_
    refine Tops_nil ?_
    refine Tk_wkS (fr' := [(0, some (.pointer (some ⟨b_arg0, 0, none⟩))), (7, some (vB (decide (arg1 ≥ (4294967296 : UInt64)))))]) (own' := [some (cellsR b_arg0 30 [vI arg0]), some (cellsR b_arg1 53 [vU64 arg1])]) (shr' := []) [0, 7] [0, 1] [] rfl rfl rfl rfl ?_
    rcases Bool.eq_false_or_eq_true (decide (arg1 ≥ (4294967296 : UInt64))) with hg2 | hg2
    · replace h := br_t hg2 h
      refine Tk_condT (congrArg (fun b => some (Value.bool b)) hg2) ?_
      refine Tk_region ?_
      refine Tops_step rfl (OpT_storeC (cs' := [vI (2 : Int)]) rfl rfl rfl rfl tyF30 (i := 0) rfl rfl rfl (one_of rfl) rfl) ?_
      refine Tops_nil ?_
      obtain rfl := Option.some.inj h
      exact Tk_endV rfl rfl (resA (vs := []) rfl trivial) [0, 1] [] rfl rfl rfl ⟨rfl, rfl, rfl⟩
    · replace h := br_f hg2 h
      refine Tk_condF (congrArg (fun b => some (Value.bool b)) hg2) ?_
      refine Tk_skip ?_
      obtain rfl := Option.some.inj h
      exact Tk_endV rfl rfl (resA (vs := []) rfl trivial) [0, 1] [] rfl rfl rfl ⟨rfl, rfl, rfl⟩
  · replace h := br_f hg1 h
    refine Tops_no rfl rfl (congrArg (fun b => some (Value.bool b)) hg1) rfl rfl ?_
    refine Tops_no rfl rfl (congrArg (fun b => some (Value.bool b)) hg1) rfl rfl ?_
    refine Tops_step rfl (OpT_pickF rfl rfl rfl (congrArg (fun b => some (Value.bool b)) hg1) rfl) ?_
    refine Tops_nil ?_
    refine Tk_wkS (fr' := [(0, some (.pointer (some ⟨b_arg0, 0, none⟩))), (7, some (vB false))]) (own' := [some (cellsR b_arg0 30 [vI arg0]), some (cellsR b_arg1 53 [vU64 arg1])]) (shr' := []) [0, 7] [0, 1] [] rfl rfl rfl rfl ?_
    refine Tk_condF rfl ?_
    refine Tk_skip ?_
    obtain rfl := Option.some.inj h
    exact Tk_endV rfl rfl (resA (vs := []) rfl trivial) [0, 1] [] rfl rfl rfl ⟨rfl, rfl, rfl⟩

theorem w_seg_Check_1 {arg0 : Int} {arg1 : UInt64} {b_arg0 : Nat} {b_arg1 : Nat} {r : Int} (h : seg_Check_1 arg0 arg1 = some r) :
    Ctr Try.prog 52 #[.pointer (some ⟨b_arg0, 0, none⟩), .pointer (some ⟨b_arg1, 0, none⟩)] [(cellsR b_arg0 30 [vI arg0]), (cellsR b_arg1 53 [vU64 arg1])] []
      (fun rv own shr => rv = .tuple #[] ∧ own = [(cellsR b_arg0 30 [vI r]), (cellsR b_arg1 53 [vU64 arg1])] ∧ shr = []) := (wb_seg_Check_1 h).ctr

set_option maxRecDepth 100000 in
set_option maxHeartbeats 4000000 in
theorem w_seg_Check {l : List Seg} {vl1 : Value} {r : Int} (h : seg_Check l = some r) :
    Ctr Try.prog 51 #[vl1] [] [Fact.sl SegS vl1 l]
      (fun rv own shr => rv = vI r ∧ own = [] ∧ shr = []) := by
  unfold seg_Check at h
  refine Ctr.mkD (args := [vl1]) Try.func51 rfl rfl (fun R0 w0 B => ?_)
  refine Tk_seq ?_
  refine Tk_region ?_
  refine Tops_ex rfl (OpT_alloc rfl rfl rfl tyZ30) fun b1 => ?_
  refine Tops_nil ?_
  refine Tk_seq ?_
  refine Tk_seq ?_
  refine Tk_region ?_
  refine Tops_step rfl (OpT_move rfl rfl rfl rfl) ?_
  refine Tops_step rfl (OpT_lenS rfl rfl rfl rfl Try.underlying54 (i := 0) rfl) ?_
  refine Tops_step rfl (OpT_bin rfl rfl rfl rfl rfl (bin_gtr_i (a := len l) (b := (64 : Int)))) ?_
  refine Tops_nil ?_
  refine Tk_wkS (fr' := [(0, some (vl1)), (2, some (.pointer (some ⟨b1, 0, none⟩))), (8, some (vB (decide ((len l) > (64 : Int)))))]) (own' := [some (cellsR b1 30 [vI (0 : Int)])]) (shr' := [Fact.sl SegS vl1 l]) [0, 2, 8] [0] [0] rfl rfl rfl rfl ?_
  rcases Bool.eq_false_or_eq_true (decide ((len l) > (64 : Int))) with hg1 | hg1
  · replace h := br_t hg1 h
    refine Tk_condT (congrArg (fun b => some (Value.bool b)) hg1) ?_
    refine Tk_seq ?_
    refine Tk_region ?_
    refine Tops_step rfl (OpT_storeC (cs' := [vI (3 : Int)]) rfl rfl rfl rfl tyF30 (i := 0) rfl rfl rfl (one_of rfl) rfl) ?_
    refine Tops_nil ?_
    refine Tk_wkS (fr' := [(2, some (.pointer (some ⟨b1, 0, none⟩)))]) (own' := [some (cellsR b1 30 [vI (3 : Int)])]) (shr' := []) [2] [0] [] rfl rfl rfl rfl ?_
    obtain rfl := Option.some.inj h
    refine Tk_retE rfl rfl ?_
    exact Tleave_mk (resA (vs := [vI (3 : Int)]) rfl ⟨⟨_, 0, _, _, _, rfl, rfl, .inr ⟨tyF30, rfl⟩⟩, trivial⟩) [] [] rfl rfl rfl ⟨rfl, rfl, rfl⟩
  · replace h := br_f hg1 h
    refine Tk_condF (congrArg (fun b => some (Value.bool b)) hg1) ?_
    refine Tk_skip ?_
    refine Tk_seq ?_
    refine Tk_region ?_
    refine Tops_ex rfl (OpT_alloc rfl rfl rfl tyZ53) fun b2 => ?_
    refine Tops_step rfl (OpT_storeC (cs' := [vU64 (0 : UInt64)]) rfl rfl rfl rfl tyF53 (i := 1) rfl rfl rfl (one_of rfl) rfl) ?_
    refine Tops_nil ?_
    refine Tk_wkS (fr' := [(0, some (vl1)), (2, some (.pointer (some ⟨b1, 0, none⟩))), (3, some (.pointer (some ⟨b2, 0, none⟩)))]) (own' := [some (cellsR b1 30 [vI (0 : Int)]), some (cellsR b2 53 [vU64 (0 : UInt64)])]) (shr' := [Fact.sl SegS vl1 l]) [0, 2, 3] [0, 1] [0] rfl rfl rfl rfl ?_
    refine Tk_seq ?_
    refine Tk_region ?_
    refine Tops_step rfl (OpT_makeFunc (vs := [.pointer (some ⟨b1, 0, none⟩), .pointer (some ⟨b2, 0, none⟩)]) rfl rfl rfl rfl) ?_
    refine Tops_defer (f := 52) (cp := [.pointer (some ⟨b1, 0, none⟩), .pointer (some ⟨b2, 0, none⟩)]) rfl rfl rfl rfl ?_
    refine Tops_nil ?_
    refine Tk_wkS (fr' := [(0, some (vl1)), (2, some (.pointer (some ⟨b1, 0, none⟩))), (3, some (.pointer (some ⟨b2, 0, none⟩)))]) (own' := [some (cellsR b1 30 [vI (0 : Int)]), some (cellsR b2 53 [vU64 (0 : UInt64)])]) (shr' := [Fact.sl SegS vl1 l]) [0, 2, 3] [0, 1] [0] rfl rfl rfl rfl ?_
    refine Tk_seq ?_
    refine Tk_seq ?_
    refine Tk_region ?_
    refine Tops_step rfl (OpT_move rfl rfl rfl rfl) ?_
    refine Tops_step rfl (OpT_lenS rfl rfl rfl rfl Try.underlying54 (i := 0) rfl) ?_
    refine Tops_step rfl (OpT_move rfl rfl rfl rfl) ?_
    refine Tops_nil ?_
    refine Tk_block ?_
    refine Tk_loopS (σ := Int × UInt64 × Int) [0, 2, 3, 10, 11, 12] [0, 1] [0] (fun s => ⟨[(0, some (vl1)), (2, some (.pointer (some ⟨b1, 0, none⟩))), (3, some (.pointer (some ⟨b2, 0, none⟩))), (10, some (vl1)), (11, some (vI (len l))), (12, some (vI s.2.2))], [some (cellsR b1 30 [vI s.1]), some (cellsR b2 53 [vU64 s.2.1])], [Fact.sl SegS vl1 l]⟩) (fun nf s => seg_CheckL1 l nf s.1 s.2.1 s.2.2 = some r) fuel ((0 : Int), (0 : UInt64), (0 : Int)) h rfl rfl rfl rfl rfl (fun s h => by cases h) ?_
    rintro nf ⟨m1, m2, x1⟩ h
    replace h : seg_CheckL1B l (seg_CheckL1 l nf) m1 m2 x1 = some r := h
    unfold seg_CheckL1B at h
    refine Tk_seq ?_
    refine Tk_region ?_
    refine Tops_step rfl (OpT_bin rfl rfl rfl rfl rfl (bin_lss_i (a := x1) (b := len l))) ?_
    refine Tops_nil ?_
    refine Tk_seq ?_
    rcases Bool.eq_false_or_eq_true (decide (x1 < (len l))) with hg2 | hg2
    · replace h := br_t hg2 h
      refine Tk_condT (congrArg (fun b => some (Value.bool b)) hg2) ?_
      refine Tk_skip ?_
      refine Tk_seq ?_
      refine Tk_block ?_
      refine Tk_seq ?_
      refine Tk_region ?_
      refine Tops_step rfl (OpT_move rfl rfl rfl rfl) ?_
      obtain ⟨s1, hx1, h⟩ := ob_e h
      refine Tops_ex rfl (OpT_idxS rfl rfl rfl rfl rfl slF54 (i := 0) rfl hx1) fun p1 => ?_
      refine Tops_step rfl (OpT_loadPA (vs := [vU64 s1.At, vU32 s1.Len, vB s1.Write]) rfl rfl rfl rfl tyF73 (i := 1) rfl rfl) ?_
      refine Tops_ex rfl (OpT_alloc rfl rfl rfl tyZ73) fun b3 => ?_
      refine Tops_step rfl (OpT_assign rfl rfl rfl rfl) ?_
      refine Tops_step rfl (OpT_storeC (cs' := [vU64 s1.At, vU32 s1.Len, vB s1.Write]) rfl rfl rfl rfl tyF73 (i := 2) rfl rfl rfl (one_of rfl) rfl) ?_
      refine Tops_nil ?_
      refine Tk_wkS (fr' := [(0, some (vl1)), (2, some (.pointer (some ⟨b1, 0, none⟩))), (3, some (.pointer (some ⟨b2, 0, none⟩))), (10, some (vl1)), (11, some (vI (len l))), (12, some (vI x1)), (5, some (.pointer (some ⟨b3, 0, none⟩))), (4, some (vI x1))]) (own' := [some (cellsR b1 30 [vI m1]), some (cellsR b2 53 [vU64 m2]), some (cellsR b3 73 [vU64 s1.At, vU32 s1.Len, vB s1.Write])]) (shr' := [Fact.sl SegS vl1 l]) [0, 2, 3, 10, 11, 12, 5, 4] [0, 1, 2] [0] rfl rfl rfl rfl ?_
      refine Tk_seq ?_
      refine Tk_seq ?_
      refine Tk_region ?_
      refine Tops_step rfl (OpT_fieldC rfl rfl rfl rfl fldF73x1) ?_
      refine Tops_step rfl (OpT_loadC rfl rfl rfl rfl tyF71 (i := 2) rfl rfl) ?_
      refine Tops_step rfl (OpT_bin rfl rfl rfl rfl rfl (bin_lss_u32 (a := s1.Len) (b := (1 : UInt32)))) ?_
      refine Tops_step rfl (OpT_move rfl rfl rfl rfl) ?_
      rcases Bool.eq_false_or_eq_true (decide (s1.Len < (1 : UInt32))) with hg3 | hg3
      · replace h := br_t hg3 h
        refine Tops_no rfl rfl (congrArg (fun b => some (Value.bool b)) hg3) rfl rfl ?_
        refine Tops_no rfl rfl (congrArg (fun b => some (Value.bool b)) hg3) rfl rfl ?_
        refine Tops_no rfl rfl (congrArg (fun b => some (Value.bool b)) hg3) rfl rfl ?_
        refine Tops_no rfl rfl (congrArg (fun b => some (Value.bool b)) hg3) rfl rfl ?_
        refine Tops_no rfl rfl (congrArg (fun b => some (Value.bool b)) hg3) rfl rfl ?_
        refine Tops_no rfl rfl (congrArg (fun b => some (Value.bool b)) hg3) rfl rfl ?_
        refine Tops_no rfl rfl (congrArg (fun b => some (Value.bool b)) hg3) rfl rfl ?_
        refine Tops_no rfl rfl (congrArg (fun b => some (Value.bool b)) hg3) rfl rfl ?_
        refine Tops_step rfl (OpT_pickT rfl rfl rfl (congrArg (fun b => some (Value.bool b)) hg3) rfl) ?_
        refine Tops_step rfl (OpT_move rfl rfl rfl rfl) ?_
        refine Tops_no rfl rfl rfl rfl rfl ?_
        refine Tops_no rfl rfl rfl rfl rfl ?_
        refine Tops_no rfl rfl rfl rfl rfl ?_
        refine Tops_noU rfl rfl rfl rfl rfl ?_
        refine Tops_noU rfl rfl rfl rfl rfl ?_
        refine Tops_noU rfl rfl rfl rfl rfl ?_
        refine Tops_noU rfl rfl rfl rfl rfl ?_
        refine Tops_noU rfl rfl rfl rfl rfl ?_
        refine Tops_noU rfl rfl rfl rfl rfl ?_
        refine Tops_no rfl rfl rfl rfl rfl ?_
        refine Tops_no rfl rfl rfl rfl rfl ?_
        refine Tops_noU rfl rfl rfl rfl rfl ?_
        refine Tops_noU rfl rfl rfl rfl rfl ?_
        refine Tops_noU rfl rfl rfl rfl rfl ?_
        refine Tops_no rfl rfl rfl rfl rfl ?_
        refine Tops_step rfl (OpT_pickT rfl rfl rfl rfl rfl) ?_
        refine Tops_nil ?_
        refine Tk_wkS (fr' := [(0, some (vl1)), (2, some (.pointer (some ⟨b1, 0, none⟩))), (3, some (.pointer (some ⟨b2, 0, none⟩))), (10, some (vl1)), (11, some (vI (len l))), (12, some (vI x1)), (5, some (.pointer (some ⟨b3, 0, none⟩))), (46, some (vB true))]) (own' := [some (cellsR b1 30 [vI m1]), some (cellsR b2 53 [vU64 m2]), some (cellsR b3 73 [vU64 s1.At, vU32 s1.Len, vB s1.Write])]) (shr' := [Fact.sl SegS vl1 l]) [0, 2, 3, 10, 11, 12, 5, 46] [0, 1, 2] [0] rfl rfl rfl rfl ?_
        refine Tk_condT rfl ?_
        refine Tk_seq ?_
        refine Tk_region ?_
        refine Tops_step rfl (OpT_storeC (cs' := [vI (2 : Int)]) rfl rfl rfl rfl tyF30 (i := 0) rfl rfl rfl (one_of rfl) rfl) ?_
        refine Tops_nil ?_
        refine Tk_wkS (fr' := [(2, some (.pointer (some ⟨b1, 0, none⟩)))]) (own' := [some (cellsR b1 30 [vI (2 : Int)]), some (cellsR b2 53 [vU64 m2])]) (shr' := []) [2] [0, 1] [] rfl rfl rfl rfl ?_
        obtain ⟨check1, hx2, h⟩ := ob_e h
        obtain rfl := Option.some.inj h
        refine Tk_retD rfl (f := 52) (cp := [.pointer (some ⟨b1, 0, none⟩), .pointer (some ⟨b2, 0, none⟩)]) rfl callee52 (wb_seg_Check_1 hx2).ctrD [0, 1] [] rfl rfl rfl ?_
        rintro _ _ _ ⟨rfl, rfl, rfl⟩
        exact Tleave_mk (resA (vs := [vI check1]) rfl ⟨⟨_, 2, _, _, _, rfl, rfl, .inr ⟨tyF30, rfl⟩⟩, trivial⟩) [] [] rfl rfl rfl ⟨rfl, rfl, rfl⟩
      · replace h := br_f hg3 h
        refine Tops_yes rfl rfl (congrArg (fun b => some (Value.bool b)) hg3) (OpT_fieldC rfl rfl rfl rfl fldF73x1) ?_
        rintro _ rfl
        refine Tops_yes rfl rfl (congrArg (fun b => some (Value.bool b)) hg3) (OpT_loadC rfl rfl rfl rfl tyF71 (i := 2) rfl rfl) ?_
        rintro _ rfl
        refine Tops_yes rfl rfl (congrArg (fun b => some (Value.bool b)) hg3) (OpT_cnv rfl rfl rfl rfl (cnv_u32_u64 (n := s1.Len) Try.underlying71 Try.underlying53)) ?_
        rintro _ rfl
        refine Tops_yes rfl rfl (congrArg (fun b => some (Value.bool b)) hg3) (OpT_bin rfl rfl rfl rfl rfl (bin_sub_u64 (a := s1.Len.toUInt64) (b := (1 : UInt64)))) ?_
        rintro _ rfl
        refine Tops_yes rfl rfl (congrArg (fun b => some (Value.bool b)) hg3) (OpT_fieldC rfl rfl rfl rfl fldF73x0) ?_
        rintro _ rfl
        refine Tops_yes rfl rfl (congrArg (fun b => some (Value.bool b)) hg3) (OpT_loadC rfl rfl rfl rfl tyF53 (i := 2) rfl rfl) ?_
        rintro _ rfl
        refine Tops_yes rfl rfl (congrArg (fun b => some (Value.bool b)) hg3) (OpT_bin rfl rfl rfl rfl rfl (bin_sub_u64 (a := (18446744073709551615 : UInt64)) (b := s1.At))) ?_
        rintro _ rfl
        refine Tops_yes rfl rfl (congrArg (fun b => some (Value.bool b)) hg3) (OpT_bin rfl rfl rfl rfl rfl (bin_gtr_u64 (a := s1.Len.toUInt64 - (1 : UInt64)) (b := (18446744073709551615 : UInt64) - s1.At))) ?_
        rintro _ rfl
        refine Tops_step rfl (OpT_pickF rfl rfl rfl (congrArg (fun b => some (Value.bool b)) hg3) rfl) ?_
        refine Tops_step rfl (OpT_move rfl rfl rfl rfl) ?_
        rcases Bool.eq_false_or_eq_true (decide ((s1.Len.toUInt64 - (1 : UInt64)) > ((18446744073709551615 : UInt64) - s1.At))) with hg4 | hg4
        · replace h := br_t hg4 h
          refine Tops_no rfl rfl (congrArg (fun b => some (Value.bool b)) hg4) rfl rfl ?_
          refine Tops_no rfl rfl (congrArg (fun b => some (Value.bool b)) hg4) rfl rfl ?_
          refine Tops_no rfl rfl (congrArg (fun b => some (Value.bool b)) hg4) rfl rfl ?_
          refine Tops_noU rfl rfl rfl rfl rfl ?_
          refine Tops_noU rfl rfl rfl rfl rfl ?_
          refine Tops_noU rfl rfl rfl rfl rfl ?_
          refine Tops_noU rfl rfl rfl rfl rfl ?_
          refine Tops_noU rfl rfl rfl rfl rfl ?_
          refine Tops_noU rfl rfl rfl rfl rfl ?_
          refine Tops_no rfl rfl (congrArg (fun b => some (Value.bool b)) hg4) rfl rfl ?_
          refine Tops_no rfl rfl (congrArg (fun b => some (Value.bool b)) hg4) rfl rfl ?_
          refine Tops_noU rfl rfl rfl rfl rfl ?_
          refine Tops_noU rfl rfl rfl rfl rfl ?_
          refine Tops_noU rfl rfl rfl rfl rfl ?_
          refine Tops_no rfl rfl (congrArg (fun b => some (Value.bool b)) hg4) rfl rfl ?_
          refine Tops_step rfl (OpT_pickT rfl rfl rfl (congrArg (fun b => some (Value.bool b)) hg4) rfl) ?_
          refine Tops_nil ?_
          refine Tk_wkS (fr' := [(0, some (vl1)), (2, some (.pointer (some ⟨b1, 0, none⟩))), (3, some (.pointer (some ⟨b2, 0, none⟩))), (10, some (vl1)), (11, some (vI (len l))), (12, some (vI x1)), (5, some (.pointer (some ⟨b3, 0, none⟩))), (46, some (vB true))]) (own' := [some (cellsR b1 30 [vI m1]), some (cellsR b2 53 [vU64 m2]), some (cellsR b3 73 [vU64 s1.At, vU32 s1.Len, vB s1.Write])]) (shr' := [Fact.sl SegS vl1 l]) [0, 2, 3, 10, 11, 12, 5, 46] [0, 1, 2] [0] rfl rfl rfl rfl ?_
          refine Tk_condT rfl ?_
          refine Tk_seq ?_
          refine Tk_region ?_
          refine Tops_step rfl (OpT_storeC (cs' := [vI (2 : Int)]) rfl rfl rfl rfl tyF30 (i := 0) rfl rfl rfl (one_of rfl) rfl) ?_
          refine Tops_nil ?_
          refine Tk_wkS (fr' := [(2, some (.pointer (some ⟨b1, 0, none⟩)))]) (own' := [some (cellsR b1 30 [vI (2 : Int)]), some (cellsR b2 53 [vU64 m2])]) (shr' := []) [2] [0, 1] [] rfl rfl rfl rfl ?_
          obtain ⟨check2, hx3, h⟩ := ob_e h
          obtain rfl := Option.some.inj h
          refine Tk_retD rfl (f := 52) (cp := [.pointer (some ⟨b1, 0, none⟩), .pointer (some ⟨b2, 0, none⟩)]) rfl callee52 (wb_seg_Check_1 hx3).ctrD [0, 1] [] rfl rfl rfl ?_
          rintro _ _ _ ⟨rfl, rfl, rfl⟩
          exact Tleave_mk (resA (vs := [vI check2]) rfl ⟨⟨_, 2, _, _, _, rfl, rfl, .inr ⟨tyF30, rfl⟩⟩, trivial⟩) [] [] rfl rfl rfl ⟨rfl, rfl, rfl⟩
        · replace h := br_f hg4 h
          refine Tops_yes rfl rfl (congrArg (fun b => some (Value.bool b)) hg4) (OpT_move rfl rfl rfl rfl) ?_
          rintro _ rfl
          refine Tops_yes rfl rfl (congrArg (fun b => some (Value.bool b)) hg4) (OpT_bin rfl rfl rfl rfl rfl (bin_gtr_i (a := x1) (b := (0 : Int)))) ?_
          rintro _ rfl
          refine Tops_yes rfl rfl (congrArg (fun b => some (Value.bool b)) hg4) (OpT_move rfl rfl rfl rfl) ?_
          rintro _ rfl
          rcases Bool.eq_false_or_eq_true (decide (x1 > (0 : Int))) with hg5 | hg5
          · replace h := br_t hg5 h
            refine Tops_yes rfl rfl (congrArg (fun b => some (Value.bool b)) hg5) (OpT_move rfl rfl rfl rfl) ?_
            rintro _ rfl
            refine Tops_yes rfl rfl (congrArg (fun b => some (Value.bool b)) hg5) (OpT_move rfl rfl rfl rfl) ?_
            rintro _ rfl
            refine Tops_yes rfl rfl (congrArg (fun b => some (Value.bool b)) hg5) (OpT_bin rfl rfl rfl rfl rfl (bin_sub_i (a := x1) (b := (1 : Int)))) ?_
            rintro _ rfl
            obtain ⟨s2, hx4, h⟩ := ob_e h
            refine Tops_yes rfl rfl (congrArg (fun b => some (Value.bool b)) hg5) (OpT_idxS rfl rfl rfl rfl rfl slF54 (i := 0) rfl hx4) ?_
            rintro _ ⟨p2, rfl⟩
            refine Tops_yes rfl rfl (congrArg (fun b => some (Value.bool b)) hg5) (OpT_fieldP (S' := bS) (y := s2.Write) rfl rfl rfl rfl fldF73x2 (i := 1) rfl (by intro h cs hr; subst hr; rfl)) ?_
            rintro _ ⟨p3, rfl⟩
            refine Tops_yes rfl rfl (congrArg (fun b => some (Value.bool b)) hg5) (OpT_loadP rfl rfl rfl rfl tyF4 (i := 2) rfl rfl) ?_
            rintro _ rfl
            refine Tops_yes rfl rfl (congrArg (fun b => some (Value.bool b)) hg4) (OpT_pickT rfl rfl rfl (congrArg (fun b => some (Value.bool b)) hg5) rfl) ?_
            rintro _ rfl
            refine Tops_yes rfl rfl (congrArg (fun b => some (Value.bool b)) hg4) (OpT_move rfl rfl rfl rfl) ?_
            rintro _ rfl
            rcases Bool.eq_false_or_eq_true (s2.Write) with hg6 | hg6
            · replace h := br_t hg6 h
              refine Tops_yes rfl rfl (congrArg (fun b => some (Value.bool b)) hg6) (OpT_fieldC rfl rfl rfl rfl fldF73x2) ?_
              rintro _ rfl
              refine Tops_yes rfl rfl (congrArg (fun b => some (Value.bool b)) hg6) (OpT_loadC rfl rfl rfl rfl tyF4 (i := 2) rfl rfl) ?_
              rintro _ rfl
              refine Tops_yes rfl rfl (congrArg (fun b => some (Value.bool b)) hg6) (OpT_not rfl rfl rfl rfl) ?_
              rintro _ rfl
              refine Tops_yes rfl rfl (congrArg (fun b => some (Value.bool b)) hg4) (OpT_pickT rfl rfl rfl (congrArg (fun b => some (Value.bool b)) hg6) rfl) ?_
              rintro _ rfl
              refine Tops_step rfl (OpT_pickF rfl rfl rfl (congrArg (fun b => some (Value.bool b)) hg4) rfl) ?_
              refine Tops_nil ?_
              refine Tk_wkS (fr' := [(0, some (vl1)), (2, some (.pointer (some ⟨b1, 0, none⟩))), (3, some (.pointer (some ⟨b2, 0, none⟩))), (10, some (vl1)), (11, some (vI (len l))), (12, some (vI x1)), (5, some (.pointer (some ⟨b3, 0, none⟩))), (46, some (vB (!s1.Write)))]) (own' := [some (cellsR b1 30 [vI m1]), some (cellsR b2 53 [vU64 m2]), some (cellsR b3 73 [vU64 s1.At, vU32 s1.Len, vB s1.Write])]) (shr' := [Fact.sl SegS vl1 l]) [0, 2, 3, 10, 11, 12, 5, 46] [0, 1, 2] [0] rfl rfl rfl rfl ?_
              rcases Bool.eq_false_or_eq_true ((!s1.Write)) with hg7 | hg7
              · replace h := br_t hg7 h
                refine Tk_condT (congrArg (fun b => some (Value.bool b)) hg7) ?_
                refine Tk_seq ?_
                refine Tk_region ?_
                refine Tops_step rfl (OpT_storeC (cs' := [vI (2 : Int)]) rfl rfl rfl rfl tyF30 (i := 0) rfl rfl rfl (one_of rfl) rfl) ?_
                refine Tops_nil ?_
                refine Tk_wkS (fr' := [(2, some (.pointer (some ⟨b1, 0, none⟩)))]) (own' := [some (cellsR b1 30 [vI (2 : Int)]), some (cellsR b2 53 [vU64 m2])]) (shr' := []) [2] [0, 1] [] rfl rfl rfl rfl ?_
                obtain ⟨check3, hx5, h⟩ := ob_e h
                obtain rfl := Option.some.inj h
                refine Tk_retD rfl (f := 52) (cp := [.pointer (some ⟨b1, 0, none⟩), .pointer (some ⟨b2, 0, none⟩)]) rfl callee52 (wb_seg_Check_1 hx5).ctrD [0, 1] [] rfl rfl rfl ?_
                rintro _ _ _ ⟨rfl, rfl, rfl⟩
                exact Tleave_mk (resA (vs := [vI check3]) rfl ⟨⟨_, 2, _, _, _, rfl, rfl, .inr ⟨tyF30, rfl⟩⟩, trivial⟩) [] [] rfl rfl rfl ⟨rfl, rfl, rfl⟩
              · replace h := br_f hg7 h
                refine Tk_condF (congrArg (fun b => some (Value.bool b)) hg7) ?_
                refine Tk_skip ?_
                refine Tk_region ?_
                refine Tops_step rfl (OpT_loadC rfl rfl rfl rfl tyF53 (i := 1) rfl rfl) ?_
                refine Tops_step rfl (OpT_fieldC rfl rfl rfl rfl fldF73x1) ?_
                refine Tops_step rfl (OpT_loadC rfl rfl rfl rfl tyF71 (i := 2) rfl rfl) ?_
                refine Tops_step rfl (OpT_cnv rfl rfl rfl rfl (cnv_u32_u64 (n := s1.Len) Try.underlying71 Try.underlying53)) ?_
                refine Tops_step rfl (OpT_bin rfl rfl rfl rfl rfl (bin_add_u64 (a := m2) (b := s1.Len.toUInt64))) ?_
                refine Tops_step rfl (OpT_storeC (cs' := [vU64 (m2 + s1.Len.toUInt64)]) rfl rfl rfl rfl tyF53 (i := 1) rfl rfl rfl (one_of rfl) rfl) ?_
                refine Tops_nil ?_
                refine Tk_wkS (fr' := [(0, some (vl1)), (2, some (.pointer (some ⟨b1, 0, none⟩))), (3, some (.pointer (some ⟨b2, 0, none⟩))), (10, some (vl1)), (11, some (vI (len l))), (12, some (vI x1))]) (own' := [some (cellsR b1 30 [vI m1]), some (cellsR b2 53 [vU64 (m2 + s1.Len.toUInt64)])]) (shr' := [Fact.sl SegS vl1 l]) [0, 2, 3, 10, 11, 12] [0, 1] [0] rfl rfl rfl rfl ?_
                refine Tk_blk ?_
                refine Tk_region ?_
                refine Tops_step rfl (OpT_bin rfl rfl rfl rfl rfl (bin_add_i (a := x1) (b := (1 : Int)))) ?_
                refine Tops_step rfl (OpT_move rfl rfl rfl rfl) ?_
                refine Tops_nil ?_
                refine Tk_wkS (fr' := [(0, some (vl1)), (2, some (.pointer (some ⟨b1, 0, none⟩))), (3, some (.pointer (some ⟨b2, 0, none⟩))), (10, some (vl1)), (11, some (vI (len l))), (12, some (vI (wi (x1 + (1 : Int)))))]) (own' := [some (cellsR b1 30 [vI m1]), some (cellsR b2 53 [vU64 (m2 + s1.Len.toUInt64)])]) (shr' := [Fact.sl SegS vl1 l]) [0, 2, 3, 10, 11, 12] [0, 1] [0] rfl rfl rfl rfl ?_
                exact Tk_backS (m1, m2 + s1.Len.toUInt64, wi (x1 + (1 : Int))) h [0, 2, 3, 10, 11, 12] [0, 1] [0] rfl rfl rfl rfl rfl
            · replace h := br_f hg6 h
              refine Tops_no rfl rfl (congrArg (fun b => some (Value.bool b)) hg6) rfl rfl ?_
              refine Tops_no rfl rfl (congrArg (fun b => some (Value.bool b)) hg6) rfl rfl ?_
              refine Tops_no rfl rfl (congrArg (fun b => some (Value.bool b)) hg6) rfl rfl ?_
              refine Tops_yes rfl rfl (congrArg (fun b => some (Value.bool b)) hg4) (OpT_pickF rfl rfl rfl (congrArg (fun b => some (Value.bool b)) hg6) rfl) ?_
              rintro _ rfl
              refine Tops_step rfl (OpT_pickF rfl rfl rfl (congrArg (fun b => some (Value.bool b)) hg4) rfl) ?_
              refine Tops_nil ?_
              refine Tk_wkS (fr' := [(0, some (vl1)), (2, some (.pointer (some ⟨b1, 0, none⟩))), (3, some (.pointer (some ⟨b2, 0, none⟩))), (10, some (vl1)), (11, some (vI (len l))), (12, some (vI x1)), (5, some (.pointer (some ⟨b3, 0, none⟩))), (46, some (vB false))]) (own' := [some (cellsR b1 30 [vI m1]), some (cellsR b2 53 [vU64 m2]), some (cellsR b3 73 [vU64 s1.At, vU32 s1.Len, vB s1.Write])]) (shr' := [Fact.sl SegS vl1 l]) [0, 2, 3, 10, 11, 12, 5, 46] [0, 1, 2] [0] rfl rfl rfl rfl ?_
              refine Tk_condF rfl ?_
              refine Tk_skip ?_
              refine Tk_region ?_
              refine Tops_step rfl (OpT_loadC rfl rfl rfl rfl tyF53 (i := 1) rfl rfl) ?_
              refine Tops_step rfl (OpT_fieldC rfl rfl rfl rfl fldF73x1) ?_
              refine Tops_step rfl (OpT_loadC rfl rfl rfl rfl tyF71 (i := 2) rfl rfl) ?_
              refine Tops_step rfl (OpT_cnv rfl rfl rfl rfl (cnv_u32_u64 (n := s1.Len) Try.underlying71 Try.underlying53)) ?_
              refine Tops_step rfl (OpT_bin rfl rfl rfl rfl rfl (bin_add_u64 (a := m2) (b := s1.Len.toUInt64))) ?_
              refine Tops_step rfl (OpT_storeC (cs' := [vU64 (m2 + s1.Len.toUInt64)]) rfl rfl rfl rfl tyF53 (i := 1) rfl rfl rfl (one_of rfl) rfl) ?_
              refine Tops_nil ?_
              refine Tk_wkS (fr' := [(0, some (vl1)), (2, some (.pointer (some ⟨b1, 0, none⟩))), (3, some (.pointer (some ⟨b2, 0, none⟩))), (10, some (vl1)), (11, some (vI (len l))), (12, some (vI x1))]) (own' := [some (cellsR b1 30 [vI m1]), some (cellsR b2 53 [vU64 (m2 + s1.Len.toUInt64)])]) (shr' := [Fact.sl SegS vl1 l]) [0, 2, 3, 10, 11, 12] [0, 1] [0] rfl rfl rfl rfl ?_
              refine Tk_blk ?_
              refine Tk_region ?_
              refine Tops_step rfl (OpT_bin rfl rfl rfl rfl rfl (bin_add_i (a := x1) (b := (1 : Int)))) ?_
              refine Tops_step rfl (OpT_move rfl rfl rfl rfl) ?_
              refine Tops_nil ?_
              refine Tk_wkS (fr' := [(0, some (vl1)), (2, some (.pointer (some ⟨b1, 0, none⟩))), (3, some (.pointer (some ⟨b2, 0, none⟩))), (10, some (vl1)), (11, some (vI (len l))), (12, some (vI (wi (x1 + (1 : Int)))))]) (own' := [some (cellsR b1 30 [vI m1]), some (cellsR b2 53 [vU64 (m2 + s1.Len.toUInt64)])]) (shr' := [Fact.sl SegS vl1 l]) [0, 2, 3, 10, 11, 12] [0, 1] [0] rfl rfl rfl rfl ?_
              exact Tk_backS (m1, m2 + s1.Len.toUInt64, wi (x1 + (1 : Int))) h [0, 2, 3, 10, 11, 12] [0, 1] [0] rfl rfl rfl rfl rfl
          · replace h := br_f hg5 h
            refine Tops_no rfl rfl (congrArg (fun b => some (Value.bool b)) hg5) rfl rfl ?_
            refine Tops_no rfl rfl (congrArg (fun b => some (Value.bool b)) hg5) rfl rfl ?_
            refine Tops_no rfl rfl (congrArg (fun b => some (Value.bool b)) hg5) rfl rfl ?_
            refine Tops_no rfl rfl (congrArg (fun b => some (Value.bool b)) hg5) rfl rfl ?_
            refine Tops_no rfl rfl (congrArg (fun b => some (Value.bool b)) hg5) rfl rfl ?_
            refine Tops_no rfl rfl (congrArg (fun b => some (Value.bool b)) hg5) rfl rfl ?_
            refine Tops_yes rfl rfl (congrArg (fun b => some (Value.bool b)) hg4) (OpT_pickF rfl rfl rfl (congrArg (fun b => some (Value.bool b)) hg5) rfl) ?_
            rintro _ rfl
            refine Tops_yes rfl rfl (congrArg (fun b => some (Value.bool b)) hg4) (OpT_move rfl rfl rfl rfl) ?_
            rintro _ rfl
            refine Tops_no rfl rfl rfl rfl rfl ?_
            refine Tops_no rfl rfl rfl rfl rfl ?_
            refine Tops_no rfl rfl rfl rfl rfl ?_
            refine Tops_yes rfl rfl (congrArg (fun b => some (Value.bool b)) hg4) (OpT_pickF rfl rfl rfl rfl rfl) ?_
            rintro _ rfl
            refine Tops_step rfl (OpT_pickF rfl rfl rfl (congrArg (fun b => some (Value.bool b)) hg4) rfl) ?_
            refine Tops_nil ?_
            refine Tk_wkS (fr' := [(0, some (vl1)), (2, some (.pointer (some ⟨b1, 0, none⟩))), (3, some (.pointer (some ⟨b2, 0, none⟩))), (10, some (vl1)), (11, some (vI (len l))), (12, some (vI x1)), (5, some (.pointer (some ⟨b3, 0, none⟩))), (46, some (vB false))]) (own' := [some (cellsR b1 30 [vI m1]), some (cellsR b2 53 [vU64 m2]), some (cellsR b3 73 [vU64 s1.At, vU32 s1.Len, vB s1.Write])]) (shr' := [Fact.sl SegS vl1 l]) [0, 2, 3, 10, 11, 12, 5, 46] [0, 1, 2] [0] rfl rfl rfl rfl ?_
            refine Tk_condF rfl ?_
            refine Tk_skip ?_
            refine Tk_region ?_
            refine Tops_step rfl (OpT_loadC rfl rfl rfl rfl tyF53 (i := 1) rfl rfl) ?_
            refine Tops_step rfl (OpT_fieldC rfl rfl rfl rfl fldF73x1) ?_
            refine Tops_step rfl (OpT_loadC rfl rfl rfl rfl tyF71 (i := 2) rfl rfl) ?_
            refine Tops_step rfl (OpT_cnv rfl rfl rfl rfl (cnv_u32_u64 (n := s1.Len) Try.underlying71 Try.underlying53)) ?_
            refine Tops_step rfl (OpT_bin rfl rfl rfl rfl rfl (bin_add_u64 (a := m2) (b := s1.Len.toUInt64))) ?_
            refine Tops_step rfl (OpT_storeC (cs' := [vU64 (m2 + s1.Len.toUInt64)]) rfl rfl rfl rfl tyF53 (i := 1) rfl rfl rfl (one_of rfl) rfl) ?_
            refine Tops_nil ?_
            refine Tk_wkS (fr' := [(0, some (vl1)), (2, some (.pointer (some ⟨b1, 0, none⟩))), (3, some (.pointer (some ⟨b2, 0, none⟩))), (10, some (vl1)), (11, some (vI (len l))), (12, some (vI x1))]) (own' := [some (cellsR b1 30 [vI m1]), some (cellsR b2 53 [vU64 (m2 + s1.Len.toUInt64)])]) (shr' := [Fact.sl SegS vl1 l]) [0, 2, 3, 10, 11, 12] [0, 1] [0] rfl rfl rfl rfl ?_
            refine Tk_blk ?_
            refine Tk_region ?_
            refine Tops_step rfl (OpT_bin rfl rfl rfl rfl rfl (bin_add_i (a := x1) (b := (1 : Int)))) ?_
            refine Tops_step rfl (OpT_move rfl rfl rfl rfl) ?_
            refine Tops_nil ?_
            refine Tk_wkS (fr' := [(0, some (vl1)), (2, some (.pointer (some ⟨b1, 0, none⟩))), (3, some (.pointer (some ⟨b2, 0, none⟩))), (10, some (vl1)), (11, some (vI (len l))), (12, some (vI (wi (x1 + (1 : Int)))))]) (own' := [some (cellsR b1 30 [vI m1]), some (cellsR b2 53 [vU64 (m2 + s1.Len.toUInt64)])]) (shr' := [Fact.sl SegS vl1 l]) [0, 2, 3, 10, 11, 12] [0, 1] [0] rfl rfl rfl rfl ?_
            exact Tk_backS (m1, m2 + s1.Len.toUInt64, wi (x1 + (1 : Int))) h [0, 2, 3, 10, 11, 12] [0, 1] [0] rfl rfl rfl rfl rfl
    · replace h := br_f hg2 h
      refine Tk_condF (congrArg (fun b => some (Value.bool b)) hg2) ?_
      refine Tk_exit _ rfl ?_
      refine Tk_seq ?_
      refine Tk_region ?_
      refine Tops_step rfl (OpT_storeC (cs' := [vI (0 : Int)]) rfl rfl rfl rfl tyF30 (i := 0) rfl rfl rfl (one_of rfl) rfl) ?_
      refine Tops_nil ?_
      refine Tk_wkS (fr' := [(2, some (.pointer (some ⟨b1, 0, none⟩)))]) (own' := [some (cellsR b1 30 [vI (0 : Int)]), some (cellsR b2 53 [vU64 m2])]) (shr' := []) [2] [0, 1] [] rfl rfl rfl rfl ?_
      obtain ⟨check4, hx6, h⟩ := ob_e h
      obtain rfl := Option.some.inj h
      refine Tk_retD rfl (f := 52) (cp := [.pointer (some ⟨b1, 0, none⟩), .pointer (some ⟨b2, 0, none⟩)]) rfl callee52 (wb_seg_Check_1 hx6).ctrD [0, 1] [] rfl rfl rfl ?_
      rintro _ _ _ ⟨rfl, rfl, rfl⟩
      exact Tleave_mk (resA (vs := [vI check4]) rfl ⟨⟨_, 2, _, _, _, rfl, rfl, .inr ⟨tyF30, rfl⟩⟩, trivial⟩) [] [] rfl rfl rfl ⟨rfl, rfl, rfl⟩

set_option maxRecDepth 100000 in
set_option maxHeartbeats 4000000 in
theorem w_seg_Total {l : List Seg} {vl1 : Value} {r : (UInt64 × UInt64)} (h : seg_Total l = some r) :
    Ctr Try.prog 50 #[vl1] [] [Fact.sl SegS vl1 l]
      (fun rv own shr => rv = .tuple #[vU64 r.1, vU64 r.2] ∧ own = [] ∧ shr = []) := by
  unfold seg_Total at h
  refine Ctr.mk (args := [vl1]) Try.func50 rfl rfl (fun R0 w0 B => ?_)
  refine Tk_seq ?_
  refine Tk_region ?_
  refine Tops_step rfl (OpT_assign rfl rfl rfl rfl) ?_
  refine Tops_step rfl (OpT_assign rfl rfl rfl rfl) ?_
  refine Tops_nil ?_
  refine Tk_seq ?_
  refine Tk_seq ?_
  refine Tk_region ?_
  refine Tops_step rfl (OpT_move rfl rfl rfl rfl) ?_
  obtain ⟨check1, hx1, h⟩ := ob_e h
  refine Tops_exP rfl (OpT_call (w_seg_Check hx1) [] [0] rfl rfl rfl rfl rfl callee51 rfl rfl rfl rfl) ?_
  rintro _ ⟨_, _, _, ⟨rfl, rfl, rfl⟩, rfl⟩
  refine Tops_step rfl (OpT_bin rfl rfl rfl rfl rfl (bin_neq_i (a := check1) (b := (0 : Int)))) ?_
  refine Tops_nil ?_
  refine Tk_wkS (fr' := [(0, some (vl1)), (2, some (vU64 (0 : UInt64))), (3, some (vU64 (0 : UInt64))), (8, some (vB (check1 != (0 : Int))))]) (own' := []) (shr' := [Fact.sl SegS vl1 l]) [0, 2, 3, 8] [] [0] rfl rfl rfl rfl ?_
  rcases Bool.eq_false_or_eq_true (check1 != (0 : Int)) with hg1 | hg1
  · replace h := br_t hg1 h
    refine Tk_condT (congrArg (fun b => some (Value.bool b)) hg1) ?_
    refine Tk_seq ?_
    refine Tk_region ?_
    refine Tops_step rfl (OpT_assign rfl rfl rfl rfl) ?_
    refine Tops_step rfl (OpT_assign rfl rfl rfl rfl) ?_
    refine Tops_nil ?_
    refine Tk_wkS (fr' := [(2, some (vU64 (0 : UInt64))), (3, some (vU64 (0 : UInt64)))]) (own' := []) (shr' := []) [2, 3] [] [] rfl rfl rfl rfl ?_
    obtain rfl := Option.some.inj h
    exact Tk_retV rfl rfl (resA (vs := [vU64 (0 : UInt64), vU64 (0 : UInt64)]) rfl ⟨rfl, rfl, trivial⟩) [] [] rfl rfl rfl ⟨rfl, rfl, rfl⟩
  · replace h := br_f hg1 h
    refine Tk_condF (congrArg (fun b => some (Value.bool b)) hg1) ?_
    refine Tk_skip ?_
    refine Tk_seq ?_
    refine Tk_seq ?_
    refine Tk_region ?_
    refine Tops_step rfl (OpT_move rfl rfl rfl rfl) ?_
    refine Tops_step rfl (OpT_lenS rfl rfl rfl rfl Try.underlying54 (i := 0) rfl) ?_
    refine Tops_step rfl (OpT_move rfl rfl rfl rfl) ?_
    refine Tops_nil ?_
    refine Tk_wkS (fr' := [(2, some (vU64 (0 : UInt64))), (3, some (vU64 (0 : UInt64))), (9, some (vl1)), (10, some (vI (len l))), (11, some (vI (0 : Int)))]) (own' := []) (shr' := [Fact.sl SegS vl1 l]) [2, 3, 9, 10, 11] [] [0] rfl rfl rfl rfl ?_
    refine Tk_block ?_
    refine Tk_loopS (σ := UInt64 × UInt64 × Int) [2, 3, 9, 10, 11] [] [0] (fun s => ⟨[(2, some (vU64 s.1)), (3, some (vU64 s.2.1)), (9, some (vl1)), (10, some (vI (len l))), (11, some (vI s.2.2))], [], [Fact.sl SegS vl1 l]⟩) (fun nf s => seg_TotalL1 l nf s.1 s.2.1 s.2.2 = some r) fuel ((0 : UInt64), (0 : UInt64), (0 : Int)) h rfl rfl rfl rfl rfl (fun s h => by cases h) ?_
    rintro nf ⟨read1, write1, x1⟩ h
    replace h : seg_TotalL1B l (seg_TotalL1 l nf) read1 write1 x1 = some r := h
    unfold seg_TotalL1B at h
    refine Tk_seq ?_
    refine Tk_region ?_
    refine Tops_step rfl (OpT_bin rfl rfl rfl rfl rfl (bin_lss_i (a := x1) (b := len l))) ?_
    refine Tops_nil ?_
    refine Tk_seq ?_
    rcases Bool.eq_false_or_eq_true (decide (x1 < (len l))) with hg2 | hg2
    · replace h := br_t hg2 h
      refine Tk_condT (congrArg (fun b => some (Value.bool b)) hg2) ?_
      refine Tk_skip ?_
      refine Tk_seq ?_
      refine Tk_join (α := UInt64 × UInt64) (fun s => ⟨[(2, some (vU64 s.1)), (3, some (vU64 s.2)), (9, some (vl1)), (10, some (vI (len l))), (11, some (vI x1))], [], [Fact.sl SegS vl1 l]⟩) (fun s => seg_TotalJ2 x1 (seg_TotalL1 l nf) s.1 s.2 = some r) ?_ ?_
      · rintro ⟨read2, write2⟩ h
        replace h : seg_TotalJ2 x1 (seg_TotalL1 l nf) read2 write2 = some r := h
        unfold seg_TotalJ2 at h
        refine Tk_region ?_
        refine Tops_step rfl (OpT_bin rfl rfl rfl rfl rfl (bin_add_i (a := x1) (b := (1 : Int)))) ?_
        refine Tops_step rfl (OpT_move rfl rfl rfl rfl) ?_
        refine Tops_nil ?_
        refine Tk_wkS (fr' := [(2, some (vU64 read2)), (3, some (vU64 write2)), (9, some (vl1)), (10, some (vI (len l))), (11, some (vI (wi (x1 + (1 : Int)))))]) (own' := []) (shr' := [Fact.sl SegS vl1 l]) [2, 3, 9, 10, 11] [] [0] rfl rfl rfl rfl ?_
        exact Tk_backS (read2, write2, wi (x1 + (1 : Int))) h [2, 3, 9, 10, 11] [] [0] rfl rfl rfl rfl rfl
      · intro HJ1
        refine Tk_block ?_
        refine Tk_seq ?_
        refine Tk_region ?_
        obtain ⟨s1, hx2, h⟩ := ob_e h
        refine Tops_ex rfl (OpT_idxS rfl rfl rfl rfl rfl slF54 (i := 0) rfl hx2) fun p1 => ?_
        refine Tops_step rfl (OpT_loadPA (vs := [vU64 s1.At, vU32 s1.Len, vB s1.Write]) rfl rfl rfl rfl tyF73 (i := 1) rfl rfl) ?_
        refine Tops_ex rfl (OpT_alloc rfl rfl rfl tyZ73) fun b1 => ?_
        refine Tops_step rfl (OpT_storeC (cs' := [vU64 s1.At, vU32 s1.Len, vB s1.Write]) rfl rfl rfl rfl tyF73 (i := 0) rfl rfl rfl (one_of rfl) rfl) ?_
        refine Tops_nil ?_
        refine Tk_wkS (fr' := [(2, some (vU64 read1)), (3, some (vU64 write1)), (9, some (vl1)), (10, some (vI (len l))), (11, some (vI x1)), (5, some (.pointer (some ⟨b1, 0, none⟩)))]) (own' := [some (cellsR b1 73 [vU64 s1.At, vU32 s1.Len, vB s1.Write])]) (shr' := [Fact.sl SegS vl1 l]) [2, 3, 9, 10, 11, 5] [0] [0] rfl rfl rfl rfl ?_
        refine Tk_seq ?_
        refine Tk_region ?_
        refine Tops_step rfl (OpT_fieldC rfl rfl rfl rfl fldF73x2) ?_
        refine Tops_step rfl (OpT_loadC rfl rfl rfl rfl tyF4 (i := 0) rfl rfl) ?_
        refine Tops_nil ?_
        refine Tk_wkS (fr' := [(2, some (vU64 read1)), (3, some (vU64 write1)), (9, some (vl1)), (10, some (vI (len l))), (11, some (vI x1)), (5, some (.pointer (some ⟨b1, 0, none⟩))), (16, some (vB s1.Write))]) (own' := [some (cellsR b1 73 [vU64 s1.At, vU32 s1.Len, vB s1.Write])]) (shr' := [Fact.sl SegS vl1 l]) [2, 3, 9, 10, 11, 5, 16] [0] [0] rfl rfl rfl rfl ?_
        refine Tk_join (α := UInt64 × UInt64) (fun s => ⟨[(2, some (vU64 s.1)), (3, some (vU64 s.2)), (9, some (vl1)), (10, some (vI (len l))), (11, some (vI x1))], [], [Fact.sl SegS vl1 l]⟩) (fun s => seg_TotalJ3 x1 (seg_TotalL1 l nf) s.1 s.2 = some r) ?_ ?_
        · rintro ⟨read3, write3⟩ h
          replace h : seg_TotalJ3 x1 (seg_TotalL1 l nf) read3 write3 = some r := h
          unfold seg_TotalJ3 at h
          refine Tk_blk ?_
          exact Tk_jmpS (HJ1 (read3, write3) h) [2, 3, 9, 10, 11] [] [0] rfl rfl rfl rfl
        · intro HJ2
          rcases Bool.eq_false_or_eq_true (s1.Write) with hg3 | hg3
          · replace h := br_t hg3 h
            refine Tk_condT (congrArg (fun b => some (Value.bool b)) hg3) ?_
            refine Tk_region ?_
            refine Tops_step rfl (OpT_move rfl rfl rfl rfl) ?_
            refine Tops_step rfl (OpT_fieldC rfl rfl rfl rfl fldF73x1) ?_
            refine Tops_step rfl (OpT_loadC rfl rfl rfl rfl tyF71 (i := 0) rfl rfl) ?_
            refine Tops_step rfl (OpT_cnv rfl rfl rfl rfl (cnv_u32_u64 (n := s1.Len) Try.underlying71 Try.underlying53)) ?_
            refine Tops_step rfl (OpT_bin rfl rfl rfl rfl rfl (bin_add_u64 (a := write1) (b := s1.Len.toUInt64))) ?_
            refine Tops_step rfl (OpT_assign rfl rfl rfl rfl) ?_
            refine Tops_nil ?_
            refine Tk_wkS (fr' := [(2, some (vU64 read1)), (3, some (vU64 (write1 + s1.Len.toUInt64))), (9, some (vl1)), (10, some (vI (len l))), (11, some (vI x1))]) (own' := []) (shr' := [Fact.sl SegS vl1 l]) [2, 3, 9, 10, 11] [] [0] rfl rfl rfl rfl ?_
            exact Tk_jmpS (HJ2 (read1, write1 + s1.Len.toUInt64) h) [2, 3, 9, 10, 11] [] [0] rfl rfl rfl rfl
          · replace h := br_f hg3 h
            refine Tk_condF (congrArg (fun b => some (Value.bool b)) hg3) ?_
            refine Tk_region ?_
            refine Tops_step rfl (OpT_move rfl rfl rfl rfl) ?_
            refine Tops_step rfl (OpT_fieldC rfl rfl rfl rfl fldF73x1) ?_
            refine Tops_step rfl (OpT_loadC rfl rfl rfl rfl tyF71 (i := 0) rfl rfl) ?_
            refine Tops_step rfl (OpT_cnv rfl rfl rfl rfl (cnv_u32_u64 (n := s1.Len) Try.underlying71 Try.underlying53)) ?_
            refine Tops_step rfl (OpT_bin rfl rfl rfl rfl rfl (bin_add_u64 (a := read1) (b := s1.Len.toUInt64))) ?_
            refine Tops_step rfl (OpT_assign rfl rfl rfl rfl) ?_
            refine Tops_nil ?_
            refine Tk_wkS (fr' := [(2, some (vU64 (read1 + s1.Len.toUInt64))), (3, some (vU64 write1)), (9, some (vl1)), (10, some (vI (len l))), (11, some (vI x1))]) (own' := []) (shr' := [Fact.sl SegS vl1 l]) [2, 3, 9, 10, 11] [] [0] rfl rfl rfl rfl ?_
            exact Tk_jmpS (HJ2 (read1 + s1.Len.toUInt64, write1) h) [2, 3, 9, 10, 11] [] [0] rfl rfl rfl rfl
    · replace h := br_f hg2 h
      refine Tk_condF (congrArg (fun b => some (Value.bool b)) hg2) ?_
      refine Tk_exit _ rfl ?_
      refine Tk_seq ?_
      refine Tk_region ?_
      refine Tops_step rfl (OpT_move rfl rfl rfl rfl) ?_
      refine Tops_step rfl (OpT_move rfl rfl rfl rfl) ?_
      refine Tops_step rfl (OpT_assign rfl rfl rfl rfl) ?_
      refine Tops_step rfl (OpT_assign rfl rfl rfl rfl) ?_
      refine Tops_nil ?_
      refine Tk_wkS (fr' := [(2, some (vU64 read1)), (3, some (vU64 write1))]) (own' := []) (shr' := []) [2, 3] [] [] rfl rfl rfl rfl ?_
      obtain rfl := Option.some.inj h
      exact Tk_retV rfl rfl (resA (vs := [vU64 read1, vU64 write1]) rfl ⟨rfl, rfl, trivial⟩) [] [] rfl rfl rfl ⟨rfl, rfl, rfl⟩

set_option maxRecDepth 100000 in
set_option maxHeartbeats 4000000 in
theorem w_net_room {l : List Seg} {vl1 : Value} {r : UInt64} (h : net_room l = some r) :
    Ctr Try.prog 47 #[vl1] [] [Fact.sl SegS vl1 l]
      (fun rv own shr => rv = vU64 r ∧ own = [] ∧ shr = []) := by
  unfold net_room at h
  refine Ctr.mk (args := [vl1]) Try.func47 rfl rfl (fun R0 w0 B => ?_)
  refine Tk_seq ?_
  refine Tk_region ?_
  refine Tops_step rfl (OpT_assign rfl rfl rfl rfl) ?_
  refine Tops_nil ?_
  refine Tk_wkS (fr' := [(0, some (vl1))]) (own' := []) (shr' := [Fact.sl SegS vl1 l]) [0] [] [0] rfl rfl rfl rfl ?_
  refine Tk_seq ?_
  refine Tk_region ?_
  refine Tops_step rfl (OpT_move rfl rfl rfl rfl) ?_
  obtain ⟨total1, hx1, h⟩ := ob_e h
  refine Tops_exP rfl (OpT_call (w_seg_Total hx1) [] [0] rfl rfl rfl rfl rfl callee50 rfl rfl rfl rfl) ?_
  rintro _ ⟨_, _, _, ⟨rfl, rfl, rfl⟩, rfl⟩
  refine Tops_step rfl (OpT_move rfl rfl rfl rfl) ?_
  refine Tops_step rfl (OpT_extract rfl rfl rfl rfl rfl) ?_
  refine Tops_step rfl (OpT_extract rfl rfl rfl rfl rfl) ?_
  refine Tops_step rfl (OpT_assign rfl rfl rfl rfl) ?_
  refine Tops_step rfl (OpT_assign rfl rfl rfl rfl) ?_
  refine Tops_nil ?_
  refine Tk_wkS (fr' := [(4, some (vU64 total1.2))]) (own' := []) (shr' := []) [4] [] [] rfl rfl rfl rfl ?_
  refine Tk_seq ?_
  refine Tk_region ?_
  refine Tops_step rfl (OpT_move rfl rfl rfl rfl) ?_
  refine Tops_step rfl (OpT_assign rfl rfl rfl rfl) ?_
  refine Tops_nil ?_
  refine Tk_wkS (fr' := [(2, some (vU64 total1.2))]) (own' := []) (shr' := []) [2] [] [] rfl rfl rfl rfl ?_
  obtain rfl := Option.some.inj h
  exact Tk_retV rfl rfl (resA (vs := [vU64 total1.2]) rfl ⟨rfl, trivial⟩) [] [] rfl rfl rfl ⟨rfl, rfl, rfl⟩

set_option maxRecDepth 100000 in
set_option maxHeartbeats 4000000 in
theorem w_feat_Has {set : UInt64} {bit : Int} {r : Bool} (h : feat_Has set bit = some r) :
    Ctr Try.prog 46 #[vU64 set, vI bit] [] []
      (fun rv own shr => rv = vB r ∧ own = [] ∧ shr = []) := by
  unfold feat_Has at h
  refine Ctr.mk (args := [vU64 set, vI bit]) Try.func46 rfl rfl (fun R0 w0 B => ?_)
  refine Tk_seq ?_
  refine Tk_region ?_
  refine Tops_step rfl (OpT_assign rfl rfl rfl rfl) ?_
  refine Tops_nil ?_
  refine Tk_wkS (fr' := [(0, some (vU64 set)), (1, some (vI bit))]) (own' := []) (shr' := []) [0, 1] [] [] rfl rfl rfl rfl ?_
  refine Tk_seq ?_
  refine Tk_region ?_
  refine Tops_step rfl (OpT_move rfl rfl rfl rfl) ?_
  refine Tops_step rfl (OpT_bin rfl rfl rfl rfl rfl (bin_geq_i (a := bit) (b := (0 : Int)))) ?_
  refine Tops_step rfl (OpT_move rfl rfl rfl rfl) ?_
  rcases Bool.eq_false_or_eq_true (decide (bit ≥ (0 : Int))) with hg1 | hg1
  · replace h := br_t hg1 h
    refine Tops_yes rfl rfl (congrArg (fun b => some (Value.bool b)) hg1) (OpT_move rfl rfl rfl rfl) ?_
    rintro _ rfl
    refine Tops_yes rfl rfl (congrArg (fun b => some (Value.bool b)) hg1) (OpT_bin rfl rfl rfl rfl rfl (bin_leq_i (a := bit) (b := (63 : Int)))) ?_
    rintro _ rfl
    refine Tops_step rfl (OpT_pickT rfl rfl rfl (congrArg (fun b => some (Value.bool b)) hg1) rfl) ?_
    refine Tops_step rfl (OpT_move rfl rfl rfl rfl) ?_
    rcases Bool.eq_false_or_eq_true (decide (bit ≤ (63 : Int))) with hg2 | hg2
    · replace h := br_t hg2 h
      refine Tops_yes rfl rfl (congrArg (fun b => some (Value.bool b)) hg2) (OpT_move rfl rfl rfl rfl) ?_
      rintro _ rfl
      refine Tops_yes rfl rfl (congrArg (fun b => some (Value.bool b)) hg2) (OpT_move rfl rfl rfl rfl) ?_
      rintro _ rfl
      obtain ⟨hc1, h⟩ := chk_e h
      refine Tops_yes rfl rfl (congrArg (fun b => some (Value.bool b)) hg2) (OpT_bin rfl rfl rfl rfl rfl (bin_shr_u64_i64 (a := set) (n := bit) hc1)) ?_
      rintro _ rfl
      refine Tops_yes rfl rfl (congrArg (fun b => some (Value.bool b)) hg2) (OpT_bin rfl rfl rfl rfl rfl (bin_and_u64 (a := shr64 set bit.toNat) (b := (1 : UInt64)))) ?_
      rintro _ rfl
      refine Tops_yes rfl rfl (congrArg (fun b => some (Value.bool b)) hg2) (OpT_bin rfl rfl rfl rfl rfl (bin_eql_u64 (a := (shr64 set bit.toNat) &&& (1 : UInt64)) (b := (1 : UInt64)))) ?_
      rintro _ rfl
      refine Tops_step rfl (OpT_pickT rfl rfl rfl (congrArg (fun b => some (Value.bool b)) hg2) rfl) ?_
      refine Tops_step rfl (OpT_assign rfl rfl rfl rfl) ?_
      refine Tops_nil ?_
      refine Tk_wkS (fr' := [(4, some (vB (((shr64 set bit.toNat) &&& (1 : UInt64)) == (1 : UInt64))))]) (own' := []) (shr' := []) [4] [] [] rfl rfl rfl rfl ?_
      obtain rfl := Option.some.inj h
      exact Tk_retV rfl rfl (resA (vs := [vB (((shr64 set bit.toNat) &&& (1 : UInt64)) == (1 : UInt64))]) rfl ⟨rfl, trivial⟩) [] [] rfl rfl rfl ⟨rfl, rfl, rfl⟩
    · replace h := br_f hg2 h
      refine Tops_no rfl rfl (congrArg (fun b => some (Value.bool b)) hg2) rfl rfl ?_
      refine Tops_no rfl rfl (congrArg (fun b => some (Value.bool b)) hg2) rfl rfl ?_
      refine Tops_no rfl rfl (congrArg (fun b => some (Value.bool b)) hg2) rfl rfl ?_
      refine Tops_no rfl rfl (congrArg (fun b => some (Value.bool b)) hg2) rfl rfl ?_
      refine Tops_no rfl rfl (congrArg (fun b => some (Value.bool b)) hg2) rfl rfl ?_
      refine Tops_step rfl (OpT_pickF rfl rfl rfl (congrArg (fun b => some (Value.bool b)) hg2) rfl) ?_
      refine Tops_step rfl (OpT_assign rfl rfl rfl rfl) ?_
      refine Tops_nil ?_
      refine Tk_wkS (fr' := [(4, some (vB false))]) (own' := []) (shr' := []) [4] [] [] rfl rfl rfl rfl ?_
      obtain rfl := Option.some.inj h
      exact Tk_retV rfl rfl (resA (vs := [vB false]) rfl ⟨rfl, trivial⟩) [] [] rfl rfl rfl ⟨rfl, rfl, rfl⟩
  · replace h := br_f hg1 h
    refine Tops_no rfl rfl (congrArg (fun b => some (Value.bool b)) hg1) rfl rfl ?_
    refine Tops_no rfl rfl (congrArg (fun b => some (Value.bool b)) hg1) rfl rfl ?_
    refine Tops_step rfl (OpT_pickF rfl rfl rfl (congrArg (fun b => some (Value.bool b)) hg1) rfl) ?_
    refine Tops_step rfl (OpT_move rfl rfl rfl rfl) ?_
    refine Tops_no rfl rfl rfl rfl rfl ?_
    refine Tops_no rfl rfl rfl rfl rfl ?_
    refine Tops_no rfl rfl rfl rfl rfl ?_
    refine Tops_no rfl rfl rfl rfl rfl ?_
    refine Tops_no rfl rfl rfl rfl rfl ?_
    refine Tops_step rfl (OpT_pickF rfl rfl rfl rfl rfl) ?_
    refine Tops_step rfl (OpT_assign rfl rfl rfl rfl) ?_
    refine Tops_nil ?_
    refine Tk_wkS (fr' := [(4, some (vB false))]) (own' := []) (shr' := []) [4] [] [] rfl rfl rfl rfl ?_
    obtain rfl := Option.some.inj h
    exact Tk_retV rfl rfl (resA (vs := [vB false]) rfl ⟨rfl, trivial⟩) [] [] rfl rfl rfl ⟨rfl, rfl, rfl⟩

set_option maxRecDepth 100000 in
set_option maxHeartbeats 4000000 in
theorem w_net_Needs {feats : UInt64} {bufs : List (List Seg)} {np2 : Int} {vbufs1 : Value} {r : (Int × Bool)} (h : net_Needs feats bufs np2 = some r) :
    Ctr Try.prog 36 #[vU64 feats, vbufs1, vI np2] [] [Fact.sl (Shape.slice SegS) vbufs1 bufs]
      (fun rv own shr => rv = .tuple #[vI r.1, vB r.2] ∧ own = [] ∧ shr = []) := by
  unfold net_Needs at h
  refine Ctr.mk (args := [vU64 feats, vbufs1, vI np2]) Try.func36 rfl rfl (fun R0 w0 B => ?_)
  refine Tk_seq ?_
  refine Tk_region ?_
  refine Tops_step rfl (OpT_assign rfl rfl rfl rfl) ?_
  refine Tops_step rfl (OpT_assign rfl rfl rfl rfl) ?_
  refine Tops_nil ?_
  refine Tk_wkS (fr' := [(0, some (vU64 feats)), (1, some (vbufs1)), (2, some (vI np2))]) (own' := []) (shr' := [Fact.sl (Shape.slice SegS) vbufs1 bufs]) [0, 1, 2] [] [0] rfl rfl rfl rfl ?_
  refine Tk_scope ?_
  refine Tk_seq ?_
  refine Tk_region ?_
  refine Tops_step rfl (OpT_move rfl rfl rfl rfl) ?_
  refine Tops_step rfl (OpT_max_i (u := np2) (v := (12 : Int)) rfl rfl rfl rfl rfl) ?_
  refine Tops_step rfl (OpT_cnv rfl rfl rfl rfl (cnv_i_u64 (n := maxi np2 (12 : Int)) Try.underlying3 Try.underlying53)) ?_
  refine Tops_step rfl (OpT_assign rfl rfl rfl rfl) ?_
  refine Tops_nil ?_
  refine Tk_wkS (fr' := [(0, some (vU64 feats)), (1, some (vbufs1)), (8, some (vU64 (u64 (maxi np2 (12 : Int)))))]) (own' := []) (shr' := [Fact.sl (Shape.slice SegS) vbufs1 bufs]) [0, 1, 8] [] [0] rfl rfl rfl rfl ?_
  refine Tk_seq ?_
  refine Tk_region ?_
  refine Tops_step rfl (OpT_move rfl rfl rfl rfl) ?_
  obtain ⟨has1, hx1, h⟩ := ob_e h
  refine Tops_exP rfl (OpT_call (w_feat_Has hx1) [] [] rfl rfl rfl rfl rfl callee46 rfl rfl rfl rfl) ?_
  rintro _ ⟨_, _, _, ⟨rfl, rfl, rfl⟩, rfl⟩
  refine Tops_step rfl (OpT_assign rfl rfl rfl rfl) ?_
  refine Tops_nil ?_
  refine Tk_wkS (fr' := [(1, some (vbufs1)), (8, some (vU64 (u64 (maxi np2 (12 : Int))))), (9, some (vB has1))]) (own' := []) (shr' := [Fact.sl (Shape.slice SegS) vbufs1 bufs]) [1, 8, 9] [] [0] rfl rfl rfl rfl ?_
  refine Tk_seq ?_
  refine Tk_region ?_
  refine Tops_step rfl (OpT_assign rfl rfl rfl rfl) ?_
  refine Tops_step rfl (OpT_assign rfl rfl rfl rfl) ?_
  refine Tops_nil ?_
  refine Tk_wkS (fr' := [(1, some (vbufs1)), (8, some (vU64 (u64 (maxi np2 (12 : Int))))), (9, some (vB has1)), (10, some (vU64 (0 : UInt64)))]) (own' := []) (shr' := [Fact.sl (Shape.slice SegS) vbufs1 bufs]) [1, 8, 9, 10] [] [0] rfl rfl rfl rfl ?_
  refine Tk_seq ?_
  refine Tk_label ?_
  refine Tk_seq ?_
  refine Tk_seq ?_
  refine Tk_region ?_
  refine Tops_step rfl (OpT_move rfl rfl rfl rfl) ?_
  refine Tops_step rfl (OpT_lenS rfl rfl rfl rfl Try.underlying52 (i := 0) rfl) ?_
  refine Tops_step rfl (OpT_move rfl rfl rfl rfl) ?_
  refine Tops_nil ?_
  refine Tk_wkS (fr' := [(8, some (vU64 (u64 (maxi np2 (12 : Int))))), (9, some (vB has1)), (10, some (vU64 (0 : UInt64))), (20, some (vbufs1)), (21, some (vI (len bufs))), (22, some (vI (0 : Int)))]) (own' := []) (shr' := [Fact.sl (Shape.slice SegS) vbufs1 bufs]) [8, 9, 10, 20, 21, 22] [] [0] rfl rfl rfl rfl ?_
  refine Tk_block ?_
  refine Tk_loopS (σ := UInt64 × Int) [8, 9, 10, 20, 21, 22] [] [0] (fun s => ⟨[(8, some (vU64 (u64 (maxi np2 (12 : Int))))), (9, some (vB has1)), (10, some (vU64 s.1)), (20, some (vbufs1)), (21, some (vI (len bufs))), (22, some (vI s.2))], [], [Fact.sl (Shape.slice SegS) vbufs1 bufs]⟩) (fun nf s => net_NeedsL1 bufs np2 has1 nf s.1 s.2 = some r) fuel ((0 : UInt64), (0 : Int)) h rfl rfl rfl rfl rfl (fun s h => by cases h) ?_
  rintro nf ⟨sum1, x1⟩ h
  replace h : net_NeedsL1B bufs np2 has1 (net_NeedsL1 bufs np2 has1 nf) sum1 x1 = some r := h
  unfold net_NeedsL1B at h
  refine Tk_seq ?_
  refine Tk_region ?_
  refine Tops_step rfl (OpT_bin rfl rfl rfl rfl rfl (bin_lss_i (a := x1) (b := len bufs))) ?_
  refine Tops_nil ?_
  refine Tk_seq ?_
  rcases Bool.eq_false_or_eq_true (decide (x1 < (len bufs))) with hg1 | hg1
  · replace h := br_t hg1 h
    refine Tk_condT (congrArg (fun b => some (Value.bool b)) hg1) ?_
    refine Tk_skip ?_
    refine Tk_seq ?_
    refine Tk_block ?_
    refine Tk_seq ?_
    refine Tk_region ?_
    refine Tops_step rfl (OpT_move rfl rfl rfl rfl) ?_
    obtain ⟨y1, hx2, h⟩ := ob_e h
    refine Tops_ex rfl (OpT_idxS rfl rfl rfl rfl rfl slF52 (i := 0) rfl hx2) fun p1 => ?_
    refine Tops_ex rfl (OpT_loadPS rfl rfl rfl rfl tyF54 (i := 1) rfl) fun v1 => ?_
    refine Tops_step rfl (OpT_assign rfl rfl rfl rfl) ?_
    refine Tops_step rfl (OpT_assign rfl rfl rfl rfl) ?_
    refine Tops_nil ?_
    refine Tk_wkS (fr' := [(8, some (vU64 (u64 (maxi np2 (12 : Int))))), (9, some (vB has1)), (10, some (vU64 sum1)), (20, some (vbufs1)), (21, some (vI (len bufs))), (22, some (vI x1)), (12, some (vI x1)), (13, some (v1))]) (own' := []) (shr' := [Fact.sl (Shape.slice SegS) vbufs1 bufs, Fact.sl SegS v1 y1]) [8, 9, 10, 20, 21, 22, 12, 13] [] [0, 2] rfl rfl rfl rfl ?_
    refine Tk_seq ?_
    refine Tk_region ?_
    refine Tops_step rfl (OpT_move rfl rfl rfl rfl) ?_
    obtain ⟨room1, hx3, h⟩ := ob_e h
    refine Tops_exP rfl (OpT_call (w_net_room hx3) [] [1] rfl rfl rfl rfl rfl callee47 rfl rfl rfl rfl) ?_
    rintro _ ⟨_, _, _, ⟨rfl, rfl, rfl⟩, rfl⟩
    refine Tops_step rfl (OpT_assign rfl rfl rfl rfl) ?_
    refine Tops_nil ?_
    refine Tk_wkS (fr' := [(8, some (vU64 (u64 (maxi np2 (12 : Int))))), (9, some (vB has1)), (10, some (vU64 sum1)), (20, some (vbufs1)), (21, some (vI (len bufs))), (22, some (vI x1)), (12, some (vI x1)), (14, some (vU64 room1))]) (own' := []) (shr' := [Fact.sl (Shape.slice SegS) vbufs1 bufs]) [8, 9, 10, 20, 21, 22, 12, 14] [] [0] rfl rfl rfl rfl ?_
    refine Tk_seq ?_
    refine Tk_region ?_
    refine Tops_step rfl (OpT_move rfl rfl rfl rfl) ?_
    refine Tops_step rfl (OpT_move rfl rfl rfl rfl) ?_
    refine Tops_step rfl (OpT_bin rfl rfl rfl rfl rfl (bin_add_u64 (a := sum1) (b := room1))) ?_
    refine Tops_step rfl (OpT_assign rfl rfl rfl rfl) ?_
    refine Tops_nil ?_
    refine Tk_wkS (fr' := [(8, some (vU64 (u64 (maxi np2 (12 : Int))))), (9, some (vB has1)), (10, some (vU64 (sum1 + room1))), (20, some (vbufs1)), (21, some (vI (len bufs))), (22, some (vI x1)), (12, some (vI x1)), (14, some (vU64 room1))]) (own' := []) (shr' := [Fact.sl (Shape.slice SegS) vbufs1 bufs]) [8, 9, 10, 20, 21, 22, 12, 14] [] [0] rfl rfl rfl rfl ?_
    refine Tk_seq ?_
    refine Tk_block ?_
    refine Tk_seq ?_
    refine Tk_seq ?_
    refine Tk_region ?_
    refine Tops_step rfl (OpT_move rfl rfl rfl rfl) ?_
    refine Tops_step rfl (OpT_bin rfl rfl rfl rfl rfl (bin_eql_u64 (a := room1) (b := (0 : UInt64)))) ?_
    refine Tops_step rfl (OpT_assign rfl rfl rfl rfl) ?_
    refine Tops_nil ?_
    refine Tk_wkS (fr' := [(8, some (vU64 (u64 (maxi np2 (12 : Int))))), (9, some (vB has1)), (10, some (vU64 (sum1 + room1))), (20, some (vbufs1)), (21, some (vI (len bufs))), (22, some (vI x1)), (12, some (vI x1)), (14, some (vU64 room1)), (32, some (vB (room1 == (0 : UInt64))))]) (own' := []) (shr' := [Fact.sl (Shape.slice SegS) vbufs1 bufs]) [8, 9, 10, 20, 21, 22, 12, 14, 32] [] [0] rfl rfl rfl rfl ?_
    refine Tk_join (α := Bool) (fun s => ⟨[(8, some (vU64 (u64 (maxi np2 (12 : Int))))), (9, some (vB has1)), (10, some (vU64 (sum1 + room1))), (20, some (vbufs1)), (21, some (vI (len bufs))), (22, some (vI x1)), (12, some (vI x1)), (32, some (vB s))], [], [Fact.sl (Shape.slice SegS) vbufs1 bufs]⟩) (fun s => net_NeedsJ2 np2 sum1 x1 (net_NeedsL1 bufs np2 has1 nf) room1 s = some r) ?_ ?_
    · rintro x2 h
      replace h : net_NeedsJ2 np2 sum1 x1 (net_NeedsL1 bufs np2 has1 nf) room1 x2 = some r := h
      unfold net_NeedsJ2 at h
      rcases Bool.eq_false_or_eq_true (x2) with hg2 | hg2
      · replace h := br_t hg2 h
        refine Tk_condT (congrArg (fun b => some (Value.bool b)) hg2) ?_
        refine Tk_exit _ rfl ?_
        refine Tk_seq ?_
        refine Tk_region ?_
        refine Tops_step rfl (OpT_assign rfl rfl rfl rfl) ?_
        refine Tops_step rfl (OpT_assign rfl rfl rfl rfl) ?_
        refine Tops_nil ?_
        refine Tk_wkS (fr' := [(6, some (vI (0 : Int))), (7, some (vB false))]) (own' := []) (shr' := []) [6, 7] [] [] rfl rfl rfl rfl ?_
        obtain rfl := Option.some.inj h
        exact Tk_retV rfl rfl (resA (vs := [vI (0 : Int), vB false]) rfl ⟨rfl, rfl, trivial⟩) [] [] rfl rfl rfl ⟨rfl, rfl, rfl⟩
      · replace h := br_f hg2 h
        refine Tk_condF (congrArg (fun b => some (Value.bool b)) hg2) ?_
        refine Tk_skip ?_
        refine Tk_blk ?_
        refine Tk_seq ?_
        refine Tk_region ?_
        refine Tops_step rfl (OpT_move rfl rfl rfl rfl) ?_
        refine Tops_step rfl (OpT_bin rfl rfl rfl rfl rfl (bin_add_i (a := x1) (b := (1 : Int)))) ?_
        refine Tops_step rfl (OpT_assign rfl rfl rfl rfl) ?_
        refine Tops_nil ?_
        refine Tk_wkS (fr' := [(8, some (vU64 (u64 (maxi np2 (12 : Int))))), (9, some (vB has1)), (10, some (vU64 (sum1 + room1))), (20, some (vbufs1)), (21, some (vI (len bufs))), (22, some (vI x1)), (11, some (vI (wi (x1 + (1 : Int)))))]) (own' := []) (shr' := [Fact.sl (Shape.slice SegS) vbufs1 bufs]) [8, 9, 10, 20, 21, 22, 11] [] [0] rfl rfl rfl rfl ?_
        refine Tk_seq ?_
        refine Tk_region ?_
        refine Tops_step rfl (OpT_move rfl rfl rfl rfl) ?_
        refine Tops_step rfl (OpT_move rfl rfl rfl rfl) ?_
        refine Tops_step rfl (OpT_bin rfl rfl rfl rfl rfl (bin_geq_u64 (a := sum1 + room1) (b := u64 (maxi np2 (12 : Int))))) ?_
        refine Tops_nil ?_
        refine Tk_wkS (fr' := [(8, some (vU64 (u64 (maxi np2 (12 : Int))))), (9, some (vB has1)), (10, some (vU64 (sum1 + room1))), (20, some (vbufs1)), (21, some (vI (len bufs))), (22, some (vI x1)), (11, some (vI (wi (x1 + (1 : Int))))), (51, some (vB (decide ((sum1 + room1) ≥ (u64 (maxi np2 (12 : Int)))))))]) (own' := []) (shr' := [Fact.sl (Shape.slice SegS) vbufs1 bufs]) [8, 9, 10, 20, 21, 22, 11, 51] [] [0] rfl rfl rfl rfl ?_
        rcases Bool.eq_false_or_eq_true (decide ((sum1 + room1) ≥ (u64 (maxi np2 (12 : Int))))) with hg3 | hg3
        · replace h := br_t hg3 h
          refine Tk_condT (congrArg (fun b => some (Value.bool b)) hg3) ?_
          refine Tk_seq ?_
          refine Tk_region ?_
          refine Tops_step rfl (OpT_move rfl rfl rfl rfl) ?_
          refine Tops_step rfl (OpT_assign rfl rfl rfl rfl) ?_
          refine Tops_step rfl (OpT_assign rfl rfl rfl rfl) ?_
          refine Tops_nil ?_
          refine Tk_wkS (fr' := [(6, some (vI (wi (x1 + (1 : Int))))), (7, some (vB true))]) (own' := []) (shr' := []) [6, 7] [] [] rfl rfl rfl rfl ?_
          obtain rfl := Option.some.inj h
          exact Tk_retV rfl rfl (resA (vs := [vI (wi (x1 + (1 : Int))), vB true]) rfl ⟨rfl, rfl, trivial⟩) [] [] rfl rfl rfl ⟨rfl, rfl, rfl⟩
        · replace h := br_f hg3 h
          refine Tk_condF (congrArg (fun b => some (Value.bool b)) hg3) ?_
          refine Tk_skip ?_
          refine Tk_blk ?_
          refine Tk_region ?_
          refine Tops_step rfl (OpT_bin rfl rfl rfl rfl rfl (bin_add_i (a := x1) (b := (1 : Int)))) ?_
          refine Tops_step rfl (OpT_move rfl rfl rfl rfl) ?_
          refine Tops_nil ?_
          refine Tk_wkS (fr' := [(8, some (vU64 (u64 (maxi np2 (12 : Int))))), (9, some (vB has1)), (10, some (vU64 (sum1 + room1))), (20, some (vbufs1)), (21, some (vI (len bufs))), (22, some (vI (wi (x1 + (1 : Int)))))]) (own' := []) (shr' := [Fact.sl (Shape.slice SegS) vbufs1 bufs]) [8, 9, 10, 20, 21, 22] [] [0] rfl rfl rfl rfl ?_
          exact Tk_backS (sum1 + room1, wi (x1 + (1 : Int))) h [8, 9, 10, 20, 21, 22] [] [0] rfl rfl rfl rfl rfl
    · intro HJ1
      rcases Bool.eq_false_or_eq_true (room1 == (0 : UInt64)) with hg4 | hg4
      · replace h := br_t hg4 h
        refine Tk_condT (congrArg (fun b => some (Value.bool b)) hg4) ?_
        refine Tk_skip ?_
        exact Tk_jmpS (HJ1 (room1 == (0 : UInt64)) h) [8, 9, 10, 20, 21, 22, 12, 32] [] [0] rfl rfl rfl rfl
      · replace h := br_f hg4 h
        refine Tk_condF (congrArg (fun b => some (Value.bool b)) hg4) ?_
        refine Tk_seq ?_
        refine Tk_region ?_
        refine Tops_step rfl (OpT_move rfl rfl rfl rfl) ?_
        refine Tops_step rfl (OpT_bin rfl rfl rfl rfl rfl (bin_eql_i (a := x1) (b := (0 : Int)))) ?_
        refine Tops_step rfl (OpT_move rfl rfl rfl rfl) ?_
        rcases Bool.eq_false_or_eq_true (x1 == (0 : Int)) with hg5 | hg5
        · replace h := br_t hg5 h
          refine Tops_yes rfl rfl (congrArg (fun b => some (Value.bool b)) hg5) (OpT_move rfl rfl rfl rfl) ?_
          rintro _ rfl
          refine Tops_yes rfl rfl (congrArg (fun b => some (Value.bool b)) hg5) (OpT_bin rfl rfl rfl rfl rfl (bin_lss_u64 (a := room1) (b := (12 : UInt64)))) ?_
          rintro _ rfl
          refine Tops_step rfl (OpT_pickT rfl rfl rfl (congrArg (fun b => some (Value.bool b)) hg5) rfl) ?_
          refine Tops_step rfl (OpT_assign rfl rfl rfl rfl) ?_
          refine Tops_nil ?_
          refine Tk_wkS (fr' := [(8, some (vU64 (u64 (maxi np2 (12 : Int))))), (9, some (vB has1)), (10, some (vU64 (sum1 + room1))), (20, some (vbufs1)), (21, some (vI (len bufs))), (22, some (vI x1)), (12, some (vI x1)), (32, some (vB (decide (room1 < (12 : UInt64)))))]) (own' := []) (shr' := [Fact.sl (Shape.slice SegS) vbufs1 bufs]) [8, 9, 10, 20, 21, 22, 12, 32] [] [0] rfl rfl rfl rfl ?_
          rcases Bool.eq_false_or_eq_true (decide (room1 < (12 : UInt64))) with hg6 | hg6
          · replace h := br_t hg6 h
            refine Tk_condT (congrArg (fun b => some (Value.bool b)) hg6) ?_
            refine Tk_skip ?_
            exact Tk_jmpS (HJ1 (decide (room1 < (12 : UInt64))) h) [8, 9, 10, 20, 21, 22, 12, 32] [] [0] rfl rfl rfl rfl
          · replace h := br_f hg6 h
            refine Tk_condF (congrArg (fun b => some (Value.bool b)) hg6) ?_
            refine Tk_region ?_
            refine Tops_step rfl (OpT_move rfl rfl rfl rfl) ?_
            refine Tops_step rfl (OpT_bin rfl rfl rfl rfl rfl (bin_gtr_i (a := x1) (b := (0 : Int)))) ?_
            refine Tops_step rfl (OpT_move rfl rfl rfl rfl) ?_
            rcases Bool.eq_false_or_eq_true (decide (x1 > (0 : Int))) with hg7 | hg7
            · replace h := br_t hg7 h
              refine Tops_yes rfl rfl (congrArg (fun b => some (Value.bool b)) hg7) (OpT_move rfl rfl rfl rfl) ?_
              rintro _ rfl
              refine Tops_yes rfl rfl (congrArg (fun b => some (Value.bool b)) hg7) (OpT_not rfl rfl rfl rfl) ?_
              rintro _ rfl
              refine Tops_step rfl (OpT_pickT rfl rfl rfl (congrArg (fun b => some (Value.bool b)) hg7) rfl) ?_
              refine Tops_step rfl (OpT_assign rfl rfl rfl rfl) ?_
              refine Tops_nil ?_
              refine Tk_wkS (fr' := [(8, some (vU64 (u64 (maxi np2 (12 : Int))))), (9, some (vB has1)), (10, some (vU64 (sum1 + room1))), (20, some (vbufs1)), (21, some (vI (len bufs))), (22, some (vI x1)), (12, some (vI x1)), (32, some (vB (!has1)))]) (own' := []) (shr' := [Fact.sl (Shape.slice SegS) vbufs1 bufs]) [8, 9, 10, 20, 21, 22, 12, 32] [] [0] rfl rfl rfl rfl ?_
              exact Tk_jmpS (HJ1 (!has1) h) [8, 9, 10, 20, 21, 22, 12, 32] [] [0] rfl rfl rfl rfl
            · replace h := br_f hg7 h
              refine Tops_no rfl rfl (congrArg (fun b => some (Value.bool b)) hg7) rfl rfl ?_
              refine Tops_no rfl rfl (congrArg (fun b => some (Value.bool b)) hg7) rfl rfl ?_
              refine Tops_step rfl (OpT_pickF rfl rfl rfl (congrArg (fun b => some (Value.bool b)) hg7) rfl) ?_
              refine Tops_step rfl (OpT_assign rfl rfl rfl rfl) ?_
              refine Tops_nil ?_
              refine Tk_wkS (fr' := [(8, some (vU64 (u64 (maxi np2 (12 : Int))))), (9, some (vB has1)), (10, some (vU64 (sum1 + room1))), (20, some (vbufs1)), (21, some (vI (len bufs))), (22, some (vI x1)), (12, some (vI x1)), (32, some (vB false))]) (own' := []) (shr' := [Fact.sl (Shape.slice SegS) vbufs1 bufs]) [8, 9, 10, 20, 21, 22, 12, 32] [] [0] rfl rfl rfl rfl ?_
              exact Tk_jmpS (HJ1 false h) [8, 9, 10, 20, 21, 22, 12, 32] [] [0] rfl rfl rfl rfl
        · replace h := br_f hg5 h
          refine Tops_no rfl rfl (congrArg (fun b => some (Value.bool b)) hg5) rfl rfl ?_
          refine Tops_no rfl rfl (congrArg (fun b => some (Value.bool b)) hg5) rfl rfl ?_
          refine Tops_step rfl (OpT_pickF rfl rfl rfl (congrArg (fun b => some (Value.bool b)) hg5) rfl) ?_
          refine Tops_step rfl (OpT_assign rfl rfl rfl rfl) ?_
          refine Tops_nil ?_
          refine Tk_wkS (fr' := [(8, some (vU64 (u64 (maxi np2 (12 : Int))))), (9, some (vB has1)), (10, some (vU64 (sum1 + room1))), (20, some (vbufs1)), (21, some (vI (len bufs))), (22, some (vI x1)), (12, some (vI x1)), (32, some (vB false))]) (own' := []) (shr' := [Fact.sl (Shape.slice SegS) vbufs1 bufs]) [8, 9, 10, 20, 21, 22, 12, 32] [] [0] rfl rfl rfl rfl ?_
          refine Tk_condF rfl ?_
          refine Tk_region ?_
          refine Tops_step rfl (OpT_move rfl rfl rfl rfl) ?_
          refine Tops_step rfl (OpT_bin rfl rfl rfl rfl rfl (bin_gtr_i (a := x1) (b := (0 : Int)))) ?_
          refine Tops_step rfl (OpT_move rfl rfl rfl rfl) ?_
          rcases Bool.eq_false_or_eq_true (decide (x1 > (0 : Int))) with hg8 | hg8
          · replace h := br_t hg8 h
            refine Tops_yes rfl rfl (congrArg (fun b => some (Value.bool b)) hg8) (OpT_move rfl rfl rfl rfl) ?_
            rintro _ rfl
            refine Tops_yes rfl rfl (congrArg (fun b => some (Value.bool b)) hg8) (OpT_not rfl rfl rfl rfl) ?_
            rintro _ rfl
            refine Tops_step rfl (OpT_pickT rfl rfl rfl (congrArg (fun b => some (Value.bool b)) hg8) rfl) ?_
            refine Tops_step rfl (OpT_assign rfl rfl rfl rfl) ?_
            refine Tops_nil ?_
            refine Tk_wkS (fr' := [(8, some (vU64 (u64 (maxi np2 (12 : Int))))), (9, some (vB has1)), (10, some (vU64 (sum1 + room1))), (20, some (vbufs1)), (21, some (vI (len bufs))), (22, some (vI x1)), (12, some (vI x1)), (32, some (vB (!has1)))]) (own' := []) (shr' := [Fact.sl (Shape.slice SegS) vbufs1 bufs]) [8, 9, 10, 20, 21, 22, 12, 32] [] [0] rfl rfl rfl rfl ?_
            exact Tk_jmpS (HJ1 (!has1) h) [8, 9, 10, 20, 21, 22, 12, 32] [] [0] rfl rfl rfl rfl
          · replace h := br_f hg8 h
            refine Tops_no rfl rfl (congrArg (fun b => some (Value.bool b)) hg8) rfl rfl ?_
            refine Tops_no rfl rfl (congrArg (fun b => some (Value.bool b)) hg8) rfl rfl ?_
            refine Tops_step rfl (OpT_pickF rfl rfl rfl (congrArg (fun b => some (Value.bool b)) hg8) rfl) ?_
            refine Tops_step rfl (OpT_assign rfl rfl rfl rfl) ?_
            refine Tops_nil ?_
            refine Tk_wkS (fr' := [(8, some (vU64 (u64 (maxi np2 (12 : Int))))), (9, some (vB has1)), (10, some (vU64 (sum1 + room1))), (20, some (vbufs1)), (21, some (vI (len bufs))), (22, some (vI x1)), (12, some (vI x1)), (32, some (vB false))]) (own' := []) (shr' := [Fact.sl (Shape.slice SegS) vbufs1 bufs]) [8, 9, 10, 20, 21, 22, 12, 32] [] [0] rfl rfl rfl rfl ?_
            exact Tk_jmpS (HJ1 false h) [8, 9, 10, 20, 21, 22, 12, 32] [] [0] rfl rfl rfl rfl
  · replace h := br_f hg1 h
    refine Tk_condF (congrArg (fun b => some (Value.bool b)) hg1) ?_
    refine Tk_exit _ rfl ?_
    refine Tk_seq ?_
    refine Tk_region ?_
    refine Tops_step rfl (OpT_assign rfl rfl rfl rfl) ?_
    refine Tops_step rfl (OpT_assign rfl rfl rfl rfl) ?_
    refine Tops_nil ?_
    refine Tk_wkS (fr' := [(6, some (vI (0 : Int))), (7, some (vB false))]) (own' := []) (shr' := []) [6, 7] [] [] rfl rfl rfl rfl ?_
    obtain rfl := Option.some.inj h
    exact Tk_retV rfl rfl (resA (vs := [vI (0 : Int), vB false]) rfl ⟨rfl, rfl, trivial⟩) [] [] rfl rfl rfl ⟨rfl, rfl, rfl⟩

set_option maxRecDepth 100000 in
set_option maxHeartbeats 4000000 in
theorem w_ref_Check05 {l : List Seg} {vl1 : Value} {r : Int} (h : ref_Check05 l = some r) :
    Ctr Try.prog 48 #[vl1] [] [Fact.sl SegS vl1 l]
      (fun rv own shr => rv = vI r ∧ own = [] ∧ shr = []) := by
  unfold ref_Check05 at h
  refine Ctr.mk (args := [vl1]) Try.func48 rfl rfl (fun R0 w0 B => ?_)
  refine Tk_seq ?_
  refine Tk_region ?_
  refine Tops_step rfl (OpT_assign rfl rfl rfl rfl) ?_
  refine Tops_nil ?_
  refine Tk_wkS (fr' := [(0, some (vl1))]) (own' := []) (shr' := [Fact.sl SegS vl1 l]) [0] [] [0] rfl rfl rfl rfl ?_
  refine Tk_seq ?_
  refine Tk_seq ?_
  refine Tk_region ?_
  refine Tops_step rfl (OpT_move rfl rfl rfl rfl) ?_
  refine Tops_step rfl (OpT_lenS rfl rfl rfl rfl Try.underlying54 (i := 0) rfl) ?_
  refine Tops_step rfl (OpT_bin rfl rfl rfl rfl rfl (bin_gtr_i (a := len l) (b := (64 : Int)))) ?_
  refine Tops_nil ?_
  refine Tk_wkS (fr' := [(0, some (vl1)), (7, some (vB (decide ((len l) > (64 : Int)))))]) (own' := []) (shr' := [Fact.sl SegS vl1 l]) [0, 7] [] [0] rfl rfl rfl rfl ?_
  rcases Bool.eq_false_or_eq_true (decide ((len l) > (64 : Int))) with hg1 | hg1
  · replace h := br_t hg1 h
    refine Tk_condT (congrArg (fun b => some (Value.bool b)) hg1) ?_
    refine Tk_seq ?_
    refine Tk_region ?_
    refine Tops_step rfl (OpT_assign rfl rfl rfl rfl) ?_
    refine Tops_nil ?_
    refine Tk_wkS (fr' := [(2, some (vI (3 : Int)))]) (own' := []) (shr' := []) [2] [] [] rfl rfl rfl rfl ?_
    obtain rfl := Option.some.inj h
    exact Tk_retV rfl rfl (resA (vs := [vI (3 : Int)]) rfl ⟨rfl, trivial⟩) [] [] rfl rfl rfl ⟨rfl, rfl, rfl⟩
  · replace h := br_f hg1 h
    refine Tk_condF (congrArg (fun b => some (Value.bool b)) hg1) ?_
    refine Tk_skip ?_
    refine Tk_seq ?_
    refine Tk_region ?_
    refine Tops_step rfl (OpT_assign rfl rfl rfl rfl) ?_
    refine Tops_nil ?_
    refine Tk_wkS (fr' := [(0, some (vl1)), (3, some (vU64 (0 : UInt64)))]) (own' := []) (shr' := [Fact.sl SegS vl1 l]) [0, 3] [] [0] rfl rfl rfl rfl ?_
    refine Tk_seq ?_
    refine Tk_seq ?_
    refine Tk_region ?_
    refine Tops_step rfl (OpT_assign rfl rfl rfl rfl) ?_
    refine Tops_nil ?_
    refine Tk_block ?_
    refine Tk_loopS (σ := UInt64 × Int) [0, 3, 4] [] [0] (fun s => ⟨[(0, some (vl1)), (3, some (vU64 s.1)), (4, some (vI s.2))], [], [Fact.sl SegS vl1 l]⟩) (fun nf s => ref_Check05L1 l nf s.1 s.2 = some r) fuel ((0 : UInt64), (0 : Int)) h rfl rfl rfl rfl rfl (fun s h => by cases h) ?_
    rintro nf ⟨sum1, i1⟩ h
    replace h : ref_Check05L1B l (ref_Check05L1 l nf) sum1 i1 = some r := h
    unfold ref_Check05L1B at h
    refine Tk_seq ?_
    refine Tk_seq ?_
    refine Tk_region ?_
    refine Tops_step rfl (OpT_move rfl rfl rfl rfl) ?_
    refine Tops_step rfl (OpT_move rfl rfl rfl rfl) ?_
    refine Tops_step rfl (OpT_lenS rfl rfl rfl rfl Try.underlying54 (i := 0) rfl) ?_
    refine Tops_step rfl (OpT_bin rfl rfl rfl rfl rfl (bin_lss_i (a := i1) (b := len l))) ?_
    refine Tops_nil ?_
    refine Tk_wkS (fr' := [(0, some (vl1)), (3, some (vU64 sum1)), (4, some (vI i1)), (11, some (vB (decide (i1 < (len l)))))]) (own' := []) (shr' := [Fact.sl SegS vl1 l]) [0, 3, 4, 11] [] [0] rfl rfl rfl rfl ?_
    rcases Bool.eq_false_or_eq_true (decide (i1 < (len l))) with hg2 | hg2
    · replace h := br_t hg2 h
      refine Tk_condT (congrArg (fun b => some (Value.bool b)) hg2) ?_
      refine Tk_skip ?_
      refine Tk_seq ?_
      refine Tk_block ?_
      refine Tk_seq ?_
      refine Tk_seq ?_
      refine Tk_drawT (by kernel_rfl) ?_
      refine TA_tb [0, 0, 3, 7, 15, 31, 63, 127, 127, 511, 1023, 2047, 127, 127, 12415, 28799, 61567, 127103, 258175, 524287, 127, 127, 3145855, 7340159, 15728767, 33554431, 67108863, 134217727, 268435455, 536870911, 1073741823, 2147483647, 2147483647, 6442450943, 17179869183, 34359738367, 68719476735, 137438953471, 274877906943, 549755813887, 549755813887, 2199023255551, 4398046511103, 8796093022207, 17592186044415, 35184372088831, 70368744177663] (by kernel_rfl) fun htb => ?_
      refine TA_wkS (fr' := [(0, some (vl1)), (3, some (vU64 sum1)), (4, some (vI i1))]) (own' := []) (shr' := [Fact.sl SegS vl1 l]) [0, 3, 4] [] [0] rfl rfl rfl rfl ?_
      refine TA_seg (lo := 0) (hi := 2) htb rfl rfl (by kernel_rfl) (fun c L a w => Sat c ⟨[(0, some (vl1)), (3, some (vU64 sum1)), (4, some (vI i1)), (14, bif L 0 then some (vl1) else none), (15, bif L 1 then some (vI i1) else none)], [], [Fact.sl SegS vl1 l]⟩ a w) [([], []), ([], [])] rfl (by kernel_rfl) ?_ (steps_cons ?_ (steps_cons ?_ (steps_nil))) ?_
      · intro a w hs
        exact hs.startF [14, 15] [] [0] rfl rfl rfl rfl
      · intro L a w hv K Q hK
        have hs := hv
        refine wpOp_go rfl rfl hs (OpT_move rfl rfl rfl rfl) ?_
        rintro _ rfl a' w' hs'
        exact hK a' w' (hs'.putF (i := 3) rfl [] [0] rfl rfl rfl rfl)
      · intro L a w hv K Q hK
        have hs := hv
        refine wpOp_go rfl rfl hs (OpT_move rfl rfl rfl rfl) ?_
        rintro _ rfl a' w' hs'
        exact hK a' w' (hs'.putF (i := 4) rfl [] [0] rfl rfl rfl rfl)
      · intro L a w hL hv
        rw [allTrue hL] at hv
        have hs := hv
        refine (show TA _ _ _ 2 ⟨[(0, some (vl1)), (3, some (vU64 sum1)), (4, some (vI i1)), (14, some (vl1)), (15, some (vI i1))], [], [Fact.sl SegS vl1 l]⟩ from ?_) a w (hs.wkS [0, 3, 4, 14, 15] [] [0] rfl rfl rfl rfl)
        clear hs hL
        obtain ⟨s1, hx1, h⟩ := ob_e h
        refine TA_ex htb (by kernel_rfl) rfl rfl (OpT_idxS rfl rfl rfl rfl rfl slF54 (i := 0) rfl hx1) fun p1 => ?_
        refine TA_ex htb (by kernel_rfl) rfl rfl (OpT_fieldP (S' := u32S) (y := s1.Len) rfl rfl rfl rfl fldF73x1 (i := 1) rfl (by intro h cs hr; subst hr; rfl)) fun p2 => ?_
        refine TA_step htb (by kernel_rfl) rfl rfl (OpT_loadP rfl rfl rfl rfl tyF71 (i := 2) rfl rfl) ?_
        refine TA_step htb (by kernel_rfl) rfl rfl (OpT_bin rfl rfl rfl rfl rfl (bin_eql_u32 (a := s1.Len) (b := (0 : UInt32)))) ?_
        refine TA_step htb (by kernel_rfl) rfl rfl (OpT_move rfl rfl rfl rfl) ?_
        refine TA_wkS (fr' := [(0, some (vl1)), (3, some (vU64 sum1)), (4, some (vI i1)), (20, some (vB (s1.Len == (0 : UInt32))))]) (own' := []) (shr' := [Fact.sl SegS vl1 l]) [0, 3, 4, 20] [] [0] rfl rfl rfl rfl ?_
        rcases Bool.eq_false_or_eq_true (s1.Len == (0 : UInt32)) with hg3 | hg3
        · replace h := br_t hg3 h
          refine TA_seg (lo := 7) (hi := 25) htb rfl rfl (by kernel_rfl) (fun c L a w => Sat c ⟨[(0, some (vl1)), (3, some (vU64 sum1)), (4, some (vI i1)), (20, some (vB (s1.Len == (0 : UInt32)))), (21, bif L 7 then some (undef) else none), (22, bif L 8 then some (undef) else none), (23, bif L 9 then some (undef) else none), (24, bif L 10 then some (undef) else none), (25, bif L 11 then some (undef) else none), (26, bif L 12 then some (undef) else none), (27, bif L 13 then some (undef) else none), (28, bif L 14 then some (undef) else none), (29, bif L 15 then some (undef) else none), (30, bif L 16 then some (undef) else none), (31, bif L 17 then some (undef) else none), (32, bif L 18 then some (undef) else none), (33, bif L 19 then some (undef) else none), (34, bif L 20 then some (undef) else none), (35, bif L 21 then some (undef) else none), (36, bif L 22 then some (undef) else none), (37, bif L 23 then some (undef) else none), (38, bif L 24 then some (undef) else none)], [], [Fact.sl SegS vl1 l]⟩ a w) [([], [9, 10, 11, 19]), ([], [9, 10, 11, 19]), ([7, 8], [10, 11, 19]), ([7, 8, 9], [11, 19]), ([7, 8, 9, 10], [19]), ([], [14, 15, 16, 17, 18, 19]), ([], [14, 15, 16, 17, 18, 19]), ([12, 13], [15, 16, 17, 18, 19]), ([12, 13, 14], [16, 17, 18, 19]), ([12, 13, 14, 15], [17, 18, 19]), ([12, 13, 14, 15, 16], [18, 19]), ([12, 13, 14, 15, 16, 17], [19]), ([7, 8, 9, 10, 11, 12, 13, 14, 15, 16, 17, 18], []), ([], [22, 23, 24]), ([], [22, 23, 24]), ([20, 21], [23, 24]), ([20, 21, 22], [24]), ([20, 21, 22, 23], [])] rfl (by kernel_rfl) ?_ (steps_cons ?_ (steps_cons ?_ (steps_cons ?_ (steps_cons ?_ (steps_cons ?_ (steps_cons ?_ (steps_cons ?_ (steps_cons ?_ (steps_cons ?_ (steps_cons ?_ (steps_cons ?_ (steps_cons ?_ (steps_cons ?_ (steps_cons ?_ (steps_cons ?_ (steps_cons ?_ (steps_cons ?_ (steps_cons ?_ (steps_nil))))))))))))))))))) ?_
          · intro a w hs
            exact hs.startF [21, 22, 23, 24, 25, 26, 27, 28, 29, 30, 31, 32, 33, 34, 35, 36, 37, 38] [] [0] rfl rfl rfl rfl
          · intro L a w hv K Q hK
            have hs := hv
            refine wpOp_no rfl rfl rfl hs (congrArg (fun b => some (Value.bool b)) hg3) rfl rfl ?_
            intro a' w' hs'
            exact hK a' w' (hs'.putF (i := 4) rfl [] [0] rfl rfl rfl rfl)
          · intro L a w hv K Q hK
            have hs := hv
            refine wpOp_no rfl rfl rfl hs (congrArg (fun b => some (Value.bool b)) hg3) rfl rfl ?_
            intro a' w' hs'
            exact hK a' w' (hs'.putF (i := 5) rfl [] [0] rfl rfl rfl rfl)
          · intro L a w hv K Q hK
            have hs := hv
            refine wpOp_no rfl rfl rfl hs (congrArg (fun b => some (Value.bool b)) hg3) rfl rfl ?_
            intro a' w' hs'
            exact hK a' w' (hs'.putF (i := 6) rfl [] [0] rfl rfl rfl rfl)
          · intro L a w hv K Q hK
            have hs := hv
            refine wpOp_no rfl rfl rfl hs (congrArg (fun b => some (Value.bool b)) hg3) rfl rfl ?_
            intro a' w' hs'
            exact hK a' w' (hs'.putF (i := 7) rfl [] [0] rfl rfl rfl rfl)
          · intro L a w hv K Q hK
            have hs := hv
            refine wpOp_no rfl rfl rfl hs (congrArg (fun b => some (Value.bool b)) hg3) rfl rfl ?_
            intro a' w' hs'
            exact hK a' w' (hs'.putF (i := 8) rfl [] [0] rfl rfl rfl rfl)
          · intro L a w hv K Q hK
            have hs := hv
            refine wpOp_no rfl rfl rfl hs (congrArg (fun b => some (Value.bool b)) hg3) rfl rfl ?_
            intro a' w' hs'
            exact hK a' w' (hs'.putF (i := 9) rfl [] [0] rfl rfl rfl rfl)
          · intro L a w hv K Q hK
            have hs := hv
            refine wpOp_no rfl rfl rfl hs (congrArg (fun b => some (Value.bool b)) hg3) rfl rfl ?_
            intro a' w' hs'
            exact hK a' w' (hs'.putF (i := 10) rfl [] [0] rfl rfl rfl rfl)
          · intro L a w hv K Q hK
            have hs := hv
            refine wpOp_no rfl rfl rfl hs (congrArg (fun b => some (Value.bool b)) hg3) rfl rfl ?_
            intro a' w' hs'
            exact hK a' w' (hs'.putF (i := 11) rfl [] [0] rfl rfl rfl rfl)
          · intro L a w hv K Q hK
            have hs := hv
            refine wpOp_no rfl rfl rfl hs (congrArg (fun b => some (Value.bool b)) hg3) rfl rfl ?_
            intro a' w' hs'
            exact hK a' w' (hs'.putF (i := 12) rfl [] [0] rfl rfl rfl rfl)
          · intro L a w hv K Q hK
            have hs := hv
            refine wpOp_no rfl rfl rfl hs (congrArg (fun b => some (Value.bool b)) hg3) rfl rfl ?_
            intro a' w' hs'
            exact hK a' w' (hs'.putF (i := 13) rfl [] [0] rfl rfl rfl rfl)
          · intro L a w hv K Q hK
            have hs := hv
            refine wpOp_no rfl rfl rfl hs (congrArg (fun b => some (Value.bool b)) hg3) rfl rfl ?_
            intro a' w' hs'
            exact hK a' w' (hs'.putF (i := 14) rfl [] [0] rfl rfl rfl rfl)
          · intro L a w hv K Q hK
            have hs := hv
            refine wpOp_no rfl rfl rfl hs (congrArg (fun b => some (Value.bool b)) hg3) rfl rfl ?_
            intro a' w' hs'
            exact hK a' w' (hs'.putF (i := 15) rfl [] [0] rfl rfl rfl rfl)
          · intro L a w hv K Q hK
            have hs := hv
            refine wpOp_no rfl rfl rfl hs (congrArg (fun b => some (Value.bool b)) hg3) rfl rfl ?_
            intro a' w' hs'
            exact hK a' w' (hs'.putF (i := 16) rfl [] [0] rfl rfl rfl rfl)
          · intro L a w hv K Q hK
            have hs := hv
            refine wpOp_no rfl rfl rfl hs (congrArg (fun b => some (Value.bool b)) hg3) rfl rfl ?_
            intro a' w' hs'
            exact hK a' w' (hs'.putF (i := 17) rfl [] [0] rfl rfl rfl rfl)
          · intro L a w hv K Q hK
            have hs := hv
            refine wpOp_no rfl rfl rfl hs (congrArg (fun b => some (Value.bool b)) hg3) rfl rfl ?_
            intro a' w' hs'
            exact hK a' w' (hs'.putF (i := 18) rfl [] [0] rfl rfl rfl rfl)
          · intro L a w hv K Q hK
            have hs := hv
            refine wpOp_no rfl rfl rfl hs (congrArg (fun b => some (Value.bool b)) hg3) rfl rfl ?_
            intro a' w' hs'
            exact hK a' w' (hs'.putF (i := 19) rfl [] [0] rfl rfl rfl rfl)
          · intro L a w hv K Q hK
            have hs := hv
            refine wpOp_no rfl rfl rfl hs (congrArg (fun b => some (Value.bool b)) hg3) rfl rfl ?_
            intro a' w' hs'
            exact hK a' w' (hs'.putF (i := 20) rfl [] [0] rfl rfl rfl rfl)
          · intro L a w hv K Q hK
            have hs := hv
            refine wpOp_no rfl rfl rfl hs (congrArg (fun b => some (Value.bool b)) hg3) rfl rfl ?_
            intro a' w' hs'
            exact hK a' w' (hs'.putF (i := 21) rfl [] [0] rfl rfl rfl rfl)
          · intro L a w hL hv
            rw [allTrue hL] at hv
            have hs := hv
            refine (show TA _ _ _ 25 ⟨[(0, some (vl1)), (3, some (vU64 sum1)), (4, some (vI i1)), (20, some (vB (s1.Len == (0 : UInt32)))), (33, some (undef)), (38, some (undef))], [], [Fact.sl SegS vl1 l]⟩ from ?_) a w (hs.wkS [0, 3, 4, 20, 33, 38] [] [0] rfl rfl rfl rfl)
            clear hs hL
            refine TA_no htb (by kernel_rfl) rfl rfl rfl (congrArg (fun b => some (Value.bool b)) hg3) rfl rfl ?_
            refine TA_step htb (by kernel_rfl) rfl rfl (OpT_pickT rfl rfl rfl (congrArg (fun b => some (Value.bool b)) hg3) rfl) ?_
            refine TA_step htb (by kernel_rfl) rfl rfl (OpT_move rfl rfl rfl rfl) ?_
            refine TA_no htb (by kernel_rfl) rfl rfl rfl rfl rfl rfl ?_
            refine TA_no htb (by kernel_rfl) rfl rfl rfl rfl rfl rfl ?_
            refine TA_no htb (by kernel_rfl) rfl rfl rfl rfl rfl rfl ?_
            refine TA_wkS (fr' := [(0, some (vl1)), (3, some (vU64 sum1)), (4, some (vI i1)), (41, some (vB true)), (44, some (undef))]) (own' := []) (shr' := [Fact.sl SegS vl1 l]) [0, 3, 4, 41, 44] [] [0] rfl rfl rfl rfl ?_
            refine TA_seg (lo := 31) (hi := 34) htb rfl rfl (by kernel_rfl) (fun c L a w => Sat c ⟨[(0, some (vl1)), (3, some (vU64 sum1)), (4, some (vI i1)), (41, some (vB true)), (44, some (undef)), (45, bif L 31 then some (undef) else none), (46, bif L 32 then some (undef) else none), (47, bif L 33 then some (undef) else none)], [], [Fact.sl SegS vl1 l]⟩ a w) [([], []), ([], [33]), ([32], [])] rfl (by kernel_rfl) ?_ (steps_cons ?_ (steps_cons ?_ (steps_cons ?_ (steps_nil)))) ?_
            · intro a w hs
              exact hs.startF [45, 46, 47] [] [0] rfl rfl rfl rfl
            · intro L a w hv K Q hK
              have hs := hv
              refine wpOp_noU rfl rfl rfl hs rfl rfl rfl ?_
              intro a' w' hs'
              exact hK a' w' (hs'.putF (i := 5) rfl [] [0] rfl rfl rfl rfl)
            · intro L a w hv K Q hK
              have hs := hv
              refine wpOp_noU rfl rfl rfl hs rfl rfl rfl ?_
              intro a' w' hs'
              exact hK a' w' (hs'.putF (i := 6) rfl [] [0] rfl rfl rfl rfl)
            · intro L a w hv K Q hK
              have hs := hv
              refine wpOp_noU rfl rfl rfl hs rfl rfl rfl ?_
              intro a' w' hs'
              exact hK a' w' (hs'.putF (i := 7) rfl [] [0] rfl rfl rfl rfl)
            · intro L a w hL hv
              rw [allTrue hL] at hv
              have hs := hv
              refine (show TA _ _ _ 34 ⟨[(0, some (vl1)), (3, some (vU64 sum1)), (4, some (vI i1)), (41, some (vB true)), (44, some (undef)), (45, some (undef)), (47, some (undef))], [], [Fact.sl SegS vl1 l]⟩ from ?_) a w (hs.wkS [0, 3, 4, 41, 44, 45, 47] [] [0] rfl rfl rfl rfl)
              clear hs hL
              refine TA_noU htb (by kernel_rfl) rfl rfl rfl rfl rfl rfl ?_
              refine TA_noU htb (by kernel_rfl) rfl rfl rfl rfl rfl rfl ?_
              refine TA_noU htb (by kernel_rfl) rfl rfl rfl rfl rfl rfl ?_
              refine TA_no htb (by kernel_rfl) rfl rfl rfl rfl rfl rfl ?_
              refine TA_no htb (by kernel_rfl) rfl rfl rfl rfl rfl rfl ?_
              refine TA_wkS (fr' := [(0, some (vl1)), (3, some (vU64 sum1)), (4, some (vI i1)), (41, some (vB true)), (52, some (undef))]) (own' := []) (shr' := [Fact.sl SegS vl1 l]) [0, 3, 4, 41, 52] [] [0] rfl rfl rfl rfl ?_
              refine TA_seg (lo := 39) (hi := 41) htb rfl rfl (by kernel_rfl) (fun c L a w => Sat c ⟨[(0, some (vl1)), (3, some (vU64 sum1)), (4, some (vI i1)), (41, some (vB true)), (52, some (undef)), (53, bif L 39 then some (undef) else none), (54, bif L 40 then some (undef) else none)], [], [Fact.sl SegS vl1 l]⟩ a w) [([], []), ([], [])] rfl (by kernel_rfl) ?_ (steps_cons ?_ (steps_cons ?_ (steps_nil))) ?_
              · intro a w hs
                exact hs.startF [53, 54] [] [0] rfl rfl rfl rfl
              · intro L a w hv K Q hK
                have hs := hv
                refine wpOp_noU rfl rfl rfl hs rfl rfl rfl ?_
                intro a' w' hs'
                exact hK a' w' (hs'.putF (i := 5) rfl [] [0] rfl rfl rfl rfl)
              · intro L a w hv K Q hK
                have hs := hv
                refine wpOp_noU rfl rfl rfl hs rfl rfl rfl ?_
                intro a' w' hs'
                exact hK a' w' (hs'.putF (i := 6) rfl [] [0] rfl rfl rfl rfl)
              · intro L a w hL hv
                rw [allTrue hL] at hv
                have hs := hv
                refine (show TA _ _ _ 41 ⟨[(0, some (vl1)), (3, some (vU64 sum1)), (4, some (vI i1)), (41, some (vB true)), (52, some (undef)), (53, some (undef)), (54, some (undef))], [], [Fact.sl SegS vl1 l]⟩ from ?_) a w (hs.wkS [0, 3, 4, 41, 52, 53, 54] [] [0] rfl rfl rfl rfl)
                clear hs hL
                refine TA_noU htb (by kernel_rfl) rfl rfl rfl rfl rfl rfl ?_
                refine TA_noU htb (by kernel_rfl) rfl rfl rfl rfl rfl rfl ?_
                refine TA_noU htb (by kernel_rfl) rfl rfl rfl rfl rfl rfl ?_
                refine TA_noU htb (by kernel_rfl) rfl rfl rfl rfl rfl rfl ?_
                refine TA_no htb (by kernel_rfl) rfl rfl rfl rfl rfl rfl ?_
                refine TA_step htb (by kernel_rfl) rfl rfl (OpT_pickT rfl rfl rfl rfl rfl) ?_
                refine TA_end rfl ?_
                refine Tk_wkS (fr' := [(0, some (vl1)), (3, some (vU64 sum1)), (4, some (vI i1)), (60, some (vB true))]) (own' := []) (shr' := [Fact.sl SegS vl1 l]) [0, 3, 4, 60] [] [0] rfl rfl rfl rfl ?_
                refine Tk_condT rfl ?_
                refine Tk_seq ?_
                refine Tk_region ?_
                refine Tops_step rfl (OpT_assign rfl rfl rfl rfl) ?_
                refine Tops_nil ?_
                refine Tk_wkS (fr' := [(2, some (vI (2 : Int)))]) (own' := []) (shr' := []) [2] [] [] rfl rfl rfl rfl ?_
                obtain rfl := Option.some.inj h
                exact Tk_retV rfl rfl (resA (vs := [vI (2 : Int)]) rfl ⟨rfl, trivial⟩) [] [] rfl rfl rfl ⟨rfl, rfl, rfl⟩
        · replace h := br_f hg3 h
          obtain ⟨s2, hx2, h⟩ := ob_e h
          obtain ⟨s3, hx3, h⟩ := ob_e h
          obtain ⟨s4, hx4, h⟩ := ob_e h
          refine TA_seg (lo := 7) (hi := 25) htb rfl rfl (by kernel_rfl) (fun c L a w => ∃ (p3 : Value), ∃ (p4 : Value), ∃ (p5 : Value), ∃ (p6 : Value), ∃ (p7 : Value), ∃ (p8 : Value), Sat c ⟨[(0, some (vl1)), (3, some (vU64 sum1)), (4, some (vI i1)), (20, some (vB (s1.Len == (0 : UInt32)))), (21, bif L 7 then some (vl1) else none), (22, bif L 8 then some (vI i1) else none), (23, bif L 9 then some (p3) else none), (24, bif L 10 then some (p4) else none), (25, bif L 11 then some (vU64 s2.At) else none), (26, bif L 12 then some (vl1) else none), (27, bif L 13 then some (vI i1) else none), (28, bif L 14 then some (p5) else none), (29, bif L 15 then some (p6) else none), (30, bif L 16 then some (vU32 s3.Len) else none), (31, bif L 17 then some (vU64 s3.Len.toUInt64) else none), (32, bif L 18 then some (vU64 (s3.Len.toUInt64 - (1 : UInt64))) else none), (33, bif L 19 then some (vU64 (s2.At + (s3.Len.toUInt64 - (1 : UInt64)))) else none), (34, bif L 20 then some (vl1) else none), (35, bif L 21 then some (vI i1) else none), (36, bif L 22 then some (p7) else none), (37, bif L 23 then some (p8) else none), (38, bif L 24 then some (vU64 s4.At) else none)], [], [Fact.sl SegS vl1 l, (bif L 9 then Fact.pt SegS p3 s2 else Fact.tt), (bif L 10 then Fact.pt u64S p4 s2.At else Fact.tt), (bif L 14 then Fact.pt SegS p5 s3 else Fact.tt), (bif L 15 then Fact.pt u32S p6 s3.Len else Fact.tt), (bif L 22 then Fact.pt SegS p7 s4 else Fact.tt), (bif L 23 then Fact.pt u64S p8 s4.At else Fact.tt)]⟩ a w) [([], [9, 10, 11, 19]), ([], [9, 10, 11, 19]), ([7, 8], [10, 11, 19]), ([7, 8, 9], [11, 19]), ([7, 8, 9, 10], [19]), ([], [14, 15, 16, 17, 18, 19]), ([], [14, 15, 16, 17, 18, 19]), ([12, 13], [15, 16, 17, 18, 19]), ([12, 13, 14], [16, 17, 18, 19]), ([12, 13, 14, 15], [17, 18, 19]), ([12, 13, 14, 15, 16], [18, 19]), ([12, 13, 14, 15, 16, 17], [19]), ([7, 8, 9, 10, 11, 12, 13, 14, 15, 16, 17, 18], []), ([], [22, 23, 24]), ([], [22, 23, 24]), ([20, 21], [23, 24]), ([20, 21, 22], [24]), ([20, 21, 22, 23], [])] rfl (by kernel_rfl) ?_ (steps_cons ?_ (steps_cons ?_ (steps_cons ?_ (steps_cons ?_ (steps_cons ?_ (steps_cons ?_ (steps_cons ?_ (steps_cons ?_ (steps_cons ?_ (steps_cons ?_ (steps_cons ?_ (steps_cons ?_ (steps_cons ?_ (steps_cons ?_ (steps_cons ?_ (steps_cons ?_ (steps_cons ?_ (steps_cons ?_ (steps_nil))))))))))))))))))) ?_
          · intro a w hs
            exact ⟨undef, undef, undef, undef, undef, undef, hs.startF [21, 22, 23, 24, 25, 26, 27, 28, 29, 30, 31, 32, 33, 34, 35, 36, 37, 38] [] [0, 1, 2, 3, 4, 5, 6] rfl rfl rfl rfl⟩
          · intro L a w hv K Q hK
            obtain ⟨p3, p4, p5, p6, p7, p8, hs⟩ := hv
            refine wpOp_yes rfl rfl rfl hs (congrArg (fun b => some (Value.bool b)) hg3) (OpT_move rfl rfl rfl rfl) ?_
            rintro _ rfl a' w' hs'
            exact hK a' w' ⟨p3, p4, p5, p6, p7, p8, hs'.putF (i := 4) rfl [] [0, 1, 2, 3, 4, 5, 6] rfl rfl rfl rfl⟩
          · intro L a w hv K Q hK
            obtain ⟨p3, p4, p5, p6, p7, p8, hs⟩ := hv
            refine wpOp_yes rfl rfl rfl hs (congrArg (fun b => some (Value.bool b)) hg3) (OpT_move rfl rfl rfl rfl) ?_
            rintro _ rfl a' w' hs'
            exact hK a' w' ⟨p3, p4, p5, p6, p7, p8, hs'.putF (i := 5) rfl [] [0, 1, 2, 3, 4, 5, 6] rfl rfl rfl rfl⟩
          · intro L a w hv K Q hK
            obtain ⟨p3, p4, p5, p6, p7, p8, hs⟩ := hv
            refine wpOp_yes rfl rfl rfl hs (congrArg (fun b => some (Value.bool b)) hg3) (OpT_idxS rfl rfl rfl rfl rfl slF54 (i := 0) rfl hx2) ?_
            rintro _ ⟨p3', rfl⟩ a' w' hs'
            exact hK a' w' ⟨p3', p4, p5, p6, p7, p8, hs'.putF (i := 6) rfl [] [0, 7, 2, 3, 4, 5, 6] rfl rfl rfl rfl⟩
          · intro L a w hv K Q hK
            obtain ⟨p3, p4, p5, p6, p7, p8, hs⟩ := hv
            refine wpOp_yes rfl rfl rfl hs (congrArg (fun b => some (Value.bool b)) hg3) (OpT_fieldP (S' := u64S) (y := s2.At) rfl rfl rfl rfl fldF73x0 (i := 1) rfl (by intro h cs hr; subst hr; rfl)) ?_
            rintro _ ⟨p4', rfl⟩ a' w' hs'
            exact hK a' w' ⟨p3, p4', p5, p6, p7, p8, hs'.putF (i := 7) rfl [] [0, 1, 7, 3, 4, 5, 6] rfl rfl rfl rfl⟩
          · intro L a w hv K Q hK
            obtain ⟨p3, p4, p5, p6, p7, p8, hs⟩ := hv
            refine wpOp_yes rfl rfl rfl hs (congrArg (fun b => some (Value.bool b)) hg3) (OpT_loadP rfl rfl rfl rfl tyF53 (i := 2) rfl rfl) ?_
            rintro _ rfl a' w' hs'
            exact hK a' w' ⟨p3, p4, p5, p6, p7, p8, hs'.putF (i := 8) rfl [] [0, 1, 2, 3, 4, 5, 6] rfl rfl rfl rfl⟩
          · intro L a w hv K Q hK
            obtain ⟨p3, p4, p5, p6, p7, p8, hs⟩ := hv
            refine wpOp_yes rfl rfl rfl hs (congrArg (fun b => some (Value.bool b)) hg3) (OpT_move rfl rfl rfl rfl) ?_
            rintro _ rfl a' w' hs'
            exact hK a' w' ⟨p3, p4, p5, p6, p7, p8, hs'.putF (i := 9) rfl [] [0, 1, 2, 3, 4, 5, 6] rfl rfl rfl rfl⟩
          · intro L a w hv K Q hK
            obtain ⟨p3, p4, p5, p6, p7, p8, hs⟩ := hv
            refine wpOp_yes rfl rfl rfl hs (congrArg (fun b => some (Value.bool b)) hg3) (OpT_move rfl rfl rfl rfl) ?_
            rintro _ rfl a' w' hs'
            exact hK a' w' ⟨p3, p4, p5, p6, p7, p8, hs'.putF (i := 10) rfl [] [0, 1, 2, 3, 4, 5, 6] rfl rfl rfl rfl⟩
          · intro L a w hv K Q hK
            obtain ⟨p3, p4, p5, p6, p7, p8, hs⟩ := hv
            refine wpOp_yes rfl rfl rfl hs (congrArg (fun b => some (Value.bool b)) hg3) (OpT_idxS rfl rfl rfl rfl rfl slF54 (i := 0) rfl hx3) ?_
            rintro _ ⟨p5', rfl⟩ a' w' hs'
            exact hK a' w' ⟨p3, p4, p5', p6, p7, p8, hs'.putF (i := 11) rfl [] [0, 1, 2, 7, 4, 5, 6] rfl rfl rfl rfl⟩
          · intro L a w hv K Q hK
            obtain ⟨p3, p4, p5, p6, p7, p8, hs⟩ := hv
            refine wpOp_yes rfl rfl rfl hs (congrArg (fun b => some (Value.bool b)) hg3) (OpT_fieldP (S' := u32S) (y := s3.Len) rfl rfl rfl rfl fldF73x1 (i := 3) rfl (by intro h cs hr; subst hr; rfl)) ?_
            rintro _ ⟨p6', rfl⟩ a' w' hs'
            exact hK a' w' ⟨p3, p4, p5, p6', p7, p8, hs'.putF (i := 12) rfl [] [0, 1, 2, 3, 7, 5, 6] rfl rfl rfl rfl⟩
          · intro L a w hv K Q hK
            obtain ⟨p3, p4, p5, p6, p7, p8, hs⟩ := hv
            refine wpOp_yes rfl rfl rfl hs (congrArg (fun b => some (Value.bool b)) hg3) (OpT_loadP rfl rfl rfl rfl tyF71 (i := 4) rfl rfl) ?_
            rintro _ rfl a' w' hs'
            exact hK a' w' ⟨p3, p4, p5, p6, p7, p8, hs'.putF (i := 13) rfl [] [0, 1, 2, 3, 4, 5, 6] rfl rfl rfl rfl⟩
          · intro L a w hv K Q hK
            obtain ⟨p3, p4, p5, p6, p7, p8, hs⟩ := hv
            refine wpOp_yes rfl rfl rfl hs (congrArg (fun b => some (Value.bool b)) hg3) (OpT_cnv rfl rfl rfl rfl (cnv_u32_u64 (n := s3.Len) Try.underlying71 Try.underlying53)) ?_
            rintro _ rfl a' w' hs'
            exact hK a' w' ⟨p3, p4, p5, p6, p7, p8, hs'.putF (i := 14) rfl [] [0, 1, 2, 3, 4, 5, 6] rfl rfl rfl rfl⟩
          · intro L a w hv K Q hK
            obtain ⟨p3, p4, p5, p6, p7, p8, hs⟩ := hv
            refine wpOp_yes rfl rfl rfl hs (congrArg (fun b => some (Value.bool b)) hg3) (OpT_bin rfl rfl rfl rfl rfl (bin_sub_u64 (a := s3.Len.toUInt64) (b := (1 : UInt64)))) ?_
            rintro _ rfl a' w' hs'
            exact hK a' w' ⟨p3, p4, p5, p6, p7, p8, hs'.putF (i := 15) rfl [] [0, 1, 2, 3, 4, 5, 6] rfl rfl rfl rfl⟩
          · intro L a w hv K Q hK
            obtain ⟨p3, p4, p5, p6, p7, p8, hs⟩ := hv
            refine wpOp_yes rfl rfl rfl hs (congrArg (fun b => some (Value.bool b)) hg3) (OpT_bin rfl rfl rfl rfl rfl (bin_add_u64 (a := s2.At) (b := s3.Len.toUInt64 - (1 : UInt64)))) ?_
            rintro _ rfl a' w' hs'
            exact hK a' w' ⟨p3, p4, p5, p6, p7, p8, hs'.putF (i := 16) rfl [] [0, 1, 2, 3, 4, 5, 6] rfl rfl rfl rfl⟩
          · intro L a w hv K Q hK
            obtain ⟨p3, p4, p5, p6, p7, p8, hs⟩ := hv
            refine wpOp_yes rfl rfl rfl hs (congrArg (fun b => some (Value.bool b)) hg3) (OpT_move rfl rfl rfl rfl) ?_
            rintro _ rfl a' w' hs'
            exact hK a' w' ⟨p3, p4, p5, p6, p7, p8, hs'.putF (i := 17) rfl [] [0, 1, 2, 3, 4, 5, 6] rfl rfl rfl rfl⟩
          · intro L a w hv K Q hK
            obtain ⟨p3, p4, p5, p6, p7, p8, hs⟩ := hv
            refine wpOp_yes rfl rfl rfl hs (congrArg (fun b => some (Value.bool b)) hg3) (OpT_move rfl rfl rfl rfl) ?_
            rintro _ rfl a' w' hs'
            exact hK a' w' ⟨p3, p4, p5, p6, p7, p8, hs'.putF (i := 18) rfl [] [0, 1, 2, 3, 4, 5, 6] rfl rfl rfl rfl⟩
          · intro L a w hv K Q hK
            obtain ⟨p3, p4, p5, p6, p7, p8, hs⟩ := hv
            refine wpOp_yes rfl rfl rfl hs (congrArg (fun b => some (Value.bool b)) hg3) (OpT_idxS rfl rfl rfl rfl rfl slF54 (i := 0) rfl hx4) ?_
            rintro _ ⟨p7', rfl⟩ a' w' hs'
            exact hK a' w' ⟨p3, p4, p5, p6, p7', p8, hs'.putF (i := 19) rfl [] [0, 1, 2, 3, 4, 7, 6] rfl rfl rfl rfl⟩
          · intro L a w hv K Q hK
            obtain ⟨p3, p4, p5, p6, p7, p8, hs⟩ := hv
            refine wpOp_yes rfl rfl rfl hs (congrArg (fun b => some (Value.bool b)) hg3) (OpT_fieldP (S' := u64S) (y := s4.At) rfl rfl rfl rfl fldF73x0 (i := 5) rfl (by intro h cs hr; subst hr; rfl)) ?_
            rintro _ ⟨p8', rfl⟩ a' w' hs'
            exact hK a' w' ⟨p3, p4, p5, p6, p7, p8', hs'.putF (i := 20) rfl [] [0, 1, 2, 3, 4, 5, 7] rfl rfl rfl rfl⟩
          · intro L a w hv K Q hK
            obtain ⟨p3, p4, p5, p6, p7, p8, hs⟩ := hv
            refine wpOp_yes rfl rfl rfl hs (congrArg (fun b => some (Value.bool b)) hg3) (OpT_loadP rfl rfl rfl rfl tyF53 (i := 6) rfl rfl) ?_
            rintro _ rfl a' w' hs'
            exact hK a' w' ⟨p3, p4, p5, p6, p7, p8, hs'.putF (i := 21) rfl [] [0, 1, 2, 3, 4, 5, 6] rfl rfl rfl rfl⟩
          · intro L a w hL hv
            rw [allTrue hL] at hv
            obtain ⟨p3, p4, p5, p6, p7, p8, hs⟩ := hv
            refine (show TA _ _ _ 25 ⟨[(0, some (vl1)), (3, some (vU64 sum1)), (4, some (vI i1)), (20, some (vB (s1.Len == (0 : UInt32)))), (33, some (vU64 (s2.At + (s3.Len.toUInt64 - (1 : UInt64))))), (38, some (vU64 s4.At))], [], [Fact.sl SegS vl1 l]⟩ from ?_) a w (hs.wkS [0, 3, 4, 20, 33, 38] [] [0] rfl rfl rfl rfl)
            clear hs hL
            refine TA_yes htb (by kernel_rfl) rfl rfl rfl (congrArg (fun b => some (Value.bool b)) hg3) (OpT_bin rfl rfl rfl rfl rfl (bin_lss_u64 (a := s2.At + (s3.Len.toUInt64 - (1 : UInt64))) (b := s4.At))) ?_
            rintro _ rfl
            refine TA_step htb (by kernel_rfl) rfl rfl (OpT_pickF rfl rfl rfl (congrArg (fun b => some (Value.bool b)) hg3) rfl) ?_
            refine TA_step htb (by kernel_rfl) rfl rfl (OpT_move rfl rfl rfl rfl) ?_
            rcases Bool.eq_false_or_eq_true (decide ((s2.At + (s3.Len.toUInt64 - (1 : UInt64))) < s4.At)) with hg4 | hg4
            · replace h := br_t hg4 h
              refine TA_no htb (by kernel_rfl) rfl rfl rfl (congrArg (fun b => some (Value.bool b)) hg4) rfl rfl ?_
              refine TA_no htb (by kernel_rfl) rfl rfl rfl (congrArg (fun b => some (Value.bool b)) hg4) rfl rfl ?_
              refine TA_no htb (by kernel_rfl) rfl rfl rfl (congrArg (fun b => some (Value.bool b)) hg4) rfl rfl ?_
              refine TA_wkS (fr' := [(0, some (vl1)), (3, some (vU64 sum1)), (4, some (vI i1)), (41, some (vB (decide ((s2.At + (s3.Len.toUInt64 - (1 : UInt64))) < s4.At)))), (44, some (undef))]) (own' := []) (shr' := [Fact.sl SegS vl1 l]) [0, 3, 4, 41, 44] [] [0] rfl rfl rfl rfl ?_
              refine TA_seg (lo := 31) (hi := 34) htb rfl rfl (by kernel_rfl) (fun c L a w => Sat c ⟨[(0, some (vl1)), (3, some (vU64 sum1)), (4, some (vI i1)), (41, some (vB (decide ((s2.At + (s3.Len.toUInt64 - (1 : UInt64))) < s4.At)))), (44, some (undef)), (45, bif L 31 then some (undef) else none), (46, bif L 32 then some (undef) else none), (47, bif L 33 then some (undef) else none)], [], [Fact.sl SegS vl1 l]⟩ a w) [([], []), ([], [33]), ([32], [])] rfl (by kernel_rfl) ?_ (steps_cons ?_ (steps_cons ?_ (steps_cons ?_ (steps_nil)))) ?_
              · intro a w hs
                exact hs.startF [45, 46, 47] [] [0] rfl rfl rfl rfl
              · intro L a w hv K Q hK
                have hs := hv
                refine wpOp_noU rfl rfl rfl hs rfl rfl rfl ?_
                intro a' w' hs'
                exact hK a' w' (hs'.putF (i := 5) rfl [] [0] rfl rfl rfl rfl)
              · intro L a w hv K Q hK
                have hs := hv
                refine wpOp_noU rfl rfl rfl hs rfl rfl rfl ?_
                intro a' w' hs'
                exact hK a' w' (hs'.putF (i := 6) rfl [] [0] rfl rfl rfl rfl)
              · intro L a w hv K Q hK
                have hs := hv
                refine wpOp_noU rfl rfl rfl hs rfl rfl rfl ?_
                intro a' w' hs'
                exact hK a' w' (hs'.putF (i := 7) rfl [] [0] rfl rfl rfl rfl)
              · intro L a w hL hv
                rw [allTrue hL] at hv
                have hs := hv
                refine (show TA _ _ _ 34 ⟨[(0, some (vl1)), (3, some (vU64 sum1)), (4, some (vI i1)), (41, some (vB (decide ((s2.At + (s3.Len.toUInt64 - (1 : UInt64))) < s4.At)))), (44, some (undef)), (45, some (undef)), (47, some (undef))], [], [Fact.sl SegS vl1 l]⟩ from ?_) a w (hs.wkS [0, 3, 4, 41, 44, 45, 47] [] [0] rfl rfl rfl rfl)
                clear hs hL
                refine TA_noU htb (by kernel_rfl) rfl rfl rfl rfl rfl rfl ?_
                refine TA_noU htb (by kernel_rfl) rfl rfl rfl rfl rfl rfl ?_
                refine TA_noU htb (by kernel_rfl) rfl rfl rfl rfl rfl rfl ?_
                refine TA_no htb (by kernel_rfl) rfl rfl rfl (congrArg (fun b => some (Value.bool b)) hg4) rfl rfl ?_
                refine TA_no htb (by kernel_rfl) rfl rfl rfl (congrArg (fun b => some (Value.bool b)) hg4) rfl rfl ?_
                refine TA_wkS (fr' := [(0, some (vl1)), (3, some (vU64 sum1)), (4, some (vI i1)), (41, some (vB (decide ((s2.At + (s3.Len.toUInt64 - (1 : UInt64))) < s4.At)))), (52, some (undef))]) (own' := []) (shr' := [Fact.sl SegS vl1 l]) [0, 3, 4, 41, 52] [] [0] rfl rfl rfl rfl ?_
                refine TA_seg (lo := 39) (hi := 41) htb rfl rfl (by kernel_rfl) (fun c L a w => Sat c ⟨[(0, some (vl1)), (3, some (vU64 sum1)), (4, some (vI i1)), (41, some (vB (decide ((s2.At + (s3.Len.toUInt64 - (1 : UInt64))) < s4.At)))), (52, some (undef)), (53, bif L 39 then some (undef) else none), (54, bif L 40 then some (undef) else none)], [], [Fact.sl SegS vl1 l]⟩ a w) [([], []), ([], [])] rfl (by kernel_rfl) ?_ (steps_cons ?_ (steps_cons ?_ (steps_nil))) ?_
                · intro a w hs
                  exact hs.startF [53, 54] [] [0] rfl rfl rfl rfl
                · intro L a w hv K Q hK
                  have hs := hv
                  refine wpOp_noU rfl rfl rfl hs rfl rfl rfl ?_
                  intro a' w' hs'
                  exact hK a' w' (hs'.putF (i := 5) rfl [] [0] rfl rfl rfl rfl)
                · intro L a w hv K Q hK
                  have hs := hv
                  refine wpOp_noU rfl rfl rfl hs rfl rfl rfl ?_
                  intro a' w' hs'
                  exact hK a' w' (hs'.putF (i := 6) rfl [] [0] rfl rfl rfl rfl)
                · intro L a w hL hv
                  rw [allTrue hL] at hv
                  have hs := hv
                  refine (show TA _ _ _ 41 ⟨[(0, some (vl1)), (3, some (vU64 sum1)), (4, some (vI i1)), (41, some (vB (decide ((s2.At + (s3.Len.toUInt64 - (1 : UInt64))) < s4.At)))), (52, some (undef)), (53, some (undef)), (54, some (undef))], [], [Fact.sl SegS vl1 l]⟩ from ?_) a w (hs.wkS [0, 3, 4, 41, 52, 53, 54] [] [0] rfl rfl rfl rfl)
                  clear hs hL
                  refine TA_noU htb (by kernel_rfl) rfl rfl rfl rfl rfl rfl ?_
                  refine TA_noU htb (by kernel_rfl) rfl rfl rfl rfl rfl rfl ?_
                  refine TA_noU htb (by kernel_rfl) rfl rfl rfl rfl rfl rfl ?_
                  refine TA_noU htb (by kernel_rfl) rfl rfl rfl rfl rfl rfl ?_
                  refine TA_no htb (by kernel_rfl) rfl rfl rfl (congrArg (fun b => some (Value.bool b)) hg4) rfl rfl ?_
                  refine TA_step htb (by kernel_rfl) rfl rfl (OpT_pickT rfl rfl rfl (congrArg (fun b => some (Value.bool b)) hg4) rfl) ?_
                  refine TA_end rfl ?_
                  refine Tk_wkS (fr' := [(0, some (vl1)), (3, some (vU64 sum1)), (4, some (vI i1)), (60, some (vB true))]) (own' := []) (shr' := [Fact.sl SegS vl1 l]) [0, 3, 4, 60] [] [0] rfl rfl rfl rfl ?_
                  refine Tk_condT rfl ?_
                  refine Tk_seq ?_
                  refine Tk_region ?_
                  refine Tops_step rfl (OpT_assign rfl rfl rfl rfl) ?_
                  refine Tops_nil ?_
                  refine Tk_wkS (fr' := [(2, some (vI (2 : Int)))]) (own' := []) (shr' := []) [2] [] [] rfl rfl rfl rfl ?_
                  obtain rfl := Option.some.inj h
                  exact Tk_retV rfl rfl (resA (vs := [vI (2 : Int)]) rfl ⟨rfl, trivial⟩) [] [] rfl rfl rfl ⟨rfl, rfl, rfl⟩
            · replace h := br_f hg4 h
              refine TA_yes htb (by kernel_rfl) rfl rfl rfl (congrArg (fun b => some (Value.bool b)) hg4) (OpT_move rfl rfl rfl rfl) ?_
              rintro _ rfl
              refine TA_yes htb (by kernel_rfl) rfl rfl rfl (congrArg (fun b => some (Value.bool b)) hg4) (OpT_bin rfl rfl rfl rfl rfl (bin_gtr_i (a := i1) (b := (0 : Int)))) ?_
              rintro _ rfl
              refine TA_yes htb (by kernel_rfl) rfl rfl rfl (congrArg (fun b => some (Value.bool b)) hg4) (OpT_move rfl rfl rfl rfl) ?_
              rintro _ rfl
              refine TA_wkS (fr' := [(0, some (vl1)), (3, some (vU64 sum1)), (4, some (vI i1)), (41, some (vB (decide ((s2.At + (s3.Len.toUInt64 - (1 : UInt64))) < s4.At)))), (44, some (vB (decide (i1 > (0 : Int)))))]) (own' := []) (shr' := [Fact.sl SegS vl1 l]) [0, 3, 4, 41, 44] [] [0] rfl rfl rfl rfl ?_
              rcases Bool.eq_false_or_eq_true (decide (i1 > (0 : Int))) with hg5 | hg5
              · replace h := br_t hg5 h
                refine TA_seg (lo := 31) (hi := 34) htb rfl rfl (by kernel_rfl) (fun c L a w => Sat c ⟨[(0, some (vl1)), (3, some (vU64 sum1)), (4, some (vI i1)), (41, some (vB (decide ((s2.At + (s3.Len.toUInt64 - (1 : UInt64))) < s4.At)))), (44, some (vB (decide (i1 > (0 : Int))))), (45, bif L 31 then some (vl1) else none), (46, bif L 32 then some (vI i1) else none), (47, bif L 33 then some (vI (wi (i1 - (1 : Int)))) else none)], [], [Fact.sl SegS vl1 l]⟩ a w) [([], []), ([], [33]), ([32], [])] rfl (by kernel_rfl) ?_ (steps_cons ?_ (steps_cons ?_ (steps_cons ?_ (steps_nil)))) ?_
                · intro a w hs
                  exact hs.startF [45, 46, 47] [] [0] rfl rfl rfl rfl
                · intro L a w hv K Q hK
                  have hs := hv
                  refine wpOp_yes rfl rfl rfl hs (congrArg (fun b => some (Value.bool b)) hg5) (OpT_move rfl rfl rfl rfl) ?_
                  rintro _ rfl a' w' hs'
                  exact hK a' w' (hs'.putF (i := 5) rfl [] [0] rfl rfl rfl rfl)
                · intro L a w hv K Q hK
                  have hs := hv
                  refine wpOp_yes rfl rfl rfl hs (congrArg (fun b => some (Value.bool b)) hg5) (OpT_move rfl rfl rfl rfl) ?_
                  rintro _ rfl a' w' hs'
                  exact hK a' w' (hs'.putF (i := 6) rfl [] [0] rfl rfl rfl rfl)
                · intro L a w hv K Q hK
                  have hs := hv
                  refine wpOp_yes rfl rfl rfl hs (congrArg (fun b => some (Value.bool b)) hg5) (OpT_bin rfl rfl rfl rfl rfl (bin_sub_i (a := i1) (b := (1 : Int)))) ?_
                  rintro _ rfl a' w' hs'
                  exact hK a' w' (hs'.putF (i := 7) rfl [] [0] rfl rfl rfl rfl)
                · intro L a w hL hv
                  rw [allTrue hL] at hv
                  have hs := hv
                  refine (show TA _ _ _ 34 ⟨[(0, some (vl1)), (3, some (vU64 sum1)), (4, some (vI i1)), (41, some (vB (decide ((s2.At + (s3.Len.toUInt64 - (1 : UInt64))) < s4.At)))), (44, some (vB (decide (i1 > (0 : Int))))), (45, some (vl1)), (47, some (vI (wi (i1 - (1 : Int)))))], [], [Fact.sl SegS vl1 l]⟩ from ?_) a w (hs.wkS [0, 3, 4, 41, 44, 45, 47] [] [0] rfl rfl rfl rfl)
                  clear hs hL
                  obtain ⟨s5, hx5, h⟩ := ob_e h
                  refine TA_yes htb (by kernel_rfl) rfl rfl rfl (congrArg (fun b => some (Value.bool b)) hg5) (OpT_idxS rfl rfl rfl rfl rfl slF54 (i := 0) rfl hx5) ?_
                  rintro _ ⟨p9, rfl⟩
                  refine TA_yes htb (by kernel_rfl) rfl rfl rfl (congrArg (fun b => some (Value.bool b)) hg5) (OpT_fieldP (S' := bS) (y := s5.Write) rfl rfl rfl rfl fldF73x2 (i := 1) rfl (by intro h cs hr; subst hr; rfl)) ?_
                  rintro _ ⟨p10, rfl⟩
                  refine TA_yes htb (by kernel_rfl) rfl rfl rfl (congrArg (fun b => some (Value.bool b)) hg5) (OpT_loadP rfl rfl rfl rfl tyF4 (i := 2) rfl rfl) ?_
                  rintro _ rfl
                  refine TA_yes htb (by kernel_rfl) rfl rfl rfl (congrArg (fun b => some (Value.bool b)) hg4) (OpT_pickT rfl rfl rfl (congrArg (fun b => some (Value.bool b)) hg5) rfl) ?_
                  rintro _ rfl
                  refine TA_yes htb (by kernel_rfl) rfl rfl rfl (congrArg (fun b => some (Value.bool b)) hg4) (OpT_move rfl rfl rfl rfl) ?_
                  rintro _ rfl
                  refine TA_wkS (fr' := [(0, some (vl1)), (3, some (vU64 sum1)), (4, some (vI i1)), (41, some (vB (decide ((s2.At + (s3.Len.toUInt64 - (1 : UInt64))) < s4.At)))), (52, some (vB s5.Write))]) (own' := []) (shr' := [Fact.sl SegS vl1 l]) [0, 3, 4, 41, 52] [] [0] rfl rfl rfl rfl ?_
                  rcases Bool.eq_false_or_eq_true (s5.Write) with hg6 | hg6
                  · replace h := br_t hg6 h
                    refine TA_seg (lo := 39) (hi := 41) htb rfl rfl (by kernel_rfl) (fun c L a w => Sat c ⟨[(0, some (vl1)), (3, some (vU64 sum1)), (4, some (vI i1)), (41, some (vB (decide ((s2.At + (s3.Len.toUInt64 - (1 : UInt64))) < s4.At)))), (52, some (vB s5.Write)), (53, bif L 39 then some (vl1) else none), (54, bif L 40 then some (vI i1) else none)], [], [Fact.sl SegS vl1 l]⟩ a w) [([], []), ([], [])] rfl (by kernel_rfl) ?_ (steps_cons ?_ (steps_cons ?_ (steps_nil))) ?_
                    · intro a w hs
                      exact hs.startF [53, 54] [] [0] rfl rfl rfl rfl
                    · intro L a w hv K Q hK
                      have hs := hv
                      refine wpOp_yes rfl rfl rfl hs (congrArg (fun b => some (Value.bool b)) hg6) (OpT_move rfl rfl rfl rfl) ?_
                      rintro _ rfl a' w' hs'
                      exact hK a' w' (hs'.putF (i := 5) rfl [] [0] rfl rfl rfl rfl)
                    · intro L a w hv K Q hK
                      have hs := hv
                      refine wpOp_yes rfl rfl rfl hs (congrArg (fun b => some (Value.bool b)) hg6) (OpT_move rfl rfl rfl rfl) ?_
                      rintro _ rfl a' w' hs'
                      exact hK a' w' (hs'.putF (i := 6) rfl [] [0] rfl rfl rfl rfl)
                    · intro L a w hL hv
                      rw [allTrue hL] at hv
                      have hs := hv
                      refine (show TA _ _ _ 41 ⟨[(0, some (vl1)), (3, some (vU64 sum1)), (4, some (vI i1)), (41, some (vB (decide ((s2.At + (s3.Len.toUInt64 - (1 : UInt64))) < s4.At)))), (52, some (vB s5.Write)), (53, some (vl1)), (54, some (vI i1))], [], [Fact.sl SegS vl1 l]⟩ from ?_) a w (hs.wkS [0, 3, 4, 41, 52, 53, 54] [] [0] rfl rfl rfl rfl)
                      clear hs hL
                      obtain ⟨s6, hx6, h⟩ := ob_e h
                      refine TA_yes htb (by kernel_rfl) rfl rfl rfl (congrArg (fun b => some (Value.bool b)) hg6) (OpT_idxS rfl rfl rfl rfl rfl slF54 (i := 0) rfl hx6) ?_
                      rintro _ ⟨p11, rfl⟩
                      refine TA_yes htb (by kernel_rfl) rfl rfl rfl (congrArg (fun b => some (Value.bool b)) hg6) (OpT_fieldP (S' := bS) (y := s6.Write) rfl rfl rfl rfl fldF73x2 (i := 1) rfl (by intro h cs hr; subst hr; rfl)) ?_
                      rintro _ ⟨p12, rfl⟩
                      refine TA_yes htb (by kernel_rfl) rfl rfl rfl (congrArg (fun b => some (Value.bool b)) hg6) (OpT_loadP rfl rfl rfl rfl tyF4 (i := 2) rfl rfl) ?_
                      rintro _ rfl
                      refine TA_yes htb (by kernel_rfl) rfl rfl rfl (congrArg (fun b => some (Value.bool b)) hg6) (OpT_not rfl rfl rfl rfl) ?_
                      rintro _ rfl
                      refine TA_yes htb (by kernel_rfl) rfl rfl rfl (congrArg (fun b => some (Value.bool b)) hg4) (OpT_pickT rfl rfl rfl (congrArg (fun b => some (Value.bool b)) hg6) rfl) ?_
                      rintro _ rfl
                      refine TA_step htb (by kernel_rfl) rfl rfl (OpT_pickF rfl rfl rfl (congrArg (fun b => some (Value.bool b)) hg4) rfl) ?_
                      refine TA_end rfl ?_
                      refine Tk_wkS (fr' := [(0, some (vl1)), (3, some (vU64 sum1)), (4, some (vI i1)), (60, some (vB (!s6.Write)))]) (own' := []) (shr' := [Fact.sl SegS vl1 l]) [0, 3, 4, 60] [] [0] rfl rfl rfl rfl ?_
                      rcases Bool.eq_false_or_eq_true ((!s6.Write)) with hg7 | hg7
                      · replace h := br_t hg7 h
                        refine Tk_condT (congrArg (fun b => some (Value.bool b)) hg7) ?_
                        refine Tk_seq ?_
                        refine Tk_region ?_
                        refine Tops_step rfl (OpT_assign rfl rfl rfl rfl) ?_
                        refine Tops_nil ?_
                        refine Tk_wkS (fr' := [(2, some (vI (2 : Int)))]) (own' := []) (shr' := []) [2] [] [] rfl rfl rfl rfl ?_
                        obtain rfl := Option.some.inj h
                        exact Tk_retV rfl rfl (resA (vs := [vI (2 : Int)]) rfl ⟨rfl, trivial⟩) [] [] rfl rfl rfl ⟨rfl, rfl, rfl⟩
                      · replace h := br_f hg7 h
                        refine Tk_condF (congrArg (fun b => some (Value.bool b)) hg7) ?_
                        refine Tk_skip ?_
                        refine Tk_region ?_
                        refine Tops_step rfl (OpT_move rfl rfl rfl rfl) ?_
                        refine Tops_step rfl (OpT_move rfl rfl rfl rfl) ?_
                        refine Tops_step rfl (OpT_move rfl rfl rfl rfl) ?_
                        obtain ⟨s7, hx7, h⟩ := ob_e h
                        refine Tops_ex rfl (OpT_idxS rfl rfl rfl rfl rfl slF54 (i := 0) rfl hx7) fun p13 => ?_
                        refine Tops_ex rfl (OpT_fieldP (S' := u32S) (y := s7.Len) rfl rfl rfl rfl fldF73x1 (i := 1) rfl (by intro h cs hr; subst hr; rfl)) fun p14 => ?_
                        refine Tops_step rfl (OpT_loadP rfl rfl rfl rfl tyF71 (i := 2) rfl rfl) ?_
                        refine Tops_step rfl (OpT_cnv rfl rfl rfl rfl (cnv_u32_u64 (n := s7.Len) Try.underlying71 Try.underlying53)) ?_
                        refine Tops_step rfl (OpT_bin rfl rfl rfl rfl rfl (bin_add_u64 (a := sum1) (b := s7.Len.toUInt64))) ?_
                        refine Tops_step rfl (OpT_assign rfl rfl rfl rfl) ?_
                        refine Tops_nil ?_
                        refine Tk_wkS (fr' := [(0, some (vl1)), (3, some (vU64 (sum1 + s7.Len.toUInt64))), (4, some (vI i1))]) (own' := []) (shr' := [Fact.sl SegS vl1 l]) [0, 3, 4] [] [0] rfl rfl rfl rfl ?_
                        refine Tk_blk ?_
                        refine Tk_region ?_
                        refine Tops_step rfl (OpT_move rfl rfl rfl rfl) ?_
                        refine Tops_step rfl (OpT_bin rfl rfl rfl rfl rfl (bin_add_i (a := i1) (b := (1 : Int)))) ?_
                        refine Tops_step rfl (OpT_assign rfl rfl rfl rfl) ?_
                        refine Tops_nil ?_
                        refine Tk_wkS (fr' := [(0, some (vl1)), (3, some (vU64 (sum1 + s7.Len.toUInt64))), (4, some (vI (wi (i1 + (1 : Int)))))]) (own' := []) (shr' := [Fact.sl SegS vl1 l]) [0, 3, 4] [] [0] rfl rfl rfl rfl ?_
                        exact Tk_backS (sum1 + s7.Len.toUInt64, wi (i1 + (1 : Int))) h [0, 3, 4] [] [0] rfl rfl rfl rfl rfl
                  · replace h := br_f hg6 h
                    refine TA_seg (lo := 39) (hi := 41) htb rfl rfl (by kernel_rfl) (fun c L a w => Sat c ⟨[(0, some (vl1)), (3, some (vU64 sum1)), (4, some (vI i1)), (41, some (vB (decide ((s2.At + (s3.Len.toUInt64 - (1 : UInt64))) < s4.At)))), (52, some (vB s5.Write)), (53, bif L 39 then some (undef) else none), (54, bif L 40 then some (undef) else none)], [], [Fact.sl SegS vl1 l]⟩ a w) [([], []), ([], [])] rfl (by kernel_rfl) ?_ (steps_cons ?_ (steps_cons ?_ (steps_nil))) ?_
                    · intro a w hs
                      exact hs.startF [53, 54] [] [0] rfl rfl rfl rfl
                    · intro L a w hv K Q hK
                      have hs := hv
                      refine wpOp_no rfl rfl rfl hs (congrArg (fun b => some (Value.bool b)) hg6) rfl rfl ?_
                      intro a' w' hs'
                      exact hK a' w' (hs'.putF (i := 5) rfl [] [0] rfl rfl rfl rfl)
                    · intro L a w hv K Q hK
                      have hs := hv
                      refine wpOp_no rfl rfl rfl hs (congrArg (fun b => some (Value.bool b)) hg6) rfl rfl ?_
                      intro a' w' hs'
                      exact hK a' w' (hs'.putF (i := 6) rfl [] [0] rfl rfl rfl rfl)
                    · intro L a w hL hv
                      rw [allTrue hL] at hv
                      have hs := hv
                      refine (show TA _ _ _ 41 ⟨[(0, some (vl1)), (3, some (vU64 sum1)), (4, some (vI i1)), (41, some (vB (decide ((s2.At + (s3.Len.toUInt64 - (1 : UInt64))) < s4.At)))), (52, some (vB s5.Write)), (53, some (undef)), (54, some (undef))], [], [Fact.sl SegS vl1 l]⟩ from ?_) a w (hs.wkS [0, 3, 4, 41, 52, 53, 54] [] [0] rfl rfl rfl rfl)
                      clear hs hL
                      refine TA_no htb (by kernel_rfl) rfl rfl rfl (congrArg (fun b => some (Value.bool b)) hg6) rfl rfl ?_
                      refine TA_no htb (by kernel_rfl) rfl rfl rfl (congrArg (fun b => some (Value.bool b)) hg6) rfl rfl ?_
                      refine TA_no htb (by kernel_rfl) rfl rfl rfl (congrArg (fun b => some (Value.bool b)) hg6) rfl rfl ?_
                      refine TA_no htb (by kernel_rfl) rfl rfl rfl (congrArg (fun b => some (Value.bool b)) hg6) rfl rfl ?_
                      refine TA_yes htb (by kernel_rfl) rfl rfl rfl (congrArg (fun b => some (Value.bool b)) hg4) (OpT_pickF rfl rfl rfl (congrArg (fun b => some (Value.bool b)) hg6) rfl) ?_
                      rintro _ rfl
                      refine TA_step htb (by kernel_rfl) rfl rfl (OpT_pickF rfl rfl rfl (congrArg (fun b => some (Value.bool b)) hg4) rfl) ?_
                      refine TA_end rfl ?_
                      refine Tk_wkS (fr' := [(0, some (vl1)), (3, some (vU64 sum1)), (4, some (vI i1)), (60, some (vB false))]) (own' := []) (shr' := [Fact.sl SegS vl1 l]) [0, 3, 4, 60] [] [0] rfl rfl rfl rfl ?_
                      refine Tk_condF rfl ?_
                      refine Tk_skip ?_
                      refine Tk_region ?_
                      refine Tops_step rfl (OpT_move rfl rfl rfl rfl) ?_
                      refine Tops_step rfl (OpT_move rfl rfl rfl rfl) ?_
                      refine Tops_step rfl (OpT_move rfl rfl rfl rfl) ?_
                      obtain ⟨s8, hx8, h⟩ := ob_e h
                      refine Tops_ex rfl (OpT_idxS rfl rfl rfl rfl rfl slF54 (i := 0) rfl hx8) fun p15 => ?_
                      refine Tops_ex rfl (OpT_fieldP (S' := u32S) (y := s8.Len) rfl rfl rfl rfl fldF73x1 (i := 1) rfl (by intro h cs hr; subst hr; rfl)) fun p16 => ?_
                      refine Tops_step rfl (OpT_loadP rfl rfl rfl rfl tyF71 (i := 2) rfl rfl) ?_
                      refine Tops_step rfl (OpT_cnv rfl rfl rfl rfl (cnv_u32_u64 (n := s8.Len) Try.underlying71 Try.underlying53)) ?_
                      refine Tops_step rfl (OpT_bin rfl rfl rfl rfl rfl (bin_add_u64 (a := sum1) (b := s8.Len.toUInt64))) ?_
                      refine Tops_step rfl (OpT_assign rfl rfl rfl rfl) ?_
                      refine Tops_nil ?_
                      refine Tk_wkS (fr' := [(0, some (vl1)), (3, some (vU64 (sum1 + s8.Len.toUInt64))), (4, some (vI i1))]) (own' := []) (shr' := [Fact.sl SegS vl1 l]) [0, 3, 4] [] [0] rfl rfl rfl rfl ?_
                      refine Tk_blk ?_
                      refine Tk_region ?_
                      refine Tops_step rfl (OpT_move rfl rfl rfl rfl) ?_
                      refine Tops_step rfl (OpT_bin rfl rfl rfl rfl rfl (bin_add_i (a := i1) (b := (1 : Int)))) ?_
                      refine Tops_step rfl (OpT_assign rfl rfl rfl rfl) ?_
                      refine Tops_nil ?_
                      refine Tk_wkS (fr' := [(0, some (vl1)), (3, some (vU64 (sum1 + s8.Len.toUInt64))), (4, some (vI (wi (i1 + (1 : Int)))))]) (own' := []) (shr' := [Fact.sl SegS vl1 l]) [0, 3, 4] [] [0] rfl rfl rfl rfl ?_
                      exact Tk_backS (sum1 + s8.Len.toUInt64, wi (i1 + (1 : Int))) h [0, 3, 4] [] [0] rfl rfl rfl rfl rfl
              · replace h := br_f hg5 h
                refine TA_seg (lo := 31) (hi := 34) htb rfl rfl (by kernel_rfl) (fun c L a w => Sat c ⟨[(0, some (vl1)), (3, some (vU64 sum1)), (4, some (vI i1)), (41, some (vB (decide ((s2.At + (s3.Len.toUInt64 - (1 : UInt64))) < s4.At)))), (44, some (vB (decide (i1 > (0 : Int))))), (45, bif L 31 then some (undef) else none), (46, bif L 32 then some (undef) else none), (47, bif L 33 then some (undef) else none)], [], [Fact.sl SegS vl1 l]⟩ a w) [([], []), ([], [33]), ([32], [])] rfl (by kernel_rfl) ?_ (steps_cons ?_ (steps_cons ?_ (steps_cons ?_ (steps_nil)))) ?_
                · intro a w hs
                  exact hs.startF [45, 46, 47] [] [0] rfl rfl rfl rfl
                · intro L a w hv K Q hK
                  have hs := hv
                  refine wpOp_no rfl rfl rfl hs (congrArg (fun b => some (Value.bool b)) hg5) rfl rfl ?_
                  intro a' w' hs'
                  exact hK a' w' (hs'.putF (i := 5) rfl [] [0] rfl rfl rfl rfl)
                · intro L a w hv K Q hK
                  have hs := hv
                  refine wpOp_no rfl rfl rfl hs (congrArg (fun b => some (Value.bool b)) hg5) rfl rfl ?_
                  intro a' w' hs'
                  exact hK a' w' (hs'.putF (i := 6) rfl [] [0] rfl rfl rfl rfl)
                · intro L a w hv K Q hK
                  have hs := hv
                  refine wpOp_no rfl rfl rfl hs (congrArg (fun b => some (Value.bool b)) hg5) rfl rfl ?_
                  intro a' w' hs'
                  exact hK a' w' (hs'.putF (i := 7) rfl [] [0] rfl rfl rfl rfl)
                · intro L a w hL hv
                  rw [allTrue hL] at hv
                  have hs := hv
                  refine (show TA _ _ _ 34 ⟨[(0, some (vl1)), (3, some (vU64 sum1)), (4, some (vI i1)), (41, some (vB (decide ((s2.At + (s3.Len.toUInt64 - (1 : UInt64))) < s4.At)))), (44, some (vB (decide (i1 > (0 : Int))))), (45, some (undef)), (47, some (undef))], [], [Fact.sl SegS vl1 l]⟩ from ?_) a w (hs.wkS [0, 3, 4, 41, 44, 45, 47] [] [0] rfl rfl rfl rfl)
                  clear hs hL
                  refine TA_no htb (by kernel_rfl) rfl rfl rfl (congrArg (fun b => some (Value.bool b)) hg5) rfl rfl ?_
                  refine TA_no htb (by kernel_rfl) rfl rfl rfl (congrArg (fun b => some (Value.bool b)) hg5) rfl rfl ?_
                  refine TA_no htb (by kernel_rfl) rfl rfl rfl (congrArg (fun b => some (Value.bool b)) hg5) rfl rfl ?_
                  refine TA_yes htb (by kernel_rfl) rfl rfl rfl (congrArg (fun b => some (Value.bool b)) hg4) (OpT_pickF rfl rfl rfl (congrArg (fun b => some (Value.bool b)) hg5) rfl) ?_
                  rintro _ rfl
                  refine TA_yes htb (by kernel_rfl) rfl rfl rfl (congrArg (fun b => some (Value.bool b)) hg4) (OpT_move rfl rfl rfl rfl) ?_
                  rintro _ rfl
                  refine TA_wkS (fr' := [(0, some (vl1)), (3, some (vU64 sum1)), (4, some (vI i1)), (41, some (vB (decide ((s2.At + (s3.Len.toUInt64 - (1 : UInt64))) < s4.At)))), (52, some (vB false))]) (own' := []) (shr' := [Fact.sl SegS vl1 l]) [0, 3, 4, 41, 52] [] [0] rfl rfl rfl rfl ?_
                  refine TA_seg (lo := 39) (hi := 41) htb rfl rfl (by kernel_rfl) (fun c L a w => Sat c ⟨[(0, some (vl1)), (3, some (vU64 sum1)), (4, some (vI i1)), (41, some (vB (decide ((s2.At + (s3.Len.toUInt64 - (1 : UInt64))) < s4.At)))), (52, some (vB false)), (53, bif L 39 then some (undef) else none), (54, bif L 40 then some (undef) else none)], [], [Fact.sl SegS vl1 l]⟩ a w) [([], []), ([], [])] rfl (by kernel_rfl) ?_ (steps_cons ?_ (steps_cons ?_ (steps_nil))) ?_
                  · intro a w hs
                    exact hs.startF [53, 54] [] [0] rfl rfl rfl rfl
                  · intro L a w hv K Q hK
                    have hs := hv
                    refine wpOp_no rfl rfl rfl hs rfl rfl rfl ?_
                    intro a' w' hs'
                    exact hK a' w' (hs'.putF (i := 5) rfl [] [0] rfl rfl rfl rfl)
                  · intro L a w hv K Q hK
                    have hs := hv
                    refine wpOp_no rfl rfl rfl hs rfl rfl rfl ?_
                    intro a' w' hs'
                    exact hK a' w' (hs'.putF (i := 6) rfl [] [0] rfl rfl rfl rfl)
                  · intro L a w hL hv
                    rw [allTrue hL] at hv
                    have hs := hv
                    refine (show TA _ _ _ 41 ⟨[(0, some (vl1)), (3, some (vU64 sum1)), (4, some (vI i1)), (41, some (vB (decide ((s2.At + (s3.Len.toUInt64 - (1 : UInt64))) < s4.At)))), (52, some (vB false)), (53, some (undef)), (54, some (undef))], [], [Fact.sl SegS vl1 l]⟩ from ?_) a w (hs.wkS [0, 3, 4, 41, 52, 53, 54] [] [0] rfl rfl rfl rfl)
                    clear hs hL
                    refine TA_no htb (by kernel_rfl) rfl rfl rfl rfl rfl rfl ?_
                    refine TA_no htb (by kernel_rfl) rfl rfl rfl rfl rfl rfl ?_
                    refine TA_no htb (by kernel_rfl) rfl rfl rfl rfl rfl rfl ?_
                    refine TA_no htb (by kernel_rfl) rfl rfl rfl rfl rfl rfl ?_
                    refine TA_yes htb (by kernel_rfl) rfl rfl rfl (congrArg (fun b => some (Value.bool b)) hg4) (OpT_pickF rfl rfl rfl rfl rfl) ?_
                    rintro _ rfl
                    refine TA_step htb (by kernel_rfl) rfl rfl (OpT_pickF rfl rfl rfl (congrArg (fun b => some (Value.bool b)) hg4) rfl) ?_
                    refine TA_end rfl ?_
                    refine Tk_wkS (fr' := [(0, some (vl1)), (3, some (vU64 sum1)), (4, some (vI i1)), (60, some (vB false))]) (own' := []) (shr' := [Fact.sl SegS vl1 l]) [0, 3, 4, 60] [] [0] rfl rfl rfl rfl ?_
                    refine Tk_condF rfl ?_
                    refine Tk_skip ?_
                    refine Tk_region ?_
                    refine Tops_step rfl (OpT_move rfl rfl rfl rfl) ?_
                    refine Tops_step rfl (OpT_move rfl rfl rfl rfl) ?_
                    refine Tops_step rfl (OpT_move rfl rfl rfl rfl) ?_
                    obtain ⟨s9, hx9, h⟩ := ob_e h
                    refine Tops_ex rfl (OpT_idxS rfl rfl rfl rfl rfl slF54 (i := 0) rfl hx9) fun p17 => ?_
                    refine Tops_ex rfl (OpT_fieldP (S' := u32S) (y := s9.Len) rfl rfl rfl rfl fldF73x1 (i := 1) rfl (by intro h cs hr; subst hr; rfl)) fun p18 => ?_
                    refine Tops_step rfl (OpT_loadP rfl rfl rfl rfl tyF71 (i := 2) rfl rfl) ?_
                    refine Tops_step rfl (OpT_cnv rfl rfl rfl rfl (cnv_u32_u64 (n := s9.Len) Try.underlying71 Try.underlying53)) ?_
                    refine Tops_step rfl (OpT_bin rfl rfl rfl rfl rfl (bin_add_u64 (a := sum1) (b := s9.Len.toUInt64))) ?_
                    refine Tops_step rfl (OpT_assign rfl rfl rfl rfl) ?_
                    refine Tops_nil ?_
                    refine Tk_wkS (fr' := [(0, some (vl1)), (3, some (vU64 (sum1 + s9.Len.toUInt64))), (4, some (vI i1))]) (own' := []) (shr' := [Fact.sl SegS vl1 l]) [0, 3, 4] [] [0] rfl rfl rfl rfl ?_
                    refine Tk_blk ?_
                    refine Tk_region ?_
                    refine Tops_step rfl (OpT_move rfl rfl rfl rfl) ?_
                    refine Tops_step rfl (OpT_bin rfl rfl rfl rfl rfl (bin_add_i (a := i1) (b := (1 : Int)))) ?_
                    refine Tops_step rfl (OpT_assign rfl rfl rfl rfl) ?_
                    refine Tops_nil ?_
                    refine Tk_wkS (fr' := [(0, some (vl1)), (3, some (vU64 (sum1 + s9.Len.toUInt64))), (4, some (vI (wi (i1 + (1 : Int)))))]) (own' := []) (shr' := [Fact.sl SegS vl1 l]) [0, 3, 4] [] [0] rfl rfl rfl rfl ?_
                    exact Tk_backS (sum1 + s9.Len.toUInt64, wi (i1 + (1 : Int))) h [0, 3, 4] [] [0] rfl rfl rfl rfl rfl
    · replace h := br_f hg2 h
      refine Tk_condF (congrArg (fun b => some (Value.bool b)) hg2) ?_
      refine Tk_exit _ rfl ?_
      refine Tk_seq ?_
      refine Tk_seq ?_
      refine Tk_region ?_
      refine Tops_step rfl (OpT_move rfl rfl rfl rfl) ?_
      refine Tops_step rfl (OpT_bin rfl rfl rfl rfl rfl (bin_geq_u64 (a := sum1) (b := (4294967296 : UInt64)))) ?_
      refine Tops_nil ?_
      refine Tk_wkS (fr' := [(70, some (vB (decide (sum1 ≥ (4294967296 : UInt64)))))]) (own' := []) (shr' := []) [70] [] [] rfl rfl rfl rfl ?_
      rcases Bool.eq_false_or_eq_true (decide (sum1 ≥ (4294967296 : UInt64))) with hg8 | hg8
      · replace h := br_t hg8 h
        refine Tk_condT (congrArg (fun b => some (Value.bool b)) hg8) ?_
        refine Tk_seq ?_
        refine Tk_region ?_
        refine Tops_step rfl (OpT_assign rfl rfl rfl rfl) ?_
        refine Tops_nil ?_
        refine Tk_wkS (fr' := [(2, some (vI (2 : Int)))]) (own' := []) (shr' := []) [2] [] [] rfl rfl rfl rfl ?_
        obtain rfl := Option.some.inj h
        exact Tk_retV rfl rfl (resA (vs := [vI (2 : Int)]) rfl ⟨rfl, trivial⟩) [] [] rfl rfl rfl ⟨rfl, rfl, rfl⟩
      · replace h := br_f hg8 h
        refine Tk_condF (congrArg (fun b => some (Value.bool b)) hg8) ?_
        refine Tk_skip ?_
        refine Tk_seq ?_
        refine Tk_region ?_
        refine Tops_step rfl (OpT_assign rfl rfl rfl rfl) ?_
        refine Tops_nil ?_
        refine Tk_wkS (fr' := [(2, some (vI (0 : Int)))]) (own' := []) (shr' := []) [2] [] [] rfl rfl rfl rfl ?_
        obtain rfl := Option.some.inj h
        exact Tk_retV rfl rfl (resA (vs := [vI (0 : Int)]) rfl ⟨rfl, trivial⟩) [] [] rfl rfl rfl ⟨rfl, rfl, rfl⟩
end Go.Proofs.Ytgpggnhifkkfbaa
