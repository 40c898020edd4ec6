/- The functions do what the plain words say: each is walked once. No statement of the seat is proved here; no condition. -/
import Derived.Test.YtlofegfaphijpaaWa4
namespace Go.Proofs.Ytlofegfaphijpaa
attribute [local irreducible] sub
set_option maxRecDepth 100000 in
set_option maxHeartbeats 4000000 in
theorem w_ref_Check05 {l : List Seg} {vl1 : Value} {r : Int} (h : ref_Check05 l = some r) :
  Ctr Try.prog 96 #[vl1] [] [Fact.sl SegS vl1 l]
   (fun rv own shr => rv = vI r ∧ own = [] ∧ shr = []) := by
 unfold ref_Check05 at h
 refine Ctr.mk (args := [vl1]) Try.func96 rfl rfl (fun R0 w0 B => ?_)
 refine Tk_seq (Tk_region (Tops_step rfl (OpT_assign rfl rfl rfl rfl) ?_))
 refine Tops_nil (tZ [0] [] [0] rfl rfl rfl rfl ?_)
 refine Tk_seq (Tk_seq (Tk_region (Tops_step rfl (OpT_move rfl rfl rfl rfl) ?_)))
 refine Tops_step rfl (OpT_lenS rfl rfl rfl rfl Try.underlying41 (i := 0) rfl) ?_
 refine Tops_step rfl (OpT_bin rfl rfl rfl rfl rfl (bin_gtr_i (a := len l) (b := (64 : Int)))) ?_
 refine Tops_nil (tZ [0, 7] [] [0] rfl rfl rfl rfl ?_)
 rcases Bool.eq_false_or_eq_true (decide ((len l) > (64 : Int))) with hg1 | hg1
 ·replace h := br_t hg1 h
  refine Tk_condT (congrArg (fun b => some (Value.bool b)) hg1) ?_
  refine Tk_seq (Tk_region (Tops_step rfl (OpT_assign rfl rfl rfl rfl) ?_))
  refine Tops_nil (tZ [2] [] [] rfl rfl rfl rfl ?_)
  obtain rfl := Option.some.inj h
  exact Tk_retV rfl rfl (resA (vs := [vI (3 : Int)]) rfl ⟨rfl, trivial⟩) [] [] rfl rfl rfl ⟨rfl, rfl, rfl⟩
 ·replace h := br_f hg1 h
  refine Tk_condF (congrArg (fun b => some (Value.bool b)) hg1) ?_
  refine Tk_skip (Tk_seq (Tk_region (Tops_step rfl (OpT_assign rfl rfl rfl rfl) ?_)))
  refine Tops_nil (tZ [0, 3] [] [0] rfl rfl rfl rfl ?_)
  refine Tk_seq (Tk_seq (Tk_region (Tops_step rfl (OpT_assign rfl rfl rfl rfl) ?_)))
  refine Tops_nil (Tk_block (Tk_loopS (σ := UInt64 × Int) [0, 3, 4] [] [0] (fun s => ⟨[(0, some (vl1)), (3, some (vU64 s.1)), (4, some (vI s.2))], [], [Fact.sl SegS vl1 l]⟩) (fun nf1 s => ref_Check05L1 l nf1 s.1 s.2 = some r) fuel ((0 : UInt64), (0 : Int)) h rfl rfl rfl rfl rfl (fun s h => by cases h) ?_))
  rintro nf1 ⟨sum1, i1⟩ h
  replace h : ref_Check05L1B l (ref_Check05L1 l nf1) sum1 i1 = some r := h
  unfold ref_Check05L1B at h
  refine Tk_seq (Tk_seq (Tk_region (Tops_step rfl (OpT_move rfl rfl rfl rfl) ?_)))
  refine Tops_step rfl (OpT_move rfl rfl rfl rfl) ?_
  refine Tops_step rfl (OpT_lenS rfl rfl rfl rfl Try.underlying41 (i := 0) rfl) ?_
  refine Tops_step rfl (OpT_bin rfl rfl rfl rfl rfl (bin_lss_i (a := i1) (b := len l))) ?_
  refine Tops_nil (tZ [0, 3, 4, 11] [] [0] rfl rfl rfl rfl ?_)
  rcases Bool.eq_false_or_eq_true (decide (i1 < (len l))) with hg2 | hg2
  ·replace h := br_t hg2 h
   refine Tk_condT (congrArg (fun b => some (Value.bool b)) hg2) ?_
   refine Tk_skip (Tk_seq (Tk_block (Tk_seq (Tk_seq (Tk_drawT (by kernel_rfl) ?_)))))
   refine TA_tb [0, 0, 3, 7, 15, 31, 63, 127, 127, 511, 1023, 2047, 127, 127, 12415, 28799, 61567, 127103, 258175, 524287, 127, 127, 3145855, 7340159, 15728767, 33554431, 67108863, 134217727, 268435455, 536870911, 1073741823, 2147483647, 2147483647, 6442450943, 17179869183, 34359738367, 68719476735, 137438953471, 274877906943, 549755813887, 549755813887, 2199023255551, 4398046511103, 8796093022207, 17592186044415, 35184372088831, 70368744177663] (by kernel_rfl) fun htb => ?_
   refine aZ [0, 3, 4] [] [0] rfl rfl rfl rfl ?_
   refine TA_seg (lo := 0) (hi := 2) htb rfl rfl (by kernel_rfl) (fun c L a w => Sat c ⟨[(0, some (vl1)), (3, some (vU64 sum1)), (4, some (vI i1)), (14, bif L 0 then some (vl1) else none), (15, bif L 1 then some (vI i1) else none)], [], [Fact.sl SegS vl1 l]⟩ a w) [([], []), ([], [])] rfl (by kernel_rfl) ?_ (steps_cons ?_ (steps_cons ?_ (steps_nil))) ?_
   ·intro a w hs
    exact hs.startF [14, 15] [] [0] rfl rfl rfl rfl
   ·intro L a w hv K Q hK
    have hs := hv
    refine wpOp_go rfl rfl hs (OpT_move rfl rfl rfl rfl) ?_
    rintro _ rfl a' w' hs'
    exact hK a' w' (hs'.putF (i := 3) rfl [] [0] rfl rfl rfl rfl)
   ·intro L a w hv K Q hK
    have hs := hv
    refine wpOp_go rfl rfl hs (OpT_move rfl rfl rfl rfl) ?_
    rintro _ rfl a' w' hs'
    exact hK a' w' (hs'.putF (i := 4) rfl [] [0] rfl rfl rfl rfl)
   ·intro L a w hL hv
    rw [allTrue hL] at hv
    have hs := hv
    refine gZ hs [0, 3, 4, 14, 15] [] [0] rfl rfl rfl rfl ?_
    clear hs hL
    obtain ⟨s1, hx1, h⟩ := ob_e h
    refine TA_ex htb (by kernel_rfl) rfl rfl (OpT_idxS rfl rfl rfl rfl rfl slF41 (i := 0) rfl hx1) fun p1 => ?_
    refine TA_ex htb (by kernel_rfl) rfl rfl (OpT_fieldP (S' := u32S) (y := s1.Len) rfl rfl rfl rfl fldF46x1 (i := 1) rfl (by intro h cs hr; subst hr; rfl)) fun p2 => ?_
    refine TA_step htb (by kernel_rfl) rfl rfl (OpT_loadP rfl rfl rfl rfl tyF33 (i := 2) rfl rfl) ?_
    refine TA_step htb (by kernel_rfl) rfl rfl (OpT_bin rfl rfl rfl rfl rfl (bin_eql_u32 (a := s1.Len) (b := (0 : UInt32)))) ?_
    refine TA_step htb (by kernel_rfl) rfl rfl (OpT_move rfl rfl rfl rfl) ?_
    refine aZ [0, 3, 4, 20] [] [0] rfl rfl rfl rfl ?_
    rcases Bool.eq_false_or_eq_true (s1.Len == (0 : UInt32)) with hg3 | hg3
    ·replace h := br_t hg3 h
     refine TA_seg (lo := 7) (hi := 25) htb rfl rfl (by kernel_rfl) (fun c L a w => Sat c ⟨[(0, some (vl1)), (3, some (vU64 sum1)), (4, some (vI i1)), (20, some (vB (s1.Len == (0 : UInt32)))), (21, bif L 7 then some (undef) else none), (22, bif L 8 then some (undef) else none), (23, bif L 9 then some (undef) else none), (24, bif L 10 then some (undef) else none), (25, bif L 11 then some (undef) else none), (26, bif L 12 then some (undef) else none), (27, bif L 13 then some (undef) else none), (28, bif L 14 then some (undef) else none), (29, bif L 15 then some (undef) else none), (30, bif L 16 then some (undef) else none), (31, bif L 17 then some (undef) else none), (32, bif L 18 then some (undef) else none), (33, bif L 19 then some (undef) else none), (34, bif L 20 then some (undef) else none), (35, bif L 21 then some (undef) else none), (36, bif L 22 then some (undef) else none), (37, bif L 23 then some (undef) else none), (38, bif L 24 then some (undef) else none)], [], [Fact.sl SegS vl1 l]⟩ a w) [([], [9, 10, 11, 19]), ([], [9, 10, 11, 19]), ([7, 8], [10, 11, 19]), ([7, 8, 9], [11, 19]), ([7, 8, 9, 10], [19]), ([], [14, 15, 16, 17, 18, 19]), ([], [14, 15, 16, 17, 18, 19]), ([12, 13], [15, 16, 17, 18, 19]), ([12, 13, 14], [16, 17, 18, 19]), ([12, 13, 14, 15], [17, 18, 19]), ([12, 13, 14, 15, 16], [18, 19]), ([12, 13, 14, 15, 16, 17], [19]), ([7, 8, 9, 10, 11, 12, 13, 14, 15, 16, 17, 18], []), ([], [22, 23, 24]), ([], [22, 23, 24]), ([20, 21], [23, 24]), ([20, 21, 22], [24]), ([20, 21, 22, 23], [])] rfl (by kernel_rfl) ?_ (steps_cons ?_ (steps_cons ?_ (steps_cons ?_ (steps_cons ?_ (steps_cons ?_ (steps_cons ?_ (steps_cons ?_ (steps_cons ?_ (steps_cons ?_ (steps_cons ?_ (steps_cons ?_ (steps_cons ?_ (steps_cons ?_ (steps_cons ?_ (steps_cons ?_ (steps_cons ?_ (steps_cons ?_ (steps_cons ?_ (steps_nil))))))))))))))))))) ?_
     ·intro a w hs
      exact hs.startF [21, 22, 23, 24, 25, 26, 27, 28, 29, 30, 31, 32, 33, 34, 35, 36, 37, 38] [] [0] rfl rfl rfl rfl
     ·intro L a w hv K Q hK
      have hs := hv
      refine wpOp_no rfl rfl rfl hs (congrArg (fun b => some (Value.bool b)) hg3) rfl rfl ?_
      intro a' w' hs'
      exact hK a' w' (hs'.putF (i := 4) rfl [] [0] rfl rfl rfl rfl)
     ·intro L a w hv K Q hK
      have hs := hv
      refine wpOp_no rfl rfl rfl hs (congrArg (fun b => some (Value.bool b)) hg3) rfl rfl ?_
      intro a' w' hs'
      exact hK a' w' (hs'.putF (i := 5) rfl [] [0] rfl rfl rfl rfl)
     ·intro L a w hv K Q hK
      have hs := hv
      refine wpOp_no rfl rfl rfl hs (congrArg (fun b => some (Value.bool b)) hg3) rfl rfl ?_
      intro a' w' hs'
      exact hK a' w' (hs'.putF (i := 6) rfl [] [0] rfl rfl rfl rfl)
     ·intro L a w hv K Q hK
      have hs := hv
      refine wpOp_no rfl rfl rfl hs (congrArg (fun b => some (Value.bool b)) hg3) rfl rfl ?_
      intro a' w' hs'
      exact hK a' w' (hs'.putF (i := 7) rfl [] [0] rfl rfl rfl rfl)
     ·intro L a w hv K Q hK
      have hs := hv
      refine wpOp_no rfl rfl rfl hs (congrArg (fun b => some (Value.bool b)) hg3) rfl rfl ?_
      intro a' w' hs'
      exact hK a' w' (hs'.putF (i := 8) rfl [] [0] rfl rfl rfl rfl)
     ·intro L a w hv K Q hK
      have hs := hv
      refine wpOp_no rfl rfl rfl hs (congrArg (fun b => some (Value.bool b)) hg3) rfl rfl ?_
      intro a' w' hs'
      exact hK a' w' (hs'.putF (i := 9) rfl [] [0] rfl rfl rfl rfl)
     ·intro L a w hv K Q hK
      have hs := hv
      refine wpOp_no rfl rfl rfl hs (congrArg (fun b => some (Value.bool b)) hg3) rfl rfl ?_
      intro a' w' hs'
      exact hK a' w' (hs'.putF (i := 10) rfl [] [0] rfl rfl rfl rfl)
     ·intro L a w hv K Q hK
      have hs := hv
      refine wpOp_no rfl rfl rfl hs (congrArg (fun b => some (Value.bool b)) hg3) rfl rfl ?_
      intro a' w' hs'
      exact hK a' w' (hs'.putF (i := 11) rfl [] [0] rfl rfl rfl rfl)
     ·intro L a w hv K Q hK
      have hs := hv
      refine wpOp_no rfl rfl rfl hs (congrArg (fun b => some (Value.bool b)) hg3) rfl rfl ?_
      intro a' w' hs'
      exact hK a' w' (hs'.putF (i := 12) rfl [] [0] rfl rfl rfl rfl)
     ·intro L a w hv K Q hK
      have hs := hv
      refine wpOp_no rfl rfl rfl hs (congrArg (fun b => some (Value.bool b)) hg3) rfl rfl ?_
      intro a' w' hs'
      exact hK a' w' (hs'.putF (i := 13) rfl [] [0] rfl rfl rfl rfl)
     ·intro L a w hv K Q hK
      have hs := hv
      refine wpOp_no rfl rfl rfl hs (congrArg (fun b => some (Value.bool b)) hg3) rfl rfl ?_
      intro a' w' hs'
      exact hK a' w' (hs'.putF (i := 14) rfl [] [0] rfl rfl rfl rfl)
     ·intro L a w hv K Q hK
      have hs := hv
      refine wpOp_no rfl rfl rfl hs (congrArg (fun b => some (Value.bool b)) hg3) rfl rfl ?_
      intro a' w' hs'
      exact hK a' w' (hs'.putF (i := 15) rfl [] [0] rfl rfl rfl rfl)
     ·intro L a w hv K Q hK
      have hs := hv
      refine wpOp_no rfl rfl rfl hs (congrArg (fun b => some (Value.bool b)) hg3) rfl rfl ?_
      intro a' w' hs'
      exact hK a' w' (hs'.putF (i := 16) rfl [] [0] rfl rfl rfl rfl)
     ·intro L a w hv K Q hK
      have hs := hv
      refine wpOp_no rfl rfl rfl hs (congrArg (fun b => some (Value.bool b)) hg3) rfl rfl ?_
      intro a' w' hs'
      exact hK a' w' (hs'.putF (i := 17) rfl [] [0] rfl rfl rfl rfl)
     ·intro L a w hv K Q hK
      have hs := hv
      refine wpOp_no rfl rfl rfl hs (congrArg (fun b => some (Value.bool b)) hg3) rfl rfl ?_
      intro a' w' hs'
      exact hK a' w' (hs'.putF (i := 18) rfl [] [0] rfl rfl rfl rfl)
     ·intro L a w hv K Q hK
      have hs := hv
      refine wpOp_no rfl rfl rfl hs (congrArg (fun b => some (Value.bool b)) hg3) rfl rfl ?_
      intro a' w' hs'
      exact hK a' w' (hs'.putF (i := 19) rfl [] [0] rfl rfl rfl rfl)
     ·intro L a w hv K Q hK
      have hs := hv
      refine wpOp_no rfl rfl rfl hs (congrArg (fun b => some (Value.bool b)) hg3) rfl rfl ?_
      intro a' w' hs'
      exact hK a' w' (hs'.putF (i := 20) rfl [] [0] rfl rfl rfl rfl)
     ·intro L a w hv K Q hK
      have hs := hv
      refine wpOp_no rfl rfl rfl hs (congrArg (fun b => some (Value.bool b)) hg3) rfl rfl ?_
      intro a' w' hs'
      exact hK a' w' (hs'.putF (i := 21) rfl [] [0] rfl rfl rfl rfl)
     ·intro L a w hL hv
      rw [allTrue hL] at hv
      have hs := hv
      refine gZ hs [0, 3, 4, 20, 33, 38] [] [0] rfl rfl rfl rfl ?_
      clear hs hL
      refine TA_no htb (by kernel_rfl) rfl rfl rfl (congrArg (fun b => some (Value.bool b)) hg3) rfl rfl ?_
      refine TA_step htb (by kernel_rfl) rfl rfl (OpT_pickT rfl rfl rfl (congrArg (fun b => some (Value.bool b)) hg3) rfl) ?_
      refine TA_step htb (by kernel_rfl) rfl rfl (OpT_move rfl rfl rfl rfl) ?_
      refine TA_no htb (by kernel_rfl) rfl rfl rfl rfl rfl rfl ?_
      refine TA_no htb (by kernel_rfl) rfl rfl rfl rfl rfl rfl ?_
      refine TA_no htb (by kernel_rfl) rfl rfl rfl rfl rfl rfl ?_
      refine aZ [0, 3, 4, 41, 44] [] [0] rfl rfl rfl rfl ?_
      refine TA_seg (lo := 31) (hi := 34) htb rfl rfl (by kernel_rfl) (fun c L a w => Sat c ⟨[(0, some (vl1)), (3, some (vU64 sum1)), (4, some (vI i1)), (41, some (vB true)), (44, some (undef)), (45, bif L 31 then some (undef) else none), (46, bif L 32 then some (undef) else none), (47, bif L 33 then some (undef) else none)], [], [Fact.sl SegS vl1 l]⟩ a w) [([], []), ([], [33]), ([32], [])] rfl (by kernel_rfl) ?_ (steps_cons ?_ (steps_cons ?_ (steps_cons ?_ (steps_nil)))) ?_
      ·intro a w hs
       exact hs.startF [45, 46, 47] [] [0] rfl rfl rfl rfl
      ·intro L a w hv K Q hK
       have hs := hv
       refine wpOp_noU rfl rfl rfl hs rfl rfl rfl ?_
       intro a' w' hs'
       exact hK a' w' (hs'.putF (i := 5) rfl [] [0] rfl rfl rfl rfl)
      ·intro L a w hv K Q hK
       have hs := hv
       refine wpOp_noU rfl rfl rfl hs rfl rfl rfl ?_
       intro a' w' hs'
       exact hK a' w' (hs'.putF (i := 6) rfl [] [0] rfl rfl rfl rfl)
      ·intro L a w hv K Q hK
       have hs := hv
       refine wpOp_noU rfl rfl rfl hs rfl rfl rfl ?_
       intro a' w' hs'
       exact hK a' w' (hs'.putF (i := 7) rfl [] [0] rfl rfl rfl rfl)
      ·intro L a w hL hv
       rw [allTrue hL] at hv
       have hs := hv
       refine gZ hs [0, 3, 4, 41, 44, 45, 47] [] [0] rfl rfl rfl rfl ?_
       clear hs hL
       refine TA_noU htb (by kernel_rfl) rfl rfl rfl rfl rfl rfl ?_
       refine TA_noU htb (by kernel_rfl) rfl rfl rfl rfl rfl rfl ?_
       refine TA_noU htb (by kernel_rfl) rfl rfl rfl rfl rfl rfl ?_
       refine TA_no htb (by kernel_rfl) rfl rfl rfl rfl rfl rfl ?_
       refine TA_no htb (by kernel_rfl) rfl rfl rfl rfl rfl rfl ?_
       refine aZ [0, 3, 4, 41, 52] [] [0] rfl rfl rfl rfl ?_
       refine TA_seg (lo := 39) (hi := 41) htb rfl rfl (by kernel_rfl) (fun c L a w => Sat c ⟨[(0, some (vl1)), (3, some (vU64 sum1)), (4, some (vI i1)), (41, some (vB true)), (52, some (undef)), (53, bif L 39 then some (undef) else none), (54, bif L 40 then some (undef) else none)], [], [Fact.sl SegS vl1 l]⟩ a w) [([], []), ([], [])] rfl (by kernel_rfl) ?_ (steps_cons ?_ (steps_cons ?_ (steps_nil))) ?_
       ·intro a w hs
        exact hs.startF [53, 54] [] [0] rfl rfl rfl rfl
       ·intro L a w hv K Q hK
        have hs := hv
        refine wpOp_noU rfl rfl rfl hs rfl rfl rfl ?_
        intro a' w' hs'
        exact hK a' w' (hs'.putF (i := 5) rfl [] [0] rfl rfl rfl rfl)
       ·intro L a w hv K Q hK
        have hs := hv
        refine wpOp_noU rfl rfl rfl hs rfl rfl rfl ?_
        intro a' w' hs'
        exact hK a' w' (hs'.putF (i := 6) rfl [] [0] rfl rfl rfl rfl)
       ·intro L a w hL hv
        rw [allTrue hL] at hv
        have hs := hv
        refine gZ hs [0, 3, 4, 41, 52, 53, 54] [] [0] rfl rfl rfl rfl ?_
        clear hs hL
        refine TA_noU htb (by kernel_rfl) rfl rfl rfl rfl rfl rfl ?_
        refine TA_noU htb (by kernel_rfl) rfl rfl rfl rfl rfl rfl ?_
        refine TA_noU htb (by kernel_rfl) rfl rfl rfl rfl rfl rfl ?_
        refine TA_noU htb (by kernel_rfl) rfl rfl rfl rfl rfl rfl ?_
        refine TA_no htb (by kernel_rfl) rfl rfl rfl rfl rfl rfl ?_
        refine TA_step htb (by kernel_rfl) rfl rfl (OpT_pickT rfl rfl rfl rfl rfl) ?_
        refine TA_end rfl ?_
        refine tZ [0, 3, 4, 60] [] [0] rfl rfl rfl rfl ?_
        refine Tk_condT rfl ?_
        refine Tk_seq (Tk_region (Tops_step rfl (OpT_assign rfl rfl rfl rfl) ?_))
        refine Tops_nil (tZ [2] [] [] rfl rfl rfl rfl ?_)
        obtain rfl := Option.some.inj h
        exact Tk_retV rfl rfl (resA (vs := [vI (2 : Int)]) rfl ⟨rfl, trivial⟩) [] [] rfl rfl rfl ⟨rfl, rfl, rfl⟩
    ·replace h := br_f hg3 h
     obtain ⟨s2, hx2, h⟩ := ob_e h
     obtain ⟨s3, hx3, h⟩ := ob_e h
     obtain ⟨s4, hx4, h⟩ := ob_e h
     refine TA_seg (lo := 7) (hi := 25) htb rfl rfl (by kernel_rfl) (fun c L a w => ∃ (p3 : Value), ∃ (p4 : Value), ∃ (p5 : Value), ∃ (p6 : Value), ∃ (p7 : Value), ∃ (p8 : Value), Sat c ⟨[(0, some (vl1)), (3, some (vU64 sum1)), (4, some (vI i1)), (20, some (vB (s1.Len == (0 : UInt32)))), (21, bif L 7 then some (vl1) else none), (22, bif L 8 then some (vI i1) else none), (23, bif L 9 then some (p3) else none), (24, bif L 10 then some (p4) else none), (25, bif L 11 then some (vU64 s2.At) else none), (26, bif L 12 then some (vl1) else none), (27, bif L 13 then some (vI i1) else none), (28, bif L 14 then some (p5) else none), (29, bif L 15 then some (p6) else none), (30, bif L 16 then some (vU32 s3.Len) else none), (31, bif L 17 then some (vU64 s3.Len.toUInt64) else none), (32, bif L 18 then some (vU64 (s3.Len.toUInt64 - (1 : UInt64))) else none), (33, bif L 19 then some (vU64 (s2.At + (s3.Len.toUInt64 - (1 : UInt64)))) else none), (34, bif L 20 then some (vl1) else none), (35, bif L 21 then some (vI i1) else none), (36, bif L 22 then some (p7) else none), (37, bif L 23 then some (p8) else none), (38, bif L 24 then some (vU64 s4.At) else none)], [], [Fact.sl SegS vl1 l, (bif L 9 then Fact.pt SegS p3 s2 else Fact.tt), (bif L 10 then Fact.pt u64S p4 s2.At else Fact.tt), (bif L 14 then Fact.pt SegS p5 s3 else Fact.tt), (bif L 15 then Fact.pt u32S p6 s3.Len else Fact.tt), (bif L 22 then Fact.pt SegS p7 s4 else Fact.tt), (bif L 23 then Fact.pt u64S p8 s4.At else Fact.tt)]⟩ a w) [([], [9, 10, 11, 19]), ([], [9, 10, 11, 19]), ([7, 8], [10, 11, 19]), ([7, 8, 9], [11, 19]), ([7, 8, 9, 10], [19]), ([], [14, 15, 16, 17, 18, 19]), ([], [14, 15, 16, 17, 18, 19]), ([12, 13], [15, 16, 17, 18, 19]), ([12, 13, 14], [16, 17, 18, 19]), ([12, 13, 14, 15], [17, 18, 19]), ([12, 13, 14, 15, 16], [18, 19]), ([12, 13, 14, 15, 16, 17], [19]), ([7, 8, 9, 10, 11, 12, 13, 14, 15, 16, 17, 18], []), ([], [22, 23, 24]), ([], [22, 23, 24]), ([20, 21], [23, 24]), ([20, 21, 22], [24]), ([20, 21, 22, 23], [])] rfl (by kernel_rfl) ?_ (steps_cons ?_ (steps_cons ?_ (steps_cons ?_ (steps_cons ?_ (steps_cons ?_ (steps_cons ?_ (steps_cons ?_ (steps_cons ?_ (steps_cons ?_ (steps_cons ?_ (steps_cons ?_ (steps_cons ?_ (steps_cons ?_ (steps_cons ?_ (steps_cons ?_ (steps_cons ?_ (steps_cons ?_ (steps_cons ?_ (steps_nil))))))))))))))))))) ?_
     ·intro a w hs
      exact ⟨undef, undef, undef, undef, undef, undef, hs.startF [21, 22, 23, 24, 25, 26, 27, 28, 29, 30, 31, 32, 33, 34, 35, 36, 37, 38] [] [0, 1, 2, 3, 4, 5, 6] rfl rfl rfl rfl⟩
     ·intro L a w hv K Q hK
      obtain ⟨p3, p4, p5, p6, p7, p8, hs⟩ := hv
      refine wpOp_yes rfl rfl rfl hs (congrArg (fun b => some (Value.bool b)) hg3) (OpT_move rfl rfl rfl rfl) ?_
      rintro _ rfl a' w' hs'
      exact hK a' w' ⟨p3, p4, p5, p6, p7, p8, hs'.putF (i := 4) rfl [] [0, 1, 2, 3, 4, 5, 6] rfl rfl rfl rfl⟩
     ·intro L a w hv K Q hK
      obtain ⟨p3, p4, p5, p6, p7, p8, hs⟩ := hv
      refine wpOp_yes rfl rfl rfl hs (congrArg (fun b => some (Value.bool b)) hg3) (OpT_move rfl rfl rfl rfl) ?_
      rintro _ rfl a' w' hs'
      exact hK a' w' ⟨p3, p4, p5, p6, p7, p8, hs'.putF (i := 5) rfl [] [0, 1, 2, 3, 4, 5, 6] rfl rfl rfl rfl⟩
     ·intro L a w hv K Q hK
      obtain ⟨p3, p4, p5, p6, p7, p8, hs⟩ := hv
      refine wpOp_yes rfl rfl rfl hs (congrArg (fun b => some (Value.bool b)) hg3) (OpT_idxS rfl rfl rfl rfl rfl slF41 (i := 0) rfl hx2) ?_
      rintro _ ⟨p3', rfl⟩ a' w' hs'
      exact hK a' w' ⟨p3', p4, p5, p6, p7, p8, hs'.putF (i := 6) rfl [] [0, 7, 2, 3, 4, 5, 6] rfl rfl rfl rfl⟩
     ·intro L a w hv K Q hK
      obtain ⟨p3, p4, p5, p6, p7, p8, hs⟩ := hv
      refine wpOp_yes rfl rfl rfl hs (congrArg (fun b => some (Value.bool b)) hg3) (OpT_fieldP (S' := u64S) (y := s2.At) rfl rfl rfl rfl fldF46x0 (i := 1) rfl (by intro h cs hr; subst hr; rfl)) ?_
      rintro _ ⟨p4', rfl⟩ a' w' hs'
      exact hK a' w' ⟨p3, p4', p5, p6, p7, p8, hs'.putF (i := 7) rfl [] [0, 1, 7, 3, 4, 5, 6] rfl rfl rfl rfl⟩
     ·intro L a w hv K Q hK
      obtain ⟨p3, p4, p5, p6, p7, p8, hs⟩ := hv
      refine wpOp_yes rfl rfl rfl hs (congrArg (fun b => some (Value.bool b)) hg3) (OpT_loadP rfl rfl rfl rfl tyF27 (i := 2) rfl rfl) ?_
      rintro _ rfl a' w' hs'
      exact hK a' w' ⟨p3, p4, p5, p6, p7, p8, hs'.putF (i := 8) rfl [] [0, 1, 2, 3, 4, 5, 6] rfl rfl rfl rfl⟩
     ·intro L a w hv K Q hK
      obtain ⟨p3, p4, p5, p6, p7, p8, hs⟩ := hv
      refine wpOp_yes rfl rfl rfl hs (congrArg (fun b => some (Value.bool b)) hg3) (OpT_move rfl rfl rfl rfl) ?_
      rintro _ rfl a' w' hs'
      exact hK a' w' ⟨p3, p4, p5, p6, p7, p8, hs'.putF (i := 9) rfl [] [0, 1, 2, 3, 4, 5, 6] rfl rfl rfl rfl⟩
     ·intro L a w hv K Q hK
      obtain ⟨p3, p4, p5, p6, p7, p8, hs⟩ := hv
      refine wpOp_yes rfl rfl rfl hs (congrArg (fun b => some (Value.bool b)) hg3) (OpT_move rfl rfl rfl rfl) ?_
      rintro _ rfl a' w' hs'
      exact hK a' w' ⟨p3, p4, p5, p6, p7, p8, hs'.putF (i := 10) rfl [] [0, 1, 2, 3, 4, 5, 6] rfl rfl rfl rfl⟩
     ·intro L a w hv K Q hK
      obtain ⟨p3, p4, p5, p6, p7, p8, hs⟩ := hv
      refine wpOp_yes rfl rfl rfl hs (congrArg (fun b => some (Value.bool b)) hg3) (OpT_idxS rfl rfl rfl rfl rfl slF41 (i := 0) rfl hx3) ?_
      rintro _ ⟨p5', rfl⟩ a' w' hs'
      exact hK a' w' ⟨p3, p4, p5', p6, p7, p8, hs'.putF (i := 11) rfl [] [0, 1, 2, 7, 4, 5, 6] rfl rfl rfl rfl⟩
     ·intro L a w hv K Q hK
      obtain ⟨p3, p4, p5, p6, p7, p8, hs⟩ := hv
      refine wpOp_yes rfl rfl rfl hs (congrArg (fun b => some (Value.bool b)) hg3) (OpT_fieldP (S' := u32S) (y := s3.Len) rfl rfl rfl rfl fldF46x1 (i := 3) rfl (by intro h cs hr; subst hr; rfl)) ?_
      rintro _ ⟨p6', rfl⟩ a' w' hs'
      exact hK a' w' ⟨p3, p4, p5, p6', p7, p8, hs'.putF (i := 12) rfl [] [0, 1, 2, 3, 7, 5, 6] rfl rfl rfl rfl⟩
     ·intro L a w hv K Q hK
      obtain ⟨p3, p4, p5, p6, p7, p8, hs⟩ := hv
      refine wpOp_yes rfl rfl rfl hs (congrArg (fun b => some (Value.bool b)) hg3) (OpT_loadP rfl rfl rfl rfl tyF33 (i := 4) rfl rfl) ?_
      rintro _ rfl a' w' hs'
      exact hK a' w' ⟨p3, p4, p5, p6, p7, p8, hs'.putF (i := 13) rfl [] [0, 1, 2, 3, 4, 5, 6] rfl rfl rfl rfl⟩
     ·intro L a w hv K Q hK
      obtain ⟨p3, p4, p5, p6, p7, p8, hs⟩ := hv
      refine wpOp_yes rfl rfl rfl hs (congrArg (fun b => some (Value.bool b)) hg3) (OpT_cnv rfl rfl rfl rfl (cnv_u32_u64 (n := s3.Len) Try.underlying33 Try.underlying27)) ?_
      rintro _ rfl a' w' hs'
      exact hK a' w' ⟨p3, p4, p5, p6, p7, p8, hs'.putF (i := 14) rfl [] [0, 1, 2, 3, 4, 5, 6] rfl rfl rfl rfl⟩
     ·intro L a w hv K Q hK
      obtain ⟨p3, p4, p5, p6, p7, p8, hs⟩ := hv
      refine wpOp_yes rfl rfl rfl hs (congrArg (fun b => some (Value.bool b)) hg3) (OpT_bin rfl rfl rfl rfl rfl (bin_sub_u64 (a := s3.Len.toUInt64) (b := (1 : UInt64)))) ?_
      rintro _ rfl a' w' hs'
      exact hK a' w' ⟨p3, p4, p5, p6, p7, p8, hs'.putF (i := 15) rfl [] [0, 1, 2, 3, 4, 5, 6] rfl rfl rfl rfl⟩
     ·intro L a w hv K Q hK
      obtain ⟨p3, p4, p5, p6, p7, p8, hs⟩ := hv
      refine wpOp_yes rfl rfl rfl hs (congrArg (fun b => some (Value.bool b)) hg3) (OpT_bin rfl rfl rfl rfl rfl (bin_add_u64 (a := s2.At) (b := s3.Len.toUInt64 - (1 : UInt64)))) ?_
      rintro _ rfl a' w' hs'
      exact hK a' w' ⟨p3, p4, p5, p6, p7, p8, hs'.putF (i := 16) rfl [] [0, 1, 2, 3, 4, 5, 6] rfl rfl rfl rfl⟩
     ·intro L a w hv K Q hK
      obtain ⟨p3, p4, p5, p6, p7, p8, hs⟩ := hv
      refine wpOp_yes rfl rfl rfl hs (congrArg (fun b => some (Value.bool b)) hg3) (OpT_move rfl rfl rfl rfl) ?_
      rintro _ rfl a' w' hs'
      exact hK a' w' ⟨p3, p4, p5, p6, p7, p8, hs'.putF (i := 17) rfl [] [0, 1, 2, 3, 4, 5, 6] rfl rfl rfl rfl⟩
     ·intro L a w hv K Q hK
      obtain ⟨p3, p4, p5, p6, p7, p8, hs⟩ := hv
      refine wpOp_yes rfl rfl rfl hs (congrArg (fun b => some (Value.bool b)) hg3) (OpT_move rfl rfl rfl rfl) ?_
      rintro _ rfl a' w' hs'
      exact hK a' w' ⟨p3, p4, p5, p6, p7, p8, hs'.putF (i := 18) rfl [] [0, 1, 2, 3, 4, 5, 6] rfl rfl rfl rfl⟩
     ·intro L a w hv K Q hK
      obtain ⟨p3, p4, p5, p6, p7, p8, hs⟩ := hv
      refine wpOp_yes rfl rfl rfl hs (congrArg (fun b => some (Value.bool b)) hg3) (OpT_idxS rfl rfl rfl rfl rfl slF41 (i := 0) rfl hx4) ?_
      rintro _ ⟨p7', rfl⟩ a' w' hs'
      exact hK a' w' ⟨p3, p4, p5, p6, p7', p8, hs'.putF (i := 19) rfl [] [0, 1, 2, 3, 4, 7, 6] rfl rfl rfl rfl⟩
     ·intro L a w hv K Q hK
      obtain ⟨p3, p4, p5, p6, p7, p8, hs⟩ := hv
      refine wpOp_yes rfl rfl rfl hs (congrArg (fun b => some (Value.bool b)) hg3) (OpT_fieldP (S' := u64S) (y := s4.At) rfl rfl rfl rfl fldF46x0 (i := 5) rfl (by intro h cs hr; subst hr; rfl)) ?_
      rintro _ ⟨p8', rfl⟩ a' w' hs'
      exact hK a' w' ⟨p3, p4, p5, p6, p7, p8', hs'.putF (i := 20) rfl [] [0, 1, 2, 3, 4, 5, 7] rfl rfl rfl rfl⟩
     ·intro L a w hv K Q hK
      obtain ⟨p3, p4, p5, p6, p7, p8, hs⟩ := hv
      refine wpOp_yes rfl rfl rfl hs (congrArg (fun b => some (Value.bool b)) hg3) (OpT_loadP rfl rfl rfl rfl tyF27 (i := 6) rfl rfl) ?_
      rintro _ rfl a' w' hs'
      exact hK a' w' ⟨p3, p4, p5, p6, p7, p8, hs'.putF (i := 21) rfl [] [0, 1, 2, 3, 4, 5, 6] rfl rfl rfl rfl⟩
     ·intro L a w hL hv
      rw [allTrue hL] at hv
      obtain ⟨p3, p4, p5, p6, p7, p8, hs⟩ := hv
      refine gZ hs [0, 3, 4, 20, 33, 38] [] [0] rfl rfl rfl rfl ?_
      clear hs hL
      refine TA_yes htb (by kernel_rfl) rfl rfl rfl (congrArg (fun b => some (Value.bool b)) hg3) (OpT_bin rfl rfl rfl rfl rfl (bin_lss_u64 (a := s2.At + (s3.Len.toUInt64 - (1 : UInt64))) (b := s4.At))) ?_
      rintro _ rfl
      refine TA_step htb (by kernel_rfl) rfl rfl (OpT_pickF rfl rfl rfl (congrArg (fun b => some (Value.bool b)) hg3) rfl) ?_
      refine TA_step htb (by kernel_rfl) rfl rfl (OpT_move rfl rfl rfl rfl) ?_
      rcases Bool.eq_false_or_eq_true (decide ((s2.At + (s3.Len.toUInt64 - (1 : UInt64))) < s4.At)) with hg4 | hg4
      ·replace h := br_t hg4 h
       refine TA_no htb (by kernel_rfl) rfl rfl rfl (congrArg (fun b => some (Value.bool b)) hg4) rfl rfl ?_
       refine TA_no htb (by kernel_rfl) rfl rfl rfl (congrArg (fun b => some (Value.bool b)) hg4) rfl rfl ?_
       refine TA_no htb (by kernel_rfl) rfl rfl rfl (congrArg (fun b => some (Value.bool b)) hg4) rfl rfl ?_
       refine aZ [0, 3, 4, 41, 44] [] [0] rfl rfl rfl rfl ?_
       refine TA_seg (lo := 31) (hi := 34) htb rfl rfl (by kernel_rfl) (fun c L a w => Sat c ⟨[(0, some (vl1)), (3, some (vU64 sum1)), (4, some (vI i1)), (41, some (vB (decide ((s2.At + (s3.Len.toUInt64 - (1 : UInt64))) < s4.At)))), (44, some (undef)), (45, bif L 31 then some (undef) else none), (46, bif L 32 then some (undef) else none), (47, bif L 33 then some (undef) else none)], [], [Fact.sl SegS vl1 l]⟩ a w) [([], []), ([], [33]), ([32], [])] rfl (by kernel_rfl) ?_ (steps_cons ?_ (steps_cons ?_ (steps_cons ?_ (steps_nil)))) ?_
       ·intro a w hs
        exact hs.startF [45, 46, 47] [] [0] rfl rfl rfl rfl
       ·intro L a w hv K Q hK
        have hs := hv
        refine wpOp_noU rfl rfl rfl hs rfl rfl rfl ?_
        intro a' w' hs'
        exact hK a' w' (hs'.putF (i := 5) rfl [] [0] rfl rfl rfl rfl)
       ·intro L a w hv K Q hK
        have hs := hv
        refine wpOp_noU rfl rfl rfl hs rfl rfl rfl ?_
        intro a' w' hs'
        exact hK a' w' (hs'.putF (i := 6) rfl [] [0] rfl rfl rfl rfl)
       ·intro L a w hv K Q hK
        have hs := hv
        refine wpOp_noU rfl rfl rfl hs rfl rfl rfl ?_
        intro a' w' hs'
        exact hK a' w' (hs'.putF (i := 7) rfl [] [0] rfl rfl rfl rfl)
       ·intro L a w hL hv
        rw [allTrue hL] at hv
        have hs := hv
        refine gZ hs [0, 3, 4, 41, 44, 45, 47] [] [0] rfl rfl rfl rfl ?_
        clear hs hL
        refine TA_noU htb (by kernel_rfl) rfl rfl rfl rfl rfl rfl ?_
        refine TA_noU htb (by kernel_rfl) rfl rfl rfl rfl rfl rfl ?_
        refine TA_noU htb (by kernel_rfl) rfl rfl rfl rfl rfl rfl ?_
        refine TA_no htb (by kernel_rfl) rfl rfl rfl (congrArg (fun b => some (Value.bool b)) hg4) rfl rfl ?_
        refine TA_no htb (by kernel_rfl) rfl rfl rfl (congrArg (fun b => some (Value.bool b)) hg4) rfl rfl ?_
        refine aZ [0, 3, 4, 41, 52] [] [0] rfl rfl rfl rfl ?_
        refine TA_seg (lo := 39) (hi := 41) htb rfl rfl (by kernel_rfl) (fun c L a w => Sat c ⟨[(0, some (vl1)), (3, some (vU64 sum1)), (4, some (vI i1)), (41, some (vB (decide ((s2.At + (s3.Len.toUInt64 - (1 : UInt64))) < s4.At)))), (52, some (undef)), (53, bif L 39 then some (undef) else none), (54, bif L 40 then some (undef) else none)], [], [Fact.sl SegS vl1 l]⟩ a w) [([], []), ([], [])] rfl (by kernel_rfl) ?_ (steps_cons ?_ (steps_cons ?_ (steps_nil))) ?_
        ·intro a w hs
         exact hs.startF [53, 54] [] [0] rfl rfl rfl rfl
        ·intro L a w hv K Q hK
         have hs := hv
         refine wpOp_noU rfl rfl rfl hs rfl rfl rfl ?_
         intro a' w' hs'
         exact hK a' w' (hs'.putF (i := 5) rfl [] [0] rfl rfl rfl rfl)
        ·intro L a w hv K Q hK
         have hs := hv
         refine wpOp_noU rfl rfl rfl hs rfl rfl rfl ?_
         intro a' w' hs'
         exact hK a' w' (hs'.putF (i := 6) rfl [] [0] rfl rfl rfl rfl)
        ·intro L a w hL hv
         rw [allTrue hL] at hv
         have hs := hv
         refine gZ hs [0, 3, 4, 41, 52, 53, 54] [] [0] rfl rfl rfl rfl ?_
         clear hs hL
         refine TA_noU htb (by kernel_rfl) rfl rfl rfl rfl rfl rfl ?_
         refine TA_noU htb (by kernel_rfl) rfl rfl rfl rfl rfl rfl ?_
         refine TA_noU htb (by kernel_rfl) rfl rfl rfl rfl rfl rfl ?_
         refine TA_noU htb (by kernel_rfl) rfl rfl rfl rfl rfl rfl ?_
         refine TA_no htb (by kernel_rfl) rfl rfl rfl (congrArg (fun b => some (Value.bool b)) hg4) rfl rfl ?_
         refine TA_step htb (by kernel_rfl) rfl rfl (OpT_pickT rfl rfl rfl (congrArg (fun b => some (Value.bool b)) hg4) rfl) ?_
         refine TA_end rfl ?_
         refine tZ [0, 3, 4, 60] [] [0] rfl rfl rfl rfl ?_
         refine Tk_condT rfl ?_
         refine Tk_seq (Tk_region (Tops_step rfl (OpT_assign rfl rfl rfl rfl) ?_))
         refine Tops_nil (tZ [2] [] [] rfl rfl rfl rfl ?_)
         obtain rfl := Option.some.inj h
         exact Tk_retV rfl rfl (resA (vs := [vI (2 : Int)]) rfl ⟨rfl, trivial⟩) [] [] rfl rfl rfl ⟨rfl, rfl, rfl⟩
      ·replace h := br_f hg4 h
       refine TA_yes htb (by kernel_rfl) rfl rfl rfl (congrArg (fun b => some (Value.bool b)) hg4) (OpT_move rfl rfl rfl rfl) ?_
       rintro _ rfl
       refine TA_yes htb (by kernel_rfl) rfl rfl rfl (congrArg (fun b => some (Value.bool b)) hg4) (OpT_bin rfl rfl rfl rfl rfl (bin_gtr_i (a := i1) (b := (0 : Int)))) ?_
       rintro _ rfl
       refine TA_yes htb (by kernel_rfl) rfl rfl rfl (congrArg (fun b => some (Value.bool b)) hg4) (OpT_move rfl rfl rfl rfl) ?_
       rintro _ rfl
       refine aZ [0, 3, 4, 41, 44] [] [0] rfl rfl rfl rfl ?_
       rcases Bool.eq_false_or_eq_true (decide (i1 > (0 : Int))) with hg5 | hg5
       ·replace h := br_t hg5 h
        refine TA_seg (lo := 31) (hi := 34) htb rfl rfl (by kernel_rfl) (fun c L a w => Sat c ⟨[(0, some (vl1)), (3, some (vU64 sum1)), (4, some (vI i1)), (41, some (vB (decide ((s2.At + (s3.Len.toUInt64 - (1 : UInt64))) < s4.At)))), (44, some (vB (decide (i1 > (0 : Int))))), (45, bif L 31 then some (vl1) else none), (46, bif L 32 then some (vI i1) else none), (47, bif L 33 then some (vI (wi (i1 - (1 : Int)))) else none)], [], [Fact.sl SegS vl1 l]⟩ a w) [([], []), ([], [33]), ([32], [])] rfl (by kernel_rfl) ?_ (steps_cons ?_ (steps_cons ?_ (steps_cons ?_ (steps_nil)))) ?_
        ·intro a w hs
         exact hs.startF [45, 46, 47] [] [0] rfl rfl rfl rfl
        ·intro L a w hv K Q hK
         have hs := hv
         refine wpOp_yes rfl rfl rfl hs (congrArg (fun b => some (Value.bool b)) hg5) (OpT_move rfl rfl rfl rfl) ?_
         rintro _ rfl a' w' hs'
         exact hK a' w' (hs'.putF (i := 5) rfl [] [0] rfl rfl rfl rfl)
        ·intro L a w hv K Q hK
         have hs := hv
         refine wpOp_yes rfl rfl rfl hs (congrArg (fun b => some (Value.bool b)) hg5) (OpT_move rfl rfl rfl rfl) ?_
         rintro _ rfl a' w' hs'
         exact hK a' w' (hs'.putF (i := 6) rfl [] [0] rfl rfl rfl rfl)
        ·intro L a w hv K Q hK
         have hs := hv
         refine wpOp_yes rfl rfl rfl hs (congrArg (fun b => some (Value.bool b)) hg5) (OpT_bin rfl rfl rfl rfl rfl (bin_sub_i (a := i1) (b := (1 : Int)))) ?_
         rintro _ rfl a' w' hs'
         exact hK a' w' (hs'.putF (i := 7) rfl [] [0] rfl rfl rfl rfl)
        ·intro L a w hL hv
         rw [allTrue hL] at hv
         have hs := hv
         refine gZ hs [0, 3, 4, 41, 44, 45, 47] [] [0] rfl rfl rfl rfl ?_
         clear hs hL
         obtain ⟨s5, hx5, h⟩ := ob_e h
         refine TA_yes htb (by kernel_rfl) rfl rfl rfl (congrArg (fun b => some (Value.bool b)) hg5) (OpT_idxS rfl rfl rfl rfl rfl slF41 (i := 0) rfl hx5) ?_
         rintro _ ⟨p9, rfl⟩
         refine TA_yes htb (by kernel_rfl) rfl rfl rfl (congrArg (fun b => some (Value.bool b)) hg5) (OpT_fieldP (S' := bS) (y := s5.Write) rfl rfl rfl rfl fldF46x2 (i := 1) rfl (by intro h cs hr; subst hr; rfl)) ?_
         rintro _ ⟨p10, rfl⟩
         refine TA_yes htb (by kernel_rfl) rfl rfl rfl (congrArg (fun b => some (Value.bool b)) hg5) (OpT_loadP rfl rfl rfl rfl tyF4 (i := 2) rfl rfl) ?_
         rintro _ rfl
         refine TA_yes htb (by kernel_rfl) rfl rfl rfl (congrArg (fun b => some (Value.bool b)) hg4) (OpT_pickT rfl rfl rfl (congrArg (fun b => some (Value.bool b)) hg5) rfl) ?_
         rintro _ rfl
         refine TA_yes htb (by kernel_rfl) rfl rfl rfl (congrArg (fun b => some (Value.bool b)) hg4) (OpT_move rfl rfl rfl rfl) ?_
         rintro _ rfl
         refine aZ [0, 3, 4, 41, 52] [] [0] rfl rfl rfl rfl ?_
         rcases Bool.eq_false_or_eq_true (s5.Write) with hg6 | hg6
         ·replace h := br_t hg6 h
          refine TA_seg (lo := 39) (hi := 41) htb rfl rfl (by kernel_rfl) (fun c L a w => Sat c ⟨[(0, some (vl1)), (3, some (vU64 sum1)), (4, some (vI i1)), (41, some (vB (decide ((s2.At + (s3.Len.toUInt64 - (1 : UInt64))) < s4.At)))), (52, some (vB s5.Write)), (53, bif L 39 then some (vl1) else none), (54, bif L 40 then some (vI i1) else none)], [], [Fact.sl SegS vl1 l]⟩ a w) [([], []), ([], [])] rfl (by kernel_rfl) ?_ (steps_cons ?_ (steps_cons ?_ (steps_nil))) ?_
          ·intro a w hs
           exact hs.startF [53, 54] [] [0] rfl rfl rfl rfl
          ·intro L a w hv K Q hK
           have hs := hv
           refine wpOp_yes rfl rfl rfl hs (congrArg (fun b => some (Value.bool b)) hg6) (OpT_move rfl rfl rfl rfl) ?_
           rintro _ rfl a' w' hs'
           exact hK a' w' (hs'.putF (i := 5) rfl [] [0] rfl rfl rfl rfl)
          ·intro L a w hv K Q hK
           have hs := hv
           refine wpOp_yes rfl rfl rfl hs (congrArg (fun b => some (Value.bool b)) hg6) (OpT_move rfl rfl rfl rfl) ?_
           rintro _ rfl a' w' hs'
           exact hK a' w' (hs'.putF (i := 6) rfl [] [0] rfl rfl rfl rfl)
          ·intro L a w hL hv
           rw [allTrue hL] at hv
           have hs := hv
           refine gZ hs [0, 3, 4, 41, 52, 53, 54] [] [0] rfl rfl rfl rfl ?_
           clear hs hL
           obtain ⟨s6, hx6, h⟩ := ob_e h
           refine TA_yes htb (by kernel_rfl) rfl rfl rfl (congrArg (fun b => some (Value.bool b)) hg6) (OpT_idxS rfl rfl rfl rfl rfl slF41 (i := 0) rfl hx6) ?_
           rintro _ ⟨p11, rfl⟩
           refine TA_yes htb (by kernel_rfl) rfl rfl rfl (congrArg (fun b => some (Value.bool b)) hg6) (OpT_fieldP (S' := bS) (y := s6.Write) rfl rfl rfl rfl fldF46x2 (i := 1) rfl (by intro h cs hr; subst hr; rfl)) ?_
           rintro _ ⟨p12, rfl⟩
           refine TA_yes htb (by kernel_rfl) rfl rfl rfl (congrArg (fun b => some (Value.bool b)) hg6) (OpT_loadP rfl rfl rfl rfl tyF4 (i := 2) rfl rfl) ?_
           rintro _ rfl
           refine TA_yes htb (by kernel_rfl) rfl rfl rfl (congrArg (fun b => some (Value.bool b)) hg6) (OpT_not rfl rfl rfl rfl) ?_
           rintro _ rfl
           refine TA_yes htb (by kernel_rfl) rfl rfl rfl (congrArg (fun b => some (Value.bool b)) hg4) (OpT_pickT rfl rfl rfl (congrArg (fun b => some (Value.bool b)) hg6) rfl) ?_
           rintro _ rfl
           refine TA_step htb (by kernel_rfl) rfl rfl (OpT_pickF rfl rfl rfl (congrArg (fun b => some (Value.bool b)) hg4) rfl) ?_
           refine TA_end rfl ?_
           refine tZ [0, 3, 4, 60] [] [0] rfl rfl rfl rfl ?_
           rcases Bool.eq_false_or_eq_true ((!s6.Write)) with hg7 | hg7
           ·replace h := br_t hg7 h
            refine Tk_condT (congrArg (fun b => some (Value.bool b)) hg7) ?_
            refine Tk_seq (Tk_region (Tops_step rfl (OpT_assign rfl rfl rfl rfl) ?_))
            refine Tops_nil (tZ [2] [] [] rfl rfl rfl rfl ?_)
            obtain rfl := Option.some.inj h
            exact Tk_retV rfl rfl (resA (vs := [vI (2 : Int)]) rfl ⟨rfl, trivial⟩) [] [] rfl rfl rfl ⟨rfl, rfl, rfl⟩
           ·replace h := br_f hg7 h
            refine Tk_condF (congrArg (fun b => some (Value.bool b)) hg7) ?_
            refine Tk_skip (Tk_region (Tops_step rfl (OpT_move rfl rfl rfl rfl) ?_))
            refine Tops_step rfl (OpT_move rfl rfl rfl rfl) ?_
            refine Tops_step rfl (OpT_move rfl rfl rfl rfl) ?_
            obtain ⟨s7, hx7, h⟩ := ob_e h
            refine Tops_ex rfl (OpT_idxS rfl rfl rfl rfl rfl slF41 (i := 0) rfl hx7) fun p13 => ?_
            refine Tops_ex rfl (OpT_fieldP (S' := u32S) (y := s7.Len) rfl rfl rfl rfl fldF46x1 (i := 1) rfl (by intro h cs hr; subst hr; rfl)) fun p14 => ?_
            refine Tops_step rfl (OpT_loadP rfl rfl rfl rfl tyF33 (i := 2) rfl rfl) ?_
            refine Tops_step rfl (OpT_cnv rfl rfl rfl rfl (cnv_u32_u64 (n := s7.Len) Try.underlying33 Try.underlying27)) ?_
            refine Tops_step rfl (OpT_bin rfl rfl rfl rfl rfl (bin_add_u64 (a := sum1) (b := s7.Len.toUInt64))) ?_
            refine Tops_step rfl (OpT_assign rfl rfl rfl rfl) ?_
            refine Tops_nil (tZ [0, 3, 4] [] [0] rfl rfl rfl rfl ?_)
            refine Tk_blk (Tk_region (Tops_step rfl (OpT_move rfl rfl rfl rfl) ?_))
            refine Tops_step rfl (OpT_bin rfl rfl rfl rfl rfl (bin_add_i (a := i1) (b := (1 : Int)))) ?_
            refine Tops_step rfl (OpT_assign rfl rfl rfl rfl) ?_
            refine Tops_nil (tZ [0, 3, 4] [] [0] rfl rfl rfl rfl ?_)
            exact Tk_backS (sum1 + s7.Len.toUInt64, wi (i1 + (1 : Int))) h [0, 3, 4] [] [0] rfl rfl rfl rfl rfl
         ·replace h := br_f hg6 h
          refine TA_seg (lo := 39) (hi := 41) htb rfl rfl (by kernel_rfl) (fun c L a w => Sat c ⟨[(0, some (vl1)), (3, some (vU64 sum1)), (4, some (vI i1)), (41, some (vB (decide ((s2.At + (s3.Len.toUInt64 - (1 : UInt64))) < s4.At)))), (52, some (vB s5.Write)), (53, bif L 39 then some (undef) else none), (54, bif L 40 then some (undef) else none)], [], [Fact.sl SegS vl1 l]⟩ a w) [([], []), ([], [])] rfl (by kernel_rfl) ?_ (steps_cons ?_ (steps_cons ?_ (steps_nil))) ?_
          ·intro a w hs
           exact hs.startF [53, 54] [] [0] rfl rfl rfl rfl
          ·intro L a w hv K Q hK
           have hs := hv
           refine wpOp_no rfl rfl rfl hs (congrArg (fun b => some (Value.bool b)) hg6) rfl rfl ?_
           intro a' w' hs'
           exact hK a' w' (hs'.putF (i := 5) rfl [] [0] rfl rfl rfl rfl)
          ·intro L a w hv K Q hK
           have hs := hv
           refine wpOp_no rfl rfl rfl hs (congrArg (fun b => some (Value.bool b)) hg6) rfl rfl ?_
           intro a' w' hs'
           exact hK a' w' (hs'.putF (i := 6) rfl [] [0] rfl rfl rfl rfl)
          ·intro L a w hL hv
           rw [allTrue hL] at hv
           have hs := hv
           refine gZ hs [0, 3, 4, 41, 52, 53, 54] [] [0] rfl rfl rfl rfl ?_
           clear hs hL
           refine TA_no htb (by kernel_rfl) rfl rfl rfl (congrArg (fun b => some (Value.bool b)) hg6) rfl rfl ?_
           refine TA_no htb (by kernel_rfl) rfl rfl rfl (congrArg (fun b => some (Value.bool b)) hg6) rfl rfl ?_
           refine TA_no htb (by kernel_rfl) rfl rfl rfl (congrArg (fun b => some (Value.bool b)) hg6) rfl rfl ?_
           refine TA_no htb (by kernel_rfl) rfl rfl rfl (congrArg (fun b => some (Value.bool b)) hg6) rfl rfl ?_
           refine TA_yes htb (by kernel_rfl) rfl rfl rfl (congrArg (fun b => some (Value.bool b)) hg4) (OpT_pickF rfl rfl rfl (congrArg (fun b => some (Value.bool b)) hg6) rfl) ?_
           rintro _ rfl
           refine TA_step htb (by kernel_rfl) rfl rfl (OpT_pickF rfl rfl rfl (congrArg (fun b => some (Value.bool b)) hg4) rfl) ?_
           refine TA_end rfl ?_
           refine tZ [0, 3, 4, 60] [] [0] rfl rfl rfl rfl ?_
           refine Tk_condF rfl ?_
           refine Tk_skip (Tk_region (Tops_step rfl (OpT_move rfl rfl rfl rfl) ?_))
           refine Tops_step rfl (OpT_move rfl rfl rfl rfl) ?_
           refine Tops_step rfl (OpT_move rfl rfl rfl rfl) ?_
           obtain ⟨s8, hx8, h⟩ := ob_e h
           refine Tops_ex rfl (OpT_idxS rfl rfl rfl rfl rfl slF41 (i := 0) rfl hx8) fun p15 => ?_
           refine Tops_ex rfl (OpT_fieldP (S' := u32S) (y := s8.Len) rfl rfl rfl rfl fldF46x1 (i := 1) rfl (by intro h cs hr; subst hr; rfl)) fun p16 => ?_
           refine Tops_step rfl (OpT_loadP rfl rfl rfl rfl tyF33 (i := 2) rfl rfl) ?_
           refine Tops_step rfl (OpT_cnv rfl rfl rfl rfl (cnv_u32_u64 (n := s8.Len) Try.underlying33 Try.underlying27)) ?_
           refine Tops_step rfl (OpT_bin rfl rfl rfl rfl rfl (bin_add_u64 (a := sum1) (b := s8.Len.toUInt64))) ?_
           refine Tops_step rfl (OpT_assign rfl rfl rfl rfl) ?_
           refine Tops_nil (tZ [0, 3, 4] [] [0] rfl rfl rfl rfl ?_)
           refine Tk_blk (Tk_region (Tops_step rfl (OpT_move rfl rfl rfl rfl) ?_))
           refine Tops_step rfl (OpT_bin rfl rfl rfl rfl rfl (bin_add_i (a := i1) (b := (1 : Int)))) ?_
           refine Tops_step rfl (OpT_assign rfl rfl rfl rfl) ?_
           refine Tops_nil (tZ [0, 3, 4] [] [0] rfl rfl rfl rfl ?_)
           exact Tk_backS (sum1 + s8.Len.toUInt64, wi (i1 + (1 : Int))) h [0, 3, 4] [] [0] rfl rfl rfl rfl rfl
       ·replace h := br_f hg5 h
        refine TA_seg (lo := 31) (hi := 34) htb rfl rfl (by kernel_rfl) (fun c L a w => Sat c ⟨[(0, some (vl1)), (3, some (vU64 sum1)), (4, some (vI i1)), (41, some (vB (decide ((s2.At + (s3.Len.toUInt64 - (1 : UInt64))) < s4.At)))), (44, some (vB (decide (i1 > (0 : Int))))), (45, bif L 31 then some (undef) else none), (46, bif L 32 then some (undef) else none), (47, bif L 33 then some (undef) else none)], [], [Fact.sl SegS vl1 l]⟩ a w) [([], []), ([], [33]), ([32], [])] rfl (by kernel_rfl) ?_ (steps_cons ?_ (steps_cons ?_ (steps_cons ?_ (steps_nil)))) ?_
        ·intro a w hs
         exact hs.startF [45, 46, 47] [] [0] rfl rfl rfl rfl
        ·intro L a w hv K Q hK
         have hs := hv
         refine wpOp_no rfl rfl rfl hs (congrArg (fun b => some (Value.bool b)) hg5) rfl rfl ?_
         intro a' w' hs'
         exact hK a' w' (hs'.putF (i := 5) rfl [] [0] rfl rfl rfl rfl)
        ·intro L a w hv K Q hK
         have hs := hv
         refine wpOp_no rfl rfl rfl hs (congrArg (fun b => some (Value.bool b)) hg5) rfl rfl ?_
         intro a' w' hs'
         exact hK a' w' (hs'.putF (i := 6) rfl [] [0] rfl rfl rfl rfl)
        ·intro L a w hv K Q hK
         have hs := hv
         refine wpOp_no rfl rfl rfl hs (congrArg (fun b => some (Value.bool b)) hg5) rfl rfl ?_
         intro a' w' hs'
         exact hK a' w' (hs'.putF (i := 7) rfl [] [0] rfl rfl rfl rfl)
        ·intro L a w hL hv
         rw [allTrue hL] at hv
         have hs := hv
         refine gZ hs [0, 3, 4, 41, 44, 45, 47] [] [0] rfl rfl rfl rfl ?_
         clear hs hL
         refine TA_no htb (by kernel_rfl) rfl rfl rfl (congrArg (fun b => some (Value.bool b)) hg5) rfl rfl ?_
         refine TA_no htb (by kernel_rfl) rfl rfl rfl (congrArg (fun b => some (Value.bool b)) hg5) rfl rfl ?_
         refine TA_no htb (by kernel_rfl) rfl rfl rfl (congrArg (fun b => some (Value.bool b)) hg5) rfl rfl ?_
         refine TA_yes htb (by kernel_rfl) rfl rfl rfl (congrArg (fun b => some (Value.bool b)) hg4) (OpT_pickF rfl rfl rfl (congrArg (fun b => some (Value.bool b)) hg5) rfl) ?_
         rintro _ rfl
         refine TA_yes htb (by kernel_rfl) rfl rfl rfl (congrArg (fun b => some (Value.bool b)) hg4) (OpT_move rfl rfl rfl rfl) ?_
         rintro _ rfl
         refine aZ [0, 3, 4, 41, 52] [] [0] rfl rfl rfl rfl ?_
         refine TA_seg (lo := 39) (hi := 41) htb rfl rfl (by kernel_rfl) (fun c L a w => Sat c ⟨[(0, some (vl1)), (3, some (vU64 sum1)), (4, some (vI i1)), (41, some (vB (decide ((s2.At + (s3.Len.toUInt64 - (1 : UInt64))) < s4.At)))), (52, some (vB false)), (53, bif L 39 then some (undef) else none), (54, bif L 40 then some (undef) else none)], [], [Fact.sl SegS vl1 l]⟩ a w) [([], []), ([], [])] rfl (by kernel_rfl) ?_ (steps_cons ?_ (steps_cons ?_ (steps_nil))) ?_
         ·intro a w hs
          exact hs.startF [53, 54] [] [0] rfl rfl rfl rfl
         ·intro L a w hv K Q hK
          have hs := hv
          refine wpOp_no rfl rfl rfl hs rfl rfl rfl ?_
          intro a' w' hs'
          exact hK a' w' (hs'.putF (i := 5) rfl [] [0] rfl rfl rfl rfl)
         ·intro L a w hv K Q hK
          have hs := hv
          refine wpOp_no rfl rfl rfl hs rfl rfl rfl ?_
          intro a' w' hs'
          exact hK a' w' (hs'.putF (i := 6) rfl [] [0] rfl rfl rfl rfl)
         ·intro L a w hL hv
          rw [allTrue hL] at hv
          have hs := hv
          refine gZ hs [0, 3, 4, 41, 52, 53, 54] [] [0] rfl rfl rfl rfl ?_
          clear hs hL
          refine TA_no htb (by kernel_rfl) rfl rfl rfl rfl rfl rfl ?_
          refine TA_no htb (by kernel_rfl) rfl rfl rfl rfl rfl rfl ?_
          refine TA_no htb (by kernel_rfl) rfl rfl rfl rfl rfl rfl ?_
          refine TA_no htb (by kernel_rfl) rfl rfl rfl rfl rfl rfl ?_
          refine TA_yes htb (by kernel_rfl) rfl rfl rfl (congrArg (fun b => some (Value.bool b)) hg4) (OpT_pickF rfl rfl rfl rfl rfl) ?_
          rintro _ rfl
          refine TA_step htb (by kernel_rfl) rfl rfl (OpT_pickF rfl rfl rfl (congrArg (fun b => some (Value.bool b)) hg4) rfl) ?_
          refine TA_end rfl ?_
          refine tZ [0, 3, 4, 60] [] [0] rfl rfl rfl rfl ?_
          refine Tk_condF rfl ?_
          refine Tk_skip (Tk_region (Tops_step rfl (OpT_move rfl rfl rfl rfl) ?_))
          refine Tops_step rfl (OpT_move rfl rfl rfl rfl) ?_
          refine Tops_step rfl (OpT_move rfl rfl rfl rfl) ?_
          obtain ⟨s9, hx9, h⟩ := ob_e h
          refine Tops_ex rfl (OpT_idxS rfl rfl rfl rfl rfl slF41 (i := 0) rfl hx9) fun p17 => ?_
          refine Tops_ex rfl (OpT_fieldP (S' := u32S) (y := s9.Len) rfl rfl rfl rfl fldF46x1 (i := 1) rfl (by intro h cs hr; subst hr; rfl)) fun p18 => ?_
          refine Tops_step rfl (OpT_loadP rfl rfl rfl rfl tyF33 (i := 2) rfl rfl) ?_
          refine Tops_step rfl (OpT_cnv rfl rfl rfl rfl (cnv_u32_u64 (n := s9.Len) Try.underlying33 Try.underlying27)) ?_
          refine Tops_step rfl (OpT_bin rfl rfl rfl rfl rfl (bin_add_u64 (a := sum1) (b := s9.Len.toUInt64))) ?_
          refine Tops_step rfl (OpT_assign rfl rfl rfl rfl) ?_
          refine Tops_nil (tZ [0, 3, 4] [] [0] rfl rfl rfl rfl ?_)
          refine Tk_blk (Tk_region (Tops_step rfl (OpT_move rfl rfl rfl rfl) ?_))
          refine Tops_step rfl (OpT_bin rfl rfl rfl rfl rfl (bin_add_i (a := i1) (b := (1 : Int)))) ?_
          refine Tops_step rfl (OpT_assign rfl rfl rfl rfl) ?_
          refine Tops_nil (tZ [0, 3, 4] [] [0] rfl rfl rfl rfl ?_)
          exact Tk_backS (sum1 + s9.Len.toUInt64, wi (i1 + (1 : Int))) h [0, 3, 4] [] [0] rfl rfl rfl rfl rfl
  ·replace h := br_f hg2 h
   refine Tk_condF (congrArg (fun b => some (Value.bool b)) hg2) ?_
   refine Tk_exit _ rfl ?_
   refine Tk_seq (Tk_seq (Tk_region (Tops_step rfl (OpT_move rfl rfl rfl rfl) ?_)))
   refine Tops_step rfl (OpT_bin rfl rfl rfl rfl rfl (bin_geq_u64 (a := sum1) (b := (4294967296 : UInt64)))) ?_
   refine Tops_nil (tZ [70] [] [] rfl rfl rfl rfl ?_)
   rcases Bool.eq_false_or_eq_true (decide (sum1 ≥ (4294967296 : UInt64))) with hg8 | hg8
   ·replace h := br_t hg8 h
    refine Tk_condT (congrArg (fun b => some (Value.bool b)) hg8) ?_
    refine Tk_seq (Tk_region (Tops_step rfl (OpT_assign rfl rfl rfl rfl) ?_))
    refine Tops_nil (tZ [2] [] [] rfl rfl rfl rfl ?_)
    obtain rfl := Option.some.inj h
    exact Tk_retV rfl rfl (resA (vs := [vI (2 : Int)]) rfl ⟨rfl, trivial⟩) [] [] rfl rfl rfl ⟨rfl, rfl, rfl⟩
   ·replace h := br_f hg8 h
    refine Tk_condF (congrArg (fun b => some (Value.bool b)) hg8) ?_
    refine Tk_skip (Tk_seq (Tk_region (Tops_step rfl (OpT_assign rfl rfl rfl rfl) ?_)))
    refine Tops_nil (tZ [2] [] [] rfl rfl rfl rfl ?_)
    obtain rfl := Option.some.inj h
    exact Tk_retV rfl rfl (resA (vs := [vI (0 : Int)]) rfl ⟨rfl, trivial⟩) [] [] rfl rfl rfl ⟨rfl, rfl, rfl⟩

set_option maxRecDepth 100000 in
set_option maxHeartbeats 4000000 in
theorem w_kit_Own {b : List UInt8} {vb1 : Value} {r : (List UInt8)} (h : kit_Own b = some r) :
  Ctr Try.prog 23 #[vb1] [] [Fact.sl u8S vb1 b]
   (fun rv own shr => ∃ (w1 : Value), rv = w1 ∧ own = [(rowS u8S w1 r)] ∧ shr = []) := by
 unfold kit_Own at h
 refine Ctr.mk (args := [vb1]) Try.func23 rfl rfl (fun R0 w0 B => ?_)
 refine Tk_seq (Tk_region (Tops_step rfl (OpT_assign rfl rfl rfl rfl) ?_))
 refine Tops_nil (tZ [0] [] [0] rfl rfl rfl rfl ?_)
 refine Tk_seq (Tk_region (Tops_ex rfl (OpT_buildSlice (S := u8S) (xs := ([] : List UInt8)) (css := []) (cs := []) (e := 5) rfl rfl rfl rfl (bldF slF39 (by decide) (by kernel_rfl)) rfl rfl rfl rfl (rel_plainD (S := u8S) (xs := ([] : List UInt8)) (css := []) rfl rfl)) fun v1 => ?_))
 refine Tops_step rfl (OpT_move rfl rfl rfl rfl) ?_
 obtain ⟨hc1, h⟩ := chk_e h
 refine Tops_ex rfl (OpT_append rfl rfl rfl rfl rfl slF39 (i := 0) (j := 0) rfl rfl hc1) fun v2 => ?_
 refine Tops_step rfl (OpT_assign rfl rfl rfl rfl) ?_
 refine Tops_nil (tZ [2] [0] [] rfl rfl rfl rfl ?_)
 obtain rfl := Option.some.inj h
 exact Tk_retV rfl rfl (resA (vs := [v2]) rfl ⟨rfl, trivial⟩) [0] [] rfl rfl rfl ⟨v2, rfl, rfl, rfl⟩

set_option maxRecDepth 100000 in
set_option maxHeartbeats 4000000 in
theorem w_ref_may09 {l : List Seg} {vl1 : Value} {r : Int} (h : ref_may09 l = some r) :
  Ctr Try.prog 61 #[vl1] [] [Fact.sl SegS vl1 l]
   (fun rv own shr => rv = vI r ∧ own = [] ∧ shr = []) := by
 unfold ref_may09 at h
 refine Ctr.mk (args := [vl1]) Try.func61 rfl rfl (fun R0 w0 B => ?_)
 refine Tk_seq (Tk_region (Tops_step rfl (OpT_assign rfl rfl rfl rfl) ?_))
 refine Tops_nil (tZ [0] [] [0] rfl rfl rfl rfl ?_)
 refine Tk_seq (Tk_region (Tops_step rfl (OpT_move rfl rfl rfl rfl) ?_))
 obtain ⟨check1, hx1, h⟩ := ob_e h
 refine Tops_exP rfl (OpT_call (w_ref_Check05 hx1) [] [0] rfl rfl rfl rfl rfl callee96 rfl rfl rfl rfl) ?_
 rintro _ ⟨_, _, _, ⟨rfl, rfl, rfl⟩, rfl⟩
 refine Tops_step rfl (OpT_assign rfl rfl rfl rfl) ?_
 refine Tops_nil (tZ [0, 3] [] [0] rfl rfl rfl rfl ?_)
 refine Tk_seq (Tk_seq (Tk_region (Tops_step rfl (OpT_move rfl rfl rfl rfl) ?_)))
 refine Tops_step rfl (OpT_bin rfl rfl rfl rfl rfl (bin_eql_i (a := check1) (b := (0 : Int)))) ?_
 refine Tops_step rfl (OpT_move rfl rfl rfl rfl) ?_
 rcases Bool.eq_false_or_eq_true (check1 == (0 : Int)) with hg1 | hg1
 ·replace h := br_t hg1 h
  refine Tops_yes rfl rfl (congrArg (fun b => some (Value.bool b)) hg1) (OpT_move rfl rfl rfl rfl) ?_
  rintro _ rfl
  refine Tops_yes rfl rfl (congrArg (fun b => some (Value.bool b)) hg1) (OpT_lenS rfl rfl rfl rfl Try.underlying41 (i := 0) rfl) ?_
  rintro _ rfl
  refine Tops_yes rfl rfl (congrArg (fun b => some (Value.bool b)) hg1) (OpT_bin rfl rfl rfl rfl rfl (bin_eql_i (a := len l) (b := (0 : Int)))) ?_
  rintro _ rfl
  refine Tops_step rfl (OpT_pickT rfl rfl rfl (congrArg (fun b => some (Value.bool b)) hg1) rfl) ?_
  refine Tops_nil (tZ [3, 12] [] [] rfl rfl rfl rfl ?_)
  rcases Bool.eq_false_or_eq_true ((len l) == (0 : Int)) with hg2 | hg2
  ·replace h := br_t hg2 h
   refine Tk_condT (congrArg (fun b => some (Value.bool b)) hg2) ?_
   refine Tk_region (Tops_step rfl (OpT_assign rfl rfl rfl rfl) ?_)
   refine Tops_nil (tZ [3] [] [] rfl rfl rfl rfl ?_)
   refine Tk_seq (Tk_region (Tops_step rfl (OpT_move rfl rfl rfl rfl) ?_))
   refine Tops_step rfl (OpT_assign rfl rfl rfl rfl) ?_
   refine Tops_nil (tZ [2] [] [] rfl rfl rfl rfl ?_)
   obtain rfl := Option.some.inj h
   exact Tk_retV rfl rfl (resA (vs := [vI (2 : Int)]) rfl ⟨rfl, trivial⟩) [] [] rfl rfl rfl ⟨rfl, rfl, rfl⟩
  ·replace h := br_f hg2 h
   refine Tk_condF (congrArg (fun b => some (Value.bool b)) hg2) ?_
   refine Tk_skip (Tk_seq (Tk_region (Tops_step rfl (OpT_move rfl rfl rfl rfl) ?_)))
   refine Tops_step rfl (OpT_assign rfl rfl rfl rfl) ?_
   refine Tops_nil (tZ [2] [] [] rfl rfl rfl rfl ?_)
   obtain rfl := Option.some.inj h
   exact Tk_retV rfl rfl (resA (vs := [vI check1]) rfl ⟨rfl, trivial⟩) [] [] rfl rfl rfl ⟨rfl, rfl, rfl⟩
 ·replace h := br_f hg1 h
  refine Tops_no rfl rfl (congrArg (fun b => some (Value.bool b)) hg1) rfl rfl ?_
  refine Tops_no rfl rfl (congrArg (fun b => some (Value.bool b)) hg1) rfl rfl ?_
  refine Tops_no rfl rfl (congrArg (fun b => some (Value.bool b)) hg1) rfl rfl ?_
  refine Tops_step rfl (OpT_pickF rfl rfl rfl (congrArg (fun b => some (Value.bool b)) hg1) rfl) ?_
  refine Tops_nil (tZ [3, 12] [] [] rfl rfl rfl rfl ?_)
  refine Tk_condF rfl ?_
  refine Tk_skip (Tk_seq (Tk_region (Tops_step rfl (OpT_move rfl rfl rfl rfl) ?_)))
  refine Tops_step rfl (OpT_assign rfl rfl rfl rfl) ?_
  refine Tops_nil (tZ [2] [] [] rfl rfl rfl rfl ?_)
  obtain rfl := Option.some.inj h
  exact Tk_retV rfl rfl (resA (vs := [vI check1]) rfl ⟨rfl, trivial⟩) [] [] rfl rfl rfl ⟨rfl, rfl, rfl⟩

set_option maxRecDepth 100000 in
set_option maxHeartbeats 4000000 in
theorem w_ref_Needs09 {l : List Seg} {table : Bool} {vl1 : Value} {r : Int} (h : ref_Needs09 l table = some r) :
  Ctr Try.prog 25 #[vl1, vB table] [] [Fact.sl SegS vl1 l]
   (fun rv own shr => rv = vI r ∧ own = [] ∧ shr = []) := by
 unfold ref_Needs09 at h
 refine Ctr.mk (args := [vl1, vB table]) Try.func25 rfl rfl (fun R0 w0 B => ?_)
 refine Tk_seq (Tk_region (Tops_step rfl (OpT_assign rfl rfl rfl rfl) ?_))
 refine Tops_nil (tZ [0, 1] [] [0] rfl rfl rfl rfl ?_)
 refine Tk_seq (Tk_seq (Tk_region (Tops_step rfl (OpT_move rfl rfl rfl rfl) ?_)))
 obtain ⟨may1, hx1, h⟩ := ob_e h
 refine Tops_exP rfl (OpT_call (w_ref_may09 hx1) [] [0] rfl rfl rfl rfl rfl callee61 rfl rfl rfl rfl) ?_
 rintro _ ⟨_, _, _, ⟨rfl, rfl, rfl⟩, rfl⟩
 refine Tops_step rfl (OpT_bin rfl rfl rfl rfl rfl (bin_neq_i (a := may1) (b := (0 : Int)))) ?_
 refine Tops_nil (tZ [0, 1, 7] [] [0] rfl rfl rfl rfl ?_)
 rcases Bool.eq_false_or_eq_true (may1 != (0 : Int)) with hg1 | hg1
 ·replace h := br_t hg1 h
  refine Tk_condT (congrArg (fun b => some (Value.bool b)) hg1) ?_
  refine Tk_seq (Tk_region (Tops_step rfl (OpT_assign rfl rfl rfl rfl) ?_))
  refine Tops_nil (tZ [4] [] [] rfl rfl rfl rfl ?_)
  obtain rfl := Option.some.inj h
  exact Tk_retV rfl rfl (resA (vs := [vI (0 : Int)]) rfl ⟨rfl, trivial⟩) [] [] rfl rfl rfl ⟨rfl, rfl, rfl⟩
 ·replace h := br_f hg1 h
  refine Tk_condF (congrArg (fun b => some (Value.bool b)) hg1) ?_
  refine Tk_skip (Tk_seq (Tk_seq (Tk_region (Tops_step rfl (OpT_move rfl rfl rfl rfl) ?_))))
  refine Tops_nil (tZ [0, 8] [] [0] rfl rfl rfl rfl ?_)
  rcases Bool.eq_false_or_eq_true (table) with hg2 | hg2
  ·replace h := br_t hg2 h
   refine Tk_condT (congrArg (fun b => some (Value.bool b)) hg2) ?_
   refine Tk_seq (Tk_region (Tops_step rfl (OpT_assign rfl rfl rfl rfl) ?_))
   refine Tops_nil (tZ [4] [] [] rfl rfl rfl rfl ?_)
   obtain rfl := Option.some.inj h
   exact Tk_retV rfl rfl (resA (vs := [vI (1 : Int)]) rfl ⟨rfl, trivial⟩) [] [] rfl rfl rfl ⟨rfl, rfl, rfl⟩
  ·replace h := br_f hg2 h
   refine Tk_condF (congrArg (fun b => some (Value.bool b)) hg2) ?_
   refine Tk_skip (Tk_seq (Tk_region (Tops_step rfl (OpT_move rfl rfl rfl rfl) ?_)))
   refine Tops_step rfl (OpT_lenS rfl rfl rfl rfl Try.underlying41 (i := 0) rfl) ?_
   refine Tops_step rfl (OpT_assign rfl rfl rfl rfl) ?_
   refine Tops_nil (tZ [4] [] [] rfl rfl rfl rfl ?_)
   obtain rfl := Option.some.inj h
   exact Tk_retV rfl rfl (resA (vs := [vI (len l)]) rfl ⟨rfl, trivial⟩) [] [] rfl rfl rfl ⟨rfl, rfl, rfl⟩
end Go.Proofs.Ytlofegfaphijpaa
