/- The functions do what the plain words say: each is walked once. No statement of the seat is proved here; no condition. -/
import Derived.Test.YtkmjpgfbcklopaaMo1
import Derived.Test.YtkmjpgfbcklopaaFc
namespace Go.Proofs.Ytkmjpgfbcklopaa
attribute [local irreducible] sub
set_option maxRecDepth 100000 in
set_option maxHeartbeats 4000000 in
theorem w_ref_Check02 {l : List Region} {vl1 : Value} {r : Int} (h : ref_Check02 l = some r) :
  Ctr Try.prog 55 #[vl1] [] [Fact.sl RegionS vl1 l]
   (fun rv own shr => rv = vI r ∧ own = [] ∧ shr = []) := by
 unfold ref_Check02 at h
 refine Ctr.mk (args := [vl1]) Try.func55 rfl rfl (fun R0 w0 B => ?_)
 refine Tk_seq (Tk_region (Tops_step rfl (OpT_assign rfl rfl rfl rfl) ?_))
 refine Tops_nil (tZ [0] [] [0] rfl rfl rfl rfl ?_)
 refine Tk_seq (Tk_seq (Tk_region (Tops_step rfl (OpT_move rfl rfl rfl rfl) ?_)))
 refine Tops_step rfl (OpT_lenS rfl rfl rfl rfl Try.underlying45 (i := 0) rfl) ?_
 refine Tops_step rfl (OpT_bin rfl rfl rfl rfl rfl (bin_gtr_i (a := len l) (b := (16 : Int)))) ?_
 refine Tops_nil (tZ [0, 7] [] [0] rfl rfl rfl rfl ?_)
 rcases Bool.eq_false_or_eq_true (decide ((len l) > (16 : Int))) with hg1 | hg1
 ·replace h := br_t hg1 h
  refine Tk_condT (congrArg (fun b => some (Value.bool b)) hg1) ?_
  refine Tk_seq (Tk_region (Tops_step rfl (OpT_assign rfl rfl rfl rfl) ?_))
  refine Tops_nil (tZ [2] [] [] rfl rfl rfl rfl ?_)
  obtain rfl := Option.some.inj h
  exact Tk_retV rfl rfl (resA (vs := [vI (2 : Int)]) rfl ⟨rfl, trivial⟩) [] [] rfl rfl rfl ⟨rfl, rfl, rfl⟩
 ·replace h := br_f hg1 h
  refine Tk_condF (congrArg (fun b => some (Value.bool b)) hg1) ?_
  refine Tk_skip (Tk_seq (Tk_region (Tops_step rfl (OpT_assign rfl rfl rfl rfl) ?_)))
  refine Tops_nil (tZ [0, 3] [] [0] rfl rfl rfl rfl ?_)
  refine Tk_seq (Tk_seq (Tk_region (Tops_step rfl (OpT_assign rfl rfl rfl rfl) ?_)))
  refine Tops_nil (Tk_block (Tk_loopS (σ := UInt64 × Int) [0, 3, 4] [] [0] (fun s => ⟨[(0, some (vl1)), (3, some (vU64 s.1)), (4, some (vI s.2))], [], [Fact.sl RegionS vl1 l]⟩) (fun nf1 s => ref_Check02L1 l nf1 s.1 s.2 = some r) fuel ((0 : UInt64), (0 : Int)) h rfl rfl rfl rfl rfl (fun s h => by cases h) ?_))
  rintro nf1 ⟨sum1, i1⟩ h
  replace h : ref_Check02L1B l (ref_Check02L1 l nf1) sum1 i1 = some r := h
  unfold ref_Check02L1B at h
  refine Tk_seq (Tk_seq (Tk_region (Tops_step rfl (OpT_move rfl rfl rfl rfl) ?_)))
  refine Tops_step rfl (OpT_move rfl rfl rfl rfl) ?_
  refine Tops_step rfl (OpT_lenS rfl rfl rfl rfl Try.underlying45 (i := 0) rfl) ?_
  refine Tops_step rfl (OpT_bin rfl rfl rfl rfl rfl (bin_lss_i (a := i1) (b := len l))) ?_
  refine Tops_nil (tZ [0, 3, 4, 11] [] [0] rfl rfl rfl rfl ?_)
  rcases Bool.eq_false_or_eq_true (decide (i1 < (len l))) with hg2 | hg2
  ·replace h := br_t hg2 h
   refine Tk_condT (congrArg (fun b => some (Value.bool b)) hg2) ?_
   refine Tk_skip (Tk_seq (Tk_block (Tk_seq (Tk_seq (Tk_drawT (by kernel_rfl) ?_)))))
   refine TA_tb [0, 0, 3, 7, 15, 31, 63, 127, 127, 511, 1023, 2047, 4095, 8191, 16383, 32767, 32767, 131071, 262143, 524287, 32767, 32767, 3178495, 7372799, 15761407, 32538623, 67108863, 32767, 32767, 402685951, 939556863, 2013298687, 4294967295, 8589934591] (by kernel_rfl) fun htb => ?_
   refine aZ [0, 3, 4] [] [0] rfl rfl rfl rfl ?_
   refine TA_seg (lo := 0) (hi := 2) htb rfl rfl (by kernel_rfl) (fun c L a w => Sat c ⟨[(0, some (vl1)), (3, some (vU64 sum1)), (4, some (vI i1)), (14, bif L 0 then some (vl1) else none), (15, bif L 1 then some (vI i1) else none)], [], [Fact.sl RegionS vl1 l]⟩ a w) [([], []), ([], [])] rfl (by kernel_rfl) ?_ (steps_cons ?_ (steps_cons ?_ (steps_nil))) ?_
   ·intro a w hs
    exact hs.startF [14, 15] [] [0] rfl rfl rfl rfl
   ·intro L a w hv K Q hK
    have hs := hv
    refine wpOp_go rfl rfl hs (OpT_move rfl rfl rfl rfl) ?_
    rintro _ rfl a' w' hs'
    exact hK a' w' (hs'.putF (i := 3) rfl [] [0] rfl rfl rfl rfl)
   ·intro L a w hv K Q hK
    have hs := hv
    refine wpOp_go rfl rfl hs (OpT_move rfl rfl rfl rfl) ?_
    rintro _ rfl a' w' hs'
    exact hK a' w' (hs'.putF (i := 4) rfl [] [0] rfl rfl rfl rfl)
   ·intro L a w hL hv
    rw [allTrue hL] at hv
    have hs := hv
    refine gZ hs [0, 3, 4, 14, 15] [] [0] rfl rfl rfl rfl ?_
    clear hs hL
    obtain ⟨r1, hx1, h⟩ := ob_e h
    refine TA_ex htb (by kernel_rfl) rfl rfl (OpT_idxS rfl rfl rfl rfl rfl slF45 (i := 0) rfl hx1) fun p1 => ?_
    refine TA_ex htb (by kernel_rfl) rfl rfl (OpT_fieldP (S' := u64S) (y := r1.Len) rfl rfl rfl rfl fldF57x1 (i := 1) rfl (by intro h cs hr; subst hr; rfl)) fun p2 => ?_
    refine TA_step htb (by kernel_rfl) rfl rfl (OpT_loadP rfl rfl rfl rfl tyF29 (i := 2) rfl rfl) ?_
    refine TA_step htb (by kernel_rfl) rfl rfl (OpT_bin rfl rfl rfl rfl rfl (bin_eql_u64 (a := r1.Len) (b := (0 : UInt64)))) ?_
    refine TA_step htb (by kernel_rfl) rfl rfl (OpT_move rfl rfl rfl rfl) ?_
    refine aZ [0, 3, 4, 20] [] [0] rfl rfl rfl rfl ?_
    rcases Bool.eq_false_or_eq_true (r1.Len == (0 : UInt64)) with hg3 | hg3
    ·replace h := br_t hg3 h
     refine TA_seg (lo := 7) (hi := 9) htb rfl rfl (by kernel_rfl) (fun c L a w => Sat c ⟨[(0, some (vl1)), (3, some (vU64 sum1)), (4, some (vI i1)), (20, some (vB (r1.Len == (0 : UInt64)))), (21, bif L 7 then some (undef) else none), (22, bif L 8 then some (undef) else none)], [], [Fact.sl RegionS vl1 l]⟩ a w) [([], []), ([], [])] rfl (by kernel_rfl) ?_ (steps_cons ?_ (steps_cons ?_ (steps_nil))) ?_
     ·intro a w hs
      exact hs.startF [21, 22] [] [0] rfl rfl rfl rfl
     ·intro L a w hv K Q hK
      have hs := hv
      refine wpOp_no rfl rfl rfl hs (congrArg (fun b => some (Value.bool b)) hg3) rfl rfl ?_
      intro a' w' hs'
      exact hK a' w' (hs'.putF (i := 4) rfl [] [0] rfl rfl rfl rfl)
     ·intro L a w hv K Q hK
      have hs := hv
      refine wpOp_no rfl rfl rfl hs (congrArg (fun b => some (Value.bool b)) hg3) rfl rfl ?_
      intro a' w' hs'
      exact hK a' w' (hs'.putF (i := 5) rfl [] [0] rfl rfl rfl rfl)
     ·intro L a w hL hv
      rw [allTrue hL] at hv
      have hs := hv
      refine gZ hs [0, 3, 4, 20, 21, 22] [] [0] rfl rfl rfl rfl ?_
      clear hs hL
      refine TA_no htb (by kernel_rfl) rfl rfl rfl (congrArg (fun b => some (Value.bool b)) hg3) rfl rfl ?_
      refine TA_no htb (by kernel_rfl) rfl rfl rfl (congrArg (fun b => some (Value.bool b)) hg3) rfl rfl ?_
      refine TA_no htb (by kernel_rfl) rfl rfl rfl (congrArg (fun b => some (Value.bool b)) hg3) rfl rfl ?_
      refine TA_no htb (by kernel_rfl) rfl rfl rfl (congrArg (fun b => some (Value.bool b)) hg3) rfl rfl ?_
      refine TA_step htb (by kernel_rfl) rfl rfl (OpT_pickT rfl rfl rfl (congrArg (fun b => some (Value.bool b)) hg3) rfl) ?_
      refine TA_step htb (by kernel_rfl) rfl rfl (OpT_move rfl rfl rfl rfl) ?_
      refine aZ [0, 3, 4, 28] [] [0] rfl rfl rfl rfl ?_
      refine TA_seg (lo := 15) (hi := 32) htb rfl rfl (by kernel_rfl) (fun c L a w => Sat c ⟨[(0, some (vl1)), (3, some (vU64 sum1)), (4, some (vI i1)), (28, some (vB true)), (29, bif L 15 then some (undef) else none), (30, bif L 16 then some (undef) else none), (31, bif L 17 then some (undef) else none), (32, bif L 18 then some (undef) else none), (33, bif L 19 then some (undef) else none), (34, bif L 20 then some (undef) else none), (35, bif L 21 then some (undef) else none), (36, bif L 22 then some (undef) else none), (37, bif L 23 then some (undef) else none), (38, bif L 24 then some (undef) else none), (39, bif L 25 then some (undef) else none), (40, bif L 26 then some (undef) else none), (41, bif L 27 then some (undef) else none), (42, bif L 28 then some (undef) else none), (43, bif L 29 then some (undef) else none), (44, bif L 30 then some (undef) else none), (45, bif L 31 then some (undef) else none)], [], [Fact.sl RegionS vl1 l]⟩ a w) [([], [17, 18, 19, 26]), ([], [17, 18, 19, 26]), ([15, 16], [18, 19, 26]), ([15, 16, 17], [19, 26]), ([15, 16, 17, 18], [26]), ([], [22, 23, 24, 25, 26]), ([], [22, 23, 24, 25, 26]), ([20, 21], [23, 24, 25, 26]), ([20, 21, 22], [24, 25, 26]), ([20, 21, 22, 23], [25, 26]), ([20, 21, 22, 23, 24], [26]), ([15, 16, 17, 18, 19, 20, 21, 22, 23, 24, 25], []), ([], [29, 30, 31]), ([], [29, 30, 31]), ([27, 28], [30, 31]), ([27, 28, 29], [31]), ([27, 28, 29, 30], [])] rfl (by kernel_rfl) ?_ (steps_cons ?_ (steps_cons ?_ (steps_cons ?_ (steps_cons ?_ (steps_cons ?_ (steps_cons ?_ (steps_cons ?_ (steps_cons ?_ (steps_cons ?_ (steps_cons ?_ (steps_cons ?_ (steps_cons ?_ (steps_cons ?_ (steps_cons ?_ (steps_cons ?_ (steps_cons ?_ (steps_cons ?_ (steps_nil)))))))))))))))))) ?_
      ·intro a w hs
       exact hs.startF [29, 30, 31, 32, 33, 34, 35, 36, 37, 38, 39, 40, 41, 42, 43, 44, 45] [] [0] rfl rfl rfl rfl
      ·intro L a w hv K Q hK
       have hs := hv
       refine wpOp_no rfl rfl rfl hs rfl rfl rfl ?_
       intro a' w' hs'
       exact hK a' w' (hs'.putF (i := 4) rfl [] [0] rfl rfl rfl rfl)
      ·intro L a w hv K Q hK
       have hs := hv
       refine wpOp_no rfl rfl rfl hs rfl rfl rfl ?_
       intro a' w' hs'
       exact hK a' w' (hs'.putF (i := 5) rfl [] [0] rfl rfl rfl rfl)
      ·intro L a w hv K Q hK
       have hs := hv
       refine wpOp_no rfl rfl rfl hs rfl rfl rfl ?_
       intro a' w' hs'
       exact hK a' w' (hs'.putF (i := 6) rfl [] [0] rfl rfl rfl rfl)
      ·intro L a w hv K Q hK
       have hs := hv
       refine wpOp_no rfl rfl rfl hs rfl rfl rfl ?_
       intro a' w' hs'
       exact hK a' w' (hs'.putF (i := 7) rfl [] [0] rfl rfl rfl rfl)
      ·intro L a w hv K Q hK
       have hs := hv
       refine wpOp_no rfl rfl rfl hs rfl rfl rfl ?_
       intro a' w' hs'
       exact hK a' w' (hs'.putF (i := 8) rfl [] [0] rfl rfl rfl rfl)
      ·intro L a w hv K Q hK
       have hs := hv
       refine wpOp_no rfl rfl rfl hs rfl rfl rfl ?_
       intro a' w' hs'
       exact hK a' w' (hs'.putF (i := 9) rfl [] [0] rfl rfl rfl rfl)
      ·intro L a w hv K Q hK
       have hs := hv
       refine wpOp_no rfl rfl rfl hs rfl rfl rfl ?_
       intro a' w' hs'
       exact hK a' w' (hs'.putF (i := 10) rfl [] [0] rfl rfl rfl rfl)
      ·intro L a w hv K Q hK
       have hs := hv
       refine wpOp_no rfl rfl rfl hs rfl rfl rfl ?_
       intro a' w' hs'
       exact hK a' w' (hs'.putF (i := 11) rfl [] [0] rfl rfl rfl rfl)
      ·intro L a w hv K Q hK
       have hs := hv
       refine wpOp_no rfl rfl rfl hs rfl rfl rfl ?_
       intro a' w' hs'
       exact hK a' w' (hs'.putF (i := 12) rfl [] [0] rfl rfl rfl rfl)
      ·intro L a w hv K Q hK
       have hs := hv
       refine wpOp_no rfl rfl rfl hs rfl rfl rfl ?_
       intro a' w' hs'
       exact hK a' w' (hs'.putF (i := 13) rfl [] [0] rfl rfl rfl rfl)
      ·intro L a w hv K Q hK
       have hs := hv
       refine wpOp_no rfl rfl rfl hs rfl rfl rfl ?_
       intro a' w' hs'
       exact hK a' w' (hs'.putF (i := 14) rfl [] [0] rfl rfl rfl rfl)
      ·intro L a w hv K Q hK
       have hs := hv
       refine wpOp_no rfl rfl rfl hs rfl rfl rfl ?_
       intro a' w' hs'
       exact hK a' w' (hs'.putF (i := 15) rfl [] [0] rfl rfl rfl rfl)
      ·intro L a w hv K Q hK
       have hs := hv
       refine wpOp_no rfl rfl rfl hs rfl rfl rfl ?_
       intro a' w' hs'
       exact hK a' w' (hs'.putF (i := 16) rfl [] [0] rfl rfl rfl rfl)
      ·intro L a w hv K Q hK
       have hs := hv
       refine wpOp_no rfl rfl rfl hs rfl rfl rfl ?_
       intro a' w' hs'
       exact hK a' w' (hs'.putF (i := 17) rfl [] [0] rfl rfl rfl rfl)
      ·intro L a w hv K Q hK
       have hs := hv
       refine wpOp_no rfl rfl rfl hs rfl rfl rfl ?_
       intro a' w' hs'
       exact hK a' w' (hs'.putF (i := 18) rfl [] [0] rfl rfl rfl rfl)
      ·intro L a w hv K Q hK
       have hs := hv
       refine wpOp_no rfl rfl rfl hs rfl rfl rfl ?_
       intro a' w' hs'
       exact hK a' w' (hs'.putF (i := 19) rfl [] [0] rfl rfl rfl rfl)
      ·intro L a w hv K Q hK
       have hs := hv
       refine wpOp_no rfl rfl rfl hs rfl rfl rfl ?_
       intro a' w' hs'
       exact hK a' w' (hs'.putF (i := 20) rfl [] [0] rfl rfl rfl rfl)
      ·intro L a w hL hv
       rw [allTrue hL] at hv
       have hs := hv
       refine gZ hs [0, 3, 4, 28, 40, 45] [] [0] rfl rfl rfl rfl ?_
       clear hs hL
       refine TA_no htb (by kernel_rfl) rfl rfl rfl rfl rfl rfl ?_
       refine TA_step htb (by kernel_rfl) rfl rfl (OpT_pickT rfl rfl rfl rfl rfl) ?_
       refine TA_end rfl ?_
       refine tZ [0, 3, 4, 47] [] [0] rfl rfl rfl rfl ?_
       refine Tk_condT rfl ?_
       refine Tk_seq (Tk_region (Tops_step rfl (OpT_assign rfl rfl rfl rfl) ?_))
       refine Tops_nil (tZ [2] [] [] rfl rfl rfl rfl ?_)
       obtain rfl := Option.some.inj h
       exact Tk_retV rfl rfl (resA (vs := [vI (2 : Int)]) rfl ⟨rfl, trivial⟩) [] [] rfl rfl rfl ⟨rfl, rfl, rfl⟩
    ·replace h := br_f hg3 h
     refine TA_seg (lo := 7) (hi := 9) htb rfl rfl (by kernel_rfl) (fun c L a w => Sat c ⟨[(0, some (vl1)), (3, some (vU64 sum1)), (4, some (vI i1)), (20, some (vB (r1.Len == (0 : UInt64)))), (21, bif L 7 then some (vl1) else none), (22, bif L 8 then some (vI i1) else none)], [], [Fact.sl RegionS vl1 l]⟩ a w) [([], []), ([], [])] rfl (by kernel_rfl) ?_ (steps_cons ?_ (steps_cons ?_ (steps_nil))) ?_
     ·intro a w hs
      exact hs.startF [21, 22] [] [0] rfl rfl rfl rfl
     ·intro L a w hv K Q hK
      have hs := hv
      refine wpOp_yes rfl rfl rfl hs (congrArg (fun b => some (Value.bool b)) hg3) (OpT_move rfl rfl rfl rfl) ?_
      rintro _ rfl a' w' hs'
      exact hK a' w' (hs'.putF (i := 4) rfl [] [0] rfl rfl rfl rfl)
     ·intro L a w hv K Q hK
      have hs := hv
      refine wpOp_yes rfl rfl rfl hs (congrArg (fun b => some (Value.bool b)) hg3) (OpT_move rfl rfl rfl rfl) ?_
      rintro _ rfl a' w' hs'
      exact hK a' w' (hs'.putF (i := 5) rfl [] [0] rfl rfl rfl rfl)
     ·intro L a w hL hv
      rw [allTrue hL] at hv
      have hs := hv
      refine gZ hs [0, 3, 4, 20, 21, 22] [] [0] rfl rfl rfl rfl ?_
      clear hs hL
      obtain ⟨r2, hx2, h⟩ := ob_e h
      refine TA_yes htb (by kernel_rfl) rfl rfl rfl (congrArg (fun b => some (Value.bool b)) hg3) (OpT_idxS rfl rfl rfl rfl rfl slF45 (i := 0) rfl hx2) ?_
      rintro _ ⟨p3, rfl⟩
      refine TA_yes htb (by kernel_rfl) rfl rfl rfl (congrArg (fun b => some (Value.bool b)) hg3) (OpT_fieldP (S' := u64S) (y := r2.Len) rfl rfl rfl rfl fldF57x1 (i := 1) rfl (by intro h cs hr; subst hr; rfl)) ?_
      rintro _ ⟨p4, rfl⟩
      refine TA_yes htb (by kernel_rfl) rfl rfl rfl (congrArg (fun b => some (Value.bool b)) hg3) (OpT_loadP rfl rfl rfl rfl tyF29 (i := 2) rfl rfl) ?_
      rintro _ rfl
      refine TA_yes htb (by kernel_rfl) rfl rfl rfl (congrArg (fun b => some (Value.bool b)) hg3) (OpT_bin rfl rfl rfl rfl rfl (bin_gtr_u64 (a := r2.Len) (b := (1048576 : UInt64)))) ?_
      rintro _ rfl
      refine TA_step htb (by kernel_rfl) rfl rfl (OpT_pickF rfl rfl rfl (congrArg (fun b => some (Value.bool b)) hg3) rfl) ?_
      refine TA_step htb (by kernel_rfl) rfl rfl (OpT_move rfl rfl rfl rfl) ?_
      refine aZ [0, 3, 4, 28] [] [0] rfl rfl rfl rfl ?_
      rcases Bool.eq_false_or_eq_true (decide (r2.Len > (1048576 : UInt64))) with hg4 | hg4
      ·replace h := br_t hg4 h
       refine TA_seg (lo := 15) (hi := 32) htb rfl rfl (by kernel_rfl) (fun c L a w => Sat c ⟨[(0, some (vl1)), (3, some (vU64 sum1)), (4, some (vI i1)), (28, some (vB (decide (r2.Len > (1048576 : UInt64))))), (29, bif L 15 then some (undef) else none), (30, bif L 16 then some (undef) else none), (31, bif L 17 then some (undef) else none), (32, bif L 18 then some (undef) else none), (33, bif L 19 then some (undef) else none), (34, bif L 20 then some (undef) else none), (35, bif L 21 then some (undef) else none), (36, bif L 22 then some (undef) else none), (37, bif L 23 then some (undef) else none), (38, bif L 24 then some (undef) else none), (39, bif L 25 then some (undef) else none), (40, bif L 26 then some (undef) else none), (41, bif L 27 then some (undef) else none), (42, bif L 28 then some (undef) else none), (43, bif L 29 then some (undef) else none), (44, bif L 30 then some (undef) else none), (45, bif L 31 then some (undef) else none)], [], [Fact.sl RegionS vl1 l]⟩ a w) [([], [17, 18, 19, 26]), ([], [17, 18, 19, 26]), ([15, 16], [18, 19, 26]), ([15, 16, 17], [19, 26]), ([15, 16, 17, 18], [26]), ([], [22, 23, 24, 25, 26]), ([], [22, 23, 24, 25, 26]), ([20, 21], [23, 24, 25, 26]), ([20, 21, 22], [24, 25, 26]), ([20, 21, 22, 23], [25, 26]), ([20, 21, 22, 23, 24], [26]), ([15, 16, 17, 18, 19, 20, 21, 22, 23, 24, 25], []), ([], [29, 30, 31]), ([], [29, 30, 31]), ([27, 28], [30, 31]), ([27, 28, 29], [31]), ([27, 28, 29, 30], [])] rfl (by kernel_rfl) ?_ (steps_cons ?_ (steps_cons ?_ (steps_cons ?_ (steps_cons ?_ (steps_cons ?_ (steps_cons ?_ (steps_cons ?_ (steps_cons ?_ (steps_cons ?_ (steps_cons ?_ (steps_cons ?_ (steps_cons ?_ (steps_cons ?_ (steps_cons ?_ (steps_cons ?_ (steps_cons ?_ (steps_cons ?_ (steps_nil)))))))))))))))))) ?_
       ·intro a w hs
        exact hs.startF [29, 30, 31, 32, 33, 34, 35, 36, 37, 38, 39, 40, 41, 42, 43, 44, 45] [] [0] rfl rfl rfl rfl
       ·intro L a w hv K Q hK
        have hs := hv
        refine wpOp_no rfl rfl rfl hs (congrArg (fun b => some (Value.bool b)) hg4) rfl rfl ?_
        intro a' w' hs'
        exact hK a' w' (hs'.putF (i := 4) rfl [] [0] rfl rfl rfl rfl)
       ·intro L a w hv K Q hK
        have hs := hv
        refine wpOp_no rfl rfl rfl hs (congrArg (fun b => some (Value.bool b)) hg4) rfl rfl ?_
        intro a' w' hs'
        exact hK a' w' (hs'.putF (i := 5) rfl [] [0] rfl rfl rfl rfl)
       ·intro L a w hv K Q hK
        have hs := hv
        refine wpOp_no rfl rfl rfl hs (congrArg (fun b => some (Value.bool b)) hg4) rfl rfl ?_
        intro a' w' hs'
        exact hK a' w' (hs'.putF (i := 6) rfl [] [0] rfl rfl rfl rfl)
       ·intro L a w hv K Q hK
        have hs := hv
        refine wpOp_no rfl rfl rfl hs (congrArg (fun b => some (Value.bool b)) hg4) rfl rfl ?_
        intro a' w' hs'
        exact hK a' w' (hs'.putF (i := 7) rfl [] [0] rfl rfl rfl rfl)
       ·intro L a w hv K Q hK
        have hs := hv
        refine wpOp_no rfl rfl rfl hs (congrArg (fun b => some (Value.bool b)) hg4) rfl rfl ?_
        intro a' w' hs'
        exact hK a' w' (hs'.putF (i := 8) rfl [] [0] rfl rfl rfl rfl)
       ·intro L a w hv K Q hK
        have hs := hv
        refine wpOp_no rfl rfl rfl hs (congrArg (fun b => some (Value.bool b)) hg4) rfl rfl ?_
        intro a' w' hs'
        exact hK a' w' (hs'.putF (i := 9) rfl [] [0] rfl rfl rfl rfl)
       ·intro L a w hv K Q hK
        have hs := hv
        refine wpOp_no rfl rfl rfl hs (congrArg (fun b => some (Value.bool b)) hg4) rfl rfl ?_
        intro a' w' hs'
        exact hK a' w' (hs'.putF (i := 10) rfl [] [0] rfl rfl rfl rfl)
       ·intro L a w hv K Q hK
        have hs := hv
        refine wpOp_no rfl rfl rfl hs (congrArg (fun b => some (Value.bool b)) hg4) rfl rfl ?_
        intro a' w' hs'
        exact hK a' w' (hs'.putF (i := 11) rfl [] [0] rfl rfl rfl rfl)
       ·intro L a w hv K Q hK
        have hs := hv
        refine wpOp_no rfl rfl rfl hs (congrArg (fun b => some (Value.bool b)) hg4) rfl rfl ?_
        intro a' w' hs'
        exact hK a' w' (hs'.putF (i := 12) rfl [] [0] rfl rfl rfl rfl)
       ·intro L a w hv K Q hK
        have hs := hv
        refine wpOp_no rfl rfl rfl hs (congrArg (fun b => some (Value.bool b)) hg4) rfl rfl ?_
        intro a' w' hs'
        exact hK a' w' (hs'.putF (i := 13) rfl [] [0] rfl rfl rfl rfl)
       ·intro L a w hv K Q hK
        have hs := hv
        refine wpOp_no rfl rfl rfl hs (congrArg (fun b => some (Value.bool b)) hg4) rfl rfl ?_
        intro a' w' hs'
        exact hK a' w' (hs'.putF (i := 14) rfl [] [0] rfl rfl rfl rfl)
       ·intro L a w hv K Q hK
        have hs := hv
        refine wpOp_no rfl rfl rfl hs (congrArg (fun b => some (Value.bool b)) hg4) rfl rfl ?_
        intro a' w' hs'
        exact hK a' w' (hs'.putF (i := 15) rfl [] [0] rfl rfl rfl rfl)
       ·intro L a w hv K Q hK
        have hs := hv
        refine wpOp_no rfl rfl rfl hs (congrArg (fun b => some (Value.bool b)) hg4) rfl rfl ?_
        intro a' w' hs'
        exact hK a' w' (hs'.putF (i := 16) rfl [] [0] rfl rfl rfl rfl)
       ·intro L a w hv K Q hK
        have hs := hv
        refine wpOp_no rfl rfl rfl hs (congrArg (fun b => some (Value.bool b)) hg4) rfl rfl ?_
        intro a' w' hs'
        exact hK a' w' (hs'.putF (i := 17) rfl [] [0] rfl rfl rfl rfl)
       ·intro L a w hv K Q hK
        have hs := hv
        refine wpOp_no rfl rfl rfl hs (congrArg (fun b => some (Value.bool b)) hg4) rfl rfl ?_
        intro a' w' hs'
        exact hK a' w' (hs'.putF (i := 18) rfl [] [0] rfl rfl rfl rfl)
       ·intro L a w hv K Q hK
        have hs := hv
        refine wpOp_no rfl rfl rfl hs (congrArg (fun b => some (Value.bool b)) hg4) rfl rfl ?_
        intro a' w' hs'
        exact hK a' w' (hs'.putF (i := 19) rfl [] [0] rfl rfl rfl rfl)
       ·intro L a w hv K Q hK
        have hs := hv
        refine wpOp_no rfl rfl rfl hs (congrArg (fun b => some (Value.bool b)) hg4) rfl rfl ?_
        intro a' w' hs'
        exact hK a' w' (hs'.putF (i := 20) rfl [] [0] rfl rfl rfl rfl)
       ·intro L a w hL hv
        rw [allTrue hL] at hv
        have hs := hv
        refine gZ hs [0, 3, 4, 28, 40, 45] [] [0] rfl rfl rfl rfl ?_
        clear hs hL
        refine TA_no htb (by kernel_rfl) rfl rfl rfl (congrArg (fun b => some (Value.bool b)) hg4) rfl rfl ?_
        refine TA_step htb (by kernel_rfl) rfl rfl (OpT_pickT rfl rfl rfl (congrArg (fun b => some (Value.bool b)) hg4) rfl) ?_
        refine TA_end rfl ?_
        refine tZ [0, 3, 4, 47] [] [0] rfl rfl rfl rfl ?_
        refine Tk_condT rfl ?_
        refine Tk_seq (Tk_region (Tops_step rfl (OpT_assign rfl rfl rfl rfl) ?_))
        refine Tops_nil (tZ [2] [] [] rfl rfl rfl rfl ?_)
        obtain rfl := Option.some.inj h
        exact Tk_retV rfl rfl (resA (vs := [vI (2 : Int)]) rfl ⟨rfl, trivial⟩) [] [] rfl rfl rfl ⟨rfl, rfl, rfl⟩
      ·replace h := br_f hg4 h
       obtain ⟨r3, hx3, h⟩ := ob_e h
       obtain ⟨r4, hx4, h⟩ := ob_e h
       obtain ⟨r5, hx5, h⟩ := ob_e h
       refine TA_seg (lo := 15) (hi := 32) htb rfl rfl (by kernel_rfl) (fun c L a w => ∃ (p5 : Value), ∃ (p6 : Value), ∃ (p7 : Value), ∃ (p8 : Value), ∃ (p9 : Value), ∃ (p10 : Value), Sat c ⟨[(0, some (vl1)), (3, some (vU64 sum1)), (4, some (vI i1)), (28, some (vB (decide (r2.Len > (1048576 : UInt64))))), (29, bif L 15 then some (vl1) else none), (30, bif L 16 then some (vI i1) else none), (31, bif L 17 then some (p5) else none), (32, bif L 18 then some (p6) else none), (33, bif L 19 then some (vU64 r3.At) else none), (34, bif L 20 then some (vl1) else none), (35, bif L 21 then some (vI i1) else none), (36, bif L 22 then some (p7) else none), (37, bif L 23 then some (p8) else none), (38, bif L 24 then some (vU64 r4.Len) else none), (39, bif L 25 then some (vU64 (r4.Len - (1 : UInt64))) else none), (40, bif L 26 then some (vU64 (r3.At + (r4.Len - (1 : UInt64)))) else none), (41, bif L 27 then some (vl1) else none), (42, bif L 28 then some (vI i1) else none), (43, bif L 29 then some (p9) else none), (44, bif L 30 then some (p10) else none), (45, bif L 31 then some (vU64 r5.At) else none)], [], [Fact.sl RegionS vl1 l, (bif L 17 then Fact.pt RegionS p5 r3 else Fact.tt), (bif L 18 then Fact.pt u64S p6 r3.At else Fact.tt), (bif L 22 then Fact.pt RegionS p7 r4 else Fact.tt), (bif L 23 then Fact.pt u64S p8 r4.Len else Fact.tt), (bif L 29 then Fact.pt RegionS p9 r5 else Fact.tt), (bif L 30 then Fact.pt u64S p10 r5.At else Fact.tt)]⟩ a w) [([], [17, 18, 19, 26]), ([], [17, 18, 19, 26]), ([15, 16], [18, 19, 26]), ([15, 16, 17], [19, 26]), ([15, 16, 17, 18], [26]), ([], [22, 23, 24, 25, 26]), ([], [22, 23, 24, 25, 26]), ([20, 21], [23, 24, 25, 26]), ([20, 21, 22], [24, 25, 26]), ([20, 21, 22, 23], [25, 26]), ([20, 21, 22, 23, 24], [26]), ([15, 16, 17, 18, 19, 20, 21, 22, 23, 24, 25], []), ([], [29, 30, 31]), ([], [29, 30, 31]), ([27, 28], [30, 31]), ([27, 28, 29], [31]), ([27, 28, 29, 30], [])] rfl (by kernel_rfl) ?_ (steps_cons ?_ (steps_cons ?_ (steps_cons ?_ (steps_cons ?_ (steps_cons ?_ (steps_cons ?_ (steps_cons ?_ (steps_cons ?_ (steps_cons ?_ (steps_cons ?_ (steps_cons ?_ (steps_cons ?_ (steps_cons ?_ (steps_cons ?_ (steps_cons ?_ (steps_cons ?_ (steps_cons ?_ (steps_nil)))))))))))))))))) ?_
       ·intro a w hs
        exact ⟨undef, undef, undef, undef, undef, undef, hs.startF [29, 30, 31, 32, 33, 34, 35, 36, 37, 38, 39, 40, 41, 42, 43, 44, 45] [] [0, 1, 2, 3, 4, 5, 6] rfl rfl rfl rfl⟩
       ·intro L a w hv K Q hK
        obtain ⟨p5, p6, p7, p8, p9, p10, hs⟩ := hv
        refine wpOp_yes rfl rfl rfl hs (congrArg (fun b => some (Value.bool b)) hg4) (OpT_move rfl rfl rfl rfl) ?_
        rintro _ rfl a' w' hs'
        exact hK a' w' ⟨p5, p6, p7, p8, p9, p10, hs'.putF (i := 4) rfl [] [0, 1, 2, 3, 4, 5, 6] rfl rfl rfl rfl⟩
       ·intro L a w hv K Q hK
        obtain ⟨p5, p6, p7, p8, p9, p10, hs⟩ := hv
        refine wpOp_yes rfl rfl rfl hs (congrArg (fun b => some (Value.bool b)) hg4) (OpT_move rfl rfl rfl rfl) ?_
        rintro _ rfl a' w' hs'
        exact hK a' w' ⟨p5, p6, p7, p8, p9, p10, hs'.putF (i := 5) rfl [] [0, 1, 2, 3, 4, 5, 6] rfl rfl rfl rfl⟩
       ·intro L a w hv K Q hK
        obtain ⟨p5, p6, p7, p8, p9, p10, hs⟩ := hv
        refine wpOp_yes rfl rfl rfl hs (congrArg (fun b => some (Value.bool b)) hg4) (OpT_idxS rfl rfl rfl rfl rfl slF45 (i := 0) rfl hx3) ?_
        rintro _ ⟨p5', rfl⟩ a' w' hs'
        exact hK a' w' ⟨p5', p6, p7, p8, p9, p10, hs'.putF (i := 6) rfl [] [0, 7, 2, 3, 4, 5, 6] rfl rfl rfl rfl⟩
       ·intro L a w hv K Q hK
        obtain ⟨p5, p6, p7, p8, p9, p10, hs⟩ := hv
        refine wpOp_yes rfl rfl rfl hs (congrArg (fun b => some (Value.bool b)) hg4) (OpT_fieldP (S' := u64S) (y := r3.At) rfl rfl rfl rfl fldF57x0 (i := 1) rfl (by intro h cs hr; subst hr; rfl)) ?_
        rintro _ ⟨p6', rfl⟩ a' w' hs'
        exact hK a' w' ⟨p5, p6', p7, p8, p9, p10, hs'.putF (i := 7) rfl [] [0, 1, 7, 3, 4, 5, 6] rfl rfl rfl rfl⟩
       ·intro L a w hv K Q hK
        obtain ⟨p5, p6, p7, p8, p9, p10, hs⟩ := hv
        refine wpOp_yes rfl rfl rfl hs (congrArg (fun b => some (Value.bool b)) hg4) (OpT_loadP rfl rfl rfl rfl tyF29 (i := 2) rfl rfl) ?_
        rintro _ rfl a' w' hs'
        exact hK a' w' ⟨p5, p6, p7, p8, p9, p10, hs'.putF (i := 8) rfl [] [0, 1, 2, 3, 4, 5, 6] rfl rfl rfl rfl⟩
       ·intro L a w hv K Q hK
        obtain ⟨p5, p6, p7, p8, p9, p10, hs⟩ := hv
        refine wpOp_yes rfl rfl rfl hs (congrArg (fun b => some (Value.bool b)) hg4) (OpT_move rfl rfl rfl rfl) ?_
        rintro _ rfl a' w' hs'
        exact hK a' w' ⟨p5, p6, p7, p8, p9, p10, hs'.putF (i := 9) rfl [] [0, 1, 2, 3, 4, 5, 6] rfl rfl rfl rfl⟩
       ·intro L a w hv K Q hK
        obtain ⟨p5, p6, p7, p8, p9, p10, hs⟩ := hv
        refine wpOp_yes rfl rfl rfl hs (congrArg (fun b => some (Value.bool b)) hg4) (OpT_move rfl rfl rfl rfl) ?_
        rintro _ rfl a' w' hs'
        exact hK a' w' ⟨p5, p6, p7, p8, p9, p10, hs'.putF (i := 10) rfl [] [0, 1, 2, 3, 4, 5, 6] rfl rfl rfl rfl⟩
       ·intro L a w hv K Q hK
        obtain ⟨p5, p6, p7, p8, p9, p10, hs⟩ := hv
        refine wpOp_yes rfl rfl rfl hs (congrArg (fun b => some (Value.bool b)) hg4) (OpT_idxS rfl rfl rfl rfl rfl slF45 (i := 0) rfl hx4) ?_
        rintro _ ⟨p7', rfl⟩ a' w' hs'
        exact hK a' w' ⟨p5, p6, p7', p8, p9, p10, hs'.putF (i := 11) rfl [] [0, 1, 2, 7, 4, 5, 6] rfl rfl rfl rfl⟩
       ·intro L a w hv K Q hK
        obtain ⟨p5, p6, p7, p8, p9, p10, hs⟩ := hv
        refine wpOp_yes rfl rfl rfl hs (congrArg (fun b => some (Value.bool b)) hg4) (OpT_fieldP (S' := u64S) (y := r4.Len) rfl rfl rfl rfl fldF57x1 (i := 3) rfl (by intro h cs hr; subst hr; rfl)) ?_
        rintro _ ⟨p8', rfl⟩ a' w' hs'
        exact hK a' w' ⟨p5, p6, p7, p8', p9, p10, hs'.putF (i := 12) rfl [] [0, 1, 2, 3, 7, 5, 6] rfl rfl rfl rfl⟩
       ·intro L a w hv K Q hK
        obtain ⟨p5, p6, p7, p8, p9, p10, hs⟩ := hv
        refine wpOp_yes rfl rfl rfl hs (congrArg (fun b => some (Value.bool b)) hg4) (OpT_loadP rfl rfl rfl rfl tyF29 (i := 4) rfl rfl) ?_
        rintro _ rfl a' w' hs'
        exact hK a' w' ⟨p5, p6, p7, p8, p9, p10, hs'.putF (i := 13) rfl [] [0, 1, 2, 3, 4, 5, 6] rfl rfl rfl rfl⟩
       ·intro L a w hv K Q hK
        obtain ⟨p5, p6, p7, p8, p9, p10, hs⟩ := hv
        refine wpOp_yes rfl rfl rfl hs (congrArg (fun b => some (Value.bool b)) hg4) (OpT_bin rfl rfl rfl rfl rfl (bin_sub_u64 (a := r4.Len) (b := (1 : UInt64)))) ?_
        rintro _ rfl a' w' hs'
        exact hK a' w' ⟨p5, p6, p7, p8, p9, p10, hs'.putF (i := 14) rfl [] [0, 1, 2, 3, 4, 5, 6] rfl rfl rfl rfl⟩
       ·intro L a w hv K Q hK
        obtain ⟨p5, p6, p7, p8, p9, p10, hs⟩ := hv
        refine wpOp_yes rfl rfl rfl hs (congrArg (fun b => some (Value.bool b)) hg4) (OpT_bin rfl rfl rfl rfl rfl (bin_add_u64 (a := r3.At) (b := r4.Len - (1 : UInt64)))) ?_
        rintro _ rfl a' w' hs'
        exact hK a' w' ⟨p5, p6, p7, p8, p9, p10, hs'.putF (i := 15) rfl [] [0, 1, 2, 3, 4, 5, 6] rfl rfl rfl rfl⟩
       ·intro L a w hv K Q hK
        obtain ⟨p5, p6, p7, p8, p9, p10, hs⟩ := hv
        refine wpOp_yes rfl rfl rfl hs (congrArg (fun b => some (Value.bool b)) hg4) (OpT_move rfl rfl rfl rfl) ?_
        rintro _ rfl a' w' hs'
        exact hK a' w' ⟨p5, p6, p7, p8, p9, p10, hs'.putF (i := 16) rfl [] [0, 1, 2, 3, 4, 5, 6] rfl rfl rfl rfl⟩
       ·intro L a w hv K Q hK
        obtain ⟨p5, p6, p7, p8, p9, p10, hs⟩ := hv
        refine wpOp_yes rfl rfl rfl hs (congrArg (fun b => some (Value.bool b)) hg4) (OpT_move rfl rfl rfl rfl) ?_
        rintro _ rfl a' w' hs'
        exact hK a' w' ⟨p5, p6, p7, p8, p9, p10, hs'.putF (i := 17) rfl [] [0, 1, 2, 3, 4, 5, 6] rfl rfl rfl rfl⟩
       ·intro L a w hv K Q hK
        obtain ⟨p5, p6, p7, p8, p9, p10, hs⟩ := hv
        refine wpOp_yes rfl rfl rfl hs (congrArg (fun b => some (Value.bool b)) hg4) (OpT_idxS rfl rfl rfl rfl rfl slF45 (i := 0) rfl hx5) ?_
        rintro _ ⟨p9', rfl⟩ a' w' hs'
        exact hK a' w' ⟨p5, p6, p7, p8, p9', p10, hs'.putF (i := 18) rfl [] [0, 1, 2, 3, 4, 7, 6] rfl rfl rfl rfl⟩
       ·intro L a w hv K Q hK
        obtain ⟨p5, p6, p7, p8, p9, p10, hs⟩ := hv
        refine wpOp_yes rfl rfl rfl hs (congrArg (fun b => some (Value.bool b)) hg4) (OpT_fieldP (S' := u64S) (y := r5.At) rfl rfl rfl rfl fldF57x0 (i := 5) rfl (by intro h cs hr; subst hr; rfl)) ?_
        rintro _ ⟨p10', rfl⟩ a' w' hs'
        exact hK a' w' ⟨p5, p6, p7, p8, p9, p10', hs'.putF (i := 19) rfl [] [0, 1, 2, 3, 4, 5, 7] rfl rfl rfl rfl⟩
       ·intro L a w hv K Q hK
        obtain ⟨p5, p6, p7, p8, p9, p10, hs⟩ := hv
        refine wpOp_yes rfl rfl rfl hs (congrArg (fun b => some (Value.bool b)) hg4) (OpT_loadP rfl rfl rfl rfl tyF29 (i := 6) rfl rfl) ?_
        rintro _ rfl a' w' hs'
        exact hK a' w' ⟨p5, p6, p7, p8, p9, p10, hs'.putF (i := 20) rfl [] [0, 1, 2, 3, 4, 5, 6] rfl rfl rfl rfl⟩
       ·intro L a w hL hv
        rw [allTrue hL] at hv
        obtain ⟨p5, p6, p7, p8, p9, p10, hs⟩ := hv
        refine gZ hs [0, 3, 4, 28, 40, 45] [] [0] rfl rfl rfl rfl ?_
        clear hs hL
        refine TA_yes htb (by kernel_rfl) rfl rfl rfl (congrArg (fun b => some (Value.bool b)) hg4) (OpT_bin rfl rfl rfl rfl rfl (bin_lss_u64 (a := r3.At + (r4.Len - (1 : UInt64))) (b := r5.At))) ?_
        rintro _ rfl
        refine TA_step htb (by kernel_rfl) rfl rfl (OpT_pickF rfl rfl rfl (congrArg (fun b => some (Value.bool b)) hg4) rfl) ?_
        refine TA_end rfl ?_
        refine tZ [0, 3, 4, 47] [] [0] rfl rfl rfl rfl ?_
        rcases Bool.eq_false_or_eq_true (decide ((r3.At + (r4.Len - (1 : UInt64))) < r5.At)) with hg5 | hg5
        ·replace h := br_t hg5 h
         refine Tk_condT (congrArg (fun b => some (Value.bool b)) hg5) ?_
         refine Tk_seq (Tk_region (Tops_step rfl (OpT_assign rfl rfl rfl rfl) ?_))
         refine Tops_nil (tZ [2] [] [] rfl rfl rfl rfl ?_)
         obtain rfl := Option.some.inj h
         exact Tk_retV rfl rfl (resA (vs := [vI (2 : Int)]) rfl ⟨rfl, trivial⟩) [] [] rfl rfl rfl ⟨rfl, rfl, rfl⟩
        ·replace h := br_f hg5 h
         refine Tk_condF (congrArg (fun b => some (Value.bool b)) hg5) ?_
         refine Tk_skip (Tk_seq (Tk_region (Tops_step rfl (OpT_move rfl rfl rfl rfl) ?_)))
         refine Tops_step rfl (OpT_move rfl rfl rfl rfl) ?_
         refine Tops_step rfl (OpT_move rfl rfl rfl rfl) ?_
         obtain ⟨r6, hx6, h⟩ := ob_e h
         refine Tops_ex rfl (OpT_idxS rfl rfl rfl rfl rfl slF45 (i := 0) rfl hx6) fun p11 => ?_
         refine Tops_ex rfl (OpT_fieldP (S' := u64S) (y := r6.Len) rfl rfl rfl rfl fldF57x1 (i := 1) rfl (by intro h cs hr; subst hr; rfl)) fun p12 => ?_
         refine Tops_step rfl (OpT_loadP rfl rfl rfl rfl tyF29 (i := 2) rfl rfl) ?_
         refine Tops_step rfl (OpT_bin rfl rfl rfl rfl rfl (bin_add_u64 (a := sum1) (b := r6.Len))) ?_
         refine Tops_step rfl (OpT_assign rfl rfl rfl rfl) ?_
         refine Tops_nil (tZ [0, 3, 4] [] [0] rfl rfl rfl rfl ?_)
         refine Tk_seq (Tk_drawT (by kernel_rfl) ?_)
         refine TA_tb [0, 1, 3, 7, 7, 31, 63, 127, 7, 7, 519, 1799, 3847, 7943, 7, 7, 32775, 114695, 245767, 507911, 1032199, 2096903, 4194303, 8388607] (by kernel_rfl) fun htb => ?_
         refine TA_step htb (by kernel_rfl) rfl rfl (OpT_move rfl rfl rfl rfl) ?_
         refine TA_step htb (by kernel_rfl) rfl rfl (OpT_bin rfl rfl rfl rfl rfl (bin_gtr_i (a := i1) (b := (0 : Int)))) ?_
         refine TA_step htb (by kernel_rfl) rfl rfl (OpT_move rfl rfl rfl rfl) ?_
         refine aZ [0, 3, 4, 57] [] [0] rfl rfl rfl rfl ?_
         rcases Bool.eq_false_or_eq_true (decide (i1 > (0 : Int))) with hg6 | hg6
         ·replace h := br_t hg6 h
          obtain ⟨r7, hx7, h⟩ := ob_e h
          obtain ⟨r8, hx8, h⟩ := ob_e h
          obtain ⟨r9, hx9, h⟩ := ob_e h
          refine TA_seg (lo := 3) (hi := 22) htb rfl rfl (by kernel_rfl) (fun c L a w => ∃ (p13 : Value), ∃ (p14 : Value), ∃ (p15 : Value), ∃ (p16 : Value), ∃ (p17 : Value), ∃ (p18 : Value), Sat c ⟨[(0, some (vl1)), (3, some (vU64 (sum1 + r6.Len))), (4, some (vI i1)), (57, some (vB (decide (i1 > (0 : Int))))), (58, bif L 3 then some (vl1) else none), (59, bif L 4 then some (vI i1) else none), (60, bif L 5 then some (p13) else none), (61, bif L 6 then some (p14) else none), (62, bif L 7 then some (vU64 r7.At) else none), (63, bif L 8 then some (vl1) else none), (64, bif L 9 then some (vI i1) else none), (65, bif L 10 then some (vI (wi (i1 - (1 : Int)))) else none), (66, bif L 11 then some (p15) else none), (67, bif L 12 then some (p16) else none), (68, bif L 13 then some (vU64 r8.At) else none), (69, bif L 14 then some (vl1) else none), (70, bif L 15 then some (vI i1) else none), (71, bif L 16 then some (vI (wi (i1 - (1 : Int)))) else none), (72, bif L 17 then some (p17) else none), (73, bif L 18 then some (p18) else none), (74, bif L 19 then some (vU64 r9.Len) else none), (75, bif L 20 then some (vU64 (r9.Len - (1 : UInt64))) else none), (76, bif L 21 then some (vU64 (r8.At + (r9.Len - (1 : UInt64)))) else none)], [], [Fact.sl RegionS vl1 l, (bif L 5 then Fact.pt RegionS p13 r7 else Fact.tt), (bif L 6 then Fact.pt u64S p14 r7.At else Fact.tt), (bif L 11 then Fact.pt RegionS p15 r8 else Fact.tt), (bif L 12 then Fact.pt u64S p16 r8.At else Fact.tt), (bif L 17 then Fact.pt RegionS p17 r9 else Fact.tt), (bif L 18 then Fact.pt u64S p18 r9.Len else Fact.tt)]⟩ a w) [([], [5, 6, 7]), ([], [5, 6, 7]), ([3, 4], [6, 7]), ([3, 4, 5], [7]), ([3, 4, 5, 6], []), ([], [11, 12, 13, 21]), ([], [10, 11, 12, 13, 21]), ([9], [11, 12, 13, 21]), ([8, 9, 10], [12, 13, 21]), ([8, 9, 10, 11], [13, 21]), ([8, 9, 10, 11, 12], [21]), ([], [17, 18, 19, 20, 21]), ([], [16, 17, 18, 19, 20, 21]), ([15], [17, 18, 19, 20, 21]), ([14, 15, 16], [18, 19, 20, 21]), ([14, 15, 16, 17], [19, 20, 21]), ([14, 15, 16, 17, 18], [20, 21]), ([14, 15, 16, 17, 18, 19], [21]), ([8, 9, 10, 11, 12, 13, 14, 15, 16, 17, 18, 19, 20], [])] rfl (by kernel_rfl) ?_ (steps_cons ?_ (steps_cons ?_ (steps_cons ?_ (steps_cons ?_ (steps_cons ?_ (steps_cons ?_ (steps_cons ?_ (steps_cons ?_ (steps_cons ?_ (steps_cons ?_ (steps_cons ?_ (steps_cons ?_ (steps_cons ?_ (steps_cons ?_ (steps_cons ?_ (steps_cons ?_ (steps_cons ?_ (steps_cons ?_ (steps_cons ?_ (steps_nil)))))))))))))))))))) ?_
          ·intro a w hs
           exact ⟨undef, undef, undef, undef, undef, undef, hs.startF [58, 59, 60, 61, 62, 63, 64, 65, 66, 67, 68, 69, 70, 71, 72, 73, 74, 75, 76] [] [0, 1, 2, 3, 4, 5, 6] rfl rfl rfl rfl⟩
          ·intro L a w hv K Q hK
           obtain ⟨p13, p14, p15, p16, p17, p18, hs⟩ := hv
           refine wpOp_yes rfl rfl rfl hs (congrArg (fun b => some (Value.bool b)) hg6) (OpT_move rfl rfl rfl rfl) ?_
           rintro _ rfl a' w' hs'
           exact hK a' w' ⟨p13, p14, p15, p16, p17, p18, hs'.putF (i := 4) rfl [] [0, 1, 2, 3, 4, 5, 6] rfl rfl rfl rfl⟩
          ·intro L a w hv K Q hK
           obtain ⟨p13, p14, p15, p16, p17, p18, hs⟩ := hv
           refine wpOp_yes rfl rfl rfl hs (congrArg (fun b => some (Value.bool b)) hg6) (OpT_move rfl rfl rfl rfl) ?_
           rintro _ rfl a' w' hs'
           exact hK a' w' ⟨p13, p14, p15, p16, p17, p18, hs'.putF (i := 5) rfl [] [0, 1, 2, 3, 4, 5, 6] rfl rfl rfl rfl⟩
          ·intro L a w hv K Q hK
           obtain ⟨p13, p14, p15, p16, p17, p18, hs⟩ := hv
           refine wpOp_yes rfl rfl rfl hs (congrArg (fun b => some (Value.bool b)) hg6) (OpT_idxS rfl rfl rfl rfl rfl slF45 (i := 0) rfl hx7) ?_
           rintro _ ⟨p13', rfl⟩ a' w' hs'
           exact hK a' w' ⟨p13', p14, p15, p16, p17, p18, hs'.putF (i := 6) rfl [] [0, 7, 2, 3, 4, 5, 6] rfl rfl rfl rfl⟩
          ·intro L a w hv K Q hK
           obtain ⟨p13, p14, p15, p16, p17, p18, hs⟩ := hv
           refine wpOp_yes rfl rfl rfl hs (congrArg (fun b => some (Value.bool b)) hg6) (OpT_fieldP (S' := u64S) (y := r7.At) rfl rfl rfl rfl fldF57x0 (i := 1) rfl (by intro h cs hr; subst hr; rfl)) ?_
           rintro _ ⟨p14', rfl⟩ a' w' hs'
           exact hK a' w' ⟨p13, p14', p15, p16, p17, p18, hs'.putF (i := 7) rfl [] [0, 1, 7, 3, 4, 5, 6] rfl rfl rfl rfl⟩
          ·intro L a w hv K Q hK
           obtain ⟨p13, p14, p15, p16, p17, p18, hs⟩ := hv
           refine wpOp_yes rfl rfl rfl hs (congrArg (fun b => some (Value.bool b)) hg6) (OpT_loadP rfl rfl rfl rfl tyF29 (i := 2) rfl rfl) ?_
           rintro _ rfl a' w' hs'
           exact hK a' w' ⟨p13, p14, p15, p16, p17, p18, hs'.putF (i := 8) rfl [] [0, 1, 2, 3, 4, 5, 6] rfl rfl rfl rfl⟩
          ·intro L a w hv K Q hK
           obtain ⟨p13, p14, p15, p16, p17, p18, hs⟩ := hv
           refine wpOp_yes rfl rfl rfl hs (congrArg (fun b => some (Value.bool b)) hg6) (OpT_move rfl rfl rfl rfl) ?_
           rintro _ rfl a' w' hs'
           exact hK a' w' ⟨p13, p14, p15, p16, p17, p18, hs'.putF (i := 9) rfl [] [0, 1, 2, 3, 4, 5, 6] rfl rfl rfl rfl⟩
          ·intro L a w hv K Q hK
           obtain ⟨p13, p14, p15, p16, p17, p18, hs⟩ := hv
           refine wpOp_yes rfl rfl rfl hs (congrArg (fun b => some (Value.bool b)) hg6) (OpT_move rfl rfl rfl rfl) ?_
           rintro _ rfl a' w' hs'
           exact hK a' w' ⟨p13, p14, p15, p16, p17, p18, hs'.putF (i := 10) rfl [] [0, 1, 2, 3, 4, 5, 6] rfl rfl rfl rfl⟩
          ·intro L a w hv K Q hK
           obtain ⟨p13, p14, p15, p16, p17, p18, hs⟩ := hv
           refine wpOp_yes rfl rfl rfl hs (congrArg (fun b => some (Value.bool b)) hg6) (OpT_bin rfl rfl rfl rfl rfl (bin_sub_i (a := i1) (b := (1 : Int)))) ?_
           rintro _ rfl a' w' hs'
           exact hK a' w' ⟨p13, p14, p15, p16, p17, p18, hs'.putF (i := 11) rfl [] [0, 1, 2, 3, 4, 5, 6] rfl rfl rfl rfl⟩
          ·intro L a w hv K Q hK
           obtain ⟨p13, p14, p15, p16, p17, p18, hs⟩ := hv
           refine wpOp_yes rfl rfl rfl hs (congrArg (fun b => some (Value.bool b)) hg6) (OpT_idxS rfl rfl rfl rfl rfl slF45 (i := 0) rfl hx8) ?_
           rintro _ ⟨p15', rfl⟩ a' w' hs'
           exact hK a' w' ⟨p13, p14, p15', p16, p17, p18, hs'.putF (i := 12) rfl [] [0, 1, 2, 7, 4, 5, 6] rfl rfl rfl rfl⟩
          ·intro L a w hv K Q hK
           obtain ⟨p13, p14, p15, p16, p17, p18, hs⟩ := hv
           refine wpOp_yes rfl rfl rfl hs (congrArg (fun b => some (Value.bool b)) hg6) (OpT_fieldP (S' := u64S) (y := r8.At) rfl rfl rfl rfl fldF57x0 (i := 3) rfl (by intro h cs hr; subst hr; rfl)) ?_
           rintro _ ⟨p16', rfl⟩ a' w' hs'
           exact hK a' w' ⟨p13, p14, p15, p16', p17, p18, hs'.putF (i := 13) rfl [] [0, 1, 2, 3, 7, 5, 6] rfl rfl rfl rfl⟩
          ·intro L a w hv K Q hK
           obtain ⟨p13, p14, p15, p16, p17, p18, hs⟩ := hv
           refine wpOp_yes rfl rfl rfl hs (congrArg (fun b => some (Value.bool b)) hg6) (OpT_loadP rfl rfl rfl rfl tyF29 (i := 4) rfl rfl) ?_
           rintro _ rfl a' w' hs'
           exact hK a' w' ⟨p13, p14, p15, p16, p17, p18, hs'.putF (i := 14) rfl [] [0, 1, 2, 3, 4, 5, 6] rfl rfl rfl rfl⟩
          ·intro L a w hv K Q hK
           obtain ⟨p13, p14, p15, p16, p17, p18, hs⟩ := hv
           refine wpOp_yes rfl rfl rfl hs (congrArg (fun b => some (Value.bool b)) hg6) (OpT_move rfl rfl rfl rfl) ?_
           rintro _ rfl a' w' hs'
           exact hK a' w' ⟨p13, p14, p15, p16, p17, p18, hs'.putF (i := 15) rfl [] [0, 1, 2, 3, 4, 5, 6] rfl rfl rfl rfl⟩
          ·intro L a w hv K Q hK
           obtain ⟨p13, p14, p15, p16, p17, p18, hs⟩ := hv
           refine wpOp_yes rfl rfl rfl hs (congrArg (fun b => some (Value.bool b)) hg6) (OpT_move rfl rfl rfl rfl) ?_
           rintro _ rfl a' w' hs'
           exact hK a' w' ⟨p13, p14, p15, p16, p17, p18, hs'.putF (i := 16) rfl [] [0, 1, 2, 3, 4, 5, 6] rfl rfl rfl rfl⟩
          ·intro L a w hv K Q hK
           obtain ⟨p13, p14, p15, p16, p17, p18, hs⟩ := hv
           refine wpOp_yes rfl rfl rfl hs (congrArg (fun b => some (Value.bool b)) hg6) (OpT_bin rfl rfl rfl rfl rfl (bin_sub_i (a := i1) (b := (1 : Int)))) ?_
           rintro _ rfl a' w' hs'
           exact hK a' w' ⟨p13, p14, p15, p16, p17, p18, hs'.putF (i := 17) rfl [] [0, 1, 2, 3, 4, 5, 6] rfl rfl rfl rfl⟩
          ·intro L a w hv K Q hK
           obtain ⟨p13, p14, p15, p16, p17, p18, hs⟩ := hv
           refine wpOp_yes rfl rfl rfl hs (congrArg (fun b => some (Value.bool b)) hg6) (OpT_idxS rfl rfl rfl rfl rfl slF45 (i := 0) rfl hx9) ?_
           rintro _ ⟨p17', rfl⟩ a' w' hs'
           exact hK a' w' ⟨p13, p14, p15, p16, p17', p18, hs'.putF (i := 18) rfl [] [0, 1, 2, 3, 4, 7, 6] rfl rfl rfl rfl⟩
          ·intro L a w hv K Q hK
           obtain ⟨p13, p14, p15, p16, p17, p18, hs⟩ := hv
           refine wpOp_yes rfl rfl rfl hs (congrArg (fun b => some (Value.bool b)) hg6) (OpT_fieldP (S' := u64S) (y := r9.Len) rfl rfl rfl rfl fldF57x1 (i := 5) rfl (by intro h cs hr; subst hr; rfl)) ?_
           rintro _ ⟨p18', rfl⟩ a' w' hs'
           exact hK a' w' ⟨p13, p14, p15, p16, p17, p18', hs'.putF (i := 19) rfl [] [0, 1, 2, 3, 4, 5, 7] rfl rfl rfl rfl⟩
          ·intro L a w hv K Q hK
           obtain ⟨p13, p14, p15, p16, p17, p18, hs⟩ := hv
           refine wpOp_yes rfl rfl rfl hs (congrArg (fun b => some (Value.bool b)) hg6) (OpT_loadP rfl rfl rfl rfl tyF29 (i := 6) rfl rfl) ?_
           rintro _ rfl a' w' hs'
           exact hK a' w' ⟨p13, p14, p15, p16, p17, p18, hs'.putF (i := 20) rfl [] [0, 1, 2, 3, 4, 5, 6] rfl rfl rfl rfl⟩
          ·intro L a w hv K Q hK
           obtain ⟨p13, p14, p15, p16, p17, p18, hs⟩ := hv
           refine wpOp_yes rfl rfl rfl hs (congrArg (fun b => some (Value.bool b)) hg6) (OpT_bin rfl rfl rfl rfl rfl (bin_sub_u64 (a := r9.Len) (b := (1 : UInt64)))) ?_
           rintro _ rfl a' w' hs'
           exact hK a' w' ⟨p13, p14, p15, p16, p17, p18, hs'.putF (i := 21) rfl [] [0, 1, 2, 3, 4, 5, 6] rfl rfl rfl rfl⟩
          ·intro L a w hv K Q hK
           obtain ⟨p13, p14, p15, p16, p17, p18, hs⟩ := hv
           refine wpOp_yes rfl rfl rfl hs (congrArg (fun b => some (Value.bool b)) hg6) (OpT_bin rfl rfl rfl rfl rfl (bin_add_u64 (a := r8.At) (b := r9.Len - (1 : UInt64)))) ?_
           rintro _ rfl a' w' hs'
           exact hK a' w' ⟨p13, p14, p15, p16, p17, p18, hs'.putF (i := 22) rfl [] [0, 1, 2, 3, 4, 5, 6] rfl rfl rfl rfl⟩
          ·intro L a w hL hv
           rw [allTrue hL] at hv
           obtain ⟨p13, p14, p15, p16, p17, p18, hs⟩ := hv
           refine gZ hs [0, 3, 4, 57, 62, 76] [] [0] rfl rfl rfl rfl ?_
           clear hs hL
           refine TA_yes htb (by kernel_rfl) rfl rfl rfl (congrArg (fun b => some (Value.bool b)) hg6) (OpT_bin rfl rfl rfl rfl rfl (bin_leq_u64 (a := r7.At) (b := r8.At + (r9.Len - (1 : UInt64))))) ?_
           rintro _ rfl
           refine TA_step htb (by kernel_rfl) rfl rfl (OpT_pickT rfl rfl rfl (congrArg (fun b => some (Value.bool b)) hg6) rfl) ?_
           refine TA_end rfl ?_
           refine tZ [0, 3, 4, 78] [] [0] rfl rfl rfl rfl ?_
           rcases Bool.eq_false_or_eq_true (decide (r7.At ≤ (r8.At + (r9.Len - (1 : UInt64))))) with hg7 | hg7
           ·replace h := br_t hg7 h
            refine Tk_condT (congrArg (fun b => some (Value.bool b)) hg7) ?_
            refine Tk_seq (Tk_region (Tops_step rfl (OpT_assign rfl rfl rfl rfl) ?_))
            refine Tops_nil (tZ [2] [] [] rfl rfl rfl rfl ?_)
            obtain rfl := Option.some.inj h
            exact Tk_retV rfl rfl (resA (vs := [vI (2 : Int)]) rfl ⟨rfl, trivial⟩) [] [] rfl rfl rfl ⟨rfl, rfl, rfl⟩
           ·replace h := br_f hg7 h
            refine Tk_condF (congrArg (fun b => some (Value.bool b)) hg7) ?_
            refine Tk_skip (Tk_blk (Tk_region (Tops_step rfl (OpT_move rfl rfl rfl rfl) ?_)))
            refine Tops_step rfl (OpT_bin rfl rfl rfl rfl rfl (bin_add_i (a := i1) (b := (1 : Int)))) ?_
            refine Tops_step rfl (OpT_assign rfl rfl rfl rfl) ?_
            refine Tops_nil (tZ [0, 3, 4] [] [0] rfl rfl rfl rfl ?_)
            exact Tk_backS (sum1 + r6.Len, wi (i1 + (1 : Int))) h [0, 3, 4] [] [0] rfl rfl rfl rfl rfl
         ·replace h := br_f hg6 h
          refine TA_seg (lo := 3) (hi := 22) htb rfl rfl (by kernel_rfl) (fun c L a w => Sat c ⟨[(0, some (vl1)), (3, some (vU64 (sum1 + r6.Len))), (4, some (vI i1)), (57, some (vB (decide (i1 > (0 : Int))))), (58, bif L 3 then some (undef) else none), (59, bif L 4 then some (undef) else none), (60, bif L 5 then some (undef) else none), (61, bif L 6 then some (undef) else none), (62, bif L 7 then some (undef) else none), (63, bif L 8 then some (undef) else none), (64, bif L 9 then some (undef) else none), (65, bif L 10 then some (undef) else none), (66, bif L 11 then some (undef) else none), (67, bif L 12 then some (undef) else none), (68, bif L 13 then some (undef) else none), (69, bif L 14 then some (undef) else none), (70, bif L 15 then some (undef) else none), (71, bif L 16 then some (undef) else none), (72, bif L 17 then some (undef) else none), (73, bif L 18 then some (undef) else none), (74, bif L 19 then some (undef) else none), (75, bif L 20 then some (undef) else none), (76, bif L 21 then some (undef) else none)], [], [Fact.sl RegionS vl1 l]⟩ a w) [([], [5, 6, 7]), ([], [5, 6, 7]), ([3, 4], [6, 7]), ([3, 4, 5], [7]), ([3, 4, 5, 6], []), ([], [11, 12, 13, 21]), ([], [10, 11, 12, 13, 21]), ([9], [11, 12, 13, 21]), ([8, 9, 10], [12, 13, 21]), ([8, 9, 10, 11], [13, 21]), ([8, 9, 10, 11, 12], [21]), ([], [17, 18, 19, 20, 21]), ([], [16, 17, 18, 19, 20, 21]), ([15], [17, 18, 19, 20, 21]), ([14, 15, 16], [18, 19, 20, 21]), ([14, 15, 16, 17], [19, 20, 21]), ([14, 15, 16, 17, 18], [20, 21]), ([14, 15, 16, 17, 18, 19], [21]), ([8, 9, 10, 11, 12, 13, 14, 15, 16, 17, 18, 19, 20], [])] rfl (by kernel_rfl) ?_ (steps_cons ?_ (steps_cons ?_ (steps_cons ?_ (steps_cons ?_ (steps_cons ?_ (steps_cons ?_ (steps_cons ?_ (steps_cons ?_ (steps_cons ?_ (steps_cons ?_ (steps_cons ?_ (steps_cons ?_ (steps_cons ?_ (steps_cons ?_ (steps_cons ?_ (steps_cons ?_ (steps_cons ?_ (steps_cons ?_ (steps_cons ?_ (steps_nil)))))))))))))))))))) ?_
          ·intro a w hs
           exact hs.startF [58, 59, 60, 61, 62, 63, 64, 65, 66, 67, 68, 69, 70, 71, 72, 73, 74, 75, 76] [] [0] rfl rfl rfl rfl
          ·intro L a w hv K Q hK
           have hs := hv
           refine wpOp_no rfl rfl rfl hs (congrArg (fun b => some (Value.bool b)) hg6) rfl rfl ?_
           intro a' w' hs'
           exact hK a' w' (hs'.putF (i := 4) rfl [] [0] rfl rfl rfl rfl)
          ·intro L a w hv K Q hK
           have hs := hv
           refine wpOp_no rfl rfl rfl hs (congrArg (fun b => some (Value.bool b)) hg6) rfl rfl ?_
           intro a' w' hs'
           exact hK a' w' (hs'.putF (i := 5) rfl [] [0] rfl rfl rfl rfl)
          ·intro L a w hv K Q hK
           have hs := hv
           refine wpOp_no rfl rfl rfl hs (congrArg (fun b => some (Value.bool b)) hg6) rfl rfl ?_
           intro a' w' hs'
           exact hK a' w' (hs'.putF (i := 6) rfl [] [0] rfl rfl rfl rfl)
          ·intro L a w hv K Q hK
           have hs := hv
           refine wpOp_no rfl rfl rfl hs (congrArg (fun b => some (Value.bool b)) hg6) rfl rfl ?_
           intro a' w' hs'
           exact hK a' w' (hs'.putF (i := 7) rfl [] [0] rfl rfl rfl rfl)
          ·intro L a w hv K Q hK
           have hs := hv
           refine wpOp_no rfl rfl rfl hs (congrArg (fun b => some (Value.bool b)) hg6) rfl rfl ?_
           intro a' w' hs'
           exact hK a' w' (hs'.putF (i := 8) rfl [] [0] rfl rfl rfl rfl)
          ·intro L a w hv K Q hK
           have hs := hv
           refine wpOp_no rfl rfl rfl hs (congrArg (fun b => some (Value.bool b)) hg6) rfl rfl ?_
           intro a' w' hs'
           exact hK a' w' (hs'.putF (i := 9) rfl [] [0] rfl rfl rfl rfl)
          ·intro L a w hv K Q hK
           have hs := hv
           refine wpOp_no rfl rfl rfl hs (congrArg (fun b => some (Value.bool b)) hg6) rfl rfl ?_
           intro a' w' hs'
           exact hK a' w' (hs'.putF (i := 10) rfl [] [0] rfl rfl rfl rfl)
          ·intro L a w hv K Q hK
           have hs := hv
           refine wpOp_no rfl rfl rfl hs (congrArg (fun b => some (Value.bool b)) hg6) rfl rfl ?_
           intro a' w' hs'
           exact hK a' w' (hs'.putF (i := 11) rfl [] [0] rfl rfl rfl rfl)
          ·intro L a w hv K Q hK
           have hs := hv
           refine wpOp_no rfl rfl rfl hs (congrArg (fun b => some (Value.bool b)) hg6) rfl rfl ?_
           intro a' w' hs'
           exact hK a' w' (hs'.putF (i := 12) rfl [] [0] rfl rfl rfl rfl)
          ·intro L a w hv K Q hK
           have hs := hv
           refine wpOp_no rfl rfl rfl hs (congrArg (fun b => some (Value.bool b)) hg6) rfl rfl ?_
           intro a' w' hs'
           exact hK a' w' (hs'.putF (i := 13) rfl [] [0] rfl rfl rfl rfl)
          ·intro L a w hv K Q hK
           have hs := hv
           refine wpOp_no rfl rfl rfl hs (congrArg (fun b => some (Value.bool b)) hg6) rfl rfl ?_
           intro a' w' hs'
           exact hK a' w' (hs'.putF (i := 14) rfl [] [0] rfl rfl rfl rfl)
          ·intro L a w hv K Q hK
           have hs := hv
           refine wpOp_no rfl rfl rfl hs (congrArg (fun b => some (Value.bool b)) hg6) rfl rfl ?_
           intro a' w' hs'
           exact hK a' w' (hs'.putF (i := 15) rfl [] [0] rfl rfl rfl rfl)
          ·intro L a w hv K Q hK
           have hs := hv
           refine wpOp_no rfl rfl rfl hs (congrArg (fun b => some (Value.bool b)) hg6) rfl rfl ?_
           intro a' w' hs'
           exact hK a' w' (hs'.putF (i := 16) rfl [] [0] rfl rfl rfl rfl)
          ·intro L a w hv K Q hK
           have hs := hv
           refine wpOp_no rfl rfl rfl hs (congrArg (fun b => some (Value.bool b)) hg6) rfl rfl ?_
           intro a' w' hs'
           exact hK a' w' (hs'.putF (i := 17) rfl [] [0] rfl rfl rfl rfl)
          ·intro L a w hv K Q hK
           have hs := hv
           refine wpOp_no rfl rfl rfl hs (congrArg (fun b => some (Value.bool b)) hg6) rfl rfl ?_
           intro a' w' hs'
           exact hK a' w' (hs'.putF (i := 18) rfl [] [0] rfl rfl rfl rfl)
          ·intro L a w hv K Q hK
           have hs := hv
           refine wpOp_no rfl rfl rfl hs (congrArg (fun b => some (Value.bool b)) hg6) rfl rfl ?_
           intro a' w' hs'
           exact hK a' w' (hs'.putF (i := 19) rfl [] [0] rfl rfl rfl rfl)
          ·intro L a w hv K Q hK
           have hs := hv
           refine wpOp_no rfl rfl rfl hs (congrArg (fun b => some (Value.bool b)) hg6) rfl rfl ?_
           intro a' w' hs'
           exact hK a' w' (hs'.putF (i := 20) rfl [] [0] rfl rfl rfl rfl)
          ·intro L a w hv K Q hK
           have hs := hv
           refine wpOp_no rfl rfl rfl hs (congrArg (fun b => some (Value.bool b)) hg6) rfl rfl ?_
           intro a' w' hs'
           exact hK a' w' (hs'.putF (i := 21) rfl [] [0] rfl rfl rfl rfl)
          ·intro L a w hv K Q hK
           have hs := hv
           refine wpOp_no rfl rfl rfl hs (congrArg (fun b => some (Value.bool b)) hg6) rfl rfl ?_
           intro a' w' hs'
           exact hK a' w' (hs'.putF (i := 22) rfl [] [0] rfl rfl rfl rfl)
          ·intro L a w hL hv
           rw [allTrue hL] at hv
           have hs := hv
           refine gZ hs [0, 3, 4, 57, 62, 76] [] [0] rfl rfl rfl rfl ?_
           clear hs hL
           refine TA_no htb (by kernel_rfl) rfl rfl rfl (congrArg (fun b => some (Value.bool b)) hg6) rfl rfl ?_
           refine TA_step htb (by kernel_rfl) rfl rfl (OpT_pickF rfl rfl rfl (congrArg (fun b => some (Value.bool b)) hg6) rfl) ?_
           refine TA_end rfl ?_
           refine tZ [0, 3, 4, 78] [] [0] rfl rfl rfl rfl ?_
           refine Tk_condF rfl ?_
           refine Tk_skip (Tk_blk (Tk_region (Tops_step rfl (OpT_move rfl rfl rfl rfl) ?_)))
           refine Tops_step rfl (OpT_bin rfl rfl rfl rfl rfl (bin_add_i (a := i1) (b := (1 : Int)))) ?_
           refine Tops_step rfl (OpT_assign rfl rfl rfl rfl) ?_
           refine Tops_nil (tZ [0, 3, 4] [] [0] rfl rfl rfl rfl ?_)
           exact Tk_backS (sum1 + r6.Len, wi (i1 + (1 : Int))) h [0, 3, 4] [] [0] rfl rfl rfl rfl rfl
  ·replace h := br_f hg2 h
   refine Tk_condF (congrArg (fun b => some (Value.bool b)) hg2) ?_
   refine Tk_exit _ rfl ?_
   refine Tk_seq (Tk_seq (Tk_region (Tops_step rfl (OpT_move rfl rfl rfl rfl) ?_)))
   refine Tops_step rfl (OpT_bin rfl rfl rfl rfl rfl (bin_gtr_u64 (a := sum1) (b := (1048576 : UInt64)))) ?_
   refine Tops_nil (tZ [80] [] [] rfl rfl rfl rfl ?_)
   rcases Bool.eq_false_or_eq_true (decide (sum1 > (1048576 : UInt64))) with hg8 | hg8
   ·replace h := br_t hg8 h
    refine Tk_condT (congrArg (fun b => some (Value.bool b)) hg8) ?_
    refine Tk_seq (Tk_region (Tops_step rfl (OpT_assign rfl rfl rfl rfl) ?_))
    refine Tops_nil (tZ [2] [] [] rfl rfl rfl rfl ?_)
    obtain rfl := Option.some.inj h
    exact Tk_retV rfl rfl (resA (vs := [vI (2 : Int)]) rfl ⟨rfl, trivial⟩) [] [] rfl rfl rfl ⟨rfl, rfl, rfl⟩
   ·replace h := br_f hg8 h
    refine Tk_condF (congrArg (fun b => some (Value.bool b)) hg8) ?_
    refine Tk_skip (Tk_seq (Tk_region (Tops_step rfl (OpT_assign rfl rfl rfl rfl) ?_)))
    refine Tops_nil (tZ [2] [] [] rfl rfl rfl rfl ?_)
    obtain rfl := Option.some.inj h
    exact Tk_retV rfl rfl (resA (vs := [vI (0 : Int)]) rfl ⟨rfl, trivial⟩) [] [] rfl rfl rfl ⟨rfl, rfl, rfl⟩

set_option maxRecDepth 100000 in
set_option maxHeartbeats 4000000 in
theorem w_ref_New02 {l : List Region} {vl1 : Value} {r : ((Option dumbwaiterref02_Mem) × Int)} (h : ref_New02 l = some r) :
  Ctr Try.prog 26 #[vl1] [] [Fact.sl RegionS vl1 l]
   (fun rv own shr => ∃ (w1 : Value), rv = .tuple #[w1, vI r.2] ∧ own = [(optR 97 RegionS u8S false dumbwaiterref02_Mem.L dumbwaiterref02_Mem.B w1 r.1)] ∧ shr = []) := by
 unfold ref_New02 at h
 refine Ctr.mk (args := [vl1]) Try.func26 rfl rfl (fun R0 w0 B => ?_)
 refine Tk_seq (Tk_region (Tops_step rfl (OpT_assign rfl rfl rfl rfl) ?_))
 refine Tops_step rfl (OpT_assign rfl rfl rfl rfl) ?_
 refine Tops_nil (tZ [0] [] [0] rfl rfl rfl rfl ?_)
 refine Tk_seq (Tk_seq (Tk_region (Tops_step rfl (OpT_move rfl rfl rfl rfl) ?_)))
 obtain ⟨check1, hx1, h⟩ := ob_e h
 refine Tops_exP rfl (OpT_call (w_ref_Check02 hx1) [] [0] rfl rfl rfl rfl rfl callee55 rfl rfl rfl rfl) ?_
 rintro _ ⟨_, _, _, ⟨rfl, rfl, rfl⟩, rfl⟩
 refine Tops_step rfl (OpT_bin rfl rfl rfl rfl rfl (bin_neq_i (a := check1) (b := (0 : Int)))) ?_
 refine Tops_nil (tZ [0, 8] [] [0] rfl rfl rfl rfl ?_)
 rcases Bool.eq_false_or_eq_true (check1 != (0 : Int)) with hg1 | hg1
 ·replace h := br_t hg1 h
  refine Tk_condT (congrArg (fun b => some (Value.bool b)) hg1) ?_
  refine Tk_seq (Tk_region (Tops_step rfl (OpT_assign rfl rfl rfl rfl) ?_))
  refine Tops_step rfl (OpT_assign rfl rfl rfl rfl) ?_
  refine Tops_nil (tZ [2, 3] [] [] rfl rfl rfl rfl ?_)
  refine Tk_nilopt 97 RegionS u8S false dumbwaiterref02_Mem.L dumbwaiterref02_Mem.B ?_
  obtain rfl := Option.some.inj h
  exact Tk_retV rfl rfl (resA (vs := [.pointer none, vI (2 : Int)]) rfl ⟨rfl, rfl, trivial⟩) [0] [] rfl rfl rfl ⟨(.pointer none), rfl, rfl, rfl⟩
 ·replace h := br_f hg1 h
  refine Tk_condF (congrArg (fun b => some (Value.bool b)) hg1) ?_
  refine Tk_skip (Tk_seq (Tk_region (Tops_ex rfl (OpT_buildSlice (S := RegionS) (xs := ([] : List Region)) (css := []) (cs := []) (e := 57) rfl rfl rfl rfl (bldF slF45 (by decide) (by kernel_rfl)) rfl rfl rfl rfl (rel_plainD (S := RegionS) (xs := ([] : List Region)) (css := []) rfl rfl)) fun v1 => ?_)))
  refine Tops_step rfl (OpT_move rfl rfl rfl rfl) ?_
  obtain ⟨hc1, h⟩ := chk_e h
  refine Tops_ex rfl (OpT_append rfl rfl rfl rfl rfl slF45 (i := 0) (j := 0) rfl rfl hc1) fun v2 => ?_
  refine Tops_step rfl (OpT_build1 (fun z0 => [(0, z0)]) (fun z0 => [z0, .slice none 0 0]) rfl rfl rfl rfl (is_row (i := 0) rfl) (by intros; kernel_rfl)) ?_
  refine Tops_vs (vs_nilrows (S := u8S)) ?_
  refine Tops_ex rfl (OpT_box rfl rfl rfl rfl) fun b1 => ?_
  refine Tops_step rfl (OpT_assign rfl rfl rfl rfl) ?_
  refine Tops_nil (tZ [0, 4] [0, 1, 2] [0] rfl rfl rfl rfl ?_)
  refine Tk_seq (Tk_seq (Tk_region (Tops_step rfl (OpT_assign rfl rfl rfl rfl) ?_)))
  refine Tops_nil (Tk_block (Tk_loopS (σ := (List Region) × (List (List UInt8)) × Int × Value × Value × (List Value)) [0, 4, 5] [2, 0, 1] [0] (fun s => ⟨[(0, some (vl1)), (4, some (.pointer (some ⟨b1, 0, none⟩))), (5, some (vI s.2.2.1))], [some (cellsR b1 97 [s.2.2.2.1, s.2.2.2.2.1]), some (rowS RegionS s.2.2.2.1 s.1), some (rowsX u8S false s.2.2.2.2.1 s.2.2.2.2.2 s.2.1 none)], [Fact.sl RegionS vl1 l]⟩) (fun nf1 s => ref_New02L1 l nf1 s.1 s.2.1 s.2.2.1 = some r) fuel (l, ([] : List (List UInt8)), (0 : Int), v2, (.slice none 0 0), []) h rfl rfl rfl rfl rfl (fun s h => by cases h) ?_))
  rintro nf1 ⟨l1, rows1, i1, v3, v4, vs1⟩ h
  replace h : ref_New02L1B l (ref_New02L1 l nf1) l1 rows1 i1 = some r := h
  unfold ref_New02L1B at h
  refine Tk_seq (Tk_seq (Tk_region (Tops_step rfl (OpT_move rfl rfl rfl rfl) ?_)))
  refine Tops_step rfl (OpT_move rfl rfl rfl rfl) ?_
  refine Tops_step rfl (OpT_lenS rfl rfl rfl rfl Try.underlying45 (i := 0) rfl) ?_
  refine Tops_step rfl (OpT_bin rfl rfl rfl rfl rfl (bin_lss_i (a := i1) (b := len l))) ?_
  refine Tops_nil (tZ [0, 4, 5, 17] [0, 1, 2] [0] rfl rfl rfl rfl ?_)
  rcases Bool.eq_false_or_eq_true (decide (i1 < (len l))) with hg2 | hg2
  ·replace h := br_t hg2 h
   refine Tk_condT (congrArg (fun b => some (Value.bool b)) hg2) ?_
   refine Tk_skip (Tk_seq (Tk_block (Tk_drawT (by kernel_rfl) ?_)))
   refine TA_tb [0, 0, 2, 6, 14, 0, 0, 96, 224, 480, 992, 2016, 4094, 8191, 16383, 32767] (by kernel_rfl) fun htb => ?_
   refine aZ [0, 4, 5] [0, 1, 2] [0] rfl rfl rfl rfl ?_
   obtain ⟨r1, hx2, h⟩ := ob_e h
   obtain ⟨hc2, h⟩ := chk_e h
   obtain ⟨hc3, h⟩ := chk_e h
   refine TA_seg (lo := 0) (hi := 13) htb rfl rfl (by kernel_rfl) (fun c L a w => ∃ (p1 : Value), ∃ (p2 : Value), ∃ (v5 : Value), ∃ (v6 : Value), ∃ (pp1 : Value × List Value), Sat c ⟨[(0, some (vl1)), (4, some (.pointer (some ⟨b1, 0, none⟩))), (5, some (vI i1)), (20, bif L 0 then some (.pointer (some ⟨b1, 0, none⟩)) else none), (21, bif L 1 then some (.pointer (some ⟨b1, 0, none⟩)) else none), (22, bif L 2 then some (.pointer (some ⟨b1, 0, none⟩)) else none), (23, bif L 3 then some (.pointer (some ⟨b1, 1, none⟩)) else none), (24, bif L 4 then some (v4) else none), (25, bif L 5 then some (vl1) else none), (26, bif L 6 then some (vI i1) else none), (27, bif L 7 then some (p1) else none), (28, bif L 8 then some (p2) else none), (29, bif L 9 then some (vU64 r1.Len) else none), (30, bif L 10 then some (v5) else none), (31, bif L 11 then some (v6) else none), (32, bif L 12 then some (pp1.1) else none)], [(some (cellsR b1 97 [v3, v4]) : Option Res), (some (rowS RegionS v3 l1) : Option Res), (bif L 12 then some (rowsX u8S false pp1.1 pp1.2 (rows1 ++ [List.replicate (Int.toNat (r1.Len.toNat : Int)) (0 : UInt8)]) none) else some (rowsX u8S false v4 vs1 rows1 none) : Option Res), (bif L 12 then none else bif L 10 then some (rowS u8S v5 (List.replicate (Int.toNat (r1.Len.toNat : Int)) (0 : UInt8))) else none : Option Res), (bif L 12 then none else bif L 11 then some (rowS valS v6 [v5]) else none : Option Res)], [Fact.sl RegionS vl1 l, (bif L 7 then Fact.pt RegionS p1 r1 else Fact.tt), (bif L 8 then Fact.pt u64S p2 r1.Len else Fact.tt)]⟩ a w) [([], []), ([], [2, 3, 4, 12]), ([1], [3, 4, 12]), ([1, 2], [4, 12]), ([1, 2, 3], [12]), ([], [7, 8, 9, 10, 11, 12]), ([], [7, 8, 9, 10, 11, 12]), ([5, 6], [8, 9, 10, 11, 12]), ([5, 6, 7], [9, 10, 11, 12]), ([5, 6, 7, 8], [10, 11, 12]), ([5, 6, 7, 8, 9], [11, 12]), ([5, 6, 7, 8, 9, 10], [12]), ([1, 2, 3, 4, 5, 6, 7, 8, 9, 10, 11], [])] rfl (by kernel_rfl) ?_ (steps_cons ?_ (steps_cons ?_ (steps_cons ?_ (steps_cons ?_ (steps_cons ?_ (steps_cons ?_ (steps_cons ?_ (steps_cons ?_ (steps_cons ?_ (steps_cons ?_ (steps_cons ?_ (steps_cons ?_ (steps_cons ?_ (steps_nil)))))))))))))) ?_
   ·intro a w hs
    exact ⟨undef, undef, undef, undef, (undef, []), hs.startF [20, 21, 22, 23, 24, 25, 26, 27, 28, 29, 30, 31, 32] [0, 1, 2, 3, 4] [0, 1, 2] rfl rfl rfl rfl⟩
   ·intro L a w hv K Q hK
    obtain ⟨p1, p2, v5, v6, pp1, hs⟩ := hv
    refine wpOp_go rfl rfl hs (OpT_move rfl rfl rfl rfl) ?_
    rintro _ rfl a' w' hs'
    exact hK a' w' ⟨p1, p2, v5, v6, pp1, hs'.putF (i := 3) rfl [0, 1, 2, 3, 4] [0, 1, 2] rfl rfl rfl rfl⟩
   ·intro L a w hv K Q hK
    obtain ⟨p1, p2, v5, v6, pp1, hs⟩ := hv
    refine wpOp_go rfl rfl hs (OpT_move rfl rfl rfl rfl) ?_
    rintro _ rfl a' w' hs'
    exact hK a' w' ⟨p1, p2, v5, v6, pp1, hs'.putF (i := 4) rfl [0, 1, 2, 3, 4] [0, 1, 2] rfl rfl rfl rfl⟩
   ·intro L a w hv K Q hK
    obtain ⟨p1, p2, v5, v6, pp1, hs⟩ := hv
    refine wpOp_go rfl rfl hs (OpT_nilCheckP rfl rfl rfl rfl) ?_
    rintro _ rfl a' w' hs'
    exact hK a' w' ⟨p1, p2, v5, v6, pp1, hs'.putF (i := 5) rfl [0, 1, 2, 3, 4] [0, 1, 2] rfl rfl rfl rfl⟩
   ·intro L a w hv K Q hK
    obtain ⟨p1, p2, v5, v6, pp1, hs⟩ := hv
    refine wpOp_go rfl rfl hs (OpT_fieldC rfl rfl rfl rfl fldF97x1) ?_
    rintro _ rfl a' w' hs'
    exact hK a' w' ⟨p1, p2, v5, v6, pp1, hs'.putF (i := 6) rfl [0, 1, 2, 3, 4] [0, 1, 2] rfl rfl rfl rfl⟩
   ·intro L a w hv K Q hK
    obtain ⟨p1, p2, v5, v6, pp1, hs⟩ := hv
    refine wpOp_go rfl rfl hs (OpT_loadC rfl rfl rfl rfl tyF81 (i := 0) rfl rfl) ?_
    rintro _ rfl a' w' hs'
    exact hK a' w' ⟨p1, p2, v5, v6, pp1, hs'.putF (i := 7) rfl [0, 1, 2, 3, 4] [0, 1, 2] rfl rfl rfl rfl⟩
   ·intro L a w hv K Q hK
    obtain ⟨p1, p2, v5, v6, pp1, hs⟩ := hv
    refine wpOp_go rfl rfl hs (OpT_move rfl rfl rfl rfl) ?_
    rintro _ rfl a' w' hs'
    exact hK a' w' ⟨p1, p2, v5, v6, pp1, hs'.putF (i := 8) rfl [0, 1, 2, 3, 4] [0, 1, 2] rfl rfl rfl rfl⟩
   ·intro L a w hv K Q hK
    obtain ⟨p1, p2, v5, v6, pp1, hs⟩ := hv
    refine wpOp_go rfl rfl hs (OpT_move rfl rfl rfl rfl) ?_
    rintro _ rfl a' w' hs'
    exact hK a' w' ⟨p1, p2, v5, v6, pp1, hs'.putF (i := 9) rfl [0, 1, 2, 3, 4] [0, 1, 2] rfl rfl rfl rfl⟩
   ·intro L a w hv K Q hK
    obtain ⟨p1, p2, v5, v6, pp1, hs⟩ := hv
    refine wpOp_go rfl rfl hs (OpT_idxS rfl rfl rfl rfl rfl slF45 (i := 0) rfl hx2) ?_
    rintro _ ⟨p1', rfl⟩ a' w' hs'
    exact hK a' w' ⟨p1', p2, v5, v6, pp1, hs'.putF (i := 10) rfl [0, 1, 2, 3, 4] [0, 3, 2] rfl rfl rfl rfl⟩
   ·intro L a w hv K Q hK
    obtain ⟨p1, p2, v5, v6, pp1, hs⟩ := hv
    refine wpOp_go rfl rfl hs (OpT_fieldP (S' := u64S) (y := r1.Len) rfl rfl rfl rfl fldF57x1 (i := 1) rfl (by intro h cs hr; subst hr; rfl)) ?_
    rintro _ ⟨p2', rfl⟩ a' w' hs'
    exact hK a' w' ⟨p1, p2', v5, v6, pp1, hs'.putF (i := 11) rfl [0, 1, 2, 3, 4] [0, 1, 3] rfl rfl rfl rfl⟩
   ·intro L a w hv K Q hK
    obtain ⟨p1, p2, v5, v6, pp1, hs⟩ := hv
    refine wpOp_go rfl rfl hs (OpT_loadP rfl rfl rfl rfl tyF29 (i := 2) rfl rfl) ?_
    rintro _ rfl a' w' hs'
    exact hK a' w' ⟨p1, p2, v5, v6, pp1, hs'.putF (i := 12) rfl [0, 1, 2, 3, 4] [0, 1, 2] rfl rfl rfl rfl⟩
   ·intro L a w hv K Q hK
    obtain ⟨p1, p2, v5, v6, pp1, hs⟩ := hv
    refine wpOp_go rfl rfl hs (OpT_makeK u8S rfl (u := (0 : UInt8)) rfl rfl rfl rfl rfl slF35 rfl hc2) ?_
    rintro _ ⟨v5', rfl⟩ a' w' hs'
    exact hK a' w' ⟨p1, p2, v5', v6, pp1, hs'.putF (i := 13) rfl [0, 1, 2, 5, 4] [0, 1, 2] rfl rfl rfl rfl⟩
   ·intro L a w hv K Q hK
    obtain ⟨p1, p2, v5, v6, pp1, hs⟩ := hv
    refine wpOp_go rfl rfl hs (OpT_buildV (u := v5) rfl rfl rfl rfl slF81 (i := 3) rfl) ?_
    rintro _ ⟨v6', rfl⟩ a' w' hs'
    exact hK a' w' ⟨p1, p2, v5, v6', pp1, hs'.putF (i := 14) rfl [0, 1, 2, 3, 5] [0, 1, 2] rfl rfl rfl rfl⟩
   ·intro L a w hv K Q hK
    obtain ⟨p1, p2, v5, v6, pp1, hs⟩ := hv
    refine wpOp_go rfl rfl hs (OpT_appendRows (u := v5) rfl rfl rfl rfl rfl slF81 (i := 2) (j := 4) (q := 3) rfl rfl rfl rfl rfl rfl hc3) ?_
    rintro _ ⟨pp1', rfl⟩ a' w' hs'
    exact hK a' w' ⟨p1, p2, v5, v6, pp1', hs'.putF (i := 15) rfl [0, 1, 2, 3, 4] [0, 1, 2] rfl rfl rfl rfl⟩
   ·intro L a w hL hv
    rw [allTrue hL] at hv
    obtain ⟨p1, p2, v5, v6, pp1, hs⟩ := hv
    refine gZ hs [0, 4, 5, 20, 32] [0, 1, 2] [0] rfl rfl rfl rfl ?_
    clear hs hL
    refine TA_step htb (by kernel_rfl) rfl rfl (OpT_nilCheckP rfl rfl rfl rfl) ?_
    refine TA_step htb (by kernel_rfl) rfl rfl (OpT_fieldC rfl rfl rfl rfl fldF97x1) ?_
    refine TA_step htb (by kernel_rfl) rfl rfl (OpT_storeV (cs' := [v3, pp1.1]) rfl rfl rfl rfl tyF81 (i := 0) rfl (is_rows (i := 2) rfl) rfl rfl) ?_
    refine TA_end rfl ?_
    refine tZ [0, 4, 5] [0, 1, 2] [0] rfl rfl rfl rfl ?_
    refine Tk_blk (Tk_region (Tops_step rfl (OpT_move rfl rfl rfl rfl) ?_))
    refine Tops_step rfl (OpT_bin rfl rfl rfl rfl rfl (bin_add_i (a := i1) (b := (1 : Int)))) ?_
    refine Tops_step rfl (OpT_assign rfl rfl rfl rfl) ?_
    refine Tops_nil (tZ [0, 4, 5] [0, 1, 2] [0] rfl rfl rfl rfl ?_)
    exact Tk_backS (l1, rows1 ++ [List.replicate (Int.toNat (r1.Len.toNat : Int)) (0 : UInt8)], wi (i1 + (1 : Int)), v3, pp1.1, pp1.2) h [0, 4, 5] [0, 1, 2] [0] rfl rfl rfl rfl rfl
  ·replace h := br_f hg2 h
   refine Tk_condF (congrArg (fun b => some (Value.bool b)) hg2) ?_
   refine Tk_exit _ rfl ?_
   refine Tk_seq (Tk_region (Tops_step rfl (OpT_move rfl rfl rfl rfl) ?_))
   refine Tops_step rfl (OpT_assign rfl rfl rfl rfl) ?_
   refine Tops_step rfl (OpT_assign rfl rfl rfl rfl) ?_
   refine Tops_nil (tZ [2, 3] [0, 1, 2] [] rfl rfl rfl rfl ?_)
   refine Tk_retire (i := 1) rfl ?_
   refine Tk_vs (vs_fold (fl := dumbwaiterref02_Mem.L) (fb := dumbwaiterref02_Mem.B) (dumbwaiterref02_Mem.mk l1 rows1) (i := 0) (j := 2) rfl rfl rfl (q := 0) rfl rfl rfl) ?_
   obtain rfl := Option.some.inj h
   exact Tk_retV rfl rfl (resA (vs := [.pointer (some ⟨b1, 0, none⟩), vI (0 : Int)]) rfl ⟨rfl, rfl, trivial⟩) [0] [] rfl rfl rfl ⟨(.pointer (some ⟨b1, 0, none⟩)), rfl, rfl, rfl⟩

set_option maxRecDepth 100000 in
set_option maxHeartbeats 4000000 in
theorem w_gmem_Check {l : List Region} {vl1 : Value} {r : Int} (h : gmem_Check l = some r) :
  Ctr Try.prog 43 #[vl1] [] [Fact.sl RegionS vl1 l]
   (fun rv own shr => rv = vI r ∧ own = [] ∧ shr = []) := by
 unfold gmem_Check at h
 refine Ctr.mk (args := [vl1]) Try.func43 rfl rfl (fun R0 w0 B => ?_)
 refine Tk_seq (Tk_region (Tops_step rfl (OpT_assign rfl rfl rfl rfl) ?_))
 refine Tops_nil (tZ [0] [] [0] rfl rfl rfl rfl ?_)
 refine Tk_seq (Tk_seq (Tk_region (Tops_step rfl (OpT_move rfl rfl rfl rfl) ?_)))
 refine Tops_step rfl (OpT_lenS rfl rfl rfl rfl Try.underlying45 (i := 0) rfl) ?_
 refine Tops_step rfl (OpT_bin rfl rfl rfl rfl rfl (bin_gtr_i (a := len l) (b := (16 : Int)))) ?_
 refine Tops_nil (tZ [0, 9] [] [0] rfl rfl rfl rfl ?_)
 rcases Bool.eq_false_or_eq_true (decide ((len l) > (16 : Int))) with hg1 | hg1
 ·replace h := br_t hg1 h
  refine Tk_condT (congrArg (fun b => some (Value.bool b)) hg1) ?_
  refine Tk_seq (Tk_region (Tops_step rfl (OpT_assign rfl rfl rfl rfl) ?_))
  refine Tops_nil (tZ [2] [] [] rfl rfl rfl rfl ?_)
  obtain rfl := Option.some.inj h
  exact Tk_retV rfl rfl (resA (vs := [vI (2 : Int)]) rfl ⟨rfl, trivial⟩) [] [] rfl rfl rfl ⟨rfl, rfl, rfl⟩
 ·replace h := br_f hg1 h
  refine Tk_condF (congrArg (fun b => some (Value.bool b)) hg1) ?_
  refine Tk_skip (Tk_seq (Tk_region (Tops_step rfl (OpT_assign rfl rfl rfl rfl) ?_)))
  refine Tops_nil (tZ [0, 3] [] [0] rfl rfl rfl rfl ?_)
  refine Tk_seq (Tk_seq (Tk_region (Tops_step rfl (OpT_move rfl rfl rfl rfl) ?_)))
  refine Tops_step rfl (OpT_lenS rfl rfl rfl rfl Try.underlying45 (i := 0) rfl) ?_
  refine Tops_step rfl (OpT_move rfl rfl rfl rfl) ?_
  refine Tops_nil (Tk_block (Tk_loopS (σ := UInt64 × Int) [0, 3, 10, 11, 12] [] [0] (fun s => ⟨[(0, some (vl1)), (3, some (vU64 s.1)), (10, some (vl1)), (11, some (vI (len l))), (12, some (vI s.2))], [], [Fact.sl RegionS vl1 l]⟩) (fun nf1 s => gmem_CheckL1 l nf1 s.1 s.2 = some r) fuel ((1048576 : UInt64), (0 : Int)) h rfl rfl rfl rfl rfl (fun s h => by cases h) ?_))
  rintro nf1 ⟨room1, x1⟩ h
  replace h : gmem_CheckL1B l (gmem_CheckL1 l nf1) room1 x1 = some r := h
  unfold gmem_CheckL1B at h
  refine Tk_seq (Tk_region (Tops_step rfl (OpT_bin rfl rfl rfl rfl rfl (bin_lss_i (a := x1) (b := len l))) ?_))
  refine Tops_nil (Tk_seq ?_)
  rcases Bool.eq_false_or_eq_true (decide (x1 < (len l))) with hg2 | hg2
  ·replace h := br_t hg2 h
   refine Tk_condT (congrArg (fun b => some (Value.bool b)) hg2) ?_
   refine Tk_skip (Tk_seq (Tk_block (Tk_seq (Tk_region (Tops_step rfl (OpT_move rfl rfl rfl rfl) ?_)))))
   obtain ⟨r1, hx1, h⟩ := ob_e h
   refine Tops_ex rfl (OpT_idxS rfl rfl rfl rfl rfl slF45 (i := 0) rfl hx1) fun p1 => ?_
   refine Tops_step rfl (OpT_loadPA (vs := [vU64 r1.At, vU64 r1.Len]) rfl rfl rfl rfl tyF57 (i := 1) rfl rfl) ?_
   refine Tops_ex rfl (OpT_alloc rfl rfl rfl tyZ57) fun b1 => ?_
   refine Tops_step rfl (OpT_assign rfl rfl rfl rfl) ?_
   refine Tops_step rfl (OpT_storeC (cs' := [vU64 r1.At, vU64 r1.Len]) rfl rfl rfl rfl tyF57 (i := 0) rfl rfl rfl (one_of rfl) rfl) ?_
   refine Tops_nil (tZ [0, 3, 10, 11, 12, 5, 4] [0] [0] rfl rfl rfl rfl ?_)
   refine Tk_seq (Tk_seq (Tk_region (Tops_step rfl (OpT_fieldC rfl rfl rfl rfl fldF57x1) ?_)))
   refine Tops_step rfl (OpT_loadC rfl rfl rfl rfl tyF29 (i := 0) rfl rfl) ?_
   refine Tops_step rfl (OpT_bin rfl rfl rfl rfl rfl (bin_lss_u64 (a := r1.Len) (b := (1 : UInt64)))) ?_
   refine Tops_step rfl (OpT_move rfl rfl rfl rfl) ?_
   rcases Bool.eq_false_or_eq_true (decide (r1.Len < (1 : UInt64))) with hg3 | hg3
   ·replace h := br_t hg3 h
    refine Tops_no rfl rfl (congrArg (fun b => some (Value.bool b)) hg3) rfl rfl ?_
    refine Tops_no rfl rfl (congrArg (fun b => some (Value.bool b)) hg3) rfl rfl ?_
    refine Tops_no rfl rfl (congrArg (fun b => some (Value.bool b)) hg3) rfl rfl ?_
    refine Tops_no rfl rfl (congrArg (fun b => some (Value.bool b)) hg3) rfl rfl ?_
    refine Tops_step rfl (OpT_pickT rfl rfl rfl (congrArg (fun b => some (Value.bool b)) hg3) rfl) ?_
    refine Tops_step rfl (OpT_move rfl rfl rfl rfl) ?_
    refine Tops_no rfl rfl rfl rfl rfl ?_
    refine Tops_no rfl rfl rfl rfl rfl ?_
    refine Tops_no rfl rfl rfl rfl rfl ?_
    refine Tops_no rfl rfl rfl rfl rfl ?_
    refine Tops_no rfl rfl rfl rfl rfl ?_
    refine Tops_no rfl rfl rfl rfl rfl ?_
    refine Tops_no rfl rfl rfl rfl rfl ?_
    refine Tops_step rfl (OpT_pickT rfl rfl rfl rfl rfl) ?_
    refine Tops_nil (tZ [0, 3, 10, 11, 12, 5, 4, 34] [0] [0] rfl rfl rfl rfl ?_)
    refine Tk_condT rfl ?_
    refine Tk_seq (Tk_region (Tops_step rfl (OpT_assign rfl rfl rfl rfl) ?_))
    refine Tops_nil (tZ [2] [] [] rfl rfl rfl rfl ?_)
    obtain rfl := Option.some.inj h
    exact Tk_retV rfl rfl (resA (vs := [vI (2 : Int)]) rfl ⟨rfl, trivial⟩) [] [] rfl rfl rfl ⟨rfl, rfl, rfl⟩
   ·replace h := br_f hg3 h
    refine Tops_yes rfl rfl (congrArg (fun b => some (Value.bool b)) hg3) (OpT_fieldC rfl rfl rfl rfl fldF57x1) ?_
    rintro _ rfl
    refine Tops_yes rfl rfl (congrArg (fun b => some (Value.bool b)) hg3) (OpT_loadC rfl rfl rfl rfl tyF29 (i := 0) rfl rfl) ?_
    rintro _ rfl
    refine Tops_yes rfl rfl (congrArg (fun b => some (Value.bool b)) hg3) (OpT_move rfl rfl rfl rfl) ?_
    rintro _ rfl
    refine Tops_yes rfl rfl (congrArg (fun b => some (Value.bool b)) hg3) (OpT_bin rfl rfl rfl rfl rfl (bin_gtr_u64 (a := r1.Len) (b := room1))) ?_
    rintro _ rfl
    refine Tops_step rfl (OpT_pickF rfl rfl rfl (congrArg (fun b => some (Value.bool b)) hg3) rfl) ?_
    refine Tops_step rfl (OpT_move rfl rfl rfl rfl) ?_
    rcases Bool.eq_false_or_eq_true (decide (r1.Len > room1)) with hg4 | hg4
    ·replace h := br_t hg4 h
     refine Tops_no rfl rfl (congrArg (fun b => some (Value.bool b)) hg4) rfl rfl ?_
     refine Tops_no rfl rfl (congrArg (fun b => some (Value.bool b)) hg4) rfl rfl ?_
     refine Tops_no rfl rfl (congrArg (fun b => some (Value.bool b)) hg4) rfl rfl ?_
     refine Tops_no rfl rfl (congrArg (fun b => some (Value.bool b)) hg4) rfl rfl ?_
     refine Tops_no rfl rfl (congrArg (fun b => some (Value.bool b)) hg4) rfl rfl ?_
     refine Tops_no rfl rfl (congrArg (fun b => some (Value.bool b)) hg4) rfl rfl ?_
     refine Tops_no rfl rfl (congrArg (fun b => some (Value.bool b)) hg4) rfl rfl ?_
     refine Tops_step rfl (OpT_pickT rfl rfl rfl (congrArg (fun b => some (Value.bool b)) hg4) rfl) ?_
     refine Tops_nil (tZ [0, 3, 10, 11, 12, 5, 4, 34] [0] [0] rfl rfl rfl rfl ?_)
     refine Tk_condT rfl ?_
     refine Tk_seq (Tk_region (Tops_step rfl (OpT_assign rfl rfl rfl rfl) ?_))
     refine Tops_nil (tZ [2] [] [] rfl rfl rfl rfl ?_)
     obtain rfl := Option.some.inj h
     exact Tk_retV rfl rfl (resA (vs := [vI (2 : Int)]) rfl ⟨rfl, trivial⟩) [] [] rfl rfl rfl ⟨rfl, rfl, rfl⟩
    ·replace h := br_f hg4 h
     refine Tops_yes rfl rfl (congrArg (fun b => some (Value.bool b)) hg4) (OpT_fieldC rfl rfl rfl rfl fldF57x1) ?_
     rintro _ rfl
     refine Tops_yes rfl rfl (congrArg (fun b => some (Value.bool b)) hg4) (OpT_loadC rfl rfl rfl rfl tyF29 (i := 0) rfl rfl) ?_
     rintro _ rfl
     refine Tops_yes rfl rfl (congrArg (fun b => some (Value.bool b)) hg4) (OpT_bin rfl rfl rfl rfl rfl (bin_sub_u64 (a := r1.Len) (b := (1 : UInt64)))) ?_
     rintro _ rfl
     refine Tops_yes rfl rfl (congrArg (fun b => some (Value.bool b)) hg4) (OpT_fieldC rfl rfl rfl rfl fldF57x0) ?_
     rintro _ rfl
     refine Tops_yes rfl rfl (congrArg (fun b => some (Value.bool b)) hg4) (OpT_loadC rfl rfl rfl rfl tyF29 (i := 0) rfl rfl) ?_
     rintro _ rfl
     refine Tops_yes rfl rfl (congrArg (fun b => some (Value.bool b)) hg4) (OpT_bin rfl rfl rfl rfl rfl (bin_sub_u64 (a := (18446744073709551615 : UInt64)) (b := r1.At))) ?_
     rintro _ rfl
     refine Tops_yes rfl rfl (congrArg (fun b => some (Value.bool b)) hg4) (OpT_bin rfl rfl rfl rfl rfl (bin_gtr_u64 (a := r1.Len - (1 : UInt64)) (b := (18446744073709551615 : UInt64) - r1.At))) ?_
     rintro _ rfl
     refine Tops_step rfl (OpT_pickF rfl rfl rfl (congrArg (fun b => some (Value.bool b)) hg4) rfl) ?_
     refine Tops_nil (tZ [0, 3, 10, 11, 12, 5, 4, 34] [0] [0] rfl rfl rfl rfl ?_)
     rcases Bool.eq_false_or_eq_true (decide ((r1.Len - (1 : UInt64)) > ((18446744073709551615 : UInt64) - r1.At))) with hg5 | hg5
     ·replace h := br_t hg5 h
      refine Tk_condT (congrArg (fun b => some (Value.bool b)) hg5) ?_
      refine Tk_seq (Tk_region (Tops_step rfl (OpT_assign rfl rfl rfl rfl) ?_))
      refine Tops_nil (tZ [2] [] [] rfl rfl rfl rfl ?_)
      obtain rfl := Option.some.inj h
      exact Tk_retV rfl rfl (resA (vs := [vI (2 : Int)]) rfl ⟨rfl, trivial⟩) [] [] rfl rfl rfl ⟨rfl, rfl, rfl⟩
     ·replace h := br_f hg5 h
      refine Tk_condF (congrArg (fun b => some (Value.bool b)) hg5) ?_
      refine Tk_skip (Tk_seq (Tk_region (Tops_step rfl (OpT_move rfl rfl rfl rfl) ?_)))
      refine Tops_step rfl (OpT_fieldC rfl rfl rfl rfl fldF57x1) ?_
      refine Tops_step rfl (OpT_loadC rfl rfl rfl rfl tyF29 (i := 0) rfl rfl) ?_
      refine Tops_step rfl (OpT_bin rfl rfl rfl rfl rfl (bin_sub_u64 (a := room1) (b := r1.Len))) ?_
      refine Tops_step rfl (OpT_assign rfl rfl rfl rfl) ?_
      refine Tops_nil (tZ [0, 3, 10, 11, 12, 5, 4] [0] [0] rfl rfl rfl rfl ?_)
      refine Tk_seq (Tk_region (Tops_step rfl (OpT_move rfl rfl rfl rfl) ?_))
      refine Tops_step rfl (OpT_bin rfl rfl rfl rfl rfl (bin_gtr_i (a := x1) (b := (0 : Int)))) ?_
      refine Tops_nil (tZ [0, 3, 10, 11, 12, 5, 4, 40] [0] [0] rfl rfl rfl rfl ?_)
      rcases Bool.eq_false_or_eq_true (decide (x1 > (0 : Int))) with hg6 | hg6
      ·replace h := br_t hg6 h
       refine Tk_condT (congrArg (fun b => some (Value.bool b)) hg6) ?_
       refine Tk_seq (Tk_region (Tops_step rfl (OpT_move rfl rfl rfl rfl) ?_))
       refine Tops_step rfl (OpT_move rfl rfl rfl rfl) ?_
       refine Tops_step rfl (OpT_bin rfl rfl rfl rfl rfl (bin_sub_i (a := x1) (b := (1 : Int)))) ?_
       obtain ⟨r2, hx2, h⟩ := ob_e h
       refine Tops_ex rfl (OpT_idxS rfl rfl rfl rfl rfl slF45 (i := 0) rfl hx2) fun p2 => ?_
       refine Tops_step rfl (OpT_loadPA (vs := [vU64 r2.At, vU64 r2.Len]) rfl rfl rfl rfl tyF57 (i := 1) rfl rfl) ?_
       refine Tops_ex rfl (OpT_alloc rfl rfl rfl tyZ57) fun b2 => ?_
       refine Tops_step rfl (OpT_storeC (cs' := [vU64 r2.At, vU64 r2.Len]) rfl rfl rfl rfl tyF57 (i := 1) rfl rfl rfl (one_of rfl) rfl) ?_
       refine Tops_nil (tZ [0, 3, 10, 11, 12, 5, 6] [0, 1] [0] rfl rfl rfl rfl ?_)
       refine Tk_seq (Tk_region (Tops_step rfl (OpT_fieldC rfl rfl rfl rfl fldF57x0) ?_))
       refine Tops_step rfl (OpT_loadC rfl rfl rfl rfl tyF29 (i := 0) rfl rfl) ?_
       refine Tops_step rfl (OpT_fieldC rfl rfl rfl rfl fldF57x0) ?_
       refine Tops_step rfl (OpT_loadC rfl rfl rfl rfl tyF29 (i := 1) rfl rfl) ?_
       refine Tops_step rfl (OpT_bin rfl rfl rfl rfl rfl (bin_leq_u64 (a := r1.At) (b := r2.At))) ?_
       refine Tops_step rfl (OpT_move rfl rfl rfl rfl) ?_
       rcases Bool.eq_false_or_eq_true (decide (r1.At ≤ r2.At)) with hg7 | hg7
       ·replace h := br_t hg7 h
        refine Tops_no rfl rfl (congrArg (fun b => some (Value.bool b)) hg7) rfl rfl ?_
        refine Tops_no rfl rfl (congrArg (fun b => some (Value.bool b)) hg7) rfl rfl ?_
        refine Tops_no rfl rfl (congrArg (fun b => some (Value.bool b)) hg7) rfl rfl ?_
        refine Tops_no rfl rfl (congrArg (fun b => some (Value.bool b)) hg7) rfl rfl ?_
        refine Tops_no rfl rfl (congrArg (fun b => some (Value.bool b)) hg7) rfl rfl ?_
        refine Tops_no rfl rfl (congrArg (fun b => some (Value.bool b)) hg7) rfl rfl ?_
        refine Tops_no rfl rfl (congrArg (fun b => some (Value.bool b)) hg7) rfl rfl ?_
        refine Tops_no rfl rfl (congrArg (fun b => some (Value.bool b)) hg7) rfl rfl ?_
        refine Tops_step rfl (OpT_pickT rfl rfl rfl (congrArg (fun b => some (Value.bool b)) hg7) rfl) ?_
        refine Tops_nil (tZ [0, 3, 10, 11, 12, 60] [] [0] rfl rfl rfl rfl ?_)
        refine Tk_condT rfl ?_
        refine Tk_seq (Tk_region (Tops_step rfl (OpT_assign rfl rfl rfl rfl) ?_))
        refine Tops_nil (tZ [2] [] [] rfl rfl rfl rfl ?_)
        obtain rfl := Option.some.inj h
        exact Tk_retV rfl rfl (resA (vs := [vI (2 : Int)]) rfl ⟨rfl, trivial⟩) [] [] rfl rfl rfl ⟨rfl, rfl, rfl⟩
       ·replace h := br_f hg7 h
        refine Tops_yes rfl rfl (congrArg (fun b => some (Value.bool b)) hg7) (OpT_fieldC rfl rfl rfl rfl fldF57x0) ?_
        rintro _ rfl
        refine Tops_yes rfl rfl (congrArg (fun b => some (Value.bool b)) hg7) (OpT_loadC rfl rfl rfl rfl tyF29 (i := 0) rfl rfl) ?_
        rintro _ rfl
        refine Tops_yes rfl rfl (congrArg (fun b => some (Value.bool b)) hg7) (OpT_fieldC rfl rfl rfl rfl fldF57x0) ?_
        rintro _ rfl
        refine Tops_yes rfl rfl (congrArg (fun b => some (Value.bool b)) hg7) (OpT_loadC rfl rfl rfl rfl tyF29 (i := 1) rfl rfl) ?_
        rintro _ rfl
        refine Tops_yes rfl rfl (congrArg (fun b => some (Value.bool b)) hg7) (OpT_bin rfl rfl rfl rfl rfl (bin_sub_u64 (a := r1.At) (b := r2.At))) ?_
        rintro _ rfl
        refine Tops_yes rfl rfl (congrArg (fun b => some (Value.bool b)) hg7) (OpT_fieldC rfl rfl rfl rfl fldF57x1) ?_
        rintro _ rfl
        refine Tops_yes rfl rfl (congrArg (fun b => some (Value.bool b)) hg7) (OpT_loadC rfl rfl rfl rfl tyF29 (i := 1) rfl rfl) ?_
        rintro _ rfl
        refine Tops_yes rfl rfl (congrArg (fun b => some (Value.bool b)) hg7) (OpT_bin rfl rfl rfl rfl rfl (bin_lss_u64 (a := r1.At - r2.At) (b := r2.Len))) ?_
        rintro _ rfl
        refine Tops_step rfl (OpT_pickF rfl rfl rfl (congrArg (fun b => some (Value.bool b)) hg7) rfl) ?_
        refine Tops_nil (tZ [0, 3, 10, 11, 12, 60] [] [0] rfl rfl rfl rfl ?_)
        rcases Bool.eq_false_or_eq_true (decide ((r1.At - r2.At) < r2.Len)) with hg8 | hg8
        ·replace h := br_t hg8 h
         refine Tk_condT (congrArg (fun b => some (Value.bool b)) hg8) ?_
         refine Tk_seq (Tk_region (Tops_step rfl (OpT_assign rfl rfl rfl rfl) ?_))
         refine Tops_nil (tZ [2] [] [] rfl rfl rfl rfl ?_)
         obtain rfl := Option.some.inj h
         exact Tk_retV rfl rfl (resA (vs := [vI (2 : Int)]) rfl ⟨rfl, trivial⟩) [] [] rfl rfl rfl ⟨rfl, rfl, rfl⟩
        ·replace h := br_f hg8 h
         refine Tk_condF (congrArg (fun b => some (Value.bool b)) hg8) ?_
         refine Tk_skip (Tk_blk (Tk_region (Tops_step rfl (OpT_bin rfl rfl rfl rfl rfl (bin_add_i (a := x1) (b := (1 : Int)))) ?_)))
         refine Tops_step rfl (OpT_move rfl rfl rfl rfl) ?_
         refine Tops_nil (tZ [0, 3, 10, 11, 12] [] [0] rfl rfl rfl rfl ?_)
         exact Tk_backS (room1 - r1.Len, wi (x1 + (1 : Int))) h [0, 3, 10, 11, 12] [] [0] rfl rfl rfl rfl rfl
      ·replace h := br_f hg6 h
       refine Tk_condF (congrArg (fun b => some (Value.bool b)) hg6) ?_
       refine Tk_skip (Tk_blk (Tk_region (Tops_step rfl (OpT_bin rfl rfl rfl rfl rfl (bin_add_i (a := x1) (b := (1 : Int)))) ?_)))
       refine Tops_step rfl (OpT_move rfl rfl rfl rfl) ?_
       refine Tops_nil (tZ [0, 3, 10, 11, 12] [] [0] rfl rfl rfl rfl ?_)
       exact Tk_backS (room1 - r1.Len, wi (x1 + (1 : Int))) h [0, 3, 10, 11, 12] [] [0] rfl rfl rfl rfl rfl
  ·replace h := br_f hg2 h
   refine Tk_condF (congrArg (fun b => some (Value.bool b)) hg2) ?_
   refine Tk_exit _ rfl ?_
   refine Tk_seq (Tk_region (Tops_step rfl (OpT_assign rfl rfl rfl rfl) ?_))
   refine Tops_nil (tZ [2] [] [] rfl rfl rfl rfl ?_)
   obtain rfl := Option.some.inj h
   exact Tk_retV rfl rfl (resA (vs := [vI (0 : Int)]) rfl ⟨rfl, trivial⟩) [] [] rfl rfl rfl ⟨rfl, rfl, rfl⟩

set_option maxRecDepth 100000 in
set_option maxHeartbeats 4000000 in
theorem w_slices_Clone_apiRegionapiRegion {sp0 : List Region} {vsp01 : Value} {r : (List Region)} (h : slices_Clone_apiRegionapiRegion sp0 = some r) :
  Ctr Try.prog 44 #[vsp01] [] [Fact.sl RegionS vsp01 sp0]
   (fun rv own shr => ∃ (w1 : Value), rv = w1 ∧ own = [(rowS RegionS w1 r)] ∧ shr = []) := by
 unfold slices_Clone_apiRegionapiRegion at h
 refine Ctr.mk (args := [vsp01]) Try.func44 rfl rfl (fun R0 w0 B => ?_)
 refine Tk_seq (Tk_region (Tops_step rfl (OpT_assign rfl rfl rfl rfl) ?_))
 refine Tops_nil (tZ [0] [] [0] rfl rfl rfl rfl ?_)
 refine Tk_seq (Tk_seq (Tk_region (Tops_step rfl (OpT_move rfl rfl rfl rfl) ?_)))
 refine Tops_exP rfl (OpT_eqNil rfl rfl rfl (.inl rfl) rfl rfl Try.underlying45 (i := 0) rfl) ?_
 rintro _ ⟨q1, hq1, rfl⟩
 refine Tops_nil (tZ [0, 4] [] [0] rfl rfl rfl rfl ?_)
 rcases Bool.eq_false_or_eq_true q1 with hg1 | hg1
 ·obtain rfl := hq1 hg1
  replace h : some ([] : List Region) = some r := h
  refine Tk_condT (congrArg (fun b => some (Value.bool b)) hg1) ?_
  refine Tk_seq (Tk_region (Tops_step rfl (OpT_assign rfl rfl rfl rfl) ?_))
  refine Tops_nil (tZ [2] [] [] rfl rfl rfl rfl ?_)
  refine Tk_nilrow RegionS ?_
  obtain rfl := Option.some.inj h
  exact Tk_retV rfl rfl (resA (vs := [.slice none 0 0]) rfl ⟨rfl, trivial⟩) [0] [] rfl rfl rfl ⟨(.slice none 0 0), rfl, rfl, rfl⟩
 ·refine Tk_condF (congrArg (fun b => some (Value.bool b)) hg1) ?_
  refine Tk_skip (Tk_seq (Tk_region (Tops_ex rfl (OpT_buildSlice (S := RegionS) (xs := ([] : List Region)) (css := []) (cs := []) (e := 57) rfl rfl rfl rfl (bldF slF45 (by decide) (by kernel_rfl)) rfl rfl rfl rfl (rel_plainD (S := RegionS) (xs := ([] : List Region)) (css := []) rfl rfl)) fun v1 => ?_)))
  refine Tops_step rfl (OpT_move rfl rfl rfl rfl) ?_
  obtain ⟨hc1, h⟩ := chk_e h
  refine Tops_ex rfl (OpT_append rfl rfl rfl rfl rfl slF45 (i := 0) (j := 0) rfl rfl hc1) fun v2 => ?_
  refine Tops_step rfl (OpT_assign rfl rfl rfl rfl) ?_
  refine Tops_nil (tZ [2] [0] [] rfl rfl rfl rfl ?_)
  obtain rfl := Option.some.inj h
  exact Tk_retV rfl rfl (resA (vs := [v2]) rfl ⟨rfl, trivial⟩) [0] [] rfl rfl rfl ⟨v2, rfl, rfl, rfl⟩

theorem ws_slices_Clone_apiRegionapiRegion {sp0 : List Region} {vsp01 : Value} {r : (List Region)} (h : slices_Clone_apiRegionapiRegion sp0 = some r) :
  Ctr Try.prog 44 #[vsp01] [] [Fact.sl RegionS vsp01 sp0]
   (fun rv own shr => ∃ (w1 : Value), rv = w1 ∧ own = [] ∧ shr = [Fact.sl RegionS w1 r]) :=
 Ctr.sh (w_slices_Clone_apiRegionapiRegion h) (by rintro w1 _ _ ⟨_, rfl, rfl, rfl⟩; exact ⟨[], _, _, _, _, rfl, w1, rfl, rfl, rfl⟩)

set_option maxRecDepth 100000 in
set_option maxHeartbeats 4000000 in
theorem w_gmem_New {l : List Region} {vl1 : Value} {r : ((Option gmem_Mem) × Int)} (h : gmem_New l = some r) :
  Ctr Try.prog 15 #[vl1] [] [Fact.sl RegionS vl1 l]
   (fun rv own shr => ∃ (w1 : Value), rv = .tuple #[w1, vI r.2] ∧ own = [(optR 83 RegionS u8S true gmem_Mem.l gmem_Mem.b w1 r.1)] ∧ shr = []) := by
 unfold gmem_New at h
 refine Ctr.mk (args := [vl1]) Try.func15 rfl rfl (fun R0 w0 B => ?_)
 refine Tk_seq (Tk_region (Tops_step rfl (OpT_assign rfl rfl rfl rfl) ?_))
 refine Tops_step rfl (OpT_assign rfl rfl rfl rfl) ?_
 refine Tops_nil (tZ [0] [] [0] rfl rfl rfl rfl ?_)
 refine Tk_seq (Tk_seq (Tk_region (Tops_step rfl (OpT_move rfl rfl rfl rfl) ?_)))
 obtain ⟨check1, hx1, h⟩ := ob_e h
 refine Tops_exP rfl (OpT_call (w_gmem_Check hx1) [] [0] rfl rfl rfl rfl rfl callee43 rfl rfl rfl rfl) ?_
 rintro _ ⟨_, _, _, ⟨rfl, rfl, rfl⟩, rfl⟩
 refine Tops_step rfl (OpT_assign rfl rfl rfl rfl) ?_
 refine Tops_nil (tZ [0, 4] [] [0] rfl rfl rfl rfl ?_)
 refine Tk_seq (Tk_region (Tops_step rfl (OpT_move rfl rfl rfl rfl) ?_))
 refine Tops_step rfl (OpT_bin rfl rfl rfl rfl rfl (bin_neq_i (a := check1) (b := (0 : Int)))) ?_
 refine Tops_nil (tZ [0, 4, 11] [] [0] rfl rfl rfl rfl ?_)
 rcases Bool.eq_false_or_eq_true (check1 != (0 : Int)) with hg1 | hg1
 ·replace h := br_t hg1 h
  refine Tk_condT (congrArg (fun b => some (Value.bool b)) hg1) ?_
  refine Tk_seq (Tk_region (Tops_step rfl (OpT_move rfl rfl rfl rfl) ?_))
  refine Tops_step rfl (OpT_assign rfl rfl rfl rfl) ?_
  refine Tops_step rfl (OpT_assign rfl rfl rfl rfl) ?_
  refine Tops_nil (tZ [2, 3] [] [] rfl rfl rfl rfl ?_)
  refine Tk_nilopt 83 RegionS u8S true gmem_Mem.l gmem_Mem.b ?_
  obtain rfl := Option.some.inj h
  exact Tk_retV rfl rfl (resA (vs := [.pointer none, vI check1]) rfl ⟨rfl, rfl, trivial⟩) [0] [] rfl rfl rfl ⟨(.pointer none), rfl, rfl, rfl⟩
 ·replace h := br_f hg1 h
  refine Tk_condF (congrArg (fun b => some (Value.bool b)) hg1) ?_
  refine Tk_skip (Tk_seq (Tk_drawT (by kernel_rfl) ?_))
  refine TA_tb [0, 1, 0, 4, 0, 16, 48, 124, 255, 511, 1023] (by kernel_rfl) fun htb => ?_
  refine aZ [0] [] [0] rfl rfl rfl rfl ?_
  obtain ⟨region1, hx2, h⟩ := ob_e h
  obtain ⟨hc1, h⟩ := chk_e h
  refine TA_seg (lo := 0) (hi := 8) htb rfl rfl (by kernel_rfl) (fun c L a w => ∃ (v1 : Value), ∃ (v2 : Value), ∃ (vs1 : List Value), Sat c ⟨[(0, some (vl1)), (13, bif L 0 then some (vl1) else none), (14, bif L 1 then some (v1) else none), (15, bif L 2 then some (vl1) else none), (16, bif L 3 then some (vI (len l)) else none), (17, bif L 4 then some (vl1) else none), (18, bif L 5 then some (vI (len l)) else none), (19, bif L 6 then some (vI (wi ((len l) + (1 : Int)))) else none), (20, bif L 7 then some (v2) else none)], [(bif L 7 then some (rowsX u8S true v2 vs1 (List.replicate (Int.toNat (len l)) [] : List (List UInt8)) none) else none : Option Res)], [Fact.sl RegionS vl1 l, (bif L 1 then Fact.sl RegionS v1 region1 else Fact.tt)]⟩ a w) [([], [1]), ([0], []), ([], [3, 7]), ([2], [7]), ([], [5, 6, 7]), ([4], [6, 7]), ([4, 5], [7]), ([2, 3, 4, 5, 6], [])] rfl (by kernel_rfl) ?_ (steps_cons ?_ (steps_cons ?_ (steps_cons ?_ (steps_cons ?_ (steps_cons ?_ (steps_cons ?_ (steps_cons ?_ (steps_cons ?_ (steps_nil))))))))) ?_
  ·intro a w hs
   exact ⟨undef, undef, [], hs.startF [13, 14, 15, 16, 17, 18, 19, 20] [0] [0, 1] rfl rfl rfl rfl⟩
  ·intro L a w hv K Q hK
   obtain ⟨v1, v2, vs1, hs⟩ := hv
   refine wpOp_go rfl rfl hs (OpT_move rfl rfl rfl rfl) ?_
   rintro _ rfl a' w' hs'
   exact hK a' w' ⟨v1, v2, vs1, hs'.putF (i := 1) rfl [0] [0, 1] rfl rfl rfl rfl⟩
  ·intro L a w hv K Q hK
   obtain ⟨v1, v2, vs1, hs⟩ := hv
   refine wpOp_go rfl rfl hs (OpT_call (ws_slices_Clone_apiRegionapiRegion hx2) [] [0] rfl rfl rfl rfl rfl callee44 rfl rfl rfl rfl) ?_
   rintro _ ⟨v1', _, _, ⟨_, rfl, rfl, rfl⟩, rfl⟩ a' w' hs'
   exact hK a' w' ⟨v1', v2, vs1, hs'.putF (i := 2) rfl [0] [0, 2] rfl rfl rfl rfl⟩
  ·intro L a w hv K Q hK
   obtain ⟨v1, v2, vs1, hs⟩ := hv
   refine wpOp_go rfl rfl hs (OpT_move rfl rfl rfl rfl) ?_
   rintro _ rfl a' w' hs'
   exact hK a' w' ⟨v1, v2, vs1, hs'.putF (i := 3) rfl [0] [0, 1] rfl rfl rfl rfl⟩
  ·intro L a w hv K Q hK
   obtain ⟨v1, v2, vs1, hs⟩ := hv
   refine wpOp_go rfl rfl hs (OpT_lenS rfl rfl rfl rfl Try.underlying45 (i := 0) rfl) ?_
   rintro _ rfl a' w' hs'
   exact hK a' w' ⟨v1, v2, vs1, hs'.putF (i := 4) rfl [0] [0, 1] rfl rfl rfl rfl⟩
  ·intro L a w hv K Q hK
   obtain ⟨v1, v2, vs1, hs⟩ := hv
   refine wpOp_go rfl rfl hs (OpT_move rfl rfl rfl rfl) ?_
   rintro _ rfl a' w' hs'
   exact hK a' w' ⟨v1, v2, vs1, hs'.putF (i := 5) rfl [0] [0, 1] rfl rfl rfl rfl⟩
  ·intro L a w hv K Q hK
   obtain ⟨v1, v2, vs1, hs⟩ := hv
   refine wpOp_go rfl rfl hs (OpT_lenS rfl rfl rfl rfl Try.underlying45 (i := 0) rfl) ?_
   rintro _ rfl a' w' hs'
   exact hK a' w' ⟨v1, v2, vs1, hs'.putF (i := 6) rfl [0] [0, 1] rfl rfl rfl rfl⟩
  ·intro L a w hv K Q hK
   obtain ⟨v1, v2, vs1, hs⟩ := hv
   refine wpOp_go rfl rfl hs (OpT_bin rfl rfl rfl rfl rfl (bin_add_i (a := len l) (b := (1 : Int)))) ?_
   rintro _ rfl a' w' hs'
   exact hK a' w' ⟨v1, v2, vs1, hs'.putF (i := 7) rfl [0] [0, 1] rfl rfl rfl rfl⟩
  ·intro L a w hv K Q hK
   obtain ⟨v1, v2, vs1, hs⟩ := hv
   refine wpOp_go rfl rfl hs (OpT_makeRows u8S rfl rfl rfl rfl rfl slF81 hc1) ?_
   rintro _ ⟨v2', vs1', rfl⟩ a' w' hs'
   exact hK a' w' ⟨v1, v2', vs1', hs'.putF (i := 8) rfl [1] [0, 1] rfl rfl rfl rfl⟩
  ·intro L a w hL hv
   rw [allTrue hL] at hv
   obtain ⟨v1, v2, vs1, hs⟩ := hv
   refine gZ hs [0, 14, 20] [0] [0, 1] rfl rfl rfl rfl ?_
   clear hs hL
   refine TA_step htb (by kernel_rfl) rfl rfl (OpT_build2 (fun z0 z1 => [(0, z0), (1, z1)]) (fun z0 z1 => [z0, z1]) rfl rfl rfl rfl (is_sl (i := 1) rfl) (is_rows (i := 0) rfl) (by intros; kernel_rfl)) ?_
   refine TA_ex htb (by kernel_rfl) rfl rfl (OpT_box rfl rfl rfl rfl) fun b1 => ?_
   refine TA_step htb (by kernel_rfl) rfl rfl (OpT_assign rfl rfl rfl rfl) ?_
   refine TA_end rfl ?_
   refine tZ [0, 5] [0, 1] [0, 1] rfl rfl rfl rfl ?_
   refine Tk_seq (Tk_seq (Tk_region (Tops_step rfl (OpT_move rfl rfl rfl rfl) ?_)))
   refine Tops_step rfl (OpT_lenS rfl rfl rfl rfl Try.underlying45 (i := 0) rfl) ?_
   refine Tops_step rfl (OpT_move rfl rfl rfl rfl) ?_
   refine Tops_nil (tZ [5, 23, 24, 25] [0, 1] [0, 1] rfl rfl rfl rfl ?_)
   refine Tk_block (Tk_loopS (σ := (List (List UInt8)) × Int × Value × (List Value)) [5, 23, 24, 25] [1, 0] [1, 0] (fun s => ⟨[(5, some (.pointer (some ⟨b1, 0, none⟩))), (23, some (vl1)), (24, some (vI (len l))), (25, some (vI s.2.1))], [some (cellsR b1 83 [v1, s.2.2.1]), some (rowsX u8S true s.2.2.1 s.2.2.2 s.1 none)], [Fact.sl RegionS v1 region1, Fact.sl RegionS vl1 l]⟩) (fun nf1 s => gmem_NewL1 l region1 nf1 s.1 s.2.1 = some r) fuel ((List.replicate (Int.toNat (len l)) [] : List (List UInt8)), (0 : Int), v2, vs1) h rfl rfl rfl rfl rfl (fun s h => by cases h) ?_)
   rintro nf1 ⟨rows1, x1, v3, vs2⟩ h
   replace h : gmem_NewL1B l region1 (gmem_NewL1 l region1 nf1) rows1 x1 = some r := h
   unfold gmem_NewL1B at h
   refine Tk_seq (Tk_region (Tops_step rfl (OpT_bin rfl rfl rfl rfl rfl (bin_lss_i (a := x1) (b := len l))) ?_))
   refine Tops_nil (Tk_seq ?_)
   rcases Bool.eq_false_or_eq_true (decide (x1 < (len l))) with hg2 | hg2
   ·replace h := br_t hg2 h
    refine Tk_condT (congrArg (fun b => some (Value.bool b)) hg2) ?_
    refine Tk_skip (Tk_seq (Tk_block (Tk_seq (Tk_region (Tops_step rfl (OpT_move rfl rfl rfl rfl) ?_)))))
    obtain ⟨r1, hx3, h⟩ := ob_e h
    refine Tops_ex rfl (OpT_idxS rfl rfl rfl rfl rfl slF45 (i := 1) rfl hx3) fun p1 => ?_
    refine Tops_step rfl (OpT_loadPA (vs := [vU64 r1.At, vU64 r1.Len]) rfl rfl rfl rfl tyF57 (i := 2) rfl rfl) ?_
    refine Tops_ex rfl (OpT_alloc rfl rfl rfl tyZ57) fun b2 => ?_
    refine Tops_step rfl (OpT_assign rfl rfl rfl rfl) ?_
    refine Tops_step rfl (OpT_storeC (cs' := [vU64 r1.At, vU64 r1.Len]) rfl rfl rfl rfl tyF57 (i := 2) rfl rfl rfl (one_of rfl) rfl) ?_
    refine Tops_nil (tZ [5, 23, 24, 25, 7, 6] [0, 1, 2] [0, 1] rfl rfl rfl rfl ?_)
    refine Tk_drawT (by kernel_rfl) ?_
    refine TA_tb [0, 1, 3, 7, 0, 0, 32, 96, 255, 511] (by kernel_rfl) fun htb => ?_
    obtain ⟨hc2, h⟩ := chk_e h
    refine TA_seg (lo := 0) (hi := 8) htb rfl rfl (by kernel_rfl) (fun c L a w => ∃ (v4 : Value), Sat c ⟨[(5, some (.pointer (some ⟨b1, 0, none⟩))), (23, some (vl1)), (24, some (vI (len l))), (25, some (vI x1)), (7, some (.pointer (some ⟨b2, 0, none⟩))), (6, some (vI x1)), (30, bif L 0 then some (.pointer (some ⟨b1, 0, none⟩)) else none), (31, bif L 1 then some (.pointer (some ⟨b1, 0, none⟩)) else none), (32, bif L 2 then some (.pointer (some ⟨b1, 1, none⟩)) else none), (33, bif L 3 then some (v3) else none), (34, bif L 4 then some (vI x1) else none), (35, bif L 5 then some (.pointer (some ⟨b2, 1, none⟩)) else none), (36, bif L 6 then some (vU64 r1.Len) else none), (37, bif L 7 then some (v4) else none)], [(some (cellsR b1 83 [v1, v3]) : Option Res), (some (rowsX u8S true v3 vs2 rows1 none) : Option Res), (some (cellsR b2 57 [vU64 r1.At, vU64 r1.Len]) : Option Res), (bif L 7 then some (rowS u8S v4 (List.replicate (Int.toNat (r1.Len.toNat : Int)) (0 : UInt8))) else none : Option Res)], [Fact.sl RegionS v1 region1, Fact.sl RegionS vl1 l]⟩ a w) [([], [1, 2, 3]), ([0], [2, 3]), ([0, 1], [3]), ([0, 1, 2], []), ([], []), ([], [6, 7]), ([5], [7]), ([5, 6], [])] rfl (by kernel_rfl) ?_ (steps_cons ?_ (steps_cons ?_ (steps_cons ?_ (steps_cons ?_ (steps_cons ?_ (steps_cons ?_ (steps_cons ?_ (steps_cons ?_ (steps_nil))))))))) ?_
    ·intro a w hs
     exact ⟨undef, hs.startF [30, 31, 32, 33, 34, 35, 36, 37] [0, 1, 2, 3] [0, 1] rfl rfl rfl rfl⟩
    ·intro L a w hv K Q hK
     obtain ⟨v4, hs⟩ := hv
     refine wpOp_go rfl rfl hs (OpT_move rfl rfl rfl rfl) ?_
     rintro _ rfl a' w' hs'
     exact hK a' w' ⟨v4, hs'.putF (i := 6) rfl [0, 1, 2, 3] [0, 1] rfl rfl rfl rfl⟩
    ·intro L a w hv K Q hK
     obtain ⟨v4, hs⟩ := hv
     refine wpOp_go rfl rfl hs (OpT_nilCheckP rfl rfl rfl rfl) ?_
     rintro _ rfl a' w' hs'
     exact hK a' w' ⟨v4, hs'.putF (i := 7) rfl [0, 1, 2, 3] [0, 1] rfl rfl rfl rfl⟩
    ·intro L a w hv K Q hK
     obtain ⟨v4, hs⟩ := hv
     refine wpOp_go rfl rfl hs (OpT_fieldC rfl rfl rfl rfl fldF83x1) ?_
     rintro _ rfl a' w' hs'
     exact hK a' w' ⟨v4, hs'.putF (i := 8) rfl [0, 1, 2, 3] [0, 1] rfl rfl rfl rfl⟩
    ·intro L a w hv K Q hK
     obtain ⟨v4, hs⟩ := hv
     refine wpOp_go rfl rfl hs (OpT_loadC rfl rfl rfl rfl tyF81 (i := 0) rfl rfl) ?_
     rintro _ rfl a' w' hs'
     exact hK a' w' ⟨v4, hs'.putF (i := 9) rfl [0, 1, 2, 3] [0, 1] rfl rfl rfl rfl⟩
    ·intro L a w hv K Q hK
     obtain ⟨v4, hs⟩ := hv
     refine wpOp_go rfl rfl hs (OpT_move rfl rfl rfl rfl) ?_
     rintro _ rfl a' w' hs'
     exact hK a' w' ⟨v4, hs'.putF (i := 10) rfl [0, 1, 2, 3] [0, 1] rfl rfl rfl rfl⟩
    ·intro L a w hv K Q hK
     obtain ⟨v4, hs⟩ := hv
     refine wpOp_go rfl rfl hs (OpT_fieldC rfl rfl rfl rfl fldF57x1) ?_
     rintro _ rfl a' w' hs'
     exact hK a' w' ⟨v4, hs'.putF (i := 11) rfl [0, 1, 2, 3] [0, 1] rfl rfl rfl rfl⟩
    ·intro L a w hv K Q hK
     obtain ⟨v4, hs⟩ := hv
     refine wpOp_go rfl rfl hs (OpT_loadC rfl rfl rfl rfl tyF29 (i := 2) rfl rfl) ?_
     rintro _ rfl a' w' hs'
     exact hK a' w' ⟨v4, hs'.putF (i := 12) rfl [0, 1, 2, 3] [0, 1] rfl rfl rfl rfl⟩
    ·intro L a w hv K Q hK
     obtain ⟨v4, hs⟩ := hv
     refine wpOp_go rfl rfl hs (OpT_makeK u8S rfl (u := (0 : UInt8)) rfl rfl rfl rfl rfl slF35 rfl hc2) ?_
     rintro _ ⟨v4', rfl⟩ a' w' hs'
     exact hK a' w' ⟨v4', hs'.putF (i := 13) rfl [0, 1, 2, 4] [0, 1] rfl rfl rfl rfl⟩
    ·intro L a w hL hv
     rw [allTrue hL] at hv
     obtain ⟨v4, hs⟩ := hv
     refine gZ hs [5, 23, 24, 25, 33, 34, 37] [0, 1, 3] [0, 1] rfl rfl rfl rfl ?_
     clear hs hL
     obtain ⟨row1, hx4, h⟩ := ob_e h
     refine TA_step htb (by kernel_rfl) rfl rfl (OpT_idxRows rfl rfl rfl rfl rfl slF81 (i := 1) rfl hx4) ?_
     refine TA_ex htb (by kernel_rfl) rfl rfl (OpT_storeRow (m := x1) rfl rfl rfl rfl tyF35 (i := 1) (q := 2) rfl rfl rfl hx4) fun vs3 => ?_
     refine TA_end rfl ?_
     refine tZ [5, 23, 24, 25] [0, 1] [0, 1] rfl rfl rfl rfl ?_
     refine Tk_blk (Tk_region (Tops_step rfl (OpT_bin rfl rfl rfl rfl rfl (bin_add_i (a := x1) (b := (1 : Int)))) ?_))
     refine Tops_step rfl (OpT_move rfl rfl rfl rfl) ?_
     refine Tops_nil (tZ [5, 23, 24, 25] [0, 1] [0, 1] rfl rfl rfl rfl ?_)
     exact Tk_backS (rows1.set (Int.toNat x1) (List.replicate (Int.toNat (r1.Len.toNat : Int)) (0 : UInt8)), wi (x1 + (1 : Int)), v3, vs3) h [5, 23, 24, 25] [0, 1] [0, 1] rfl rfl rfl rfl rfl
   ·replace h := br_f hg2 h
    refine Tk_condF (congrArg (fun b => some (Value.bool b)) hg2) ?_
    refine Tk_exit _ rfl ?_
    refine Tk_seq (Tk_region (Tops_step rfl (OpT_move rfl rfl rfl rfl) ?_))
    refine Tops_step rfl (OpT_assign rfl rfl rfl rfl) ?_
    refine Tops_step rfl (OpT_assign rfl rfl rfl rfl) ?_
    refine Tops_nil (tZ [2, 3] [0, 1] [0] rfl rfl rfl rfl ?_)
    refine Tk_vs (vs_fold (fl := gmem_Mem.l) (fb := gmem_Mem.b) (gmem_Mem.mk region1 rows1) (i := 0) (j := 1) rfl rfl rfl (q := 0) rfl rfl rfl) ?_
    obtain rfl := Option.some.inj h
    exact Tk_retV rfl rfl (resA (vs := [.pointer (some ⟨b1, 0, none⟩), vI (0 : Int)]) rfl ⟨rfl, rfl, trivial⟩) [0] [] rfl rfl rfl ⟨(.pointer (some ⟨b1, 0, none⟩)), rfl, rfl, rfl⟩

set_option maxRecDepth 100000 in
set_option maxHeartbeats 4000000 in
theorem wb_seg_Check_1 {arg0 : Int} {arg1 : UInt64} {b_arg0 : Nat} {b_arg1 : Nat} {r : Int} (h : seg_Check_1 arg0 arg1 = some r) :
  BodyOk Try.prog 70 [.pointer (some ⟨b_arg0, 0, none⟩), .pointer (some ⟨b_arg1, 0, none⟩)] [(cellsR b_arg0 27 [vI arg0]), (cellsR b_arg1 29 [vU64 arg1])] []
   (fun rv own shr => rv = .tuple #[] ∧ own = [(cellsR b_arg0 27 [vI r]), (cellsR b_arg1 29 [vU64 arg1])] ∧ shr = []) := by
 unfold seg_Check_1 at h
 refine BodyOk.mk Try.func70 rfl rfl (fun R0 w0 B => ?_)
 refine Tk_seq (Tk_region (Tops_step rfl (OpT_loadC rfl rfl rfl rfl tyF27 (i := 0) rfl rfl) ?_))
 refine Tops_step rfl (OpT_bin rfl rfl rfl rfl rfl (bin_eql_i (a := arg0) (b := (0 : Int)))) ?_
 refine Tops_step rfl (OpT_move rfl rfl rfl rfl) ?_
 rcases Bool.eq_false_or_eq_true (arg0 == (0 : Int)) with hg1 | hg1
 ·replace h := br_t hg1 h
  refine Tops_yes rfl rfl (congrArg (fun b => some (Value.bool b)) hg1) (OpT_loadC rfl rfl rfl rfl tyF29 (i := 1) rfl rfl) ?_
  rintro _ rfl
  refine Tops_yes rfl rfl (congrArg (fun b => some (Value.bool b)) hg1) (OpT_bin rfl rfl rfl rfl rfl (bin_geq_u64 (a := arg1) (b := (4294967296 : UInt64)))) ?_
  rintro _ rfl
  refine Tops_step rfl (OpT_pickT rfl rfl rfl (congrArg (fun b => some (Value.bool b)) hg1) rfl) ?_
  refine Tops_nil (tZ [0, 7] [0, 1] [] rfl rfl rfl rfl ?_)
  rcases Bool.eq_false_or_eq_true (decide (arg1 ≥ (4294967296 : UInt64))) with hg2 | hg2
  ·replace h := br_t hg2 h
   refine Tk_condT (congrArg (fun b => some (Value.bool b)) hg2) ?_
   refine Tk_region (Tops_step rfl (OpT_storeC (cs' := [vI (2 : Int)]) rfl rfl rfl rfl tyF27 (i := 0) rfl rfl rfl (one_of rfl) rfl) ?_)
   refine Tops_nil ?_
   obtain rfl := Option.some.inj h
   exact Tk_endV rfl rfl (resA (vs := []) rfl trivial) [0, 1] [] rfl rfl rfl ⟨rfl, rfl, rfl⟩
  ·replace h := br_f hg2 h
   refine Tk_condF (congrArg (fun b => some (Value.bool b)) hg2) ?_
   refine Tk_skip ?_
   obtain rfl := Option.some.inj h
   exact Tk_endV rfl rfl (resA (vs := []) rfl trivial) [0, 1] [] rfl rfl rfl ⟨rfl, rfl, rfl⟩
 ·replace h := br_f hg1 h
  refine Tops_no rfl rfl (congrArg (fun b => some (Value.bool b)) hg1) rfl rfl ?_
  refine Tops_no rfl rfl (congrArg (fun b => some (Value.bool b)) hg1) rfl rfl ?_
  refine Tops_step rfl (OpT_pickF rfl rfl rfl (congrArg (fun b => some (Value.bool b)) hg1) rfl) ?_
  refine Tops_nil (tZ [0, 7] [0, 1] [] rfl rfl rfl rfl ?_)
  refine Tk_condF rfl ?_
  refine Tk_skip ?_
  obtain rfl := Option.some.inj h
  exact Tk_endV rfl rfl (resA (vs := []) rfl trivial) [0, 1] [] rfl rfl rfl ⟨rfl, rfl, rfl⟩

set_option maxRecDepth 100000 in
set_option maxHeartbeats 4000000 in
theorem w_seg_Check {l : List Seg} {vl1 : Value} {r : Int} (h : seg_Check l = some r) :
  Ctr Try.prog 39 #[vl1] [] [Fact.sl SegS vl1 l]
   (fun rv own shr => rv = vI r ∧ own = [] ∧ shr = []) := by
 unfold seg_Check at h
 refine Ctr.mkD (args := [vl1]) Try.func39 rfl rfl (fun R0 w0 B => ?_)
 refine Tk_seq (Tk_region (Tops_ex rfl (OpT_alloc rfl rfl rfl tyZ27) fun b1 => ?_))
 refine Tops_nil (Tk_seq (Tk_seq (Tk_region (Tops_step rfl (OpT_move rfl rfl rfl rfl) ?_))))
 refine Tops_step rfl (OpT_lenS rfl rfl rfl rfl Try.underlying22 (i := 0) rfl) ?_
 refine Tops_step rfl (OpT_bin rfl rfl rfl rfl rfl (bin_gtr_i (a := len l) (b := (64 : Int)))) ?_
 refine Tops_nil (tZ [0, 2, 8] [0] [0] rfl rfl rfl rfl ?_)
 rcases Bool.eq_false_or_eq_true (decide ((len l) > (64 : Int))) with hg1 | hg1
 ·replace h := br_t hg1 h
  refine Tk_condT (congrArg (fun b => some (Value.bool b)) hg1) ?_
  refine Tk_seq (Tk_region (Tops_step rfl (OpT_storeC (cs' := [vI (3 : Int)]) rfl rfl rfl rfl tyF27 (i := 0) rfl rfl rfl (one_of rfl) rfl) ?_))
  refine Tops_nil (tZ [2] [0] [] rfl rfl rfl rfl ?_)
  obtain rfl := Option.some.inj h
  refine Tk_retE rfl rfl ?_
  exact Tleave_mk (resA (vs := [vI (3 : Int)]) rfl ⟨⟨_, 0, _, _, _, rfl, rfl, .inr ⟨tyF27, rfl⟩⟩, trivial⟩) [] [] rfl rfl rfl ⟨rfl, rfl, rfl⟩
 ·replace h := br_f hg1 h
  refine Tk_condF (congrArg (fun b => some (Value.bool b)) hg1) ?_
  refine Tk_skip (Tk_seq (Tk_region (Tops_ex rfl (OpT_alloc rfl rfl rfl tyZ29) fun b2 => ?_)))
  refine Tops_step rfl (OpT_storeC (cs' := [vU64 (0 : UInt64)]) rfl rfl rfl rfl tyF29 (i := 1) rfl rfl rfl (one_of rfl) rfl) ?_
  refine Tops_nil (tZ [0, 2, 3] [0, 1] [0] rfl rfl rfl rfl ?_)
  refine Tk_seq (Tk_region (Tops_step rfl (OpT_makeFunc (vs := [.pointer (some ⟨b1, 0, none⟩), .pointer (some ⟨b2, 0, none⟩)]) rfl rfl rfl rfl) ?_))
  refine Tops_defer (f := 70) (cp := [.pointer (some ⟨b1, 0, none⟩), .pointer (some ⟨b2, 0, none⟩)]) rfl rfl rfl rfl ?_
  refine Tops_nil (tZ [0, 2, 3] [0, 1] [0] rfl rfl rfl rfl ?_)
  refine Tk_seq (Tk_seq (Tk_region (Tops_step rfl (OpT_move rfl rfl rfl rfl) ?_)))
  refine Tops_step rfl (OpT_lenS rfl rfl rfl rfl Try.underlying22 (i := 0) rfl) ?_
  refine Tops_step rfl (OpT_move rfl rfl rfl rfl) ?_
  refine Tops_nil (Tk_block (Tk_loopS (σ := Int × UInt64 × Int) [0, 2, 3, 10, 11, 12] [0, 1] [0] (fun s => ⟨[(0, some (vl1)), (2, some (.pointer (some ⟨b1, 0, none⟩))), (3, some (.pointer (some ⟨b2, 0, none⟩))), (10, some (vl1)), (11, some (vI (len l))), (12, some (vI s.2.2))], [some (cellsR b1 27 [vI s.1]), some (cellsR b2 29 [vU64 s.2.1])], [Fact.sl SegS vl1 l]⟩) (fun nf1 s => seg_CheckL1 l nf1 s.1 s.2.1 s.2.2 = some r) fuel ((0 : Int), (0 : UInt64), (0 : Int)) h rfl rfl rfl rfl rfl (fun s h => by cases h) ?_))
  rintro nf1 ⟨m1, m2, x1⟩ h
  replace h : seg_CheckL1B l (seg_CheckL1 l nf1) m1 m2 x1 = some r := h
  unfold seg_CheckL1B at h
  refine Tk_seq (Tk_region (Tops_step rfl (OpT_bin rfl rfl rfl rfl rfl (bin_lss_i (a := x1) (b := len l))) ?_))
  refine Tops_nil (Tk_seq ?_)
  rcases Bool.eq_false_or_eq_true (decide (x1 < (len l))) with hg2 | hg2
  ·replace h := br_t hg2 h
   refine Tk_condT (congrArg (fun b => some (Value.bool b)) hg2) ?_
   refine Tk_skip (Tk_seq (Tk_block (Tk_seq (Tk_region (Tops_step rfl (OpT_move rfl rfl rfl rfl) ?_)))))
   obtain ⟨s1, hx1, h⟩ := ob_e h
   refine Tops_ex rfl (OpT_idxS rfl rfl rfl rfl rfl slF22 (i := 0) rfl hx1) fun p1 => ?_
   refine Tops_step rfl (OpT_loadPA (vs := [vU64 s1.At, vU32 s1.Len, vB s1.Write]) rfl rfl rfl rfl tyF32 (i := 1) rfl rfl) ?_
   refine Tops_ex rfl (OpT_alloc rfl rfl rfl tyZ32) fun b3 => ?_
   refine Tops_step rfl (OpT_assign rfl rfl rfl rfl) ?_
   refine Tops_step rfl (OpT_storeC (cs' := [vU64 s1.At, vU32 s1.Len, vB s1.Write]) rfl rfl rfl rfl tyF32 (i := 2) rfl rfl rfl (one_of rfl) rfl) ?_
   refine Tops_nil (tZ [0, 2, 3, 10, 11, 12, 5, 4] [0, 1, 2] [0] rfl rfl rfl rfl ?_)
   refine Tk_seq (Tk_seq (Tk_region (Tops_step rfl (OpT_fieldC rfl rfl rfl rfl fldF32x1) ?_)))
   refine Tops_step rfl (OpT_loadC rfl rfl rfl rfl tyF30 (i := 2) rfl rfl) ?_
   refine Tops_step rfl (OpT_bin rfl rfl rfl rfl rfl (bin_lss_u32 (a := s1.Len) (b := (1 : UInt32)))) ?_
   refine Tops_step rfl (OpT_move rfl rfl rfl rfl) ?_
   rcases Bool.eq_false_or_eq_true (decide (s1.Len < (1 : UInt32))) with hg3 | hg3
   ·replace h := br_t hg3 h
    refine Tops_no rfl rfl (congrArg (fun b => some (Value.bool b)) hg3) rfl rfl ?_
    refine Tops_no rfl rfl (congrArg (fun b => some (Value.bool b)) hg3) rfl rfl ?_
    refine Tops_no rfl rfl (congrArg (fun b => some (Value.bool b)) hg3) rfl rfl ?_
    refine Tops_no rfl rfl (congrArg (fun b => some (Value.bool b)) hg3) rfl rfl ?_
    refine Tops_no rfl rfl (congrArg (fun b => some (Value.bool b)) hg3) rfl rfl ?_
    refine Tops_no rfl rfl (congrArg (fun b => some (Value.bool b)) hg3) rfl rfl ?_
    refine Tops_no rfl rfl (congrArg (fun b => some (Value.bool b)) hg3) rfl rfl ?_
    refine Tops_no rfl rfl (congrArg (fun b => some (Value.bool b)) hg3) rfl rfl ?_
    refine Tops_step rfl (OpT_pickT rfl rfl rfl (congrArg (fun b => some (Value.bool b)) hg3) rfl) ?_
    refine Tops_step rfl (OpT_move rfl rfl rfl rfl) ?_
    refine Tops_no rfl rfl rfl rfl rfl ?_
    refine Tops_no rfl rfl rfl rfl rfl ?_
    refine Tops_no rfl rfl rfl rfl rfl ?_
    refine Tops_noU rfl rfl rfl rfl rfl ?_
    refine Tops_noU rfl rfl rfl rfl rfl ?_
    refine Tops_noU rfl rfl rfl rfl rfl ?_
    refine Tops_noU rfl rfl rfl rfl rfl ?_
    refine Tops_noU rfl rfl rfl rfl rfl ?_
    refine Tops_noU rfl rfl rfl rfl rfl ?_
    refine Tops_no rfl rfl rfl rfl rfl ?_
    refine Tops_no rfl rfl rfl rfl rfl ?_
    refine Tops_noU rfl rfl rfl rfl rfl ?_
    refine Tops_noU rfl rfl rfl rfl rfl ?_
    refine Tops_noU rfl rfl rfl rfl rfl ?_
    refine Tops_no rfl rfl rfl rfl rfl ?_
    refine Tops_step rfl (OpT_pickT rfl rfl rfl rfl rfl) ?_
    refine Tops_nil (tZ [0, 2, 3, 10, 11, 12, 5, 46] [0, 1, 2] [0] rfl rfl rfl rfl ?_)
    refine Tk_condT rfl ?_
    refine Tk_seq (Tk_region (Tops_step rfl (OpT_storeC (cs' := [vI (2 : Int)]) rfl rfl rfl rfl tyF27 (i := 0) rfl rfl rfl (one_of rfl) rfl) ?_))
    refine Tops_nil (tZ [2] [0, 1] [] rfl rfl rfl rfl ?_)
    obtain ⟨check1, hx2, h⟩ := ob_e h
    obtain rfl := Option.some.inj h
    refine Tk_retD rfl (f := 70) (cp := [.pointer (some ⟨b1, 0, none⟩), .pointer (some ⟨b2, 0, none⟩)]) rfl callee70 (wb_seg_Check_1 hx2).ctrD [0, 1] [] rfl rfl rfl ?_
    rintro _ _ _ ⟨rfl, rfl, rfl⟩
    exact Tleave_mk (resA (vs := [vI check1]) rfl ⟨⟨_, 2, _, _, _, rfl, rfl, .inr ⟨tyF27, rfl⟩⟩, trivial⟩) [] [] rfl rfl rfl ⟨rfl, rfl, rfl⟩
   ·replace h := br_f hg3 h
    refine Tops_yes rfl rfl (congrArg (fun b => some (Value.bool b)) hg3) (OpT_fieldC rfl rfl rfl rfl fldF32x1) ?_
    rintro _ rfl
    refine Tops_yes rfl rfl (congrArg (fun b => some (Value.bool b)) hg3) (OpT_loadC rfl rfl rfl rfl tyF30 (i := 2) rfl rfl) ?_
    rintro _ rfl
    refine Tops_yes rfl rfl (congrArg (fun b => some (Value.bool b)) hg3) (OpT_cnv rfl rfl rfl rfl (cnv_u32_u64 (n := s1.Len) Try.underlying30 Try.underlying29)) ?_
    rintro _ rfl
    refine Tops_yes rfl rfl (congrArg (fun b => some (Value.bool b)) hg3) (OpT_bin rfl rfl rfl rfl rfl (bin_sub_u64 (a := s1.Len.toUInt64) (b := (1 : UInt64)))) ?_
    rintro _ rfl
    refine Tops_yes rfl rfl (congrArg (fun b => some (Value.bool b)) hg3) (OpT_fieldC rfl rfl rfl rfl fldF32x0) ?_
    rintro _ rfl
    refine Tops_yes rfl rfl (congrArg (fun b => some (Value.bool b)) hg3) (OpT_loadC rfl rfl rfl rfl tyF29 (i := 2) rfl rfl) ?_
    rintro _ rfl
    refine Tops_yes rfl rfl (congrArg (fun b => some (Value.bool b)) hg3) (OpT_bin rfl rfl rfl rfl rfl (bin_sub_u64 (a := (18446744073709551615 : UInt64)) (b := s1.At))) ?_
    rintro _ rfl
    refine Tops_yes rfl rfl (congrArg (fun b => some (Value.bool b)) hg3) (OpT_bin rfl rfl rfl rfl rfl (bin_gtr_u64 (a := s1.Len.toUInt64 - (1 : UInt64)) (b := (18446744073709551615 : UInt64) - s1.At))) ?_
    rintro _ rfl
    refine Tops_step rfl (OpT_pickF rfl rfl rfl (congrArg (fun b => some (Value.bool b)) hg3) rfl) ?_
    refine Tops_step rfl (OpT_move rfl rfl rfl rfl) ?_
    rcases Bool.eq_false_or_eq_true (decide ((s1.Len.toUInt64 - (1 : UInt64)) > ((18446744073709551615 : UInt64) - s1.At))) with hg4 | hg4
    ·replace h := br_t hg4 h
     refine Tops_no rfl rfl (congrArg (fun b => some (Value.bool b)) hg4) rfl rfl ?_
     refine Tops_no rfl rfl (congrArg (fun b => some (Value.bool b)) hg4) rfl rfl ?_
     refine Tops_no rfl rfl (congrArg (fun b => some (Value.bool b)) hg4) rfl rfl ?_
     refine Tops_noU rfl rfl rfl rfl rfl ?_
     refine Tops_noU rfl rfl rfl rfl rfl ?_
     refine Tops_noU rfl rfl rfl rfl rfl ?_
     refine Tops_noU rfl rfl rfl rfl rfl ?_
     refine Tops_noU rfl rfl rfl rfl rfl ?_
     refine Tops_noU rfl rfl rfl rfl rfl ?_
     refine Tops_no rfl rfl (congrArg (fun b => some (Value.bool b)) hg4) rfl rfl ?_
     refine Tops_no rfl rfl (congrArg (fun b => some (Value.bool b)) hg4) rfl rfl ?_
     refine Tops_noU rfl rfl rfl rfl rfl ?_
     refine Tops_noU rfl rfl rfl rfl rfl ?_
     refine Tops_noU rfl rfl rfl rfl rfl ?_
     refine Tops_no rfl rfl (congrArg (fun b => some (Value.bool b)) hg4) rfl rfl ?_
     refine Tops_step rfl (OpT_pickT rfl rfl rfl (congrArg (fun b => some (Value.bool b)) hg4) rfl) ?_
     refine Tops_nil (tZ [0, 2, 3, 10, 11, 12, 5, 46] [0, 1, 2] [0] rfl rfl rfl rfl ?_)
     refine Tk_condT rfl ?_
     refine Tk_seq (Tk_region (Tops_step rfl (OpT_storeC (cs' := [vI (2 : Int)]) rfl rfl rfl rfl tyF27 (i := 0) rfl rfl rfl (one_of rfl) rfl) ?_))
     refine Tops_nil (tZ [2] [0, 1] [] rfl rfl rfl rfl ?_)
     obtain ⟨check2, hx3, h⟩ := ob_e h
     obtain rfl := Option.some.inj h
     refine Tk_retD rfl (f := 70) (cp := [.pointer (some ⟨b1, 0, none⟩), .pointer (some ⟨b2, 0, none⟩)]) rfl callee70 (wb_seg_Check_1 hx3).ctrD [0, 1] [] rfl rfl rfl ?_
     rintro _ _ _ ⟨rfl, rfl, rfl⟩
     exact Tleave_mk (resA (vs := [vI check2]) rfl ⟨⟨_, 2, _, _, _, rfl, rfl, .inr ⟨tyF27, rfl⟩⟩, trivial⟩) [] [] rfl rfl rfl ⟨rfl, rfl, rfl⟩
    ·replace h := br_f hg4 h
     refine Tops_yes rfl rfl (congrArg (fun b => some (Value.bool b)) hg4) (OpT_move rfl rfl rfl rfl) ?_
     rintro _ rfl
     refine Tops_yes rfl rfl (congrArg (fun b => some (Value.bool b)) hg4) (OpT_bin rfl rfl rfl rfl rfl (bin_gtr_i (a := x1) (b := (0 : Int)))) ?_
     rintro _ rfl
     refine Tops_yes rfl rfl (congrArg (fun b => some (Value.bool b)) hg4) (OpT_move rfl rfl rfl rfl) ?_
     rintro _ rfl
     rcases Bool.eq_false_or_eq_true (decide (x1 > (0 : Int))) with hg5 | hg5
     ·replace h := br_t hg5 h
      refine Tops_yes rfl rfl (congrArg (fun b => some (Value.bool b)) hg5) (OpT_move rfl rfl rfl rfl) ?_
      rintro _ rfl
      refine Tops_yes rfl rfl (congrArg (fun b => some (Value.bool b)) hg5) (OpT_move rfl rfl rfl rfl) ?_
      rintro _ rfl
      refine Tops_yes rfl rfl (congrArg (fun b => some (Value.bool b)) hg5) (OpT_bin rfl rfl rfl rfl rfl (bin_sub_i (a := x1) (b := (1 : Int)))) ?_
      rintro _ rfl
      obtain ⟨s2, hx4, h⟩ := ob_e h
      refine Tops_yes rfl rfl (congrArg (fun b => some (Value.bool b)) hg5) (OpT_idxS rfl rfl rfl rfl rfl slF22 (i := 0) rfl hx4) ?_
      rintro _ ⟨p2, rfl⟩
      refine Tops_yes rfl rfl (congrArg (fun b => some (Value.bool b)) hg5) (OpT_fieldP (S' := bS) (y := s2.Write) rfl rfl rfl rfl fldF32x2 (i := 1) rfl (by intro h cs hr; subst hr; rfl)) ?_
      rintro _ ⟨p3, rfl⟩
      refine Tops_yes rfl rfl (congrArg (fun b => some (Value.bool b)) hg5) (OpT_loadP rfl rfl rfl rfl tyF4 (i := 2) rfl rfl) ?_
      rintro _ rfl
      refine Tops_yes rfl rfl (congrArg (fun b => some (Value.bool b)) hg4) (OpT_pickT rfl rfl rfl (congrArg (fun b => some (Value.bool b)) hg5) rfl) ?_
      rintro _ rfl
      refine Tops_yes rfl rfl (congrArg (fun b => some (Value.bool b)) hg4) (OpT_move rfl rfl rfl rfl) ?_
      rintro _ rfl
      rcases Bool.eq_false_or_eq_true (s2.Write) with hg6 | hg6
      ·replace h := br_t hg6 h
       refine Tops_yes rfl rfl (congrArg (fun b => some (Value.bool b)) hg6) (OpT_fieldC rfl rfl rfl rfl fldF32x2) ?_
       rintro _ rfl
       refine Tops_yes rfl rfl (congrArg (fun b => some (Value.bool b)) hg6) (OpT_loadC rfl rfl rfl rfl tyF4 (i := 2) rfl rfl) ?_
       rintro _ rfl
       refine Tops_yes rfl rfl (congrArg (fun b => some (Value.bool b)) hg6) (OpT_not rfl rfl rfl rfl) ?_
       rintro _ rfl
       refine Tops_yes rfl rfl (congrArg (fun b => some (Value.bool b)) hg4) (OpT_pickT rfl rfl rfl (congrArg (fun b => some (Value.bool b)) hg6) rfl) ?_
       rintro _ rfl
       refine Tops_step rfl (OpT_pickF rfl rfl rfl (congrArg (fun b => some (Value.bool b)) hg4) rfl) ?_
       refine Tops_nil (tZ [0, 2, 3, 10, 11, 12, 5, 46] [0, 1, 2] [0] rfl rfl rfl rfl ?_)
       rcases Bool.eq_false_or_eq_true ((!s1.Write)) with hg7 | hg7
       ·replace h := br_t hg7 h
        refine Tk_condT (congrArg (fun b => some (Value.bool b)) hg7) ?_
        refine Tk_seq (Tk_region (Tops_step rfl (OpT_storeC (cs' := [vI (2 : Int)]) rfl rfl rfl rfl tyF27 (i := 0) rfl rfl rfl (one_of rfl) rfl) ?_))
        refine Tops_nil (tZ [2] [0, 1] [] rfl rfl rfl rfl ?_)
        obtain ⟨check3, hx5, h⟩ := ob_e h
        obtain rfl := Option.some.inj h
        refine Tk_retD rfl (f := 70) (cp := [.pointer (some ⟨b1, 0, none⟩), .pointer (some ⟨b2, 0, none⟩)]) rfl callee70 (wb_seg_Check_1 hx5).ctrD [0, 1] [] rfl rfl rfl ?_
        rintro _ _ _ ⟨rfl, rfl, rfl⟩
        exact Tleave_mk (resA (vs := [vI check3]) rfl ⟨⟨_, 2, _, _, _, rfl, rfl, .inr ⟨tyF27, rfl⟩⟩, trivial⟩) [] [] rfl rfl rfl ⟨rfl, rfl, rfl⟩
       ·replace h := br_f hg7 h
        refine Tk_condF (congrArg (fun b => some (Value.bool b)) hg7) ?_
        refine Tk_skip (Tk_region (Tops_step rfl (OpT_loadC rfl rfl rfl rfl tyF29 (i := 1) rfl rfl) ?_))
        refine Tops_step rfl (OpT_fieldC rfl rfl rfl rfl fldF32x1) ?_
        refine Tops_step rfl (OpT_loadC rfl rfl rfl rfl tyF30 (i := 2) rfl rfl) ?_
        refine Tops_step rfl (OpT_cnv rfl rfl rfl rfl (cnv_u32_u64 (n := s1.Len) Try.underlying30 Try.underlying29)) ?_
        refine Tops_step rfl (OpT_bin rfl rfl rfl rfl rfl (bin_add_u64 (a := m2) (b := s1.Len.toUInt64))) ?_
        refine Tops_step rfl (OpT_storeC (cs' := [vU64 (m2 + s1.Len.toUInt64)]) rfl rfl rfl rfl tyF29 (i := 1) rfl rfl rfl (one_of rfl) rfl) ?_
        refine Tops_nil (tZ [0, 2, 3, 10, 11, 12] [0, 1] [0] rfl rfl rfl rfl ?_)
        refine Tk_blk (Tk_region (Tops_step rfl (OpT_bin rfl rfl rfl rfl rfl (bin_add_i (a := x1) (b := (1 : Int)))) ?_))
        refine Tops_step rfl (OpT_move rfl rfl rfl rfl) ?_
        refine Tops_nil (tZ [0, 2, 3, 10, 11, 12] [0, 1] [0] rfl rfl rfl rfl ?_)
        exact Tk_backS (m1, m2 + s1.Len.toUInt64, wi (x1 + (1 : Int))) h [0, 2, 3, 10, 11, 12] [0, 1] [0] rfl rfl rfl rfl rfl
      ·replace h := br_f hg6 h
       refine Tops_no rfl rfl (congrArg (fun b => some (Value.bool b)) hg6) rfl rfl ?_
       refine Tops_no rfl rfl (congrArg (fun b => some (Value.bool b)) hg6) rfl rfl ?_
       refine Tops_no rfl rfl (congrArg (fun b => some (Value.bool b)) hg6) rfl rfl ?_
       refine Tops_yes rfl rfl (congrArg (fun b => some (Value.bool b)) hg4) (OpT_pickF rfl rfl rfl (congrArg (fun b => some (Value.bool b)) hg6) rfl) ?_
       rintro _ rfl
       refine Tops_step rfl (OpT_pickF rfl rfl rfl (congrArg (fun b => some (Value.bool b)) hg4) rfl) ?_
       refine Tops_nil (tZ [0, 2, 3, 10, 11, 12, 5, 46] [0, 1, 2] [0] rfl rfl rfl rfl ?_)
       refine Tk_condF rfl ?_
       refine Tk_skip (Tk_region (Tops_step rfl (OpT_loadC rfl rfl rfl rfl tyF29 (i := 1) rfl rfl) ?_))
       refine Tops_step rfl (OpT_fieldC rfl rfl rfl rfl fldF32x1) ?_
       refine Tops_step rfl (OpT_loadC rfl rfl rfl rfl tyF30 (i := 2) rfl rfl) ?_
       refine Tops_step rfl (OpT_cnv rfl rfl rfl rfl (cnv_u32_u64 (n := s1.Len) Try.underlying30 Try.underlying29)) ?_
       refine Tops_step rfl (OpT_bin rfl rfl rfl rfl rfl (bin_add_u64 (a := m2) (b := s1.Len.toUInt64))) ?_
       refine Tops_step rfl (OpT_storeC (cs' := [vU64 (m2 + s1.Len.toUInt64)]) rfl rfl rfl rfl tyF29 (i := 1) rfl rfl rfl (one_of rfl) rfl) ?_
       refine Tops_nil (tZ [0, 2, 3, 10, 11, 12] [0, 1] [0] rfl rfl rfl rfl ?_)
       refine Tk_blk (Tk_region (Tops_step rfl (OpT_bin rfl rfl rfl rfl rfl (bin_add_i (a := x1) (b := (1 : Int)))) ?_))
       refine Tops_step rfl (OpT_move rfl rfl rfl rfl) ?_
       refine Tops_nil (tZ [0, 2, 3, 10, 11, 12] [0, 1] [0] rfl rfl rfl rfl ?_)
       exact Tk_backS (m1, m2 + s1.Len.toUInt64, wi (x1 + (1 : Int))) h [0, 2, 3, 10, 11, 12] [0, 1] [0] rfl rfl rfl rfl rfl
     ·replace h := br_f hg5 h
      refine Tops_no rfl rfl (congrArg (fun b => some (Value.bool b)) hg5) rfl rfl ?_
      refine Tops_no rfl rfl (congrArg (fun b => some (Value.bool b)) hg5) rfl rfl ?_
      refine Tops_no rfl rfl (congrArg (fun b => some (Value.bool b)) hg5) rfl rfl ?_
      refine Tops_no rfl rfl (congrArg (fun b => some (Value.bool b)) hg5) rfl rfl ?_
      refine Tops_no rfl rfl (congrArg (fun b => some (Value.bool b)) hg5) rfl rfl ?_
      refine Tops_no rfl rfl (congrArg (fun b => some (Value.bool b)) hg5) rfl rfl ?_
      refine Tops_yes rfl rfl (congrArg (fun b => some (Value.bool b)) hg4) (OpT_pickF rfl rfl rfl (congrArg (fun b => some (Value.bool b)) hg5) rfl) ?_
      rintro _ rfl
      refine Tops_yes rfl rfl (congrArg (fun b => some (Value.bool b)) hg4) (OpT_move rfl rfl rfl rfl) ?_
      rintro _ rfl
      refine Tops_no rfl rfl rfl rfl rfl ?_
      refine Tops_no rfl rfl rfl rfl rfl ?_
      refine Tops_no rfl rfl rfl rfl rfl ?_
      refine Tops_yes rfl rfl (congrArg (fun b => some (Value.bool b)) hg4) (OpT_pickF rfl rfl rfl rfl rfl) ?_
      rintro _ rfl
      refine Tops_step rfl (OpT_pickF rfl rfl rfl (congrArg (fun b => some (Value.bool b)) hg4) rfl) ?_
      refine Tops_nil (tZ [0, 2, 3, 10, 11, 12, 5, 46] [0, 1, 2] [0] rfl rfl rfl rfl ?_)
      refine Tk_condF rfl ?_
      refine Tk_skip (Tk_region (Tops_step rfl (OpT_loadC rfl rfl rfl rfl tyF29 (i := 1) rfl rfl) ?_))
      refine Tops_step rfl (OpT_fieldC rfl rfl rfl rfl fldF32x1) ?_
      refine Tops_step rfl (OpT_loadC rfl rfl rfl rfl tyF30 (i := 2) rfl rfl) ?_
      refine Tops_step rfl (OpT_cnv rfl rfl rfl rfl (cnv_u32_u64 (n := s1.Len) Try.underlying30 Try.underlying29)) ?_
      refine Tops_step rfl (OpT_bin rfl rfl rfl rfl rfl (bin_add_u64 (a := m2) (b := s1.Len.toUInt64))) ?_
      refine Tops_step rfl (OpT_storeC (cs' := [vU64 (m2 + s1.Len.toUInt64)]) rfl rfl rfl rfl tyF29 (i := 1) rfl rfl rfl (one_of rfl) rfl) ?_
      refine Tops_nil (tZ [0, 2, 3, 10, 11, 12] [0, 1] [0] rfl rfl rfl rfl ?_)
      refine Tk_blk (Tk_region (Tops_step rfl (OpT_bin rfl rfl rfl rfl rfl (bin_add_i (a := x1) (b := (1 : Int)))) ?_))
      refine Tops_step rfl (OpT_move rfl rfl rfl rfl) ?_
      refine Tops_nil (tZ [0, 2, 3, 10, 11, 12] [0, 1] [0] rfl rfl rfl rfl ?_)
      exact Tk_backS (m1, m2 + s1.Len.toUInt64, wi (x1 + (1 : Int))) h [0, 2, 3, 10, 11, 12] [0, 1] [0] rfl rfl rfl rfl rfl
  ·replace h := br_f hg2 h
   refine Tk_condF (congrArg (fun b => some (Value.bool b)) hg2) ?_
   refine Tk_exit _ rfl ?_
   refine Tk_seq (Tk_region (Tops_step rfl (OpT_storeC (cs' := [vI (0 : Int)]) rfl rfl rfl rfl tyF27 (i := 0) rfl rfl rfl (one_of rfl) rfl) ?_))
   refine Tops_nil (tZ [2] [0, 1] [] rfl rfl rfl rfl ?_)
   obtain ⟨check4, hx6, h⟩ := ob_e h
   obtain rfl := Option.some.inj h
   refine Tk_retD rfl (f := 70) (cp := [.pointer (some ⟨b1, 0, none⟩), .pointer (some ⟨b2, 0, none⟩)]) rfl callee70 (wb_seg_Check_1 hx6).ctrD [0, 1] [] rfl rfl rfl ?_
   rintro _ _ _ ⟨rfl, rfl, rfl⟩
   exact Tleave_mk (resA (vs := [vI check4]) rfl ⟨⟨_, 2, _, _, _, rfl, rfl, .inr ⟨tyF27, rfl⟩⟩, trivial⟩) [] [] rfl rfl rfl ⟨rfl, rfl, rfl⟩

set_option maxRecDepth 100000 in
set_option maxHeartbeats 4000000 in
theorem w_seg_Part {l : List Seg} {write : Bool} {vl1 : Value} {r : (List Seg)} (h : seg_Part l write = some r) :
  Ctr Try.prog 40 #[vl1, vB write] [] [Fact.sl SegS vl1 l]
   (fun rv own shr => ∃ (w1 : Value), rv = w1 ∧ own = [(rowS SegS w1 r)] ∧ shr = []) := by
 unfold seg_Part at h
 refine Ctr.mk (args := [vl1, vB write]) Try.func40 rfl rfl (fun R0 w0 B => ?_)
 refine Tk_seq (Tk_region (Tops_step rfl (OpT_assign rfl rfl rfl rfl) ?_))
 refine Tops_nil (Tk_seq (Tk_seq (Tk_region (Tops_step rfl (OpT_move rfl rfl rfl rfl) ?_))))
 obtain ⟨check1, hx1, h⟩ := ob_e h
 refine Tops_exP rfl (OpT_call (w_seg_Check hx1) [] [0] rfl rfl rfl rfl rfl callee39 rfl rfl rfl rfl) ?_
 rintro _ ⟨_, _, _, ⟨rfl, rfl, rfl⟩, rfl⟩
 refine Tops_step rfl (OpT_bin rfl rfl rfl rfl rfl (bin_neq_i (a := check1) (b := (0 : Int)))) ?_
 refine Tops_nil (tZ [0, 1, 4, 9] [] [0] rfl rfl rfl rfl ?_)
 rcases Bool.eq_false_or_eq_true (check1 != (0 : Int)) with hg1 | hg1
 ·replace h := br_t hg1 h
  refine Tk_condT (congrArg (fun b => some (Value.bool b)) hg1) ?_
  refine Tk_seq (Tk_region (Tops_step rfl (OpT_assign rfl rfl rfl rfl) ?_))
  refine Tops_nil (tZ [4] [] [] rfl rfl rfl rfl ?_)
  refine Tk_nilrow SegS ?_
  obtain rfl := Option.some.inj h
  exact Tk_retV rfl rfl (resA (vs := [.slice none 0 0]) rfl ⟨rfl, trivial⟩) [0] [] rfl rfl rfl ⟨(.slice none 0 0), rfl, rfl, rfl⟩
 ·replace h := br_f hg1 h
  refine Tk_condF (congrArg (fun b => some (Value.bool b)) hg1) ?_
  refine Tk_skip (Tk_seq (Tk_seq (Tk_region (Tops_step rfl (OpT_move rfl rfl rfl rfl) ?_))))
  refine Tops_step rfl (OpT_lenS rfl rfl rfl rfl Try.underlying22 (i := 0) rfl) ?_
  refine Tops_step rfl (OpT_move rfl rfl rfl rfl) ?_
  refine Tops_nil (tZ [1, 4, 10, 11, 12] [] [0] rfl rfl rfl rfl ?_)
  refine Tk_block (Tk_nilrow SegS ?_)
  refine Tk_loopS (σ := (List Seg) × Int × Value) [1, 4, 10, 11, 12] [0] [0] (fun s => ⟨[(1, some (vB write)), (4, some (s.2.2)), (10, some (vl1)), (11, some (vI (len l))), (12, some (vI s.2.1))], [some (rowS SegS s.2.2 s.1)], [Fact.sl SegS vl1 l]⟩) (fun nf1 s => seg_PartL1 l write nf1 s.1 s.2.1 = some r) fuel ([], (0 : Int), (.slice none 0 0)) h rfl rfl rfl rfl rfl (fun s h => by cases h) ?_
  rintro nf1 ⟨out1, x1, v1⟩ h
  replace h : seg_PartL1B l write (seg_PartL1 l write nf1) out1 x1 = some r := h
  unfold seg_PartL1B at h
  refine Tk_seq (Tk_region (Tops_step rfl (OpT_bin rfl rfl rfl rfl rfl (bin_lss_i (a := x1) (b := len l))) ?_))
  refine Tops_nil (Tk_seq ?_)
  rcases Bool.eq_false_or_eq_true (decide (x1 < (len l))) with hg2 | hg2
  ·replace h := br_t hg2 h
   refine Tk_condT (congrArg (fun b => some (Value.bool b)) hg2) ?_
   refine Tk_skip (Tk_seq (Tk_block (Tk_seq (Tk_region ?_))))
   obtain ⟨s1, hx2, h⟩ := ob_e h
   refine Tops_ex rfl (OpT_idxS rfl rfl rfl rfl rfl slF22 (i := 0) rfl hx2) fun p1 => ?_
   refine Tops_step rfl (OpT_loadPA (vs := [vU64 s1.At, vU32 s1.Len, vB s1.Write]) rfl rfl rfl rfl tyF32 (i := 1) rfl rfl) ?_
   refine Tops_ex rfl (OpT_alloc rfl rfl rfl tyZ32) fun b1 => ?_
   refine Tops_step rfl (OpT_storeC (cs' := [vU64 s1.At, vU32 s1.Len, vB s1.Write]) rfl rfl rfl rfl tyF32 (i := 1) rfl rfl rfl (one_of rfl) rfl) ?_
   refine Tops_nil (tZ [1, 4, 10, 11, 12, 6] [0, 1] [0] rfl rfl rfl rfl ?_)
   refine Tk_seq (Tk_region (Tops_step rfl (OpT_fieldC rfl rfl rfl rfl fldF32x2) ?_))
   refine Tops_step rfl (OpT_loadC rfl rfl rfl rfl tyF4 (i := 1) rfl rfl) ?_
   refine Tops_step rfl (OpT_move rfl rfl rfl rfl) ?_
   refine Tops_step rfl (OpT_bin rfl rfl rfl rfl rfl (bin_eql_b (a := s1.Write) (b := write) Try.underlying4)) ?_
   refine Tops_nil (tZ [1, 4, 10, 11, 12, 6, 19] [0, 1] [0] rfl rfl rfl rfl ?_)
   rcases Bool.eq_false_or_eq_true (s1.Write == write) with hg3 | hg3
   ·replace h := br_t hg3 h
    refine Tk_condT (congrArg (fun b => some (Value.bool b)) hg3) ?_
    refine Tk_region (Tops_step rfl (OpT_move rfl rfl rfl rfl) ?_)
    refine Tops_step rfl (OpT_loadCA (vs := [vU64 s1.At, vU32 s1.Len, vB s1.Write]) rfl rfl rfl rfl tyF32 (i := 1) rfl rfl rfl) ?_
    refine Tops_ex rfl (OpT_buildSlice (S := SegS) (xs := [s1]) (css := [[vU64 s1.At, vU32 s1.Len, vB s1.Write]]) (cs := [vU64 s1.At, vU32 s1.Len, vB s1.Write]) (e := 32) rfl rfl rfl rfl (bldF slF22 (by decide) (by kernel_rfl)) rfl rfl rfl rfl (rel_plainD (S := SegS) (xs := [s1]) (css := [[vU64 s1.At, vU32 s1.Len, vB s1.Write]]) rfl rfl)) fun v2 => ?_
    obtain ⟨hc1, h⟩ := chk_e h
    refine Tops_ex rfl (OpT_appendB (S := SegS) rfl rfl rfl rfl rfl rfl slF22 (i := 0) (j := 2) rfl rfl hc1) fun v3 => ?_
    refine Tops_step rfl (OpT_assign rfl rfl rfl rfl) ?_
    refine Tops_nil (tZ [1, 4, 10, 11, 12] [0] [0] rfl rfl rfl rfl ?_)
    refine Tk_blk (Tk_region (Tops_step rfl (OpT_bin rfl rfl rfl rfl rfl (bin_add_i (a := x1) (b := (1 : Int)))) ?_))
    refine Tops_step rfl (OpT_move rfl rfl rfl rfl) ?_
    refine Tops_nil (tZ [1, 4, 10, 11, 12] [0] [0] rfl rfl rfl rfl ?_)
    exact Tk_backS (out1 ++ [s1], wi (x1 + (1 : Int)), v3) h [1, 4, 10, 11, 12] [0] [0] rfl rfl rfl rfl rfl
   ·replace h := br_f hg3 h
    refine Tk_condF (congrArg (fun b => some (Value.bool b)) hg3) ?_
    refine Tk_skip (Tk_blk (Tk_region (Tops_step rfl (OpT_bin rfl rfl rfl rfl rfl (bin_add_i (a := x1) (b := (1 : Int)))) ?_)))
    refine Tops_step rfl (OpT_move rfl rfl rfl rfl) ?_
    refine Tops_nil (tZ [1, 4, 10, 11, 12] [0] [0] rfl rfl rfl rfl ?_)
    exact Tk_backS (out1, wi (x1 + (1 : Int)), v1) h [1, 4, 10, 11, 12] [0] [0] rfl rfl rfl rfl rfl
  ·replace h := br_f hg2 h
   refine Tk_condF (congrArg (fun b => some (Value.bool b)) hg2) ?_
   refine Tk_exit _ rfl ?_
   refine Tk_seq (Tk_region (Tops_step rfl (OpT_move rfl rfl rfl rfl) ?_))
   refine Tops_step rfl (OpT_assign rfl rfl rfl rfl) ?_
   refine Tops_nil (tZ [4] [0] [] rfl rfl rfl rfl ?_)
   obtain rfl := Option.some.inj h
   exact Tk_retV rfl rfl (resA (vs := [v1]) rfl ⟨rfl, trivial⟩) [0] [] rfl rfl rfl ⟨v1, rfl, rfl, rfl⟩

set_option maxRecDepth 100000 in
set_option maxHeartbeats 4000000 in
theorem w_seg_Total {l : List Seg} {vl1 : Value} {r : (UInt64 × UInt64)} (h : seg_Total l = some r) :
  Ctr Try.prog 53 #[vl1] [] [Fact.sl SegS vl1 l]
   (fun rv own shr => rv = .tuple #[vU64 r.1, vU64 r.2] ∧ own = [] ∧ shr = []) := by
 unfold seg_Total at h
 refine Ctr.mk (args := [vl1]) Try.func53 rfl rfl (fun R0 w0 B => ?_)
 refine Tk_seq (Tk_region (Tops_step rfl (OpT_assign rfl rfl rfl rfl) ?_))
 refine Tops_step rfl (OpT_assign rfl rfl rfl rfl) ?_
 refine Tops_nil (Tk_seq (Tk_seq (Tk_region (Tops_step rfl (OpT_move rfl rfl rfl rfl) ?_))))
 obtain ⟨check1, hx1, h⟩ := ob_e h
 refine Tops_exP rfl (OpT_call (w_seg_Check hx1) [] [0] rfl rfl rfl rfl rfl callee39 rfl rfl rfl rfl) ?_
 rintro _ ⟨_, _, _, ⟨rfl, rfl, rfl⟩, rfl⟩
 refine Tops_step rfl (OpT_bin rfl rfl rfl rfl rfl (bin_neq_i (a := check1) (b := (0 : Int)))) ?_
 refine Tops_nil (tZ [0, 2, 3, 8] [] [0] rfl rfl rfl rfl ?_)
 rcases Bool.eq_false_or_eq_true (check1 != (0 : Int)) with hg1 | hg1
 ·replace h := br_t hg1 h
  refine Tk_condT (congrArg (fun b => some (Value.bool b)) hg1) ?_
  refine Tk_seq (Tk_region (Tops_step rfl (OpT_assign rfl rfl rfl rfl) ?_))
  refine Tops_step rfl (OpT_assign rfl rfl rfl rfl) ?_
  refine Tops_nil (tZ [2, 3] [] [] rfl rfl rfl rfl ?_)
  obtain rfl := Option.some.inj h
  exact Tk_retV rfl rfl (resA (vs := [vU64 (0 : UInt64), vU64 (0 : UInt64)]) rfl ⟨rfl, rfl, trivial⟩) [] [] rfl rfl rfl ⟨rfl, rfl, rfl⟩
 ·replace h := br_f hg1 h
  refine Tk_condF (congrArg (fun b => some (Value.bool b)) hg1) ?_
  refine Tk_skip (Tk_seq (Tk_seq (Tk_region (Tops_step rfl (OpT_move rfl rfl rfl rfl) ?_))))
  refine Tops_step rfl (OpT_lenS rfl rfl rfl rfl Try.underlying22 (i := 0) rfl) ?_
  refine Tops_step rfl (OpT_move rfl rfl rfl rfl) ?_
  refine Tops_nil (tZ [2, 3, 9, 10, 11] [] [0] rfl rfl rfl rfl ?_)
  refine Tk_block (Tk_loopS (σ := UInt64 × UInt64 × Int) [2, 3, 9, 10, 11] [] [0] (fun s => ⟨[(2, some (vU64 s.1)), (3, some (vU64 s.2.1)), (9, some (vl1)), (10, some (vI (len l))), (11, some (vI s.2.2))], [], [Fact.sl SegS vl1 l]⟩) (fun nf1 s => seg_TotalL1 l nf1 s.1 s.2.1 s.2.2 = some r) fuel ((0 : UInt64), (0 : UInt64), (0 : Int)) h rfl rfl rfl rfl rfl (fun s h => by cases h) ?_)
  rintro nf1 ⟨read1, write1, x1⟩ h
  replace h : seg_TotalL1B l (seg_TotalL1 l nf1) read1 write1 x1 = some r := h
  unfold seg_TotalL1B at h
  refine Tk_seq (Tk_region (Tops_step rfl (OpT_bin rfl rfl rfl rfl rfl (bin_lss_i (a := x1) (b := len l))) ?_))
  refine Tops_nil (Tk_seq ?_)
  rcases Bool.eq_false_or_eq_true (decide (x1 < (len l))) with hg2 | hg2
  ·replace h := br_t hg2 h
   refine Tk_condT (congrArg (fun b => some (Value.bool b)) hg2) ?_
   refine Tk_skip (Tk_seq (Tk_join (α := UInt64 × UInt64) (fun s => ⟨[(2, some (vU64 s.1)), (3, some (vU64 s.2)), (9, some (vl1)), (10, some (vI (len l))), (11, some (vI x1))], [], [Fact.sl SegS vl1 l]⟩) (fun s => seg_TotalJ2 x1 (seg_TotalL1 l nf1) s.1 s.2 = some r) ?_ ?_))
   ·rintro ⟨read2, write2⟩ h
    replace h : seg_TotalJ2 x1 (seg_TotalL1 l nf1) read2 write2 = some r := h
    unfold seg_TotalJ2 at h
    refine Tk_region (Tops_step rfl (OpT_bin rfl rfl rfl rfl rfl (bin_add_i (a := x1) (b := (1 : Int)))) ?_)
    refine Tops_step rfl (OpT_move rfl rfl rfl rfl) ?_
    refine Tops_nil (tZ [2, 3, 9, 10, 11] [] [0] rfl rfl rfl rfl ?_)
    exact Tk_backS (read2, write2, wi (x1 + (1 : Int))) h [2, 3, 9, 10, 11] [] [0] rfl rfl rfl rfl rfl
   ·intro HJ1
    refine Tk_block (Tk_seq (Tk_region ?_))
    obtain ⟨s1, hx2, h⟩ := ob_e h
    refine Tops_ex rfl (OpT_idxS rfl rfl rfl rfl rfl slF22 (i := 0) rfl hx2) fun p1 => ?_
    refine Tops_step rfl (OpT_loadPA (vs := [vU64 s1.At, vU32 s1.Len, vB s1.Write]) rfl rfl rfl rfl tyF32 (i := 1) rfl rfl) ?_
    refine Tops_ex rfl (OpT_alloc rfl rfl rfl tyZ32) fun b1 => ?_
    refine Tops_step rfl (OpT_storeC (cs' := [vU64 s1.At, vU32 s1.Len, vB s1.Write]) rfl rfl rfl rfl tyF32 (i := 0) rfl rfl rfl (one_of rfl) rfl) ?_
    refine Tops_nil (tZ [2, 3, 9, 10, 11, 5] [0] [0] rfl rfl rfl rfl ?_)
    refine Tk_seq (Tk_region (Tops_step rfl (OpT_fieldC rfl rfl rfl rfl fldF32x2) ?_))
    refine Tops_step rfl (OpT_loadC rfl rfl rfl rfl tyF4 (i := 0) rfl rfl) ?_
    refine Tops_nil (tZ [2, 3, 9, 10, 11, 5, 16] [0] [0] rfl rfl rfl rfl ?_)
    refine Tk_join (α := UInt64 × UInt64) (fun s => ⟨[(2, some (vU64 s.1)), (3, some (vU64 s.2)), (9, some (vl1)), (10, some (vI (len l))), (11, some (vI x1))], [], [Fact.sl SegS vl1 l]⟩) (fun s => seg_TotalJ3 x1 (seg_TotalL1 l nf1) s.1 s.2 = some r) ?_ ?_
    ·rintro ⟨read3, write3⟩ h
     replace h : seg_TotalJ3 x1 (seg_TotalL1 l nf1) read3 write3 = some r := h
     unfold seg_TotalJ3 at h
     refine Tk_blk ?_
     exact Tk_jmpS (HJ1 (read3, write3) h) [2, 3, 9, 10, 11] [] [0] rfl rfl rfl rfl
    ·intro HJ2
     rcases Bool.eq_false_or_eq_true (s1.Write) with hg3 | hg3
     ·replace h := br_t hg3 h
      refine Tk_condT (congrArg (fun b => some (Value.bool b)) hg3) ?_
      refine Tk_region (Tops_step rfl (OpT_move rfl rfl rfl rfl) ?_)
      refine Tops_step rfl (OpT_fieldC rfl rfl rfl rfl fldF32x1) ?_
      refine Tops_step rfl (OpT_loadC rfl rfl rfl rfl tyF30 (i := 0) rfl rfl) ?_
      refine Tops_step rfl (OpT_cnv rfl rfl rfl rfl (cnv_u32_u64 (n := s1.Len) Try.underlying30 Try.underlying29)) ?_
      refine Tops_step rfl (OpT_bin rfl rfl rfl rfl rfl (bin_add_u64 (a := write1) (b := s1.Len.toUInt64))) ?_
      refine Tops_step rfl (OpT_assign rfl rfl rfl rfl) ?_
      refine Tops_nil (tZ [2, 3, 9, 10, 11] [] [0] rfl rfl rfl rfl ?_)
      exact Tk_jmpS (HJ2 (read1, write1 + s1.Len.toUInt64) h) [2, 3, 9, 10, 11] [] [0] rfl rfl rfl rfl
     ·replace h := br_f hg3 h
      refine Tk_condF (congrArg (fun b => some (Value.bool b)) hg3) ?_
      refine Tk_region (Tops_step rfl (OpT_move rfl rfl rfl rfl) ?_)
      refine Tops_step rfl (OpT_fieldC rfl rfl rfl rfl fldF32x1) ?_
      refine Tops_step rfl (OpT_loadC rfl rfl rfl rfl tyF30 (i := 0) rfl rfl) ?_
      refine Tops_step rfl (OpT_cnv rfl rfl rfl rfl (cnv_u32_u64 (n := s1.Len) Try.underlying30 Try.underlying29)) ?_
      refine Tops_step rfl (OpT_bin rfl rfl rfl rfl rfl (bin_add_u64 (a := read1) (b := s1.Len.toUInt64))) ?_
      refine Tops_step rfl (OpT_assign rfl rfl rfl rfl) ?_
      refine Tops_nil (tZ [2, 3, 9, 10, 11] [] [0] rfl rfl rfl rfl ?_)
      exact Tk_jmpS (HJ2 (read1 + s1.Len.toUInt64, write1) h) [2, 3, 9, 10, 11] [] [0] rfl rfl rfl rfl
  ·replace h := br_f hg2 h
   refine Tk_condF (congrArg (fun b => some (Value.bool b)) hg2) ?_
   refine Tk_exit _ rfl ?_
   refine Tk_seq (Tk_region (Tops_step rfl (OpT_move rfl rfl rfl rfl) ?_))
   refine Tops_step rfl (OpT_move rfl rfl rfl rfl) ?_
   refine Tops_step rfl (OpT_assign rfl rfl rfl rfl) ?_
   refine Tops_step rfl (OpT_assign rfl rfl rfl rfl) ?_
   refine Tops_nil (tZ [2, 3] [] [] rfl rfl rfl rfl ?_)
   obtain rfl := Option.some.inj h
   exact Tk_retV rfl rfl (resA (vs := [vU64 read1, vU64 write1]) rfl ⟨rfl, rfl, trivial⟩) [] [] rfl rfl rfl ⟨rfl, rfl, rfl⟩

set_option maxRecDepth 100000 in
set_option maxHeartbeats 4000000 in
theorem w_slices_Clone_apiSegapiSeg {sp0 : List Seg} {vsp01 : Value} {r : (List Seg)} (h : slices_Clone_apiSegapiSeg sp0 = some r) :
  Ctr Try.prog 84 #[vsp01] [] [Fact.sl SegS vsp01 sp0]
   (fun rv own shr => ∃ (w1 : Value), rv = w1 ∧ own = [(rowS SegS w1 r)] ∧ shr = []) := by
 unfold slices_Clone_apiSegapiSeg at h
 refine Ctr.mk (args := [vsp01]) Try.func84 rfl rfl (fun R0 w0 B => ?_)
 refine Tk_seq (Tk_region (Tops_step rfl (OpT_assign rfl rfl rfl rfl) ?_))
 refine Tops_nil (tZ [0] [] [0] rfl rfl rfl rfl ?_)
 refine Tk_seq (Tk_seq (Tk_region (Tops_step rfl (OpT_move rfl rfl rfl rfl) ?_)))
 refine Tops_exP rfl (OpT_eqNil rfl rfl rfl (.inl rfl) rfl rfl Try.underlying22 (i := 0) rfl) ?_
 rintro _ ⟨q1, hq1, rfl⟩
 refine Tops_nil (tZ [0, 4] [] [0] rfl rfl rfl rfl ?_)
 rcases Bool.eq_false_or_eq_true q1 with hg1 | hg1
 ·obtain rfl := hq1 hg1
  replace h : some ([] : List Seg) = some r := h
  refine Tk_condT (congrArg (fun b => some (Value.bool b)) hg1) ?_
  refine Tk_seq (Tk_region (Tops_step rfl (OpT_assign rfl rfl rfl rfl) ?_))
  refine Tops_nil (tZ [2] [] [] rfl rfl rfl rfl ?_)
  refine Tk_nilrow SegS ?_
  obtain rfl := Option.some.inj h
  exact Tk_retV rfl rfl (resA (vs := [.slice none 0 0]) rfl ⟨rfl, trivial⟩) [0] [] rfl rfl rfl ⟨(.slice none 0 0), rfl, rfl, rfl⟩
 ·refine Tk_condF (congrArg (fun b => some (Value.bool b)) hg1) ?_
  refine Tk_skip (Tk_seq (Tk_region (Tops_ex rfl (OpT_buildSlice (S := SegS) (xs := ([] : List Seg)) (css := []) (cs := []) (e := 32) rfl rfl rfl rfl (bldF slF22 (by decide) (by kernel_rfl)) rfl rfl rfl rfl (rel_plainD (S := SegS) (xs := ([] : List Seg)) (css := []) rfl rfl)) fun v1 => ?_)))
  refine Tops_step rfl (OpT_move rfl rfl rfl rfl) ?_
  obtain ⟨hc1, h⟩ := chk_e h
  refine Tops_ex rfl (OpT_append rfl rfl rfl rfl rfl slF22 (i := 0) (j := 0) rfl rfl hc1) fun v2 => ?_
  refine Tops_step rfl (OpT_assign rfl rfl rfl rfl) ?_
  refine Tops_nil (tZ [2] [0] [] rfl rfl rfl rfl ?_)
  obtain rfl := Option.some.inj h
  exact Tk_retV rfl rfl (resA (vs := [v2]) rfl ⟨rfl, trivial⟩) [0] [] rfl rfl rfl ⟨v2, rfl, rfl, rfl⟩

set_option maxRecDepth 100000 in
set_option maxHeartbeats 4000000 in
theorem w_seg_row_eat {rp0 : List Seg} {np1 : UInt64} {b_rp0 : Nat} {vrp01 : Value} {r : ((List Seg) × (List Seg))} (h : seg_row_eat rp0 np1 = some r) :
  Ctr Try.prog 85 #[.pointer (some ⟨b_rp0, 0, none⟩), vU64 np1] [(cellsR b_rp0 120 [vrp01])] [Fact.sl SegS vrp01 rp0]
   (fun rv own shr => ∃ (w1 : Value), ∃ (w2 : Value), rv = w1 ∧ own = [(cellsR b_rp0 120 [w2]), (rowS SegS w1 r.1)] ∧ shr = [Fact.sl SegS w2 r.2]) := by
 unfold seg_row_eat at h
 refine Ctr.mk (args := [.pointer (some ⟨b_rp0, 0, none⟩), vU64 np1]) Try.func85 rfl rfl (fun R0 w0 B => ?_)
 refine Tk_seq (Tk_region (Tops_step rfl (OpT_assign rfl rfl rfl rfl) ?_))
 refine Tops_nil (Tk_seq (Tk_block (Tk_nilrow SegS ?_)))
 refine Tk_loopS (σ := (List Seg) × UInt64 × (List Seg) × Value × Value) [0, 1, 4] [0, 1] [0] (fun s => ⟨[(0, some (.pointer (some ⟨b_rp0, 0, none⟩))), (1, some (vU64 s.2.1)), (4, some (s.2.2.2.2))], [some (cellsR b_rp0 120 [s.2.2.2.1]), some (rowS SegS s.2.2.2.2 s.2.2.1)], [Fact.sl SegS s.2.2.2.1 s.1]⟩) (fun nf1 s => seg_row_eatL1 nf1 s.1 s.2.1 s.2.2.1 = some r) fuel (rp0, np1, [], vrp01, (.slice none 0 0)) h rfl rfl rfl rfl rfl (fun s h => by cases h) ?_
 rintro nf1 ⟨m1, n1, out1, v1, v2⟩ h
 replace h : seg_row_eatL1B (seg_row_eatL1 nf1) m1 n1 out1 = some r := h
 unfold seg_row_eatL1B at h
 refine Tk_seq (Tk_seq (Tk_region (Tops_step rfl (OpT_move rfl rfl rfl rfl) ?_)))
 refine Tops_step rfl (OpT_bin rfl rfl rfl rfl rfl (bin_gtr_u64 (a := n1) (b := (0 : UInt64)))) ?_
 refine Tops_step rfl (OpT_move rfl rfl rfl rfl) ?_
 rcases Bool.eq_false_or_eq_true (decide (n1 > (0 : UInt64))) with hg1 | hg1
 ·replace h := br_t hg1 h
  refine Tops_yes rfl rfl (congrArg (fun b => some (Value.bool b)) hg1) (OpT_move rfl rfl rfl rfl) ?_
  rintro _ rfl
  refine Tops_yes rfl rfl (congrArg (fun b => some (Value.bool b)) hg1) (OpT_nilCheckP rfl rfl rfl rfl) ?_
  rintro _ rfl
  refine Tops_yes rfl rfl (congrArg (fun b => some (Value.bool b)) hg1) (OpT_loadC rfl rfl rfl rfl tyF120 (i := 0) rfl rfl) ?_
  rintro _ rfl
  refine Tops_yes rfl rfl (congrArg (fun b => some (Value.bool b)) hg1) (OpT_lenS rfl rfl rfl rfl Try.underlying120 (i := 0) rfl) ?_
  rintro _ rfl
  refine Tops_yes rfl rfl (congrArg (fun b => some (Value.bool b)) hg1) (OpT_bin rfl rfl rfl rfl rfl (bin_gtr_i (a := len m1) (b := (0 : Int)))) ?_
  rintro _ rfl
  refine Tops_step rfl (OpT_pickT rfl rfl rfl (congrArg (fun b => some (Value.bool b)) hg1) rfl) ?_
  refine Tops_nil (tZ [0, 1, 4, 15] [0, 1] [0] rfl rfl rfl rfl ?_)
  rcases Bool.eq_false_or_eq_true (decide ((len m1) > (0 : Int))) with hg2 | hg2
  ·replace h := br_t hg2 h
   refine Tk_condT (congrArg (fun b => some (Value.bool b)) hg2) ?_
   refine Tk_skip (Tk_block (Tk_seq (Tk_region (Tops_step rfl (OpT_move rfl rfl rfl rfl) ?_))))
   refine Tops_step rfl (OpT_nilCheckP rfl rfl rfl rfl) ?_
   refine Tops_step rfl (OpT_loadC rfl rfl rfl rfl tyF120 (i := 0) rfl rfl) ?_
   obtain ⟨s1, hx1, h⟩ := ob_e h
   refine Tops_ex rfl (OpT_idxS rfl rfl rfl rfl rfl slF120 (i := 0) rfl hx1) fun p1 => ?_
   refine Tops_step rfl (OpT_loadPA (vs := [vU64 s1.At, vU32 s1.Len, vB s1.Write]) rfl rfl rfl rfl tyF32 (i := 1) rfl rfl) ?_
   refine Tops_ex rfl (OpT_alloc rfl rfl rfl tyZ32) fun b1 => ?_
   refine Tops_step rfl (OpT_storeC (cs' := [vU64 s1.At, vU32 s1.Len, vB s1.Write]) rfl rfl rfl rfl tyF32 (i := 2) rfl rfl rfl (one_of rfl) rfl) ?_
   refine Tops_nil (tZ [0, 1, 4, 5] [0, 1, 2] [0] rfl rfl rfl rfl ?_)
   refine Tk_seq (Tk_region (Tops_step rfl (OpT_move rfl rfl rfl rfl) ?_))
   refine Tops_step rfl (OpT_fieldC rfl rfl rfl rfl fldF32x1) ?_
   refine Tops_step rfl (OpT_loadC rfl rfl rfl rfl tyF30 (i := 2) rfl rfl) ?_
   refine Tops_step rfl (OpT_cnv rfl rfl rfl rfl (cnv_u32_u64 (n := s1.Len) Try.underlying30 Try.underlying29)) ?_
   refine Tops_step rfl (OpT_min_u64 (u := n1) (v := s1.Len.toUInt64) rfl rfl rfl rfl rfl) ?_
   refine Tops_step rfl (OpT_assign rfl rfl rfl rfl) ?_
   refine Tops_nil (tZ [0, 1, 4, 5, 6] [0, 1, 2] [0] rfl rfl rfl rfl ?_)
   refine Tk_seq (Tk_region (Tops_step rfl (OpT_move rfl rfl rfl rfl) ?_))
   refine Tops_step rfl (OpT_fieldC rfl rfl rfl rfl fldF32x0) ?_
   refine Tops_step rfl (OpT_loadC rfl rfl rfl rfl tyF29 (i := 2) rfl rfl) ?_
   refine Tops_step rfl (OpT_move rfl rfl rfl rfl) ?_
   refine Tops_step rfl (OpT_cnv rfl rfl rfl rfl (cnv_u64_u32 (n := minu64 n1 s1.Len.toUInt64) Try.underlying29 Try.underlying30)) ?_
   refine Tops_step rfl (OpT_fieldC rfl rfl rfl rfl fldF32x2) ?_
   refine Tops_step rfl (OpT_loadC rfl rfl rfl rfl tyF4 (i := 2) rfl rfl) ?_
   refine Tops_step rfl (OpT_build (v := .agg #[vU64 s1.At, vU32 ((minu64 n1 s1.Len.toUInt64).toUInt32), vB s1.Write]) rfl rfl rfl rfl (bldV (by kernel_rfl))) ?_
   refine Tops_ex rfl (OpT_buildSlice (S := SegS) (xs := [(Seg.mk s1.At ((minu64 n1 s1.Len.toUInt64).toUInt32) s1.Write)]) (css := [[vU64 s1.At, vU32 ((minu64 n1 s1.Len.toUInt64).toUInt32), vB s1.Write]]) (cs := [vU64 s1.At, vU32 ((minu64 n1 s1.Len.toUInt64).toUInt32), vB s1.Write]) (e := 32) rfl rfl rfl rfl (bldF slF22 (by decide) (by kernel_rfl)) rfl rfl rfl rfl (rel_plainD (S := SegS) (xs := [(Seg.mk s1.At ((minu64 n1 s1.Len.toUInt64).toUInt32) s1.Write)]) (css := [[vU64 s1.At, vU32 ((minu64 n1 s1.Len.toUInt64).toUInt32), vB s1.Write]]) rfl rfl)) fun v3 => ?_
   obtain ⟨hc1, h⟩ := chk_e h
   refine Tops_ex rfl (OpT_appendB (S := SegS) rfl rfl rfl rfl rfl rfl slF22 (i := 1) (j := 3) rfl rfl hc1) fun v4 => ?_
   refine Tops_step rfl (OpT_assign rfl rfl rfl rfl) ?_
   refine Tops_nil (tZ [0, 1, 4, 5, 6] [0, 1, 2] [0] rfl rfl rfl rfl ?_)
   refine Tk_seq (Tk_region (Tops_step rfl (OpT_move rfl rfl rfl rfl) ?_))
   refine Tops_step rfl (OpT_move rfl rfl rfl rfl) ?_
   refine Tops_step rfl (OpT_bin rfl rfl rfl rfl rfl (bin_sub_u64 (a := n1) (b := minu64 n1 s1.Len.toUInt64))) ?_
   refine Tops_step rfl (OpT_assign rfl rfl rfl rfl) ?_
   refine Tops_nil (tZ [0, 1, 4, 5, 6] [0, 1, 2] [0] rfl rfl rfl rfl ?_)
   refine Tk_seq (Tk_seq (Tk_region (Tops_step rfl (OpT_move rfl rfl rfl rfl) ?_)))
   refine Tops_step rfl (OpT_fieldC rfl rfl rfl rfl fldF32x1) ?_
   refine Tops_step rfl (OpT_loadC rfl rfl rfl rfl tyF30 (i := 2) rfl rfl) ?_
   refine Tops_step rfl (OpT_cnv rfl rfl rfl rfl (cnv_u32_u64 (n := s1.Len) Try.underlying30 Try.underlying29)) ?_
   refine Tops_step rfl (OpT_bin rfl rfl rfl rfl rfl (bin_lss_u64 (a := minu64 n1 s1.Len.toUInt64) (b := s1.Len.toUInt64))) ?_
   refine Tops_nil (tZ [0, 1, 4, 5, 6, 43] [0, 1, 2] [0] rfl rfl rfl rfl ?_)
   rcases Bool.eq_false_or_eq_true (decide ((minu64 n1 s1.Len.toUInt64) < s1.Len.toUInt64)) with hg3 | hg3
   ·replace h := br_t hg3 h
    refine Tk_condT (congrArg (fun b => some (Value.bool b)) hg3) ?_
    refine Tk_seq (Tk_drawT (by kernel_rfl) ?_)
    refine TA_tb [0, 0, 2, 0, 14, 0, 32, 0, 128, 480, 0, 1024, 4094, 8190, 0, 16384, 49152, 114688, 262142, 524287, 1048575] (by kernel_rfl) fun htb => ?_
    refine aZ [0, 4, 5, 6] [0, 1, 2] [0] rfl rfl rfl rfl ?_
    obtain ⟨hc2, h⟩ := chk_e h
    obtain ⟨hc3, h⟩ := chk_e h
    refine TA_seg (lo := 0) (hi := 19) htb rfl rfl (by kernel_rfl) (fun c L a w => ∃ (v5 : Value), ∃ (v6 : Value), ∃ (v7 : Value), Sat c ⟨[(0, some (.pointer (some ⟨b_rp0, 0, none⟩))), (4, some (v4)), (5, some (.pointer (some ⟨b1, 0, none⟩))), (6, some (vU64 (minu64 n1 s1.Len.toUInt64))), (44, bif L 0 then some (.pointer (some ⟨b_rp0, 0, none⟩)) else none), (45, bif L 1 then some (.pointer (some ⟨b1, 0, none⟩)) else none), (46, bif L 2 then some (vU64 s1.At) else none), (47, bif L 3 then some (vU64 (minu64 n1 s1.Len.toUInt64)) else none), (48, bif L 4 then some (vU64 (s1.At + (minu64 n1 s1.Len.toUInt64))) else none), (49, bif L 5 then some (.pointer (some ⟨b1, 1, none⟩)) else none), (50, bif L 6 then some (vU32 s1.Len) else none), (51, bif L 7 then some (vU64 (minu64 n1 s1.Len.toUInt64)) else none), (52, bif L 8 then some (vU32 ((minu64 n1 s1.Len.toUInt64).toUInt32)) else none), (53, bif L 9 then some (vU32 (s1.Len - ((minu64 n1 s1.Len.toUInt64).toUInt32))) else none), (54, bif L 10 then some (.pointer (some ⟨b1, 2, none⟩)) else none), (55, bif L 11 then some (vB s1.Write) else none), (56, bif L 12 then some (.agg #[vU64 (s1.At + (minu64 n1 s1.Len.toUInt64)), vU32 (s1.Len - ((minu64 n1 s1.Len.toUInt64).toUInt32)), vB s1.Write]) else none), (57, bif L 13 then some (v5) else none), (58, bif L 14 then some (.pointer (some ⟨b_rp0, 0, none⟩)) else none), (59, bif L 15 then some (.pointer (some ⟨b_rp0, 0, none⟩)) else none), (60, bif L 16 then some (v1) else none), (61, bif L 17 then some (v6) else none), (62, bif L 18 then some (v7) else none)], [(some (cellsR b_rp0 120 [v1]) : Option Res), (some (rowS SegS v4 (out1 ++ [(Seg.mk s1.At ((minu64 n1 s1.Len.toUInt64).toUInt32) s1.Write)])) : Option Res), (some (cellsR b1 32 [vU64 s1.At, vU32 s1.Len, vB s1.Write]) : Option Res), (bif L 18 then some (rowS SegS v7 ([(Seg.mk (s1.At + (minu64 n1 s1.Len.toUInt64)) (s1.Len - ((minu64 n1 s1.Len.toUInt64).toUInt32)) s1.Write)] ++ (sub m1 (1 : Int) (len m1)))) else bif L 13 then some (rowS SegS v5 [(Seg.mk (s1.At + (minu64 n1 s1.Len.toUInt64)) (s1.Len - ((minu64 n1 s1.Len.toUInt64).toUInt32)) s1.Write)]) else none : Option Res)], [Fact.sl SegS v1 m1, (bif L 17 then Fact.sl SegS v6 (sub m1 (1 : Int) (len m1)) else Fact.tt)]⟩ a w) [([], []), ([], [2, 4, 12, 13, 18]), ([1], [4, 12, 13, 18]), ([], [4, 12, 13, 18]), ([1, 2, 3], [12, 13, 18]), ([], [6, 9, 12, 13, 18]), ([5], [9, 12, 13, 18]), ([], [8, 9, 12, 13, 18]), ([7], [9, 12, 13, 18]), ([5, 6, 7, 8], [12, 13, 18]), ([], [11, 12, 13, 18]), ([10], [12, 13, 18]), ([1, 2, 3, 4, 5, 6, 7, 8, 9, 10, 11], [13, 18]), ([1, 2, 3, 4, 5, 6, 7, 8, 9, 10, 11, 12], [18]), ([], [15, 16, 17, 18]), ([14], [16, 17, 18]), ([14, 15], [17, 18]), ([14, 15, 16], [18]), ([1, 2, 3, 4, 5, 6, 7, 8, 9, 10, 11, 12, 13, 14, 15, 16, 17], [])] rfl (by kernel_rfl) ?_ (steps_cons ?_ (steps_cons ?_ (steps_cons ?_ (steps_cons ?_ (steps_cons ?_ (steps_cons ?_ (steps_cons ?_ (steps_cons ?_ (steps_cons ?_ (steps_cons ?_ (steps_cons ?_ (steps_cons ?_ (steps_cons ?_ (steps_cons ?_ (steps_cons ?_ (steps_cons ?_ (steps_cons ?_ (steps_cons ?_ (steps_cons ?_ (steps_nil)))))))))))))))))))) ?_
    ·intro a w hs
     exact ⟨undef, undef, undef, hs.startF [44, 45, 46, 47, 48, 49, 50, 51, 52, 53, 54, 55, 56, 57, 58, 59, 60, 61, 62] [0, 1, 2, 3] [0, 1] rfl rfl rfl rfl⟩
    ·intro L a w hv K Q hK
     obtain ⟨v5, v6, v7, hs⟩ := hv
     refine wpOp_go rfl rfl hs (OpT_move rfl rfl rfl rfl) ?_
     rintro _ rfl a' w' hs'
     exact hK a' w' ⟨v5, v6, v7, hs'.putF (i := 4) rfl [0, 1, 2, 3] [0, 1] rfl rfl rfl rfl⟩
    ·intro L a w hv K Q hK
     obtain ⟨v5, v6, v7, hs⟩ := hv
     refine wpOp_go rfl rfl hs (OpT_fieldC rfl rfl rfl rfl fldF32x0) ?_
     rintro _ rfl a' w' hs'
     exact hK a' w' ⟨v5, v6, v7, hs'.putF (i := 5) rfl [0, 1, 2, 3] [0, 1] rfl rfl rfl rfl⟩
    ·intro L a w hv K Q hK
     obtain ⟨v5, v6, v7, hs⟩ := hv
     refine wpOp_go rfl rfl hs (OpT_loadC rfl rfl rfl rfl tyF29 (i := 2) rfl rfl) ?_
     rintro _ rfl a' w' hs'
     exact hK a' w' ⟨v5, v6, v7, hs'.putF (i := 6) rfl [0, 1, 2, 3] [0, 1] rfl rfl rfl rfl⟩
    ·intro L a w hv K Q hK
     obtain ⟨v5, v6, v7, hs⟩ := hv
     refine wpOp_go rfl rfl hs (OpT_move rfl rfl rfl rfl) ?_
     rintro _ rfl a' w' hs'
     exact hK a' w' ⟨v5, v6, v7, hs'.putF (i := 7) rfl [0, 1, 2, 3] [0, 1] rfl rfl rfl rfl⟩
    ·intro L a w hv K Q hK
     obtain ⟨v5, v6, v7, hs⟩ := hv
     refine wpOp_go rfl rfl hs (OpT_bin rfl rfl rfl rfl rfl (bin_add_u64 (a := s1.At) (b := minu64 n1 s1.Len.toUInt64))) ?_
     rintro _ rfl a' w' hs'
     exact hK a' w' ⟨v5, v6, v7, hs'.putF (i := 8) rfl [0, 1, 2, 3] [0, 1] rfl rfl rfl rfl⟩
    ·intro L a w hv K Q hK
     obtain ⟨v5, v6, v7, hs⟩ := hv
     refine wpOp_go rfl rfl hs (OpT_fieldC rfl rfl rfl rfl fldF32x1) ?_
     rintro _ rfl a' w' hs'
     exact hK a' w' ⟨v5, v6, v7, hs'.putF (i := 9) rfl [0, 1, 2, 3] [0, 1] rfl rfl rfl rfl⟩
    ·intro L a w hv K Q hK
     obtain ⟨v5, v6, v7, hs⟩ := hv
     refine wpOp_go rfl rfl hs (OpT_loadC rfl rfl rfl rfl tyF30 (i := 2) rfl rfl) ?_
     rintro _ rfl a' w' hs'
     exact hK a' w' ⟨v5, v6, v7, hs'.putF (i := 10) rfl [0, 1, 2, 3] [0, 1] rfl rfl rfl rfl⟩
    ·intro L a w hv K Q hK
     obtain ⟨v5, v6, v7, hs⟩ := hv
     refine wpOp_go rfl rfl hs (OpT_move rfl rfl rfl rfl) ?_
     rintro _ rfl a' w' hs'
     exact hK a' w' ⟨v5, v6, v7, hs'.putF (i := 11) rfl [0, 1, 2, 3] [0, 1] rfl rfl rfl rfl⟩
    ·intro L a w hv K Q hK
     obtain ⟨v5, v6, v7, hs⟩ := hv
     refine wpOp_go rfl rfl hs (OpT_cnv rfl rfl rfl rfl (cnv_u64_u32 (n := minu64 n1 s1.Len.toUInt64) Try.underlying29 Try.underlying30)) ?_
     rintro _ rfl a' w' hs'
     exact hK a' w' ⟨v5, v6, v7, hs'.putF (i := 12) rfl [0, 1, 2, 3] [0, 1] rfl rfl rfl rfl⟩
    ·intro L a w hv K Q hK
     obtain ⟨v5, v6, v7, hs⟩ := hv
     refine wpOp_go rfl rfl hs (OpT_bin rfl rfl rfl rfl rfl (bin_sub_u32 (a := s1.Len) (b := (minu64 n1 s1.Len.toUInt64).toUInt32))) ?_
     rintro _ rfl a' w' hs'
     exact hK a' w' ⟨v5, v6, v7, hs'.putF (i := 13) rfl [0, 1, 2, 3] [0, 1] rfl rfl rfl rfl⟩
    ·intro L a w hv K Q hK
     obtain ⟨v5, v6, v7, hs⟩ := hv
     refine wpOp_go rfl rfl hs (OpT_fieldC rfl rfl rfl rfl fldF32x2) ?_
     rintro _ rfl a' w' hs'
     exact hK a' w' ⟨v5, v6, v7, hs'.putF (i := 14) rfl [0, 1, 2, 3] [0, 1] rfl rfl rfl rfl⟩
    ·intro L a w hv K Q hK
     obtain ⟨v5, v6, v7, hs⟩ := hv
     refine wpOp_go rfl rfl hs (OpT_loadC rfl rfl rfl rfl tyF4 (i := 2) rfl rfl) ?_
     rintro _ rfl a' w' hs'
     exact hK a' w' ⟨v5, v6, v7, hs'.putF (i := 15) rfl [0, 1, 2, 3] [0, 1] rfl rfl rfl rfl⟩
    ·intro L a w hv K Q hK
     obtain ⟨v5, v6, v7, hs⟩ := hv
     refine wpOp_go rfl rfl hs (OpT_build (v := .agg #[vU64 (s1.At + (minu64 n1 s1.Len.toUInt64)), vU32 (s1.Len - ((minu64 n1 s1.Len.toUInt64).toUInt32)), vB s1.Write]) rfl rfl rfl rfl (bldV (by kernel_rfl))) ?_
     rintro _ rfl a' w' hs'
     exact hK a' w' ⟨v5, v6, v7, hs'.putF (i := 16) rfl [0, 1, 2, 3] [0, 1] rfl rfl rfl rfl⟩
    ·intro L a w hv K Q hK
     obtain ⟨v5, v6, v7, hs⟩ := hv
     refine wpOp_go rfl rfl hs (OpT_buildSlice (S := SegS) (xs := [(Seg.mk (s1.At + (minu64 n1 s1.Len.toUInt64)) (s1.Len - ((minu64 n1 s1.Len.toUInt64).toUInt32)) s1.Write)]) (css := [[vU64 (s1.At + (minu64 n1 s1.Len.toUInt64)), vU32 (s1.Len - ((minu64 n1 s1.Len.toUInt64).toUInt32)), vB s1.Write]]) (cs := [vU64 (s1.At + (minu64 n1 s1.Len.toUInt64)), vU32 (s1.Len - ((minu64 n1 s1.Len.toUInt64).toUInt32)), vB s1.Write]) (e := 32) rfl rfl rfl rfl (bldF slF120 (by decide) (by kernel_rfl)) rfl rfl rfl rfl (rel_plainD (S := SegS) (xs := [(Seg.mk (s1.At + (minu64 n1 s1.Len.toUInt64)) (s1.Len - ((minu64 n1 s1.Len.toUInt64).toUInt32)) s1.Write)]) (css := [[vU64 (s1.At + (minu64 n1 s1.Len.toUInt64)), vU32 (s1.Len - ((minu64 n1 s1.Len.toUInt64).toUInt32)), vB s1.Write]]) rfl rfl)) ?_
     rintro _ ⟨v5', rfl⟩ a' w' hs'
     exact hK a' w' ⟨v5', v6, v7, hs'.putF (i := 17) rfl [0, 1, 2, 4] [0, 1] rfl rfl rfl rfl⟩
    ·intro L a w hv K Q hK
     obtain ⟨v5, v6, v7, hs⟩ := hv
     refine wpOp_go rfl rfl hs (OpT_move rfl rfl rfl rfl) ?_
     rintro _ rfl a' w' hs'
     exact hK a' w' ⟨v5, v6, v7, hs'.putF (i := 18) rfl [0, 1, 2, 3] [0, 1] rfl rfl rfl rfl⟩
    ·intro L a w hv K Q hK
     obtain ⟨v5, v6, v7, hs⟩ := hv
     refine wpOp_go rfl rfl hs (OpT_nilCheckP rfl rfl rfl rfl) ?_
     rintro _ rfl a' w' hs'
     exact hK a' w' ⟨v5, v6, v7, hs'.putF (i := 19) rfl [0, 1, 2, 3] [0, 1] rfl rfl rfl rfl⟩
    ·intro L a w hv K Q hK
     obtain ⟨v5, v6, v7, hs⟩ := hv
     refine wpOp_go rfl rfl hs (OpT_loadC rfl rfl rfl rfl tyF120 (i := 0) rfl rfl) ?_
     rintro _ rfl a' w' hs'
     exact hK a' w' ⟨v5, v6, v7, hs'.putF (i := 20) rfl [0, 1, 2, 3] [0, 1] rfl rfl rfl rfl⟩
    ·intro L a w hv K Q hK
     obtain ⟨v5, v6, v7, hs⟩ := hv
     refine wpOp_go rfl rfl hs (OpT_sliceL (l := (1 : Int)) rfl rfl rfl rfl rfl slF120 (i := 0) rfl hc2) ?_
     rintro _ ⟨v6', rfl⟩ a' w' hs'
     exact hK a' w' ⟨v5, v6', v7, hs'.putF (i := 21) rfl [0, 1, 2, 3] [0, 2] rfl rfl rfl rfl⟩
    ·intro L a w hv K Q hK
     obtain ⟨v5, v6, v7, hs⟩ := hv
     refine wpOp_go rfl rfl hs (OpT_append rfl rfl rfl rfl rfl slF120 (i := 3) (j := 1) rfl rfl hc3) ?_
     rintro _ ⟨v7', rfl⟩ a' w' hs'
     exact hK a' w' ⟨v5, v6, v7', hs'.putF (i := 22) rfl [0, 1, 2, 3] [0, 1] rfl rfl rfl rfl⟩
    ·intro L a w hL hv
     rw [allTrue hL] at hv
     obtain ⟨v5, v6, v7, hs⟩ := hv
     refine gZ hs [4, 44, 62] [0, 1, 3] [0] rfl rfl rfl rfl ?_
     clear hs hL
     refine TA_step htb (by kernel_rfl) rfl rfl (OpT_nilCheckP rfl rfl rfl rfl) ?_
     refine TA_step htb (by kernel_rfl) rfl rfl (OpT_storeV (cs' := [v7]) rfl rfl rfl rfl tyF120 (i := 0) rfl (is_row (i := 2) rfl) rfl rfl) ?_
     refine TA_end rfl ?_
     refine tZ [4] [0, 1, 2] [] rfl rfl rfl rfl ?_
     refine Tk_seq (Tk_region (Tops_step rfl (OpT_move rfl rfl rfl rfl) ?_))
     refine Tops_step rfl (OpT_assign rfl rfl rfl rfl) ?_
     refine Tops_nil (tZ [4] [0, 1, 2] [] rfl rfl rfl rfl ?_)
     refine Tk_retire (i := 2) rfl ?_
     obtain rfl := Option.some.inj h
     exact Tk_retV rfl rfl (resA (vs := [v4]) rfl ⟨rfl, trivial⟩) [0, 1] [0] rfl rfl rfl ⟨v4, v7, rfl, rfl, rfl⟩
   ·replace h := br_f hg3 h
    refine Tk_condF (congrArg (fun b => some (Value.bool b)) hg3) ?_
    refine Tk_skip (Tk_region (Tops_step rfl (OpT_move rfl rfl rfl rfl) ?_))
    refine Tops_step rfl (OpT_move rfl rfl rfl rfl) ?_
    refine Tops_step rfl (OpT_nilCheckP rfl rfl rfl rfl) ?_
    refine Tops_step rfl (OpT_loadC rfl rfl rfl rfl tyF120 (i := 0) rfl rfl) ?_
    obtain ⟨hc4, h⟩ := chk_e h
    refine Tops_ex rfl (OpT_sliceL (l := (1 : Int)) rfl rfl rfl rfl rfl slF120 (i := 0) rfl hc4) fun v8 => ?_
    refine Tops_step rfl (OpT_nilCheckP rfl rfl rfl rfl) ?_
    refine Tops_step rfl (OpT_storeV (cs' := [v8]) rfl rfl rfl rfl tyF120 (i := 0) rfl (is_sl (i := 1) rfl) rfl rfl) ?_
    refine Tops_nil (tZ [0, 1, 4] [0, 1] [1] rfl rfl rfl rfl ?_)
    refine Tk_blk ?_
    exact Tk_backS (sub m1 (1 : Int) (len m1), n1 - (minu64 n1 s1.Len.toUInt64), out1 ++ [(Seg.mk s1.At ((minu64 n1 s1.Len.toUInt64).toUInt32) s1.Write)], v8, v4) h [0, 1, 4] [0, 1] [0] rfl rfl rfl rfl rfl
  ·replace h := br_f hg2 h
   refine Tk_condF (congrArg (fun b => some (Value.bool b)) hg2) ?_
   refine Tk_exit _ rfl ?_
   refine Tk_seq (Tk_region (Tops_step rfl (OpT_move rfl rfl rfl rfl) ?_))
   refine Tops_step rfl (OpT_assign rfl rfl rfl rfl) ?_
   refine Tops_nil (tZ [4] [0, 1] [0] rfl rfl rfl rfl ?_)
   obtain rfl := Option.some.inj h
   exact Tk_retV rfl rfl (resA (vs := [v2]) rfl ⟨rfl, trivial⟩) [0, 1] [0] rfl rfl rfl ⟨v2, v1, rfl, rfl, rfl⟩
 ·replace h := br_f hg1 h
  refine Tops_no rfl rfl (congrArg (fun b => some (Value.bool b)) hg1) rfl rfl ?_
  refine Tops_no rfl rfl (congrArg (fun b => some (Value.bool b)) hg1) rfl rfl ?_
  refine Tops_no rfl rfl (congrArg (fun b => some (Value.bool b)) hg1) rfl rfl ?_
  refine Tops_no rfl rfl (congrArg (fun b => some (Value.bool b)) hg1) rfl rfl ?_
  refine Tops_no rfl rfl (congrArg (fun b => some (Value.bool b)) hg1) rfl rfl ?_
  refine Tops_step rfl (OpT_pickF rfl rfl rfl (congrArg (fun b => some (Value.bool b)) hg1) rfl) ?_
  refine Tops_nil (tZ [0, 1, 4, 15] [0, 1] [0] rfl rfl rfl rfl ?_)
  refine Tk_condF rfl ?_
  refine Tk_exit _ rfl ?_
  refine Tk_seq (Tk_region (Tops_step rfl (OpT_move rfl rfl rfl rfl) ?_))
  refine Tops_step rfl (OpT_assign rfl rfl rfl rfl) ?_
  refine Tops_nil (tZ [4] [0, 1] [0] rfl rfl rfl rfl ?_)
  obtain rfl := Option.some.inj h
  exact Tk_retV rfl rfl (resA (vs := [v2]) rfl ⟨rfl, trivial⟩) [0, 1] [0] rfl rfl rfl ⟨v2, v1, rfl, rfl, rfl⟩

set_option maxRecDepth 100000 in
set_option maxHeartbeats 4000000 in
theorem w_seg_Cut {l : List Seg} {fromp1 : UInt64} {np2 : UInt64} {vl1 : Value} {r : (List Seg)} (h : seg_Cut l fromp1 np2 = some r) :
  Ctr Try.prog 71 #[vl1, vU64 fromp1, vU64 np2] [] [Fact.sl SegS vl1 l]
   (fun rv own shr => ∃ (w1 : Value), rv = w1 ∧ own = [(rowS SegS w1 r)] ∧ shr = []) := by
 unfold seg_Cut at h
 refine Ctr.mk (args := [vl1, vU64 fromp1, vU64 np2]) Try.func71 rfl rfl (fun R0 w0 B => ?_)
 refine Tk_seq (Tk_region (Tops_step rfl (OpT_assign rfl rfl rfl rfl) ?_))
 refine Tops_nil (tZ [0, 1, 2] [] [0] rfl rfl rfl rfl ?_)
 refine Tk_seq (Tk_seq (Tk_region (Tops_step rfl (OpT_move rfl rfl rfl rfl) ?_)))
 obtain ⟨check1, hx1, h⟩ := ob_e h
 refine Tops_exP rfl (OpT_call (w_seg_Check hx1) [] [0] rfl rfl rfl rfl rfl callee39 rfl rfl rfl rfl) ?_
 rintro _ ⟨_, _, _, ⟨rfl, rfl, rfl⟩, rfl⟩
 refine Tops_step rfl (OpT_bin rfl rfl rfl rfl rfl (bin_neq_i (a := check1) (b := (0 : Int)))) ?_
 refine Tops_nil (tZ [0, 1, 2, 10] [] [0] rfl rfl rfl rfl ?_)
 rcases Bool.eq_false_or_eq_true (check1 != (0 : Int)) with hg1 | hg1
 ·replace h := br_t hg1 h
  refine Tk_condT (congrArg (fun b => some (Value.bool b)) hg1) ?_
  refine Tk_seq (Tk_region (Tops_step rfl (OpT_assign rfl rfl rfl rfl) ?_))
  refine Tops_nil (tZ [6] [] [] rfl rfl rfl rfl ?_)
  refine Tk_nilrow SegS ?_
  obtain rfl := Option.some.inj h
  exact Tk_retV rfl rfl (resA (vs := [.slice none 0 0]) rfl ⟨rfl, trivial⟩) [0] [] rfl rfl rfl ⟨(.slice none 0 0), rfl, rfl, rfl⟩
 ·replace h := br_f hg1 h
  refine Tk_condF (congrArg (fun b => some (Value.bool b)) hg1) ?_
  refine Tk_skip (Tk_seq (Tk_region (Tops_step rfl (OpT_move rfl rfl rfl rfl) ?_)))
  obtain ⟨seg1, hx2, h⟩ := ob_e h
  refine Tops_exP rfl (OpT_call (w_slices_Clone_apiSegapiSeg hx2) [] [0] rfl rfl rfl rfl rfl callee84 rfl rfl rfl rfl) ?_
  rintro _ ⟨v1, _, _, ⟨_, rfl, rfl, rfl⟩, rfl⟩
  refine Tops_ex rfl (OpT_alloc rfl rfl rfl tyZ120) fun b1 => ?_
  refine Tops_step rfl (OpT_storeV (cs' := [v1]) rfl rfl rfl rfl tyF120 (i := 1) rfl (is_row (i := 0) rfl) rfl rfl) ?_
  refine Tops_nil (tZ [1, 2, 7] [0, 1] [] rfl rfl rfl rfl ?_)
  refine Tk_seq (Tk_region (Tops_step rfl (OpT_move rfl rfl rfl rfl) ?_))
  refine Tops_retire (i := 0) rfl ?_
  obtain ⟨eat1, hx3, h⟩ := ob_e h
  refine Tops_exP rfl (OpT_callP [0, 2, 3] (w_seg_row_eat hx3) [1] [0] rfl rfl rfl rfl rfl callee85 rfl rfl rfl rfl rfl) ?_
  rintro _ ⟨v2, _, _, ⟨_, v3, rfl, rfl, rfl⟩, rfl⟩
  refine Tops_nil (tZ [2, 7] [1] [1] rfl rfl rfl rfl ?_)
  refine Tk_seq (Tk_region (Tops_step rfl (OpT_move rfl rfl rfl rfl) ?_))
  obtain ⟨eat2, hx4, h⟩ := ob_e h
  refine Tops_exP rfl (OpT_callP [1, 2] (w_seg_row_eat hx4) [0] [0] rfl rfl rfl rfl rfl callee85 rfl rfl rfl rfl rfl) ?_
  rintro _ ⟨v4, _, _, ⟨_, v5, rfl, rfl, rfl⟩, rfl⟩
  refine Tops_step rfl (OpT_assign rfl rfl rfl rfl) ?_
  refine Tops_nil (tZ [6] [1] [] rfl rfl rfl rfl ?_)
  obtain rfl := Option.some.inj h
  exact Tk_retV rfl rfl (resA (vs := [v4]) rfl ⟨rfl, trivial⟩) [0] [] rfl rfl rfl ⟨v4, rfl, rfl, rfl⟩

set_option maxRecDepth 100000 in
set_option maxHeartbeats 4000000 in
theorem w_blkdrv_split {l : List Seg} {cuts : List Int} {more : Int} {v_l : Value} {vcuts1 : Value} {r : (List Seg)} (h : blkdrv_split l cuts more = some r) :
  Ctr Try.prog 41 #[v_l, vcuts1, vI more] [(rowS SegS v_l l)] [Fact.sl iS vcuts1 cuts]
   (fun rv own shr => ∃ (w1 : Value), rv = w1 ∧ own = [(rowS SegS w1 r)] ∧ shr = []) := by
 unfold blkdrv_split at h
 refine Ctr.mk (args := [v_l, vcuts1, vI more]) Try.func41 rfl rfl (fun R0 w0 B => ?_)
 refine Tk_seq (Tk_region (Tops_step rfl (OpT_assign rfl rfl rfl rfl) ?_))
 refine Tops_nil (tZ [0, 1, 2] [0] [0] rfl rfl rfl rfl ?_)
 refine Tk_seq (Tk_region (Tops_step rfl (OpT_move rfl rfl rfl rfl) ?_))
 obtain ⟨total1, hx1, h⟩ := ob_e h
 refine Tops_exP rfl (OpT_callB [0] [0] (w_seg_Total hx1) [] rfl rfl rfl rfl rfl callee53 rfl rfl rfl rfl rfl rfl (bor_cons (bor_row 0 rfl rfl) bor_nil) (by rintro _ _ _ ⟨rfl, rfl, rfl⟩; exact ⟨rfl, ri_nil⟩)) ?_
 rintro _ ⟨_, _, _, ⟨rfl, rfl, rfl⟩, rfl⟩
 refine Tops_step rfl (OpT_move rfl rfl rfl rfl) ?_
 refine Tops_step rfl (OpT_extract rfl rfl rfl rfl rfl) ?_
 refine Tops_step rfl (OpT_extract rfl rfl rfl rfl rfl) ?_
 refine Tops_step rfl (OpT_assign rfl rfl rfl rfl) ?_
 refine Tops_step rfl (OpT_assign rfl rfl rfl rfl) ?_
 refine Tops_nil (tZ [0, 1, 2, 7, 8] [0] [0] rfl rfl rfl rfl ?_)
 refine Tk_seq (Tk_region (Tops_step rfl (OpT_move rfl rfl rfl rfl) ?_))
 refine Tops_step rfl (OpT_move rfl rfl rfl rfl) ?_
 refine Tops_step rfl (OpT_bin rfl rfl rfl rfl rfl (bin_add_u64 (a := total1.1) (b := total1.2))) ?_
 refine Tops_step rfl (OpT_assign rfl rfl rfl rfl) ?_
 refine Tops_nil (tZ [0, 1, 2, 9] [0] [0] rfl rfl rfl rfl ?_)
 refine Tk_seq (Tk_seq (Tk_region (Tops_step rfl (OpT_assign rfl rfl rfl rfl) ?_)))
 refine Tops_step rfl (OpT_assign rfl rfl rfl rfl) ?_
 refine Tops_nil (Tk_block (Tk_loopS (σ := (List Seg) × Int × UInt64 × Int × Value) [0, 1, 2, 9, 10, 11] [0] [0] (fun s => ⟨[(0, some (s.2.2.2.2)), (1, some (vcuts1)), (2, some (vI s.2.1)), (9, some (vU64 (total1.1 + total1.2))), (10, some (vU64 s.2.2.1)), (11, some (vI s.2.2.2.1))], [some (rowS SegS s.2.2.2.2 s.1)], [Fact.sl iS vcuts1 cuts]⟩) (fun nf1 s => blkdrv_splitL1 cuts total1 nf1 s.1 s.2.1 s.2.2.1 s.2.2.2.1 = some r) fuel (l, more, (0 : UInt64), (0 : Int), v_l) h rfl rfl rfl rfl rfl (fun s h => by cases h) ?_))
 rintro nf1 ⟨l1, more1, at1, i1, v1⟩ h
 replace h : blkdrv_splitL1B cuts total1 (blkdrv_splitL1 cuts total1 nf1) l1 more1 at1 i1 = some r := h
 unfold blkdrv_splitL1B at h
 refine Tk_seq (Tk_seq (Tk_region (Tops_step rfl (OpT_move rfl rfl rfl rfl) ?_)))
 refine Tops_step rfl (OpT_move rfl rfl rfl rfl) ?_
 refine Tops_step rfl (OpT_lenS rfl rfl rfl rfl Try.underlying23 (i := 0) rfl) ?_
 refine Tops_step rfl (OpT_bin rfl rfl rfl rfl rfl (bin_lss_i (a := i1) (b := len cuts))) ?_
 refine Tops_nil (tZ [0, 1, 2, 9, 10, 11, 25] [0] [0] rfl rfl rfl rfl ?_)
 rcases Bool.eq_false_or_eq_true (decide (i1 < (len cuts))) with hg1 | hg1
 ·replace h := br_t hg1 h
  refine Tk_condT (congrArg (fun b => some (Value.bool b)) hg1) ?_
  refine Tk_skip (Tk_seq (Tk_block (Tk_seq (Tk_seq (Tk_region (Tops_step rfl (OpT_move rfl rfl rfl rfl) ?_))))))
  refine Tops_step rfl (OpT_move rfl rfl rfl rfl) ?_
  obtain ⟨y1, hx2, h⟩ := ob_e h
  refine Tops_ex rfl (OpT_idxS rfl rfl rfl rfl rfl slF23 (i := 0) rfl hx2) fun p1 => ?_
  refine Tops_step rfl (OpT_loadP rfl rfl rfl rfl tyF3 (i := 1) rfl rfl) ?_
  refine Tops_step rfl (OpT_bin rfl rfl rfl rfl rfl (bin_leq_i (a := y1) (b := (0 : Int)))) ?_
  refine Tops_step rfl (OpT_move rfl rfl rfl rfl) ?_
  rcases Bool.eq_false_or_eq_true (decide (y1 ≤ (0 : Int))) with hg2 | hg2
  ·replace h := br_t hg2 h
   refine Tops_no rfl rfl (congrArg (fun b => some (Value.bool b)) hg2) rfl rfl ?_
   refine Tops_no rfl rfl (congrArg (fun b => some (Value.bool b)) hg2) rfl rfl ?_
   refine Tops_no rfl rfl (congrArg (fun b => some (Value.bool b)) hg2) rfl rfl ?_
   refine Tops_no rfl rfl (congrArg (fun b => some (Value.bool b)) hg2) rfl rfl ?_
   refine Tops_no rfl rfl (congrArg (fun b => some (Value.bool b)) hg2) rfl rfl ?_
   refine Tops_no rfl rfl (congrArg (fun b => some (Value.bool b)) hg2) rfl rfl ?_
   refine Tops_no rfl rfl (congrArg (fun b => some (Value.bool b)) hg2) rfl rfl ?_
   refine Tops_no rfl rfl (congrArg (fun b => some (Value.bool b)) hg2) rfl rfl ?_
   refine Tops_no rfl rfl (congrArg (fun b => some (Value.bool b)) hg2) rfl rfl ?_
   refine Tops_step rfl (OpT_pickT rfl rfl rfl (congrArg (fun b => some (Value.bool b)) hg2) rfl) ?_
   refine Tops_nil (tZ [0, 1, 2, 9, 10, 11, 43] [0] [0] rfl rfl rfl rfl ?_)
   refine Tk_condT rfl ?_
   refine Tk_exit _ rfl ?_
   refine Tk_region (Tops_step rfl (OpT_move rfl rfl rfl rfl) ?_)
   refine Tops_step rfl (OpT_bin rfl rfl rfl rfl rfl (bin_add_i (a := i1) (b := (1 : Int)))) ?_
   refine Tops_step rfl (OpT_assign rfl rfl rfl rfl) ?_
   refine Tops_nil (tZ [0, 1, 2, 9, 10, 11] [0] [0] rfl rfl rfl rfl ?_)
   exact Tk_backS (l1, more1, at1, wi (i1 + (1 : Int)), v1) h [0, 1, 2, 9, 10, 11] [0] [0] rfl rfl rfl rfl rfl
  ·replace h := br_f hg2 h
   refine Tops_yes rfl rfl (congrArg (fun b => some (Value.bool b)) hg2) (OpT_move rfl rfl rfl rfl) ?_
   rintro _ rfl
   refine Tops_yes rfl rfl (congrArg (fun b => some (Value.bool b)) hg2) (OpT_move rfl rfl rfl rfl) ?_
   rintro _ rfl
   obtain ⟨y2, hx3, h⟩ := ob_e h
   refine Tops_yes rfl rfl (congrArg (fun b => some (Value.bool b)) hg2) (OpT_idxS rfl rfl rfl rfl rfl slF23 (i := 0) rfl hx3) ?_
   rintro _ ⟨p2, rfl⟩
   refine Tops_yes rfl rfl (congrArg (fun b => some (Value.bool b)) hg2) (OpT_loadP rfl rfl rfl rfl tyF3 (i := 2) rfl rfl) ?_
   rintro _ rfl
   refine Tops_yes rfl rfl (congrArg (fun b => some (Value.bool b)) hg2) (OpT_cnv rfl rfl rfl rfl (cnv_i_u64 (n := y2) Try.underlying3 Try.underlying29)) ?_
   rintro _ rfl
   refine Tops_yes rfl rfl (congrArg (fun b => some (Value.bool b)) hg2) (OpT_move rfl rfl rfl rfl) ?_
   rintro _ rfl
   refine Tops_yes rfl rfl (congrArg (fun b => some (Value.bool b)) hg2) (OpT_move rfl rfl rfl rfl) ?_
   rintro _ rfl
   refine Tops_yes rfl rfl (congrArg (fun b => some (Value.bool b)) hg2) (OpT_bin rfl rfl rfl rfl rfl (bin_sub_u64 (a := total1.1 + total1.2) (b := at1))) ?_
   rintro _ rfl
   refine Tops_yes rfl rfl (congrArg (fun b => some (Value.bool b)) hg2) (OpT_bin rfl rfl rfl rfl rfl (bin_geq_u64 (a := u64 y2) (b := (total1.1 + total1.2) - at1))) ?_
   rintro _ rfl
   refine Tops_step rfl (OpT_pickF rfl rfl rfl (congrArg (fun b => some (Value.bool b)) hg2) rfl) ?_
   refine Tops_nil (tZ [0, 1, 2, 9, 10, 11, 43] [0] [0] rfl rfl rfl rfl ?_)
   rcases Bool.eq_false_or_eq_true (decide ((u64 y2) ≥ ((total1.1 + total1.2) - at1))) with hg3 | hg3
   ·replace h := br_t hg3 h
    refine Tk_condT (congrArg (fun b => some (Value.bool b)) hg3) ?_
    refine Tk_exit _ rfl ?_
    refine Tk_region (Tops_step rfl (OpT_move rfl rfl rfl rfl) ?_)
    refine Tops_step rfl (OpT_bin rfl rfl rfl rfl rfl (bin_add_i (a := i1) (b := (1 : Int)))) ?_
    refine Tops_step rfl (OpT_assign rfl rfl rfl rfl) ?_
    refine Tops_nil (tZ [0, 1, 2, 9, 10, 11] [0] [0] rfl rfl rfl rfl ?_)
    exact Tk_backS (l1, more1, at1, wi (i1 + (1 : Int)), v1) h [0, 1, 2, 9, 10, 11] [0] [0] rfl rfl rfl rfl rfl
   ·replace h := br_f hg3 h
    refine Tk_condF (congrArg (fun b => some (Value.bool b)) hg3) ?_
    refine Tk_skip (Tk_seq (Tk_region (Tops_step rfl (OpT_move rfl rfl rfl rfl) ?_)))
    refine Tops_step rfl (OpT_move rfl rfl rfl rfl) ?_
    refine Tops_step rfl (OpT_move rfl rfl rfl rfl) ?_
    obtain ⟨y3, hx4, h⟩ := ob_e h
    refine Tops_ex rfl (OpT_idxS rfl rfl rfl rfl rfl slF23 (i := 0) rfl hx4) fun p3 => ?_
    refine Tops_step rfl (OpT_loadP rfl rfl rfl rfl tyF3 (i := 1) rfl rfl) ?_
    refine Tops_step rfl (OpT_cnv rfl rfl rfl rfl (cnv_i_u64 (n := y3) Try.underlying3 Try.underlying29)) ?_
    refine Tops_step rfl (OpT_bin rfl rfl rfl rfl rfl (bin_add_u64 (a := at1) (b := u64 y3))) ?_
    refine Tops_step rfl (OpT_assign rfl rfl rfl rfl) ?_
    refine Tops_nil (tZ [0, 1, 2, 9, 11, 12] [0] [0] rfl rfl rfl rfl ?_)
    refine Tk_seq (Tk_region (Tops_step rfl (OpT_move rfl rfl rfl rfl) ?_))
    refine Tops_step rfl (OpT_move rfl rfl rfl rfl) ?_
    obtain ⟨cut1, hx5, h⟩ := ob_e h
    refine Tops_exP rfl (OpT_callB [0] [0, 1] (w_seg_Cut hx5) [] rfl rfl rfl rfl rfl callee71 rfl rfl rfl rfl rfl rfl (bor_cons (bor_row 0 rfl rfl) bor_nil) (by rintro _ _ _ ⟨_, rfl, rfl, rfl⟩; exact ⟨rfl, (ri_cons (ri_row (S := SegS) rfl _ _) ri_nil)⟩)) ?_
    rintro _ ⟨v2, _, _, ⟨_, rfl, rfl, rfl⟩, rfl⟩
    refine Tops_step rfl (OpT_move rfl rfl rfl rfl) ?_
    refine Tops_step rfl (OpT_move rfl rfl rfl rfl) ?_
    refine Tops_step rfl (OpT_move rfl rfl rfl rfl) ?_
    obtain ⟨cut2, hx6, h⟩ := ob_e h
    refine Tops_exP rfl (OpT_callB [0] [0, 1, 2] (w_seg_Cut hx6) [] rfl rfl rfl rfl rfl callee71 rfl rfl rfl rfl rfl rfl (bor_cons (bor_row 0 rfl rfl) bor_nil) (by rintro _ _ _ ⟨_, rfl, rfl, rfl⟩; exact ⟨rfl, (ri_cons (ri_row (S := SegS) rfl _ _) ri_nil)⟩)) ?_
    rintro _ ⟨v3, _, _, ⟨_, rfl, rfl, rfl⟩, rfl⟩
    obtain ⟨hc1, h⟩ := chk_e h
    refine Tops_ex rfl (OpT_appendB (S := SegS) rfl rfl rfl rfl rfl rfl slF22 (i := 1) (j := 2) rfl rfl hc1) fun v4 => ?_
    refine Tops_step rfl (OpT_assign rfl rfl rfl rfl) ?_
    refine Tops_nil (tZ [0, 1, 2, 9, 11, 12, 13] [0, 1] [0] rfl rfl rfl rfl ?_)
    refine Tk_seq (Tk_seq (Tk_region (Tops_step rfl (OpT_move rfl rfl rfl rfl) ?_)))
    refine Tops_step rfl (OpT_lenO rfl rfl rfl rfl Try.underlying22 (i := 1) rfl) ?_
    refine Tops_step rfl (OpT_move rfl rfl rfl rfl) ?_
    refine Tops_step rfl (OpT_lenO rfl rfl rfl rfl Try.underlying22 (i := 0) rfl) ?_
    refine Tops_step rfl (OpT_bin rfl rfl rfl rfl rfl (bin_gtr_i (a := len (cut1 ++ cut2)) (b := len l1))) ?_
    refine Tops_nil (tZ [0, 1, 2, 9, 11, 12, 13, 63] [0, 1] [0] rfl rfl rfl rfl ?_)
    refine Tk_join (α := Int) (fun s => ⟨[(1, some (vcuts1)), (2, some (vI s)), (9, some (vU64 (total1.1 + total1.2))), (11, some (vI i1)), (12, some (vU64 (at1 + (u64 y3)))), (13, some (v4))], [some (rowS SegS v4 (cut1 ++ cut2))], [Fact.sl iS vcuts1 cuts]⟩) (fun s => blkdrv_splitJ2 at1 i1 (blkdrv_splitL1 cuts total1 nf1) y3 cut1 cut2 s = some r) ?_ ?_
    ·rintro more2 h
     replace h : blkdrv_splitJ2 at1 i1 (blkdrv_splitL1 cuts total1 nf1) y3 cut1 cut2 more2 = some r := h
     unfold blkdrv_splitJ2 at h
     refine Tk_region (Tops_step rfl (OpT_move rfl rfl rfl rfl) ?_)
     refine Tops_step rfl (OpT_move rfl rfl rfl rfl) ?_
     refine Tops_step rfl (OpT_assign rfl rfl rfl rfl) ?_
     refine Tops_step rfl (OpT_assign rfl rfl rfl rfl) ?_
     refine Tops_nil (tZ [1, 2, 9, 11, 0, 10] [0] [0] rfl rfl rfl rfl ?_)
     refine Tk_blk (Tk_region (Tops_step rfl (OpT_move rfl rfl rfl rfl) ?_))
     refine Tops_step rfl (OpT_bin rfl rfl rfl rfl rfl (bin_add_i (a := i1) (b := (1 : Int)))) ?_
     refine Tops_step rfl (OpT_assign rfl rfl rfl rfl) ?_
     refine Tops_nil (tZ [1, 2, 9, 11, 0, 10] [0] [0] rfl rfl rfl rfl ?_)
     exact Tk_backS (cut1 ++ cut2, more2, at1 + (u64 y3), wi (i1 + (1 : Int)), v4) h [0, 1, 2, 9, 10, 11] [0] [0] rfl rfl rfl rfl rfl
    ·intro HJ1
     rcases Bool.eq_false_or_eq_true (decide ((len (cut1 ++ cut2)) > (len l1))) with hg4 | hg4
     ·replace h := br_t hg4 h
      refine Tk_condT (congrArg (fun b => some (Value.bool b)) hg4) ?_
      refine Tk_seq (Tk_seq (Tk_region (Tops_step rfl (OpT_move rfl rfl rfl rfl) ?_)))
      refine Tops_step rfl (OpT_bin rfl rfl rfl rfl rfl (bin_eql_i (a := more1) (b := (0 : Int)))) ?_
      refine Tops_nil (tZ [0, 1, 2, 9, 11, 12, 13, 65] [0, 1] [0] rfl rfl rfl rfl ?_)
      rcases Bool.eq_false_or_eq_true (more1 == (0 : Int)) with hg5 | hg5
      ·replace h := br_t hg5 h
       refine Tk_condT (congrArg (fun b => some (Value.bool b)) hg5) ?_
       refine Tk_exit _ rfl ?_
       refine Tk_seq (Tk_region (Tops_step rfl (OpT_move rfl rfl rfl rfl) ?_))
       refine Tops_step rfl (OpT_assign rfl rfl rfl rfl) ?_
       refine Tops_nil (tZ [6] [0] [] rfl rfl rfl rfl ?_)
       obtain rfl := Option.some.inj h
       exact Tk_retV rfl rfl (resA (vs := [v1]) rfl ⟨rfl, trivial⟩) [0] [] rfl rfl rfl ⟨v1, rfl, rfl, rfl⟩
      ·replace h := br_f hg5 h
       refine Tk_condF (congrArg (fun b => some (Value.bool b)) hg5) ?_
       refine Tk_skip (Tk_region (Tops_step rfl (OpT_move rfl rfl rfl rfl) ?_))
       refine Tops_step rfl (OpT_bin rfl rfl rfl rfl rfl (bin_sub_i (a := more1) (b := (1 : Int)))) ?_
       refine Tops_step rfl (OpT_assign rfl rfl rfl rfl) ?_
       refine Tops_nil (tZ [1, 2, 9, 11, 12, 13] [1] [0] rfl rfl rfl rfl ?_)
       exact Tk_jmpS (HJ1 (wi (more1 - (1 : Int))) h) [1, 2, 9, 11, 12, 13] [0] [0] rfl rfl rfl rfl
     ·replace h := br_f hg4 h
      refine Tk_condF (congrArg (fun b => some (Value.bool b)) hg4) ?_
      refine Tk_skip ?_
      exact Tk_jmpS (HJ1 more1 h) [1, 2, 9, 11, 12, 13] [1] [0] rfl rfl rfl rfl
 ·replace h := br_f hg1 h
  refine Tk_condF (congrArg (fun b => some (Value.bool b)) hg1) ?_
  refine Tk_exit _ rfl ?_
  refine Tk_seq (Tk_region (Tops_step rfl (OpT_move rfl rfl rfl rfl) ?_))
  refine Tops_step rfl (OpT_assign rfl rfl rfl rfl) ?_
  refine Tops_nil (tZ [6] [0] [] rfl rfl rfl rfl ?_)
  obtain rfl := Option.some.inj h
  exact Tk_retV rfl rfl (resA (vs := [v1]) rfl ⟨rfl, trivial⟩) [0] [] rfl rfl rfl ⟨v1, rfl, rfl, rfl⟩

set_option maxRecDepth 100000 in
set_option maxHeartbeats 4000000 in
theorem w_blkdrv_Cut {l : List Seg} {cuts : List Int} {vl1 : Value} {vcuts1 : Value} {r : (List Seg)} (h : blkdrv_Cut l cuts = some r) :
  Ctr Try.prog 9 #[vl1, vcuts1] [] [Fact.sl SegS vl1 l, Fact.sl iS vcuts1 cuts]
   (fun rv own shr => ∃ (w1 : Value), rv = w1 ∧ own = [(rowS SegS w1 r)] ∧ shr = []) := by
 unfold blkdrv_Cut at h
 refine Ctr.mk (args := [vl1, vcuts1]) Try.func9 rfl rfl (fun R0 w0 B => ?_)
 refine Tk_seq (Tk_region (Tops_step rfl (OpT_assign rfl rfl rfl rfl) ?_))
 refine Tops_nil (tZ [0, 1] [] [0, 1] rfl rfl rfl rfl ?_)
 refine Tk_seq (Tk_seq (Tk_region (Tops_step rfl (OpT_move rfl rfl rfl rfl) ?_)))
 obtain ⟨check1, hx1, h⟩ := ob_e h
 refine Tops_exP rfl (OpT_call (w_seg_Check hx1) [] [0] rfl rfl rfl rfl rfl callee39 rfl rfl rfl rfl) ?_
 rintro _ ⟨_, _, _, ⟨rfl, rfl, rfl⟩, rfl⟩
 refine Tops_step rfl (OpT_bin rfl rfl rfl rfl rfl (bin_neq_i (a := check1) (b := (0 : Int)))) ?_
 refine Tops_nil (tZ [0, 1, 9] [] [0, 1] rfl rfl rfl rfl ?_)
 rcases Bool.eq_false_or_eq_true (check1 != (0 : Int)) with hg1 | hg1
 ·replace h := br_t hg1 h
  refine Tk_condT (congrArg (fun b => some (Value.bool b)) hg1) ?_
  refine Tk_seq (Tk_region (Tops_step rfl (OpT_assign rfl rfl rfl rfl) ?_))
  refine Tops_nil (tZ [4] [] [] rfl rfl rfl rfl ?_)
  refine Tk_nilrow SegS ?_
  obtain rfl := Option.some.inj h
  exact Tk_retV rfl rfl (resA (vs := [.slice none 0 0]) rfl ⟨rfl, trivial⟩) [0] [] rfl rfl rfl ⟨(.slice none 0 0), rfl, rfl, rfl⟩
 ·replace h := br_f hg1 h
  refine Tk_condF (congrArg (fun b => some (Value.bool b)) hg1) ?_
  refine Tk_skip (Tk_seq (Tk_region (Tops_step rfl (OpT_move rfl rfl rfl rfl) ?_)))
  obtain ⟨part1, hx2, h⟩ := ob_e h
  refine Tops_exP rfl (OpT_call (w_seg_Part hx2) [] [0] rfl rfl rfl rfl rfl callee40 rfl rfl rfl rfl) ?_
  rintro _ ⟨v1, _, _, ⟨_, rfl, rfl, rfl⟩, rfl⟩
  refine Tops_step rfl (OpT_move rfl rfl rfl rfl) ?_
  obtain ⟨part2, hx3, h⟩ := ob_e h
  refine Tops_exP rfl (OpT_call (w_seg_Part hx3) [] [0] rfl rfl rfl rfl rfl callee40 rfl rfl rfl rfl) ?_
  rintro _ ⟨v2, _, _, ⟨_, rfl, rfl, rfl⟩, rfl⟩
  refine Tops_step rfl (OpT_assign rfl rfl rfl rfl) ?_
  refine Tops_step rfl (OpT_assign rfl rfl rfl rfl) ?_
  refine Tops_nil (tZ [0, 1, 5, 6] [0, 1] [0, 1] rfl rfl rfl rfl ?_)
  refine Tk_seq (Tk_region (Tops_step rfl (OpT_move rfl rfl rfl rfl) ?_))
  refine Tops_step rfl (OpT_move rfl rfl rfl rfl) ?_
  refine Tops_step rfl (OpT_move rfl rfl rfl rfl) ?_
  refine Tops_step rfl (OpT_lenS rfl rfl rfl rfl Try.underlying22 (i := 0) rfl) ?_
  refine Tops_step rfl (OpT_bin rfl rfl rfl rfl rfl (bin_sub_i (a := (64 : Int)) (b := len l))) ?_
  obtain ⟨split1, hx4, h⟩ := ob_e h
  refine Tops_exP rfl (OpT_call (w_blkdrv_split hx4) [0] [1] rfl rfl rfl rfl rfl callee41 rfl rfl rfl rfl) ?_
  rintro _ ⟨v3, _, _, ⟨_, rfl, rfl, rfl⟩, rfl⟩
  refine Tops_step rfl (OpT_assign rfl rfl rfl rfl) ?_
  refine Tops_nil (tZ [1, 5, 6] [1, 2] [1] rfl rfl rfl rfl ?_)
  refine Tk_seq (Tk_region (Tops_step rfl (OpT_move rfl rfl rfl rfl) ?_))
  refine Tops_step rfl (OpT_move rfl rfl rfl rfl) ?_
  refine Tops_step rfl (OpT_move rfl rfl rfl rfl) ?_
  refine Tops_step rfl (OpT_lenO rfl rfl rfl rfl Try.underlying22 (i := 1) rfl) ?_
  refine Tops_step rfl (OpT_bin rfl rfl rfl rfl rfl (bin_sub_i (a := (64 : Int)) (b := len split1))) ?_
  refine Tops_step rfl (OpT_move rfl rfl rfl rfl) ?_
  refine Tops_step rfl (OpT_lenO rfl rfl rfl rfl Try.underlying22 (i := 0) rfl) ?_
  refine Tops_step rfl (OpT_bin rfl rfl rfl rfl rfl (bin_sub_i (a := wi ((64 : Int) - (len split1))) (b := len part2))) ?_
  obtain ⟨split2, hx5, h⟩ := ob_e h
  refine Tops_exP rfl (OpT_call (w_blkdrv_split hx5) [0] [0] rfl rfl rfl rfl rfl callee41 rfl rfl rfl rfl) ?_
  rintro _ ⟨v4, _, _, ⟨_, rfl, rfl, rfl⟩, rfl⟩
  refine Tops_step rfl (OpT_assign rfl rfl rfl rfl) ?_
  refine Tops_nil (tZ [5, 6] [1, 2] [] rfl rfl rfl rfl ?_)
  refine Tk_seq (Tk_region (Tops_step rfl (OpT_move rfl rfl rfl rfl) ?_))
  refine Tops_step rfl (OpT_move rfl rfl rfl rfl) ?_
  obtain ⟨hc1, h⟩ := chk_e h
  refine Tops_ex rfl (OpT_appendB (S := SegS) rfl rfl rfl rfl rfl rfl slF22 (i := 0) (j := 1) rfl rfl hc1) fun v5 => ?_
  refine Tops_step rfl (OpT_assign rfl rfl rfl rfl) ?_
  refine Tops_nil (tZ [4] [0] [] rfl rfl rfl rfl ?_)
  obtain rfl := Option.some.inj h
  exact Tk_retV rfl rfl (resA (vs := [v5]) rfl ⟨rfl, trivial⟩) [0] [] rfl rfl rfl ⟨v5, rfl, rfl, rfl⟩

set_option maxRecDepth 100000 in
set_option maxHeartbeats 4000000 in
theorem w_blk_ranged {tp0 : UInt32} {r : Bool} (h : blk_ranged tp0 = some r) :
  Ctr Try.prog 86 #[vU32 tp0] [] []
   (fun rv own shr => rv = vB r ∧ own = [] ∧ shr = []) := by
 unfold blk_ranged at h
 refine Ctr.mk (args := [vU32 tp0]) Try.func86 rfl rfl (fun R0 w0 B => ?_)
 refine Tk_seq (Tk_region (Tops_step rfl (OpT_assign rfl rfl rfl rfl) ?_))
 refine Tops_nil (tZ [0] [] [] rfl rfl rfl rfl ?_)
 refine Tk_seq (Tk_region (Tops_step rfl (OpT_move rfl rfl rfl rfl) ?_))
 refine Tops_step rfl (OpT_bin rfl rfl rfl rfl rfl (bin_eql_u32 (a := tp0) (b := (11 : UInt32)))) ?_
 refine Tops_step rfl (OpT_move rfl rfl rfl rfl) ?_
 rcases Bool.eq_false_or_eq_true (tp0 == (11 : UInt32)) with hg1 | hg1
 ·replace h := br_t hg1 h
  refine Tops_no rfl rfl (congrArg (fun b => some (Value.bool b)) hg1) rfl rfl ?_
  refine Tops_no rfl rfl (congrArg (fun b => some (Value.bool b)) hg1) rfl rfl ?_
  refine Tops_step rfl (OpT_pickT rfl rfl rfl (congrArg (fun b => some (Value.bool b)) hg1) rfl) ?_
  refine Tops_step rfl (OpT_assign rfl rfl rfl rfl) ?_
  refine Tops_nil (tZ [2] [] [] rfl rfl rfl rfl ?_)
  obtain rfl := Option.some.inj h
  exact Tk_retV rfl rfl (resA (vs := [vB true]) rfl ⟨rfl, trivial⟩) [] [] rfl rfl rfl ⟨rfl, rfl, rfl⟩
 ·replace h := br_f hg1 h
  refine Tops_yes rfl rfl (congrArg (fun b => some (Value.bool b)) hg1) (OpT_move rfl rfl rfl rfl) ?_
  rintro _ rfl
  refine Tops_yes rfl rfl (congrArg (fun b => some (Value.bool b)) hg1) (OpT_bin rfl rfl rfl rfl rfl (bin_eql_u32 (a := tp0) (b := (13 : UInt32)))) ?_
  rintro _ rfl
  refine Tops_step rfl (OpT_pickF rfl rfl rfl (congrArg (fun b => some (Value.bool b)) hg1) rfl) ?_
  refine Tops_step rfl (OpT_assign rfl rfl rfl rfl) ?_
  refine Tops_nil (tZ [2] [] [] rfl rfl rfl rfl ?_)
  obtain rfl := Option.some.inj h
  exact Tk_retV rfl rfl (resA (vs := [vB (tp0 == (13 : UInt32))]) rfl ⟨rfl, trivial⟩) [] [] rfl rfl rfl ⟨rfl, rfl, rfl⟩
end Go.Proofs.Ytkmjpgfbcklopaa
