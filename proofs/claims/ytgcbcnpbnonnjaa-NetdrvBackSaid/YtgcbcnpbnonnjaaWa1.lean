/- The functions do what the plain words say: each is walked once. No statement of the seat is proved here; no condition. -/
import Derived.Test.YtgcbcnpbnonnjaaMo1
import Derived.Test.YtgcbcnpbnonnjaaFc
namespace Go.Proofs.Ytgcbcnpbnonnjaa
attribute [local irreducible] sub
set_option maxRecDepth 100000 in
set_option maxHeartbeats 4000000 in
theorem wb_seg_Check_1 {arg0 : Int} {arg1 : UInt64} {b_arg0 : Nat} {b_arg1 : Nat} {r : Int} (h : Yl arg0 arg1 = some r) :
  BodyOk Try.prog 71 [.pointer (some ⟨b_arg0, 0, none⟩), .pointer (some ⟨b_arg1, 0, none⟩)] [(Qd b_arg0 30 [vI arg0]), (Qd b_arg1 22 [vU64 arg1])] []
   (fun rv own shr => rv = .tuple #[] ∧ own = [(Qd b_arg0 30 [vI r]), (Qd b_arg1 22 [vU64 arg1])] ∧ shr = []) := by
 unfold Yl at h
 refine BodyOk.mk Try.func71 rfl rfl (fun R0 w0 B => ?_)
 refine Qe (Qb (Qa rfl (Qp rfl rfl rfl rfl tyF30 (i := 0) rfl rfl) ?_))
 refine Qa rfl (Qg rfl rfl rfl rfl rfl (Xh (a := arg0) (b := (0 : Int)))) ?_
 refine sMv rfl rfl rfl ?_
 rcases bC (arg0 == (0 : Int)) with hg1 | hg1
 ·replace h := br_t hg1 h
  refine Qi rfl rfl (cgb hg1) (Qp rfl rfl rfl rfl Xc (i := 1) rfl rfl) ?_
  rintro _ rfl
  refine Qi rfl rfl (cgb hg1) (Qg rfl rfl rfl rfl rfl (Yt (a := arg1) (b := (4294967296 : UInt64)))) ?_
  rintro _ rfl
  refine Qa rfl (Qw rfl rfl rfl (cgb hg1) rfl) ?_
  refine nW [(0, some (.pointer (some ⟨b_arg0, 0, none⟩))), (7, some (vB (decide (arg1 ≥ (4294967296 : UInt64)))))] [some (Qd b_arg0 30 [vI arg0]), some (Qd b_arg1 22 [vU64 arg1])] [] [0, 7] [0, 1] [] rfl ?_
  rcases bC (decide (arg1 ≥ (4294967296 : UInt64))) with hg2 | hg2
  ·replace h := br_t hg2 h
   refine Ql (cgb hg2) ?_
   refine Qb (Qa rfl (QE (cs' := [vI (2 : Int)]) rfl rfl rfl rfl tyF30 (i := 0) rfl rfl rfl (ZE rfl) rfl) ?_)
   refine QT ?_
   obtain rfl := Option.some.inj h
   exact Tk_endV rfl rfl (resA (vs := []) rfl trivial) [0, 1] [] rfl rfl rfl ⟨rfl, rfl, rfl⟩
  ·replace h := br_f hg2 h
   refine Qm (cgb hg2) ?_
   refine Qr ?_
   obtain rfl := Option.some.inj h
   exact Tk_endV rfl rfl (resA (vs := []) rfl trivial) [0, 1] [] rfl rfl rfl ⟨rfl, rfl, rfl⟩
 ·replace h := br_f hg1 h
  refine Qh rfl rfl (cgb hg1) rfl rfl ?_
  refine Qh rfl rfl (cgb hg1) rfl rfl ?_
  refine Qa rfl (Qu rfl rfl rfl (cgb hg1) rfl) ?_
  refine nW [(0, some (.pointer (some ⟨b_arg0, 0, none⟩))), (7, some (vB false))] [some (Qd b_arg0 30 [vI arg0]), some (Qd b_arg1 22 [vU64 arg1])] [] [0, 7] [0, 1] [] rfl ?_
  refine Qm rfl ?_
  refine Qr ?_
  obtain rfl := Option.some.inj h
  exact Tk_endV rfl rfl (resA (vs := []) rfl trivial) [0, 1] [] rfl rfl rfl ⟨rfl, rfl, rfl⟩

set_option maxRecDepth 100000 in
set_option maxHeartbeats 4000000 in
theorem w_seg_Check {l : List Seg} {vl1 : Value} {r : Int} (h : Kh l = some r) :
  Ctr Try.prog 57 #[vl1] [] [Fact.sl SegS vl1 l]
   (fun rv own shr => rv = vI r ∧ own = [] ∧ shr = []) := by
 unfold Kh at h
 refine Ctr.mkD (args := [vl1]) Try.func57 rfl rfl (fun R0 w0 B => ?_)
 refine Qe (Qb (Qq rfl (Zq rfl rfl rfl tyZ30) fun b1 => ?_))
 refine QT (Qe (Qe (Qb (sMv rfl rfl rfl ?_))))
 refine Qa rfl (QB rfl rfl rfl rfl Try.underlying25 (i := 0) rfl) ?_
 refine Qa rfl (Qg rfl rfl rfl rfl rfl (ZD (a := len l) (b := (64 : Int)))) ?_
 refine nW [(0, some vl1), (2, some (.pointer (some ⟨b1, 0, none⟩))), (8, some (vB (decide ((len l) > (64 : Int)))))] [some (Qd b1 30 [vI (0 : Int)])] [Fact.sl SegS vl1 l] [0, 2, 8] [0] [0] rfl ?_
 rcases bC (decide ((len l) > (64 : Int))) with hg1 | hg1
 ·replace h := br_t hg1 h
  refine Ql (cgb hg1) ?_
  refine Qe (Qb (Qa rfl (QE (cs' := [vI (3 : Int)]) rfl rfl rfl rfl tyF30 (i := 0) rfl rfl rfl (ZE rfl) rfl) ?_))
  refine nW [(2, some (.pointer (some ⟨b1, 0, none⟩)))] [some (Qd b1 30 [vI (3 : Int)])] [] [2] [0] [] rfl ?_
  obtain rfl := Option.some.inj h
  refine Tk_retE rfl rfl ?_
  exact Tleave_mk (resA (vs := [vI (3 : Int)]) rfl ⟨⟨_, 0, _, _, _, rfl, rfl, .inr ⟨tyF30, rfl⟩⟩, trivial⟩) [] [] rfl rfl rfl ⟨rfl, rfl, rfl⟩
 ·replace h := br_f hg1 h
  refine Qm (cgb hg1) ?_
  refine Qr (Qe (Qb (Qq rfl (Zq rfl rfl rfl tyZ22) fun b2 => ?_)))
  refine Qa rfl (QE (cs' := [vU64 (0 : UInt64)]) rfl rfl rfl rfl Xc (i := 1) rfl rfl rfl (ZE rfl) rfl) ?_
  refine nW [(0, some vl1), (2, some (.pointer (some ⟨b1, 0, none⟩))), (3, some (.pointer (some ⟨b2, 0, none⟩)))] [some (Qd b1 30 [vI (0 : Int)]), some (Qd b2 22 [vU64 (0 : UInt64)])] [Fact.sl SegS vl1 l] [0, 2, 3] [0, 1] [0] rfl ?_
  refine Qe (Qb (Qa rfl (OpT_makeFunc (vs := [.pointer (some ⟨b1, 0, none⟩), .pointer (some ⟨b2, 0, none⟩)]) rfl rfl rfl rfl) ?_))
  refine Tops_defer (f := 71) (cp := [.pointer (some ⟨b1, 0, none⟩), .pointer (some ⟨b2, 0, none⟩)]) rfl rfl rfl rfl ?_
  refine nW [(0, some vl1), (2, some (.pointer (some ⟨b1, 0, none⟩))), (3, some (.pointer (some ⟨b2, 0, none⟩)))] [some (Qd b1 30 [vI (0 : Int)]), some (Qd b2 22 [vU64 (0 : UInt64)])] [Fact.sl SegS vl1 l] [0, 2, 3] [0, 1] [0] rfl ?_
  refine Qe (Qe (Qb (sMv rfl rfl rfl ?_)))
  refine Qa rfl (QB rfl rfl rfl rfl Try.underlying25 (i := 0) rfl) ?_
  refine sMv rfl rfl rfl ?_
  refine QT (Qz (Zc (σ := Int × UInt64 × Int) [0, 2, 3, 10, 11, 12] [0, 1] [0] (fun s => ⟨[(0, some vl1), (2, some (.pointer (some ⟨b1, 0, none⟩))), (3, some (.pointer (some ⟨b2, 0, none⟩))), (10, some vl1), (11, some (vI (len l))), (12, some (vI s.2.2))], [some (Qd b1 30 [vI s.1]), some (Qd b2 22 [vU64 s.2.1])], [Fact.sl SegS vl1 l]⟩) (fun nf1 s => YT l nf1 s.1 s.2.1 s.2.2 = some r) fuel ((0 : Int), (0 : UInt64), (0 : Int)) h rfl rfl rfl rfl rfl (fun s h => by cases h) ?_))
  rintro nf1 ⟨m1, m2, x1⟩ h
  replace h : seg_CheckL1B l (YT l nf1) m1 m2 x1 = some r := h
  unfold seg_CheckL1B at h
  refine Qe (Qb (Qa rfl (Qg rfl rfl rfl rfl rfl (QK (a := x1) (b := len l))) ?_))
  refine QT (Qe ?_)
  rcases bC (decide (x1 < (len l))) with hg2 | hg2
  ·replace h := br_t hg2 h
   refine Ql (cgb hg2) ?_
   refine Qr (Qe (Qz (Qe (Qb (sMv rfl rfl rfl ?_)))))
   obtain ⟨s1, hx1, h⟩ := ob_e h
   refine Qq rfl (QA rfl rfl rfl rfl rfl XS (i := 0) rfl hx1) fun p1 => ?_
   refine Qa rfl (XR (vs := [vU64 s1.At, vU32 s1.Len, vB s1.Write]) rfl rfl rfl rfl tyF29 (i := 1) rfl rfl) ?_
   refine Qq rfl (Zq rfl rfl rfl tyZ29) fun b3 => ?_
   refine sAs rfl rfl rfl ?_
   refine Qa rfl (QE (cs' := [vU64 s1.At, vU32 s1.Len, vB s1.Write]) rfl rfl rfl rfl tyF29 (i := 2) rfl rfl rfl (ZE rfl) rfl) ?_
   refine nW [(0, some vl1), (2, some (.pointer (some ⟨b1, 0, none⟩))), (3, some (.pointer (some ⟨b2, 0, none⟩))), (10, some vl1), (11, some (vI (len l))), (12, some (vI x1)), (5, some (.pointer (some ⟨b3, 0, none⟩))), (4, some (vI x1))] [some (Qd b1 30 [vI m1]), some (Qd b2 22 [vU64 m2]), some (Qd b3 29 [vU64 s1.At, vU32 s1.Len, vB s1.Write])] [Fact.sl SegS vl1 l] [0, 2, 3, 10, 11, 12, 5, 4] [0, 1, 2] [0] rfl ?_
   refine Qe (Qe (Qb (Qa rfl (Qo rfl rfl rfl rfl ZV) ?_)))
   refine Qa rfl (Qp rfl rfl rfl rfl tyF27 (i := 2) rfl rfl) ?_
   refine Qa rfl (Qg rfl rfl rfl rfl rfl (bin_lss_u32 (a := s1.Len) (b := (1 : UInt32)))) ?_
   refine sMv rfl rfl rfl ?_
   rcases bC (decide (s1.Len < (1 : UInt32))) with hg3 | hg3
   ·replace h := br_t hg3 h
    refine Qh rfl rfl (cgb hg3) rfl rfl ?_
    refine Qh rfl rfl (cgb hg3) rfl rfl ?_
    refine Qh rfl rfl (cgb hg3) rfl rfl ?_
    refine Qh rfl rfl (cgb hg3) rfl rfl ?_
    refine Qh rfl rfl (cgb hg3) rfl rfl ?_
    refine Qh rfl rfl (cgb hg3) rfl rfl ?_
    refine Qh rfl rfl (cgb hg3) rfl rfl ?_
    refine Qh rfl rfl (cgb hg3) rfl rfl ?_
    refine Qa rfl (Qw rfl rfl rfl (cgb hg3) rfl) ?_
    refine sMv rfl rfl rfl ?_
    refine Qh rfl rfl rfl rfl rfl ?_
    refine Qh rfl rfl rfl rfl rfl ?_
    refine Qh rfl rfl rfl rfl rfl ?_
    refine Xb rfl rfl rfl rfl rfl ?_
    refine Xb rfl rfl rfl rfl rfl ?_
    refine Xb rfl rfl rfl rfl rfl ?_
    refine Xb rfl rfl rfl rfl rfl ?_
    refine Xb rfl rfl rfl rfl rfl ?_
    refine Xb rfl rfl rfl rfl rfl ?_
    refine Qh rfl rfl rfl rfl rfl ?_
    refine Qh rfl rfl rfl rfl rfl ?_
    refine Xb rfl rfl rfl rfl rfl ?_
    refine Xb rfl rfl rfl rfl rfl ?_
    refine Xb rfl rfl rfl rfl rfl ?_
    refine Qh rfl rfl rfl rfl rfl ?_
    refine Qa rfl (Qw rfl rfl rfl rfl rfl) ?_
    refine nW [(0, some vl1), (2, some (.pointer (some ⟨b1, 0, none⟩))), (3, some (.pointer (some ⟨b2, 0, none⟩))), (10, some vl1), (11, some (vI (len l))), (12, some (vI x1)), (5, some (.pointer (some ⟨b3, 0, none⟩))), (46, some (vB true))] [some (Qd b1 30 [vI m1]), some (Qd b2 22 [vU64 m2]), some (Qd b3 29 [vU64 s1.At, vU32 s1.Len, vB s1.Write])] [Fact.sl SegS vl1 l] [0, 2, 3, 10, 11, 12, 5, 46] [0, 1, 2] [0] rfl ?_
    refine Ql rfl ?_
    refine Qe (Qb (Qa rfl (QE (cs' := [vI (2 : Int)]) rfl rfl rfl rfl tyF30 (i := 0) rfl rfl rfl (ZE rfl) rfl) ?_))
    refine nW [(2, some (.pointer (some ⟨b1, 0, none⟩)))] [some (Qd b1 30 [vI (2 : Int)]), some (Qd b2 22 [vU64 m2])] [] [2] [0, 1] [] rfl ?_
    obtain ⟨check1, hx2, h⟩ := ob_e h
    obtain rfl := Option.some.inj h
    refine Tk_retD rfl (f := 71) (cp := [.pointer (some ⟨b1, 0, none⟩), .pointer (some ⟨b2, 0, none⟩)]) rfl callee71 (wb_seg_Check_1 hx2).ctrD [0, 1] [] rfl rfl rfl ?_
    rintro _ _ _ ⟨rfl, rfl, rfl⟩
    exact Tleave_mk (resA (vs := [vI check1]) rfl ⟨⟨_, 2, _, _, _, rfl, rfl, .inr ⟨tyF30, rfl⟩⟩, trivial⟩) [] [] rfl rfl rfl ⟨rfl, rfl, rfl⟩
   ·replace h := br_f hg3 h
    refine Qi rfl rfl (cgb hg3) (Qo rfl rfl rfl rfl ZV) ?_
    rintro _ rfl
    refine Qi rfl rfl (cgb hg3) (Qp rfl rfl rfl rfl tyF27 (i := 2) rfl rfl) ?_
    rintro _ rfl
    refine Qi rfl rfl (cgb hg3) (QM rfl rfl rfl rfl (Zm (n := s1.Len) Try.underlying27 Try.underlying22)) ?_
    rintro _ rfl
    refine Qi rfl rfl (cgb hg3) (Qg rfl rfl rfl rfl rfl (Zu (a := s1.Len.toUInt64) (b := (1 : UInt64)))) ?_
    rintro _ rfl
    refine Qi rfl rfl (cgb hg3) (Qo rfl rfl rfl rfl fldF29x0) ?_
    rintro _ rfl
    refine Qi rfl rfl (cgb hg3) (Qp rfl rfl rfl rfl Xc (i := 2) rfl rfl) ?_
    rintro _ rfl
    refine Qi rfl rfl (cgb hg3) (Qg rfl rfl rfl rfl rfl (Zu (a := (18446744073709551615 : UInt64)) (b := s1.At))) ?_
    rintro _ rfl
    refine Qi rfl rfl (cgb hg3) (Qg rfl rfl rfl rfl rfl (Ys (a := s1.Len.toUInt64 - (1 : UInt64)) (b := (18446744073709551615 : UInt64) - s1.At))) ?_
    rintro _ rfl
    refine Qa rfl (Qu rfl rfl rfl (cgb hg3) rfl) ?_
    refine sMv rfl rfl rfl ?_
    rcases bC (decide ((s1.Len.toUInt64 - (1 : UInt64)) > ((18446744073709551615 : UInt64) - s1.At))) with hg4 | hg4
    ·replace h := br_t hg4 h
     refine Qh rfl rfl (cgb hg4) rfl rfl ?_
     refine Qh rfl rfl (cgb hg4) rfl rfl ?_
     refine Qh rfl rfl (cgb hg4) rfl rfl ?_
     refine Xb rfl rfl rfl rfl rfl ?_
     refine Xb rfl rfl rfl rfl rfl ?_
     refine Xb rfl rfl rfl rfl rfl ?_
     refine Xb rfl rfl rfl rfl rfl ?_
     refine Xb rfl rfl rfl rfl rfl ?_
     refine Xb rfl rfl rfl rfl rfl ?_
     refine Qh rfl rfl (cgb hg4) rfl rfl ?_
     refine Qh rfl rfl (cgb hg4) rfl rfl ?_
     refine Xb rfl rfl rfl rfl rfl ?_
     refine Xb rfl rfl rfl rfl rfl ?_
     refine Xb rfl rfl rfl rfl rfl ?_
     refine Qh rfl rfl (cgb hg4) rfl rfl ?_
     refine Qa rfl (Qw rfl rfl rfl (cgb hg4) rfl) ?_
     refine nW [(0, some vl1), (2, some (.pointer (some ⟨b1, 0, none⟩))), (3, some (.pointer (some ⟨b2, 0, none⟩))), (10, some vl1), (11, some (vI (len l))), (12, some (vI x1)), (5, some (.pointer (some ⟨b3, 0, none⟩))), (46, some (vB true))] [some (Qd b1 30 [vI m1]), some (Qd b2 22 [vU64 m2]), some (Qd b3 29 [vU64 s1.At, vU32 s1.Len, vB s1.Write])] [Fact.sl SegS vl1 l] [0, 2, 3, 10, 11, 12, 5, 46] [0, 1, 2] [0] rfl ?_
     refine Ql rfl ?_
     refine Qe (Qb (Qa rfl (QE (cs' := [vI (2 : Int)]) rfl rfl rfl rfl tyF30 (i := 0) rfl rfl rfl (ZE rfl) rfl) ?_))
     refine nW [(2, some (.pointer (some ⟨b1, 0, none⟩)))] [some (Qd b1 30 [vI (2 : Int)]), some (Qd b2 22 [vU64 m2])] [] [2] [0, 1] [] rfl ?_
     obtain ⟨check2, hx3, h⟩ := ob_e h
     obtain rfl := Option.some.inj h
     refine Tk_retD rfl (f := 71) (cp := [.pointer (some ⟨b1, 0, none⟩), .pointer (some ⟨b2, 0, none⟩)]) rfl callee71 (wb_seg_Check_1 hx3).ctrD [0, 1] [] rfl rfl rfl ?_
     rintro _ _ _ ⟨rfl, rfl, rfl⟩
     exact Tleave_mk (resA (vs := [vI check2]) rfl ⟨⟨_, 2, _, _, _, rfl, rfl, .inr ⟨tyF30, rfl⟩⟩, trivial⟩) [] [] rfl rfl rfl ⟨rfl, rfl, rfl⟩
    ·replace h := br_f hg4 h
     refine Qi rfl rfl (cgb hg4) (Qk rfl rfl rfl rfl) ?_
     rintro _ rfl
     refine Qi rfl rfl (cgb hg4) (Qg rfl rfl rfl rfl rfl (ZD (a := x1) (b := (0 : Int)))) ?_
     rintro _ rfl
     refine Qi rfl rfl (cgb hg4) (Qk rfl rfl rfl rfl) ?_
     rintro _ rfl
     rcases bC (decide (x1 > (0 : Int))) with hg5 | hg5
     ·replace h := br_t hg5 h
      refine Qi rfl rfl (cgb hg5) (Qk rfl rfl rfl rfl) ?_
      rintro _ rfl
      refine Qi rfl rfl (cgb hg5) (Qk rfl rfl rfl rfl) ?_
      rintro _ rfl
      refine Qi rfl rfl (cgb hg5) (Qg rfl rfl rfl rfl rfl (Xu (a := x1) (b := (1 : Int)))) ?_
      rintro _ rfl
      obtain ⟨s2, hx4, h⟩ := ob_e h
      refine Qi rfl rfl (cgb hg5) (QA rfl rfl rfl rfl rfl XS (i := 0) rfl hx4) ?_
      rintro _ ⟨p2, rfl⟩
      refine Qi rfl rfl (cgb hg5) (QJ (S' := bS) (y := s2.Write) rfl rfl rfl rfl Km (i := 1) rfl (by intro h cs hr; subst hr; rfl)) ?_
      rintro _ ⟨p3, rfl⟩
      refine Qi rfl rfl (cgb hg5) (QC rfl rfl rfl rfl tyF4 (i := 2) rfl rfl) ?_
      rintro _ rfl
      refine Qi rfl rfl (cgb hg4) (Qw rfl rfl rfl (cgb hg5) rfl) ?_
      rintro _ rfl
      refine Qi rfl rfl (cgb hg4) (Qk rfl rfl rfl rfl) ?_
      rintro _ rfl
      rcases bC (s2.Write) with hg6 | hg6
      ·replace h := br_t hg6 h
       refine Qi rfl rfl (cgb hg6) (Qo rfl rfl rfl rfl Km) ?_
       rintro _ rfl
       refine Qi rfl rfl (cgb hg6) (Qp rfl rfl rfl rfl tyF4 (i := 2) rfl rfl) ?_
       rintro _ rfl
       refine Qi rfl rfl (cgb hg6) (OpT_not rfl rfl rfl rfl) ?_
       rintro _ rfl
       refine Qi rfl rfl (cgb hg4) (Qw rfl rfl rfl (cgb hg6) rfl) ?_
       rintro _ rfl
       refine Qa rfl (Qu rfl rfl rfl (cgb hg4) rfl) ?_
       refine nW [(0, some vl1), (2, some (.pointer (some ⟨b1, 0, none⟩))), (3, some (.pointer (some ⟨b2, 0, none⟩))), (10, some vl1), (11, some (vI (len l))), (12, some (vI x1)), (5, some (.pointer (some ⟨b3, 0, none⟩))), (46, some (vB (!s1.Write)))] [some (Qd b1 30 [vI m1]), some (Qd b2 22 [vU64 m2]), some (Qd b3 29 [vU64 s1.At, vU32 s1.Len, vB s1.Write])] [Fact.sl SegS vl1 l] [0, 2, 3, 10, 11, 12, 5, 46] [0, 1, 2] [0] rfl ?_
       rcases bC ((!s1.Write)) with hg7 | hg7
       ·replace h := br_t hg7 h
        refine Ql (cgb hg7) ?_
        refine Qe (Qb (Qa rfl (QE (cs' := [vI (2 : Int)]) rfl rfl rfl rfl tyF30 (i := 0) rfl rfl rfl (ZE rfl) rfl) ?_))
        refine nW [(2, some (.pointer (some ⟨b1, 0, none⟩)))] [some (Qd b1 30 [vI (2 : Int)]), some (Qd b2 22 [vU64 m2])] [] [2] [0, 1] [] rfl ?_
        obtain ⟨check3, hx5, h⟩ := ob_e h
        obtain rfl := Option.some.inj h
        refine Tk_retD rfl (f := 71) (cp := [.pointer (some ⟨b1, 0, none⟩), .pointer (some ⟨b2, 0, none⟩)]) rfl callee71 (wb_seg_Check_1 hx5).ctrD [0, 1] [] rfl rfl rfl ?_
        rintro _ _ _ ⟨rfl, rfl, rfl⟩
        exact Tleave_mk (resA (vs := [vI check3]) rfl ⟨⟨_, 2, _, _, _, rfl, rfl, .inr ⟨tyF30, rfl⟩⟩, trivial⟩) [] [] rfl rfl rfl ⟨rfl, rfl, rfl⟩
       ·replace h := br_f hg7 h
        refine Qm (cgb hg7) ?_
        refine Qr (Qb (Qa rfl (Qp rfl rfl rfl rfl Xc (i := 1) rfl rfl) ?_))
        refine Qa rfl (Qo rfl rfl rfl rfl ZV) ?_
        refine Qa rfl (Qp rfl rfl rfl rfl tyF27 (i := 2) rfl rfl) ?_
        refine Qa rfl (QM rfl rfl rfl rfl (Zm (n := s1.Len) Try.underlying27 Try.underlying22)) ?_
        refine Qa rfl (Qg rfl rfl rfl rfl rfl (Zb (a := m2) (b := s1.Len.toUInt64))) ?_
        refine Qa rfl (QE (cs' := [vU64 (m2 + s1.Len.toUInt64)]) rfl rfl rfl rfl Xc (i := 1) rfl rfl rfl (ZE rfl) rfl) ?_
        refine nW [(0, some vl1), (2, some (.pointer (some ⟨b1, 0, none⟩))), (3, some (.pointer (some ⟨b2, 0, none⟩))), (10, some vl1), (11, some (vI (len l))), (12, some (vI x1))] [some (Qd b1 30 [vI m1]), some (Qd b2 22 [vU64 (m2 + s1.Len.toUInt64)])] [Fact.sl SegS vl1 l] [0, 2, 3, 10, 11, 12] [0, 1] [0] rfl ?_
        refine Zk (Qb (Qa rfl (Qg rfl rfl rfl rfl rfl (Qx (a := x1) (b := (1 : Int)))) ?_))
        refine sMv rfl rfl rfl ?_
        refine nW [(0, some vl1), (2, some (.pointer (some ⟨b1, 0, none⟩))), (3, some (.pointer (some ⟨b2, 0, none⟩))), (10, some vl1), (11, some (vI (len l))), (12, some (vI (wi (x1 + (1 : Int)))))] [some (Qd b1 30 [vI m1]), some (Qd b2 22 [vU64 (m2 + s1.Len.toUInt64)])] [Fact.sl SegS vl1 l] [0, 2, 3, 10, 11, 12] [0, 1] [0] rfl ?_
        exact QN (m1, m2 + s1.Len.toUInt64, wi (x1 + (1 : Int))) h [0, 2, 3, 10, 11, 12] [0, 1] [0] rfl rfl rfl rfl rfl
      ·replace h := br_f hg6 h
       refine Qh rfl rfl (cgb hg6) rfl rfl ?_
       refine Qh rfl rfl (cgb hg6) rfl rfl ?_
       refine Qh rfl rfl (cgb hg6) rfl rfl ?_
       refine Qi rfl rfl (cgb hg4) (Qu rfl rfl rfl (cgb hg6) rfl) ?_
       rintro _ rfl
       refine Qa rfl (Qu rfl rfl rfl (cgb hg4) rfl) ?_
       refine nW [(0, some vl1), (2, some (.pointer (some ⟨b1, 0, none⟩))), (3, some (.pointer (some ⟨b2, 0, none⟩))), (10, some vl1), (11, some (vI (len l))), (12, some (vI x1)), (5, some (.pointer (some ⟨b3, 0, none⟩))), (46, some (vB false))] [some (Qd b1 30 [vI m1]), some (Qd b2 22 [vU64 m2]), some (Qd b3 29 [vU64 s1.At, vU32 s1.Len, vB s1.Write])] [Fact.sl SegS vl1 l] [0, 2, 3, 10, 11, 12, 5, 46] [0, 1, 2] [0] rfl ?_
       refine Qm rfl ?_
       refine Qr (Qb (Qa rfl (Qp rfl rfl rfl rfl Xc (i := 1) rfl rfl) ?_))
       refine Qa rfl (Qo rfl rfl rfl rfl ZV) ?_
       refine Qa rfl (Qp rfl rfl rfl rfl tyF27 (i := 2) rfl rfl) ?_
       refine Qa rfl (QM rfl rfl rfl rfl (Zm (n := s1.Len) Try.underlying27 Try.underlying22)) ?_
       refine Qa rfl (Qg rfl rfl rfl rfl rfl (Zb (a := m2) (b := s1.Len.toUInt64))) ?_
       refine Qa rfl (QE (cs' := [vU64 (m2 + s1.Len.toUInt64)]) rfl rfl rfl rfl Xc (i := 1) rfl rfl rfl (ZE rfl) rfl) ?_
       refine nW [(0, some vl1), (2, some (.pointer (some ⟨b1, 0, none⟩))), (3, some (.pointer (some ⟨b2, 0, none⟩))), (10, some vl1), (11, some (vI (len l))), (12, some (vI x1))] [some (Qd b1 30 [vI m1]), some (Qd b2 22 [vU64 (m2 + s1.Len.toUInt64)])] [Fact.sl SegS vl1 l] [0, 2, 3, 10, 11, 12] [0, 1] [0] rfl ?_
       refine Zk (Qb (Qa rfl (Qg rfl rfl rfl rfl rfl (Qx (a := x1) (b := (1 : Int)))) ?_))
       refine sMv rfl rfl rfl ?_
       refine nW [(0, some vl1), (2, some (.pointer (some ⟨b1, 0, none⟩))), (3, some (.pointer (some ⟨b2, 0, none⟩))), (10, some vl1), (11, some (vI (len l))), (12, some (vI (wi (x1 + (1 : Int)))))] [some (Qd b1 30 [vI m1]), some (Qd b2 22 [vU64 (m2 + s1.Len.toUInt64)])] [Fact.sl SegS vl1 l] [0, 2, 3, 10, 11, 12] [0, 1] [0] rfl ?_
       exact QN (m1, m2 + s1.Len.toUInt64, wi (x1 + (1 : Int))) h [0, 2, 3, 10, 11, 12] [0, 1] [0] rfl rfl rfl rfl rfl
     ·replace h := br_f hg5 h
      refine Qh rfl rfl (cgb hg5) rfl rfl ?_
      refine Qh rfl rfl (cgb hg5) rfl rfl ?_
      refine Qh rfl rfl (cgb hg5) rfl rfl ?_
      refine Qh rfl rfl (cgb hg5) rfl rfl ?_
      refine Qh rfl rfl (cgb hg5) rfl rfl ?_
      refine Qh rfl rfl (cgb hg5) rfl rfl ?_
      refine Qi rfl rfl (cgb hg4) (Qu rfl rfl rfl (cgb hg5) rfl) ?_
      rintro _ rfl
      refine Qi rfl rfl (cgb hg4) (Qk rfl rfl rfl rfl) ?_
      rintro _ rfl
      refine Qh rfl rfl rfl rfl rfl ?_
      refine Qh rfl rfl rfl rfl rfl ?_
      refine Qh rfl rfl rfl rfl rfl ?_
      refine Qi rfl rfl (cgb hg4) (Qu rfl rfl rfl rfl rfl) ?_
      rintro _ rfl
      refine Qa rfl (Qu rfl rfl rfl (cgb hg4) rfl) ?_
      refine nW [(0, some vl1), (2, some (.pointer (some ⟨b1, 0, none⟩))), (3, some (.pointer (some ⟨b2, 0, none⟩))), (10, some vl1), (11, some (vI (len l))), (12, some (vI x1)), (5, some (.pointer (some ⟨b3, 0, none⟩))), (46, some (vB false))] [some (Qd b1 30 [vI m1]), some (Qd b2 22 [vU64 m2]), some (Qd b3 29 [vU64 s1.At, vU32 s1.Len, vB s1.Write])] [Fact.sl SegS vl1 l] [0, 2, 3, 10, 11, 12, 5, 46] [0, 1, 2] [0] rfl ?_
      refine Qm rfl ?_
      refine Qr (Qb (Qa rfl (Qp rfl rfl rfl rfl Xc (i := 1) rfl rfl) ?_))
      refine Qa rfl (Qo rfl rfl rfl rfl ZV) ?_
      refine Qa rfl (Qp rfl rfl rfl rfl tyF27 (i := 2) rfl rfl) ?_
      refine Qa rfl (QM rfl rfl rfl rfl (Zm (n := s1.Len) Try.underlying27 Try.underlying22)) ?_
      refine Qa rfl (Qg rfl rfl rfl rfl rfl (Zb (a := m2) (b := s1.Len.toUInt64))) ?_
      refine Qa rfl (QE (cs' := [vU64 (m2 + s1.Len.toUInt64)]) rfl rfl rfl rfl Xc (i := 1) rfl rfl rfl (ZE rfl) rfl) ?_
      refine nW [(0, some vl1), (2, some (.pointer (some ⟨b1, 0, none⟩))), (3, some (.pointer (some ⟨b2, 0, none⟩))), (10, some vl1), (11, some (vI (len l))), (12, some (vI x1))] [some (Qd b1 30 [vI m1]), some (Qd b2 22 [vU64 (m2 + s1.Len.toUInt64)])] [Fact.sl SegS vl1 l] [0, 2, 3, 10, 11, 12] [0, 1] [0] rfl ?_
      refine Zk (Qb (Qa rfl (Qg rfl rfl rfl rfl rfl (Qx (a := x1) (b := (1 : Int)))) ?_))
      refine sMv rfl rfl rfl ?_
      refine nW [(0, some vl1), (2, some (.pointer (some ⟨b1, 0, none⟩))), (3, some (.pointer (some ⟨b2, 0, none⟩))), (10, some vl1), (11, some (vI (len l))), (12, some (vI (wi (x1 + (1 : Int)))))] [some (Qd b1 30 [vI m1]), some (Qd b2 22 [vU64 (m2 + s1.Len.toUInt64)])] [Fact.sl SegS vl1 l] [0, 2, 3, 10, 11, 12] [0, 1] [0] rfl ?_
      exact QN (m1, m2 + s1.Len.toUInt64, wi (x1 + (1 : Int))) h [0, 2, 3, 10, 11, 12] [0, 1] [0] rfl rfl rfl rfl rfl
  ·replace h := br_f hg2 h
   refine Qm (cgb hg2) ?_
   refine Zf _ rfl ?_
   refine Qe (Qb (Qa rfl (QE (cs' := [vI (0 : Int)]) rfl rfl rfl rfl tyF30 (i := 0) rfl rfl rfl (ZE rfl) rfl) ?_))
   refine nW [(2, some (.pointer (some ⟨b1, 0, none⟩)))] [some (Qd b1 30 [vI (0 : Int)]), some (Qd b2 22 [vU64 m2])] [] [2] [0, 1] [] rfl ?_
   obtain ⟨check4, hx6, h⟩ := ob_e h
   obtain rfl := Option.some.inj h
   refine Tk_retD rfl (f := 71) (cp := [.pointer (some ⟨b1, 0, none⟩), .pointer (some ⟨b2, 0, none⟩)]) rfl callee71 (wb_seg_Check_1 hx6).ctrD [0, 1] [] rfl rfl rfl ?_
   rintro _ _ _ ⟨rfl, rfl, rfl⟩
   exact Tleave_mk (resA (vs := [vI check4]) rfl ⟨⟨_, 2, _, _, _, rfl, rfl, .inr ⟨tyF30, rfl⟩⟩, trivial⟩) [] [] rfl rfl rfl ⟨rfl, rfl, rfl⟩

set_option maxRecDepth 100000 in
set_option maxHeartbeats 4000000 in
theorem w_seg_Part {l : List Seg} {write : Bool} {vl1 : Value} {r : (List Seg)} (h : seg_Part l write = some r) :
  Ctr Try.prog 58 #[vl1, vB write] [] [Fact.sl SegS vl1 l]
   (fun rv own shr => ∃ (w1 : Value), rv = w1 ∧ own = [(rowS SegS w1 r)] ∧ shr = []) := by
 unfold seg_Part at h
 refine Ctr.mk (args := [vl1, vB write]) Try.func58 rfl rfl (fun R0 w0 B => ?_)
 refine Qe (Qb (sAs rfl rfl rfl ?_))
 refine QT (Qe (Qe (Qb (sMv rfl rfl rfl ?_))))
 obtain ⟨check1, hx1, h⟩ := ob_e h
 refine Qt rfl (QO (w_seg_Check hx1) [] [0] rfl rfl rfl rfl rfl callee57 rfl rfl rfl rfl) ?_
 rintro _ ⟨_, _, _, ⟨rfl, rfl, rfl⟩, rfl⟩
 refine Qa rfl (Qg rfl rfl rfl rfl rfl (QU (a := check1) (b := (0 : Int)))) ?_
 refine nW [(0, some vl1), (1, some (vB write)), (4, some (.slice none 0 0)), (9, some (vB (check1 != (0 : Int))))] [] [Fact.sl SegS vl1 l] [0, 1, 4, 9] [] [0] rfl ?_
 rcases bC (check1 != (0 : Int)) with hg1 | hg1
 ·replace h := br_t hg1 h
  refine Ql (cgb hg1) ?_
  refine Qe (Qb (sAs rfl rfl rfl ?_))
  refine nW [(4, some (.slice none 0 0))] [] [] [4] [] [] rfl ?_
  refine QI SegS ?_
  obtain rfl := Option.some.inj h
  exact Qn rfl rfl (resA (vs := [.slice none 0 0]) rfl ⟨rfl, trivial⟩) [0] [] rfl rfl rfl ⟨(.slice none 0 0), rfl, rfl, rfl⟩
 ·replace h := br_f hg1 h
  refine Qm (cgb hg1) ?_
  refine Qr (Qe (Qe (Qb (sMv rfl rfl rfl ?_))))
  refine Qa rfl (QB rfl rfl rfl rfl Try.underlying25 (i := 0) rfl) ?_
  refine sMv rfl rfl rfl ?_
  refine nW [(1, some (vB write)), (4, some (.slice none 0 0)), (10, some vl1), (11, some (vI (len l))), (12, some (vI (0 : Int)))] [] [Fact.sl SegS vl1 l] [1, 4, 10, 11, 12] [] [0] rfl ?_
  refine Qz (QI SegS ?_)
  refine Zc (σ := (List Seg) × Int × Value) [1, 4, 10, 11, 12] [0] [0] (fun s => ⟨[(1, some (vB write)), (4, some (s.2.2)), (10, some vl1), (11, some (vI (len l))), (12, some (vI s.2.1))], [some (rowS SegS s.2.2 s.1)], [Fact.sl SegS vl1 l]⟩) (fun nf1 s => seg_PartL1 l write nf1 s.1 s.2.1 = some r) fuel ([], (0 : Int), (.slice none 0 0)) h rfl rfl rfl rfl rfl (fun s h => by cases h) ?_
  rintro nf1 ⟨out1, x1, v1⟩ h
  replace h : seg_PartL1B l write (seg_PartL1 l write nf1) out1 x1 = some r := h
  unfold seg_PartL1B at h
  refine Qe (Qb (Qa rfl (Qg rfl rfl rfl rfl rfl (QK (a := x1) (b := len l))) ?_))
  refine QT (Qe ?_)
  rcases bC (decide (x1 < (len l))) with hg2 | hg2
  ·replace h := br_t hg2 h
   refine Ql (cgb hg2) ?_
   refine Qr (Qe (Qz (Qe (Qb ?_))))
   obtain ⟨s1, hx2, h⟩ := ob_e h
   refine Qq rfl (QA rfl rfl rfl rfl rfl XS (i := 0) rfl hx2) fun p1 => ?_
   refine Qa rfl (XR (vs := [vU64 s1.At, vU32 s1.Len, vB s1.Write]) rfl rfl rfl rfl tyF29 (i := 1) rfl rfl) ?_
   refine Qq rfl (Zq rfl rfl rfl tyZ29) fun b1 => ?_
   refine Qa rfl (QE (cs' := [vU64 s1.At, vU32 s1.Len, vB s1.Write]) rfl rfl rfl rfl tyF29 (i := 1) rfl rfl rfl (ZE rfl) rfl) ?_
   refine nW [(1, some (vB write)), (4, some v1), (10, some vl1), (11, some (vI (len l))), (12, some (vI x1)), (6, some (.pointer (some ⟨b1, 0, none⟩)))] [some (rowS SegS v1 out1), some (Qd b1 29 [vU64 s1.At, vU32 s1.Len, vB s1.Write])] [Fact.sl SegS vl1 l] [1, 4, 10, 11, 12, 6] [0, 1] [0] rfl ?_
   refine Qe (Qb (Qa rfl (Qo rfl rfl rfl rfl Km) ?_))
   refine Qa rfl (Qp rfl rfl rfl rfl tyF4 (i := 1) rfl rfl) ?_
   refine sMv rfl rfl rfl ?_
   refine Qa rfl (Qg rfl rfl rfl rfl rfl (bin_eql_b (a := s1.Write) (b := write) Try.underlying4)) ?_
   refine nW [(1, some (vB write)), (4, some v1), (10, some vl1), (11, some (vI (len l))), (12, some (vI x1)), (6, some (.pointer (some ⟨b1, 0, none⟩))), (19, some (vB (s1.Write == write)))] [some (rowS SegS v1 out1), some (Qd b1 29 [vU64 s1.At, vU32 s1.Len, vB s1.Write])] [Fact.sl SegS vl1 l] [1, 4, 10, 11, 12, 6, 19] [0, 1] [0] rfl ?_
   rcases bC (s1.Write == write) with hg3 | hg3
   ·replace h := br_t hg3 h
    refine Ql (cgb hg3) ?_
    refine Qb (sMv rfl rfl rfl ?_)
    refine Qa rfl (Zx (vs := [vU64 s1.At, vU32 s1.Len, vB s1.Write]) rfl rfl rfl rfl tyF29 (i := 1) rfl rfl rfl) ?_
    refine Qq rfl (QF (S := SegS) (xs := [s1]) (css := [[vU64 s1.At, vU32 s1.Len, vB s1.Write]]) (cs := [vU64 s1.At, vU32 s1.Len, vB s1.Write]) (e := 29) rfl rfl rfl rfl (bldF XS (by decide) (by kernel_rfl)) rfl rfl rfl rfl (Ze (S := SegS) (xs := [s1]) (css := [[vU64 s1.At, vU32 s1.Len, vB s1.Write]]) rfl rfl)) fun v2 => ?_
    obtain ⟨hc1, h⟩ := Zi h
    refine Qq rfl (ZH (S := SegS) rfl rfl rfl rfl rfl rfl XS (i := 0) (j := 2) rfl rfl hc1) fun v3 => ?_
    refine sAs rfl rfl rfl ?_
    refine nW [(1, some (vB write)), (4, some v3), (10, some vl1), (11, some (vI (len l))), (12, some (vI x1))] [some (rowS SegS v3 (out1 ++ [s1]))] [Fact.sl SegS vl1 l] [1, 4, 10, 11, 12] [0] [0] rfl ?_
    refine Zk (Qb (Qa rfl (Qg rfl rfl rfl rfl rfl (Qx (a := x1) (b := (1 : Int)))) ?_))
    refine sMv rfl rfl rfl ?_
    refine nW [(1, some (vB write)), (4, some v3), (10, some vl1), (11, some (vI (len l))), (12, some (vI (wi (x1 + (1 : Int)))))] [some (rowS SegS v3 (out1 ++ [s1]))] [Fact.sl SegS vl1 l] [1, 4, 10, 11, 12] [0] [0] rfl ?_
    exact QN (out1 ++ [s1], wi (x1 + (1 : Int)), v3) h [1, 4, 10, 11, 12] [0] [0] rfl rfl rfl rfl rfl
   ·replace h := br_f hg3 h
    refine Qm (cgb hg3) ?_
    refine Qr (Zk (Qb (Qa rfl (Qg rfl rfl rfl rfl rfl (Qx (a := x1) (b := (1 : Int)))) ?_)))
    refine sMv rfl rfl rfl ?_
    refine nW [(1, some (vB write)), (4, some v1), (10, some vl1), (11, some (vI (len l))), (12, some (vI (wi (x1 + (1 : Int)))))] [some (rowS SegS v1 out1)] [Fact.sl SegS vl1 l] [1, 4, 10, 11, 12] [0] [0] rfl ?_
    exact QN (out1, wi (x1 + (1 : Int)), v1) h [1, 4, 10, 11, 12] [0] [0] rfl rfl rfl rfl rfl
  ·replace h := br_f hg2 h
   refine Qm (cgb hg2) ?_
   refine Zf _ rfl ?_
   refine Qe (Qb (sMv rfl rfl rfl ?_))
   refine sAs rfl rfl rfl ?_
   refine nW [(4, some v1)] [some (rowS SegS v1 out1)] [] [4] [0] [] rfl ?_
   obtain rfl := Option.some.inj h
   exact Qn rfl rfl (resA (vs := [v1]) rfl ⟨rfl, trivial⟩) [0] [] rfl rfl rfl ⟨v1, rfl, rfl, rfl⟩

set_option maxRecDepth 100000 in
set_option maxHeartbeats 4000000 in
theorem w_seg_Total {l : List Seg} {vl1 : Value} {r : (UInt64 × UInt64)} (h : seg_Total l = some r) :
  Ctr Try.prog 72 #[vl1] [] [Fact.sl SegS vl1 l]
   (fun rv own shr => rv = .tuple #[vU64 r.1, vU64 r.2] ∧ own = [] ∧ shr = []) := by
 unfold seg_Total at h
 refine Ctr.mk (args := [vl1]) Try.func72 rfl rfl (fun R0 w0 B => ?_)
 refine Qe (Qb (sAs rfl rfl rfl ?_))
 refine sAs rfl rfl rfl ?_
 refine QT (Qe (Qe (Qb (sMv rfl rfl rfl ?_))))
 obtain ⟨check1, hx1, h⟩ := ob_e h
 refine Qt rfl (QO (w_seg_Check hx1) [] [0] rfl rfl rfl rfl rfl callee57 rfl rfl rfl rfl) ?_
 rintro _ ⟨_, _, _, ⟨rfl, rfl, rfl⟩, rfl⟩
 refine Qa rfl (Qg rfl rfl rfl rfl rfl (QU (a := check1) (b := (0 : Int)))) ?_
 refine nW [(0, some vl1), (2, some (vU64 (0 : UInt64))), (3, some (vU64 (0 : UInt64))), (8, some (vB (check1 != (0 : Int))))] [] [Fact.sl SegS vl1 l] [0, 2, 3, 8] [] [0] rfl ?_
 rcases bC (check1 != (0 : Int)) with hg1 | hg1
 ·replace h := br_t hg1 h
  refine Ql (cgb hg1) ?_
  refine Qe (Qb (sAs rfl rfl rfl ?_))
  refine sAs rfl rfl rfl ?_
  refine nW [(2, some (vU64 (0 : UInt64))), (3, some (vU64 (0 : UInt64)))] [] [] [2, 3] [] [] rfl ?_
  obtain rfl := Option.some.inj h
  exact Qn rfl rfl (resA (vs := [vU64 (0 : UInt64), vU64 (0 : UInt64)]) rfl ⟨rfl, rfl, trivial⟩) [] [] rfl rfl rfl ⟨rfl, rfl, rfl⟩
 ·replace h := br_f hg1 h
  refine Qm (cgb hg1) ?_
  refine Qr (Qe (Qe (Qb (sMv rfl rfl rfl ?_))))
  refine Qa rfl (QB rfl rfl rfl rfl Try.underlying25 (i := 0) rfl) ?_
  refine sMv rfl rfl rfl ?_
  refine nW [(2, some (vU64 (0 : UInt64))), (3, some (vU64 (0 : UInt64))), (9, some vl1), (10, some (vI (len l))), (11, some (vI (0 : Int)))] [] [Fact.sl SegS vl1 l] [2, 3, 9, 10, 11] [] [0] rfl ?_
  refine Qz (Zc (σ := UInt64 × UInt64 × Int) [2, 3, 9, 10, 11] [] [0] (fun s => ⟨[(2, some (vU64 s.1)), (3, some (vU64 s.2.1)), (9, some vl1), (10, some (vI (len l))), (11, some (vI s.2.2))], [], [Fact.sl SegS vl1 l]⟩) (fun nf1 s => XI l nf1 s.1 s.2.1 s.2.2 = some r) fuel ((0 : UInt64), (0 : UInt64), (0 : Int)) h rfl rfl rfl rfl rfl (fun s h => by cases h) ?_)
  rintro nf1 ⟨read1, write1, x1⟩ h
  replace h : seg_TotalL1B l (XI l nf1) read1 write1 x1 = some r := h
  unfold seg_TotalL1B at h
  refine Qe (Qb (Qa rfl (Qg rfl rfl rfl rfl rfl (QK (a := x1) (b := len l))) ?_))
  refine QT (Qe ?_)
  rcases bC (decide (x1 < (len l))) with hg2 | hg2
  ·replace h := br_t hg2 h
   refine Ql (cgb hg2) ?_
   refine Qr (Qe (Yu (α := UInt64 × UInt64) (fun s => ⟨[(2, some (vU64 s.1)), (3, some (vU64 s.2)), (9, some vl1), (10, some (vI (len l))), (11, some (vI x1))], [], [Fact.sl SegS vl1 l]⟩) (fun s => seg_TotalJ2 x1 (XI l nf1) s.1 s.2 = some r) ?_ ?_))
   ·rintro ⟨read2, write2⟩ h
    replace h : seg_TotalJ2 x1 (XI l nf1) read2 write2 = some r := h
    unfold seg_TotalJ2 at h
    refine Qb (Qa rfl (Qg rfl rfl rfl rfl rfl (Qx (a := x1) (b := (1 : Int)))) ?_)
    refine sMv rfl rfl rfl ?_
    refine nW [(2, some (vU64 read2)), (3, some (vU64 write2)), (9, some vl1), (10, some (vI (len l))), (11, some (vI (wi (x1 + (1 : Int)))))] [] [Fact.sl SegS vl1 l] [2, 3, 9, 10, 11] [] [0] rfl ?_
    exact QN (read2, write2, wi (x1 + (1 : Int))) h [2, 3, 9, 10, 11] [] [0] rfl rfl rfl rfl rfl
   ·intro HJ1
    refine Qz (Qe (Qb ?_))
    obtain ⟨s1, hx2, h⟩ := ob_e h
    refine Qq rfl (QA rfl rfl rfl rfl rfl XS (i := 0) rfl hx2) fun p1 => ?_
    refine Qa rfl (XR (vs := [vU64 s1.At, vU32 s1.Len, vB s1.Write]) rfl rfl rfl rfl tyF29 (i := 1) rfl rfl) ?_
    refine Qq rfl (Zq rfl rfl rfl tyZ29) fun b1 => ?_
    refine Qa rfl (QE (cs' := [vU64 s1.At, vU32 s1.Len, vB s1.Write]) rfl rfl rfl rfl tyF29 (i := 0) rfl rfl rfl (ZE rfl) rfl) ?_
    refine nW [(2, some (vU64 read1)), (3, some (vU64 write1)), (9, some vl1), (10, some (vI (len l))), (11, some (vI x1)), (5, some (.pointer (some ⟨b1, 0, none⟩)))] [some (Qd b1 29 [vU64 s1.At, vU32 s1.Len, vB s1.Write])] [Fact.sl SegS vl1 l] [2, 3, 9, 10, 11, 5] [0] [0] rfl ?_
    refine Qe (Qb (Qa rfl (Qo rfl rfl rfl rfl Km) ?_))
    refine Qa rfl (Qp rfl rfl rfl rfl tyF4 (i := 0) rfl rfl) ?_
    refine nW [(2, some (vU64 read1)), (3, some (vU64 write1)), (9, some vl1), (10, some (vI (len l))), (11, some (vI x1)), (5, some (.pointer (some ⟨b1, 0, none⟩))), (16, some (vB s1.Write))] [some (Qd b1 29 [vU64 s1.At, vU32 s1.Len, vB s1.Write])] [Fact.sl SegS vl1 l] [2, 3, 9, 10, 11, 5, 16] [0] [0] rfl ?_
    refine Yu (α := UInt64 × UInt64) (fun s => ⟨[(2, some (vU64 s.1)), (3, some (vU64 s.2)), (9, some vl1), (10, some (vI (len l))), (11, some (vI x1))], [], [Fact.sl SegS vl1 l]⟩) (fun s => YS x1 (XI l nf1) s.1 s.2 = some r) ?_ ?_
    ·rintro ⟨read3, write3⟩ h
     replace h : YS x1 (XI l nf1) read3 write3 = some r := h
     unfold YS at h
     refine Zk ?_
     exact ZP (HJ1 (read3, write3) h) [2, 3, 9, 10, 11] [] [0] rfl rfl rfl rfl
    ·intro HJ2
     rcases bC (s1.Write) with hg3 | hg3
     ·replace h := br_t hg3 h
      refine Ql (cgb hg3) ?_
      refine Qb (sMv rfl rfl rfl ?_)
      refine Qa rfl (Qo rfl rfl rfl rfl ZV) ?_
      refine Qa rfl (Qp rfl rfl rfl rfl tyF27 (i := 0) rfl rfl) ?_
      refine Qa rfl (QM rfl rfl rfl rfl (Zm (n := s1.Len) Try.underlying27 Try.underlying22)) ?_
      refine Qa rfl (Qg rfl rfl rfl rfl rfl (Zb (a := write1) (b := s1.Len.toUInt64))) ?_
      refine sAs rfl rfl rfl ?_
      refine nW [(2, some (vU64 read1)), (3, some (vU64 (write1 + s1.Len.toUInt64))), (9, some vl1), (10, some (vI (len l))), (11, some (vI x1))] [] [Fact.sl SegS vl1 l] [2, 3, 9, 10, 11] [] [0] rfl ?_
      exact ZP (HJ2 (read1, write1 + s1.Len.toUInt64) h) [2, 3, 9, 10, 11] [] [0] rfl rfl rfl rfl
     ·replace h := br_f hg3 h
      refine Qm (cgb hg3) ?_
      refine Qb (sMv rfl rfl rfl ?_)
      refine Qa rfl (Qo rfl rfl rfl rfl ZV) ?_
      refine Qa rfl (Qp rfl rfl rfl rfl tyF27 (i := 0) rfl rfl) ?_
      refine Qa rfl (QM rfl rfl rfl rfl (Zm (n := s1.Len) Try.underlying27 Try.underlying22)) ?_
      refine Qa rfl (Qg rfl rfl rfl rfl rfl (Zb (a := read1) (b := s1.Len.toUInt64))) ?_
      refine sAs rfl rfl rfl ?_
      refine nW [(2, some (vU64 (read1 + s1.Len.toUInt64))), (3, some (vU64 write1)), (9, some vl1), (10, some (vI (len l))), (11, some (vI x1))] [] [Fact.sl SegS vl1 l] [2, 3, 9, 10, 11] [] [0] rfl ?_
      exact ZP (HJ2 (read1 + s1.Len.toUInt64, write1) h) [2, 3, 9, 10, 11] [] [0] rfl rfl rfl rfl
  ·replace h := br_f hg2 h
   refine Qm (cgb hg2) ?_
   refine Zf _ rfl ?_
   refine Qe (Qb (sMv rfl rfl rfl ?_))
   refine sMv rfl rfl rfl ?_
   refine sAs rfl rfl rfl ?_
   refine sAs rfl rfl rfl ?_
   refine nW [(2, some (vU64 read1)), (3, some (vU64 write1))] [] [] [2, 3] [] [] rfl ?_
   obtain rfl := Option.some.inj h
   exact Qn rfl rfl (resA (vs := [vU64 read1, vU64 write1]) rfl ⟨rfl, rfl, trivial⟩) [] [] rfl rfl rfl ⟨rfl, rfl, rfl⟩

set_option maxRecDepth 100000 in
set_option maxHeartbeats 4000000 in
theorem w_slices_Clone_apiSegapiSeg {sp0 : List Seg} {vsp01 : Value} {r : (List Seg)} (h : ZB sp0 = some r) :
  Ctr Try.prog 76 #[vsp01] [] [Fact.sl SegS vsp01 sp0]
   (fun rv own shr => ∃ (w1 : Value), rv = w1 ∧ own = [(rowS SegS w1 r)] ∧ shr = []) := by
 unfold ZB at h
 refine Ctr.mk (args := [vsp01]) Try.func76 rfl rfl (fun R0 w0 B => ?_)
 refine Qe (Qb (sAs rfl rfl rfl ?_))
 refine nW [(0, some vsp01)] [] [Fact.sl SegS vsp01 sp0] [0] [] [0] rfl ?_
 refine Qe (Qe (Qb (sMv rfl rfl rfl ?_)))
 refine Qt rfl (OpT_eqNil rfl rfl rfl (.inl rfl) rfl rfl Try.underlying25 (i := 0) rfl) ?_
 rintro _ ⟨q1, hq1, rfl⟩
 refine nW [(0, some vsp01), (4, some (vB q1))] [] [Fact.sl SegS vsp01 sp0] [0, 4] [] [0] rfl ?_
 rcases bC q1 with hg1 | hg1
 ·obtain rfl := hq1 hg1
  replace h : some ([] : List Seg) = some r := h
  refine Ql (cgb hg1) ?_
  refine Qe (Qb (sAs rfl rfl rfl ?_))
  refine nW [(2, some (.slice none 0 0))] [] [] [2] [] [] rfl ?_
  refine QI SegS ?_
  obtain rfl := Option.some.inj h
  exact Qn rfl rfl (resA (vs := [.slice none 0 0]) rfl ⟨rfl, trivial⟩) [0] [] rfl rfl rfl ⟨(.slice none 0 0), rfl, rfl, rfl⟩
 ·refine Qm (cgb hg1) ?_
  refine Qr (Qe (Qb (Qq rfl (QF (S := SegS) (xs := ([] : List Seg)) (css := []) (cs := []) (e := 29) rfl rfl rfl rfl (bldF XS (by decide) (by kernel_rfl)) rfl rfl rfl rfl (Ze (S := SegS) (xs := ([] : List Seg)) (css := []) rfl rfl)) fun v1 => ?_)))
  refine sMv rfl rfl rfl ?_
  obtain ⟨hc1, h⟩ := Zi h
  refine Qq rfl (ZS rfl rfl rfl rfl rfl XS (i := 0) (j := 0) rfl rfl hc1) fun v2 => ?_
  refine sAs rfl rfl rfl ?_
  refine nW [(2, some v2)] [some (rowS SegS v2 sp0)] [] [2] [0] [] rfl ?_
  obtain rfl := Option.some.inj h
  exact Qn rfl rfl (resA (vs := [v2]) rfl ⟨rfl, trivial⟩) [0] [] rfl rfl rfl ⟨v2, rfl, rfl, rfl⟩

set_option maxRecDepth 100000 in
set_option maxHeartbeats 4000000 in
theorem w_seg_row_eat {rp0 : List Seg} {np1 : UInt64} {b_rp0 : Nat} {vrp01 : Value} {r : ((List Seg) × (List Seg))} (h : seg_row_eat rp0 np1 = some r) :
  Ctr Try.prog 77 #[.pointer (some ⟨b_rp0, 0, none⟩), vU64 np1] [(Qd b_rp0 124 [vrp01])] [Fact.sl SegS vrp01 rp0]
   (fun rv own shr => ∃ (w1 : Value), ∃ (w2 : Value), rv = w1 ∧ own = [(Qd b_rp0 124 [w2]), (rowS SegS w1 r.1)] ∧ shr = [Fact.sl SegS w2 r.2]) := by
 unfold seg_row_eat at h
 refine Ctr.mk (args := [.pointer (some ⟨b_rp0, 0, none⟩), vU64 np1]) Try.func77 rfl rfl (fun R0 w0 B => ?_)
 refine Qe (Qb (sAs rfl rfl rfl ?_))
 refine QT (Qe (Qz (QI SegS ?_)))
 refine Zc (σ := (List Seg) × UInt64 × (List Seg) × Value × Value) [0, 1, 4] [0, 1] [0] (fun s => ⟨[(0, some (.pointer (some ⟨b_rp0, 0, none⟩))), (1, some (vU64 s.2.1)), (4, some (s.2.2.2.2))], [some (Qd b_rp0 124 [s.2.2.2.1]), some (rowS SegS s.2.2.2.2 s.2.2.1)], [Fact.sl SegS s.2.2.2.1 s.1]⟩) (fun nf1 s => Yv nf1 s.1 s.2.1 s.2.2.1 = some r) fuel (rp0, np1, [], vrp01, (.slice none 0 0)) h rfl rfl rfl rfl rfl (fun s h => by cases h) ?_
 rintro nf1 ⟨m1, n1, out1, v1, v2⟩ h
 replace h : seg_row_eatL1B (Yv nf1) m1 n1 out1 = some r := h
 unfold seg_row_eatL1B at h
 refine Qe (Qe (Qb (sMv rfl rfl rfl ?_)))
 refine Qa rfl (Qg rfl rfl rfl rfl rfl (Ys (a := n1) (b := (0 : UInt64)))) ?_
 refine sMv rfl rfl rfl ?_
 rcases bC (decide (n1 > (0 : UInt64))) with hg1 | hg1
 ·replace h := br_t hg1 h
  refine Qi rfl rfl (cgb hg1) (Qk rfl rfl rfl rfl) ?_
  rintro _ rfl
  refine Qi rfl rfl (cgb hg1) (QP rfl rfl rfl rfl) ?_
  rintro _ rfl
  refine Qi rfl rfl (cgb hg1) (Qp rfl rfl rfl rfl tyF124 (i := 0) rfl rfl) ?_
  rintro _ rfl
  refine Qi rfl rfl (cgb hg1) (QB rfl rfl rfl rfl Try.underlying124 (i := 0) rfl) ?_
  rintro _ rfl
  refine Qi rfl rfl (cgb hg1) (Qg rfl rfl rfl rfl rfl (ZD (a := len m1) (b := (0 : Int)))) ?_
  rintro _ rfl
  refine Qa rfl (Qw rfl rfl rfl (cgb hg1) rfl) ?_
  refine nW [(0, some (.pointer (some ⟨b_rp0, 0, none⟩))), (1, some (vU64 n1)), (4, some v2), (15, some (vB (decide ((len m1) > (0 : Int)))))] [some (Qd b_rp0 124 [v1]), some (rowS SegS v2 out1)] [Fact.sl SegS v1 m1] [0, 1, 4, 15] [0, 1] [0] rfl ?_
  rcases bC (decide ((len m1) > (0 : Int))) with hg2 | hg2
  ·replace h := br_t hg2 h
   refine Ql (cgb hg2) ?_
   refine Qr (Qz (Qe (Qb (sMv rfl rfl rfl ?_))))
   refine Qa rfl (QP rfl rfl rfl rfl) ?_
   refine Qa rfl (Qp rfl rfl rfl rfl tyF124 (i := 0) rfl rfl) ?_
   obtain ⟨s1, hx1, h⟩ := ob_e h
   refine Qq rfl (QA rfl rfl rfl rfl rfl slF124 (i := 0) rfl hx1) fun p1 => ?_
   refine Qa rfl (XR (vs := [vU64 s1.At, vU32 s1.Len, vB s1.Write]) rfl rfl rfl rfl tyF29 (i := 1) rfl rfl) ?_
   refine Qq rfl (Zq rfl rfl rfl tyZ29) fun b1 => ?_
   refine Qa rfl (QE (cs' := [vU64 s1.At, vU32 s1.Len, vB s1.Write]) rfl rfl rfl rfl tyF29 (i := 2) rfl rfl rfl (ZE rfl) rfl) ?_
   refine nW [(0, some (.pointer (some ⟨b_rp0, 0, none⟩))), (1, some (vU64 n1)), (4, some v2), (5, some (.pointer (some ⟨b1, 0, none⟩)))] [some (Qd b_rp0 124 [v1]), some (rowS SegS v2 out1), some (Qd b1 29 [vU64 s1.At, vU32 s1.Len, vB s1.Write])] [Fact.sl SegS v1 m1] [0, 1, 4, 5] [0, 1, 2] [0] rfl ?_
   refine Qe (Qb (sMv rfl rfl rfl ?_))
   refine Qa rfl (Qo rfl rfl rfl rfl ZV) ?_
   refine Qa rfl (Qp rfl rfl rfl rfl tyF27 (i := 2) rfl rfl) ?_
   refine Qa rfl (QM rfl rfl rfl rfl (Zm (n := s1.Len) Try.underlying27 Try.underlying22)) ?_
   refine Qa rfl (OpT_min_u64 (u := n1) (v := s1.Len.toUInt64) rfl rfl rfl rfl rfl) ?_
   refine sAs rfl rfl rfl ?_
   refine nW [(0, some (.pointer (some ⟨b_rp0, 0, none⟩))), (1, some (vU64 n1)), (4, some v2), (5, some (.pointer (some ⟨b1, 0, none⟩))), (6, some (vU64 (QQ n1 s1.Len.toUInt64)))] [some (Qd b_rp0 124 [v1]), some (rowS SegS v2 out1), some (Qd b1 29 [vU64 s1.At, vU32 s1.Len, vB s1.Write])] [Fact.sl SegS v1 m1] [0, 1, 4, 5, 6] [0, 1, 2] [0] rfl ?_
   refine Qe (Qb (sMv rfl rfl rfl ?_))
   refine Qa rfl (Qo rfl rfl rfl rfl fldF29x0) ?_
   refine Qa rfl (Qp rfl rfl rfl rfl Xc (i := 2) rfl rfl) ?_
   refine sMv rfl rfl rfl ?_
   refine Qa rfl (QM rfl rfl rfl rfl (cnv_u64_u32 (n := QQ n1 s1.Len.toUInt64) Try.underlying22 Try.underlying27)) ?_
   refine Qa rfl (Qo rfl rfl rfl rfl Km) ?_
   refine Qa rfl (Qp rfl rfl rfl rfl tyF4 (i := 2) rfl rfl) ?_
   refine Qa rfl (Zd (v := .agg #[vU64 s1.At, vU32 ((QQ n1 s1.Len.toUInt64).toUInt32), vB s1.Write]) rfl rfl rfl rfl (bldV (by kernel_rfl))) ?_
   refine Qq rfl (QF (S := SegS) (xs := [(Seg.mk s1.At ((QQ n1 s1.Len.toUInt64).toUInt32) s1.Write)]) (css := [[vU64 s1.At, vU32 ((QQ n1 s1.Len.toUInt64).toUInt32), vB s1.Write]]) (cs := [vU64 s1.At, vU32 ((QQ n1 s1.Len.toUInt64).toUInt32), vB s1.Write]) (e := 29) rfl rfl rfl rfl (bldF XS (by decide) (by kernel_rfl)) rfl rfl rfl rfl (Ze (S := SegS) (xs := [(Seg.mk s1.At ((QQ n1 s1.Len.toUInt64).toUInt32) s1.Write)]) (css := [[vU64 s1.At, vU32 ((QQ n1 s1.Len.toUInt64).toUInt32), vB s1.Write]]) rfl rfl)) fun v3 => ?_
   obtain ⟨hc1, h⟩ := Zi h
   refine Qq rfl (ZH (S := SegS) rfl rfl rfl rfl rfl rfl XS (i := 1) (j := 3) rfl rfl hc1) fun v4 => ?_
   refine sAs rfl rfl rfl ?_
   refine nW [(0, some (.pointer (some ⟨b_rp0, 0, none⟩))), (1, some (vU64 n1)), (4, some v4), (5, some (.pointer (some ⟨b1, 0, none⟩))), (6, some (vU64 (QQ n1 s1.Len.toUInt64)))] [some (Qd b_rp0 124 [v1]), some (rowS SegS v4 (out1 ++ [(Seg.mk s1.At ((QQ n1 s1.Len.toUInt64).toUInt32) s1.Write)])), some (Qd b1 29 [vU64 s1.At, vU32 s1.Len, vB s1.Write])] [Fact.sl SegS v1 m1] [0, 1, 4, 5, 6] [0, 1, 2] [0] rfl ?_
   refine Qe (Qb (sMv rfl rfl rfl ?_))
   refine sMv rfl rfl rfl ?_
   refine Qa rfl (Qg rfl rfl rfl rfl rfl (Zu (a := n1) (b := QQ n1 s1.Len.toUInt64))) ?_
   refine sAs rfl rfl rfl ?_
   refine nW [(0, some (.pointer (some ⟨b_rp0, 0, none⟩))), (1, some (vU64 (n1 - (QQ n1 s1.Len.toUInt64)))), (4, some v4), (5, some (.pointer (some ⟨b1, 0, none⟩))), (6, some (vU64 (QQ n1 s1.Len.toUInt64)))] [some (Qd b_rp0 124 [v1]), some (rowS SegS v4 (out1 ++ [(Seg.mk s1.At ((QQ n1 s1.Len.toUInt64).toUInt32) s1.Write)])), some (Qd b1 29 [vU64 s1.At, vU32 s1.Len, vB s1.Write])] [Fact.sl SegS v1 m1] [0, 1, 4, 5, 6] [0, 1, 2] [0] rfl ?_
   refine Qe (Qe (Qb (sMv rfl rfl rfl ?_)))
   refine Qa rfl (Qo rfl rfl rfl rfl ZV) ?_
   refine Qa rfl (Qp rfl rfl rfl rfl tyF27 (i := 2) rfl rfl) ?_
   refine Qa rfl (QM rfl rfl rfl rfl (Zm (n := s1.Len) Try.underlying27 Try.underlying22)) ?_
   refine Qa rfl (Qg rfl rfl rfl rfl rfl (Yr (a := QQ n1 s1.Len.toUInt64) (b := s1.Len.toUInt64))) ?_
   refine nW [(0, some (.pointer (some ⟨b_rp0, 0, none⟩))), (1, some (vU64 (n1 - (QQ n1 s1.Len.toUInt64)))), (4, some v4), (5, some (.pointer (some ⟨b1, 0, none⟩))), (6, some (vU64 (QQ n1 s1.Len.toUInt64))), (43, some (vB (decide ((QQ n1 s1.Len.toUInt64) < s1.Len.toUInt64))))] [some (Qd b_rp0 124 [v1]), some (rowS SegS v4 (out1 ++ [(Seg.mk s1.At ((QQ n1 s1.Len.toUInt64).toUInt32) s1.Write)])), some (Qd b1 29 [vU64 s1.At, vU32 s1.Len, vB s1.Write])] [Fact.sl SegS v1 m1] [0, 1, 4, 5, 6, 43] [0, 1, 2] [0] rfl ?_
   rcases bC (decide ((QQ n1 s1.Len.toUInt64) < s1.Len.toUInt64)) with hg3 | hg3
   ·replace h := br_t hg3 h
    refine Ql (cgb hg3) ?_
    refine Qe (Zw (by kernel_rfl) ?_)
    refine TA_tb [0, 0, 2, 0, 14, 0, 32, 0, 128, 480, 0, 1024, 4094, 8190, 0, 16384, 49152, 114688, 262142, 524287, 1048575] (by kernel_rfl) fun htb => ?_
    refine Xy (fr' := [(0, some (.pointer (some ⟨b_rp0, 0, none⟩))), (4, some v4), (5, some (.pointer (some ⟨b1, 0, none⟩))), (6, some (vU64 (QQ n1 s1.Len.toUInt64)))]) (own' := [some (Qd b_rp0 124 [v1]), some (rowS SegS v4 (out1 ++ [(Seg.mk s1.At ((QQ n1 s1.Len.toUInt64).toUInt32) s1.Write)])), some (Qd b1 29 [vU64 s1.At, vU32 s1.Len, vB s1.Write])]) (shr' := [Fact.sl SegS v1 m1]) [0, 4, 5, 6] [0, 1, 2] [0] rfl rfl rfl rfl ?_
    obtain ⟨hc2, h⟩ := Zi h
    obtain ⟨hc3, h⟩ := Zi h
    refine Zs (lo := 0) (hi := 19) htb rfl rfl (by kernel_rfl) (fun c L a w => ∃ (v5 : Value), ∃ (v6 : Value), ∃ (v7 : Value), Sat c ⟨[(0, some (.pointer (some ⟨b_rp0, 0, none⟩))), (4, some v4), (5, some (.pointer (some ⟨b1, 0, none⟩))), (6, some (vU64 (QQ n1 s1.Len.toUInt64))), (44, bif L 0 then some (.pointer (some ⟨b_rp0, 0, none⟩)) else none), (45, bif L 1 then some (.pointer (some ⟨b1, 0, none⟩)) else none), (46, bif L 2 then some (vU64 s1.At) else none), (47, bif L 3 then some (vU64 (QQ n1 s1.Len.toUInt64)) else none), (48, bif L 4 then some (vU64 (s1.At + (QQ n1 s1.Len.toUInt64))) else none), (49, bif L 5 then some (.pointer (some ⟨b1, 1, none⟩)) else none), (50, bif L 6 then some (vU32 s1.Len) else none), (51, bif L 7 then some (vU64 (QQ n1 s1.Len.toUInt64)) else none), (52, bif L 8 then some (vU32 ((QQ n1 s1.Len.toUInt64).toUInt32)) else none), (53, bif L 9 then some (vU32 (s1.Len - ((QQ n1 s1.Len.toUInt64).toUInt32))) else none), (54, bif L 10 then some (.pointer (some ⟨b1, 2, none⟩)) else none), (55, bif L 11 then some (vB s1.Write) else none), (56, bif L 12 then some (.agg #[vU64 (s1.At + (QQ n1 s1.Len.toUInt64)), vU32 (s1.Len - ((QQ n1 s1.Len.toUInt64).toUInt32)), vB s1.Write]) else none), (57, bif L 13 then some (v5) else none), (58, bif L 14 then some (.pointer (some ⟨b_rp0, 0, none⟩)) else none), (59, bif L 15 then some (.pointer (some ⟨b_rp0, 0, none⟩)) else none), (60, bif L 16 then some (v1) else none), (61, bif L 17 then some (v6) else none), (62, bif L 18 then some (v7) else none)], [(some (Qd b_rp0 124 [v1]) : Option Res), (some (rowS SegS v4 (out1 ++ [(Seg.mk s1.At ((QQ n1 s1.Len.toUInt64).toUInt32) s1.Write)])) : Option Res), (some (Qd b1 29 [vU64 s1.At, vU32 s1.Len, vB s1.Write]) : Option Res), (bif L 18 then some (rowS SegS v7 ([(Seg.mk (s1.At + (QQ n1 s1.Len.toUInt64)) (s1.Len - ((QQ n1 s1.Len.toUInt64).toUInt32)) s1.Write)] ++ (sub m1 (1 : Int) (len m1)))) else bif L 13 then some (rowS SegS v5 [(Seg.mk (s1.At + (QQ n1 s1.Len.toUInt64)) (s1.Len - ((QQ n1 s1.Len.toUInt64).toUInt32)) s1.Write)]) else none : Option Res)], [Fact.sl SegS v1 m1, (bif L 17 then Fact.sl SegS v6 (sub m1 (1 : Int) (len m1)) else Fact.tt)]⟩ a w) [([], []), ([], [2, 4, 12, 13, 18]), ([1], [4, 12, 13, 18]), ([], [4, 12, 13, 18]), ([1, 2, 3], [12, 13, 18]), ([], [6, 9, 12, 13, 18]), ([5], [9, 12, 13, 18]), ([], [8, 9, 12, 13, 18]), ([7], [9, 12, 13, 18]), ([5, 6, 7, 8], [12, 13, 18]), ([], [11, 12, 13, 18]), ([10], [12, 13, 18]), ([1, 2, 3, 4, 5, 6, 7, 8, 9, 10, 11], [13, 18]), ([1, 2, 3, 4, 5, 6, 7, 8, 9, 10, 11, 12], [18]), ([], [15, 16, 17, 18]), ([14], [16, 17, 18]), ([14, 15], [17, 18]), ([14, 15, 16], [18]), ([1, 2, 3, 4, 5, 6, 7, 8, 9, 10, 11, 12, 13, 14, 15, 16, 17], [])] rfl (by kernel_rfl) ?_ (Qc ?_ (Qc ?_ (Qc ?_ (Qc ?_ (Qc ?_ (Qc ?_ (Qc ?_ (Qc ?_ (Qc ?_ (Qc ?_ (Qc ?_ (Qc ?_ (Qc ?_ (Qc ?_ (Qc ?_ (Qc ?_ (Qc ?_ (Qc ?_ (Qc ?_ (QH)))))))))))))))))))) ?_
    ·intro a w hs
     exact ⟨undef, undef, undef, hs.startF [44, 45, 46, 47, 48, 49, 50, 51, 52, 53, 54, 55, 56, 57, 58, 59, 60, 61, 62] [0, 1, 2, 3] [0, 1] rfl rfl rfl rfl⟩
    ·intro L a w hv K Q hK
     obtain ⟨v5, v6, v7, hs⟩ := hv
     exact wGo rfl rfl hs (Qk rfl rfl rfl rfl) fun a w hs => hK a w ⟨v5, v6, v7, pF hs 4 [0, 1, 2, 3] [0, 1] rfl⟩
    ·intro L a w hv K Q hK
     obtain ⟨v5, v6, v7, hs⟩ := hv
     exact wGo rfl rfl hs (Qo rfl rfl rfl rfl fldF29x0) fun a w hs => hK a w ⟨v5, v6, v7, pF hs 5 [0, 1, 2, 3] [0, 1] rfl⟩
    ·intro L a w hv K Q hK
     obtain ⟨v5, v6, v7, hs⟩ := hv
     exact wGo rfl rfl hs (Qp rfl rfl rfl rfl Xc (i := 2) rfl rfl) fun a w hs => hK a w ⟨v5, v6, v7, pF hs 6 [0, 1, 2, 3] [0, 1] rfl⟩
    ·intro L a w hv K Q hK
     obtain ⟨v5, v6, v7, hs⟩ := hv
     exact wGo rfl rfl hs (Qk rfl rfl rfl rfl) fun a w hs => hK a w ⟨v5, v6, v7, pF hs 7 [0, 1, 2, 3] [0, 1] rfl⟩
    ·intro L a w hv K Q hK
     obtain ⟨v5, v6, v7, hs⟩ := hv
     exact wGo rfl rfl hs (Qg rfl rfl rfl rfl rfl (Zb (a := s1.At) (b := QQ n1 s1.Len.toUInt64))) fun a w hs => hK a w ⟨v5, v6, v7, pF hs 8 [0, 1, 2, 3] [0, 1] rfl⟩
    ·intro L a w hv K Q hK
     obtain ⟨v5, v6, v7, hs⟩ := hv
     exact wGo rfl rfl hs (Qo rfl rfl rfl rfl ZV) fun a w hs => hK a w ⟨v5, v6, v7, pF hs 9 [0, 1, 2, 3] [0, 1] rfl⟩
    ·intro L a w hv K Q hK
     obtain ⟨v5, v6, v7, hs⟩ := hv
     exact wGo rfl rfl hs (Qp rfl rfl rfl rfl tyF27 (i := 2) rfl rfl) fun a w hs => hK a w ⟨v5, v6, v7, pF hs 10 [0, 1, 2, 3] [0, 1] rfl⟩
    ·intro L a w hv K Q hK
     obtain ⟨v5, v6, v7, hs⟩ := hv
     exact wGo rfl rfl hs (Qk rfl rfl rfl rfl) fun a w hs => hK a w ⟨v5, v6, v7, pF hs 11 [0, 1, 2, 3] [0, 1] rfl⟩
    ·intro L a w hv K Q hK
     obtain ⟨v5, v6, v7, hs⟩ := hv
     exact wGo rfl rfl hs (QM rfl rfl rfl rfl (cnv_u64_u32 (n := QQ n1 s1.Len.toUInt64) Try.underlying22 Try.underlying27)) fun a w hs => hK a w ⟨v5, v6, v7, pF hs 12 [0, 1, 2, 3] [0, 1] rfl⟩
    ·intro L a w hv K Q hK
     obtain ⟨v5, v6, v7, hs⟩ := hv
     exact wGo rfl rfl hs (Qg rfl rfl rfl rfl rfl (bin_sub_u32 (a := s1.Len) (b := (QQ n1 s1.Len.toUInt64).toUInt32))) fun a w hs => hK a w ⟨v5, v6, v7, pF hs 13 [0, 1, 2, 3] [0, 1] rfl⟩
    ·intro L a w hv K Q hK
     obtain ⟨v5, v6, v7, hs⟩ := hv
     exact wGo rfl rfl hs (Qo rfl rfl rfl rfl Km) fun a w hs => hK a w ⟨v5, v6, v7, pF hs 14 [0, 1, 2, 3] [0, 1] rfl⟩
    ·intro L a w hv K Q hK
     obtain ⟨v5, v6, v7, hs⟩ := hv
     exact wGo rfl rfl hs (Qp rfl rfl rfl rfl tyF4 (i := 2) rfl rfl) fun a w hs => hK a w ⟨v5, v6, v7, pF hs 15 [0, 1, 2, 3] [0, 1] rfl⟩
    ·intro L a w hv K Q hK
     obtain ⟨v5, v6, v7, hs⟩ := hv
     exact wGo rfl rfl hs (Zd (v := .agg #[vU64 (s1.At + (QQ n1 s1.Len.toUInt64)), vU32 (s1.Len - ((QQ n1 s1.Len.toUInt64).toUInt32)), vB s1.Write]) rfl rfl rfl rfl (bldV (by kernel_rfl))) fun a w hs => hK a w ⟨v5, v6, v7, pF hs 16 [0, 1, 2, 3] [0, 1] rfl⟩
    ·intro L a w hv K Q hK
     obtain ⟨v5, v6, v7, hs⟩ := hv
     refine QG rfl rfl hs (QF (S := SegS) (xs := [(Seg.mk (s1.At + (QQ n1 s1.Len.toUInt64)) (s1.Len - ((QQ n1 s1.Len.toUInt64).toUInt32)) s1.Write)]) (css := [[vU64 (s1.At + (QQ n1 s1.Len.toUInt64)), vU32 (s1.Len - ((QQ n1 s1.Len.toUInt64).toUInt32)), vB s1.Write]]) (cs := [vU64 (s1.At + (QQ n1 s1.Len.toUInt64)), vU32 (s1.Len - ((QQ n1 s1.Len.toUInt64).toUInt32)), vB s1.Write]) (e := 29) rfl rfl rfl rfl (bldF slF124 (by decide) (by kernel_rfl)) rfl rfl rfl rfl (Ze (S := SegS) (xs := [(Seg.mk (s1.At + (QQ n1 s1.Len.toUInt64)) (s1.Len - ((QQ n1 s1.Len.toUInt64).toUInt32)) s1.Write)]) (css := [[vU64 (s1.At + (QQ n1 s1.Len.toUInt64)), vU32 (s1.Len - ((QQ n1 s1.Len.toUInt64).toUInt32)), vB s1.Write]]) rfl rfl)) ?_
     rintro _ ⟨v5', rfl⟩ a' w' hs'
     exact hK a' w' ⟨v5', v6, v7, hs'.putF (i := 17) rfl [0, 1, 2, 4] [0, 1] rfl rfl rfl rfl⟩
    ·intro L a w hv K Q hK
     obtain ⟨v5, v6, v7, hs⟩ := hv
     exact wGo rfl rfl hs (Qk rfl rfl rfl rfl) fun a w hs => hK a w ⟨v5, v6, v7, pF hs 18 [0, 1, 2, 3] [0, 1] rfl⟩
    ·intro L a w hv K Q hK
     obtain ⟨v5, v6, v7, hs⟩ := hv
     exact wGo rfl rfl hs (QP rfl rfl rfl rfl) fun a w hs => hK a w ⟨v5, v6, v7, pF hs 19 [0, 1, 2, 3] [0, 1] rfl⟩
    ·intro L a w hv K Q hK
     obtain ⟨v5, v6, v7, hs⟩ := hv
     exact wGo rfl rfl hs (Qp rfl rfl rfl rfl tyF124 (i := 0) rfl rfl) fun a w hs => hK a w ⟨v5, v6, v7, pF hs 20 [0, 1, 2, 3] [0, 1] rfl⟩
    ·intro L a w hv K Q hK
     obtain ⟨v5, v6, v7, hs⟩ := hv
     refine QG rfl rfl hs (XQ (l := (1 : Int)) rfl rfl rfl rfl rfl slF124 (i := 0) rfl hc2) ?_
     rintro _ ⟨v6', rfl⟩ a' w' hs'
     exact hK a' w' ⟨v5, v6', v7, hs'.putF (i := 21) rfl [0, 1, 2, 3] [0, 2] rfl rfl rfl rfl⟩
    ·intro L a w hv K Q hK
     obtain ⟨v5, v6, v7, hs⟩ := hv
     refine QG rfl rfl hs (ZS rfl rfl rfl rfl rfl slF124 (i := 3) (j := 1) rfl rfl hc3) ?_
     rintro _ ⟨v7', rfl⟩ a' w' hs'
     exact hK a' w' ⟨v5, v6, v7', hs'.putF (i := 22) rfl [0, 1, 2, 3] [0, 1] rfl rfl rfl rfl⟩
    ·intro L a w hL hv
     rw [QZ hL] at hv
     obtain ⟨v5, v6, v7, hs⟩ := hv
     refine (show TA _ _ _ 19 ⟨[(4, some v4), (44, some (.pointer (some ⟨b_rp0, 0, none⟩))), (62, some v7)], [some (Qd b_rp0 124 [v1]), some (rowS SegS v4 (out1 ++ [(Seg.mk s1.At ((QQ n1 s1.Len.toUInt64).toUInt32) s1.Write)])), some (rowS SegS v7 ([(Seg.mk (s1.At + (QQ n1 s1.Len.toUInt64)) (s1.Len - ((QQ n1 s1.Len.toUInt64).toUInt32)) s1.Write)] ++ (sub m1 (1 : Int) (len m1))))], [Fact.sl SegS v1 m1]⟩ from ?_) a w (hs.wkS [4, 44, 62] [0, 1, 3] [0] rfl rfl rfl rfl)
     clear hs hL
     refine QL htb (by kernel_rfl) rfl rfl (QP rfl rfl rfl rfl) ?_
     refine QL htb (by kernel_rfl) rfl rfl (OpT_storeV (cs' := [v7]) rfl rfl rfl rfl tyF124 (i := 0) rfl (is_row (i := 2) rfl) rfl rfl) ?_
     refine ZW rfl ?_
     refine tW [(4, some v4)] [some (Qd b_rp0 124 [v7]), some (rowS SegS v4 (out1 ++ [(Seg.mk s1.At ((QQ n1 s1.Len.toUInt64).toUInt32) s1.Write)])), some (rowS SegS v7 ([(Seg.mk (s1.At + (QQ n1 s1.Len.toUInt64)) (s1.Len - ((QQ n1 s1.Len.toUInt64).toUInt32)) s1.Write)] ++ (sub m1 (1 : Int) (len m1))))] [] [4] [0, 1, 2] [] rfl ?_
     refine Qe (Qb (sMv rfl rfl rfl ?_))
     refine sAs rfl rfl rfl ?_
     refine nW [(4, some v4)] [some (Qd b_rp0 124 [v7]), some (rowS SegS v4 (out1 ++ [(Seg.mk s1.At ((QQ n1 s1.Len.toUInt64).toUInt32) s1.Write)])), some (rowS SegS v7 ([(Seg.mk (s1.At + (QQ n1 s1.Len.toUInt64)) (s1.Len - ((QQ n1 s1.Len.toUInt64).toUInt32)) s1.Write)] ++ (sub m1 (1 : Int) (len m1))))] [] [4] [0, 1, 2] [] rfl ?_
     refine Tk_retire (i := 2) rfl ?_
     obtain rfl := Option.some.inj h
     exact Qn rfl rfl (resA (vs := [v4]) rfl ⟨rfl, trivial⟩) [0, 1] [0] rfl rfl rfl ⟨v4, v7, rfl, rfl, rfl⟩
   ·replace h := br_f hg3 h
    refine Qm (cgb hg3) ?_
    refine Qr (Qb (sMv rfl rfl rfl ?_))
    refine sMv rfl rfl rfl ?_
    refine Qa rfl (QP rfl rfl rfl rfl) ?_
    refine Qa rfl (Qp rfl rfl rfl rfl tyF124 (i := 0) rfl rfl) ?_
    obtain ⟨hc4, h⟩ := Zi h
    refine Qq rfl (XQ (l := (1 : Int)) rfl rfl rfl rfl rfl slF124 (i := 0) rfl hc4) fun v8 => ?_
    refine Qa rfl (QP rfl rfl rfl rfl) ?_
    refine Qa rfl (OpT_storeV (cs' := [v8]) rfl rfl rfl rfl tyF124 (i := 0) rfl (is_sl (i := 1) rfl) rfl rfl) ?_
    refine nW [(0, some (.pointer (some ⟨b_rp0, 0, none⟩))), (1, some (vU64 (n1 - (QQ n1 s1.Len.toUInt64)))), (4, some v4)] [some (Qd b_rp0 124 [v8]), some (rowS SegS v4 (out1 ++ [(Seg.mk s1.At ((QQ n1 s1.Len.toUInt64).toUInt32) s1.Write)]))] [Fact.sl SegS v8 (sub m1 (1 : Int) (len m1))] [0, 1, 4] [0, 1] [1] rfl ?_
    refine Zk ?_
    exact QN (sub m1 (1 : Int) (len m1), n1 - (QQ n1 s1.Len.toUInt64), out1 ++ [(Seg.mk s1.At ((QQ n1 s1.Len.toUInt64).toUInt32) s1.Write)], v8, v4) h [0, 1, 4] [0, 1] [0] rfl rfl rfl rfl rfl
  ·replace h := br_f hg2 h
   refine Qm (cgb hg2) ?_
   refine Zf _ rfl ?_
   refine Qe (Qb (sMv rfl rfl rfl ?_))
   refine sAs rfl rfl rfl ?_
   refine nW [(4, some v2)] [some (Qd b_rp0 124 [v1]), some (rowS SegS v2 out1)] [Fact.sl SegS v1 m1] [4] [0, 1] [0] rfl ?_
   obtain rfl := Option.some.inj h
   exact Qn rfl rfl (resA (vs := [v2]) rfl ⟨rfl, trivial⟩) [0, 1] [0] rfl rfl rfl ⟨v2, v1, rfl, rfl, rfl⟩
 ·replace h := br_f hg1 h
  refine Qh rfl rfl (cgb hg1) rfl rfl ?_
  refine Qh rfl rfl (cgb hg1) rfl rfl ?_
  refine Qh rfl rfl (cgb hg1) rfl rfl ?_
  refine Qh rfl rfl (cgb hg1) rfl rfl ?_
  refine Qh rfl rfl (cgb hg1) rfl rfl ?_
  refine Qa rfl (Qu rfl rfl rfl (cgb hg1) rfl) ?_
  refine nW [(0, some (.pointer (some ⟨b_rp0, 0, none⟩))), (1, some (vU64 n1)), (4, some v2), (15, some (vB false))] [some (Qd b_rp0 124 [v1]), some (rowS SegS v2 out1)] [Fact.sl SegS v1 m1] [0, 1, 4, 15] [0, 1] [0] rfl ?_
  refine Qm rfl ?_
  refine Zf _ rfl ?_
  refine Qe (Qb (sMv rfl rfl rfl ?_))
  refine sAs rfl rfl rfl ?_
  refine nW [(4, some v2)] [some (Qd b_rp0 124 [v1]), some (rowS SegS v2 out1)] [Fact.sl SegS v1 m1] [4] [0, 1] [0] rfl ?_
  obtain rfl := Option.some.inj h
  exact Qn rfl rfl (resA (vs := [v2]) rfl ⟨rfl, trivial⟩) [0, 1] [0] rfl rfl rfl ⟨v2, v1, rfl, rfl, rfl⟩

set_option maxRecDepth 100000 in
set_option maxHeartbeats 4000000 in
theorem w_seg_Cut {l : List Seg} {fromp1 : UInt64} {np2 : UInt64} {vl1 : Value} {r : (List Seg)} (h : seg_Cut l fromp1 np2 = some r) :
  Ctr Try.prog 73 #[vl1, vU64 fromp1, vU64 np2] [] [Fact.sl SegS vl1 l]
   (fun rv own shr => ∃ (w1 : Value), rv = w1 ∧ own = [(rowS SegS w1 r)] ∧ shr = []) := by
 unfold seg_Cut at h
 refine Ctr.mk (args := [vl1, vU64 fromp1, vU64 np2]) Try.func73 rfl rfl (fun R0 w0 B => ?_)
 refine Qe (Qb (sAs rfl rfl rfl ?_))
 refine nW [(0, some vl1), (1, some (vU64 fromp1)), (2, some (vU64 np2))] [] [Fact.sl SegS vl1 l] [0, 1, 2] [] [0] rfl ?_
 refine Qe (Qe (Qb (sMv rfl rfl rfl ?_)))
 obtain ⟨check1, hx1, h⟩ := ob_e h
 refine Qt rfl (QO (w_seg_Check hx1) [] [0] rfl rfl rfl rfl rfl callee57 rfl rfl rfl rfl) ?_
 rintro _ ⟨_, _, _, ⟨rfl, rfl, rfl⟩, rfl⟩
 refine Qa rfl (Qg rfl rfl rfl rfl rfl (QU (a := check1) (b := (0 : Int)))) ?_
 refine nW [(0, some vl1), (1, some (vU64 fromp1)), (2, some (vU64 np2)), (10, some (vB (check1 != (0 : Int))))] [] [Fact.sl SegS vl1 l] [0, 1, 2, 10] [] [0] rfl ?_
 rcases bC (check1 != (0 : Int)) with hg1 | hg1
 ·replace h := br_t hg1 h
  refine Ql (cgb hg1) ?_
  refine Qe (Qb (sAs rfl rfl rfl ?_))
  refine nW [(6, some (.slice none 0 0))] [] [] [6] [] [] rfl ?_
  refine QI SegS ?_
  obtain rfl := Option.some.inj h
  exact Qn rfl rfl (resA (vs := [.slice none 0 0]) rfl ⟨rfl, trivial⟩) [0] [] rfl rfl rfl ⟨(.slice none 0 0), rfl, rfl, rfl⟩
 ·replace h := br_f hg1 h
  refine Qm (cgb hg1) ?_
  refine Qr (Qe (Qb (sMv rfl rfl rfl ?_)))
  obtain ⟨seg1, hx2, h⟩ := ob_e h
  refine Qt rfl (QO (w_slices_Clone_apiSegapiSeg hx2) [] [0] rfl rfl rfl rfl rfl callee76 rfl rfl rfl rfl) ?_
  rintro _ ⟨v1, _, _, ⟨_, rfl, rfl, rfl⟩, rfl⟩
  refine Qq rfl (Zq rfl rfl rfl tyZ124) fun b1 => ?_
  refine Qa rfl (OpT_storeV (cs' := [v1]) rfl rfl rfl rfl tyF124 (i := 1) rfl (is_row (i := 0) rfl) rfl rfl) ?_
  refine nW [(1, some (vU64 fromp1)), (2, some (vU64 np2)), (7, some (.pointer (some ⟨b1, 0, none⟩)))] [some (rowS SegS v1 seg1), some (Qd b1 124 [v1])] [] [1, 2, 7] [0, 1] [] rfl ?_
  refine Qe (Qb (sMv rfl rfl rfl ?_))
  refine Zn (i := 0) rfl ?_
  obtain ⟨eat1, hx3, h⟩ := ob_e h
  refine Qt rfl (QW [0, 2, 3] (w_seg_row_eat hx3) [1] [0] rfl rfl rfl rfl rfl callee77 rfl rfl rfl rfl rfl) ?_
  rintro _ ⟨v2, _, _, ⟨_, v3, rfl, rfl, rfl⟩, rfl⟩
  refine nW [(2, some (vU64 np2)), (7, some (.pointer (some ⟨b1, 0, none⟩)))] [some (Qd b1 124 [v3])] [Fact.sl SegS v3 eat1.2] [2, 7] [1] [1] rfl ?_
  refine Qe (Qb (sMv rfl rfl rfl ?_))
  obtain ⟨eat2, hx4, h⟩ := ob_e h
  refine Qt rfl (QW [1, 2] (w_seg_row_eat hx4) [0] [0] rfl rfl rfl rfl rfl callee77 rfl rfl rfl rfl rfl) ?_
  rintro _ ⟨v4, _, _, ⟨_, v5, rfl, rfl, rfl⟩, rfl⟩
  refine sAs rfl rfl rfl ?_
  refine nW [(6, some v4)] [some (rowS SegS v4 eat2.1)] [] [6] [1] [] rfl ?_
  obtain rfl := Option.some.inj h
  exact Qn rfl rfl (resA (vs := [v4]) rfl ⟨rfl, trivial⟩) [0] [] rfl rfl rfl ⟨v4, rfl, rfl, rfl⟩

set_option maxRecDepth 100000 in
set_option maxHeartbeats 4000000 in
theorem w_blkdrv_split {l : List Seg} {cuts : List Int} {more : Int} {v_l : Value} {vcuts1 : Value} {r : (List Seg)} (h : Kb l cuts more = some r) :
  Ctr Try.prog 59 #[v_l, vcuts1, vI more] [(rowS SegS v_l l)] [Fact.sl iS vcuts1 cuts]
   (fun rv own shr => ∃ (w1 : Value), rv = w1 ∧ own = [(rowS SegS w1 r)] ∧ shr = []) := by
 unfold Kb at h
 refine Ctr.mk (args := [v_l, vcuts1, vI more]) Try.func59 rfl rfl (fun R0 w0 B => ?_)
 refine Qe (Qb (sAs rfl rfl rfl ?_))
 refine nW [(0, some v_l), (1, some vcuts1), (2, some (vI more))] [some (rowS SegS v_l l)] [Fact.sl iS vcuts1 cuts] [0, 1, 2] [0] [0] rfl ?_
 refine Qe (Qb (sMv rfl rfl rfl ?_))
 obtain ⟨total1, hx1, h⟩ := ob_e h
 refine Qt rfl (Zj [0] [0] (w_seg_Total hx1) [] rfl rfl rfl rfl rfl callee72 rfl rfl rfl rfl rfl rfl (QV (ZO 0 rfl rfl) Xe) (by rintro _ _ _ ⟨rfl, rfl, rfl⟩; exact ⟨rfl, Ye⟩)) ?_
 rintro _ ⟨_, _, _, ⟨rfl, rfl, rfl⟩, rfl⟩
 refine sMv rfl rfl rfl ?_
 refine Qa rfl (Qs rfl rfl rfl rfl rfl) ?_
 refine Qa rfl (Qs rfl rfl rfl rfl rfl) ?_
 refine sAs rfl rfl rfl ?_
 refine sAs rfl rfl rfl ?_
 refine nW [(0, some v_l), (1, some vcuts1), (2, some (vI more)), (7, some (vU64 total1.1)), (8, some (vU64 total1.2))] [some (rowS SegS v_l l)] [Fact.sl iS vcuts1 cuts] [0, 1, 2, 7, 8] [0] [0] rfl ?_
 refine Qe (Qb (sMv rfl rfl rfl ?_))
 refine sMv rfl rfl rfl ?_
 refine Qa rfl (Qg rfl rfl rfl rfl rfl (Zb (a := total1.1) (b := total1.2))) ?_
 refine sAs rfl rfl rfl ?_
 refine nW [(0, some v_l), (1, some vcuts1), (2, some (vI more)), (9, some (vU64 (total1.1 + total1.2)))] [some (rowS SegS v_l l)] [Fact.sl iS vcuts1 cuts] [0, 1, 2, 9] [0] [0] rfl ?_
 refine Qe (Qe (Qb (sAs rfl rfl rfl ?_)))
 refine sAs rfl rfl rfl ?_
 refine QT (Qz (Zc (σ := (List Seg) × Int × UInt64 × Int × Value) [0, 1, 2, 9, 10, 11] [0] [0] (fun s => ⟨[(0, some (s.2.2.2.2)), (1, some vcuts1), (2, some (vI s.2.1)), (9, some (vU64 (total1.1 + total1.2))), (10, some (vU64 s.2.2.1)), (11, some (vI s.2.2.2.1))], [some (rowS SegS s.2.2.2.2 s.1)], [Fact.sl iS vcuts1 cuts]⟩) (fun nf1 s => Xl cuts total1 nf1 s.1 s.2.1 s.2.2.1 s.2.2.2.1 = some r) fuel (l, more, (0 : UInt64), (0 : Int), v_l) h rfl rfl rfl rfl rfl (fun s h => by cases h) ?_))
 rintro nf1 ⟨l1, more1, at1, i1, v1⟩ h
 replace h : Ko cuts total1 (Xl cuts total1 nf1) l1 more1 at1 i1 = some r := h
 unfold Ko at h
 refine Qe (Qe (Qb (sMv rfl rfl rfl ?_)))
 refine sMv rfl rfl rfl ?_
 refine Qa rfl (QB rfl rfl rfl rfl Try.underlying23 (i := 0) rfl) ?_
 refine Qa rfl (Qg rfl rfl rfl rfl rfl (QK (a := i1) (b := len cuts))) ?_
 refine nW [(0, some v1), (1, some vcuts1), (2, some (vI more1)), (9, some (vU64 (total1.1 + total1.2))), (10, some (vU64 at1)), (11, some (vI i1)), (25, some (vB (decide (i1 < (len cuts)))))] [some (rowS SegS v1 l1)] [Fact.sl iS vcuts1 cuts] [0, 1, 2, 9, 10, 11, 25] [0] [0] rfl ?_
 rcases bC (decide (i1 < (len cuts))) with hg1 | hg1
 ·replace h := br_t hg1 h
  refine Ql (cgb hg1) ?_
  refine Qr (Qe (Qz (Qe (Qe (Qb (sMv rfl rfl rfl ?_))))))
  refine sMv rfl rfl rfl ?_
  obtain ⟨y1, hx2, h⟩ := ob_e h
  refine Qq rfl (QA rfl rfl rfl rfl rfl slF23 (i := 0) rfl hx2) fun p1 => ?_
  refine Qa rfl (QC rfl rfl rfl rfl tyF3 (i := 1) rfl rfl) ?_
  refine Qa rfl (Qg rfl rfl rfl rfl rfl (bin_leq_i (a := y1) (b := (0 : Int)))) ?_
  refine sMv rfl rfl rfl ?_
  rcases bC (decide (y1 ≤ (0 : Int))) with hg2 | hg2
  ·replace h := br_t hg2 h
   refine Qh rfl rfl (cgb hg2) rfl rfl ?_
   refine Qh rfl rfl (cgb hg2) rfl rfl ?_
   refine Qh rfl rfl (cgb hg2) rfl rfl ?_
   refine Qh rfl rfl (cgb hg2) rfl rfl ?_
   refine Qh rfl rfl (cgb hg2) rfl rfl ?_
   refine Qh rfl rfl (cgb hg2) rfl rfl ?_
   refine Qh rfl rfl (cgb hg2) rfl rfl ?_
   refine Qh rfl rfl (cgb hg2) rfl rfl ?_
   refine Qh rfl rfl (cgb hg2) rfl rfl ?_
   refine Qa rfl (Qw rfl rfl rfl (cgb hg2) rfl) ?_
   refine nW [(0, some v1), (1, some vcuts1), (2, some (vI more1)), (9, some (vU64 (total1.1 + total1.2))), (10, some (vU64 at1)), (11, some (vI i1)), (43, some (vB true))] [some (rowS SegS v1 l1)] [Fact.sl iS vcuts1 cuts] [0, 1, 2, 9, 10, 11, 43] [0] [0] rfl ?_
   refine Ql rfl ?_
   refine Zf _ rfl ?_
   refine Qb (sMv rfl rfl rfl ?_)
   refine Qa rfl (Qg rfl rfl rfl rfl rfl (Qx (a := i1) (b := (1 : Int)))) ?_
   refine sAs rfl rfl rfl ?_
   refine nW [(0, some v1), (1, some vcuts1), (2, some (vI more1)), (9, some (vU64 (total1.1 + total1.2))), (10, some (vU64 at1)), (11, some (vI (wi (i1 + (1 : Int)))))] [some (rowS SegS v1 l1)] [Fact.sl iS vcuts1 cuts] [0, 1, 2, 9, 10, 11] [0] [0] rfl ?_
   exact QN (l1, more1, at1, wi (i1 + (1 : Int)), v1) h [0, 1, 2, 9, 10, 11] [0] [0] rfl rfl rfl rfl rfl
  ·replace h := br_f hg2 h
   refine Qi rfl rfl (cgb hg2) (Qk rfl rfl rfl rfl) ?_
   rintro _ rfl
   refine Qi rfl rfl (cgb hg2) (Qk rfl rfl rfl rfl) ?_
   rintro _ rfl
   obtain ⟨y2, hx3, h⟩ := ob_e h
   refine Qi rfl rfl (cgb hg2) (QA rfl rfl rfl rfl rfl slF23 (i := 0) rfl hx3) ?_
   rintro _ ⟨p2, rfl⟩
   refine Qi rfl rfl (cgb hg2) (QC rfl rfl rfl rfl tyF3 (i := 2) rfl rfl) ?_
   rintro _ rfl
   refine Qi rfl rfl (cgb hg2) (QM rfl rfl rfl rfl (Yq (n := y2) Try.underlying3 Try.underlying22)) ?_
   rintro _ rfl
   refine Qi rfl rfl (cgb hg2) (Qk rfl rfl rfl rfl) ?_
   rintro _ rfl
   refine Qi rfl rfl (cgb hg2) (Qk rfl rfl rfl rfl) ?_
   rintro _ rfl
   refine Qi rfl rfl (cgb hg2) (Qg rfl rfl rfl rfl rfl (Zu (a := total1.1 + total1.2) (b := at1))) ?_
   rintro _ rfl
   refine Qi rfl rfl (cgb hg2) (Qg rfl rfl rfl rfl rfl (Yt (a := u64 y2) (b := (total1.1 + total1.2) - at1))) ?_
   rintro _ rfl
   refine Qa rfl (Qu rfl rfl rfl (cgb hg2) rfl) ?_
   refine nW [(0, some v1), (1, some vcuts1), (2, some (vI more1)), (9, some (vU64 (total1.1 + total1.2))), (10, some (vU64 at1)), (11, some (vI i1)), (43, some (vB (decide ((u64 y2) ≥ ((total1.1 + total1.2) - at1)))))] [some (rowS SegS v1 l1)] [Fact.sl iS vcuts1 cuts] [0, 1, 2, 9, 10, 11, 43] [0] [0] rfl ?_
   rcases bC (decide ((u64 y2) ≥ ((total1.1 + total1.2) - at1))) with hg3 | hg3
   ·replace h := br_t hg3 h
    refine Ql (cgb hg3) ?_
    refine Zf _ rfl ?_
    refine Qb (sMv rfl rfl rfl ?_)
    refine Qa rfl (Qg rfl rfl rfl rfl rfl (Qx (a := i1) (b := (1 : Int)))) ?_
    refine sAs rfl rfl rfl ?_
    refine nW [(0, some v1), (1, some vcuts1), (2, some (vI more1)), (9, some (vU64 (total1.1 + total1.2))), (10, some (vU64 at1)), (11, some (vI (wi (i1 + (1 : Int)))))] [some (rowS SegS v1 l1)] [Fact.sl iS vcuts1 cuts] [0, 1, 2, 9, 10, 11] [0] [0] rfl ?_
    exact QN (l1, more1, at1, wi (i1 + (1 : Int)), v1) h [0, 1, 2, 9, 10, 11] [0] [0] rfl rfl rfl rfl rfl
   ·replace h := br_f hg3 h
    refine Qm (cgb hg3) ?_
    refine Qr (Qe (Qb (sMv rfl rfl rfl ?_)))
    refine sMv rfl rfl rfl ?_
    refine sMv rfl rfl rfl ?_
    obtain ⟨y3, hx4, h⟩ := ob_e h
    refine Qq rfl (QA rfl rfl rfl rfl rfl slF23 (i := 0) rfl hx4) fun p3 => ?_
    refine Qa rfl (QC rfl rfl rfl rfl tyF3 (i := 1) rfl rfl) ?_
    refine Qa rfl (QM rfl rfl rfl rfl (Yq (n := y3) Try.underlying3 Try.underlying22)) ?_
    refine Qa rfl (Qg rfl rfl rfl rfl rfl (Zb (a := at1) (b := u64 y3))) ?_
    refine sAs rfl rfl rfl ?_
    refine nW [(0, some v1), (1, some vcuts1), (2, some (vI more1)), (9, some (vU64 (total1.1 + total1.2))), (11, some (vI i1)), (12, some (vU64 (at1 + (u64 y3))))] [some (rowS SegS v1 l1)] [Fact.sl iS vcuts1 cuts] [0, 1, 2, 9, 11, 12] [0] [0] rfl ?_
    refine Qe (Qb (sMv rfl rfl rfl ?_))
    refine sMv rfl rfl rfl ?_
    obtain ⟨cut1, hx5, h⟩ := ob_e h
    refine Qt rfl (Zj [0] [0, 1] (w_seg_Cut hx5) [] rfl rfl rfl rfl rfl callee73 rfl rfl rfl rfl rfl rfl (QV (ZO 0 rfl rfl) Xe) (by rintro _ _ _ ⟨_, rfl, rfl, rfl⟩; exact ⟨rfl, (ZL (ri_row (S := SegS) rfl _ _) Ye)⟩)) ?_
    rintro _ ⟨v2, _, _, ⟨_, rfl, rfl, rfl⟩, rfl⟩
    refine sMv rfl rfl rfl ?_
    refine sMv rfl rfl rfl ?_
    refine sMv rfl rfl rfl ?_
    obtain ⟨cut2, hx6, h⟩ := ob_e h
    refine Qt rfl (Zj [0] [0, 1, 2] (w_seg_Cut hx6) [] rfl rfl rfl rfl rfl callee73 rfl rfl rfl rfl rfl rfl (QV (ZO 0 rfl rfl) Xe) (by rintro _ _ _ ⟨_, rfl, rfl, rfl⟩; exact ⟨rfl, (ZL (ri_row (S := SegS) rfl _ _) Ye)⟩)) ?_
    rintro _ ⟨v3, _, _, ⟨_, rfl, rfl, rfl⟩, rfl⟩
    obtain ⟨hc1, h⟩ := Zi h
    refine Qq rfl (ZH (S := SegS) rfl rfl rfl rfl rfl rfl XS (i := 1) (j := 2) rfl rfl hc1) fun v4 => ?_
    refine sAs rfl rfl rfl ?_
    refine nW [(0, some v1), (1, some vcuts1), (2, some (vI more1)), (9, some (vU64 (total1.1 + total1.2))), (11, some (vI i1)), (12, some (vU64 (at1 + (u64 y3)))), (13, some v4)] [some (rowS SegS v1 l1), some (rowS SegS v4 (cut1 ++ cut2))] [Fact.sl iS vcuts1 cuts] [0, 1, 2, 9, 11, 12, 13] [0, 1] [0] rfl ?_
    refine Qe (Qe (Qb (sMv rfl rfl rfl ?_)))
    refine Qa rfl (Kp rfl rfl rfl rfl Try.underlying25 (i := 1) rfl) ?_
    refine sMv rfl rfl rfl ?_
    refine Qa rfl (Kp rfl rfl rfl rfl Try.underlying25 (i := 0) rfl) ?_
    refine Qa rfl (Qg rfl rfl rfl rfl rfl (ZD (a := len (cut1 ++ cut2)) (b := len l1))) ?_
    refine nW [(0, some v1), (1, some vcuts1), (2, some (vI more1)), (9, some (vU64 (total1.1 + total1.2))), (11, some (vI i1)), (12, some (vU64 (at1 + (u64 y3)))), (13, some v4), (63, some (vB (decide ((len (cut1 ++ cut2)) > (len l1)))))] [some (rowS SegS v1 l1), some (rowS SegS v4 (cut1 ++ cut2))] [Fact.sl iS vcuts1 cuts] [0, 1, 2, 9, 11, 12, 13, 63] [0, 1] [0] rfl ?_
    refine Yu (α := Int) (fun s => ⟨[(1, some vcuts1), (2, some (vI s)), (9, some (vU64 (total1.1 + total1.2))), (11, some (vI i1)), (12, some (vU64 (at1 + (u64 y3)))), (13, some v4)], [some (rowS SegS v4 (cut1 ++ cut2))], [Fact.sl iS vcuts1 cuts]⟩) (fun s => Yj at1 i1 (Xl cuts total1 nf1) y3 cut1 cut2 s = some r) ?_ ?_
    ·rintro more2 h
     replace h : Yj at1 i1 (Xl cuts total1 nf1) y3 cut1 cut2 more2 = some r := h
     unfold Yj at h
     refine Qb (sMv rfl rfl rfl ?_)
     refine sMv rfl rfl rfl ?_
     refine sAs rfl rfl rfl ?_
     refine sAs rfl rfl rfl ?_
     refine nW [(1, some vcuts1), (2, some (vI more2)), (9, some (vU64 (total1.1 + total1.2))), (11, some (vI i1)), (0, some v4), (10, some (vU64 (at1 + (u64 y3))))] [some (rowS SegS v4 (cut1 ++ cut2))] [Fact.sl iS vcuts1 cuts] [1, 2, 9, 11, 0, 10] [0] [0] rfl ?_
     refine Zk (Qb (sMv rfl rfl rfl ?_))
     refine Qa rfl (Qg rfl rfl rfl rfl rfl (Qx (a := i1) (b := (1 : Int)))) ?_
     refine sAs rfl rfl rfl ?_
     refine nW [(1, some vcuts1), (2, some (vI more2)), (9, some (vU64 (total1.1 + total1.2))), (11, some (vI (wi (i1 + (1 : Int))))), (0, some v4), (10, some (vU64 (at1 + (u64 y3))))] [some (rowS SegS v4 (cut1 ++ cut2))] [Fact.sl iS vcuts1 cuts] [1, 2, 9, 11, 0, 10] [0] [0] rfl ?_
     exact QN (cut1 ++ cut2, more2, at1 + (u64 y3), wi (i1 + (1 : Int)), v4) h [0, 1, 2, 9, 10, 11] [0] [0] rfl rfl rfl rfl rfl
    ·intro HJ1
     rcases bC (decide ((len (cut1 ++ cut2)) > (len l1))) with hg4 | hg4
     ·replace h := br_t hg4 h
      refine Ql (cgb hg4) ?_
      refine Qe (Qe (Qb (sMv rfl rfl rfl ?_)))
      refine Qa rfl (Qg rfl rfl rfl rfl rfl (Xh (a := more1) (b := (0 : Int)))) ?_
      refine nW [(0, some v1), (1, some vcuts1), (2, some (vI more1)), (9, some (vU64 (total1.1 + total1.2))), (11, some (vI i1)), (12, some (vU64 (at1 + (u64 y3)))), (13, some v4), (65, some (vB (more1 == (0 : Int))))] [some (rowS SegS v1 l1), some (rowS SegS v4 (cut1 ++ cut2))] [Fact.sl iS vcuts1 cuts] [0, 1, 2, 9, 11, 12, 13, 65] [0, 1] [0] rfl ?_
      rcases bC (more1 == (0 : Int)) with hg5 | hg5
      ·replace h := br_t hg5 h
       refine Ql (cgb hg5) ?_
       refine Zf _ rfl ?_
       refine Qe (Qb (sMv rfl rfl rfl ?_))
       refine sAs rfl rfl rfl ?_
       refine nW [(6, some v1)] [some (rowS SegS v1 l1)] [] [6] [0] [] rfl ?_
       obtain rfl := Option.some.inj h
       exact Qn rfl rfl (resA (vs := [v1]) rfl ⟨rfl, trivial⟩) [0] [] rfl rfl rfl ⟨v1, rfl, rfl, rfl⟩
      ·replace h := br_f hg5 h
       refine Qm (cgb hg5) ?_
       refine Qr (Qb (sMv rfl rfl rfl ?_))
       refine Qa rfl (Qg rfl rfl rfl rfl rfl (Xu (a := more1) (b := (1 : Int)))) ?_
       refine sAs rfl rfl rfl ?_
       refine nW [(1, some vcuts1), (2, some (vI (wi (more1 - (1 : Int))))), (9, some (vU64 (total1.1 + total1.2))), (11, some (vI i1)), (12, some (vU64 (at1 + (u64 y3)))), (13, some v4)] [some (rowS SegS v4 (cut1 ++ cut2))] [Fact.sl iS vcuts1 cuts] [1, 2, 9, 11, 12, 13] [1] [0] rfl ?_
       exact ZP (HJ1 (wi (more1 - (1 : Int))) h) [1, 2, 9, 11, 12, 13] [0] [0] rfl rfl rfl rfl
     ·replace h := br_f hg4 h
      refine Qm (cgb hg4) ?_
      refine Qr ?_
      exact ZP (HJ1 more1 h) [1, 2, 9, 11, 12, 13] [1] [0] rfl rfl rfl rfl
 ·replace h := br_f hg1 h
  refine Qm (cgb hg1) ?_
  refine Zf _ rfl ?_
  refine Qe (Qb (sMv rfl rfl rfl ?_))
  refine sAs rfl rfl rfl ?_
  refine nW [(6, some v1)] [some (rowS SegS v1 l1)] [] [6] [0] [] rfl ?_
  obtain rfl := Option.some.inj h
  exact Qn rfl rfl (resA (vs := [v1]) rfl ⟨rfl, trivial⟩) [0] [] rfl rfl rfl ⟨v1, rfl, rfl, rfl⟩

set_option maxRecDepth 100000 in
set_option maxHeartbeats 4000000 in
theorem w_blkdrv_Cut {l : List Seg} {cuts : List Int} {vl1 : Value} {vcuts1 : Value} {r : (List Seg)} (h : blkdrv_Cut l cuts = some r) :
  Ctr Try.prog 32 #[vl1, vcuts1] [] [Fact.sl SegS vl1 l, Fact.sl iS vcuts1 cuts]
   (fun rv own shr => ∃ (w1 : Value), rv = w1 ∧ own = [(rowS SegS w1 r)] ∧ shr = []) := by
 unfold blkdrv_Cut at h
 refine Ctr.mk (args := [vl1, vcuts1]) Try.func32 rfl rfl (fun R0 w0 B => ?_)
 refine Qe (Qb (sAs rfl rfl rfl ?_))
 refine nW [(0, some vl1), (1, some vcuts1)] [] [Fact.sl SegS vl1 l, Fact.sl iS vcuts1 cuts] [0, 1] [] [0, 1] rfl ?_
 refine Qe (Qe (Qb (sMv rfl rfl rfl ?_)))
 obtain ⟨check1, hx1, h⟩ := ob_e h
 refine Qt rfl (QO (w_seg_Check hx1) [] [0] rfl rfl rfl rfl rfl callee57 rfl rfl rfl rfl) ?_
 rintro _ ⟨_, _, _, ⟨rfl, rfl, rfl⟩, rfl⟩
 refine Qa rfl (Qg rfl rfl rfl rfl rfl (QU (a := check1) (b := (0 : Int)))) ?_
 refine nW [(0, some vl1), (1, some vcuts1), (9, some (vB (check1 != (0 : Int))))] [] [Fact.sl SegS vl1 l, Fact.sl iS vcuts1 cuts] [0, 1, 9] [] [0, 1] rfl ?_
 rcases bC (check1 != (0 : Int)) with hg1 | hg1
 ·replace h := br_t hg1 h
  refine Ql (cgb hg1) ?_
  refine Qe (Qb (sAs rfl rfl rfl ?_))
  refine nW [(4, some (.slice none 0 0))] [] [] [4] [] [] rfl ?_
  refine QI SegS ?_
  obtain rfl := Option.some.inj h
  exact Qn rfl rfl (resA (vs := [.slice none 0 0]) rfl ⟨rfl, trivial⟩) [0] [] rfl rfl rfl ⟨(.slice none 0 0), rfl, rfl, rfl⟩
 ·replace h := br_f hg1 h
  refine Qm (cgb hg1) ?_
  refine Qr (Qe (Qb (sMv rfl rfl rfl ?_)))
  obtain ⟨part1, hx2, h⟩ := ob_e h
  refine Qt rfl (QO (w_seg_Part hx2) [] [0] rfl rfl rfl rfl rfl callee58 rfl rfl rfl rfl) ?_
  rintro _ ⟨v1, _, _, ⟨_, rfl, rfl, rfl⟩, rfl⟩
  refine sMv rfl rfl rfl ?_
  obtain ⟨part2, hx3, h⟩ := ob_e h
  refine Qt rfl (QO (w_seg_Part hx3) [] [0] rfl rfl rfl rfl rfl callee58 rfl rfl rfl rfl) ?_
  rintro _ ⟨v2, _, _, ⟨_, rfl, rfl, rfl⟩, rfl⟩
  refine sAs rfl rfl rfl ?_
  refine sAs rfl rfl rfl ?_
  refine nW [(0, some vl1), (1, some vcuts1), (5, some v1), (6, some v2)] [some (rowS SegS v1 part1), some (rowS SegS v2 part2)] [Fact.sl SegS vl1 l, Fact.sl iS vcuts1 cuts] [0, 1, 5, 6] [0, 1] [0, 1] rfl ?_
  refine Qe (Qb (sMv rfl rfl rfl ?_))
  refine sMv rfl rfl rfl ?_
  refine sMv rfl rfl rfl ?_
  refine Qa rfl (QB rfl rfl rfl rfl Try.underlying25 (i := 0) rfl) ?_
  refine Qa rfl (Qg rfl rfl rfl rfl rfl (Xu (a := (64 : Int)) (b := len l))) ?_
  obtain ⟨split1, hx4, h⟩ := ob_e h
  refine Qt rfl (QO (w_blkdrv_split hx4) [0] [1] rfl rfl rfl rfl rfl callee59 rfl rfl rfl rfl) ?_
  rintro _ ⟨v3, _, _, ⟨_, rfl, rfl, rfl⟩, rfl⟩
  refine sAs rfl rfl rfl ?_
  refine nW [(1, some vcuts1), (5, some v3), (6, some v2)] [some (rowS SegS v2 part2), some (rowS SegS v3 split1)] [Fact.sl iS vcuts1 cuts] [1, 5, 6] [1, 2] [1] rfl ?_
  refine Qe (Qb (sMv rfl rfl rfl ?_))
  refine sMv rfl rfl rfl ?_
  refine sMv rfl rfl rfl ?_
  refine Qa rfl (Kp rfl rfl rfl rfl Try.underlying25 (i := 1) rfl) ?_
  refine Qa rfl (Qg rfl rfl rfl rfl rfl (Xu (a := (64 : Int)) (b := len split1))) ?_
  refine sMv rfl rfl rfl ?_
  refine Qa rfl (Kp rfl rfl rfl rfl Try.underlying25 (i := 0) rfl) ?_
  refine Qa rfl (Qg rfl rfl rfl rfl rfl (Xu (a := wi ((64 : Int) - (len split1))) (b := len part2))) ?_
  obtain ⟨split2, hx5, h⟩ := ob_e h
  refine Qt rfl (QO (w_blkdrv_split hx5) [0] [0] rfl rfl rfl rfl rfl callee59 rfl rfl rfl rfl) ?_
  rintro _ ⟨v4, _, _, ⟨_, rfl, rfl, rfl⟩, rfl⟩
  refine sAs rfl rfl rfl ?_
  refine nW [(5, some v3), (6, some v4)] [some (rowS SegS v3 split1), some (rowS SegS v4 split2)] [] [5, 6] [1, 2] [] rfl ?_
  refine Qe (Qb (sMv rfl rfl rfl ?_))
  refine sMv rfl rfl rfl ?_
  obtain ⟨hc1, h⟩ := Zi h
  refine Qq rfl (ZH (S := SegS) rfl rfl rfl rfl rfl rfl XS (i := 0) (j := 1) rfl rfl hc1) fun v5 => ?_
  refine sAs rfl rfl rfl ?_
  refine nW [(4, some v5)] [some (rowS SegS v5 (split1 ++ split2))] [] [4] [0] [] rfl ?_
  obtain rfl := Option.some.inj h
  exact Qn rfl rfl (resA (vs := [v5]) rfl ⟨rfl, trivial⟩) [0] [] rfl rfl rfl ⟨v5, rfl, rfl, rfl⟩

set_option maxRecDepth 100000 in
set_option maxHeartbeats 4000000 in
theorem w_netdrv_Post {atp0 : UInt64} {np1 : Int} {cuts : List Int} {vcuts1 : Value} {r : (List Seg)} (h : netdrv_Post atp0 np1 cuts = some r) :
  Ctr Try.prog 8 #[vU64 atp0, vI np1, vcuts1] [] [Fact.sl iS vcuts1 cuts]
   (fun rv own shr => ∃ (w1 : Value), rv = w1 ∧ own = [(rowS SegS w1 r)] ∧ shr = []) := by
 unfold netdrv_Post at h
 refine Ctr.mk (args := [vU64 atp0, vI np1, vcuts1]) Try.func8 rfl rfl (fun R0 w0 B => ?_)
 refine Qe (Qb (sAs rfl rfl rfl ?_))
 refine nW [(0, some (vU64 atp0)), (1, some (vI np1)), (2, some vcuts1)] [] [Fact.sl iS vcuts1 cuts] [0, 1, 2] [] [0] rfl ?_
 refine Qe (Qe (Qb (sMv rfl rfl rfl ?_)))
 refine Qa rfl (Qg rfl rfl rfl rfl rfl (QK (a := np1) (b := (1 : Int)))) ?_
 refine sMv rfl rfl rfl ?_
 rcases bC (decide (np1 < (1 : Int))) with hg1 | hg1
 ·replace h := br_t hg1 h
  refine Qh rfl rfl (cgb hg1) rfl rfl ?_
  refine Qh rfl rfl (cgb hg1) rfl rfl ?_
  refine Qa rfl (Qw rfl rfl rfl (cgb hg1) rfl) ?_
  refine nW [(0, some (vU64 atp0)), (1, some (vI np1)), (2, some vcuts1), (12, some (vB true))] [] [Fact.sl iS vcuts1 cuts] [0, 1, 2, 12] [] [0] rfl ?_
  refine Ql rfl ?_
  refine Qe (Qb (sAs rfl rfl rfl ?_))
  refine nW [(6, some (.slice none 0 0))] [] [] [6] [] [] rfl ?_
  refine QI SegS ?_
  obtain rfl := Option.some.inj h
  exact Qn rfl rfl (resA (vs := [.slice none 0 0]) rfl ⟨rfl, trivial⟩) [0] [] rfl rfl rfl ⟨(.slice none 0 0), rfl, rfl, rfl⟩
 ·replace h := br_f hg1 h
  refine Qi rfl rfl (cgb hg1) (Qk rfl rfl rfl rfl) ?_
  rintro _ rfl
  refine Qi rfl rfl (cgb hg1) (Qg rfl rfl rfl rfl rfl (bin_geq_i (a := np1) (b := (4294967296 : Int)))) ?_
  rintro _ rfl
  refine Qa rfl (Qu rfl rfl rfl (cgb hg1) rfl) ?_
  refine nW [(0, some (vU64 atp0)), (1, some (vI np1)), (2, some vcuts1), (12, some (vB (decide (np1 ≥ (4294967296 : Int)))))] [] [Fact.sl iS vcuts1 cuts] [0, 1, 2, 12] [] [0] rfl ?_
  rcases bC (decide (np1 ≥ (4294967296 : Int))) with hg2 | hg2
  ·replace h := br_t hg2 h
   refine Ql (cgb hg2) ?_
   refine Qe (Qb (sAs rfl rfl rfl ?_))
   refine nW [(6, some (.slice none 0 0))] [] [] [6] [] [] rfl ?_
   refine QI SegS ?_
   obtain rfl := Option.some.inj h
   exact Qn rfl rfl (resA (vs := [.slice none 0 0]) rfl ⟨rfl, trivial⟩) [0] [] rfl rfl rfl ⟨(.slice none 0 0), rfl, rfl, rfl⟩
  ·replace h := br_f hg2 h
   refine Qm (cgb hg2) ?_
   refine Qr (Qe (Qb (sMv rfl rfl rfl ?_)))
   refine sMv rfl rfl rfl ?_
   refine Qa rfl (QM rfl rfl rfl rfl (cnv_i_u32 (n := np1) Try.underlying3 Try.underlying27)) ?_
   refine Qa rfl (Zd (v := .agg #[vU64 atp0, vU32 (u32 np1), vB true]) rfl rfl rfl rfl (bldV (by kernel_rfl))) ?_
   refine Qq rfl (QF (S := SegS) (xs := [(Seg.mk atp0 (u32 np1) true)]) (css := [[vU64 atp0, vU32 (u32 np1), vB true]]) (cs := [vU64 atp0, vU32 (u32 np1), vB true]) (e := 29) rfl rfl rfl rfl (bldF XS (by decide) (by kernel_rfl)) rfl rfl rfl rfl (Ze (S := SegS) (xs := [(Seg.mk atp0 (u32 np1) true)]) (css := [[vU64 atp0, vU32 (u32 np1), vB true]]) rfl rfl)) fun v1 => ?_
   refine sMv rfl rfl rfl ?_
   obtain ⟨cut1, hx1, h⟩ := ob_e h
   refine Qt rfl (Zj [0] [0, 1] (w_blkdrv_Cut hx1) [] rfl rfl rfl rfl rfl callee32 rfl rfl rfl rfl rfl rfl (QV (ZO 0 rfl rfl) (QV (bor_shr 0 rfl) Xe)) (by rintro _ _ _ ⟨_, rfl, rfl, rfl⟩; exact ⟨rfl, (ZL (ri_row (S := SegS) rfl _ _) Ye)⟩)) ?_
   rintro _ ⟨v2, _, _, ⟨_, rfl, rfl, rfl⟩, rfl⟩
   refine sAs rfl rfl rfl ?_
   refine nW [(6, some v2)] [some (rowS SegS v2 cut1)] [] [6] [1] [] rfl ?_
   obtain rfl := Option.some.inj h
   exact Qn rfl rfl (resA (vs := [v2]) rfl ⟨rfl, trivial⟩) [0] [] rfl rfl rfl ⟨v2, rfl, rfl, rfl⟩

set_option maxRecDepth 100000 in
set_option maxHeartbeats 4000000 in
theorem w_ref_Check05 {l : List Seg} {vl1 : Value} {r : Int} (h : ref_Check05 l = some r) :
  Ctr Try.prog 9 #[vl1] [] [Fact.sl SegS vl1 l]
   (fun rv own shr => rv = vI r ∧ own = [] ∧ shr = []) := by
 unfold ref_Check05 at h
 refine Ctr.mk (args := [vl1]) Try.func9 rfl rfl (fun R0 w0 B => ?_)
 refine Qe (Qb (sAs rfl rfl rfl ?_))
 refine nW [(0, some vl1)] [] [Fact.sl SegS vl1 l] [0] [] [0] rfl ?_
 refine Qe (Qe (Qb (sMv rfl rfl rfl ?_)))
 refine Qa rfl (QB rfl rfl rfl rfl Try.underlying25 (i := 0) rfl) ?_
 refine Qa rfl (Qg rfl rfl rfl rfl rfl (ZD (a := len l) (b := (64 : Int)))) ?_
 refine nW [(0, some vl1), (7, some (vB (decide ((len l) > (64 : Int)))))] [] [Fact.sl SegS vl1 l] [0, 7] [] [0] rfl ?_
 rcases bC (decide ((len l) > (64 : Int))) with hg1 | hg1
 ·replace h := br_t hg1 h
  refine Ql (cgb hg1) ?_
  refine Qe (Qb (sAs rfl rfl rfl ?_))
  refine nW [(2, some (vI (3 : Int)))] [] [] [2] [] [] rfl ?_
  obtain rfl := Option.some.inj h
  exact Qn rfl rfl (resA (vs := [vI (3 : Int)]) rfl ⟨rfl, trivial⟩) [] [] rfl rfl rfl ⟨rfl, rfl, rfl⟩
 ·replace h := br_f hg1 h
  refine Qm (cgb hg1) ?_
  refine Qr (Qe (Qb (sAs rfl rfl rfl ?_)))
  refine nW [(0, some vl1), (3, some (vU64 (0 : UInt64)))] [] [Fact.sl SegS vl1 l] [0, 3] [] [0] rfl ?_
  refine Qe (Qe (Qb (sAs rfl rfl rfl ?_)))
  refine QT (Qz (Zc (σ := UInt64 × Int) [0, 3, 4] [] [0] (fun s => ⟨[(0, some vl1), (3, some (vU64 s.1)), (4, some (vI s.2))], [], [Fact.sl SegS vl1 l]⟩) (fun nf1 s => XV l nf1 s.1 s.2 = some r) fuel ((0 : UInt64), (0 : Int)) h rfl rfl rfl rfl rfl (fun s h => by cases h) ?_))
  rintro nf1 ⟨sum1, i1⟩ h
  replace h : ref_Check05L1B l (XV l nf1) sum1 i1 = some r := h
  unfold ref_Check05L1B at h
  refine Qe (Qe (Qb (sMv rfl rfl rfl ?_)))
  refine sMv rfl rfl rfl ?_
  refine Qa rfl (QB rfl rfl rfl rfl Try.underlying25 (i := 0) rfl) ?_
  refine Qa rfl (Qg rfl rfl rfl rfl rfl (QK (a := i1) (b := len l))) ?_
  refine nW [(0, some vl1), (3, some (vU64 sum1)), (4, some (vI i1)), (11, some (vB (decide (i1 < (len l)))))] [] [Fact.sl SegS vl1 l] [0, 3, 4, 11] [] [0] rfl ?_
  rcases bC (decide (i1 < (len l))) with hg2 | hg2
  ·replace h := br_t hg2 h
   refine Ql (cgb hg2) ?_
   refine Qr (Qe (Qz (Qe (Qe (Zw (by kernel_rfl) ?_)))))
   refine TA_tb [0, 0, 3, 7, 15, 31, 63, 127, 127, 511, 1023, 2047, 127, 127, 12415, 28799, 61567, 127103, 258175, 524287, 127, 127, 3145855, 7340159, 15728767, 33554431, 67108863, 134217727, 268435455, 536870911, 1073741823, 2147483647, 2147483647, 6442450943, 17179869183, 34359738367, 68719476735, 137438953471, 274877906943, 549755813887, 549755813887, 2199023255551, 4398046511103, 8796093022207, 17592186044415, 35184372088831, 70368744177663] (by kernel_rfl) fun htb => ?_
   refine Xy (fr' := [(0, some vl1), (3, some (vU64 sum1)), (4, some (vI i1))]) (own' := []) (shr' := [Fact.sl SegS vl1 l]) [0, 3, 4] [] [0] rfl rfl rfl rfl ?_
   refine Zs (lo := 0) (hi := 2) htb rfl rfl (by kernel_rfl) (fun c L a w => Sat c ⟨[(0, some vl1), (3, some (vU64 sum1)), (4, some (vI i1)), (14, bif L 0 then some (vl1) else none), (15, bif L 1 then some (vI i1) else none)], [], [Fact.sl SegS vl1 l]⟩ a w) [([], []), ([], [])] rfl (by kernel_rfl) ?_ (Qc ?_ (Qc ?_ (QH))) ?_
   ·intro a w hs
    exact hs.startF [14, 15] [] [0] rfl rfl rfl rfl
   ·intro L a w hs K Q hK
    exact wGo rfl rfl hs (Qk rfl rfl rfl rfl) fun a w hs => hK a w (pF hs 3 [] [0] rfl)
   ·intro L a w hs K Q hK
    exact wGo rfl rfl hs (Qk rfl rfl rfl rfl) fun a w hs => hK a w (pF hs 4 [] [0] rfl)
   ·intro L a w hL hv
    rw [QZ hL] at hv
    have hs := hv
    refine (show TA _ _ _ 2 ⟨[(0, some vl1), (3, some (vU64 sum1)), (4, some (vI i1)), (14, some vl1), (15, some (vI i1))], [], [Fact.sl SegS vl1 l]⟩ from ?_) a w (hs.wkS [0, 3, 4, 14, 15] [] [0] rfl rfl rfl rfl)
    clear hs hL
    obtain ⟨s1, hx1, h⟩ := ob_e h
    refine TA_ex htb (by kernel_rfl) rfl rfl (QA rfl rfl rfl rfl rfl XS (i := 0) rfl hx1) fun p1 => ?_
    refine TA_ex htb (by kernel_rfl) rfl rfl (QJ (S' := u32S) (y := s1.Len) rfl rfl rfl rfl ZV (i := 1) rfl (by intro h cs hr; subst hr; rfl)) fun p2 => ?_
    refine QL htb (by kernel_rfl) rfl rfl (QC rfl rfl rfl rfl tyF27 (i := 2) rfl rfl) ?_
    refine QL htb (by kernel_rfl) rfl rfl (Qg rfl rfl rfl rfl rfl (bin_eql_u32 (a := s1.Len) (b := (0 : UInt32)))) ?_
    refine QL htb (by kernel_rfl) rfl rfl (Qk rfl rfl rfl rfl) ?_
    refine Xy (fr' := [(0, some vl1), (3, some (vU64 sum1)), (4, some (vI i1)), (20, some (vB (s1.Len == (0 : UInt32))))]) (own' := []) (shr' := [Fact.sl SegS vl1 l]) [0, 3, 4, 20] [] [0] rfl rfl rfl rfl ?_
    rcases bC (s1.Len == (0 : UInt32)) with hg3 | hg3
    ·replace h := br_t hg3 h
     refine Zs (lo := 7) (hi := 25) htb rfl rfl (by kernel_rfl) (fun c L a w => Sat c ⟨[(0, some vl1), (3, some (vU64 sum1)), (4, some (vI i1)), (20, some (vB (s1.Len == (0 : UInt32)))), (21, bif L 7 then some (undef) else none), (22, bif L 8 then some (undef) else none), (23, bif L 9 then some (undef) else none), (24, bif L 10 then some (undef) else none), (25, bif L 11 then some (undef) else none), (26, bif L 12 then some (undef) else none), (27, bif L 13 then some (undef) else none), (28, bif L 14 then some (undef) else none), (29, bif L 15 then some (undef) else none), (30, bif L 16 then some (undef) else none), (31, bif L 17 then some (undef) else none), (32, bif L 18 then some (undef) else none), (33, bif L 19 then some (undef) else none), (34, bif L 20 then some (undef) else none), (35, bif L 21 then some (undef) else none), (36, bif L 22 then some (undef) else none), (37, bif L 23 then some (undef) else none), (38, bif L 24 then some (undef) else none)], [], [Fact.sl SegS vl1 l]⟩ a w) [([], [9, 10, 11, 19]), ([], [9, 10, 11, 19]), ([7, 8], [10, 11, 19]), ([7, 8, 9], [11, 19]), ([7, 8, 9, 10], [19]), ([], [14, 15, 16, 17, 18, 19]), ([], [14, 15, 16, 17, 18, 19]), ([12, 13], [15, 16, 17, 18, 19]), ([12, 13, 14], [16, 17, 18, 19]), ([12, 13, 14, 15], [17, 18, 19]), ([12, 13, 14, 15, 16], [18, 19]), ([12, 13, 14, 15, 16, 17], [19]), ([7, 8, 9, 10, 11, 12, 13, 14, 15, 16, 17, 18], []), ([], [22, 23, 24]), ([], [22, 23, 24]), ([20, 21], [23, 24]), ([20, 21, 22], [24]), ([20, 21, 22, 23], [])] rfl (by kernel_rfl) ?_ (Qc ?_ (Qc ?_ (Qc ?_ (Qc ?_ (Qc ?_ (Qc ?_ (Qc ?_ (Qc ?_ (Qc ?_ (Qc ?_ (Qc ?_ (Qc ?_ (Qc ?_ (Qc ?_ (Qc ?_ (Qc ?_ (Qc ?_ (Qc ?_ (QH))))))))))))))))))) ?_
     ·intro a w hs
      exact hs.startF [21, 22, 23, 24, 25, 26, 27, 28, 29, 30, 31, 32, 33, 34, 35, 36, 37, 38] [] [0] rfl rfl rfl rfl
     ·intro L a w hs K Q hK
      exact Qy rfl rfl rfl hs (cgb hg3) rfl rfl fun a w hs => hK a w (pF hs 4 [] [0] rfl)
     ·intro L a w hs K Q hK
      exact Qy rfl rfl rfl hs (cgb hg3) rfl rfl fun a w hs => hK a w (pF hs 5 [] [0] rfl)
     ·intro L a w hs K Q hK
      exact Qy rfl rfl rfl hs (cgb hg3) rfl rfl fun a w hs => hK a w (pF hs 6 [] [0] rfl)
     ·intro L a w hs K Q hK
      exact Qy rfl rfl rfl hs (cgb hg3) rfl rfl fun a w hs => hK a w (pF hs 7 [] [0] rfl)
     ·intro L a w hs K Q hK
      exact Qy rfl rfl rfl hs (cgb hg3) rfl rfl fun a w hs => hK a w (pF hs 8 [] [0] rfl)
     ·intro L a w hs K Q hK
      exact Qy rfl rfl rfl hs (cgb hg3) rfl rfl fun a w hs => hK a w (pF hs 9 [] [0] rfl)
     ·intro L a w hs K Q hK
      exact Qy rfl rfl rfl hs (cgb hg3) rfl rfl fun a w hs => hK a w (pF hs 10 [] [0] rfl)
     ·intro L a w hs K Q hK
      exact Qy rfl rfl rfl hs (cgb hg3) rfl rfl fun a w hs => hK a w (pF hs 11 [] [0] rfl)
     ·intro L a w hs K Q hK
      exact Qy rfl rfl rfl hs (cgb hg3) rfl rfl fun a w hs => hK a w (pF hs 12 [] [0] rfl)
     ·intro L a w hs K Q hK
      exact Qy rfl rfl rfl hs (cgb hg3) rfl rfl fun a w hs => hK a w (pF hs 13 [] [0] rfl)
     ·intro L a w hs K Q hK
      exact Qy rfl rfl rfl hs (cgb hg3) rfl rfl fun a w hs => hK a w (pF hs 14 [] [0] rfl)
     ·intro L a w hs K Q hK
      exact Qy rfl rfl rfl hs (cgb hg3) rfl rfl fun a w hs => hK a w (pF hs 15 [] [0] rfl)
     ·intro L a w hs K Q hK
      exact Qy rfl rfl rfl hs (cgb hg3) rfl rfl fun a w hs => hK a w (pF hs 16 [] [0] rfl)
     ·intro L a w hs K Q hK
      exact Qy rfl rfl rfl hs (cgb hg3) rfl rfl fun a w hs => hK a w (pF hs 17 [] [0] rfl)
     ·intro L a w hs K Q hK
      exact Qy rfl rfl rfl hs (cgb hg3) rfl rfl fun a w hs => hK a w (pF hs 18 [] [0] rfl)
     ·intro L a w hs K Q hK
      exact Qy rfl rfl rfl hs (cgb hg3) rfl rfl fun a w hs => hK a w (pF hs 19 [] [0] rfl)
     ·intro L a w hs K Q hK
      exact Qy rfl rfl rfl hs (cgb hg3) rfl rfl fun a w hs => hK a w (pF hs 20 [] [0] rfl)
     ·intro L a w hs K Q hK
      exact Qy rfl rfl rfl hs (cgb hg3) rfl rfl fun a w hs => hK a w (pF hs 21 [] [0] rfl)
     ·intro L a w hL hv
      rw [QZ hL] at hv
      have hs := hv
      refine (show TA _ _ _ 25 ⟨[(0, some vl1), (3, some (vU64 sum1)), (4, some (vI i1)), (20, some (vB (s1.Len == (0 : UInt32)))), (33, some undef), (38, some undef)], [], [Fact.sl SegS vl1 l]⟩ from ?_) a w (hs.wkS [0, 3, 4, 20, 33, 38] [] [0] rfl rfl rfl rfl)
      clear hs hL
      refine YM htb (by kernel_rfl) rfl rfl rfl (cgb hg3) rfl rfl ?_
      refine QL htb (by kernel_rfl) rfl rfl (Qw rfl rfl rfl (cgb hg3) rfl) ?_
      refine QL htb (by kernel_rfl) rfl rfl (Qk rfl rfl rfl rfl) ?_
      refine YM htb (by kernel_rfl) rfl rfl rfl rfl rfl rfl ?_
      refine YM htb (by kernel_rfl) rfl rfl rfl rfl rfl rfl ?_
      refine YM htb (by kernel_rfl) rfl rfl rfl rfl rfl rfl ?_
      refine Xy (fr' := [(0, some vl1), (3, some (vU64 sum1)), (4, some (vI i1)), (41, some (vB true)), (44, some undef)]) (own' := []) (shr' := [Fact.sl SegS vl1 l]) [0, 3, 4, 41, 44] [] [0] rfl rfl rfl rfl ?_
      refine Zs (lo := 31) (hi := 34) htb rfl rfl (by kernel_rfl) (fun c L a w => Sat c ⟨[(0, some vl1), (3, some (vU64 sum1)), (4, some (vI i1)), (41, some (vB true)), (44, some undef), (45, bif L 31 then some (undef) else none), (46, bif L 32 then some (undef) else none), (47, bif L 33 then some (undef) else none)], [], [Fact.sl SegS vl1 l]⟩ a w) [([], []), ([], [33]), ([32], [])] rfl (by kernel_rfl) ?_ (Qc ?_ (Qc ?_ (Qc ?_ (QH)))) ?_
      ·intro a w hs
       exact hs.startF [45, 46, 47] [] [0] rfl rfl rfl rfl
      ·intro L a w hs K Q hK
       refine Ke rfl rfl rfl hs rfl rfl rfl ?_
       intro a' w' hs'
       exact hK a' w' (hs'.putF (i := 5) rfl [] [0] rfl rfl rfl rfl)
      ·intro L a w hs K Q hK
       refine Ke rfl rfl rfl hs rfl rfl rfl ?_
       intro a' w' hs'
       exact hK a' w' (hs'.putF (i := 6) rfl [] [0] rfl rfl rfl rfl)
      ·intro L a w hs K Q hK
       refine Ke rfl rfl rfl hs rfl rfl rfl ?_
       intro a' w' hs'
       exact hK a' w' (hs'.putF (i := 7) rfl [] [0] rfl rfl rfl rfl)
      ·intro L a w hL hv
       rw [QZ hL] at hv
       have hs := hv
       refine (show TA _ _ _ 34 ⟨[(0, some vl1), (3, some (vU64 sum1)), (4, some (vI i1)), (41, some (vB true)), (44, some undef), (45, some undef), (47, some undef)], [], [Fact.sl SegS vl1 l]⟩ from ?_) a w (hs.wkS [0, 3, 4, 41, 44, 45, 47] [] [0] rfl rfl rfl rfl)
       clear hs hL
       refine TA_noU htb (by kernel_rfl) rfl rfl rfl rfl rfl rfl ?_
       refine TA_noU htb (by kernel_rfl) rfl rfl rfl rfl rfl rfl ?_
       refine TA_noU htb (by kernel_rfl) rfl rfl rfl rfl rfl rfl ?_
       refine YM htb (by kernel_rfl) rfl rfl rfl rfl rfl rfl ?_
       refine YM htb (by kernel_rfl) rfl rfl rfl rfl rfl rfl ?_
       refine Xy (fr' := [(0, some vl1), (3, some (vU64 sum1)), (4, some (vI i1)), (41, some (vB true)), (52, some undef)]) (own' := []) (shr' := [Fact.sl SegS vl1 l]) [0, 3, 4, 41, 52] [] [0] rfl rfl rfl rfl ?_
       refine Zs (lo := 39) (hi := 41) htb rfl rfl (by kernel_rfl) (fun c L a w => Sat c ⟨[(0, some vl1), (3, some (vU64 sum1)), (4, some (vI i1)), (41, some (vB true)), (52, some undef), (53, bif L 39 then some (undef) else none), (54, bif L 40 then some (undef) else none)], [], [Fact.sl SegS vl1 l]⟩ a w) [([], []), ([], [])] rfl (by kernel_rfl) ?_ (Qc ?_ (Qc ?_ (QH))) ?_
       ·intro a w hs
        exact hs.startF [53, 54] [] [0] rfl rfl rfl rfl
       ·intro L a w hs K Q hK
        refine Ke rfl rfl rfl hs rfl rfl rfl ?_
        intro a' w' hs'
        exact hK a' w' (hs'.putF (i := 5) rfl [] [0] rfl rfl rfl rfl)
       ·intro L a w hs K Q hK
        refine Ke rfl rfl rfl hs rfl rfl rfl ?_
        intro a' w' hs'
        exact hK a' w' (hs'.putF (i := 6) rfl [] [0] rfl rfl rfl rfl)
       ·intro L a w hL hv
        rw [QZ hL] at hv
        have hs := hv
        refine (show TA _ _ _ 41 ⟨[(0, some vl1), (3, some (vU64 sum1)), (4, some (vI i1)), (41, some (vB true)), (52, some undef), (53, some undef), (54, some undef)], [], [Fact.sl SegS vl1 l]⟩ from ?_) a w (hs.wkS [0, 3, 4, 41, 52, 53, 54] [] [0] rfl rfl rfl rfl)
        clear hs hL
        refine TA_noU htb (by kernel_rfl) rfl rfl rfl rfl rfl rfl ?_
        refine TA_noU htb (by kernel_rfl) rfl rfl rfl rfl rfl rfl ?_
        refine TA_noU htb (by kernel_rfl) rfl rfl rfl rfl rfl rfl ?_
        refine TA_noU htb (by kernel_rfl) rfl rfl rfl rfl rfl rfl ?_
        refine YM htb (by kernel_rfl) rfl rfl rfl rfl rfl rfl ?_
        refine QL htb (by kernel_rfl) rfl rfl (Qw rfl rfl rfl rfl rfl) ?_
        refine ZW rfl ?_
        refine tW [(0, some vl1), (3, some (vU64 sum1)), (4, some (vI i1)), (60, some (vB true))] [] [Fact.sl SegS vl1 l] [0, 3, 4, 60] [] [0] rfl ?_
        refine Ql rfl ?_
        refine Qe (Qb (sAs rfl rfl rfl ?_))
        refine nW [(2, some (vI (2 : Int)))] [] [] [2] [] [] rfl ?_
        obtain rfl := Option.some.inj h
        exact Qn rfl rfl (resA (vs := [vI (2 : Int)]) rfl ⟨rfl, trivial⟩) [] [] rfl rfl rfl ⟨rfl, rfl, rfl⟩
    ·replace h := br_f hg3 h
     obtain ⟨s2, hx2, h⟩ := ob_e h
     obtain ⟨s3, hx3, h⟩ := ob_e h
     obtain ⟨s4, hx4, h⟩ := ob_e h
     refine Zs (lo := 7) (hi := 25) htb rfl rfl (by kernel_rfl) (fun c L a w => ∃ (p3 : Value), ∃ (p4 : Value), ∃ (p5 : Value), ∃ (p6 : Value), ∃ (p7 : Value), ∃ (p8 : Value), Sat c ⟨[(0, some vl1), (3, some (vU64 sum1)), (4, some (vI i1)), (20, some (vB (s1.Len == (0 : UInt32)))), (21, bif L 7 then some (vl1) else none), (22, bif L 8 then some (vI i1) else none), (23, bif L 9 then some (p3) else none), (24, bif L 10 then some (p4) else none), (25, bif L 11 then some (vU64 s2.At) else none), (26, bif L 12 then some (vl1) else none), (27, bif L 13 then some (vI i1) else none), (28, bif L 14 then some (p5) else none), (29, bif L 15 then some (p6) else none), (30, bif L 16 then some (vU32 s3.Len) else none), (31, bif L 17 then some (vU64 s3.Len.toUInt64) else none), (32, bif L 18 then some (vU64 (s3.Len.toUInt64 - (1 : UInt64))) else none), (33, bif L 19 then some (vU64 (s2.At + (s3.Len.toUInt64 - (1 : UInt64)))) else none), (34, bif L 20 then some (vl1) else none), (35, bif L 21 then some (vI i1) else none), (36, bif L 22 then some (p7) else none), (37, bif L 23 then some (p8) else none), (38, bif L 24 then some (vU64 s4.At) else none)], [], [Fact.sl SegS vl1 l, (bif L 9 then Fact.pt SegS p3 s2 else Fact.tt), (bif L 10 then Fact.pt u64S p4 s2.At else Fact.tt), (bif L 14 then Fact.pt SegS p5 s3 else Fact.tt), (bif L 15 then Fact.pt u32S p6 s3.Len else Fact.tt), (bif L 22 then Fact.pt SegS p7 s4 else Fact.tt), (bif L 23 then Fact.pt u64S p8 s4.At else Fact.tt)]⟩ a w) [([], [9, 10, 11, 19]), ([], [9, 10, 11, 19]), ([7, 8], [10, 11, 19]), ([7, 8, 9], [11, 19]), ([7, 8, 9, 10], [19]), ([], [14, 15, 16, 17, 18, 19]), ([], [14, 15, 16, 17, 18, 19]), ([12, 13], [15, 16, 17, 18, 19]), ([12, 13, 14], [16, 17, 18, 19]), ([12, 13, 14, 15], [17, 18, 19]), ([12, 13, 14, 15, 16], [18, 19]), ([12, 13, 14, 15, 16, 17], [19]), ([7, 8, 9, 10, 11, 12, 13, 14, 15, 16, 17, 18], []), ([], [22, 23, 24]), ([], [22, 23, 24]), ([20, 21], [23, 24]), ([20, 21, 22], [24]), ([20, 21, 22, 23], [])] rfl (by kernel_rfl) ?_ (Qc ?_ (Qc ?_ (Qc ?_ (Qc ?_ (Qc ?_ (Qc ?_ (Qc ?_ (Qc ?_ (Qc ?_ (Qc ?_ (Qc ?_ (Qc ?_ (Qc ?_ (Qc ?_ (Qc ?_ (Qc ?_ (Qc ?_ (Qc ?_ (QH))))))))))))))))))) ?_
     ·intro a w hs
      exact ⟨undef, undef, undef, undef, undef, undef, hs.startF [21, 22, 23, 24, 25, 26, 27, 28, 29, 30, 31, 32, 33, 34, 35, 36, 37, 38] [] [0, 1, 2, 3, 4, 5, 6] rfl rfl rfl rfl⟩
     ·intro L a w hv K Q hK
      obtain ⟨p3, p4, p5, p6, p7, p8, hs⟩ := hv
      exact wYs rfl rfl rfl hs (cgb hg3) (Qk rfl rfl rfl rfl) fun a w hs => hK a w ⟨p3, p4, p5, p6, p7, p8, pF hs 4 [] [0, 1, 2, 3, 4, 5, 6] rfl⟩
     ·intro L a w hv K Q hK
      obtain ⟨p3, p4, p5, p6, p7, p8, hs⟩ := hv
      exact wYs rfl rfl rfl hs (cgb hg3) (Qk rfl rfl rfl rfl) fun a w hs => hK a w ⟨p3, p4, p5, p6, p7, p8, pF hs 5 [] [0, 1, 2, 3, 4, 5, 6] rfl⟩
     ·intro L a w hv K Q hK
      obtain ⟨p3, p4, p5, p6, p7, p8, hs⟩ := hv
      refine ZQ rfl rfl rfl hs (cgb hg3) (QA rfl rfl rfl rfl rfl XS (i := 0) rfl hx2) ?_
      rintro _ ⟨p3', rfl⟩ a' w' hs'
      exact hK a' w' ⟨p3', p4, p5, p6, p7, p8, hs'.putF (i := 6) rfl [] [0, 7, 2, 3, 4, 5, 6] rfl rfl rfl rfl⟩
     ·intro L a w hv K Q hK
      obtain ⟨p3, p4, p5, p6, p7, p8, hs⟩ := hv
      refine ZQ rfl rfl rfl hs (cgb hg3) (QJ (S' := u64S) (y := s2.At) rfl rfl rfl rfl fldF29x0 (i := 1) rfl (by intro h cs hr; subst hr; rfl)) ?_
      rintro _ ⟨p4', rfl⟩ a' w' hs'
      exact hK a' w' ⟨p3, p4', p5, p6, p7, p8, hs'.putF (i := 7) rfl [] [0, 1, 7, 3, 4, 5, 6] rfl rfl rfl rfl⟩
     ·intro L a w hv K Q hK
      obtain ⟨p3, p4, p5, p6, p7, p8, hs⟩ := hv
      exact wYs rfl rfl rfl hs (cgb hg3) (QC rfl rfl rfl rfl Xc (i := 2) rfl rfl) fun a w hs => hK a w ⟨p3, p4, p5, p6, p7, p8, pF hs 8 [] [0, 1, 2, 3, 4, 5, 6] rfl⟩
     ·intro L a w hv K Q hK
      obtain ⟨p3, p4, p5, p6, p7, p8, hs⟩ := hv
      exact wYs rfl rfl rfl hs (cgb hg3) (Qk rfl rfl rfl rfl) fun a w hs => hK a w ⟨p3, p4, p5, p6, p7, p8, pF hs 9 [] [0, 1, 2, 3, 4, 5, 6] rfl⟩
     ·intro L a w hv K Q hK
      obtain ⟨p3, p4, p5, p6, p7, p8, hs⟩ := hv
      exact wYs rfl rfl rfl hs (cgb hg3) (Qk rfl rfl rfl rfl) fun a w hs => hK a w ⟨p3, p4, p5, p6, p7, p8, pF hs 10 [] [0, 1, 2, 3, 4, 5, 6] rfl⟩
     ·intro L a w hv K Q hK
      obtain ⟨p3, p4, p5, p6, p7, p8, hs⟩ := hv
      refine ZQ rfl rfl rfl hs (cgb hg3) (QA rfl rfl rfl rfl rfl XS (i := 0) rfl hx3) ?_
      rintro _ ⟨p5', rfl⟩ a' w' hs'
      exact hK a' w' ⟨p3, p4, p5', p6, p7, p8, hs'.putF (i := 11) rfl [] [0, 1, 2, 7, 4, 5, 6] rfl rfl rfl rfl⟩
     ·intro L a w hv K Q hK
      obtain ⟨p3, p4, p5, p6, p7, p8, hs⟩ := hv
      refine ZQ rfl rfl rfl hs (cgb hg3) (QJ (S' := u32S) (y := s3.Len) rfl rfl rfl rfl ZV (i := 3) rfl (by intro h cs hr; subst hr; rfl)) ?_
      rintro _ ⟨p6', rfl⟩ a' w' hs'
      exact hK a' w' ⟨p3, p4, p5, p6', p7, p8, hs'.putF (i := 12) rfl [] [0, 1, 2, 3, 7, 5, 6] rfl rfl rfl rfl⟩
     ·intro L a w hv K Q hK
      obtain ⟨p3, p4, p5, p6, p7, p8, hs⟩ := hv
      exact wYs rfl rfl rfl hs (cgb hg3) (QC rfl rfl rfl rfl tyF27 (i := 4) rfl rfl) fun a w hs => hK a w ⟨p3, p4, p5, p6, p7, p8, pF hs 13 [] [0, 1, 2, 3, 4, 5, 6] rfl⟩
     ·intro L a w hv K Q hK
      obtain ⟨p3, p4, p5, p6, p7, p8, hs⟩ := hv
      exact wYs rfl rfl rfl hs (cgb hg3) (QM rfl rfl rfl rfl (Zm (n := s3.Len) Try.underlying27 Try.underlying22)) fun a w hs => hK a w ⟨p3, p4, p5, p6, p7, p8, pF hs 14 [] [0, 1, 2, 3, 4, 5, 6] rfl⟩
     ·intro L a w hv K Q hK
      obtain ⟨p3, p4, p5, p6, p7, p8, hs⟩ := hv
      exact wYs rfl rfl rfl hs (cgb hg3) (Qg rfl rfl rfl rfl rfl (Zu (a := s3.Len.toUInt64) (b := (1 : UInt64)))) fun a w hs => hK a w ⟨p3, p4, p5, p6, p7, p8, pF hs 15 [] [0, 1, 2, 3, 4, 5, 6] rfl⟩
     ·intro L a w hv K Q hK
      obtain ⟨p3, p4, p5, p6, p7, p8, hs⟩ := hv
      exact wYs rfl rfl rfl hs (cgb hg3) (Qg rfl rfl rfl rfl rfl (Zb (a := s2.At) (b := s3.Len.toUInt64 - (1 : UInt64)))) fun a w hs => hK a w ⟨p3, p4, p5, p6, p7, p8, pF hs 16 [] [0, 1, 2, 3, 4, 5, 6] rfl⟩
     ·intro L a w hv K Q hK
      obtain ⟨p3, p4, p5, p6, p7, p8, hs⟩ := hv
      exact wYs rfl rfl rfl hs (cgb hg3) (Qk rfl rfl rfl rfl) fun a w hs => hK a w ⟨p3, p4, p5, p6, p7, p8, pF hs 17 [] [0, 1, 2, 3, 4, 5, 6] rfl⟩
     ·intro L a w hv K Q hK
      obtain ⟨p3, p4, p5, p6, p7, p8, hs⟩ := hv
      exact wYs rfl rfl rfl hs (cgb hg3) (Qk rfl rfl rfl rfl) fun a w hs => hK a w ⟨p3, p4, p5, p6, p7, p8, pF hs 18 [] [0, 1, 2, 3, 4, 5, 6] rfl⟩
     ·intro L a w hv K Q hK
      obtain ⟨p3, p4, p5, p6, p7, p8, hs⟩ := hv
      refine ZQ rfl rfl rfl hs (cgb hg3) (QA rfl rfl rfl rfl rfl XS (i := 0) rfl hx4) ?_
      rintro _ ⟨p7', rfl⟩ a' w' hs'
      exact hK a' w' ⟨p3, p4, p5, p6, p7', p8, hs'.putF (i := 19) rfl [] [0, 1, 2, 3, 4, 7, 6] rfl rfl rfl rfl⟩
     ·intro L a w hv K Q hK
      obtain ⟨p3, p4, p5, p6, p7, p8, hs⟩ := hv
      refine ZQ rfl rfl rfl hs (cgb hg3) (QJ (S' := u64S) (y := s4.At) rfl rfl rfl rfl fldF29x0 (i := 5) rfl (by intro h cs hr; subst hr; rfl)) ?_
      rintro _ ⟨p8', rfl⟩ a' w' hs'
      exact hK a' w' ⟨p3, p4, p5, p6, p7, p8', hs'.putF (i := 20) rfl [] [0, 1, 2, 3, 4, 5, 7] rfl rfl rfl rfl⟩
     ·intro L a w hv K Q hK
      obtain ⟨p3, p4, p5, p6, p7, p8, hs⟩ := hv
      exact wYs rfl rfl rfl hs (cgb hg3) (QC rfl rfl rfl rfl Xc (i := 6) rfl rfl) fun a w hs => hK a w ⟨p3, p4, p5, p6, p7, p8, pF hs 21 [] [0, 1, 2, 3, 4, 5, 6] rfl⟩
     ·intro L a w hL hv
      rw [QZ hL] at hv
      obtain ⟨p3, p4, p5, p6, p7, p8, hs⟩ := hv
      refine (show TA _ _ _ 25 ⟨[(0, some vl1), (3, some (vU64 sum1)), (4, some (vI i1)), (20, some (vB (s1.Len == (0 : UInt32)))), (33, some (vU64 (s2.At + (s3.Len.toUInt64 - (1 : UInt64))))), (38, some (vU64 s4.At))], [], [Fact.sl SegS vl1 l]⟩ from ?_) a w (hs.wkS [0, 3, 4, 20, 33, 38] [] [0] rfl rfl rfl rfl)
      clear hs hL
      refine Yh htb (by kernel_rfl) rfl rfl rfl (cgb hg3) (Qg rfl rfl rfl rfl rfl (Yr (a := s2.At + (s3.Len.toUInt64 - (1 : UInt64))) (b := s4.At))) ?_
      rintro _ rfl
      refine QL htb (by kernel_rfl) rfl rfl (Qu rfl rfl rfl (cgb hg3) rfl) ?_
      refine QL htb (by kernel_rfl) rfl rfl (Qk rfl rfl rfl rfl) ?_
      rcases bC (decide ((s2.At + (s3.Len.toUInt64 - (1 : UInt64))) < s4.At)) with hg4 | hg4
      ·replace h := br_t hg4 h
       refine YM htb (by kernel_rfl) rfl rfl rfl (cgb hg4) rfl rfl ?_
       refine YM htb (by kernel_rfl) rfl rfl rfl (cgb hg4) rfl rfl ?_
       refine YM htb (by kernel_rfl) rfl rfl rfl (cgb hg4) rfl rfl ?_
       refine Xy (fr' := [(0, some vl1), (3, some (vU64 sum1)), (4, some (vI i1)), (41, some (vB (decide ((s2.At + (s3.Len.toUInt64 - (1 : UInt64))) < s4.At)))), (44, some undef)]) (own' := []) (shr' := [Fact.sl SegS vl1 l]) [0, 3, 4, 41, 44] [] [0] rfl rfl rfl rfl ?_
       refine Zs (lo := 31) (hi := 34) htb rfl rfl (by kernel_rfl) (fun c L a w => Sat c ⟨[(0, some vl1), (3, some (vU64 sum1)), (4, some (vI i1)), (41, some (vB (decide ((s2.At + (s3.Len.toUInt64 - (1 : UInt64))) < s4.At)))), (44, some undef), (45, bif L 31 then some (undef) else none), (46, bif L 32 then some (undef) else none), (47, bif L 33 then some (undef) else none)], [], [Fact.sl SegS vl1 l]⟩ a w) [([], []), ([], [33]), ([32], [])] rfl (by kernel_rfl) ?_ (Qc ?_ (Qc ?_ (Qc ?_ (QH)))) ?_
       ·intro a w hs
        exact hs.startF [45, 46, 47] [] [0] rfl rfl rfl rfl
       ·intro L a w hs K Q hK
        refine Ke rfl rfl rfl hs rfl rfl rfl ?_
        intro a' w' hs'
        exact hK a' w' (hs'.putF (i := 5) rfl [] [0] rfl rfl rfl rfl)
       ·intro L a w hs K Q hK
        refine Ke rfl rfl rfl hs rfl rfl rfl ?_
        intro a' w' hs'
        exact hK a' w' (hs'.putF (i := 6) rfl [] [0] rfl rfl rfl rfl)
       ·intro L a w hs K Q hK
        refine Ke rfl rfl rfl hs rfl rfl rfl ?_
        intro a' w' hs'
        exact hK a' w' (hs'.putF (i := 7) rfl [] [0] rfl rfl rfl rfl)
       ·intro L a w hL hv
        rw [QZ hL] at hv
        have hs := hv
        refine (show TA _ _ _ 34 ⟨[(0, some vl1), (3, some (vU64 sum1)), (4, some (vI i1)), (41, some (vB (decide ((s2.At + (s3.Len.toUInt64 - (1 : UInt64))) < s4.At)))), (44, some undef), (45, some undef), (47, some undef)], [], [Fact.sl SegS vl1 l]⟩ from ?_) a w (hs.wkS [0, 3, 4, 41, 44, 45, 47] [] [0] rfl rfl rfl rfl)
        clear hs hL
        refine TA_noU htb (by kernel_rfl) rfl rfl rfl rfl rfl rfl ?_
        refine TA_noU htb (by kernel_rfl) rfl rfl rfl rfl rfl rfl ?_
        refine TA_noU htb (by kernel_rfl) rfl rfl rfl rfl rfl rfl ?_
        refine YM htb (by kernel_rfl) rfl rfl rfl (cgb hg4) rfl rfl ?_
        refine YM htb (by kernel_rfl) rfl rfl rfl (cgb hg4) rfl rfl ?_
        refine Xy (fr' := [(0, some vl1), (3, some (vU64 sum1)), (4, some (vI i1)), (41, some (vB (decide ((s2.At + (s3.Len.toUInt64 - (1 : UInt64))) < s4.At)))), (52, some undef)]) (own' := []) (shr' := [Fact.sl SegS vl1 l]) [0, 3, 4, 41, 52] [] [0] rfl rfl rfl rfl ?_
        refine Zs (lo := 39) (hi := 41) htb rfl rfl (by kernel_rfl) (fun c L a w => Sat c ⟨[(0, some vl1), (3, some (vU64 sum1)), (4, some (vI i1)), (41, some (vB (decide ((s2.At + (s3.Len.toUInt64 - (1 : UInt64))) < s4.At)))), (52, some undef), (53, bif L 39 then some (undef) else none), (54, bif L 40 then some (undef) else none)], [], [Fact.sl SegS vl1 l]⟩ a w) [([], []), ([], [])] rfl (by kernel_rfl) ?_ (Qc ?_ (Qc ?_ (QH))) ?_
        ·intro a w hs
         exact hs.startF [53, 54] [] [0] rfl rfl rfl rfl
        ·intro L a w hs K Q hK
         refine Ke rfl rfl rfl hs rfl rfl rfl ?_
         intro a' w' hs'
         exact hK a' w' (hs'.putF (i := 5) rfl [] [0] rfl rfl rfl rfl)
        ·intro L a w hs K Q hK
         refine Ke rfl rfl rfl hs rfl rfl rfl ?_
         intro a' w' hs'
         exact hK a' w' (hs'.putF (i := 6) rfl [] [0] rfl rfl rfl rfl)
        ·intro L a w hL hv
         rw [QZ hL] at hv
         have hs := hv
         refine (show TA _ _ _ 41 ⟨[(0, some vl1), (3, some (vU64 sum1)), (4, some (vI i1)), (41, some (vB (decide ((s2.At + (s3.Len.toUInt64 - (1 : UInt64))) < s4.At)))), (52, some undef), (53, some undef), (54, some undef)], [], [Fact.sl SegS vl1 l]⟩ from ?_) a w (hs.wkS [0, 3, 4, 41, 52, 53, 54] [] [0] rfl rfl rfl rfl)
         clear hs hL
         refine TA_noU htb (by kernel_rfl) rfl rfl rfl rfl rfl rfl ?_
         refine TA_noU htb (by kernel_rfl) rfl rfl rfl rfl rfl rfl ?_
         refine TA_noU htb (by kernel_rfl) rfl rfl rfl rfl rfl rfl ?_
         refine TA_noU htb (by kernel_rfl) rfl rfl rfl rfl rfl rfl ?_
         refine YM htb (by kernel_rfl) rfl rfl rfl (cgb hg4) rfl rfl ?_
         refine QL htb (by kernel_rfl) rfl rfl (Qw rfl rfl rfl (cgb hg4) rfl) ?_
         refine ZW rfl ?_
         refine tW [(0, some vl1), (3, some (vU64 sum1)), (4, some (vI i1)), (60, some (vB true))] [] [Fact.sl SegS vl1 l] [0, 3, 4, 60] [] [0] rfl ?_
         refine Ql rfl ?_
         refine Qe (Qb (sAs rfl rfl rfl ?_))
         refine nW [(2, some (vI (2 : Int)))] [] [] [2] [] [] rfl ?_
         obtain rfl := Option.some.inj h
         exact Qn rfl rfl (resA (vs := [vI (2 : Int)]) rfl ⟨rfl, trivial⟩) [] [] rfl rfl rfl ⟨rfl, rfl, rfl⟩
      ·replace h := br_f hg4 h
       refine Yh htb (by kernel_rfl) rfl rfl rfl (cgb hg4) (Qk rfl rfl rfl rfl) ?_
       rintro _ rfl
       refine Yh htb (by kernel_rfl) rfl rfl rfl (cgb hg4) (Qg rfl rfl rfl rfl rfl (ZD (a := i1) (b := (0 : Int)))) ?_
       rintro _ rfl
       refine Yh htb (by kernel_rfl) rfl rfl rfl (cgb hg4) (Qk rfl rfl rfl rfl) ?_
       rintro _ rfl
       refine Xy (fr' := [(0, some vl1), (3, some (vU64 sum1)), (4, some (vI i1)), (41, some (vB (decide ((s2.At + (s3.Len.toUInt64 - (1 : UInt64))) < s4.At)))), (44, some (vB (decide (i1 > (0 : Int)))))]) (own' := []) (shr' := [Fact.sl SegS vl1 l]) [0, 3, 4, 41, 44] [] [0] rfl rfl rfl rfl ?_
       rcases bC (decide (i1 > (0 : Int))) with hg5 | hg5
       ·replace h := br_t hg5 h
        refine Zs (lo := 31) (hi := 34) htb rfl rfl (by kernel_rfl) (fun c L a w => Sat c ⟨[(0, some vl1), (3, some (vU64 sum1)), (4, some (vI i1)), (41, some (vB (decide ((s2.At + (s3.Len.toUInt64 - (1 : UInt64))) < s4.At)))), (44, some (vB (decide (i1 > (0 : Int))))), (45, bif L 31 then some (vl1) else none), (46, bif L 32 then some (vI i1) else none), (47, bif L 33 then some (vI (wi (i1 - (1 : Int)))) else none)], [], [Fact.sl SegS vl1 l]⟩ a w) [([], []), ([], [33]), ([32], [])] rfl (by kernel_rfl) ?_ (Qc ?_ (Qc ?_ (Qc ?_ (QH)))) ?_
        ·intro a w hs
         exact hs.startF [45, 46, 47] [] [0] rfl rfl rfl rfl
        ·intro L a w hs K Q hK
         exact wYs rfl rfl rfl hs (cgb hg5) (Qk rfl rfl rfl rfl) fun a w hs => hK a w (pF hs 5 [] [0] rfl)
        ·intro L a w hs K Q hK
         exact wYs rfl rfl rfl hs (cgb hg5) (Qk rfl rfl rfl rfl) fun a w hs => hK a w (pF hs 6 [] [0] rfl)
        ·intro L a w hs K Q hK
         exact wYs rfl rfl rfl hs (cgb hg5) (Qg rfl rfl rfl rfl rfl (Xu (a := i1) (b := (1 : Int)))) fun a w hs => hK a w (pF hs 7 [] [0] rfl)
        ·intro L a w hL hv
         rw [QZ hL] at hv
         have hs := hv
         refine (show TA _ _ _ 34 ⟨[(0, some vl1), (3, some (vU64 sum1)), (4, some (vI i1)), (41, some (vB (decide ((s2.At + (s3.Len.toUInt64 - (1 : UInt64))) < s4.At)))), (44, some (vB (decide (i1 > (0 : Int))))), (45, some vl1), (47, some (vI (wi (i1 - (1 : Int)))))], [], [Fact.sl SegS vl1 l]⟩ from ?_) a w (hs.wkS [0, 3, 4, 41, 44, 45, 47] [] [0] rfl rfl rfl rfl)
         clear hs hL
         obtain ⟨s5, hx5, h⟩ := ob_e h
         refine Yh htb (by kernel_rfl) rfl rfl rfl (cgb hg5) (QA rfl rfl rfl rfl rfl XS (i := 0) rfl hx5) ?_
         rintro _ ⟨p9, rfl⟩
         refine Yh htb (by kernel_rfl) rfl rfl rfl (cgb hg5) (QJ (S' := bS) (y := s5.Write) rfl rfl rfl rfl Km (i := 1) rfl (by intro h cs hr; subst hr; rfl)) ?_
         rintro _ ⟨p10, rfl⟩
         refine Yh htb (by kernel_rfl) rfl rfl rfl (cgb hg5) (QC rfl rfl rfl rfl tyF4 (i := 2) rfl rfl) ?_
         rintro _ rfl
         refine Yh htb (by kernel_rfl) rfl rfl rfl (cgb hg4) (Qw rfl rfl rfl (cgb hg5) rfl) ?_
         rintro _ rfl
         refine Yh htb (by kernel_rfl) rfl rfl rfl (cgb hg4) (Qk rfl rfl rfl rfl) ?_
         rintro _ rfl
         refine Xy (fr' := [(0, some vl1), (3, some (vU64 sum1)), (4, some (vI i1)), (41, some (vB (decide ((s2.At + (s3.Len.toUInt64 - (1 : UInt64))) < s4.At)))), (52, some (vB s5.Write))]) (own' := []) (shr' := [Fact.sl SegS vl1 l]) [0, 3, 4, 41, 52] [] [0] rfl rfl rfl rfl ?_
         rcases bC (s5.Write) with hg6 | hg6
         ·replace h := br_t hg6 h
          refine Zs (lo := 39) (hi := 41) htb rfl rfl (by kernel_rfl) (fun c L a w => Sat c ⟨[(0, some vl1), (3, some (vU64 sum1)), (4, some (vI i1)), (41, some (vB (decide ((s2.At + (s3.Len.toUInt64 - (1 : UInt64))) < s4.At)))), (52, some (vB s5.Write)), (53, bif L 39 then some (vl1) else none), (54, bif L 40 then some (vI i1) else none)], [], [Fact.sl SegS vl1 l]⟩ a w) [([], []), ([], [])] rfl (by kernel_rfl) ?_ (Qc ?_ (Qc ?_ (QH))) ?_
          ·intro a w hs
           exact hs.startF [53, 54] [] [0] rfl rfl rfl rfl
          ·intro L a w hs K Q hK
           exact wYs rfl rfl rfl hs (cgb hg6) (Qk rfl rfl rfl rfl) fun a w hs => hK a w (pF hs 5 [] [0] rfl)
          ·intro L a w hs K Q hK
           exact wYs rfl rfl rfl hs (cgb hg6) (Qk rfl rfl rfl rfl) fun a w hs => hK a w (pF hs 6 [] [0] rfl)
          ·intro L a w hL hv
           rw [QZ hL] at hv
           have hs := hv
           refine (show TA _ _ _ 41 ⟨[(0, some vl1), (3, some (vU64 sum1)), (4, some (vI i1)), (41, some (vB (decide ((s2.At + (s3.Len.toUInt64 - (1 : UInt64))) < s4.At)))), (52, some (vB s5.Write)), (53, some vl1), (54, some (vI i1))], [], [Fact.sl SegS vl1 l]⟩ from ?_) a w (hs.wkS [0, 3, 4, 41, 52, 53, 54] [] [0] rfl rfl rfl rfl)
           clear hs hL
           obtain ⟨s6, hx6, h⟩ := ob_e h
           refine Yh htb (by kernel_rfl) rfl rfl rfl (cgb hg6) (QA rfl rfl rfl rfl rfl XS (i := 0) rfl hx6) ?_
           rintro _ ⟨p11, rfl⟩
           refine Yh htb (by kernel_rfl) rfl rfl rfl (cgb hg6) (QJ (S' := bS) (y := s6.Write) rfl rfl rfl rfl Km (i := 1) rfl (by intro h cs hr; subst hr; rfl)) ?_
           rintro _ ⟨p12, rfl⟩
           refine Yh htb (by kernel_rfl) rfl rfl rfl (cgb hg6) (QC rfl rfl rfl rfl tyF4 (i := 2) rfl rfl) ?_
           rintro _ rfl
           refine Yh htb (by kernel_rfl) rfl rfl rfl (cgb hg6) (OpT_not rfl rfl rfl rfl) ?_
           rintro _ rfl
           refine Yh htb (by kernel_rfl) rfl rfl rfl (cgb hg4) (Qw rfl rfl rfl (cgb hg6) rfl) ?_
           rintro _ rfl
           refine QL htb (by kernel_rfl) rfl rfl (Qu rfl rfl rfl (cgb hg4) rfl) ?_
           refine ZW rfl ?_
           refine tW [(0, some vl1), (3, some (vU64 sum1)), (4, some (vI i1)), (60, some (vB (!s6.Write)))] [] [Fact.sl SegS vl1 l] [0, 3, 4, 60] [] [0] rfl ?_
           rcases bC ((!s6.Write)) with hg7 | hg7
           ·replace h := br_t hg7 h
            refine Ql (cgb hg7) ?_
            refine Qe (Qb (sAs rfl rfl rfl ?_))
            refine nW [(2, some (vI (2 : Int)))] [] [] [2] [] [] rfl ?_
            obtain rfl := Option.some.inj h
            exact Qn rfl rfl (resA (vs := [vI (2 : Int)]) rfl ⟨rfl, trivial⟩) [] [] rfl rfl rfl ⟨rfl, rfl, rfl⟩
           ·replace h := br_f hg7 h
            refine Qm (cgb hg7) ?_
            refine Qr (Qb (sMv rfl rfl rfl ?_))
            refine sMv rfl rfl rfl ?_
            refine sMv rfl rfl rfl ?_
            obtain ⟨s7, hx7, h⟩ := ob_e h
            refine Qq rfl (QA rfl rfl rfl rfl rfl XS (i := 0) rfl hx7) fun p13 => ?_
            refine Qq rfl (QJ (S' := u32S) (y := s7.Len) rfl rfl rfl rfl ZV (i := 1) rfl (by intro h cs hr; subst hr; rfl)) fun p14 => ?_
            refine Qa rfl (QC rfl rfl rfl rfl tyF27 (i := 2) rfl rfl) ?_
            refine Qa rfl (QM rfl rfl rfl rfl (Zm (n := s7.Len) Try.underlying27 Try.underlying22)) ?_
            refine Qa rfl (Qg rfl rfl rfl rfl rfl (Zb (a := sum1) (b := s7.Len.toUInt64))) ?_
            refine sAs rfl rfl rfl ?_
            refine nW [(0, some vl1), (3, some (vU64 (sum1 + s7.Len.toUInt64))), (4, some (vI i1))] [] [Fact.sl SegS vl1 l] [0, 3, 4] [] [0] rfl ?_
            refine Zk (Qb (sMv rfl rfl rfl ?_))
            refine Qa rfl (Qg rfl rfl rfl rfl rfl (Qx (a := i1) (b := (1 : Int)))) ?_
            refine sAs rfl rfl rfl ?_
            refine nW [(0, some vl1), (3, some (vU64 (sum1 + s7.Len.toUInt64))), (4, some (vI (wi (i1 + (1 : Int)))))] [] [Fact.sl SegS vl1 l] [0, 3, 4] [] [0] rfl ?_
            exact QN (sum1 + s7.Len.toUInt64, wi (i1 + (1 : Int))) h [0, 3, 4] [] [0] rfl rfl rfl rfl rfl
         ·replace h := br_f hg6 h
          refine Zs (lo := 39) (hi := 41) htb rfl rfl (by kernel_rfl) (fun c L a w => Sat c ⟨[(0, some vl1), (3, some (vU64 sum1)), (4, some (vI i1)), (41, some (vB (decide ((s2.At + (s3.Len.toUInt64 - (1 : UInt64))) < s4.At)))), (52, some (vB s5.Write)), (53, bif L 39 then some (undef) else none), (54, bif L 40 then some (undef) else none)], [], [Fact.sl SegS vl1 l]⟩ a w) [([], []), ([], [])] rfl (by kernel_rfl) ?_ (Qc ?_ (Qc ?_ (QH))) ?_
          ·intro a w hs
           exact hs.startF [53, 54] [] [0] rfl rfl rfl rfl
          ·intro L a w hs K Q hK
           exact Qy rfl rfl rfl hs (cgb hg6) rfl rfl fun a w hs => hK a w (pF hs 5 [] [0] rfl)
          ·intro L a w hs K Q hK
           exact Qy rfl rfl rfl hs (cgb hg6) rfl rfl fun a w hs => hK a w (pF hs 6 [] [0] rfl)
          ·intro L a w hL hv
           rw [QZ hL] at hv
           have hs := hv
           refine (show TA _ _ _ 41 ⟨[(0, some vl1), (3, some (vU64 sum1)), (4, some (vI i1)), (41, some (vB (decide ((s2.At + (s3.Len.toUInt64 - (1 : UInt64))) < s4.At)))), (52, some (vB s5.Write)), (53, some undef), (54, some undef)], [], [Fact.sl SegS vl1 l]⟩ from ?_) a w (hs.wkS [0, 3, 4, 41, 52, 53, 54] [] [0] rfl rfl rfl rfl)
           clear hs hL
           refine YM htb (by kernel_rfl) rfl rfl rfl (cgb hg6) rfl rfl ?_
           refine YM htb (by kernel_rfl) rfl rfl rfl (cgb hg6) rfl rfl ?_
           refine YM htb (by kernel_rfl) rfl rfl rfl (cgb hg6) rfl rfl ?_
           refine YM htb (by kernel_rfl) rfl rfl rfl (cgb hg6) rfl rfl ?_
           refine Yh htb (by kernel_rfl) rfl rfl rfl (cgb hg4) (Qu rfl rfl rfl (cgb hg6) rfl) ?_
           rintro _ rfl
           refine QL htb (by kernel_rfl) rfl rfl (Qu rfl rfl rfl (cgb hg4) rfl) ?_
           refine ZW rfl ?_
           refine tW [(0, some vl1), (3, some (vU64 sum1)), (4, some (vI i1)), (60, some (vB false))] [] [Fact.sl SegS vl1 l] [0, 3, 4, 60] [] [0] rfl ?_
           refine Qm rfl ?_
           refine Qr (Qb (sMv rfl rfl rfl ?_))
           refine sMv rfl rfl rfl ?_
           refine sMv rfl rfl rfl ?_
           obtain ⟨s8, hx8, h⟩ := ob_e h
           refine Qq rfl (QA rfl rfl rfl rfl rfl XS (i := 0) rfl hx8) fun p15 => ?_
           refine Qq rfl (QJ (S' := u32S) (y := s8.Len) rfl rfl rfl rfl ZV (i := 1) rfl (by intro h cs hr; subst hr; rfl)) fun p16 => ?_
           refine Qa rfl (QC rfl rfl rfl rfl tyF27 (i := 2) rfl rfl) ?_
           refine Qa rfl (QM rfl rfl rfl rfl (Zm (n := s8.Len) Try.underlying27 Try.underlying22)) ?_
           refine Qa rfl (Qg rfl rfl rfl rfl rfl (Zb (a := sum1) (b := s8.Len.toUInt64))) ?_
           refine sAs rfl rfl rfl ?_
           refine nW [(0, some vl1), (3, some (vU64 (sum1 + s8.Len.toUInt64))), (4, some (vI i1))] [] [Fact.sl SegS vl1 l] [0, 3, 4] [] [0] rfl ?_
           refine Zk (Qb (sMv rfl rfl rfl ?_))
           refine Qa rfl (Qg rfl rfl rfl rfl rfl (Qx (a := i1) (b := (1 : Int)))) ?_
           refine sAs rfl rfl rfl ?_
           refine nW [(0, some vl1), (3, some (vU64 (sum1 + s8.Len.toUInt64))), (4, some (vI (wi (i1 + (1 : Int)))))] [] [Fact.sl SegS vl1 l] [0, 3, 4] [] [0] rfl ?_
           exact QN (sum1 + s8.Len.toUInt64, wi (i1 + (1 : Int))) h [0, 3, 4] [] [0] rfl rfl rfl rfl rfl
       ·replace h := br_f hg5 h
        refine Zs (lo := 31) (hi := 34) htb rfl rfl (by kernel_rfl) (fun c L a w => Sat c ⟨[(0, some vl1), (3, some (vU64 sum1)), (4, some (vI i1)), (41, some (vB (decide ((s2.At + (s3.Len.toUInt64 - (1 : UInt64))) < s4.At)))), (44, some (vB (decide (i1 > (0 : Int))))), (45, bif L 31 then some (undef) else none), (46, bif L 32 then some (undef) else none), (47, bif L 33 then some (undef) else none)], [], [Fact.sl SegS vl1 l]⟩ a w) [([], []), ([], [33]), ([32], [])] rfl (by kernel_rfl) ?_ (Qc ?_ (Qc ?_ (Qc ?_ (QH)))) ?_
        ·intro a w hs
         exact hs.startF [45, 46, 47] [] [0] rfl rfl rfl rfl
        ·intro L a w hs K Q hK
         exact Qy rfl rfl rfl hs (cgb hg5) rfl rfl fun a w hs => hK a w (pF hs 5 [] [0] rfl)
        ·intro L a w hs K Q hK
         exact Qy rfl rfl rfl hs (cgb hg5) rfl rfl fun a w hs => hK a w (pF hs 6 [] [0] rfl)
        ·intro L a w hs K Q hK
         exact Qy rfl rfl rfl hs (cgb hg5) rfl rfl fun a w hs => hK a w (pF hs 7 [] [0] rfl)
        ·intro L a w hL hv
         rw [QZ hL] at hv
         have hs := hv
         refine (show TA _ _ _ 34 ⟨[(0, some vl1), (3, some (vU64 sum1)), (4, some (vI i1)), (41, some (vB (decide ((s2.At + (s3.Len.toUInt64 - (1 : UInt64))) < s4.At)))), (44, some (vB (decide (i1 > (0 : Int))))), (45, some undef), (47, some undef)], [], [Fact.sl SegS vl1 l]⟩ from ?_) a w (hs.wkS [0, 3, 4, 41, 44, 45, 47] [] [0] rfl rfl rfl rfl)
         clear hs hL
         refine YM htb (by kernel_rfl) rfl rfl rfl (cgb hg5) rfl rfl ?_
         refine YM htb (by kernel_rfl) rfl rfl rfl (cgb hg5) rfl rfl ?_
         refine YM htb (by kernel_rfl) rfl rfl rfl (cgb hg5) rfl rfl ?_
         refine Yh htb (by kernel_rfl) rfl rfl rfl (cgb hg4) (Qu rfl rfl rfl (cgb hg5) rfl) ?_
         rintro _ rfl
         refine Yh htb (by kernel_rfl) rfl rfl rfl (cgb hg4) (Qk rfl rfl rfl rfl) ?_
         rintro _ rfl
         refine Xy (fr' := [(0, some vl1), (3, some (vU64 sum1)), (4, some (vI i1)), (41, some (vB (decide ((s2.At + (s3.Len.toUInt64 - (1 : UInt64))) < s4.At)))), (52, some (vB false))]) (own' := []) (shr' := [Fact.sl SegS vl1 l]) [0, 3, 4, 41, 52] [] [0] rfl rfl rfl rfl ?_
         refine Zs (lo := 39) (hi := 41) htb rfl rfl (by kernel_rfl) (fun c L a w => Sat c ⟨[(0, some vl1), (3, some (vU64 sum1)), (4, some (vI i1)), (41, some (vB (decide ((s2.At + (s3.Len.toUInt64 - (1 : UInt64))) < s4.At)))), (52, some (vB false)), (53, bif L 39 then some (undef) else none), (54, bif L 40 then some (undef) else none)], [], [Fact.sl SegS vl1 l]⟩ a w) [([], []), ([], [])] rfl (by kernel_rfl) ?_ (Qc ?_ (Qc ?_ (QH))) ?_
         ·intro a w hs
          exact hs.startF [53, 54] [] [0] rfl rfl rfl rfl
         ·intro L a w hs K Q hK
          exact Qy rfl rfl rfl hs rfl rfl rfl fun a w hs => hK a w (pF hs 5 [] [0] rfl)
         ·intro L a w hs K Q hK
          exact Qy rfl rfl rfl hs rfl rfl rfl fun a w hs => hK a w (pF hs 6 [] [0] rfl)
         ·intro L a w hL hv
          rw [QZ hL] at hv
          have hs := hv
          refine (show TA _ _ _ 41 ⟨[(0, some vl1), (3, some (vU64 sum1)), (4, some (vI i1)), (41, some (vB (decide ((s2.At + (s3.Len.toUInt64 - (1 : UInt64))) < s4.At)))), (52, some (vB false)), (53, some undef), (54, some undef)], [], [Fact.sl SegS vl1 l]⟩ from ?_) a w (hs.wkS [0, 3, 4, 41, 52, 53, 54] [] [0] rfl rfl rfl rfl)
          clear hs hL
          refine YM htb (by kernel_rfl) rfl rfl rfl rfl rfl rfl ?_
          refine YM htb (by kernel_rfl) rfl rfl rfl rfl rfl rfl ?_
          refine YM htb (by kernel_rfl) rfl rfl rfl rfl rfl rfl ?_
          refine YM htb (by kernel_rfl) rfl rfl rfl rfl rfl rfl ?_
          refine Yh htb (by kernel_rfl) rfl rfl rfl (cgb hg4) (Qu rfl rfl rfl rfl rfl) ?_
          rintro _ rfl
          refine QL htb (by kernel_rfl) rfl rfl (Qu rfl rfl rfl (cgb hg4) rfl) ?_
          refine ZW rfl ?_
          refine tW [(0, some vl1), (3, some (vU64 sum1)), (4, some (vI i1)), (60, some (vB false))] [] [Fact.sl SegS vl1 l] [0, 3, 4, 60] [] [0] rfl ?_
          refine Qm rfl ?_
          refine Qr (Qb (sMv rfl rfl rfl ?_))
          refine sMv rfl rfl rfl ?_
          refine sMv rfl rfl rfl ?_
          obtain ⟨s9, hx9, h⟩ := ob_e h
          refine Qq rfl (QA rfl rfl rfl rfl rfl XS (i := 0) rfl hx9) fun p17 => ?_
          refine Qq rfl (QJ (S' := u32S) (y := s9.Len) rfl rfl rfl rfl ZV (i := 1) rfl (by intro h cs hr; subst hr; rfl)) fun p18 => ?_
          refine Qa rfl (QC rfl rfl rfl rfl tyF27 (i := 2) rfl rfl) ?_
          refine Qa rfl (QM rfl rfl rfl rfl (Zm (n := s9.Len) Try.underlying27 Try.underlying22)) ?_
          refine Qa rfl (Qg rfl rfl rfl rfl rfl (Zb (a := sum1) (b := s9.Len.toUInt64))) ?_
          refine sAs rfl rfl rfl ?_
          refine nW [(0, some vl1), (3, some (vU64 (sum1 + s9.Len.toUInt64))), (4, some (vI i1))] [] [Fact.sl SegS vl1 l] [0, 3, 4] [] [0] rfl ?_
          refine Zk (Qb (sMv rfl rfl rfl ?_))
          refine Qa rfl (Qg rfl rfl rfl rfl rfl (Qx (a := i1) (b := (1 : Int)))) ?_
          refine sAs rfl rfl rfl ?_
          refine nW [(0, some vl1), (3, some (vU64 (sum1 + s9.Len.toUInt64))), (4, some (vI (wi (i1 + (1 : Int)))))] [] [Fact.sl SegS vl1 l] [0, 3, 4] [] [0] rfl ?_
          exact QN (sum1 + s9.Len.toUInt64, wi (i1 + (1 : Int))) h [0, 3, 4] [] [0] rfl rfl rfl rfl rfl
  ·replace h := br_f hg2 h
   refine Qm (cgb hg2) ?_
   refine Zf _ rfl ?_
   refine Qe (Qe (Qb (sMv rfl rfl rfl ?_)))
   refine Qa rfl (Qg rfl rfl rfl rfl rfl (Yt (a := sum1) (b := (4294967296 : UInt64)))) ?_
   refine nW [(70, some (vB (decide (sum1 ≥ (4294967296 : UInt64)))))] [] [] [70] [] [] rfl ?_
   rcases bC (decide (sum1 ≥ (4294967296 : UInt64))) with hg8 | hg8
   ·replace h := br_t hg8 h
    refine Ql (cgb hg8) ?_
    refine Qe (Qb (sAs rfl rfl rfl ?_))
    refine nW [(2, some (vI (2 : Int)))] [] [] [2] [] [] rfl ?_
    obtain rfl := Option.some.inj h
    exact Qn rfl rfl (resA (vs := [vI (2 : Int)]) rfl ⟨rfl, trivial⟩) [] [] rfl rfl rfl ⟨rfl, rfl, rfl⟩
   ·replace h := br_f hg8 h
    refine Qm (cgb hg8) ?_
    refine Qr (Qe (Qb (sAs rfl rfl rfl ?_)))
    refine nW [(2, some (vI (0 : Int)))] [] [] [2] [] [] rfl ?_
    obtain rfl := Option.some.inj h
    exact Qn rfl rfl (resA (vs := [vI (0 : Int)]) rfl ⟨rfl, trivial⟩) [] [] rfl rfl rfl ⟨rfl, rfl, rfl⟩

set_option maxRecDepth 100000 in
set_option maxHeartbeats 4000000 in
theorem w_gmem_Check {l : List Region} {vl1 : Value} {r : Int} (h : gmem_Check l = some r) :
  Ctr Try.prog 33 #[vl1] [] [Fact.sl Qf vl1 l]
   (fun rv own shr => rv = vI r ∧ own = [] ∧ shr = []) := by
 unfold gmem_Check at h
 refine Ctr.mk (args := [vl1]) Try.func33 rfl rfl (fun R0 w0 B => ?_)
 refine Qe (Qb (sAs rfl rfl rfl ?_))
 refine nW [(0, some vl1)] [] [Fact.sl Qf vl1 l] [0] [] [0] rfl ?_
 refine Qe (Qe (Qb (sMv rfl rfl rfl ?_)))
 refine Qa rfl (QB rfl rfl rfl rfl Try.underlying42 (i := 0) rfl) ?_
 refine Qa rfl (Qg rfl rfl rfl rfl rfl (ZD (a := len l) (b := (16 : Int)))) ?_
 refine nW [(0, some vl1), (9, some (vB (decide ((len l) > (16 : Int)))))] [] [Fact.sl Qf vl1 l] [0, 9] [] [0] rfl ?_
 rcases bC (decide ((len l) > (16 : Int))) with hg1 | hg1
 ·replace h := br_t hg1 h
  refine Ql (cgb hg1) ?_
  refine Qe (Qb (sAs rfl rfl rfl ?_))
  refine nW [(2, some (vI (2 : Int)))] [] [] [2] [] [] rfl ?_
  obtain rfl := Option.some.inj h
  exact Qn rfl rfl (resA (vs := [vI (2 : Int)]) rfl ⟨rfl, trivial⟩) [] [] rfl rfl rfl ⟨rfl, rfl, rfl⟩
 ·replace h := br_f hg1 h
  refine Qm (cgb hg1) ?_
  refine Qr (Qe (Qb (sAs rfl rfl rfl ?_)))
  refine nW [(0, some vl1), (3, some (vU64 (1048576 : UInt64)))] [] [Fact.sl Qf vl1 l] [0, 3] [] [0] rfl ?_
  refine Qe (Qe (Qb (sMv rfl rfl rfl ?_)))
  refine Qa rfl (QB rfl rfl rfl rfl Try.underlying42 (i := 0) rfl) ?_
  refine sMv rfl rfl rfl ?_
  refine QT (Qz (Zc (σ := UInt64 × Int) [0, 3, 10, 11, 12] [] [0] (fun s => ⟨[(0, some vl1), (3, some (vU64 s.1)), (10, some vl1), (11, some (vI (len l))), (12, some (vI s.2))], [], [Fact.sl Qf vl1 l]⟩) (fun nf1 s => YZ l nf1 s.1 s.2 = some r) fuel ((1048576 : UInt64), (0 : Int)) h rfl rfl rfl rfl rfl (fun s h => by cases h) ?_))
  rintro nf1 ⟨room1, x1⟩ h
  replace h : gmem_CheckL1B l (YZ l nf1) room1 x1 = some r := h
  unfold gmem_CheckL1B at h
  refine Qe (Qb (Qa rfl (Qg rfl rfl rfl rfl rfl (QK (a := x1) (b := len l))) ?_))
  refine QT (Qe ?_)
  rcases bC (decide (x1 < (len l))) with hg2 | hg2
  ·replace h := br_t hg2 h
   refine Ql (cgb hg2) ?_
   refine Qr (Qe (Qz (Qe (Qb (sMv rfl rfl rfl ?_)))))
   obtain ⟨r1, hx1, h⟩ := ob_e h
   refine Qq rfl (QA rfl rfl rfl rfl rfl slF42 (i := 0) rfl hx1) fun p1 => ?_
   refine Qa rfl (XR (vs := [vU64 r1.At, vU64 r1.Len]) rfl rfl rfl rfl tyF75 (i := 1) rfl rfl) ?_
   refine Qq rfl (Zq rfl rfl rfl tyZ75) fun b1 => ?_
   refine sAs rfl rfl rfl ?_
   refine Qa rfl (QE (cs' := [vU64 r1.At, vU64 r1.Len]) rfl rfl rfl rfl tyF75 (i := 0) rfl rfl rfl (ZE rfl) rfl) ?_
   refine nW [(0, some vl1), (3, some (vU64 room1)), (10, some vl1), (11, some (vI (len l))), (12, some (vI x1)), (5, some (.pointer (some ⟨b1, 0, none⟩))), (4, some (vI x1))] [some (Qd b1 75 [vU64 r1.At, vU64 r1.Len])] [Fact.sl Qf vl1 l] [0, 3, 10, 11, 12, 5, 4] [0] [0] rfl ?_
   refine Qe (Qe (Qb (Qa rfl (Qo rfl rfl rfl rfl XK) ?_)))
   refine Qa rfl (Qp rfl rfl rfl rfl Xc (i := 0) rfl rfl) ?_
   refine Qa rfl (Qg rfl rfl rfl rfl rfl (Yr (a := r1.Len) (b := (1 : UInt64)))) ?_
   refine sMv rfl rfl rfl ?_
   rcases bC (decide (r1.Len < (1 : UInt64))) with hg3 | hg3
   ·replace h := br_t hg3 h
    refine Qh rfl rfl (cgb hg3) rfl rfl ?_
    refine Qh rfl rfl (cgb hg3) rfl rfl ?_
    refine Qh rfl rfl (cgb hg3) rfl rfl ?_
    refine Qh rfl rfl (cgb hg3) rfl rfl ?_
    refine Qa rfl (Qw rfl rfl rfl (cgb hg3) rfl) ?_
    refine sMv rfl rfl rfl ?_
    refine Qh rfl rfl rfl rfl rfl ?_
    refine Qh rfl rfl rfl rfl rfl ?_
    refine Qh rfl rfl rfl rfl rfl ?_
    refine Qh rfl rfl rfl rfl rfl ?_
    refine Qh rfl rfl rfl rfl rfl ?_
    refine Qh rfl rfl rfl rfl rfl ?_
    refine Qh rfl rfl rfl rfl rfl ?_
    refine Qa rfl (Qw rfl rfl rfl rfl rfl) ?_
    refine nW [(0, some vl1), (3, some (vU64 room1)), (10, some vl1), (11, some (vI (len l))), (12, some (vI x1)), (5, some (.pointer (some ⟨b1, 0, none⟩))), (4, some (vI x1)), (34, some (vB true))] [some (Qd b1 75 [vU64 r1.At, vU64 r1.Len])] [Fact.sl Qf vl1 l] [0, 3, 10, 11, 12, 5, 4, 34] [0] [0] rfl ?_
    refine Ql rfl ?_
    refine Qe (Qb (sAs rfl rfl rfl ?_))
    refine nW [(2, some (vI (2 : Int)))] [] [] [2] [] [] rfl ?_
    obtain rfl := Option.some.inj h
    exact Qn rfl rfl (resA (vs := [vI (2 : Int)]) rfl ⟨rfl, trivial⟩) [] [] rfl rfl rfl ⟨rfl, rfl, rfl⟩
   ·replace h := br_f hg3 h
    refine Qi rfl rfl (cgb hg3) (Qo rfl rfl rfl rfl XK) ?_
    rintro _ rfl
    refine Qi rfl rfl (cgb hg3) (Qp rfl rfl rfl rfl Xc (i := 0) rfl rfl) ?_
    rintro _ rfl
    refine Qi rfl rfl (cgb hg3) (Qk rfl rfl rfl rfl) ?_
    rintro _ rfl
    refine Qi rfl rfl (cgb hg3) (Qg rfl rfl rfl rfl rfl (Ys (a := r1.Len) (b := room1))) ?_
    rintro _ rfl
    refine Qa rfl (Qu rfl rfl rfl (cgb hg3) rfl) ?_
    refine sMv rfl rfl rfl ?_
    rcases bC (decide (r1.Len > room1)) with hg4 | hg4
    ·replace h := br_t hg4 h
     refine Qh rfl rfl (cgb hg4) rfl rfl ?_
     refine Qh rfl rfl (cgb hg4) rfl rfl ?_
     refine Qh rfl rfl (cgb hg4) rfl rfl ?_
     refine Qh rfl rfl (cgb hg4) rfl rfl ?_
     refine Qh rfl rfl (cgb hg4) rfl rfl ?_
     refine Qh rfl rfl (cgb hg4) rfl rfl ?_
     refine Qh rfl rfl (cgb hg4) rfl rfl ?_
     refine Qa rfl (Qw rfl rfl rfl (cgb hg4) rfl) ?_
     refine nW [(0, some vl1), (3, some (vU64 room1)), (10, some vl1), (11, some (vI (len l))), (12, some (vI x1)), (5, some (.pointer (some ⟨b1, 0, none⟩))), (4, some (vI x1)), (34, some (vB true))] [some (Qd b1 75 [vU64 r1.At, vU64 r1.Len])] [Fact.sl Qf vl1 l] [0, 3, 10, 11, 12, 5, 4, 34] [0] [0] rfl ?_
     refine Ql rfl ?_
     refine Qe (Qb (sAs rfl rfl rfl ?_))
     refine nW [(2, some (vI (2 : Int)))] [] [] [2] [] [] rfl ?_
     obtain rfl := Option.some.inj h
     exact Qn rfl rfl (resA (vs := [vI (2 : Int)]) rfl ⟨rfl, trivial⟩) [] [] rfl rfl rfl ⟨rfl, rfl, rfl⟩
    ·replace h := br_f hg4 h
     refine Qi rfl rfl (cgb hg4) (Qo rfl rfl rfl rfl XK) ?_
     rintro _ rfl
     refine Qi rfl rfl (cgb hg4) (Qp rfl rfl rfl rfl Xc (i := 0) rfl rfl) ?_
     rintro _ rfl
     refine Qi rfl rfl (cgb hg4) (Qg rfl rfl rfl rfl rfl (Zu (a := r1.Len) (b := (1 : UInt64)))) ?_
     rintro _ rfl
     refine Qi rfl rfl (cgb hg4) (Qo rfl rfl rfl rfl Yc) ?_
     rintro _ rfl
     refine Qi rfl rfl (cgb hg4) (Qp rfl rfl rfl rfl Xc (i := 0) rfl rfl) ?_
     rintro _ rfl
     refine Qi rfl rfl (cgb hg4) (Qg rfl rfl rfl rfl rfl (Zu (a := (18446744073709551615 : UInt64)) (b := r1.At))) ?_
     rintro _ rfl
     refine Qi rfl rfl (cgb hg4) (Qg rfl rfl rfl rfl rfl (Ys (a := r1.Len - (1 : UInt64)) (b := (18446744073709551615 : UInt64) - r1.At))) ?_
     rintro _ rfl
     refine Qa rfl (Qu rfl rfl rfl (cgb hg4) rfl) ?_
     refine nW [(0, some vl1), (3, some (vU64 room1)), (10, some vl1), (11, some (vI (len l))), (12, some (vI x1)), (5, some (.pointer (some ⟨b1, 0, none⟩))), (4, some (vI x1)), (34, some (vB (decide ((r1.Len - (1 : UInt64)) > ((18446744073709551615 : UInt64) - r1.At)))))] [some (Qd b1 75 [vU64 r1.At, vU64 r1.Len])] [Fact.sl Qf vl1 l] [0, 3, 10, 11, 12, 5, 4, 34] [0] [0] rfl ?_
     rcases bC (decide ((r1.Len - (1 : UInt64)) > ((18446744073709551615 : UInt64) - r1.At))) with hg5 | hg5
     ·replace h := br_t hg5 h
      refine Ql (cgb hg5) ?_
      refine Qe (Qb (sAs rfl rfl rfl ?_))
      refine nW [(2, some (vI (2 : Int)))] [] [] [2] [] [] rfl ?_
      obtain rfl := Option.some.inj h
      exact Qn rfl rfl (resA (vs := [vI (2 : Int)]) rfl ⟨rfl, trivial⟩) [] [] rfl rfl rfl ⟨rfl, rfl, rfl⟩
     ·replace h := br_f hg5 h
      refine Qm (cgb hg5) ?_
      refine Qr (Qe (Qb (sMv rfl rfl rfl ?_)))
      refine Qa rfl (Qo rfl rfl rfl rfl XK) ?_
      refine Qa rfl (Qp rfl rfl rfl rfl Xc (i := 0) rfl rfl) ?_
      refine Qa rfl (Qg rfl rfl rfl rfl rfl (Zu (a := room1) (b := r1.Len))) ?_
      refine sAs rfl rfl rfl ?_
      refine nW [(0, some vl1), (3, some (vU64 (room1 - r1.Len))), (10, some vl1), (11, some (vI (len l))), (12, some (vI x1)), (5, some (.pointer (some ⟨b1, 0, none⟩))), (4, some (vI x1))] [some (Qd b1 75 [vU64 r1.At, vU64 r1.Len])] [Fact.sl Qf vl1 l] [0, 3, 10, 11, 12, 5, 4] [0] [0] rfl ?_
      refine Qe (Qb (sMv rfl rfl rfl ?_))
      refine Qa rfl (Qg rfl rfl rfl rfl rfl (ZD (a := x1) (b := (0 : Int)))) ?_
      refine nW [(0, some vl1), (3, some (vU64 (room1 - r1.Len))), (10, some vl1), (11, some (vI (len l))), (12, some (vI x1)), (5, some (.pointer (some ⟨b1, 0, none⟩))), (4, some (vI x1)), (40, some (vB (decide (x1 > (0 : Int)))))] [some (Qd b1 75 [vU64 r1.At, vU64 r1.Len])] [Fact.sl Qf vl1 l] [0, 3, 10, 11, 12, 5, 4, 40] [0] [0] rfl ?_
      rcases bC (decide (x1 > (0 : Int))) with hg6 | hg6
      ·replace h := br_t hg6 h
       refine Ql (cgb hg6) ?_
       refine Qe (Qb (sMv rfl rfl rfl ?_))
       refine sMv rfl rfl rfl ?_
       refine Qa rfl (Qg rfl rfl rfl rfl rfl (Xu (a := x1) (b := (1 : Int)))) ?_
       obtain ⟨r2, hx2, h⟩ := ob_e h
       refine Qq rfl (QA rfl rfl rfl rfl rfl slF42 (i := 0) rfl hx2) fun p2 => ?_
       refine Qa rfl (XR (vs := [vU64 r2.At, vU64 r2.Len]) rfl rfl rfl rfl tyF75 (i := 1) rfl rfl) ?_
       refine Qq rfl (Zq rfl rfl rfl tyZ75) fun b2 => ?_
       refine Qa rfl (QE (cs' := [vU64 r2.At, vU64 r2.Len]) rfl rfl rfl rfl tyF75 (i := 1) rfl rfl rfl (ZE rfl) rfl) ?_
       refine nW [(0, some vl1), (3, some (vU64 (room1 - r1.Len))), (10, some vl1), (11, some (vI (len l))), (12, some (vI x1)), (5, some (.pointer (some ⟨b1, 0, none⟩))), (6, some (.pointer (some ⟨b2, 0, none⟩)))] [some (Qd b1 75 [vU64 r1.At, vU64 r1.Len]), some (Qd b2 75 [vU64 r2.At, vU64 r2.Len])] [Fact.sl Qf vl1 l] [0, 3, 10, 11, 12, 5, 6] [0, 1] [0] rfl ?_
       refine Qe (Qb (Qa rfl (Qo rfl rfl rfl rfl Yc) ?_))
       refine Qa rfl (Qp rfl rfl rfl rfl Xc (i := 0) rfl rfl) ?_
       refine Qa rfl (Qo rfl rfl rfl rfl Yc) ?_
       refine Qa rfl (Qp rfl rfl rfl rfl Xc (i := 1) rfl rfl) ?_
       refine Qa rfl (Qg rfl rfl rfl rfl rfl (bin_leq_u64 (a := r1.At) (b := r2.At))) ?_
       refine sMv rfl rfl rfl ?_
       rcases bC (decide (r1.At ≤ r2.At)) with hg7 | hg7
       ·replace h := br_t hg7 h
        refine Qh rfl rfl (cgb hg7) rfl rfl ?_
        refine Qh rfl rfl (cgb hg7) rfl rfl ?_
        refine Qh rfl rfl (cgb hg7) rfl rfl ?_
        refine Qh rfl rfl (cgb hg7) rfl rfl ?_
        refine Qh rfl rfl (cgb hg7) rfl rfl ?_
        refine Qh rfl rfl (cgb hg7) rfl rfl ?_
        refine Qh rfl rfl (cgb hg7) rfl rfl ?_
        refine Qh rfl rfl (cgb hg7) rfl rfl ?_
        refine Qa rfl (Qw rfl rfl rfl (cgb hg7) rfl) ?_
        refine nW [(0, some vl1), (3, some (vU64 (room1 - r1.Len))), (10, some vl1), (11, some (vI (len l))), (12, some (vI x1)), (60, some (vB true))] [] [Fact.sl Qf vl1 l] [0, 3, 10, 11, 12, 60] [] [0] rfl ?_
        refine Ql rfl ?_
        refine Qe (Qb (sAs rfl rfl rfl ?_))
        refine nW [(2, some (vI (2 : Int)))] [] [] [2] [] [] rfl ?_
        obtain rfl := Option.some.inj h
        exact Qn rfl rfl (resA (vs := [vI (2 : Int)]) rfl ⟨rfl, trivial⟩) [] [] rfl rfl rfl ⟨rfl, rfl, rfl⟩
       ·replace h := br_f hg7 h
        refine Qi rfl rfl (cgb hg7) (Qo rfl rfl rfl rfl Yc) ?_
        rintro _ rfl
        refine Qi rfl rfl (cgb hg7) (Qp rfl rfl rfl rfl Xc (i := 0) rfl rfl) ?_
        rintro _ rfl
        refine Qi rfl rfl (cgb hg7) (Qo rfl rfl rfl rfl Yc) ?_
        rintro _ rfl
        refine Qi rfl rfl (cgb hg7) (Qp rfl rfl rfl rfl Xc (i := 1) rfl rfl) ?_
        rintro _ rfl
        refine Qi rfl rfl (cgb hg7) (Qg rfl rfl rfl rfl rfl (Zu (a := r1.At) (b := r2.At))) ?_
        rintro _ rfl
        refine Qi rfl rfl (cgb hg7) (Qo rfl rfl rfl rfl XK) ?_
        rintro _ rfl
        refine Qi rfl rfl (cgb hg7) (Qp rfl rfl rfl rfl Xc (i := 1) rfl rfl) ?_
        rintro _ rfl
        refine Qi rfl rfl (cgb hg7) (Qg rfl rfl rfl rfl rfl (Yr (a := r1.At - r2.At) (b := r2.Len))) ?_
        rintro _ rfl
        refine Qa rfl (Qu rfl rfl rfl (cgb hg7) rfl) ?_
        refine nW [(0, some vl1), (3, some (vU64 (room1 - r1.Len))), (10, some vl1), (11, some (vI (len l))), (12, some (vI x1)), (60, some (vB (decide ((r1.At - r2.At) < r2.Len))))] [] [Fact.sl Qf vl1 l] [0, 3, 10, 11, 12, 60] [] [0] rfl ?_
        rcases bC (decide ((r1.At - r2.At) < r2.Len)) with hg8 | hg8
        ·replace h := br_t hg8 h
         refine Ql (cgb hg8) ?_
         refine Qe (Qb (sAs rfl rfl rfl ?_))
         refine nW [(2, some (vI (2 : Int)))] [] [] [2] [] [] rfl ?_
         obtain rfl := Option.some.inj h
         exact Qn rfl rfl (resA (vs := [vI (2 : Int)]) rfl ⟨rfl, trivial⟩) [] [] rfl rfl rfl ⟨rfl, rfl, rfl⟩
        ·replace h := br_f hg8 h
         refine Qm (cgb hg8) ?_
         refine Qr (Zk (Qb (Qa rfl (Qg rfl rfl rfl rfl rfl (Qx (a := x1) (b := (1 : Int)))) ?_)))
         refine sMv rfl rfl rfl ?_
         refine nW [(0, some vl1), (3, some (vU64 (room1 - r1.Len))), (10, some vl1), (11, some (vI (len l))), (12, some (vI (wi (x1 + (1 : Int)))))] [] [Fact.sl Qf vl1 l] [0, 3, 10, 11, 12] [] [0] rfl ?_
         exact QN (room1 - r1.Len, wi (x1 + (1 : Int))) h [0, 3, 10, 11, 12] [] [0] rfl rfl rfl rfl rfl
      ·replace h := br_f hg6 h
       refine Qm (cgb hg6) ?_
       refine Qr (Zk (Qb (Qa rfl (Qg rfl rfl rfl rfl rfl (Qx (a := x1) (b := (1 : Int)))) ?_)))
       refine sMv rfl rfl rfl ?_
       refine nW [(0, some vl1), (3, some (vU64 (room1 - r1.Len))), (10, some vl1), (11, some (vI (len l))), (12, some (vI (wi (x1 + (1 : Int)))))] [] [Fact.sl Qf vl1 l] [0, 3, 10, 11, 12] [] [0] rfl ?_
       exact QN (room1 - r1.Len, wi (x1 + (1 : Int))) h [0, 3, 10, 11, 12] [] [0] rfl rfl rfl rfl rfl
  ·replace h := br_f hg2 h
   refine Qm (cgb hg2) ?_
   refine Zf _ rfl ?_
   refine Qe (Qb (sAs rfl rfl rfl ?_))
   refine nW [(2, some (vI (0 : Int)))] [] [] [2] [] [] rfl ?_
   obtain rfl := Option.some.inj h
   exact Qn rfl rfl (resA (vs := [vI (0 : Int)]) rfl ⟨rfl, trivial⟩) [] [] rfl rfl rfl ⟨rfl, rfl, rfl⟩

set_option maxRecDepth 100000 in
set_option maxHeartbeats 4000000 in
theorem Kg {sp0 : List Region} {vsp01 : Value} {r : (List Region)} (h : QY sp0 = some r) :
  Ctr Try.prog 34 #[vsp01] [] [Fact.sl Qf vsp01 sp0]
   (fun rv own shr => ∃ (w1 : Value), rv = w1 ∧ own = [(rowS Qf w1 r)] ∧ shr = []) := by
 unfold QY at h
 refine Ctr.mk (args := [vsp01]) Try.func34 rfl rfl (fun R0 w0 B => ?_)
 refine Qe (Qb (sAs rfl rfl rfl ?_))
 refine nW [(0, some vsp01)] [] [Fact.sl Qf vsp01 sp0] [0] [] [0] rfl ?_
 refine Qe (Qe (Qb (sMv rfl rfl rfl ?_)))
 refine Qt rfl (OpT_eqNil rfl rfl rfl (.inl rfl) rfl rfl Try.underlying42 (i := 0) rfl) ?_
 rintro _ ⟨q1, hq1, rfl⟩
 refine nW [(0, some vsp01), (4, some (vB q1))] [] [Fact.sl Qf vsp01 sp0] [0, 4] [] [0] rfl ?_
 rcases bC q1 with hg1 | hg1
 ·obtain rfl := hq1 hg1
  replace h : some ([] : List Region) = some r := h
  refine Ql (cgb hg1) ?_
  refine Qe (Qb (sAs rfl rfl rfl ?_))
  refine nW [(2, some (.slice none 0 0))] [] [] [2] [] [] rfl ?_
  refine QI Qf ?_
  obtain rfl := Option.some.inj h
  exact Qn rfl rfl (resA (vs := [.slice none 0 0]) rfl ⟨rfl, trivial⟩) [0] [] rfl rfl rfl ⟨(.slice none 0 0), rfl, rfl, rfl⟩
 ·refine Qm (cgb hg1) ?_
  refine Qr (Qe (Qb (Qq rfl (QF (S := Qf) (xs := ([] : List Region)) (css := []) (cs := []) (e := 75) rfl rfl rfl rfl (bldF slF42 (by decide) (by kernel_rfl)) rfl rfl rfl rfl (Ze (S := Qf) (xs := ([] : List Region)) (css := []) rfl rfl)) fun v1 => ?_)))
  refine sMv rfl rfl rfl ?_
  obtain ⟨hc1, h⟩ := Zi h
  refine Qq rfl (ZS rfl rfl rfl rfl rfl slF42 (i := 0) (j := 0) rfl rfl hc1) fun v2 => ?_
  refine sAs rfl rfl rfl ?_
  refine nW [(2, some v2)] [some (rowS Qf v2 sp0)] [] [2] [0] [] rfl ?_
  obtain rfl := Option.some.inj h
  exact Qn rfl rfl (resA (vs := [v2]) rfl ⟨rfl, trivial⟩) [0] [] rfl rfl rfl ⟨v2, rfl, rfl, rfl⟩

theorem Kc {sp0 : List Region} {vsp01 : Value} {r : (List Region)} (h : QY sp0 = some r) :
  Ctr Try.prog 34 #[vsp01] [] [Fact.sl Qf vsp01 sp0]
   (fun rv own shr => ∃ (w1 : Value), rv = w1 ∧ own = [] ∧ shr = [Fact.sl Qf w1 r]) :=
 Ctr.sh (Kg h) (by rintro w1 _ _ ⟨_, rfl, rfl, rfl⟩; exact ⟨[], _, _, _, _, rfl, w1, rfl, rfl, rfl⟩)

set_option maxRecDepth 100000 in
set_option maxHeartbeats 4000000 in
theorem w_gmem_New {l : List Region} {vl1 : Value} {r : ((Option gmem_Mem) × Int)} (h : gmem_New l = some r) :
  Ctr Try.prog 11 #[vl1] [] [Fact.sl Qf vl1 l]
   (fun rv own shr => ∃ (w1 : Value), rv = .tuple #[w1, vI r.2] ∧ own = [(optR 82 Qf u8S true gmem_Mem.l gmem_Mem.b w1 r.1)] ∧ shr = []) := by
 unfold gmem_New at h
 refine Ctr.mk (args := [vl1]) Try.func11 rfl rfl (fun R0 w0 B => ?_)
 refine Qe (Qb (sAs rfl rfl rfl ?_))
 refine sAs rfl rfl rfl ?_
 refine nW [(0, some vl1)] [] [Fact.sl Qf vl1 l] [0] [] [0] rfl ?_
 refine Qe (Qe (Qb (sMv rfl rfl rfl ?_)))
 obtain ⟨check1, hx1, h⟩ := ob_e h
 refine Qt rfl (QO (w_gmem_Check hx1) [] [0] rfl rfl rfl rfl rfl callee33 rfl rfl rfl rfl) ?_
 rintro _ ⟨_, _, _, ⟨rfl, rfl, rfl⟩, rfl⟩
 refine sAs rfl rfl rfl ?_
 refine nW [(0, some vl1), (4, some (vI check1))] [] [Fact.sl Qf vl1 l] [0, 4] [] [0] rfl ?_
 refine Qe (Qb (sMv rfl rfl rfl ?_))
 refine Qa rfl (Qg rfl rfl rfl rfl rfl (QU (a := check1) (b := (0 : Int)))) ?_
 refine nW [(0, some vl1), (4, some (vI check1)), (11, some (vB (check1 != (0 : Int))))] [] [Fact.sl Qf vl1 l] [0, 4, 11] [] [0] rfl ?_
 rcases bC (check1 != (0 : Int)) with hg1 | hg1
 ·replace h := br_t hg1 h
  refine Ql (cgb hg1) ?_
  refine Qe (Qb (sMv rfl rfl rfl ?_))
  refine sAs rfl rfl rfl ?_
  refine sAs rfl rfl rfl ?_
  refine nW [(2, some (.pointer none)), (3, some (vI check1))] [] [] [2, 3] [] [] rfl ?_
  refine Tk_nilopt 82 Qf u8S true gmem_Mem.l gmem_Mem.b ?_
  obtain rfl := Option.some.inj h
  exact Qn rfl rfl (resA (vs := [.pointer none, vI check1]) rfl ⟨rfl, rfl, trivial⟩) [0] [] rfl rfl rfl ⟨(.pointer none), rfl, rfl, rfl⟩
 ·replace h := br_f hg1 h
  refine Qm (cgb hg1) ?_
  refine Qr (Qe (Zw (by kernel_rfl) ?_))
  refine TA_tb [0, 1, 0, 4, 0, 16, 48, 124, 255, 511, 1023] (by kernel_rfl) fun htb => ?_
  refine Xy (fr' := [(0, some vl1)]) (own' := []) (shr' := [Fact.sl Qf vl1 l]) [0] [] [0] rfl rfl rfl rfl ?_
  obtain ⟨region1, hx2, h⟩ := ob_e h
  obtain ⟨hc1, h⟩ := Zi h
  refine Zs (lo := 0) (hi := 8) htb rfl rfl (by kernel_rfl) (fun c L a w => ∃ (v1 : Value), ∃ (v2 : Value), ∃ (vs1 : List Value), Sat c ⟨[(0, some vl1), (13, bif L 0 then some (vl1) else none), (14, bif L 1 then some (v1) else none), (15, bif L 2 then some (vl1) else none), (16, bif L 3 then some (vI (len l)) else none), (17, bif L 4 then some (vl1) else none), (18, bif L 5 then some (vI (len l)) else none), (19, bif L 6 then some (vI (wi ((len l) + (1 : Int)))) else none), (20, bif L 7 then some (v2) else none)], [(bif L 7 then some (Qj u8S true v2 vs1 (List.replicate (Int.toNat (len l)) [] : List (List UInt8)) none) else none : Option Res)], [Fact.sl Qf vl1 l, (bif L 1 then Fact.sl Qf v1 region1 else Fact.tt)]⟩ a w) [([], [1]), ([0], []), ([], [3, 7]), ([2], [7]), ([], [5, 6, 7]), ([4], [6, 7]), ([4, 5], [7]), ([2, 3, 4, 5, 6], [])] rfl (by kernel_rfl) ?_ (Qc ?_ (Qc ?_ (Qc ?_ (Qc ?_ (Qc ?_ (Qc ?_ (Qc ?_ (Qc ?_ (QH))))))))) ?_
  ·intro a w hs
   exact ⟨undef, undef, [], hs.startF [13, 14, 15, 16, 17, 18, 19, 20] [0] [0, 1] rfl rfl rfl rfl⟩
  ·intro L a w hv K Q hK
   obtain ⟨v1, v2, vs1, hs⟩ := hv
   exact wGo rfl rfl hs (Qk rfl rfl rfl rfl) fun a w hs => hK a w ⟨v1, v2, vs1, pF hs 1 [0] [0, 1] rfl⟩
  ·intro L a w hv K Q hK
   obtain ⟨v1, v2, vs1, hs⟩ := hv
   refine QG rfl rfl hs (QO (Kc hx2) [] [0] rfl rfl rfl rfl rfl callee34 rfl rfl rfl rfl) ?_
   rintro _ ⟨v1', _, _, ⟨_, rfl, rfl, rfl⟩, rfl⟩ a' w' hs'
   exact hK a' w' ⟨v1', v2, vs1, hs'.putF (i := 2) rfl [0] [0, 2] rfl rfl rfl rfl⟩
  ·intro L a w hv K Q hK
   obtain ⟨v1, v2, vs1, hs⟩ := hv
   exact wGo rfl rfl hs (Qk rfl rfl rfl rfl) fun a w hs => hK a w ⟨v1, v2, vs1, pF hs 3 [0] [0, 1] rfl⟩
  ·intro L a w hv K Q hK
   obtain ⟨v1, v2, vs1, hs⟩ := hv
   exact wGo rfl rfl hs (QB rfl rfl rfl rfl Try.underlying42 (i := 0) rfl) fun a w hs => hK a w ⟨v1, v2, vs1, pF hs 4 [0] [0, 1] rfl⟩
  ·intro L a w hv K Q hK
   obtain ⟨v1, v2, vs1, hs⟩ := hv
   exact wGo rfl rfl hs (Qk rfl rfl rfl rfl) fun a w hs => hK a w ⟨v1, v2, vs1, pF hs 5 [0] [0, 1] rfl⟩
  ·intro L a w hv K Q hK
   obtain ⟨v1, v2, vs1, hs⟩ := hv
   exact wGo rfl rfl hs (QB rfl rfl rfl rfl Try.underlying42 (i := 0) rfl) fun a w hs => hK a w ⟨v1, v2, vs1, pF hs 6 [0] [0, 1] rfl⟩
  ·intro L a w hv K Q hK
   obtain ⟨v1, v2, vs1, hs⟩ := hv
   exact wGo rfl rfl hs (Qg rfl rfl rfl rfl rfl (Qx (a := len l) (b := (1 : Int)))) fun a w hs => hK a w ⟨v1, v2, vs1, pF hs 7 [0] [0, 1] rfl⟩
  ·intro L a w hv K Q hK
   obtain ⟨v1, v2, vs1, hs⟩ := hv
   refine QG rfl rfl hs (OpT_makeRows u8S rfl rfl rfl rfl rfl slF80 hc1) ?_
   rintro _ ⟨v2', vs1', rfl⟩ a' w' hs'
   exact hK a' w' ⟨v1, v2', vs1', hs'.putF (i := 8) rfl [1] [0, 1] rfl rfl rfl rfl⟩
  ·intro L a w hL hv
   rw [QZ hL] at hv
   obtain ⟨v1, v2, vs1, hs⟩ := hv
   refine (show TA _ _ _ 8 ⟨[(0, some vl1), (14, some v1), (20, some v2)], [some (Qj u8S true v2 vs1 (List.replicate (Int.toNat (len l)) [] : List (List UInt8)) none)], [Fact.sl Qf vl1 l, Fact.sl Qf v1 region1]⟩ from ?_) a w (hs.wkS [0, 14, 20] [0] [0, 1] rfl rfl rfl rfl)
   clear hs hL
   refine QL htb (by kernel_rfl) rfl rfl (OpT_build2 (fun z0 z1 => [(0, z0), (1, z1)]) (fun z0 z1 => [z0, z1]) rfl rfl rfl rfl (is_sl (i := 1) rfl) (is_rows (i := 0) rfl) (by intros; kernel_rfl)) ?_
   refine TA_ex htb (by kernel_rfl) rfl rfl (YG rfl rfl rfl rfl) fun b1 => ?_
   refine QL htb (by kernel_rfl) rfl rfl (Zh rfl rfl rfl rfl) ?_
   refine ZW rfl ?_
   refine tW [(0, some vl1), (5, some (.pointer (some ⟨b1, 0, none⟩)))] [some (Qj u8S true v2 vs1 (List.replicate (Int.toNat (len l)) [] : List (List UInt8)) none), some (Qd b1 82 [v1, v2])] [Fact.sl Qf vl1 l, Fact.sl Qf v1 region1] [0, 5] [0, 1] [0, 1] rfl ?_
   refine Qe (Qe (Qb (sMv rfl rfl rfl ?_)))
   refine Qa rfl (QB rfl rfl rfl rfl Try.underlying42 (i := 0) rfl) ?_
   refine sMv rfl rfl rfl ?_
   refine nW [(5, some (.pointer (some ⟨b1, 0, none⟩))), (23, some vl1), (24, some (vI (len l))), (25, some (vI (0 : Int)))] [some (Qj u8S true v2 vs1 (List.replicate (Int.toNat (len l)) [] : List (List UInt8)) none), some (Qd b1 82 [v1, v2])] [Fact.sl Qf vl1 l, Fact.sl Qf v1 region1] [5, 23, 24, 25] [0, 1] [0, 1] rfl ?_
   refine Qz (Zc (σ := (List (List UInt8)) × Int × Value × (List Value)) [5, 23, 24, 25] [1, 0] [1, 0] (fun s => ⟨[(5, some (.pointer (some ⟨b1, 0, none⟩))), (23, some vl1), (24, some (vI (len l))), (25, some (vI s.2.1))], [some (Qd b1 82 [v1, s.2.2.1]), some (Qj u8S true s.2.2.1 s.2.2.2 s.1 none)], [Fact.sl Qf v1 region1, Fact.sl Qf vl1 l]⟩) (fun nf1 s => gmem_NewL1 l region1 nf1 s.1 s.2.1 = some r) fuel ((List.replicate (Int.toNat (len l)) [] : List (List UInt8)), (0 : Int), v2, vs1) h rfl rfl rfl rfl rfl (fun s h => by cases h) ?_)
   rintro nf1 ⟨rows1, x1, v3, vs2⟩ h
   replace h : gmem_NewL1B l region1 (gmem_NewL1 l region1 nf1) rows1 x1 = some r := h
   unfold gmem_NewL1B at h
   refine Qe (Qb (Qa rfl (Qg rfl rfl rfl rfl rfl (QK (a := x1) (b := len l))) ?_))
   refine QT (Qe ?_)
   rcases bC (decide (x1 < (len l))) with hg2 | hg2
   ·replace h := br_t hg2 h
    refine Ql (cgb hg2) ?_
    refine Qr (Qe (Qz (Qe (Qb (sMv rfl rfl rfl ?_)))))
    obtain ⟨r1, hx3, h⟩ := ob_e h
    refine Qq rfl (QA rfl rfl rfl rfl rfl slF42 (i := 1) rfl hx3) fun p1 => ?_
    refine Qa rfl (XR (vs := [vU64 r1.At, vU64 r1.Len]) rfl rfl rfl rfl tyF75 (i := 2) rfl rfl) ?_
    refine Qq rfl (Zq rfl rfl rfl tyZ75) fun b2 => ?_
    refine sAs rfl rfl rfl ?_
    refine Qa rfl (QE (cs' := [vU64 r1.At, vU64 r1.Len]) rfl rfl rfl rfl tyF75 (i := 2) rfl rfl rfl (ZE rfl) rfl) ?_
    refine nW [(5, some (.pointer (some ⟨b1, 0, none⟩))), (23, some vl1), (24, some (vI (len l))), (25, some (vI x1)), (7, some (.pointer (some ⟨b2, 0, none⟩))), (6, some (vI x1))] [some (Qd b1 82 [v1, v3]), some (Qj u8S true v3 vs2 rows1 none), some (Qd b2 75 [vU64 r1.At, vU64 r1.Len])] [Fact.sl Qf v1 region1, Fact.sl Qf vl1 l] [5, 23, 24, 25, 7, 6] [0, 1, 2] [0, 1] rfl ?_
    refine Zw (by kernel_rfl) ?_
    refine TA_tb [0, 1, 3, 7, 0, 0, 32, 96, 255, 511] (by kernel_rfl) fun htb => ?_
    obtain ⟨hc2, h⟩ := Zi h
    refine Zs (lo := 0) (hi := 8) htb rfl rfl (by kernel_rfl) (fun c L a w => ∃ (v4 : Value), Sat c ⟨[(5, some (.pointer (some ⟨b1, 0, none⟩))), (23, some vl1), (24, some (vI (len l))), (25, some (vI x1)), (7, some (.pointer (some ⟨b2, 0, none⟩))), (6, some (vI x1)), (30, bif L 0 then some (.pointer (some ⟨b1, 0, none⟩)) else none), (31, bif L 1 then some (.pointer (some ⟨b1, 0, none⟩)) else none), (32, bif L 2 then some (.pointer (some ⟨b1, 1, none⟩)) else none), (33, bif L 3 then some (v3) else none), (34, bif L 4 then some (vI x1) else none), (35, bif L 5 then some (.pointer (some ⟨b2, 1, none⟩)) else none), (36, bif L 6 then some (vU64 r1.Len) else none), (37, bif L 7 then some (v4) else none)], [(some (Qd b1 82 [v1, v3]) : Option Res), (some (Qj u8S true v3 vs2 rows1 none) : Option Res), (some (Qd b2 75 [vU64 r1.At, vU64 r1.Len]) : Option Res), (bif L 7 then some (rowS u8S v4 (List.replicate (Int.toNat (r1.Len.toNat : Int)) (0 : UInt8))) else none : Option Res)], [Fact.sl Qf v1 region1, Fact.sl Qf vl1 l]⟩ a w) [([], [1, 2, 3]), ([0], [2, 3]), ([0, 1], [3]), ([0, 1, 2], []), ([], []), ([], [6, 7]), ([5], [7]), ([5, 6], [])] rfl (by kernel_rfl) ?_ (Qc ?_ (Qc ?_ (Qc ?_ (Qc ?_ (Qc ?_ (Qc ?_ (Qc ?_ (Qc ?_ (QH))))))))) ?_
    ·intro a w hs
     exact ⟨undef, hs.startF [30, 31, 32, 33, 34, 35, 36, 37] [0, 1, 2, 3] [0, 1] rfl rfl rfl rfl⟩
    ·intro L a w hv K Q hK
     obtain ⟨v4, hs⟩ := hv
     exact wGo rfl rfl hs (Qk rfl rfl rfl rfl) fun a w hs => hK a w ⟨v4, pF hs 6 [0, 1, 2, 3] [0, 1] rfl⟩
    ·intro L a w hv K Q hK
     obtain ⟨v4, hs⟩ := hv
     exact wGo rfl rfl hs (QP rfl rfl rfl rfl) fun a w hs => hK a w ⟨v4, pF hs 7 [0, 1, 2, 3] [0, 1] rfl⟩
    ·intro L a w hv K Q hK
     obtain ⟨v4, hs⟩ := hv
     exact wGo rfl rfl hs (Qo rfl rfl rfl rfl fldF82x1) fun a w hs => hK a w ⟨v4, pF hs 8 [0, 1, 2, 3] [0, 1] rfl⟩
    ·intro L a w hv K Q hK
     obtain ⟨v4, hs⟩ := hv
     exact wGo rfl rfl hs (Qp rfl rfl rfl rfl tyF80 (i := 0) rfl rfl) fun a w hs => hK a w ⟨v4, pF hs 9 [0, 1, 2, 3] [0, 1] rfl⟩
    ·intro L a w hv K Q hK
     obtain ⟨v4, hs⟩ := hv
     exact wGo rfl rfl hs (Qk rfl rfl rfl rfl) fun a w hs => hK a w ⟨v4, pF hs 10 [0, 1, 2, 3] [0, 1] rfl⟩
    ·intro L a w hv K Q hK
     obtain ⟨v4, hs⟩ := hv
     exact wGo rfl rfl hs (Qo rfl rfl rfl rfl XK) fun a w hs => hK a w ⟨v4, pF hs 11 [0, 1, 2, 3] [0, 1] rfl⟩
    ·intro L a w hv K Q hK
     obtain ⟨v4, hs⟩ := hv
     exact wGo rfl rfl hs (Qp rfl rfl rfl rfl Xc (i := 2) rfl rfl) fun a w hs => hK a w ⟨v4, pF hs 12 [0, 1, 2, 3] [0, 1] rfl⟩
    ·intro L a w hv K Q hK
     obtain ⟨v4, hs⟩ := hv
     refine QG rfl rfl hs (OpT_makeK u8S rfl (u := (0 : UInt8)) rfl rfl rfl rfl rfl Xg rfl hc2) ?_
     rintro _ ⟨v4', rfl⟩ a' w' hs'
     exact hK a' w' ⟨v4', hs'.putF (i := 13) rfl [0, 1, 2, 4] [0, 1] rfl rfl rfl rfl⟩
    ·intro L a w hL hv
     rw [QZ hL] at hv
     obtain ⟨v4, hs⟩ := hv
     refine (show TA _ _ _ 8 ⟨[(5, some (.pointer (some ⟨b1, 0, none⟩))), (23, some vl1), (24, some (vI (len l))), (25, some (vI x1)), (33, some v3), (34, some (vI x1)), (37, some v4)], [some (Qd b1 82 [v1, v3]), some (Qj u8S true v3 vs2 rows1 none), some (rowS u8S v4 (List.replicate (Int.toNat (r1.Len.toNat : Int)) (0 : UInt8)))], [Fact.sl Qf v1 region1, Fact.sl Qf vl1 l]⟩ from ?_) a w (hs.wkS [5, 23, 24, 25, 33, 34, 37] [0, 1, 3] [0, 1] rfl rfl rfl rfl)
     clear hs hL
     obtain ⟨row1, hx4, h⟩ := ob_e h
     refine QL htb (by kernel_rfl) rfl rfl (OpT_idxRows rfl rfl rfl rfl rfl slF80 (i := 1) rfl hx4) ?_
     refine TA_ex htb (by kernel_rfl) rfl rfl (OpT_storeRow (m := x1) rfl rfl rfl rfl tyF35 (i := 1) (q := 2) rfl rfl rfl hx4) fun vs3 => ?_
     refine ZW rfl ?_
     refine tW [(5, some (.pointer (some ⟨b1, 0, none⟩))), (23, some vl1), (24, some (vI (len l))), (25, some (vI x1))] [some (Qd b1 82 [v1, v3]), some (Qj u8S true v3 vs3 (rows1.set (Int.toNat x1) (List.replicate (Int.toNat (r1.Len.toNat : Int)) (0 : UInt8))) none)] [Fact.sl Qf v1 region1, Fact.sl Qf vl1 l] [5, 23, 24, 25] [0, 1] [0, 1] rfl ?_
     refine Zk (Qb (Qa rfl (Qg rfl rfl rfl rfl rfl (Qx (a := x1) (b := (1 : Int)))) ?_))
     refine sMv rfl rfl rfl ?_
     refine nW [(5, some (.pointer (some ⟨b1, 0, none⟩))), (23, some vl1), (24, some (vI (len l))), (25, some (vI (wi (x1 + (1 : Int)))))] [some (Qd b1 82 [v1, v3]), some (Qj u8S true v3 vs3 (rows1.set (Int.toNat x1) (List.replicate (Int.toNat (r1.Len.toNat : Int)) (0 : UInt8))) none)] [Fact.sl Qf v1 region1, Fact.sl Qf vl1 l] [5, 23, 24, 25] [0, 1] [0, 1] rfl ?_
     exact QN (rows1.set (Int.toNat x1) (List.replicate (Int.toNat (r1.Len.toNat : Int)) (0 : UInt8)), wi (x1 + (1 : Int)), v3, vs3) h [5, 23, 24, 25] [0, 1] [0, 1] rfl rfl rfl rfl rfl
   ·replace h := br_f hg2 h
    refine Qm (cgb hg2) ?_
    refine Zf _ rfl ?_
    refine Qe (Qb (sMv rfl rfl rfl ?_))
    refine sAs rfl rfl rfl ?_
    refine sAs rfl rfl rfl ?_
    refine nW [(2, some (.pointer (some ⟨b1, 0, none⟩))), (3, some (vI (0 : Int)))] [some (Qd b1 82 [v1, v3]), some (Qj u8S true v3 vs2 rows1 none)] [Fact.sl Qf v1 region1] [2, 3] [0, 1] [0] rfl ?_
    refine Tk_vs (vs_fold (fl := gmem_Mem.l) (fb := gmem_Mem.b) (gmem_Mem.mk region1 rows1) (i := 0) (j := 1) rfl rfl rfl (q := 0) rfl rfl rfl) ?_
    obtain rfl := Option.some.inj h
    exact Qn rfl rfl (resA (vs := [.pointer (some ⟨b1, 0, none⟩), vI (0 : Int)]) rfl ⟨rfl, rfl, trivial⟩) [0] [] rfl rfl rfl ⟨(.pointer (some ⟨b1, 0, none⟩)), rfl, rfl, rfl⟩
end Go.Proofs.Ytgcbcnpbnonnjaa
