/- The functions do what the plain words say: each is walked once. No statement of the seat is proved here; no condition. -/
import Derived.Test.YtlofegfaphijpaaWa2
namespace Go.Proofs.Ytlofegfaphijpaa
attribute [local irreducible] sub
set_option maxRecDepth 100000 in
set_option maxHeartbeats 4000000 in
theorem w_seg_Check {l : List Seg} {vl1 : Value} {r : Int} (h : seg_Check l = some r) :
  Ctr Try.prog 62 #[vl1] [] [Fact.sl SegS vl1 l]
   (fun rv own shr => rv = vI r ∧ own = [] ∧ shr = []) := by
 unfold seg_Check at h
 refine Ctr.mkD (args := [vl1]) Try.func62 rfl rfl (fun R0 w0 B => ?_)
 refine Qe (Qc (Qu rfl (QD rfl rfl rfl tyZ37) fun b1 => ?_))
 refine Qd (Qe (Qe (Qc (sMv rfl rfl rfl ?_))))
 refine Qa rfl (QT rfl rfl rfl rfl Try.underlying41 (i := 0) rfl) ?_
 refine Qa rfl (Qf rfl rfl rfl rfl rfl (Kz (a := len l) (b := (64 : Int)))) ?_
 refine Qd (tZ [0, 2, 8] [0] [0] rfl rfl rfl rfl ?_)
 rcases bC (decide ((len l) > (64 : Int))) with hg1 | hg1
 ·replace h := br_t hg1 h
  refine Ql (cgb hg1) ?_
  refine Qe (Qc (Qa rfl (Qo (cs' := [vI (3 : Int)]) rfl rfl rfl rfl tyF37 (i := 0) rfl rfl rfl (QF rfl) rfl) ?_))
  refine Qd (tZ [2] [0] [] rfl rfl rfl rfl ?_)
  obtain rfl := Option.some.inj h
  refine Tk_retE rfl rfl ?_
  exact Tleave_mk (resA (vs := [vI (3 : Int)]) rfl ⟨⟨_, 0, _, _, _, rfl, rfl, .inr ⟨tyF37, rfl⟩⟩, trivial⟩) [] [] rfl rfl rfl ⟨rfl, rfl, rfl⟩
 ·replace h := br_f hg1 h
  refine Qp (cgb hg1) ?_
  refine Qt (Qe (Qc (Qu rfl (QD rfl rfl rfl tyZ27) fun b2 => ?_)))
  refine Qa rfl (Qo (cs' := [vU64 (0 : UInt64)]) rfl rfl rfl rfl QZ (i := 1) rfl rfl rfl (QF rfl) rfl) ?_
  refine Qd (tZ [0, 2, 3] [0, 1] [0] rfl rfl rfl rfl ?_)
  refine Qe (Qc (Qa rfl (Xm (vs := [.pointer (some ⟨b1, 0, none⟩), .pointer (some ⟨b2, 0, none⟩)]) rfl rfl rfl rfl) ?_))
  refine Tops_defer (f := 102) (cp := [.pointer (some ⟨b1, 0, none⟩), .pointer (some ⟨b2, 0, none⟩)]) rfl rfl rfl rfl ?_
  refine Qd (tZ [0, 2, 3] [0, 1] [0] rfl rfl rfl rfl ?_)
  refine Qe (Qe (Qc (sMv rfl rfl rfl ?_)))
  refine Qa rfl (QT rfl rfl rfl rfl Try.underlying41 (i := 0) rfl) ?_
  refine sMv rfl rfl rfl ?_
  refine Qd (QC (Zf (σ := Int × UInt64 × Int) [0, 2, 3, 10, 11, 12] [0, 1] [0] (fun s => ⟨[(0, some vl1), (2, some (.pointer (some ⟨b1, 0, none⟩))), (3, some (.pointer (some ⟨b2, 0, none⟩))), (10, some vl1), (11, some (vI (len l))), (12, some (vI s.2.2))], [some (Qm b1 37 [vI s.1]), some (Qm b2 27 [vU64 s.2.1])], [Fact.sl SegS vl1 l]⟩) (fun nf1 s => KG l nf1 s.1 s.2.1 s.2.2 = some r) fuel ((0 : Int), (0 : UInt64), (0 : Int)) h rfl rfl rfl rfl rfl (fun s h => by cases h) ?_))
  rintro nf1 ⟨m1, m2, x1⟩ h
  replace h : seg_CheckL1B l (KG l nf1) m1 m2 x1 = some r := h
  unfold seg_CheckL1B at h
  refine Qe (Qc (Qa rfl (Qf rfl rfl rfl rfl rfl (QI (a := x1) (b := len l))) ?_))
  refine Qd (Qe ?_)
  rcases bC (decide (x1 < (len l))) with hg2 | hg2
  ·replace h := br_t hg2 h
   refine Ql (cgb hg2) ?_
   refine Qt (Qe (QC (Qe (Qc (sMv rfl rfl rfl ?_)))))
   obtain ⟨s1, hx1, h⟩ := ob_e h
   refine Qu rfl (Zb rfl rfl rfl rfl rfl slF41 (i := 0) rfl hx1) fun p1 => ?_
   refine Qa rfl (Xs (vs := [vU64 s1.At, vU32 s1.Len, vB s1.Write]) rfl rfl rfl rfl tyF46 (i := 1) rfl rfl) ?_
   refine Qu rfl (QD rfl rfl rfl tyZ46) fun b3 => ?_
   refine sAs rfl rfl rfl ?_
   refine Qa rfl (Qo (cs' := [vU64 s1.At, vU32 s1.Len, vB s1.Write]) rfl rfl rfl rfl tyF46 (i := 2) rfl rfl rfl (QF rfl) rfl) ?_
   refine Qd (tZ [0, 2, 3, 10, 11, 12, 5, 4] [0, 1, 2] [0] rfl rfl rfl rfl ?_)
   refine Qe (Qe (Qc (Qa rfl (Qi rfl rfl rfl rfl fldF46x1) ?_)))
   refine Qa rfl (Qj rfl rfl rfl rfl tyF33 (i := 2) rfl rfl) ?_
   refine Qa rfl (Qf rfl rfl rfl rfl rfl (bin_lss_u32 (a := s1.Len) (b := (1 : UInt32)))) ?_
   refine sMv rfl rfl rfl ?_
   rcases bC (decide (s1.Len < (1 : UInt32))) with hg3 | hg3
   ·replace h := br_t hg3 h
    refine Qg rfl rfl (cgb hg3) rfl rfl ?_
    refine Qg rfl rfl (cgb hg3) rfl rfl ?_
    refine Qg rfl rfl (cgb hg3) rfl rfl ?_
    refine Qg rfl rfl (cgb hg3) rfl rfl ?_
    refine Qg rfl rfl (cgb hg3) rfl rfl ?_
    refine Qg rfl rfl (cgb hg3) rfl rfl ?_
    refine Qg rfl rfl (cgb hg3) rfl rfl ?_
    refine Qg rfl rfl (cgb hg3) rfl rfl ?_
    refine Qa rfl (Qr rfl rfl rfl (cgb hg3) rfl) ?_
    refine sMv rfl rfl rfl ?_
    refine Qg rfl rfl rfl rfl rfl ?_
    refine Qg rfl rfl rfl rfl rfl ?_
    refine Qg rfl rfl rfl rfl rfl ?_
    refine QP rfl rfl rfl rfl rfl ?_
    refine QP rfl rfl rfl rfl rfl ?_
    refine QP rfl rfl rfl rfl rfl ?_
    refine QP rfl rfl rfl rfl rfl ?_
    refine QP rfl rfl rfl rfl rfl ?_
    refine QP rfl rfl rfl rfl rfl ?_
    refine Qg rfl rfl rfl rfl rfl ?_
    refine Qg rfl rfl rfl rfl rfl ?_
    refine QP rfl rfl rfl rfl rfl ?_
    refine QP rfl rfl rfl rfl rfl ?_
    refine QP rfl rfl rfl rfl rfl ?_
    refine Qg rfl rfl rfl rfl rfl ?_
    refine Qa rfl (Qr rfl rfl rfl rfl rfl) ?_
    refine Qd (tZ [0, 2, 3, 10, 11, 12, 5, 46] [0, 1, 2] [0] rfl rfl rfl rfl ?_)
    refine Ql rfl ?_
    refine Qe (Qc (Qa rfl (Qo (cs' := [vI (2 : Int)]) rfl rfl rfl rfl tyF37 (i := 0) rfl rfl rfl (QF rfl) rfl) ?_))
    refine Qd (tZ [2] [0, 1] [] rfl rfl rfl rfl ?_)
    obtain ⟨check1, hx2, h⟩ := ob_e h
    obtain rfl := Option.some.inj h
    refine Tk_retD rfl (f := 102) (cp := [.pointer (some ⟨b1, 0, none⟩), .pointer (some ⟨b2, 0, none⟩)]) rfl callee102 (wb_seg_Check_1 hx2).ctrD [0, 1] [] rfl rfl rfl ?_
    rintro _ _ _ ⟨rfl, rfl, rfl⟩
    exact Tleave_mk (resA (vs := [vI check1]) rfl ⟨⟨_, 2, _, _, _, rfl, rfl, .inr ⟨tyF37, rfl⟩⟩, trivial⟩) [] [] rfl rfl rfl ⟨rfl, rfl, rfl⟩
   ·replace h := br_f hg3 h
    refine Qh rfl rfl (cgb hg3) (Qi rfl rfl rfl rfl fldF46x1) ?_
    rintro _ rfl
    refine Qh rfl rfl (cgb hg3) (Qj rfl rfl rfl rfl tyF33 (i := 2) rfl rfl) ?_
    rintro _ rfl
    refine Qh rfl rfl (cgb hg3) (QX rfl rfl rfl rfl (XM (n := s1.Len) Try.underlying33 Try.underlying27)) ?_
    rintro _ rfl
    refine Qh rfl rfl (cgb hg3) (Qf rfl rfl rfl rfl rfl (Zc (a := s1.Len.toUInt64) (b := (1 : UInt64)))) ?_
    rintro _ rfl
    refine Qh rfl rfl (cgb hg3) (Qi rfl rfl rfl rfl fldF46x0) ?_
    rintro _ rfl
    refine Qh rfl rfl (cgb hg3) (Qj rfl rfl rfl rfl QZ (i := 2) rfl rfl) ?_
    rintro _ rfl
    refine Qh rfl rfl (cgb hg3) (Qf rfl rfl rfl rfl rfl (Zc (a := (18446744073709551615 : UInt64)) (b := s1.At))) ?_
    rintro _ rfl
    refine Qh rfl rfl (cgb hg3) (Qf rfl rfl rfl rfl rfl (Xu (a := s1.Len.toUInt64 - (1 : UInt64)) (b := (18446744073709551615 : UInt64) - s1.At))) ?_
    rintro _ rfl
    refine Qa rfl (Qw rfl rfl rfl (cgb hg3) rfl) ?_
    refine sMv rfl rfl rfl ?_
    rcases bC (decide ((s1.Len.toUInt64 - (1 : UInt64)) > ((18446744073709551615 : UInt64) - s1.At))) with hg4 | hg4
    ·replace h := br_t hg4 h
     refine Qg rfl rfl (cgb hg4) rfl rfl ?_
     refine Qg rfl rfl (cgb hg4) rfl rfl ?_
     refine Qg rfl rfl (cgb hg4) rfl rfl ?_
     refine QP rfl rfl rfl rfl rfl ?_
     refine QP rfl rfl rfl rfl rfl ?_
     refine QP rfl rfl rfl rfl rfl ?_
     refine QP rfl rfl rfl rfl rfl ?_
     refine QP rfl rfl rfl rfl rfl ?_
     refine QP rfl rfl rfl rfl rfl ?_
     refine Qg rfl rfl (cgb hg4) rfl rfl ?_
     refine Qg rfl rfl (cgb hg4) rfl rfl ?_
     refine QP rfl rfl rfl rfl rfl ?_
     refine QP rfl rfl rfl rfl rfl ?_
     refine QP rfl rfl rfl rfl rfl ?_
     refine Qg rfl rfl (cgb hg4) rfl rfl ?_
     refine Qa rfl (Qr rfl rfl rfl (cgb hg4) rfl) ?_
     refine Qd (tZ [0, 2, 3, 10, 11, 12, 5, 46] [0, 1, 2] [0] rfl rfl rfl rfl ?_)
     refine Ql rfl ?_
     refine Qe (Qc (Qa rfl (Qo (cs' := [vI (2 : Int)]) rfl rfl rfl rfl tyF37 (i := 0) rfl rfl rfl (QF rfl) rfl) ?_))
     refine Qd (tZ [2] [0, 1] [] rfl rfl rfl rfl ?_)
     obtain ⟨check2, hx3, h⟩ := ob_e h
     obtain rfl := Option.some.inj h
     refine Tk_retD rfl (f := 102) (cp := [.pointer (some ⟨b1, 0, none⟩), .pointer (some ⟨b2, 0, none⟩)]) rfl callee102 (wb_seg_Check_1 hx3).ctrD [0, 1] [] rfl rfl rfl ?_
     rintro _ _ _ ⟨rfl, rfl, rfl⟩
     exact Tleave_mk (resA (vs := [vI check2]) rfl ⟨⟨_, 2, _, _, _, rfl, rfl, .inr ⟨tyF37, rfl⟩⟩, trivial⟩) [] [] rfl rfl rfl ⟨rfl, rfl, rfl⟩
    ·replace h := br_f hg4 h
     refine Qh rfl rfl (cgb hg4) (Qk rfl rfl rfl rfl) ?_
     rintro _ rfl
     refine Qh rfl rfl (cgb hg4) (Qf rfl rfl rfl rfl rfl (Kz (a := x1) (b := (0 : Int)))) ?_
     rintro _ rfl
     refine Qh rfl rfl (cgb hg4) (Qk rfl rfl rfl rfl) ?_
     rintro _ rfl
     rcases bC (decide (x1 > (0 : Int))) with hg5 | hg5
     ·replace h := br_t hg5 h
      refine Qh rfl rfl (cgb hg5) (Qk rfl rfl rfl rfl) ?_
      rintro _ rfl
      refine Qh rfl rfl (cgb hg5) (Qk rfl rfl rfl rfl) ?_
      rintro _ rfl
      refine Qh rfl rfl (cgb hg5) (Qf rfl rfl rfl rfl rfl (bin_sub_i (a := x1) (b := (1 : Int)))) ?_
      rintro _ rfl
      obtain ⟨s2, hx4, h⟩ := ob_e h
      refine Qh rfl rfl (cgb hg5) (Zb rfl rfl rfl rfl rfl slF41 (i := 0) rfl hx4) ?_
      rintro _ ⟨p2, rfl⟩
      refine Qh rfl rfl (cgb hg5) (Zg (S' := bS) (y := s2.Write) rfl rfl rfl rfl fldF46x2 (i := 1) rfl (by intro h cs hr; subst hr; rfl)) ?_
      rintro _ ⟨p3, rfl⟩
      refine Qh rfl rfl (cgb hg5) (Zj rfl rfl rfl rfl tyF4 (i := 2) rfl rfl) ?_
      rintro _ rfl
      refine Qh rfl rfl (cgb hg4) (Qr rfl rfl rfl (cgb hg5) rfl) ?_
      rintro _ rfl
      refine Qh rfl rfl (cgb hg4) (Qk rfl rfl rfl rfl) ?_
      rintro _ rfl
      rcases bC (s2.Write) with hg6 | hg6
      ·replace h := br_t hg6 h
       refine Qh rfl rfl (cgb hg6) (Qi rfl rfl rfl rfl fldF46x2) ?_
       rintro _ rfl
       refine Qh rfl rfl (cgb hg6) (Qj rfl rfl rfl rfl tyF4 (i := 2) rfl rfl) ?_
       rintro _ rfl
       refine Qh rfl rfl (cgb hg6) (XO rfl rfl rfl rfl) ?_
       rintro _ rfl
       refine Qh rfl rfl (cgb hg4) (Qr rfl rfl rfl (cgb hg6) rfl) ?_
       rintro _ rfl
       refine Qa rfl (Qw rfl rfl rfl (cgb hg4) rfl) ?_
       refine Qd (tZ [0, 2, 3, 10, 11, 12, 5, 46] [0, 1, 2] [0] rfl rfl rfl rfl ?_)
       rcases bC ((!s1.Write)) with hg7 | hg7
       ·replace h := br_t hg7 h
        refine Ql (cgb hg7) ?_
        refine Qe (Qc (Qa rfl (Qo (cs' := [vI (2 : Int)]) rfl rfl rfl rfl tyF37 (i := 0) rfl rfl rfl (QF rfl) rfl) ?_))
        refine Qd (tZ [2] [0, 1] [] rfl rfl rfl rfl ?_)
        obtain ⟨check3, hx5, h⟩ := ob_e h
        obtain rfl := Option.some.inj h
        refine Tk_retD rfl (f := 102) (cp := [.pointer (some ⟨b1, 0, none⟩), .pointer (some ⟨b2, 0, none⟩)]) rfl callee102 (wb_seg_Check_1 hx5).ctrD [0, 1] [] rfl rfl rfl ?_
        rintro _ _ _ ⟨rfl, rfl, rfl⟩
        exact Tleave_mk (resA (vs := [vI check3]) rfl ⟨⟨_, 2, _, _, _, rfl, rfl, .inr ⟨tyF37, rfl⟩⟩, trivial⟩) [] [] rfl rfl rfl ⟨rfl, rfl, rfl⟩
       ·replace h := br_f hg7 h
        refine Qp (cgb hg7) ?_
        refine Qt (Qc (Qa rfl (Qj rfl rfl rfl rfl QZ (i := 1) rfl rfl) ?_))
        refine Qa rfl (Qi rfl rfl rfl rfl fldF46x1) ?_
        refine Qa rfl (Qj rfl rfl rfl rfl tyF33 (i := 2) rfl rfl) ?_
        refine Qa rfl (QX rfl rfl rfl rfl (XM (n := s1.Len) Try.underlying33 Try.underlying27)) ?_
        refine Qa rfl (Qf rfl rfl rfl rfl rfl (Za (a := m2) (b := s1.Len.toUInt64))) ?_
        refine Qa rfl (Qo (cs' := [vU64 (m2 + s1.Len.toUInt64)]) rfl rfl rfl rfl QZ (i := 1) rfl rfl rfl (QF rfl) rfl) ?_
        refine Qd (tZ [0, 2, 3, 10, 11, 12] [0, 1] [0] rfl rfl rfl rfl ?_)
        refine Zx (Qc (Qa rfl (Qf rfl rfl rfl rfl rfl (QG (a := x1) (b := (1 : Int)))) ?_))
        refine sMv rfl rfl rfl ?_
        refine Qd (tZ [0, 2, 3, 10, 11, 12] [0, 1] [0] rfl rfl rfl rfl ?_)
        exact QY (m1, m2 + s1.Len.toUInt64, wi (x1 + (1 : Int))) h [0, 2, 3, 10, 11, 12] [0, 1] [0] rfl rfl rfl rfl rfl
      ·replace h := br_f hg6 h
       refine Qg rfl rfl (cgb hg6) rfl rfl ?_
       refine Qg rfl rfl (cgb hg6) rfl rfl ?_
       refine Qg rfl rfl (cgb hg6) rfl rfl ?_
       refine Qh rfl rfl (cgb hg4) (Qw rfl rfl rfl (cgb hg6) rfl) ?_
       rintro _ rfl
       refine Qa rfl (Qw rfl rfl rfl (cgb hg4) rfl) ?_
       refine Qd (tZ [0, 2, 3, 10, 11, 12, 5, 46] [0, 1, 2] [0] rfl rfl rfl rfl ?_)
       refine Qp rfl ?_
       refine Qt (Qc (Qa rfl (Qj rfl rfl rfl rfl QZ (i := 1) rfl rfl) ?_))
       refine Qa rfl (Qi rfl rfl rfl rfl fldF46x1) ?_
       refine Qa rfl (Qj rfl rfl rfl rfl tyF33 (i := 2) rfl rfl) ?_
       refine Qa rfl (QX rfl rfl rfl rfl (XM (n := s1.Len) Try.underlying33 Try.underlying27)) ?_
       refine Qa rfl (Qf rfl rfl rfl rfl rfl (Za (a := m2) (b := s1.Len.toUInt64))) ?_
       refine Qa rfl (Qo (cs' := [vU64 (m2 + s1.Len.toUInt64)]) rfl rfl rfl rfl QZ (i := 1) rfl rfl rfl (QF rfl) rfl) ?_
       refine Qd (tZ [0, 2, 3, 10, 11, 12] [0, 1] [0] rfl rfl rfl rfl ?_)
       refine Zx (Qc (Qa rfl (Qf rfl rfl rfl rfl rfl (QG (a := x1) (b := (1 : Int)))) ?_))
       refine sMv rfl rfl rfl ?_
       refine Qd (tZ [0, 2, 3, 10, 11, 12] [0, 1] [0] rfl rfl rfl rfl ?_)
       exact QY (m1, m2 + s1.Len.toUInt64, wi (x1 + (1 : Int))) h [0, 2, 3, 10, 11, 12] [0, 1] [0] rfl rfl rfl rfl rfl
     ·replace h := br_f hg5 h
      refine Qg rfl rfl (cgb hg5) rfl rfl ?_
      refine Qg rfl rfl (cgb hg5) rfl rfl ?_
      refine Qg rfl rfl (cgb hg5) rfl rfl ?_
      refine Qg rfl rfl (cgb hg5) rfl rfl ?_
      refine Qg rfl rfl (cgb hg5) rfl rfl ?_
      refine Qg rfl rfl (cgb hg5) rfl rfl ?_
      refine Qh rfl rfl (cgb hg4) (Qw rfl rfl rfl (cgb hg5) rfl) ?_
      rintro _ rfl
      refine Qh rfl rfl (cgb hg4) (Qk rfl rfl rfl rfl) ?_
      rintro _ rfl
      refine Qg rfl rfl rfl rfl rfl ?_
      refine Qg rfl rfl rfl rfl rfl ?_
      refine Qg rfl rfl rfl rfl rfl ?_
      refine Qh rfl rfl (cgb hg4) (Qw rfl rfl rfl rfl rfl) ?_
      rintro _ rfl
      refine Qa rfl (Qw rfl rfl rfl (cgb hg4) rfl) ?_
      refine Qd (tZ [0, 2, 3, 10, 11, 12, 5, 46] [0, 1, 2] [0] rfl rfl rfl rfl ?_)
      refine Qp rfl ?_
      refine Qt (Qc (Qa rfl (Qj rfl rfl rfl rfl QZ (i := 1) rfl rfl) ?_))
      refine Qa rfl (Qi rfl rfl rfl rfl fldF46x1) ?_
      refine Qa rfl (Qj rfl rfl rfl rfl tyF33 (i := 2) rfl rfl) ?_
      refine Qa rfl (QX rfl rfl rfl rfl (XM (n := s1.Len) Try.underlying33 Try.underlying27)) ?_
      refine Qa rfl (Qf rfl rfl rfl rfl rfl (Za (a := m2) (b := s1.Len.toUInt64))) ?_
      refine Qa rfl (Qo (cs' := [vU64 (m2 + s1.Len.toUInt64)]) rfl rfl rfl rfl QZ (i := 1) rfl rfl rfl (QF rfl) rfl) ?_
      refine Qd (tZ [0, 2, 3, 10, 11, 12] [0, 1] [0] rfl rfl rfl rfl ?_)
      refine Zx (Qc (Qa rfl (Qf rfl rfl rfl rfl rfl (QG (a := x1) (b := (1 : Int)))) ?_))
      refine sMv rfl rfl rfl ?_
      refine Qd (tZ [0, 2, 3, 10, 11, 12] [0, 1] [0] rfl rfl rfl rfl ?_)
      exact QY (m1, m2 + s1.Len.toUInt64, wi (x1 + (1 : Int))) h [0, 2, 3, 10, 11, 12] [0, 1] [0] rfl rfl rfl rfl rfl
  ·replace h := br_f hg2 h
   refine Qp (cgb hg2) ?_
   refine Zv _ rfl ?_
   refine Qe (Qc (Qa rfl (Qo (cs' := [vI (0 : Int)]) rfl rfl rfl rfl tyF37 (i := 0) rfl rfl rfl (QF rfl) rfl) ?_))
   refine Qd (tZ [2] [0, 1] [] rfl rfl rfl rfl ?_)
   obtain ⟨check4, hx6, h⟩ := ob_e h
   obtain rfl := Option.some.inj h
   refine Tk_retD rfl (f := 102) (cp := [.pointer (some ⟨b1, 0, none⟩), .pointer (some ⟨b2, 0, none⟩)]) rfl callee102 (wb_seg_Check_1 hx6).ctrD [0, 1] [] rfl rfl rfl ?_
   rintro _ _ _ ⟨rfl, rfl, rfl⟩
   exact Tleave_mk (resA (vs := [vI check4]) rfl ⟨⟨_, 2, _, _, _, rfl, rfl, .inr ⟨tyF37, rfl⟩⟩, trivial⟩) [] [] rfl rfl rfl ⟨rfl, rfl, rfl⟩

set_option maxRecDepth 100000 in
set_option maxHeartbeats 4000000 in
theorem w_seg_In {m : gmem_Mem} {l : List Seg} {b_m : Nat} {vm1 : Value} {vm2 : Value} {vsm1 : List Value} {vl1 : Value} {r : Int} (h : seg_In m l = some r) :
  Ctr Try.prog 88 #[.pointer (some ⟨b_m, 0, none⟩), vl1] [(Qm b_m 113 [vm1, vm2]), (QV u8S true vm2 vsm1 m.b none)] [Fact.sl Qz vm1 m.l, Fact.sl SegS vl1 l]
   (fun rv own shr => rv = vI r ∧ own = [(Qm b_m 113 [vm1, vm2]), (QV u8S true vm2 vsm1 m.b none)] ∧ shr = []) := by
 unfold seg_In at h
 refine Ctr.mk (args := [.pointer (some ⟨b_m, 0, none⟩), vl1]) Try.func88 rfl rfl (fun R0 w0 B => ?_)
 refine Qe (Qc (sAs rfl rfl rfl ?_))
 refine Qd (tZ [0, 1] [0, 1] [0, 1] rfl rfl rfl rfl ?_)
 refine Qe (Qe (Qc (sMv rfl rfl rfl ?_)))
 obtain ⟨YQ, hx1, h⟩ := ob_e h
 refine Qs rfl (QJ [2, 3, 4] (Yg hx1) [0, 1] [0] rfl rfl rfl rfl rfl callee82 rfl rfl rfl rfl rfl) ?_
 rintro _ ⟨_, _, _, ⟨v1, rfl, rfl, rfl⟩, rfl⟩
 refine sMv rfl rfl rfl ?_
 refine Qa rfl (Qq rfl rfl rfl rfl rfl) ?_
 refine Qa rfl (Qq rfl rfl rfl rfl rfl) ?_
 refine sAs rfl rfl rfl ?_
 refine sAs rfl rfl rfl ?_
 refine Qd (tZ [0, 1, 6] [0, 1] [0, 1] rfl rfl rfl rfl ?_)
 refine Qe (Qc (sMv rfl rfl rfl ?_))
 refine Qa rfl (Qf rfl rfl rfl rfl rfl (QL (a := YQ.2) (b := (0 : Int)))) ?_
 refine Qd (tZ [0, 1, 6, 16] [0, 1] [0, 1] rfl rfl rfl rfl ?_)
 rcases bC (YQ.2 != (0 : Int)) with hg1 | hg1
 ·replace h := br_t hg1 h
  refine Ql (cgb hg1) ?_
  refine Qe (Qc (sMv rfl rfl rfl ?_))
  refine sAs rfl rfl rfl ?_
  refine Qd (tZ [4] [0, 1] [0] rfl rfl rfl rfl ?_)
  obtain rfl := Option.some.inj h
  exact Qn rfl rfl (resA (vs := [vI YQ.2]) rfl ⟨rfl, trivial⟩) [0, 1] [] rfl rfl rfl ⟨rfl, rfl, rfl⟩
 ·replace h := br_f hg1 h
  refine Qp (cgb hg1) ?_
  refine Qt (Qe (Qe (Qc (sMv rfl rfl rfl ?_))))
  obtain ⟨check1, hx2, h⟩ := ob_e h
  refine Qs rfl (Qv (w_seg_Check hx2) [] [1] rfl rfl rfl rfl rfl callee62 rfl rfl rfl rfl) ?_
  rintro _ ⟨_, _, _, ⟨rfl, rfl, rfl⟩, rfl⟩
  refine sAs rfl rfl rfl ?_
  refine Qd (tZ [0, 1, 7] [0, 1] [0, 1] rfl rfl rfl rfl ?_)
  refine Qe (Qc (sMv rfl rfl rfl ?_))
  refine Qa rfl (Qf rfl rfl rfl rfl rfl (QL (a := check1) (b := (0 : Int)))) ?_
  refine Qd (tZ [0, 1, 7, 21] [0, 1] [0, 1] rfl rfl rfl rfl ?_)
  rcases bC (check1 != (0 : Int)) with hg2 | hg2
  ·replace h := br_t hg2 h
   refine Ql (cgb hg2) ?_
   refine Qe (Qc (sMv rfl rfl rfl ?_))
   refine sAs rfl rfl rfl ?_
   refine Qd (tZ [4] [0, 1] [0] rfl rfl rfl rfl ?_)
   obtain rfl := Option.some.inj h
   exact Qn rfl rfl (resA (vs := [vI check1]) rfl ⟨rfl, trivial⟩) [0, 1] [] rfl rfl rfl ⟨rfl, rfl, rfl⟩
  ·replace h := br_f hg2 h
   refine Qp (cgb hg2) ?_
   refine Qt (Qe (Qe (Qc (sMv rfl rfl rfl ?_))))
   refine Qa rfl (QT rfl rfl rfl rfl Try.underlying41 (i := 1) rfl) ?_
   refine sMv rfl rfl rfl ?_
   refine Qd (tZ [0, 23, 24, 25] [0, 1] [0, 1] rfl rfl rfl rfl ?_)
   refine QC (Zf (σ := Int) [0, 23, 24, 25] [0, 1] [0, 1] (fun s => ⟨[(0, some (.pointer (some ⟨b_m, 0, none⟩))), (23, some vl1), (24, some (vI (len l))), (25, some (vI s))], [some (Qm b_m 113 [vm1, vm2]), some (QV u8S true vm2 vsm1 m.b none)], [Fact.sl Qz vm1 m.l, Fact.sl SegS vl1 l]⟩) (fun nf1 s => seg_InL1 m l nf1 s = some r) fuel (0 : Int) h rfl rfl rfl rfl rfl (fun s h => by cases h) ?_)
   rintro nf1 x1 h
   replace h : seg_InL1B m l (seg_InL1 m l nf1) x1 = some r := h
   unfold seg_InL1B at h
   refine Qe (Qc (Qa rfl (Qf rfl rfl rfl rfl rfl (QI (a := x1) (b := len l))) ?_))
   refine Qd (Qe ?_)
   rcases bC (decide (x1 < (len l))) with hg3 | hg3
   ·replace h := br_t hg3 h
    refine Ql (cgb hg3) ?_
    refine Qt (Qe (QC (Qe (Qc ?_))))
    obtain ⟨s1, hx3, h⟩ := ob_e h
    refine Qu rfl (Zb rfl rfl rfl rfl rfl slF41 (i := 1) rfl hx3) fun p1 => ?_
    refine Qa rfl (Xs (vs := [vU64 s1.At, vU32 s1.Len, vB s1.Write]) rfl rfl rfl rfl tyF46 (i := 2) rfl rfl) ?_
    refine Qu rfl (QD rfl rfl rfl tyZ46) fun b1 => ?_
    refine Qa rfl (Qo (cs' := [vU64 s1.At, vU32 s1.Len, vB s1.Write]) rfl rfl rfl rfl tyF46 (i := 2) rfl rfl rfl (QF rfl) rfl) ?_
    refine Qd (tZ [0, 23, 24, 25, 9] [0, 1, 2] [0, 1] rfl rfl rfl rfl ?_)
    refine Qe (Qc (sMv rfl rfl rfl ?_))
    refine Qa rfl (Qi rfl rfl rfl rfl fldF46x0) ?_
    refine Qa rfl (Qj rfl rfl rfl rfl QZ (i := 2) rfl rfl) ?_
    refine Qa rfl (Qi rfl rfl rfl rfl fldF46x1) ?_
    refine Qa rfl (Qj rfl rfl rfl rfl tyF33 (i := 2) rfl rfl) ?_
    refine Qa rfl (QX rfl rfl rfl rfl (XM (n := s1.Len) Try.underlying33 Try.underlying27)) ?_
    obtain ⟨has1, hx4, h⟩ := ob_e h
    refine Qs rfl (QJ [3, 4, 2] (w_gmem_Mem_Has hx4) [0, 1] [0] rfl rfl rfl rfl rfl callee26 rfl rfl rfl rfl rfl) ?_
    rintro _ ⟨_, _, _, ⟨rfl, rfl, rfl⟩, rfl⟩
    refine Qa rfl (XO rfl rfl rfl rfl) ?_
    refine Qd (tZ [0, 23, 24, 25, 36] [0, 1] [0, 1] rfl rfl rfl rfl ?_)
    rcases bC ((!has1)) with hg4 | hg4
    ·replace h := br_t hg4 h
     refine Ql (cgb hg4) ?_
     refine Qe (Qc (sAs rfl rfl rfl ?_))
     refine Qd (tZ [4] [0, 1] [0] rfl rfl rfl rfl ?_)
     obtain rfl := Option.some.inj h
     exact Qn rfl rfl (resA (vs := [vI (5 : Int)]) rfl ⟨rfl, trivial⟩) [0, 1] [] rfl rfl rfl ⟨rfl, rfl, rfl⟩
    ·replace h := br_f hg4 h
     refine Qp (cgb hg4) ?_
     refine Qt (Zx (Qc (Qa rfl (Qf rfl rfl rfl rfl rfl (QG (a := x1) (b := (1 : Int)))) ?_)))
     refine sMv rfl rfl rfl ?_
     refine Qd (tZ [0, 23, 24, 25] [0, 1] [0, 1] rfl rfl rfl rfl ?_)
     exact QY (wi (x1 + (1 : Int))) h [0, 23, 24, 25] [0, 1] [0, 1] rfl rfl rfl rfl rfl
   ·replace h := br_f hg3 h
    refine Qp (cgb hg3) ?_
    refine Zv _ rfl ?_
    refine Qe (Qc (sAs rfl rfl rfl ?_))
    refine Qd (tZ [4] [0, 1] [0] rfl rfl rfl rfl ?_)
    obtain rfl := Option.some.inj h
    exact Qn rfl rfl (resA (vs := [vI (0 : Int)]) rfl ⟨rfl, trivial⟩) [0, 1] [] rfl rfl rfl ⟨rfl, rfl, rfl⟩

set_option maxRecDepth 100000 in
set_option maxHeartbeats 4000000 in
theorem w_walk_looked {m : gmem_Mem} {l : List Seg} {b_m : Nat} {vm1 : Value} {vm2 : Value} {vsm1 : List Value} {vl1 : Value} {r : ((List Seg) × Int)} (h : walk_looked m l = some r) :
  Ctr Try.prog 42 #[.pointer (some ⟨b_m, 0, none⟩), vl1] [(Qm b_m 113 [vm1, vm2]), (QV u8S true vm2 vsm1 m.b none)] [Fact.sl Qz vm1 m.l, Fact.sl SegS vl1 l]
   (fun rv own shr => ∃ (w1 : Value), rv = .tuple #[w1, vI r.2] ∧ own = [(Qm b_m 113 [vm1, vm2]), (QV u8S true vm2 vsm1 m.b none)] ∧ shr = [Fact.sl SegS w1 r.1]) := by
 unfold walk_looked at h
 refine Ctr.mk (args := [.pointer (some ⟨b_m, 0, none⟩), vl1]) Try.func42 rfl rfl (fun R0 w0 B => ?_)
 refine Qe (Qc (sAs rfl rfl rfl ?_))
 refine sAs rfl rfl rfl ?_
 refine Qd (tZ [0, 1] [0, 1] [0, 1] rfl rfl rfl rfl ?_)
 refine Qe (Qe (Qc (sMv rfl rfl rfl ?_)))
 refine Qa rfl (QT rfl rfl rfl rfl Try.underlying41 (i := 1) rfl) ?_
 refine Qa rfl (Qf rfl rfl rfl rfl rfl (ZG (a := len l) (b := (0 : Int)))) ?_
 refine sMv rfl rfl rfl ?_
 rcases bC ((len l) == (0 : Int)) with hg1 | hg1
 ·replace h := br_t hg1 h
  refine Qg rfl rfl (cgb hg1) rfl rfl ?_
  refine Qg rfl rfl (cgb hg1) rfl rfl ?_
  refine Qg rfl rfl (cgb hg1) rfl rfl ?_
  refine Qa rfl (Qr rfl rfl rfl (cgb hg1) rfl) ?_
  refine Qd (tZ [0, 1, 14] [0, 1] [0, 1] rfl rfl rfl rfl ?_)
  refine Ql rfl ?_
  refine Qe (Qc (sAs rfl rfl rfl ?_))
  refine sAs rfl rfl rfl ?_
  refine Qd (tZ [4, 5] [0, 1] [0] rfl rfl rfl rfl ?_)
  refine Yl SegS ?_
  obtain rfl := Option.some.inj h
  exact Qn rfl rfl (resA (vs := [.slice none 0 0, vI (4 : Int)]) rfl ⟨rfl, rfl, trivial⟩) [0, 1] [1] rfl rfl rfl ⟨(.slice none 0 0), rfl, rfl, rfl⟩
 ·replace h := br_f hg1 h
  refine Qh rfl rfl (cgb hg1) (Qk rfl rfl rfl rfl) ?_
  rintro _ rfl
  obtain ⟨check1, hx1, h⟩ := ob_e h
  refine Qh rfl rfl (cgb hg1) (Qv (w_seg_Check hx1) [] [1] rfl rfl rfl rfl rfl callee62 rfl rfl rfl rfl) ?_
  rintro _ ⟨_, _, _, ⟨rfl, rfl, rfl⟩, rfl⟩
  refine Qh rfl rfl (cgb hg1) (Qf rfl rfl rfl rfl rfl (QL (a := check1) (b := (0 : Int)))) ?_
  rintro _ rfl
  refine Qa rfl (Qw rfl rfl rfl (cgb hg1) rfl) ?_
  refine Qd (tZ [0, 1, 14] [0, 1] [0, 1] rfl rfl rfl rfl ?_)
  rcases bC (check1 != (0 : Int)) with hg2 | hg2
  ·replace h := br_t hg2 h
   refine Ql (cgb hg2) ?_
   refine Qe (Qc (sAs rfl rfl rfl ?_))
   refine sAs rfl rfl rfl ?_
   refine Qd (tZ [4, 5] [0, 1] [0] rfl rfl rfl rfl ?_)
   refine Yl SegS ?_
   obtain rfl := Option.some.inj h
   exact Qn rfl rfl (resA (vs := [.slice none 0 0, vI (4 : Int)]) rfl ⟨rfl, rfl, trivial⟩) [0, 1] [1] rfl rfl rfl ⟨(.slice none 0 0), rfl, rfl, rfl⟩
  ·replace h := br_f hg2 h
   refine Qp (cgb hg2) ?_
   refine Qt (Qe (Qe (Qc (sMv rfl rfl rfl ?_))))
   refine sMv rfl rfl rfl ?_
   obtain ⟨in1, hx2, h⟩ := ob_e h
   refine Qs rfl (QJ [2, 3] (w_seg_In hx2) [0, 1] [0, 1] rfl rfl rfl rfl rfl callee88 rfl rfl rfl rfl rfl) ?_
   rintro _ ⟨_, _, _, ⟨rfl, rfl, rfl⟩, rfl⟩
   refine sAs rfl rfl rfl ?_
   refine Qd (tZ [1, 6] [0, 1] [0, 1] rfl rfl rfl rfl ?_)
   refine Qe (Qc (sMv rfl rfl rfl ?_))
   refine Qa rfl (Qf rfl rfl rfl rfl rfl (QL (a := in1) (b := (0 : Int)))) ?_
   refine Qd (tZ [1, 6, 19] [0, 1] [0, 1] rfl rfl rfl rfl ?_)
   rcases bC (in1 != (0 : Int)) with hg3 | hg3
   ·replace h := br_t hg3 h
    refine Ql (cgb hg3) ?_
    refine Qe (Qc (sMv rfl rfl rfl ?_))
    refine sAs rfl rfl rfl ?_
    refine sAs rfl rfl rfl ?_
    refine Qd (tZ [4, 5] [0, 1] [0] rfl rfl rfl rfl ?_)
    refine Yl SegS ?_
    obtain rfl := Option.some.inj h
    exact Qn rfl rfl (resA (vs := [.slice none 0 0, vI in1]) rfl ⟨rfl, rfl, trivial⟩) [0, 1] [1] rfl rfl rfl ⟨(.slice none 0 0), rfl, rfl, rfl⟩
   ·replace h := br_f hg3 h
    refine Qp (cgb hg3) ?_
    refine Qt (Qe (Qc (sMv rfl rfl rfl ?_)))
    refine sAs rfl rfl rfl ?_
    refine sAs rfl rfl rfl ?_
    refine Qd (tZ [4, 5] [0, 1] [0, 1] rfl rfl rfl rfl ?_)
    obtain rfl := Option.some.inj h
    exact Qn rfl rfl (resA (vs := [vl1, vI (0 : Int)]) rfl ⟨rfl, rfl, trivial⟩) [0, 1] [1] rfl rfl rfl ⟨vl1, rfl, rfl, rfl⟩

set_option maxRecDepth 100000 in
set_option maxHeartbeats 4000000 in
theorem KK {m : gmem_Mem} {rp1 : Rings} {head : Int} {table : Bool} {b_m : Nat} {vm1 : Value} {vm2 : Value} {vsm1 : List Value} {r : ((List Seg) × Int)} (h : Yf m rp1 head table = some r) :
  Ctr Try.prog 13 #[.pointer (some ⟨b_m, 0, none⟩), .agg #[vB rp1.Packed, vI rp1.Size, vU64 rp1.Desc, vU64 rp1.Driver, vU64 rp1.Device], vI head, vB table] [(Qm b_m 113 [vm1, vm2]), (QV u8S true vm2 vsm1 m.b none)] [Fact.sl Qz vm1 m.l]
   (fun rv own shr => ∃ (w1 : Value), rv = .tuple #[w1, vI r.2] ∧ own = [(Qm b_m 113 [vm1, vm2]), (QV u8S true vm2 vsm1 m.b none)] ∧ shr = [Fact.sl SegS w1 r.1]) := by
 unfold Yf at h
 refine Ctr.mk (args := [.pointer (some ⟨b_m, 0, none⟩), .agg #[vB rp1.Packed, vI rp1.Size, vU64 rp1.Desc, vU64 rp1.Driver, vU64 rp1.Device], vI head, vB table]) Try.func13 rfl rfl (fun R0 w0 B => ?_)
 refine Qe (Qc (Qu rfl (ZA rfl rfl rfl rfl) fun b1 => ?_))
 refine sAs rfl rfl rfl ?_
 refine sAs rfl rfl rfl ?_
 refine Qd (tZ [0, 2, 3, 5] [0, 1, 2] [0] rfl rfl rfl rfl ?_)
 refine Qe (Qe (Qc (sMv rfl rfl rfl ?_)))
 refine Qa rfl (Qy (vs := [vB rp1.Packed, vI rp1.Size, vU64 rp1.Desc, vU64 rp1.Driver, vU64 rp1.Device]) rfl rfl rfl rfl ZX (i := 2) rfl rfl rfl) ?_
 obtain ⟨refuse1, hx1, h⟩ := ob_e h
 refine Qs rfl (QJ [3, 4, 2] (w_walk_refuse hx1) [0, 1] [0] rfl rfl rfl rfl rfl callee40 rfl rfl rfl rfl rfl) ?_
 rintro _ ⟨_, _, _, ⟨rfl, rfl, rfl⟩, rfl⟩
 refine sAs rfl rfl rfl ?_
 refine Qd (tZ [0, 2, 3, 5, 10] [0, 1, 2] [0] rfl rfl rfl rfl ?_)
 refine Qe (Qc (sMv rfl rfl rfl ?_))
 refine Qa rfl (Qf rfl rfl rfl rfl rfl (QL (a := refuse1) (b := (0 : Int)))) ?_
 refine Qd (tZ [0, 2, 3, 5, 10, 18] [0, 1, 2] [0] rfl rfl rfl rfl ?_)
 rcases bC (refuse1 != (0 : Int)) with hg1 | hg1
 ·replace h := br_t hg1 h
  refine Ql (cgb hg1) ?_
  refine Qe (Qc (sMv rfl rfl rfl ?_))
  refine sAs rfl rfl rfl ?_
  refine sAs rfl rfl rfl ?_
  refine Qd (tZ [8, 9] [0, 1] [0] rfl rfl rfl rfl ?_)
  refine Yl SegS ?_
  obtain rfl := Option.some.inj h
  exact Qn rfl rfl (resA (vs := [.slice none 0 0, vI refuse1]) rfl ⟨rfl, rfl, trivial⟩) [0, 1] [1] rfl rfl rfl ⟨(.slice none 0 0), rfl, rfl, rfl⟩
 ·replace h := br_f hg1 h
  refine Qp (cgb hg1) ?_
  refine Qt (Qe (Qc (sMv rfl rfl rfl ?_)))
  refine Qa rfl (Qy (vs := [vB rp1.Packed, vI rp1.Size, vU64 rp1.Desc, vU64 rp1.Driver, vU64 rp1.Device]) rfl rfl rfl rfl ZX (i := 2) rfl rfl rfl) ?_
  refine sMv rfl rfl rfl ?_
  refine sMv rfl rfl rfl ?_
  obtain ⟨split1, hx2, h⟩ := ob_e h
  refine Qs rfl (QJ [3, 4, 2, 5] (w_walk_split hx2) [0, 1] [0] rfl rfl rfl rfl rfl callee41 rfl rfl rfl rfl rfl) ?_
  rintro _ ⟨_, _, _, ⟨v1, rfl, rfl, rfl⟩, rfl⟩
  refine sMv rfl rfl rfl ?_
  refine Qa rfl (Qq rfl rfl rfl rfl rfl) ?_
  refine Qa rfl (Qq rfl rfl rfl rfl rfl) ?_
  refine Qa rfl (Qq rfl rfl rfl rfl rfl) ?_
  refine sAs rfl rfl rfl ?_
  refine sAs rfl rfl rfl ?_
  refine sAs rfl rfl rfl ?_
  refine Qd (tZ [0, 11, 13] [0, 1, 3] [0] rfl rfl rfl rfl ?_)
  refine Qe (Qe (Qc (sMv rfl rfl rfl ?_)))
  refine Qa rfl (Qf rfl rfl rfl rfl rfl (QL (a := split1.2.2) (b := (0 : Int)))) ?_
  refine Qd (tZ [0, 11, 13, 30] [0, 1, 2] [0] rfl rfl rfl rfl ?_)
  rcases bC (split1.2.2 != (0 : Int)) with hg2 | hg2
  ·replace h := br_t hg2 h
   refine Ql (cgb hg2) ?_
   refine Qe (Qc (sMv rfl rfl rfl ?_))
   refine sAs rfl rfl rfl ?_
   refine sAs rfl rfl rfl ?_
   refine Qd (tZ [8, 9] [0, 1] [0] rfl rfl rfl rfl ?_)
   refine Yl SegS ?_
   obtain rfl := Option.some.inj h
   exact Qn rfl rfl (resA (vs := [.slice none 0 0, vI split1.2.2]) rfl ⟨rfl, rfl, trivial⟩) [0, 1] [1] rfl rfl rfl ⟨(.slice none 0 0), rfl, rfl, rfl⟩
  ·replace h := br_f hg2 h
   refine Qp (cgb hg2) ?_
   refine Qt (Qe (Qc (sMv rfl rfl rfl ?_)))
   refine sMv rfl rfl rfl ?_
   refine YZ (i := 2) rfl ?_
   obtain ⟨looked1, hx3, h⟩ := ob_e h
   refine Qs rfl (QJ [3, 4, 2] (w_walk_looked hx3) [0, 1] [0, 1] rfl rfl rfl rfl rfl callee42 rfl rfl rfl rfl rfl) ?_
   rintro _ ⟨_, _, _, ⟨v2, rfl, rfl, rfl⟩, rfl⟩
   refine Qa rfl (Qq rfl rfl rfl rfl rfl) ?_
   refine Qa rfl (Qq rfl rfl rfl rfl rfl) ?_
   refine sAs rfl rfl rfl ?_
   refine sAs rfl rfl rfl ?_
   refine Qd (tZ [8, 9] [0, 1] [0, 2] rfl rfl rfl rfl ?_)
   obtain rfl := Option.some.inj h
   exact Qn rfl rfl (resA (vs := [v2, vI looked1.2]) rfl ⟨rfl, rfl, trivial⟩) [0, 1] [1] rfl rfl rfl ⟨v2, rfl, rfl, rfl⟩

set_option maxRecDepth 100000 in
set_option maxHeartbeats 4000000 in
theorem w_kit_SameSegs {ap0 : List Seg} {b : List Seg} {vap01 : Value} {vb1 : Value} {r : Bool} (h : Yp ap0 b = some r) :
  Ctr Try.prog 18 #[vap01, vb1] [] [Fact.sl SegS vap01 ap0, Fact.sl SegS vb1 b]
   (fun rv own shr => rv = vB r ∧ own = [] ∧ shr = []) := by
 unfold Yp at h
 refine Ctr.mk (args := [vap01, vb1]) Try.func18 rfl rfl (fun R0 w0 B => ?_)
 refine Qe (Qc (sAs rfl rfl rfl ?_))
 refine Qd (tZ [0, 1] [] [0, 1] rfl rfl rfl rfl ?_)
 refine Qe (Qe (Qc (sMv rfl rfl rfl ?_)))
 refine Qa rfl (QT rfl rfl rfl rfl Try.underlying41 (i := 0) rfl) ?_
 refine sMv rfl rfl rfl ?_
 refine Qa rfl (QT rfl rfl rfl rfl Try.underlying41 (i := 1) rfl) ?_
 refine Qa rfl (Qf rfl rfl rfl rfl rfl (QL (a := len ap0) (b := len b))) ?_
 refine Qd (tZ [0, 1, 10] [] [0, 1] rfl rfl rfl rfl ?_)
 rcases bC ((len ap0) != (len b)) with hg1 | hg1
 ·replace h := br_t hg1 h
  refine Ql (cgb hg1) ?_
  refine Qe (Qc (sAs rfl rfl rfl ?_))
  refine Qd (tZ [4] [] [] rfl rfl rfl rfl ?_)
  obtain rfl := Option.some.inj h
  exact Qn rfl rfl (resA (vs := [vB false]) rfl ⟨rfl, trivial⟩) [] [] rfl rfl rfl ⟨rfl, rfl, rfl⟩
 ·replace h := br_f hg1 h
  refine Qp (cgb hg1) ?_
  refine Qt (Qe (Qe (Qc (sAs rfl rfl rfl ?_))))
  refine Qd (tZ [0, 1, 5] [] [0, 1] rfl rfl rfl rfl ?_)
  refine QC (Zf (σ := Int) [0, 1, 5] [] [0, 1] (fun s => ⟨[(0, some vap01), (1, some vb1), (5, some (vI s))], [], [Fact.sl SegS vap01 ap0, Fact.sl SegS vb1 b]⟩) (fun nf1 s => YG ap0 b nf1 s = some r) fuel (0 : Int) h rfl rfl rfl rfl rfl (fun s h => by cases h) ?_)
  rintro nf1 i1 h
  replace h : Je ap0 b (YG ap0 b nf1) i1 = some r := h
  unfold Je at h
  refine Qe (Qe (Qc (sMv rfl rfl rfl ?_)))
  refine sMv rfl rfl rfl ?_
  refine Qa rfl (QT rfl rfl rfl rfl Try.underlying41 (i := 0) rfl) ?_
  refine Qa rfl (Qf rfl rfl rfl rfl rfl (QI (a := i1) (b := len ap0))) ?_
  refine Qd (tZ [0, 1, 5, 14] [] [0, 1] rfl rfl rfl rfl ?_)
  rcases bC (decide (i1 < (len ap0))) with hg2 | hg2
  ·replace h := br_t hg2 h
   refine Ql (cgb hg2) ?_
   refine Qt (Qe (QC (Qe (QU (by kernel_rfl) ?_))))
   refine Xn [0, 0, 3, 7, 0, 0, 48, 112, 255] (by kernel_rfl) fun htb => ?_
   refine aZ [0, 1, 5] [] [0, 1] rfl rfl rfl rfl ?_
   obtain ⟨s1, hx1, h⟩ := ob_e h
   obtain ⟨s2, hx2, h⟩ := ob_e h
   refine QW (lo := 0) (hi := 8) htb rfl rfl (by kernel_rfl) (fun c L a w => ∃ (p1 : Value), ∃ (p2 : Value), Sat c ⟨[(0, some vap01), (1, some vb1), (5, some (vI i1)), (17, bif L 0 then some (vap01) else none), (18, bif L 1 then some (vI i1) else none), (19, bif L 2 then some (p1) else none), (20, bif L 3 then some (.agg #[vU64 s1.At, vU32 s1.Len, vB s1.Write]) else none), (21, bif L 4 then some (vb1) else none), (22, bif L 5 then some (vI i1) else none), (23, bif L 6 then some (p2) else none), (24, bif L 7 then some (.agg #[vU64 s2.At, vU32 s2.Len, vB s2.Write]) else none)], [], [Fact.sl SegS vap01 ap0, Fact.sl SegS vb1 b, (bif L 2 then Fact.pt SegS p1 s1 else Fact.tt), (bif L 6 then Fact.pt SegS p2 s2 else Fact.tt)]⟩ a w) [([], [2, 3]), ([], [2, 3]), ([0, 1], [3]), ([0, 1, 2], []), ([], [6, 7]), ([], [6, 7]), ([4, 5], [7]), ([4, 5, 6], [])] rfl (by kernel_rfl) ?_ (Qb ?_ (Qb ?_ (Qb ?_ (Qb ?_ (Qb ?_ (Qb ?_ (Qb ?_ (Qb ?_ (QB))))))))) ?_
   ·intro a w hs
    exact ⟨undef, undef, hs.startF [17, 18, 19, 20, 21, 22, 23, 24] [] [0, 1, 2, 3] rfl rfl rfl rfl⟩
   ·intro L a w hv K Q hK
    obtain ⟨p1, p2, hs⟩ := hv
    exact wGo rfl rfl hs (Qk rfl rfl rfl rfl) fun a w hs => hK a w ⟨p1, p2, pF hs 3 [] [0, 1, 2, 3] rfl⟩
   ·intro L a w hv K Q hK
    obtain ⟨p1, p2, hs⟩ := hv
    exact wGo rfl rfl hs (Qk rfl rfl rfl rfl) fun a w hs => hK a w ⟨p1, p2, pF hs 4 [] [0, 1, 2, 3] rfl⟩
   ·intro L a w hv K Q hK
    obtain ⟨p1, p2, hs⟩ := hv
    refine QO rfl rfl hs (Zb rfl rfl rfl rfl rfl slF41 (i := 0) rfl hx1) ?_
    rintro _ ⟨p1', rfl⟩ a' w' hs'
    exact hK a' w' ⟨p1', p2, hs'.putF (i := 5) rfl [] [0, 1, 4, 3] rfl rfl rfl rfl⟩
   ·intro L a w hv K Q hK
    obtain ⟨p1, p2, hs⟩ := hv
    exact wGo rfl rfl hs (Xs (vs := [vU64 s1.At, vU32 s1.Len, vB s1.Write]) rfl rfl rfl rfl tyF46 (i := 2) rfl rfl) fun a w hs => hK a w ⟨p1, p2, pF hs 6 [] [0, 1, 2, 3] rfl⟩
   ·intro L a w hv K Q hK
    obtain ⟨p1, p2, hs⟩ := hv
    exact wGo rfl rfl hs (Qk rfl rfl rfl rfl) fun a w hs => hK a w ⟨p1, p2, pF hs 7 [] [0, 1, 2, 3] rfl⟩
   ·intro L a w hv K Q hK
    obtain ⟨p1, p2, hs⟩ := hv
    exact wGo rfl rfl hs (Qk rfl rfl rfl rfl) fun a w hs => hK a w ⟨p1, p2, pF hs 8 [] [0, 1, 2, 3] rfl⟩
   ·intro L a w hv K Q hK
    obtain ⟨p1, p2, hs⟩ := hv
    refine QO rfl rfl hs (Zb rfl rfl rfl rfl rfl slF41 (i := 1) rfl hx2) ?_
    rintro _ ⟨p2', rfl⟩ a' w' hs'
    exact hK a' w' ⟨p1, p2', hs'.putF (i := 9) rfl [] [0, 1, 2, 4] rfl rfl rfl rfl⟩
   ·intro L a w hv K Q hK
    obtain ⟨p1, p2, hs⟩ := hv
    exact wGo rfl rfl hs (Xs (vs := [vU64 s2.At, vU32 s2.Len, vB s2.Write]) rfl rfl rfl rfl tyF46 (i := 3) rfl rfl) fun a w hs => hK a w ⟨p1, p2, pF hs 10 [] [0, 1, 2, 3] rfl⟩
   ·intro L a w hL hv
    rw [QM hL] at hv
    obtain ⟨p1, p2, hs⟩ := hv
    refine gZ hs [0, 1, 5, 20, 24] [] [0, 1] rfl rfl rfl rfl ?_
    clear hs hL
    refine Qx htb (by kernel_rfl) rfl rfl (Qf rfl rfl rfl rfl rfl (eqT46_neq s1 s2)) ?_
    refine Zh rfl ?_
    refine tZ [0, 1, 5, 25] [] [0, 1] rfl rfl rfl rfl ?_
    rcases bC (s1 != s2) with hg3 | hg3
    ·replace h := br_t hg3 h
     refine Ql (cgb hg3) ?_
     refine Qe (Qc (sAs rfl rfl rfl ?_))
     refine Qd (tZ [4] [] [] rfl rfl rfl rfl ?_)
     obtain rfl := Option.some.inj h
     exact Qn rfl rfl (resA (vs := [vB false]) rfl ⟨rfl, trivial⟩) [] [] rfl rfl rfl ⟨rfl, rfl, rfl⟩
    ·replace h := br_f hg3 h
     refine Qp (cgb hg3) ?_
     refine Qt (Zx (Qc (sMv rfl rfl rfl ?_)))
     refine Qa rfl (Qf rfl rfl rfl rfl rfl (QG (a := i1) (b := (1 : Int)))) ?_
     refine sAs rfl rfl rfl ?_
     refine Qd (tZ [0, 1, 5] [] [0, 1] rfl rfl rfl rfl ?_)
     exact QY (wi (i1 + (1 : Int))) h [0, 1, 5] [] [0, 1] rfl rfl rfl rfl rfl
  ·replace h := br_f hg2 h
   refine Qp (cgb hg2) ?_
   refine Zv _ rfl ?_
   refine Qe (Qc (sAs rfl rfl rfl ?_))
   refine Qd (tZ [4] [] [] rfl rfl rfl rfl ?_)
   obtain rfl := Option.some.inj h
   exact Qn rfl rfl (resA (vs := [vB true]) rfl ⟨rfl, trivial⟩) [] [] rfl rfl rfl ⟨rfl, rfl, rfl⟩

set_option maxRecDepth 100000 in
set_option maxHeartbeats 4000000 in
theorem w_law10zlives  {r : Bool} (h : law10zlives = some r) :
  Ctr Try.prog 8 #[] [] []
   (fun rv own shr => rv = vB r ∧ own = [] ∧ shr = []) := by
 unfold law10zlives at h
 refine Ctr.mk (args := []) Try.func8 rfl rfl (fun R0 w0 B => ?_)
 refine Qe (Qc (sAs rfl rfl rfl ?_))
 refine Qd (tZ [] [] [] rfl rfl rfl rfl ?_)
 refine Qe (Qc ?_)
 obtain ⟨place1, hx1, h⟩ := ob_e h
 refine Qs rfl (Qv (w_ref_Place04 hx1) [] [] rfl rfl rfl rfl rfl callee15 rfl rfl rfl rfl) ?_
 rintro _ ⟨_, _, _, ⟨rfl, rfl, rfl⟩, rfl⟩
 refine sMv rfl rfl rfl ?_
 refine Qa rfl (Qq rfl rfl rfl rfl rfl) ?_
 refine Qa rfl (Qq rfl rfl rfl rfl rfl) ?_
 refine Qa rfl (Qq rfl rfl rfl rfl rfl) ?_
 refine Qu rfl (QD rfl rfl rfl tyZ29) fun b1 => ?_
 refine Qa rfl (Qo (cs' := [vB place1.1.Packed, vI place1.1.Size, vU64 place1.1.Desc, vU64 place1.1.Driver, vU64 place1.1.Device]) rfl rfl rfl rfl ZX (i := 0) rfl rfl rfl (QF rfl) rfl) ?_
 refine sAs rfl rfl rfl ?_
 refine sAs rfl rfl rfl ?_
 refine Qd (tZ [1, 3] [0] [] rfl rfl rfl rfl ?_)
 refine Qe (Qc (Qa rfl (QE (v := .agg #[vU64 (0 : UInt64), vU64 (1000 : UInt64)]) rfl rfl rfl rfl (bldV (by kernel_rfl))) ?_))
 refine Qu rfl (QK (S := Qz) (xs := [(Region.mk (0 : UInt64) (1000 : UInt64))]) (css := [[vU64 (0 : UInt64), vU64 (1000 : UInt64)]]) (cs := [vU64 (0 : UInt64), vU64 (1000 : UInt64)]) (e := 53) rfl rfl rfl rfl (bldF slF54 (by decide) (by kernel_rfl)) rfl rfl rfl rfl (Zd (S := Qz) (xs := [(Region.mk (0 : UInt64) (1000 : UInt64))]) (css := [[vU64 (0 : UInt64), vU64 (1000 : UInt64)]]) rfl rfl)) fun v1 => ?_
 refine YZ (i := 1) rfl ?_
 obtain ⟨new1, hx2, h⟩ := ob_e h
 refine Qs rfl (Qv (w_gmem_New hx2) [] [0] rfl rfl rfl rfl rfl callee16 rfl rfl rfl rfl) ?_
 rintro _ ⟨_, _, _, ⟨v2, rfl, rfl, rfl⟩, rfl⟩
 refine sMv rfl rfl rfl ?_
 refine Qa rfl (Qq rfl rfl rfl rfl rfl) ?_
 refine Qa rfl (Qq rfl rfl rfl rfl rfl) ?_
 refine sAs rfl rfl rfl ?_
 refine sAs rfl rfl rfl ?_
 refine Qd (tZ [1, 3, 4, 5] [0, 2] [] rfl rfl rfl rfl ?_)
 rcases onO_cases h with ⟨ho1, h⟩ | ⟨mem1, ho1, h⟩
 ·cases h
 ·refine Tk_optS (i := 1) rfl ho1 ?_
  rintro b2 v3 v4 vs1 rfl
  refine Qe (Qe (Qc (sMv rfl rfl rfl ?_)))
  refine Qa rfl (Qf rfl rfl rfl rfl rfl (QL (a := place1.2.2) (b := (0 : Int)))) ?_
  refine sMv rfl rfl rfl ?_
  rcases bC (place1.2.2 != (0 : Int)) with hg1 | hg1
  ·replace h := br_t hg1 h
   refine Qg rfl rfl (cgb hg1) rfl rfl ?_
   refine Qg rfl rfl (cgb hg1) rfl rfl ?_
   refine Qa rfl (Qr rfl rfl rfl (cgb hg1) rfl) ?_
   refine Qd (tZ [1, 4, 28] [0, 1, 2] [0] rfl rfl rfl rfl ?_)
   refine Ql rfl ?_
   refine Qe (Qc (sAs rfl rfl rfl ?_))
   refine Qd (tZ [0] [] [] rfl rfl rfl rfl ?_)
   obtain rfl := Option.some.inj h
   exact Qn rfl rfl (resA (vs := [vB false]) rfl ⟨rfl, trivial⟩) [] [] rfl rfl rfl ⟨rfl, rfl, rfl⟩
  ·replace h := br_f hg1 h
   refine Qh rfl rfl (cgb hg1) (Qk rfl rfl rfl rfl) ?_
   rintro _ rfl
   refine Qh rfl rfl (cgb hg1) (Qf rfl rfl rfl rfl rfl (QL (a := new1.2) (b := (0 : Int)))) ?_
   rintro _ rfl
   refine Qa rfl (Qw rfl rfl rfl (cgb hg1) rfl) ?_
   refine Qd (tZ [1, 4, 28] [0, 1, 2] [0] rfl rfl rfl rfl ?_)
   rcases bC (new1.2 != (0 : Int)) with hg2 | hg2
   ·replace h := br_t hg2 h
    refine Ql (cgb hg2) ?_
    refine Qe (Qc (sAs rfl rfl rfl ?_))
    refine Qd (tZ [0] [] [] rfl rfl rfl rfl ?_)
    obtain rfl := Option.some.inj h
    exact Qn rfl rfl (resA (vs := [vB false]) rfl ⟨rfl, trivial⟩) [] [] rfl rfl rfl ⟨rfl, rfl, rfl⟩
   ·replace h := br_f hg2 h
    refine Qp (cgb hg2) ?_
    refine Qt (Qe (Qc (sMv rfl rfl rfl ?_)))
    refine Qa rfl (QE (v := .agg #[vU64 (200 : UInt64), vU32 (4 : UInt32), vU16 (1 : UInt16), vU16 (0 : UInt16)]) rfl rfl rfl rfl (bldV (by kernel_rfl))) ?_
    obtain ⟨bytes1, hx3, h⟩ := ob_e h
    refine Qs rfl (Qv (KV hx3) [] [] rfl rfl rfl rfl rfl callee12 rfl rfl rfl rfl) ?_
    rintro _ ⟨v5, _, _, ⟨_, rfl, rfl, rfl⟩, rfl⟩
    obtain ⟨write1, hx4, h⟩ := ob_e h
    refine Qs rfl (Zu [3] [0, 4, 5, 3] (ZL hx4) [1, 2] rfl rfl rfl rfl rfl callee11 rfl rfl rfl rfl rfl rfl (Zl (bor_shr 0 rfl) (Zl (Xa 3 rfl rfl) ZZ)) (by rintro _ _ _ ⟨rfl, rfl, rfl⟩; exact ⟨rfl, (YU (ri_cells _ _ _) (YU (ri_rows rfl _ _ _ _ _) XS))⟩)) ?_
    rintro _ ⟨_, _, _, ⟨rfl, rfl, rfl⟩, rfl⟩
    refine Qd (tZ [1, 4] [0, 1, 2] [0] rfl rfl rfl rfl ?_)
    refine Qe (Qc (sMv rfl rfl rfl ?_))
    refine Qa rfl (Qy (vs := [vB place1.1.Packed, vI place1.1.Size, vU64 place1.1.Desc, vU64 place1.1.Driver, vU64 place1.1.Device]) rfl rfl rfl rfl ZX (i := 0) rfl rfl rfl) ?_
    obtain ⟨split1, hx5, h⟩ := ob_e h
    refine Qs rfl (QJ [0, 3, 4] (KK hx5) [1, 2] [0] rfl rfl rfl rfl rfl callee13 rfl rfl rfl rfl rfl) ?_
    rintro _ ⟨_, _, _, ⟨v6, rfl, rfl, rfl⟩, rfl⟩
    refine sMv rfl rfl rfl ?_
    refine Qa rfl (Qq rfl rfl rfl rfl rfl) ?_
    refine Qa rfl (Qq rfl rfl rfl rfl rfl) ?_
    refine sAs rfl rfl rfl ?_
    refine sAs rfl rfl rfl ?_
    refine Qd (tZ [1, 4, 7] [0, 1, 2] [0] rfl rfl rfl rfl ?_)
    refine Qe (Qc (sMv rfl rfl rfl ?_))
    refine Qa rfl (QE (v := .agg #[vU64 (200 : UInt64), vU32 (4 : UInt32), vU16 (0 : UInt16), vU16 (0 : UInt16)]) rfl rfl rfl rfl (bldV (by kernel_rfl))) ?_
    obtain ⟨bytes2, hx6, h⟩ := ob_e h
    refine Qs rfl (Qv (KV hx6) [] [] rfl rfl rfl rfl rfl callee12 rfl rfl rfl rfl) ?_
    rintro _ ⟨v7, _, _, ⟨_, rfl, rfl, rfl⟩, rfl⟩
    obtain ⟨write2, hx7, h⟩ := ob_e h
    refine Qs rfl (Zu [3] [0, 4, 5, 3] (ZL hx7) [1, 2] rfl rfl rfl rfl rfl callee11 rfl rfl rfl rfl rfl rfl (Zl (bor_shr 0 rfl) (Zl (Xa 3 rfl rfl) ZZ)) (by rintro _ _ _ ⟨rfl, rfl, rfl⟩; exact ⟨rfl, (YU (ri_cells _ _ _) (YU (ri_rows rfl _ _ _ _ _) XS))⟩)) ?_
    rintro _ ⟨_, _, _, ⟨rfl, rfl, rfl⟩, rfl⟩
    refine Qd (tZ [1, 4, 7] [0, 1, 2] [0] rfl rfl rfl rfl ?_)
    refine Qe (Qc (sMv rfl rfl rfl ?_))
    refine Qa rfl (QE (v := .agg #[vU64 (900 : UInt64), vU32 (200 : UInt32), vU16 (0 : UInt16), vU16 (0 : UInt16)]) rfl rfl rfl rfl (bldV (by kernel_rfl))) ?_
    obtain ⟨bytes3, hx8, h⟩ := ob_e h
    refine Qs rfl (Qv (KV hx8) [] [] rfl rfl rfl rfl rfl callee12 rfl rfl rfl rfl) ?_
    rintro _ ⟨v8, _, _, ⟨_, rfl, rfl, rfl⟩, rfl⟩
    obtain ⟨write3, hx9, h⟩ := ob_e h
    refine Qs rfl (Zu [3] [0, 4, 5, 3] (ZL hx9) [1, 2] rfl rfl rfl rfl rfl callee11 rfl rfl rfl rfl rfl rfl (Zl (bor_shr 0 rfl) (Zl (Xa 3 rfl rfl) ZZ)) (by rintro _ _ _ ⟨rfl, rfl, rfl⟩; exact ⟨rfl, (YU (ri_cells _ _ _) (YU (ri_rows rfl _ _ _ _ _) XS))⟩)) ?_
    rintro _ ⟨_, _, _, ⟨rfl, rfl, rfl⟩, rfl⟩
    refine Qd (tZ [1, 4, 7] [0, 1, 2] [0] rfl rfl rfl rfl ?_)
    refine Qe (Qc (sMv rfl rfl rfl ?_))
    refine Qa rfl (Qy (vs := [vB place1.1.Packed, vI place1.1.Size, vU64 place1.1.Desc, vU64 place1.1.Driver, vU64 place1.1.Device]) rfl rfl rfl rfl ZX (i := 0) rfl rfl rfl) ?_
    obtain ⟨split2, hx10, h⟩ := ob_e h
    refine Qs rfl (QJ [0, 3, 4] (KK hx10) [1, 2] [0] rfl rfl rfl rfl rfl callee13 rfl rfl rfl rfl rfl) ?_
    rintro _ ⟨_, _, _, ⟨v9, rfl, rfl, rfl⟩, rfl⟩
    refine sMv rfl rfl rfl ?_
    refine Qa rfl (Qq rfl rfl rfl rfl rfl) ?_
    refine Qa rfl (Qq rfl rfl rfl rfl rfl) ?_
    refine sAs rfl rfl rfl ?_
    refine sAs rfl rfl rfl ?_
    refine Qd (tZ [1, 4, 7, 8, 9] [0, 1, 2] [0, 1] rfl rfl rfl rfl ?_)
    refine Qe (Qc (sMv rfl rfl rfl ?_))
    refine Qa rfl (Qy (vs := [vB place1.1.Packed, vI place1.1.Size, vU64 place1.1.Desc, vU64 place1.1.Driver, vU64 place1.1.Device]) rfl rfl rfl rfl ZX (i := 0) rfl rfl rfl) ?_
    obtain ⟨split3, hx11, h⟩ := ob_e h
    refine Qs rfl (QJ [0, 3, 4] (KK hx11) [1, 2] [0] rfl rfl rfl rfl rfl callee13 rfl rfl rfl rfl rfl) ?_
    rintro _ ⟨_, _, _, ⟨v10, rfl, rfl, rfl⟩, rfl⟩
    refine sMv rfl rfl rfl ?_
    refine Qa rfl (Qq rfl rfl rfl rfl rfl) ?_
    refine Qa rfl (Qq rfl rfl rfl rfl rfl) ?_
    refine sAs rfl rfl rfl ?_
    refine sAs rfl rfl rfl ?_
    refine Qd (tZ [7, 8, 9, 11] [] [1] rfl rfl rfl rfl ?_)
    refine Qe (Qc (sMv rfl rfl rfl ?_))
    refine Qa rfl (Qf rfl rfl rfl rfl rfl (ZG (a := split1.2) (b := (4 : Int)))) ?_
    refine sMv rfl rfl rfl ?_
    rcases bC (split1.2 == (4 : Int)) with hg3 | hg3
    ·replace h := br_t hg3 h
     refine Qh rfl rfl (cgb hg3) (Qk rfl rfl rfl rfl) ?_
     rintro _ rfl
     refine Qh rfl rfl (cgb hg3) (Qf rfl rfl rfl rfl rfl (ZG (a := split2.2) (b := (0 : Int)))) ?_
     rintro _ rfl
     refine Qa rfl (Qr rfl rfl rfl (cgb hg3) rfl) ?_
     refine sMv rfl rfl rfl ?_
     rcases bC (split2.2 == (0 : Int)) with hg4 | hg4
     ·replace h := br_t hg4 h
      refine Qh rfl rfl (cgb hg4) (Qk rfl rfl rfl rfl) ?_
      rintro _ rfl
      refine Qh rfl rfl (cgb hg4) (QE (v := .agg #[vU64 (200 : UInt64), vU32 (4 : UInt32), vB false]) rfl rfl rfl rfl (bldV (by kernel_rfl))) ?_
      rintro _ rfl
      refine Qh rfl rfl (cgb hg4) (QK (S := SegS) (xs := [(Seg.mk (200 : UInt64) (4 : UInt32) false)]) (css := [[vU64 (200 : UInt64), vU32 (4 : UInt32), vB false]]) (cs := [vU64 (200 : UInt64), vU32 (4 : UInt32), vB false]) (e := 46) rfl rfl rfl rfl (bldF slF41 (by decide) (by kernel_rfl)) rfl rfl rfl rfl (Zd (S := SegS) (xs := [(Seg.mk (200 : UInt64) (4 : UInt32) false)]) (css := [[vU64 (200 : UInt64), vU32 (4 : UInt32), vB false]]) rfl rfl)) ?_
      rintro _ ⟨v11, rfl⟩
      obtain ⟨samese1, hx12, h⟩ := ob_e h
      refine Qh rfl rfl (cgb hg4) (Zu [0] [0] (w_kit_SameSegs hx12) [] rfl rfl rfl rfl rfl callee18 rfl rfl rfl rfl rfl rfl (Zl (bor_shr 0 rfl) (Zl (Xa 0 rfl rfl) ZZ)) (by rintro _ _ _ ⟨rfl, rfl, rfl⟩; exact ⟨rfl, XS⟩)) ?_
      rintro _ ⟨_, _, _, ⟨rfl, rfl, rfl⟩, rfl⟩
      refine Qa rfl (Qr rfl rfl rfl (cgb hg4) rfl) ?_
      refine sMv rfl rfl rfl ?_
      rcases bC (samese1) with hg5 | hg5
      ·replace h := br_t hg5 h
       refine Qh rfl rfl (cgb hg5) (Qk rfl rfl rfl rfl) ?_
       rintro _ rfl
       refine Qh rfl rfl (cgb hg5) (Qf rfl rfl rfl rfl rfl (ZG (a := split3.2) (b := (5 : Int)))) ?_
       rintro _ rfl
       refine Qa rfl (Qr rfl rfl rfl (cgb hg5) rfl) ?_
       refine sAs rfl rfl rfl ?_
       refine Qd (tZ [0] [] [] rfl rfl rfl rfl ?_)
       obtain rfl := Option.some.inj h
       exact Qn rfl rfl (resA (vs := [vB (split3.2 == (5 : Int))]) rfl ⟨rfl, trivial⟩) [] [] rfl rfl rfl ⟨rfl, rfl, rfl⟩
      ·replace h := br_f hg5 h
       refine Qg rfl rfl (cgb hg5) rfl rfl ?_
       refine Qg rfl rfl (cgb hg5) rfl rfl ?_
       refine Qa rfl (Qw rfl rfl rfl (cgb hg5) rfl) ?_
       refine sAs rfl rfl rfl ?_
       refine Qd (tZ [0] [] [] rfl rfl rfl rfl ?_)
       obtain rfl := Option.some.inj h
       exact Qn rfl rfl (resA (vs := [vB false]) rfl ⟨rfl, trivial⟩) [] [] rfl rfl rfl ⟨rfl, rfl, rfl⟩
     ·replace h := br_f hg4 h
      refine Qg rfl rfl (cgb hg4) rfl rfl ?_
      refine Qg rfl rfl (cgb hg4) rfl rfl ?_
      refine Qg rfl rfl (cgb hg4) rfl rfl ?_
      refine Qg rfl rfl (cgb hg4) rfl rfl ?_
      refine Qa rfl (Qw rfl rfl rfl (cgb hg4) rfl) ?_
      refine sMv rfl rfl rfl ?_
      refine Qg rfl rfl rfl rfl rfl ?_
      refine Qg rfl rfl rfl rfl rfl ?_
      refine Qa rfl (Qw rfl rfl rfl rfl rfl) ?_
      refine sAs rfl rfl rfl ?_
      refine Qd (tZ [0] [] [] rfl rfl rfl rfl ?_)
      obtain rfl := Option.some.inj h
      exact Qn rfl rfl (resA (vs := [vB false]) rfl ⟨rfl, trivial⟩) [] [] rfl rfl rfl ⟨rfl, rfl, rfl⟩
    ·replace h := br_f hg3 h
     refine Qg rfl rfl (cgb hg3) rfl rfl ?_
     refine Qg rfl rfl (cgb hg3) rfl rfl ?_
     refine Qa rfl (Qw rfl rfl rfl (cgb hg3) rfl) ?_
     refine sMv rfl rfl rfl ?_
     refine Qg rfl rfl rfl rfl rfl ?_
     refine Qg rfl rfl rfl rfl rfl ?_
     refine Qg rfl rfl rfl rfl rfl ?_
     refine Qg rfl rfl rfl rfl rfl ?_
     refine Qa rfl (Qw rfl rfl rfl rfl rfl) ?_
     refine sMv rfl rfl rfl ?_
     refine Qg rfl rfl rfl rfl rfl ?_
     refine Qg rfl rfl rfl rfl rfl ?_
     refine Qa rfl (Qw rfl rfl rfl rfl rfl) ?_
     refine sAs rfl rfl rfl ?_
     refine Qd (tZ [0] [] [] rfl rfl rfl rfl ?_)
     obtain rfl := Option.some.inj h
     exact Qn rfl rfl (resA (vs := [vB false]) rfl ⟨rfl, trivial⟩) [] [] rfl rfl rfl ⟨rfl, rfl, rfl⟩

set_option maxRecDepth 100000 in
set_option maxHeartbeats 4000000 in
theorem w_kit_Pick {np0 : Int} {m : Int} {r : Int} (h : KB np0 m = some r) :
  Ctr Try.prog 9 #[vI np0, vI m] [] []
   (fun rv own shr => rv = vI r ∧ own = [] ∧ shr = []) := by
 unfold KB at h
 refine Ctr.mk (args := [vI np0, vI m]) Try.func9 rfl rfl (fun R0 w0 B => ?_)
 refine Qe (Qc (sAs rfl rfl rfl ?_))
 refine Qd (tZ [0, 1] [] [] rfl rfl rfl rfl ?_)
 refine Qe (Qe (Qc (sMv rfl rfl rfl ?_)))
 refine Qa rfl (Qf rfl rfl rfl rfl rfl (QI (a := m) (b := (1 : Int)))) ?_
 refine Qd (tZ [0, 1, 6] [] [] rfl rfl rfl rfl ?_)
 rcases bC (decide (m < (1 : Int))) with hg1 | hg1
 ·replace h := br_t hg1 h
  refine Ql (cgb hg1) ?_
  refine Qe (Qc (sAs rfl rfl rfl ?_))
  refine Qd (tZ [4] [] [] rfl rfl rfl rfl ?_)
  obtain rfl := Option.some.inj h
  exact Qn rfl rfl (resA (vs := [vI (0 : Int)]) rfl ⟨rfl, trivial⟩) [] [] rfl rfl rfl ⟨rfl, rfl, rfl⟩
 ·replace h := br_f hg1 h
  refine Qp (cgb hg1) ?_
  refine Qt (Qe (Qc (sMv rfl rfl rfl ?_)))
  refine sMv rfl rfl rfl ?_
  obtain ⟨hc1, h⟩ := ZK h
  refine Qa rfl (Qf rfl rfl rfl rfl rfl (bin_rem_i (a := np0) (b := m) (not_t hc1))) ?_
  refine sAs rfl rfl rfl ?_
  refine Qd (tZ [0, 1] [] [] rfl rfl rfl rfl ?_)
  refine Qe (Qe (Qc (sMv rfl rfl rfl ?_)))
  refine Qa rfl (Qf rfl rfl rfl rfl rfl (QI (a := remi np0 m) (b := (0 : Int)))) ?_
  refine Qd (tZ [0, 1, 11] [] [] rfl rfl rfl rfl ?_)
  rcases bC (decide ((remi np0 m) < (0 : Int))) with hg2 | hg2
  ·replace h := br_t hg2 h
   refine Ql (cgb hg2) ?_
   refine Qc (sMv rfl rfl rfl ?_)
   refine sMv rfl rfl rfl ?_
   refine Qa rfl (Qf rfl rfl rfl rfl rfl (QG (a := remi np0 m) (b := m))) ?_
   refine sAs rfl rfl rfl ?_
   refine Qd (tZ [0] [] [] rfl rfl rfl rfl ?_)
   refine Qe (Qc (sMv rfl rfl rfl ?_))
   refine sAs rfl rfl rfl ?_
   refine Qd (tZ [4] [] [] rfl rfl rfl rfl ?_)
   obtain rfl := Option.some.inj h
   exact Qn rfl rfl (resA (vs := [vI (wi ((remi np0 m) + m))]) rfl ⟨rfl, trivial⟩) [] [] rfl rfl rfl ⟨rfl, rfl, rfl⟩
  ·replace h := br_f hg2 h
   refine Qp (cgb hg2) ?_
   refine Qt (Qe (Qc (sMv rfl rfl rfl ?_)))
   refine sAs rfl rfl rfl ?_
   refine Qd (tZ [4] [] [] rfl rfl rfl rfl ?_)
   obtain rfl := Option.some.inj h
   exact Qn rfl rfl (resA (vs := [vI (remi np0 m)]) rfl ⟨rfl, trivial⟩) [] [] rfl rfl rfl ⟨rfl, rfl, rfl⟩

set_option maxRecDepth 100000 in
set_option maxHeartbeats 4000000 in
theorem w_ref_Check02 {l : List Region} {vl1 : Value} {r : Int} (h : ref_Check02 l = some r) :
  Ctr Try.prog 78 #[vl1] [] [Fact.sl Qz vl1 l]
   (fun rv own shr => rv = vI r ∧ own = [] ∧ shr = []) := by
 unfold ref_Check02 at h
 refine Ctr.mk (args := [vl1]) Try.func78 rfl rfl (fun R0 w0 B => ?_)
 refine Qe (Qc (sAs rfl rfl rfl ?_))
 refine Qd (tZ [0] [] [0] rfl rfl rfl rfl ?_)
 refine Qe (Qe (Qc (sMv rfl rfl rfl ?_)))
 refine Qa rfl (QT rfl rfl rfl rfl Try.underlying54 (i := 0) rfl) ?_
 refine Qa rfl (Qf rfl rfl rfl rfl rfl (Kz (a := len l) (b := (16 : Int)))) ?_
 refine Qd (tZ [0, 7] [] [0] rfl rfl rfl rfl ?_)
 rcases bC (decide ((len l) > (16 : Int))) with hg1 | hg1
 ·replace h := br_t hg1 h
  refine Ql (cgb hg1) ?_
  refine Qe (Qc (sAs rfl rfl rfl ?_))
  refine Qd (tZ [2] [] [] rfl rfl rfl rfl ?_)
  obtain rfl := Option.some.inj h
  exact Qn rfl rfl (resA (vs := [vI (2 : Int)]) rfl ⟨rfl, trivial⟩) [] [] rfl rfl rfl ⟨rfl, rfl, rfl⟩
 ·replace h := br_f hg1 h
  refine Qp (cgb hg1) ?_
  refine Qt (Qe (Qc (sAs rfl rfl rfl ?_)))
  refine Qd (tZ [0, 3] [] [0] rfl rfl rfl rfl ?_)
  refine Qe (Qe (Qc (sAs rfl rfl rfl ?_)))
  refine Qd (QC (Zf (σ := UInt64 × Int) [0, 3, 4] [] [0] (fun s => ⟨[(0, some vl1), (3, some (vU64 s.1)), (4, some (vI s.2))], [], [Fact.sl Qz vl1 l]⟩) (fun nf1 s => Ke l nf1 s.1 s.2 = some r) fuel ((0 : UInt64), (0 : Int)) h rfl rfl rfl rfl rfl (fun s h => by cases h) ?_))
  rintro nf1 ⟨sum1, i1⟩ h
  replace h : ref_Check02L1B l (Ke l nf1) sum1 i1 = some r := h
  unfold ref_Check02L1B at h
  refine Qe (Qe (Qc (sMv rfl rfl rfl ?_)))
  refine sMv rfl rfl rfl ?_
  refine Qa rfl (QT rfl rfl rfl rfl Try.underlying54 (i := 0) rfl) ?_
  refine Qa rfl (Qf rfl rfl rfl rfl rfl (QI (a := i1) (b := len l))) ?_
  refine Qd (tZ [0, 3, 4, 11] [] [0] rfl rfl rfl rfl ?_)
  rcases bC (decide (i1 < (len l))) with hg2 | hg2
  ·replace h := br_t hg2 h
   refine Ql (cgb hg2) ?_
   refine Qt (Qe (QC (Qe (Qe (QU (by kernel_rfl) ?_)))))
   refine Xn [0, 0, 3, 7, 15, 31, 63, 127, 127, 511, 1023, 2047, 4095, 8191, 16383, 32767, 32767, 131071, 262143, 524287, 32767, 32767, 3178495, 7372799, 15761407, 32538623, 67108863, 32767, 32767, 402685951, 939556863, 2013298687, 4294967295, 8589934591] (by kernel_rfl) fun htb => ?_
   refine aZ [0, 3, 4] [] [0] rfl rfl rfl rfl ?_
   refine QW (lo := 0) (hi := 2) htb rfl rfl (by kernel_rfl) (fun c L a w => Sat c ⟨[(0, some vl1), (3, some (vU64 sum1)), (4, some (vI i1)), (14, bif L 0 then some (vl1) else none), (15, bif L 1 then some (vI i1) else none)], [], [Fact.sl Qz vl1 l]⟩ a w) [([], []), ([], [])] rfl (by kernel_rfl) ?_ (Qb ?_ (Qb ?_ (QB))) ?_
   ·intro a w hs
    exact hs.startF [14, 15] [] [0] rfl rfl rfl rfl
   ·intro L a w hs K Q hK
    exact wGo rfl rfl hs (Qk rfl rfl rfl rfl) fun a w hs => hK a w (pF hs 3 [] [0] rfl)
   ·intro L a w hs K Q hK
    exact wGo rfl rfl hs (Qk rfl rfl rfl rfl) fun a w hs => hK a w (pF hs 4 [] [0] rfl)
   ·intro L a w hL hv
    rw [QM hL] at hv
    have hs := hv
    refine gZ hs [0, 3, 4, 14, 15] [] [0] rfl rfl rfl rfl ?_
    clear hs hL
    obtain ⟨r1, hx1, h⟩ := ob_e h
    refine TA_ex htb (by kernel_rfl) rfl rfl (Zb rfl rfl rfl rfl rfl slF54 (i := 0) rfl hx1) fun p1 => ?_
    refine TA_ex htb (by kernel_rfl) rfl rfl (Zg (S' := u64S) (y := r1.Len) rfl rfl rfl rfl Yd (i := 1) rfl (by intro h cs hr; subst hr; rfl)) fun p2 => ?_
    refine Qx htb (by kernel_rfl) rfl rfl (Zj rfl rfl rfl rfl QZ (i := 2) rfl rfl) ?_
    refine Qx htb (by kernel_rfl) rfl rfl (Qf rfl rfl rfl rfl rfl (bin_eql_u64 (a := r1.Len) (b := (0 : UInt64)))) ?_
    refine Qx htb (by kernel_rfl) rfl rfl (Qk rfl rfl rfl rfl) ?_
    refine aZ [0, 3, 4, 20] [] [0] rfl rfl rfl rfl ?_
    rcases bC (r1.Len == (0 : UInt64)) with hg3 | hg3
    ·replace h := br_t hg3 h
     refine QW (lo := 7) (hi := 9) htb rfl rfl (by kernel_rfl) (fun c L a w => Sat c ⟨[(0, some vl1), (3, some (vU64 sum1)), (4, some (vI i1)), (20, some (vB (r1.Len == (0 : UInt64)))), (21, bif L 7 then some (undef) else none), (22, bif L 8 then some (undef) else none)], [], [Fact.sl Qz vl1 l]⟩ a w) [([], []), ([], [])] rfl (by kernel_rfl) ?_ (Qb ?_ (Qb ?_ (QB))) ?_
     ·intro a w hs
      exact hs.startF [21, 22] [] [0] rfl rfl rfl rfl
     ·intro L a w hs K Q hK
      exact QA rfl rfl rfl hs (cgb hg3) rfl rfl fun a w hs => hK a w (pF hs 4 [] [0] rfl)
     ·intro L a w hs K Q hK
      exact QA rfl rfl rfl hs (cgb hg3) rfl rfl fun a w hs => hK a w (pF hs 5 [] [0] rfl)
     ·intro L a w hL hv
      rw [QM hL] at hv
      have hs := hv
      refine gZ hs [0, 3, 4, 20, 21, 22] [] [0] rfl rfl rfl rfl ?_
      clear hs hL
      refine KR htb (by kernel_rfl) rfl rfl rfl (cgb hg3) rfl rfl ?_
      refine KR htb (by kernel_rfl) rfl rfl rfl (cgb hg3) rfl rfl ?_
      refine KR htb (by kernel_rfl) rfl rfl rfl (cgb hg3) rfl rfl ?_
      refine KR htb (by kernel_rfl) rfl rfl rfl (cgb hg3) rfl rfl ?_
      refine Qx htb (by kernel_rfl) rfl rfl (Qr rfl rfl rfl (cgb hg3) rfl) ?_
      refine Qx htb (by kernel_rfl) rfl rfl (Qk rfl rfl rfl rfl) ?_
      refine aZ [0, 3, 4, 28] [] [0] rfl rfl rfl rfl ?_
      refine QW (lo := 15) (hi := 32) htb rfl rfl (by kernel_rfl) (fun c L a w => Sat c ⟨[(0, some vl1), (3, some (vU64 sum1)), (4, some (vI i1)), (28, some (vB true)), (29, bif L 15 then some (undef) else none), (30, bif L 16 then some (undef) else none), (31, bif L 17 then some (undef) else none), (32, bif L 18 then some (undef) else none), (33, bif L 19 then some (undef) else none), (34, bif L 20 then some (undef) else none), (35, bif L 21 then some (undef) else none), (36, bif L 22 then some (undef) else none), (37, bif L 23 then some (undef) else none), (38, bif L 24 then some (undef) else none), (39, bif L 25 then some (undef) else none), (40, bif L 26 then some (undef) else none), (41, bif L 27 then some (undef) else none), (42, bif L 28 then some (undef) else none), (43, bif L 29 then some (undef) else none), (44, bif L 30 then some (undef) else none), (45, bif L 31 then some (undef) else none)], [], [Fact.sl Qz vl1 l]⟩ a w) [([], [17, 18, 19, 26]), ([], [17, 18, 19, 26]), ([15, 16], [18, 19, 26]), ([15, 16, 17], [19, 26]), ([15, 16, 17, 18], [26]), ([], [22, 23, 24, 25, 26]), ([], [22, 23, 24, 25, 26]), ([20, 21], [23, 24, 25, 26]), ([20, 21, 22], [24, 25, 26]), ([20, 21, 22, 23], [25, 26]), ([20, 21, 22, 23, 24], [26]), ([15, 16, 17, 18, 19, 20, 21, 22, 23, 24, 25], []), ([], [29, 30, 31]), ([], [29, 30, 31]), ([27, 28], [30, 31]), ([27, 28, 29], [31]), ([27, 28, 29, 30], [])] rfl (by kernel_rfl) ?_ (Qb ?_ (Qb ?_ (Qb ?_ (Qb ?_ (Qb ?_ (Qb ?_ (Qb ?_ (Qb ?_ (Qb ?_ (Qb ?_ (Qb ?_ (Qb ?_ (Qb ?_ (Qb ?_ (Qb ?_ (Qb ?_ (Qb ?_ (QB)))))))))))))))))) ?_
      ·intro a w hs
       exact hs.startF [29, 30, 31, 32, 33, 34, 35, 36, 37, 38, 39, 40, 41, 42, 43, 44, 45] [] [0] rfl rfl rfl rfl
      ·intro L a w hs K Q hK
       exact QA rfl rfl rfl hs rfl rfl rfl fun a w hs => hK a w (pF hs 4 [] [0] rfl)
      ·intro L a w hs K Q hK
       exact QA rfl rfl rfl hs rfl rfl rfl fun a w hs => hK a w (pF hs 5 [] [0] rfl)
      ·intro L a w hs K Q hK
       exact QA rfl rfl rfl hs rfl rfl rfl fun a w hs => hK a w (pF hs 6 [] [0] rfl)
      ·intro L a w hs K Q hK
       exact QA rfl rfl rfl hs rfl rfl rfl fun a w hs => hK a w (pF hs 7 [] [0] rfl)
      ·intro L a w hs K Q hK
       exact QA rfl rfl rfl hs rfl rfl rfl fun a w hs => hK a w (pF hs 8 [] [0] rfl)
      ·intro L a w hs K Q hK
       exact QA rfl rfl rfl hs rfl rfl rfl fun a w hs => hK a w (pF hs 9 [] [0] rfl)
      ·intro L a w hs K Q hK
       exact QA rfl rfl rfl hs rfl rfl rfl fun a w hs => hK a w (pF hs 10 [] [0] rfl)
      ·intro L a w hs K Q hK
       exact QA rfl rfl rfl hs rfl rfl rfl fun a w hs => hK a w (pF hs 11 [] [0] rfl)
      ·intro L a w hs K Q hK
       exact QA rfl rfl rfl hs rfl rfl rfl fun a w hs => hK a w (pF hs 12 [] [0] rfl)
      ·intro L a w hs K Q hK
       exact QA rfl rfl rfl hs rfl rfl rfl fun a w hs => hK a w (pF hs 13 [] [0] rfl)
      ·intro L a w hs K Q hK
       exact QA rfl rfl rfl hs rfl rfl rfl fun a w hs => hK a w (pF hs 14 [] [0] rfl)
      ·intro L a w hs K Q hK
       exact QA rfl rfl rfl hs rfl rfl rfl fun a w hs => hK a w (pF hs 15 [] [0] rfl)
      ·intro L a w hs K Q hK
       exact QA rfl rfl rfl hs rfl rfl rfl fun a w hs => hK a w (pF hs 16 [] [0] rfl)
      ·intro L a w hs K Q hK
       exact QA rfl rfl rfl hs rfl rfl rfl fun a w hs => hK a w (pF hs 17 [] [0] rfl)
      ·intro L a w hs K Q hK
       exact QA rfl rfl rfl hs rfl rfl rfl fun a w hs => hK a w (pF hs 18 [] [0] rfl)
      ·intro L a w hs K Q hK
       exact QA rfl rfl rfl hs rfl rfl rfl fun a w hs => hK a w (pF hs 19 [] [0] rfl)
      ·intro L a w hs K Q hK
       exact QA rfl rfl rfl hs rfl rfl rfl fun a w hs => hK a w (pF hs 20 [] [0] rfl)
      ·intro L a w hL hv
       rw [QM hL] at hv
       have hs := hv
       refine gZ hs [0, 3, 4, 28, 40, 45] [] [0] rfl rfl rfl rfl ?_
       clear hs hL
       refine KR htb (by kernel_rfl) rfl rfl rfl rfl rfl rfl ?_
       refine Qx htb (by kernel_rfl) rfl rfl (Qr rfl rfl rfl rfl rfl) ?_
       refine Zh rfl ?_
       refine tZ [0, 3, 4, 47] [] [0] rfl rfl rfl rfl ?_
       refine Ql rfl ?_
       refine Qe (Qc (sAs rfl rfl rfl ?_))
       refine Qd (tZ [2] [] [] rfl rfl rfl rfl ?_)
       obtain rfl := Option.some.inj h
       exact Qn rfl rfl (resA (vs := [vI (2 : Int)]) rfl ⟨rfl, trivial⟩) [] [] rfl rfl rfl ⟨rfl, rfl, rfl⟩
    ·replace h := br_f hg3 h
     refine QW (lo := 7) (hi := 9) htb rfl rfl (by kernel_rfl) (fun c L a w => Sat c ⟨[(0, some vl1), (3, some (vU64 sum1)), (4, some (vI i1)), (20, some (vB (r1.Len == (0 : UInt64)))), (21, bif L 7 then some (vl1) else none), (22, bif L 8 then some (vI i1) else none)], [], [Fact.sl Qz vl1 l]⟩ a w) [([], []), ([], [])] rfl (by kernel_rfl) ?_ (Qb ?_ (Qb ?_ (QB))) ?_
     ·intro a w hs
      exact hs.startF [21, 22] [] [0] rfl rfl rfl rfl
     ·intro L a w hs K Q hK
      exact wYs rfl rfl rfl hs (cgb hg3) (Qk rfl rfl rfl rfl) fun a w hs => hK a w (pF hs 4 [] [0] rfl)
     ·intro L a w hs K Q hK
      exact wYs rfl rfl rfl hs (cgb hg3) (Qk rfl rfl rfl rfl) fun a w hs => hK a w (pF hs 5 [] [0] rfl)
     ·intro L a w hL hv
      rw [QM hL] at hv
      have hs := hv
      refine gZ hs [0, 3, 4, 20, 21, 22] [] [0] rfl rfl rfl rfl ?_
      clear hs hL
      obtain ⟨r2, hx2, h⟩ := ob_e h
      refine Xx htb (by kernel_rfl) rfl rfl rfl (cgb hg3) (Zb rfl rfl rfl rfl rfl slF54 (i := 0) rfl hx2) ?_
      rintro _ ⟨p3, rfl⟩
      refine Xx htb (by kernel_rfl) rfl rfl rfl (cgb hg3) (Zg (S' := u64S) (y := r2.Len) rfl rfl rfl rfl Yd (i := 1) rfl (by intro h cs hr; subst hr; rfl)) ?_
      rintro _ ⟨p4, rfl⟩
      refine Xx htb (by kernel_rfl) rfl rfl rfl (cgb hg3) (Zj rfl rfl rfl rfl QZ (i := 2) rfl rfl) ?_
      rintro _ rfl
      refine Xx htb (by kernel_rfl) rfl rfl rfl (cgb hg3) (Qf rfl rfl rfl rfl rfl (Xu (a := r2.Len) (b := (1048576 : UInt64)))) ?_
      rintro _ rfl
      refine Qx htb (by kernel_rfl) rfl rfl (Qw rfl rfl rfl (cgb hg3) rfl) ?_
      refine Qx htb (by kernel_rfl) rfl rfl (Qk rfl rfl rfl rfl) ?_
      refine aZ [0, 3, 4, 28] [] [0] rfl rfl rfl rfl ?_
      rcases bC (decide (r2.Len > (1048576 : UInt64))) with hg4 | hg4
      ·replace h := br_t hg4 h
       refine QW (lo := 15) (hi := 32) htb rfl rfl (by kernel_rfl) (fun c L a w => Sat c ⟨[(0, some vl1), (3, some (vU64 sum1)), (4, some (vI i1)), (28, some (vB (decide (r2.Len > (1048576 : UInt64))))), (29, bif L 15 then some (undef) else none), (30, bif L 16 then some (undef) else none), (31, bif L 17 then some (undef) else none), (32, bif L 18 then some (undef) else none), (33, bif L 19 then some (undef) else none), (34, bif L 20 then some (undef) else none), (35, bif L 21 then some (undef) else none), (36, bif L 22 then some (undef) else none), (37, bif L 23 then some (undef) else none), (38, bif L 24 then some (undef) else none), (39, bif L 25 then some (undef) else none), (40, bif L 26 then some (undef) else none), (41, bif L 27 then some (undef) else none), (42, bif L 28 then some (undef) else none), (43, bif L 29 then some (undef) else none), (44, bif L 30 then some (undef) else none), (45, bif L 31 then some (undef) else none)], [], [Fact.sl Qz vl1 l]⟩ a w) [([], [17, 18, 19, 26]), ([], [17, 18, 19, 26]), ([15, 16], [18, 19, 26]), ([15, 16, 17], [19, 26]), ([15, 16, 17, 18], [26]), ([], [22, 23, 24, 25, 26]), ([], [22, 23, 24, 25, 26]), ([20, 21], [23, 24, 25, 26]), ([20, 21, 22], [24, 25, 26]), ([20, 21, 22, 23], [25, 26]), ([20, 21, 22, 23, 24], [26]), ([15, 16, 17, 18, 19, 20, 21, 22, 23, 24, 25], []), ([], [29, 30, 31]), ([], [29, 30, 31]), ([27, 28], [30, 31]), ([27, 28, 29], [31]), ([27, 28, 29, 30], [])] rfl (by kernel_rfl) ?_ (Qb ?_ (Qb ?_ (Qb ?_ (Qb ?_ (Qb ?_ (Qb ?_ (Qb ?_ (Qb ?_ (Qb ?_ (Qb ?_ (Qb ?_ (Qb ?_ (Qb ?_ (Qb ?_ (Qb ?_ (Qb ?_ (Qb ?_ (QB)))))))))))))))))) ?_
       ·intro a w hs
        exact hs.startF [29, 30, 31, 32, 33, 34, 35, 36, 37, 38, 39, 40, 41, 42, 43, 44, 45] [] [0] rfl rfl rfl rfl
       ·intro L a w hs K Q hK
        exact QA rfl rfl rfl hs (cgb hg4) rfl rfl fun a w hs => hK a w (pF hs 4 [] [0] rfl)
       ·intro L a w hs K Q hK
        exact QA rfl rfl rfl hs (cgb hg4) rfl rfl fun a w hs => hK a w (pF hs 5 [] [0] rfl)
       ·intro L a w hs K Q hK
        exact QA rfl rfl rfl hs (cgb hg4) rfl rfl fun a w hs => hK a w (pF hs 6 [] [0] rfl)
       ·intro L a w hs K Q hK
        exact QA rfl rfl rfl hs (cgb hg4) rfl rfl fun a w hs => hK a w (pF hs 7 [] [0] rfl)
       ·intro L a w hs K Q hK
        exact QA rfl rfl rfl hs (cgb hg4) rfl rfl fun a w hs => hK a w (pF hs 8 [] [0] rfl)
       ·intro L a w hs K Q hK
        exact QA rfl rfl rfl hs (cgb hg4) rfl rfl fun a w hs => hK a w (pF hs 9 [] [0] rfl)
       ·intro L a w hs K Q hK
        exact QA rfl rfl rfl hs (cgb hg4) rfl rfl fun a w hs => hK a w (pF hs 10 [] [0] rfl)
       ·intro L a w hs K Q hK
        exact QA rfl rfl rfl hs (cgb hg4) rfl rfl fun a w hs => hK a w (pF hs 11 [] [0] rfl)
       ·intro L a w hs K Q hK
        exact QA rfl rfl rfl hs (cgb hg4) rfl rfl fun a w hs => hK a w (pF hs 12 [] [0] rfl)
       ·intro L a w hs K Q hK
        exact QA rfl rfl rfl hs (cgb hg4) rfl rfl fun a w hs => hK a w (pF hs 13 [] [0] rfl)
       ·intro L a w hs K Q hK
        exact QA rfl rfl rfl hs (cgb hg4) rfl rfl fun a w hs => hK a w (pF hs 14 [] [0] rfl)
       ·intro L a w hs K Q hK
        exact QA rfl rfl rfl hs (cgb hg4) rfl rfl fun a w hs => hK a w (pF hs 15 [] [0] rfl)
       ·intro L a w hs K Q hK
        exact QA rfl rfl rfl hs (cgb hg4) rfl rfl fun a w hs => hK a w (pF hs 16 [] [0] rfl)
       ·intro L a w hs K Q hK
        exact QA rfl rfl rfl hs (cgb hg4) rfl rfl fun a w hs => hK a w (pF hs 17 [] [0] rfl)
       ·intro L a w hs K Q hK
        exact QA rfl rfl rfl hs (cgb hg4) rfl rfl fun a w hs => hK a w (pF hs 18 [] [0] rfl)
       ·intro L a w hs K Q hK
        exact QA rfl rfl rfl hs (cgb hg4) rfl rfl fun a w hs => hK a w (pF hs 19 [] [0] rfl)
       ·intro L a w hs K Q hK
        exact QA rfl rfl rfl hs (cgb hg4) rfl rfl fun a w hs => hK a w (pF hs 20 [] [0] rfl)
       ·intro L a w hL hv
        rw [QM hL] at hv
        have hs := hv
        refine gZ hs [0, 3, 4, 28, 40, 45] [] [0] rfl rfl rfl rfl ?_
        clear hs hL
        refine KR htb (by kernel_rfl) rfl rfl rfl (cgb hg4) rfl rfl ?_
        refine Qx htb (by kernel_rfl) rfl rfl (Qr rfl rfl rfl (cgb hg4) rfl) ?_
        refine Zh rfl ?_
        refine tZ [0, 3, 4, 47] [] [0] rfl rfl rfl rfl ?_
        refine Ql rfl ?_
        refine Qe (Qc (sAs rfl rfl rfl ?_))
        refine Qd (tZ [2] [] [] rfl rfl rfl rfl ?_)
        obtain rfl := Option.some.inj h
        exact Qn rfl rfl (resA (vs := [vI (2 : Int)]) rfl ⟨rfl, trivial⟩) [] [] rfl rfl rfl ⟨rfl, rfl, rfl⟩
      ·replace h := br_f hg4 h
       obtain ⟨r3, hx3, h⟩ := ob_e h
       obtain ⟨r4, hx4, h⟩ := ob_e h
       obtain ⟨r5, hx5, h⟩ := ob_e h
       refine QW (lo := 15) (hi := 32) htb rfl rfl (by kernel_rfl) (fun c L a w => ∃ (p5 : Value), ∃ (p6 : Value), ∃ (p7 : Value), ∃ (p8 : Value), ∃ (p9 : Value), ∃ (p10 : Value), Sat c ⟨[(0, some vl1), (3, some (vU64 sum1)), (4, some (vI i1)), (28, some (vB (decide (r2.Len > (1048576 : UInt64))))), (29, bif L 15 then some (vl1) else none), (30, bif L 16 then some (vI i1) else none), (31, bif L 17 then some (p5) else none), (32, bif L 18 then some (p6) else none), (33, bif L 19 then some (vU64 r3.At) else none), (34, bif L 20 then some (vl1) else none), (35, bif L 21 then some (vI i1) else none), (36, bif L 22 then some (p7) else none), (37, bif L 23 then some (p8) else none), (38, bif L 24 then some (vU64 r4.Len) else none), (39, bif L 25 then some (vU64 (r4.Len - (1 : UInt64))) else none), (40, bif L 26 then some (vU64 (r3.At + (r4.Len - (1 : UInt64)))) else none), (41, bif L 27 then some (vl1) else none), (42, bif L 28 then some (vI i1) else none), (43, bif L 29 then some (p9) else none), (44, bif L 30 then some (p10) else none), (45, bif L 31 then some (vU64 r5.At) else none)], [], [Fact.sl Qz vl1 l, (bif L 17 then Fact.pt Qz p5 r3 else Fact.tt), (bif L 18 then Fact.pt u64S p6 r3.At else Fact.tt), (bif L 22 then Fact.pt Qz p7 r4 else Fact.tt), (bif L 23 then Fact.pt u64S p8 r4.Len else Fact.tt), (bif L 29 then Fact.pt Qz p9 r5 else Fact.tt), (bif L 30 then Fact.pt u64S p10 r5.At else Fact.tt)]⟩ a w) [([], [17, 18, 19, 26]), ([], [17, 18, 19, 26]), ([15, 16], [18, 19, 26]), ([15, 16, 17], [19, 26]), ([15, 16, 17, 18], [26]), ([], [22, 23, 24, 25, 26]), ([], [22, 23, 24, 25, 26]), ([20, 21], [23, 24, 25, 26]), ([20, 21, 22], [24, 25, 26]), ([20, 21, 22, 23], [25, 26]), ([20, 21, 22, 23, 24], [26]), ([15, 16, 17, 18, 19, 20, 21, 22, 23, 24, 25], []), ([], [29, 30, 31]), ([], [29, 30, 31]), ([27, 28], [30, 31]), ([27, 28, 29], [31]), ([27, 28, 29, 30], [])] rfl (by kernel_rfl) ?_ (Qb ?_ (Qb ?_ (Qb ?_ (Qb ?_ (Qb ?_ (Qb ?_ (Qb ?_ (Qb ?_ (Qb ?_ (Qb ?_ (Qb ?_ (Qb ?_ (Qb ?_ (Qb ?_ (Qb ?_ (Qb ?_ (Qb ?_ (QB)))))))))))))))))) ?_
       ·intro a w hs
        exact ⟨undef, undef, undef, undef, undef, undef, hs.startF [29, 30, 31, 32, 33, 34, 35, 36, 37, 38, 39, 40, 41, 42, 43, 44, 45] [] [0, 1, 2, 3, 4, 5, 6] rfl rfl rfl rfl⟩
       ·intro L a w hv K Q hK
        obtain ⟨p5, p6, p7, p8, p9, p10, hs⟩ := hv
        exact wYs rfl rfl rfl hs (cgb hg4) (Qk rfl rfl rfl rfl) fun a w hs => hK a w ⟨p5, p6, p7, p8, p9, p10, pF hs 4 [] [0, 1, 2, 3, 4, 5, 6] rfl⟩
       ·intro L a w hv K Q hK
        obtain ⟨p5, p6, p7, p8, p9, p10, hs⟩ := hv
        exact wYs rfl rfl rfl hs (cgb hg4) (Qk rfl rfl rfl rfl) fun a w hs => hK a w ⟨p5, p6, p7, p8, p9, p10, pF hs 5 [] [0, 1, 2, 3, 4, 5, 6] rfl⟩
       ·intro L a w hv K Q hK
        obtain ⟨p5, p6, p7, p8, p9, p10, hs⟩ := hv
        refine Xg rfl rfl rfl hs (cgb hg4) (Zb rfl rfl rfl rfl rfl slF54 (i := 0) rfl hx3) ?_
        rintro _ ⟨p5', rfl⟩ a' w' hs'
        exact hK a' w' ⟨p5', p6, p7, p8, p9, p10, hs'.putF (i := 6) rfl [] [0, 7, 2, 3, 4, 5, 6] rfl rfl rfl rfl⟩
       ·intro L a w hv K Q hK
        obtain ⟨p5, p6, p7, p8, p9, p10, hs⟩ := hv
        refine Xg rfl rfl rfl hs (cgb hg4) (Zg (S' := u64S) (y := r3.At) rfl rfl rfl rfl Yy (i := 1) rfl (by intro h cs hr; subst hr; rfl)) ?_
        rintro _ ⟨p6', rfl⟩ a' w' hs'
        exact hK a' w' ⟨p5, p6', p7, p8, p9, p10, hs'.putF (i := 7) rfl [] [0, 1, 7, 3, 4, 5, 6] rfl rfl rfl rfl⟩
       ·intro L a w hv K Q hK
        obtain ⟨p5, p6, p7, p8, p9, p10, hs⟩ := hv
        exact wYs rfl rfl rfl hs (cgb hg4) (Zj rfl rfl rfl rfl QZ (i := 2) rfl rfl) fun a w hs => hK a w ⟨p5, p6, p7, p8, p9, p10, pF hs 8 [] [0, 1, 2, 3, 4, 5, 6] rfl⟩
       ·intro L a w hv K Q hK
        obtain ⟨p5, p6, p7, p8, p9, p10, hs⟩ := hv
        exact wYs rfl rfl rfl hs (cgb hg4) (Qk rfl rfl rfl rfl) fun a w hs => hK a w ⟨p5, p6, p7, p8, p9, p10, pF hs 9 [] [0, 1, 2, 3, 4, 5, 6] rfl⟩
       ·intro L a w hv K Q hK
        obtain ⟨p5, p6, p7, p8, p9, p10, hs⟩ := hv
        exact wYs rfl rfl rfl hs (cgb hg4) (Qk rfl rfl rfl rfl) fun a w hs => hK a w ⟨p5, p6, p7, p8, p9, p10, pF hs 10 [] [0, 1, 2, 3, 4, 5, 6] rfl⟩
       ·intro L a w hv K Q hK
        obtain ⟨p5, p6, p7, p8, p9, p10, hs⟩ := hv
        refine Xg rfl rfl rfl hs (cgb hg4) (Zb rfl rfl rfl rfl rfl slF54 (i := 0) rfl hx4) ?_
        rintro _ ⟨p7', rfl⟩ a' w' hs'
        exact hK a' w' ⟨p5, p6, p7', p8, p9, p10, hs'.putF (i := 11) rfl [] [0, 1, 2, 7, 4, 5, 6] rfl rfl rfl rfl⟩
       ·intro L a w hv K Q hK
        obtain ⟨p5, p6, p7, p8, p9, p10, hs⟩ := hv
        refine Xg rfl rfl rfl hs (cgb hg4) (Zg (S' := u64S) (y := r4.Len) rfl rfl rfl rfl Yd (i := 3) rfl (by intro h cs hr; subst hr; rfl)) ?_
        rintro _ ⟨p8', rfl⟩ a' w' hs'
        exact hK a' w' ⟨p5, p6, p7, p8', p9, p10, hs'.putF (i := 12) rfl [] [0, 1, 2, 3, 7, 5, 6] rfl rfl rfl rfl⟩
       ·intro L a w hv K Q hK
        obtain ⟨p5, p6, p7, p8, p9, p10, hs⟩ := hv
        exact wYs rfl rfl rfl hs (cgb hg4) (Zj rfl rfl rfl rfl QZ (i := 4) rfl rfl) fun a w hs => hK a w ⟨p5, p6, p7, p8, p9, p10, pF hs 13 [] [0, 1, 2, 3, 4, 5, 6] rfl⟩
       ·intro L a w hv K Q hK
        obtain ⟨p5, p6, p7, p8, p9, p10, hs⟩ := hv
        exact wYs rfl rfl rfl hs (cgb hg4) (Qf rfl rfl rfl rfl rfl (Zc (a := r4.Len) (b := (1 : UInt64)))) fun a w hs => hK a w ⟨p5, p6, p7, p8, p9, p10, pF hs 14 [] [0, 1, 2, 3, 4, 5, 6] rfl⟩
       ·intro L a w hv K Q hK
        obtain ⟨p5, p6, p7, p8, p9, p10, hs⟩ := hv
        exact wYs rfl rfl rfl hs (cgb hg4) (Qf rfl rfl rfl rfl rfl (Za (a := r3.At) (b := r4.Len - (1 : UInt64)))) fun a w hs => hK a w ⟨p5, p6, p7, p8, p9, p10, pF hs 15 [] [0, 1, 2, 3, 4, 5, 6] rfl⟩
       ·intro L a w hv K Q hK
        obtain ⟨p5, p6, p7, p8, p9, p10, hs⟩ := hv
        exact wYs rfl rfl rfl hs (cgb hg4) (Qk rfl rfl rfl rfl) fun a w hs => hK a w ⟨p5, p6, p7, p8, p9, p10, pF hs 16 [] [0, 1, 2, 3, 4, 5, 6] rfl⟩
       ·intro L a w hv K Q hK
        obtain ⟨p5, p6, p7, p8, p9, p10, hs⟩ := hv
        exact wYs rfl rfl rfl hs (cgb hg4) (Qk rfl rfl rfl rfl) fun a w hs => hK a w ⟨p5, p6, p7, p8, p9, p10, pF hs 17 [] [0, 1, 2, 3, 4, 5, 6] rfl⟩
       ·intro L a w hv K Q hK
        obtain ⟨p5, p6, p7, p8, p9, p10, hs⟩ := hv
        refine Xg rfl rfl rfl hs (cgb hg4) (Zb rfl rfl rfl rfl rfl slF54 (i := 0) rfl hx5) ?_
        rintro _ ⟨p9', rfl⟩ a' w' hs'
        exact hK a' w' ⟨p5, p6, p7, p8, p9', p10, hs'.putF (i := 18) rfl [] [0, 1, 2, 3, 4, 7, 6] rfl rfl rfl rfl⟩
       ·intro L a w hv K Q hK
        obtain ⟨p5, p6, p7, p8, p9, p10, hs⟩ := hv
        refine Xg rfl rfl rfl hs (cgb hg4) (Zg (S' := u64S) (y := r5.At) rfl rfl rfl rfl Yy (i := 5) rfl (by intro h cs hr; subst hr; rfl)) ?_
        rintro _ ⟨p10', rfl⟩ a' w' hs'
        exact hK a' w' ⟨p5, p6, p7, p8, p9, p10', hs'.putF (i := 19) rfl [] [0, 1, 2, 3, 4, 5, 7] rfl rfl rfl rfl⟩
       ·intro L a w hv K Q hK
        obtain ⟨p5, p6, p7, p8, p9, p10, hs⟩ := hv
        exact wYs rfl rfl rfl hs (cgb hg4) (Zj rfl rfl rfl rfl QZ (i := 6) rfl rfl) fun a w hs => hK a w ⟨p5, p6, p7, p8, p9, p10, pF hs 20 [] [0, 1, 2, 3, 4, 5, 6] rfl⟩
       ·intro L a w hL hv
        rw [QM hL] at hv
        obtain ⟨p5, p6, p7, p8, p9, p10, hs⟩ := hv
        refine gZ hs [0, 3, 4, 28, 40, 45] [] [0] rfl rfl rfl rfl ?_
        clear hs hL
        refine Xx htb (by kernel_rfl) rfl rfl rfl (cgb hg4) (Qf rfl rfl rfl rfl rfl (ZD (a := r3.At + (r4.Len - (1 : UInt64))) (b := r5.At))) ?_
        rintro _ rfl
        refine Qx htb (by kernel_rfl) rfl rfl (Qw rfl rfl rfl (cgb hg4) rfl) ?_
        refine Zh rfl ?_
        refine tZ [0, 3, 4, 47] [] [0] rfl rfl rfl rfl ?_
        rcases bC (decide ((r3.At + (r4.Len - (1 : UInt64))) < r5.At)) with hg5 | hg5
        ·replace h := br_t hg5 h
         refine Ql (cgb hg5) ?_
         refine Qe (Qc (sAs rfl rfl rfl ?_))
         refine Qd (tZ [2] [] [] rfl rfl rfl rfl ?_)
         obtain rfl := Option.some.inj h
         exact Qn rfl rfl (resA (vs := [vI (2 : Int)]) rfl ⟨rfl, trivial⟩) [] [] rfl rfl rfl ⟨rfl, rfl, rfl⟩
        ·replace h := br_f hg5 h
         refine Qp (cgb hg5) ?_
         refine Qt (Qe (Qc (sMv rfl rfl rfl ?_)))
         refine sMv rfl rfl rfl ?_
         refine sMv rfl rfl rfl ?_
         obtain ⟨r6, hx6, h⟩ := ob_e h
         refine Qu rfl (Zb rfl rfl rfl rfl rfl slF54 (i := 0) rfl hx6) fun p11 => ?_
         refine Qu rfl (Zg (S' := u64S) (y := r6.Len) rfl rfl rfl rfl Yd (i := 1) rfl (by intro h cs hr; subst hr; rfl)) fun p12 => ?_
         refine Qa rfl (Zj rfl rfl rfl rfl QZ (i := 2) rfl rfl) ?_
         refine Qa rfl (Qf rfl rfl rfl rfl rfl (Za (a := sum1) (b := r6.Len))) ?_
         refine sAs rfl rfl rfl ?_
         refine Qd (tZ [0, 3, 4] [] [0] rfl rfl rfl rfl ?_)
         refine Qe (QU (by kernel_rfl) ?_)
         refine Xn [0, 1, 3, 7, 7, 31, 63, 127, 7, 7, 519, 1799, 3847, 7943, 7, 7, 32775, 114695, 245767, 507911, 1032199, 2096903, 4194303, 8388607] (by kernel_rfl) fun htb => ?_
         refine Qx htb (by kernel_rfl) rfl rfl (Qk rfl rfl rfl rfl) ?_
         refine Qx htb (by kernel_rfl) rfl rfl (Qf rfl rfl rfl rfl rfl (Kz (a := i1) (b := (0 : Int)))) ?_
         refine Qx htb (by kernel_rfl) rfl rfl (Qk rfl rfl rfl rfl) ?_
         refine aZ [0, 3, 4, 57] [] [0] rfl rfl rfl rfl ?_
         rcases bC (decide (i1 > (0 : Int))) with hg6 | hg6
         ·replace h := br_t hg6 h
          obtain ⟨r7, hx7, h⟩ := ob_e h
          obtain ⟨r8, hx8, h⟩ := ob_e h
          obtain ⟨r9, hx9, h⟩ := ob_e h
          refine QW (lo := 3) (hi := 22) htb rfl rfl (by kernel_rfl) (fun c L a w => ∃ (p13 : Value), ∃ (p14 : Value), ∃ (p15 : Value), ∃ (p16 : Value), ∃ (p17 : Value), ∃ (p18 : Value), Sat c ⟨[(0, some vl1), (3, some (vU64 (sum1 + r6.Len))), (4, some (vI i1)), (57, some (vB (decide (i1 > (0 : Int))))), (58, bif L 3 then some (vl1) else none), (59, bif L 4 then some (vI i1) else none), (60, bif L 5 then some (p13) else none), (61, bif L 6 then some (p14) else none), (62, bif L 7 then some (vU64 r7.At) else none), (63, bif L 8 then some (vl1) else none), (64, bif L 9 then some (vI i1) else none), (65, bif L 10 then some (vI (wi (i1 - (1 : Int)))) else none), (66, bif L 11 then some (p15) else none), (67, bif L 12 then some (p16) else none), (68, bif L 13 then some (vU64 r8.At) else none), (69, bif L 14 then some (vl1) else none), (70, bif L 15 then some (vI i1) else none), (71, bif L 16 then some (vI (wi (i1 - (1 : Int)))) else none), (72, bif L 17 then some (p17) else none), (73, bif L 18 then some (p18) else none), (74, bif L 19 then some (vU64 r9.Len) else none), (75, bif L 20 then some (vU64 (r9.Len - (1 : UInt64))) else none), (76, bif L 21 then some (vU64 (r8.At + (r9.Len - (1 : UInt64)))) else none)], [], [Fact.sl Qz vl1 l, (bif L 5 then Fact.pt Qz p13 r7 else Fact.tt), (bif L 6 then Fact.pt u64S p14 r7.At else Fact.tt), (bif L 11 then Fact.pt Qz p15 r8 else Fact.tt), (bif L 12 then Fact.pt u64S p16 r8.At else Fact.tt), (bif L 17 then Fact.pt Qz p17 r9 else Fact.tt), (bif L 18 then Fact.pt u64S p18 r9.Len else Fact.tt)]⟩ a w) [([], [5, 6, 7]), ([], [5, 6, 7]), ([3, 4], [6, 7]), ([3, 4, 5], [7]), ([3, 4, 5, 6], []), ([], [11, 12, 13, 21]), ([], [10, 11, 12, 13, 21]), ([9], [11, 12, 13, 21]), ([8, 9, 10], [12, 13, 21]), ([8, 9, 10, 11], [13, 21]), ([8, 9, 10, 11, 12], [21]), ([], [17, 18, 19, 20, 21]), ([], [16, 17, 18, 19, 20, 21]), ([15], [17, 18, 19, 20, 21]), ([14, 15, 16], [18, 19, 20, 21]), ([14, 15, 16, 17], [19, 20, 21]), ([14, 15, 16, 17, 18], [20, 21]), ([14, 15, 16, 17, 18, 19], [21]), ([8, 9, 10, 11, 12, 13, 14, 15, 16, 17, 18, 19, 20], [])] rfl (by kernel_rfl) ?_ (Qb ?_ (Qb ?_ (Qb ?_ (Qb ?_ (Qb ?_ (Qb ?_ (Qb ?_ (Qb ?_ (Qb ?_ (Qb ?_ (Qb ?_ (Qb ?_ (Qb ?_ (Qb ?_ (Qb ?_ (Qb ?_ (Qb ?_ (Qb ?_ (Qb ?_ (QB)))))))))))))))))))) ?_
          ·intro a w hs
           exact ⟨undef, undef, undef, undef, undef, undef, hs.startF [58, 59, 60, 61, 62, 63, 64, 65, 66, 67, 68, 69, 70, 71, 72, 73, 74, 75, 76] [] [0, 1, 2, 3, 4, 5, 6] rfl rfl rfl rfl⟩
          ·intro L a w hv K Q hK
           obtain ⟨p13, p14, p15, p16, p17, p18, hs⟩ := hv
           exact wYs rfl rfl rfl hs (cgb hg6) (Qk rfl rfl rfl rfl) fun a w hs => hK a w ⟨p13, p14, p15, p16, p17, p18, pF hs 4 [] [0, 1, 2, 3, 4, 5, 6] rfl⟩
          ·intro L a w hv K Q hK
           obtain ⟨p13, p14, p15, p16, p17, p18, hs⟩ := hv
           exact wYs rfl rfl rfl hs (cgb hg6) (Qk rfl rfl rfl rfl) fun a w hs => hK a w ⟨p13, p14, p15, p16, p17, p18, pF hs 5 [] [0, 1, 2, 3, 4, 5, 6] rfl⟩
          ·intro L a w hv K Q hK
           obtain ⟨p13, p14, p15, p16, p17, p18, hs⟩ := hv
           refine Xg rfl rfl rfl hs (cgb hg6) (Zb rfl rfl rfl rfl rfl slF54 (i := 0) rfl hx7) ?_
           rintro _ ⟨p13', rfl⟩ a' w' hs'
           exact hK a' w' ⟨p13', p14, p15, p16, p17, p18, hs'.putF (i := 6) rfl [] [0, 7, 2, 3, 4, 5, 6] rfl rfl rfl rfl⟩
          ·intro L a w hv K Q hK
           obtain ⟨p13, p14, p15, p16, p17, p18, hs⟩ := hv
           refine Xg rfl rfl rfl hs (cgb hg6) (Zg (S' := u64S) (y := r7.At) rfl rfl rfl rfl Yy (i := 1) rfl (by intro h cs hr; subst hr; rfl)) ?_
           rintro _ ⟨p14', rfl⟩ a' w' hs'
           exact hK a' w' ⟨p13, p14', p15, p16, p17, p18, hs'.putF (i := 7) rfl [] [0, 1, 7, 3, 4, 5, 6] rfl rfl rfl rfl⟩
          ·intro L a w hv K Q hK
           obtain ⟨p13, p14, p15, p16, p17, p18, hs⟩ := hv
           exact wYs rfl rfl rfl hs (cgb hg6) (Zj rfl rfl rfl rfl QZ (i := 2) rfl rfl) fun a w hs => hK a w ⟨p13, p14, p15, p16, p17, p18, pF hs 8 [] [0, 1, 2, 3, 4, 5, 6] rfl⟩
          ·intro L a w hv K Q hK
           obtain ⟨p13, p14, p15, p16, p17, p18, hs⟩ := hv
           exact wYs rfl rfl rfl hs (cgb hg6) (Qk rfl rfl rfl rfl) fun a w hs => hK a w ⟨p13, p14, p15, p16, p17, p18, pF hs 9 [] [0, 1, 2, 3, 4, 5, 6] rfl⟩
          ·intro L a w hv K Q hK
           obtain ⟨p13, p14, p15, p16, p17, p18, hs⟩ := hv
           exact wYs rfl rfl rfl hs (cgb hg6) (Qk rfl rfl rfl rfl) fun a w hs => hK a w ⟨p13, p14, p15, p16, p17, p18, pF hs 10 [] [0, 1, 2, 3, 4, 5, 6] rfl⟩
          ·intro L a w hv K Q hK
           obtain ⟨p13, p14, p15, p16, p17, p18, hs⟩ := hv
           exact wYs rfl rfl rfl hs (cgb hg6) (Qf rfl rfl rfl rfl rfl (bin_sub_i (a := i1) (b := (1 : Int)))) fun a w hs => hK a w ⟨p13, p14, p15, p16, p17, p18, pF hs 11 [] [0, 1, 2, 3, 4, 5, 6] rfl⟩
          ·intro L a w hv K Q hK
           obtain ⟨p13, p14, p15, p16, p17, p18, hs⟩ := hv
           refine Xg rfl rfl rfl hs (cgb hg6) (Zb rfl rfl rfl rfl rfl slF54 (i := 0) rfl hx8) ?_
           rintro _ ⟨p15', rfl⟩ a' w' hs'
           exact hK a' w' ⟨p13, p14, p15', p16, p17, p18, hs'.putF (i := 12) rfl [] [0, 1, 2, 7, 4, 5, 6] rfl rfl rfl rfl⟩
          ·intro L a w hv K Q hK
           obtain ⟨p13, p14, p15, p16, p17, p18, hs⟩ := hv
           refine Xg rfl rfl rfl hs (cgb hg6) (Zg (S' := u64S) (y := r8.At) rfl rfl rfl rfl Yy (i := 3) rfl (by intro h cs hr; subst hr; rfl)) ?_
           rintro _ ⟨p16', rfl⟩ a' w' hs'
           exact hK a' w' ⟨p13, p14, p15, p16', p17, p18, hs'.putF (i := 13) rfl [] [0, 1, 2, 3, 7, 5, 6] rfl rfl rfl rfl⟩
          ·intro L a w hv K Q hK
           obtain ⟨p13, p14, p15, p16, p17, p18, hs⟩ := hv
           exact wYs rfl rfl rfl hs (cgb hg6) (Zj rfl rfl rfl rfl QZ (i := 4) rfl rfl) fun a w hs => hK a w ⟨p13, p14, p15, p16, p17, p18, pF hs 14 [] [0, 1, 2, 3, 4, 5, 6] rfl⟩
          ·intro L a w hv K Q hK
           obtain ⟨p13, p14, p15, p16, p17, p18, hs⟩ := hv
           exact wYs rfl rfl rfl hs (cgb hg6) (Qk rfl rfl rfl rfl) fun a w hs => hK a w ⟨p13, p14, p15, p16, p17, p18, pF hs 15 [] [0, 1, 2, 3, 4, 5, 6] rfl⟩
          ·intro L a w hv K Q hK
           obtain ⟨p13, p14, p15, p16, p17, p18, hs⟩ := hv
           exact wYs rfl rfl rfl hs (cgb hg6) (Qk rfl rfl rfl rfl) fun a w hs => hK a w ⟨p13, p14, p15, p16, p17, p18, pF hs 16 [] [0, 1, 2, 3, 4, 5, 6] rfl⟩
          ·intro L a w hv K Q hK
           obtain ⟨p13, p14, p15, p16, p17, p18, hs⟩ := hv
           exact wYs rfl rfl rfl hs (cgb hg6) (Qf rfl rfl rfl rfl rfl (bin_sub_i (a := i1) (b := (1 : Int)))) fun a w hs => hK a w ⟨p13, p14, p15, p16, p17, p18, pF hs 17 [] [0, 1, 2, 3, 4, 5, 6] rfl⟩
          ·intro L a w hv K Q hK
           obtain ⟨p13, p14, p15, p16, p17, p18, hs⟩ := hv
           refine Xg rfl rfl rfl hs (cgb hg6) (Zb rfl rfl rfl rfl rfl slF54 (i := 0) rfl hx9) ?_
           rintro _ ⟨p17', rfl⟩ a' w' hs'
           exact hK a' w' ⟨p13, p14, p15, p16, p17', p18, hs'.putF (i := 18) rfl [] [0, 1, 2, 3, 4, 7, 6] rfl rfl rfl rfl⟩
          ·intro L a w hv K Q hK
           obtain ⟨p13, p14, p15, p16, p17, p18, hs⟩ := hv
           refine Xg rfl rfl rfl hs (cgb hg6) (Zg (S' := u64S) (y := r9.Len) rfl rfl rfl rfl Yd (i := 5) rfl (by intro h cs hr; subst hr; rfl)) ?_
           rintro _ ⟨p18', rfl⟩ a' w' hs'
           exact hK a' w' ⟨p13, p14, p15, p16, p17, p18', hs'.putF (i := 19) rfl [] [0, 1, 2, 3, 4, 5, 7] rfl rfl rfl rfl⟩
          ·intro L a w hv K Q hK
           obtain ⟨p13, p14, p15, p16, p17, p18, hs⟩ := hv
           exact wYs rfl rfl rfl hs (cgb hg6) (Zj rfl rfl rfl rfl QZ (i := 6) rfl rfl) fun a w hs => hK a w ⟨p13, p14, p15, p16, p17, p18, pF hs 20 [] [0, 1, 2, 3, 4, 5, 6] rfl⟩
          ·intro L a w hv K Q hK
           obtain ⟨p13, p14, p15, p16, p17, p18, hs⟩ := hv
           exact wYs rfl rfl rfl hs (cgb hg6) (Qf rfl rfl rfl rfl rfl (Zc (a := r9.Len) (b := (1 : UInt64)))) fun a w hs => hK a w ⟨p13, p14, p15, p16, p17, p18, pF hs 21 [] [0, 1, 2, 3, 4, 5, 6] rfl⟩
          ·intro L a w hv K Q hK
           obtain ⟨p13, p14, p15, p16, p17, p18, hs⟩ := hv
           exact wYs rfl rfl rfl hs (cgb hg6) (Qf rfl rfl rfl rfl rfl (Za (a := r8.At) (b := r9.Len - (1 : UInt64)))) fun a w hs => hK a w ⟨p13, p14, p15, p16, p17, p18, pF hs 22 [] [0, 1, 2, 3, 4, 5, 6] rfl⟩
          ·intro L a w hL hv
           rw [QM hL] at hv
           obtain ⟨p13, p14, p15, p16, p17, p18, hs⟩ := hv
           refine gZ hs [0, 3, 4, 57, 62, 76] [] [0] rfl rfl rfl rfl ?_
           clear hs hL
           refine Xx htb (by kernel_rfl) rfl rfl rfl (cgb hg6) (Qf rfl rfl rfl rfl rfl (bin_leq_u64 (a := r7.At) (b := r8.At + (r9.Len - (1 : UInt64))))) ?_
           rintro _ rfl
           refine Qx htb (by kernel_rfl) rfl rfl (Qr rfl rfl rfl (cgb hg6) rfl) ?_
           refine Zh rfl ?_
           refine tZ [0, 3, 4, 78] [] [0] rfl rfl rfl rfl ?_
           rcases bC (decide (r7.At ≤ (r8.At + (r9.Len - (1 : UInt64))))) with hg7 | hg7
           ·replace h := br_t hg7 h
            refine Ql (cgb hg7) ?_
            refine Qe (Qc (sAs rfl rfl rfl ?_))
            refine Qd (tZ [2] [] [] rfl rfl rfl rfl ?_)
            obtain rfl := Option.some.inj h
            exact Qn rfl rfl (resA (vs := [vI (2 : Int)]) rfl ⟨rfl, trivial⟩) [] [] rfl rfl rfl ⟨rfl, rfl, rfl⟩
           ·replace h := br_f hg7 h
            refine Qp (cgb hg7) ?_
            refine Qt (Zx (Qc (sMv rfl rfl rfl ?_)))
            refine Qa rfl (Qf rfl rfl rfl rfl rfl (QG (a := i1) (b := (1 : Int)))) ?_
            refine sAs rfl rfl rfl ?_
            refine Qd (tZ [0, 3, 4] [] [0] rfl rfl rfl rfl ?_)
            exact QY (sum1 + r6.Len, wi (i1 + (1 : Int))) h [0, 3, 4] [] [0] rfl rfl rfl rfl rfl
         ·replace h := br_f hg6 h
          refine QW (lo := 3) (hi := 22) htb rfl rfl (by kernel_rfl) (fun c L a w => Sat c ⟨[(0, some vl1), (3, some (vU64 (sum1 + r6.Len))), (4, some (vI i1)), (57, some (vB (decide (i1 > (0 : Int))))), (58, bif L 3 then some (undef) else none), (59, bif L 4 then some (undef) else none), (60, bif L 5 then some (undef) else none), (61, bif L 6 then some (undef) else none), (62, bif L 7 then some (undef) else none), (63, bif L 8 then some (undef) else none), (64, bif L 9 then some (undef) else none), (65, bif L 10 then some (undef) else none), (66, bif L 11 then some (undef) else none), (67, bif L 12 then some (undef) else none), (68, bif L 13 then some (undef) else none), (69, bif L 14 then some (undef) else none), (70, bif L 15 then some (undef) else none), (71, bif L 16 then some (undef) else none), (72, bif L 17 then some (undef) else none), (73, bif L 18 then some (undef) else none), (74, bif L 19 then some (undef) else none), (75, bif L 20 then some (undef) else none), (76, bif L 21 then some (undef) else none)], [], [Fact.sl Qz vl1 l]⟩ a w) [([], [5, 6, 7]), ([], [5, 6, 7]), ([3, 4], [6, 7]), ([3, 4, 5], [7]), ([3, 4, 5, 6], []), ([], [11, 12, 13, 21]), ([], [10, 11, 12, 13, 21]), ([9], [11, 12, 13, 21]), ([8, 9, 10], [12, 13, 21]), ([8, 9, 10, 11], [13, 21]), ([8, 9, 10, 11, 12], [21]), ([], [17, 18, 19, 20, 21]), ([], [16, 17, 18, 19, 20, 21]), ([15], [17, 18, 19, 20, 21]), ([14, 15, 16], [18, 19, 20, 21]), ([14, 15, 16, 17], [19, 20, 21]), ([14, 15, 16, 17, 18], [20, 21]), ([14, 15, 16, 17, 18, 19], [21]), ([8, 9, 10, 11, 12, 13, 14, 15, 16, 17, 18, 19, 20], [])] rfl (by kernel_rfl) ?_ (Qb ?_ (Qb ?_ (Qb ?_ (Qb ?_ (Qb ?_ (Qb ?_ (Qb ?_ (Qb ?_ (Qb ?_ (Qb ?_ (Qb ?_ (Qb ?_ (Qb ?_ (Qb ?_ (Qb ?_ (Qb ?_ (Qb ?_ (Qb ?_ (Qb ?_ (QB)))))))))))))))))))) ?_
          ·intro a w hs
           exact hs.startF [58, 59, 60, 61, 62, 63, 64, 65, 66, 67, 68, 69, 70, 71, 72, 73, 74, 75, 76] [] [0] rfl rfl rfl rfl
          ·intro L a w hs K Q hK
           exact QA rfl rfl rfl hs (cgb hg6) rfl rfl fun a w hs => hK a w (pF hs 4 [] [0] rfl)
          ·intro L a w hs K Q hK
           exact QA rfl rfl rfl hs (cgb hg6) rfl rfl fun a w hs => hK a w (pF hs 5 [] [0] rfl)
          ·intro L a w hs K Q hK
           exact QA rfl rfl rfl hs (cgb hg6) rfl rfl fun a w hs => hK a w (pF hs 6 [] [0] rfl)
          ·intro L a w hs K Q hK
           exact QA rfl rfl rfl hs (cgb hg6) rfl rfl fun a w hs => hK a w (pF hs 7 [] [0] rfl)
          ·intro L a w hs K Q hK
           exact QA rfl rfl rfl hs (cgb hg6) rfl rfl fun a w hs => hK a w (pF hs 8 [] [0] rfl)
          ·intro L a w hs K Q hK
           exact QA rfl rfl rfl hs (cgb hg6) rfl rfl fun a w hs => hK a w (pF hs 9 [] [0] rfl)
          ·intro L a w hs K Q hK
           exact QA rfl rfl rfl hs (cgb hg6) rfl rfl fun a w hs => hK a w (pF hs 10 [] [0] rfl)
          ·intro L a w hs K Q hK
           exact QA rfl rfl rfl hs (cgb hg6) rfl rfl fun a w hs => hK a w (pF hs 11 [] [0] rfl)
          ·intro L a w hs K Q hK
           exact QA rfl rfl rfl hs (cgb hg6) rfl rfl fun a w hs => hK a w (pF hs 12 [] [0] rfl)
          ·intro L a w hs K Q hK
           exact QA rfl rfl rfl hs (cgb hg6) rfl rfl fun a w hs => hK a w (pF hs 13 [] [0] rfl)
          ·intro L a w hs K Q hK
           exact QA rfl rfl rfl hs (cgb hg6) rfl rfl fun a w hs => hK a w (pF hs 14 [] [0] rfl)
          ·intro L a w hs K Q hK
           exact QA rfl rfl rfl hs (cgb hg6) rfl rfl fun a w hs => hK a w (pF hs 15 [] [0] rfl)
          ·intro L a w hs K Q hK
           exact QA rfl rfl rfl hs (cgb hg6) rfl rfl fun a w hs => hK a w (pF hs 16 [] [0] rfl)
          ·intro L a w hs K Q hK
           exact QA rfl rfl rfl hs (cgb hg6) rfl rfl fun a w hs => hK a w (pF hs 17 [] [0] rfl)
          ·intro L a w hs K Q hK
           exact QA rfl rfl rfl hs (cgb hg6) rfl rfl fun a w hs => hK a w (pF hs 18 [] [0] rfl)
          ·intro L a w hs K Q hK
           exact QA rfl rfl rfl hs (cgb hg6) rfl rfl fun a w hs => hK a w (pF hs 19 [] [0] rfl)
          ·intro L a w hs K Q hK
           exact QA rfl rfl rfl hs (cgb hg6) rfl rfl fun a w hs => hK a w (pF hs 20 [] [0] rfl)
          ·intro L a w hs K Q hK
           exact QA rfl rfl rfl hs (cgb hg6) rfl rfl fun a w hs => hK a w (pF hs 21 [] [0] rfl)
          ·intro L a w hs K Q hK
           exact QA rfl rfl rfl hs (cgb hg6) rfl rfl fun a w hs => hK a w (pF hs 22 [] [0] rfl)
          ·intro L a w hL hv
           rw [QM hL] at hv
           have hs := hv
           refine gZ hs [0, 3, 4, 57, 62, 76] [] [0] rfl rfl rfl rfl ?_
           clear hs hL
           refine KR htb (by kernel_rfl) rfl rfl rfl (cgb hg6) rfl rfl ?_
           refine Qx htb (by kernel_rfl) rfl rfl (Qw rfl rfl rfl (cgb hg6) rfl) ?_
           refine Zh rfl ?_
           refine tZ [0, 3, 4, 78] [] [0] rfl rfl rfl rfl ?_
           refine Qp rfl ?_
           refine Qt (Zx (Qc (sMv rfl rfl rfl ?_)))
           refine Qa rfl (Qf rfl rfl rfl rfl rfl (QG (a := i1) (b := (1 : Int)))) ?_
           refine sAs rfl rfl rfl ?_
           refine Qd (tZ [0, 3, 4] [] [0] rfl rfl rfl rfl ?_)
           exact QY (sum1 + r6.Len, wi (i1 + (1 : Int))) h [0, 3, 4] [] [0] rfl rfl rfl rfl rfl
  ·replace h := br_f hg2 h
   refine Qp (cgb hg2) ?_
   refine Zv _ rfl ?_
   refine Qe (Qe (Qc (sMv rfl rfl rfl ?_)))
   refine Qa rfl (Qf rfl rfl rfl rfl rfl (Xu (a := sum1) (b := (1048576 : UInt64)))) ?_
   refine Qd (tZ [80] [] [] rfl rfl rfl rfl ?_)
   rcases bC (decide (sum1 > (1048576 : UInt64))) with hg8 | hg8
   ·replace h := br_t hg8 h
    refine Ql (cgb hg8) ?_
    refine Qe (Qc (sAs rfl rfl rfl ?_))
    refine Qd (tZ [2] [] [] rfl rfl rfl rfl ?_)
    obtain rfl := Option.some.inj h
    exact Qn rfl rfl (resA (vs := [vI (2 : Int)]) rfl ⟨rfl, trivial⟩) [] [] rfl rfl rfl ⟨rfl, rfl, rfl⟩
   ·replace h := br_f hg8 h
    refine Qp (cgb hg8) ?_
    refine Qt (Qe (Qc (sAs rfl rfl rfl ?_)))
    refine Qd (tZ [2] [] [] rfl rfl rfl rfl ?_)
    obtain rfl := Option.some.inj h
    exact Qn rfl rfl (resA (vs := [vI (0 : Int)]) rfl ⟨rfl, trivial⟩) [] [] rfl rfl rfl ⟨rfl, rfl, rfl⟩

set_option maxRecDepth 100000 in
set_option maxHeartbeats 4000000 in
theorem w_ref_New02 {l : List Region} {vl1 : Value} {r : ((Option dumbwaiterref02_Mem) × Int)} (h : ref_New02 l = some r) :
  Ctr Try.prog 35 #[vl1] [] [Fact.sl Qz vl1 l]
   (fun rv own shr => ∃ (w1 : Value), rv = .tuple #[w1, vI r.2] ∧ own = [(optR 152 Qz u8S false dumbwaiterref02_Mem.L dumbwaiterref02_Mem.B w1 r.1)] ∧ shr = []) := by
 unfold ref_New02 at h
 refine Ctr.mk (args := [vl1]) Try.func35 rfl rfl (fun R0 w0 B => ?_)
 refine Qe (Qc (sAs rfl rfl rfl ?_))
 refine sAs rfl rfl rfl ?_
 refine Qd (tZ [0] [] [0] rfl rfl rfl rfl ?_)
 refine Qe (Qe (Qc (sMv rfl rfl rfl ?_)))
 obtain ⟨check1, hx1, h⟩ := ob_e h
 refine Qs rfl (Qv (w_ref_Check02 hx1) [] [0] rfl rfl rfl rfl rfl callee78 rfl rfl rfl rfl) ?_
 rintro _ ⟨_, _, _, ⟨rfl, rfl, rfl⟩, rfl⟩
 refine Qa rfl (Qf rfl rfl rfl rfl rfl (QL (a := check1) (b := (0 : Int)))) ?_
 refine Qd (tZ [0, 8] [] [0] rfl rfl rfl rfl ?_)
 rcases bC (check1 != (0 : Int)) with hg1 | hg1
 ·replace h := br_t hg1 h
  refine Ql (cgb hg1) ?_
  refine Qe (Qc (sAs rfl rfl rfl ?_))
  refine sAs rfl rfl rfl ?_
  refine Qd (tZ [2, 3] [] [] rfl rfl rfl rfl ?_)
  refine Tk_nilopt 152 Qz u8S false dumbwaiterref02_Mem.L dumbwaiterref02_Mem.B ?_
  obtain rfl := Option.some.inj h
  exact Qn rfl rfl (resA (vs := [.pointer none, vI (2 : Int)]) rfl ⟨rfl, rfl, trivial⟩) [0] [] rfl rfl rfl ⟨(.pointer none), rfl, rfl, rfl⟩
 ·replace h := br_f hg1 h
  refine Qp (cgb hg1) ?_
  refine Qt (Qe (Qc (Qu rfl (QK (S := Qz) (xs := ([] : List Region)) (css := []) (cs := []) (e := 53) rfl rfl rfl rfl (bldF slF54 (by decide) (by kernel_rfl)) rfl rfl rfl rfl (Zd (S := Qz) (xs := ([] : List Region)) (css := []) rfl rfl)) fun v1 => ?_)))
  refine sMv rfl rfl rfl ?_
  obtain ⟨hc1, h⟩ := ZK h
  refine Qu rfl (OpT_append rfl rfl rfl rfl rfl slF54 (i := 0) (j := 0) rfl rfl hc1) fun v2 => ?_
  refine Qa rfl (OpT_build1 (fun z0 => [(0, z0)]) (fun z0 => [z0, .slice none 0 0]) rfl rfl rfl rfl (Jf (i := 0) rfl) (by intros; kernel_rfl)) ?_
  refine Yb (vs_nilrows (S := u8S)) ?_
  refine Qu rfl (ZA rfl rfl rfl rfl) fun b1 => ?_
  refine sAs rfl rfl rfl ?_
  refine Qd (tZ [0, 4] [0, 1, 2] [0] rfl rfl rfl rfl ?_)
  refine Qe (Qe (Qc (sAs rfl rfl rfl ?_)))
  refine Qd (QC (Zf (σ := (List Region) × (List (List UInt8)) × Int × Value × Value × (List Value)) [0, 4, 5] [2, 0, 1] [0] (fun s => ⟨[(0, some vl1), (4, some (.pointer (some ⟨b1, 0, none⟩))), (5, some (vI s.2.2.1))], [some (Qm b1 152 [s.2.2.2.1, s.2.2.2.2.1]), some (rowS Qz s.2.2.2.1 s.1), some (QV u8S false s.2.2.2.2.1 s.2.2.2.2.2 s.2.1 none)], [Fact.sl Qz vl1 l]⟩) (fun nf1 s => ref_New02L1 l nf1 s.1 s.2.1 s.2.2.1 = some r) fuel (l, ([] : List (List UInt8)), (0 : Int), v2, (.slice none 0 0), []) h rfl rfl rfl rfl rfl (fun s h => by cases h) ?_))
  rintro nf1 ⟨l1, rows1, i1, v3, v4, vs1⟩ h
  replace h : ref_New02L1B l (ref_New02L1 l nf1) l1 rows1 i1 = some r := h
  unfold ref_New02L1B at h
  refine Qe (Qe (Qc (sMv rfl rfl rfl ?_)))
  refine sMv rfl rfl rfl ?_
  refine Qa rfl (QT rfl rfl rfl rfl Try.underlying54 (i := 0) rfl) ?_
  refine Qa rfl (Qf rfl rfl rfl rfl rfl (QI (a := i1) (b := len l))) ?_
  refine Qd (tZ [0, 4, 5, 17] [0, 1, 2] [0] rfl rfl rfl rfl ?_)
  rcases bC (decide (i1 < (len l))) with hg2 | hg2
  ·replace h := br_t hg2 h
   refine Ql (cgb hg2) ?_
   refine Qt (Qe (QC (QU (by kernel_rfl) ?_)))
   refine Xn [0, 0, 2, 6, 14, 0, 0, 96, 224, 480, 992, 2016, 4094, 8191, 16383, 32767] (by kernel_rfl) fun htb => ?_
   refine aZ [0, 4, 5] [0, 1, 2] [0] rfl rfl rfl rfl ?_
   obtain ⟨r1, hx2, h⟩ := ob_e h
   obtain ⟨hc2, h⟩ := ZK h
   obtain ⟨hc3, h⟩ := ZK h
   refine QW (lo := 0) (hi := 13) htb rfl rfl (by kernel_rfl) (fun c L a w => ∃ (p1 : Value), ∃ (p2 : Value), ∃ (v5 : Value), ∃ (v6 : Value), ∃ (pp1 : Value × List Value), Sat c ⟨[(0, some vl1), (4, some (.pointer (some ⟨b1, 0, none⟩))), (5, some (vI i1)), (20, bif L 0 then some (.pointer (some ⟨b1, 0, none⟩)) else none), (21, bif L 1 then some (.pointer (some ⟨b1, 0, none⟩)) else none), (22, bif L 2 then some (.pointer (some ⟨b1, 0, none⟩)) else none), (23, bif L 3 then some (.pointer (some ⟨b1, 1, none⟩)) else none), (24, bif L 4 then some (v4) else none), (25, bif L 5 then some (vl1) else none), (26, bif L 6 then some (vI i1) else none), (27, bif L 7 then some (p1) else none), (28, bif L 8 then some (p2) else none), (29, bif L 9 then some (vU64 r1.Len) else none), (30, bif L 10 then some (v5) else none), (31, bif L 11 then some (v6) else none), (32, bif L 12 then some (pp1.1) else none)], [(some (Qm b1 152 [v3, v4]) : Option Res), (some (rowS Qz v3 l1) : Option Res), (bif L 12 then some (QV u8S false pp1.1 pp1.2 (rows1 ++ [List.replicate (Int.toNat (r1.Len.toNat : Int)) (0 : UInt8)]) none) else some (QV u8S false v4 vs1 rows1 none) : Option Res), (bif L 12 then none else bif L 10 then some (rowS u8S v5 (List.replicate (Int.toNat (r1.Len.toNat : Int)) (0 : UInt8))) else none : Option Res), (bif L 12 then none else bif L 11 then some (rowS valS v6 [v5]) else none : Option Res)], [Fact.sl Qz vl1 l, (bif L 7 then Fact.pt Qz p1 r1 else Fact.tt), (bif L 8 then Fact.pt u64S p2 r1.Len else Fact.tt)]⟩ a w) [([], []), ([], [2, 3, 4, 12]), ([1], [3, 4, 12]), ([1, 2], [4, 12]), ([1, 2, 3], [12]), ([], [7, 8, 9, 10, 11, 12]), ([], [7, 8, 9, 10, 11, 12]), ([5, 6], [8, 9, 10, 11, 12]), ([5, 6, 7], [9, 10, 11, 12]), ([5, 6, 7, 8], [10, 11, 12]), ([5, 6, 7, 8, 9], [11, 12]), ([5, 6, 7, 8, 9, 10], [12]), ([1, 2, 3, 4, 5, 6, 7, 8, 9, 10, 11], [])] rfl (by kernel_rfl) ?_ (Qb ?_ (Qb ?_ (Qb ?_ (Qb ?_ (Qb ?_ (Qb ?_ (Qb ?_ (Qb ?_ (Qb ?_ (Qb ?_ (Qb ?_ (Qb ?_ (Qb ?_ (QB)))))))))))))) ?_
   ·intro a w hs
    exact ⟨undef, undef, undef, undef, (undef, []), hs.startF [20, 21, 22, 23, 24, 25, 26, 27, 28, 29, 30, 31, 32] [0, 1, 2, 3, 4] [0, 1, 2] rfl rfl rfl rfl⟩
   ·intro L a w hv K Q hK
    obtain ⟨p1, p2, v5, v6, pp1, hs⟩ := hv
    exact wGo rfl rfl hs (Qk rfl rfl rfl rfl) fun a w hs => hK a w ⟨p1, p2, v5, v6, pp1, pF hs 3 [0, 1, 2, 3, 4] [0, 1, 2] rfl⟩
   ·intro L a w hv K Q hK
    obtain ⟨p1, p2, v5, v6, pp1, hs⟩ := hv
    exact wGo rfl rfl hs (Qk rfl rfl rfl rfl) fun a w hs => hK a w ⟨p1, p2, v5, v6, pp1, pF hs 4 [0, 1, 2, 3, 4] [0, 1, 2] rfl⟩
   ·intro L a w hv K Q hK
    obtain ⟨p1, p2, v5, v6, pp1, hs⟩ := hv
    exact wGo rfl rfl hs (Zt rfl rfl rfl rfl) fun a w hs => hK a w ⟨p1, p2, v5, v6, pp1, pF hs 5 [0, 1, 2, 3, 4] [0, 1, 2] rfl⟩
   ·intro L a w hv K Q hK
    obtain ⟨p1, p2, v5, v6, pp1, hs⟩ := hv
    exact wGo rfl rfl hs (Qi rfl rfl rfl rfl fldF152x1) fun a w hs => hK a w ⟨p1, p2, v5, v6, pp1, pF hs 6 [0, 1, 2, 3, 4] [0, 1, 2] rfl⟩
   ·intro L a w hv K Q hK
    obtain ⟨p1, p2, v5, v6, pp1, hs⟩ := hv
    exact wGo rfl rfl hs (Qj rfl rfl rfl rfl tyF111 (i := 0) rfl rfl) fun a w hs => hK a w ⟨p1, p2, v5, v6, pp1, pF hs 7 [0, 1, 2, 3, 4] [0, 1, 2] rfl⟩
   ·intro L a w hv K Q hK
    obtain ⟨p1, p2, v5, v6, pp1, hs⟩ := hv
    exact wGo rfl rfl hs (Qk rfl rfl rfl rfl) fun a w hs => hK a w ⟨p1, p2, v5, v6, pp1, pF hs 8 [0, 1, 2, 3, 4] [0, 1, 2] rfl⟩
   ·intro L a w hv K Q hK
    obtain ⟨p1, p2, v5, v6, pp1, hs⟩ := hv
    exact wGo rfl rfl hs (Qk rfl rfl rfl rfl) fun a w hs => hK a w ⟨p1, p2, v5, v6, pp1, pF hs 9 [0, 1, 2, 3, 4] [0, 1, 2] rfl⟩
   ·intro L a w hv K Q hK
    obtain ⟨p1, p2, v5, v6, pp1, hs⟩ := hv
    refine QO rfl rfl hs (Zb rfl rfl rfl rfl rfl slF54 (i := 0) rfl hx2) ?_
    rintro _ ⟨p1', rfl⟩ a' w' hs'
    exact hK a' w' ⟨p1', p2, v5, v6, pp1, hs'.putF (i := 10) rfl [0, 1, 2, 3, 4] [0, 3, 2] rfl rfl rfl rfl⟩
   ·intro L a w hv K Q hK
    obtain ⟨p1, p2, v5, v6, pp1, hs⟩ := hv
    refine QO rfl rfl hs (Zg (S' := u64S) (y := r1.Len) rfl rfl rfl rfl Yd (i := 1) rfl (by intro h cs hr; subst hr; rfl)) ?_
    rintro _ ⟨p2', rfl⟩ a' w' hs'
    exact hK a' w' ⟨p1, p2', v5, v6, pp1, hs'.putF (i := 11) rfl [0, 1, 2, 3, 4] [0, 1, 3] rfl rfl rfl rfl⟩
   ·intro L a w hv K Q hK
    obtain ⟨p1, p2, v5, v6, pp1, hs⟩ := hv
    exact wGo rfl rfl hs (Zj rfl rfl rfl rfl QZ (i := 2) rfl rfl) fun a w hs => hK a w ⟨p1, p2, v5, v6, pp1, pF hs 12 [0, 1, 2, 3, 4] [0, 1, 2] rfl⟩
   ·intro L a w hv K Q hK
    obtain ⟨p1, p2, v5, v6, pp1, hs⟩ := hv
    refine QO rfl rfl hs (OpT_makeK u8S rfl (u := (0 : UInt8)) rfl rfl rfl rfl rfl slF39 rfl hc2) ?_
    rintro _ ⟨v5', rfl⟩ a' w' hs'
    exact hK a' w' ⟨p1, p2, v5', v6, pp1, hs'.putF (i := 13) rfl [0, 1, 2, 5, 4] [0, 1, 2] rfl rfl rfl rfl⟩
   ·intro L a w hv K Q hK
    obtain ⟨p1, p2, v5, v6, pp1, hs⟩ := hv
    refine QO rfl rfl hs (OpT_buildV (u := v5) rfl rfl rfl rfl slF111 (i := 3) rfl) ?_
    rintro _ ⟨v6', rfl⟩ a' w' hs'
    exact hK a' w' ⟨p1, p2, v5, v6', pp1, hs'.putF (i := 14) rfl [0, 1, 2, 3, 5] [0, 1, 2] rfl rfl rfl rfl⟩
   ·intro L a w hv K Q hK
    obtain ⟨p1, p2, v5, v6, pp1, hs⟩ := hv
    refine QO rfl rfl hs (OpT_appendRows (u := v5) rfl rfl rfl rfl rfl slF111 (i := 2) (j := 4) (q := 3) rfl rfl rfl rfl rfl rfl hc3) ?_
    rintro _ ⟨pp1', rfl⟩ a' w' hs'
    exact hK a' w' ⟨p1, p2, v5, v6, pp1', hs'.putF (i := 15) rfl [0, 1, 2, 3, 4] [0, 1, 2] rfl rfl rfl rfl⟩
   ·intro L a w hL hv
    rw [QM hL] at hv
    obtain ⟨p1, p2, v5, v6, pp1, hs⟩ := hv
    refine gZ hs [0, 4, 5, 20, 32] [0, 1, 2] [0] rfl rfl rfl rfl ?_
    clear hs hL
    refine Qx htb (by kernel_rfl) rfl rfl (Zt rfl rfl rfl rfl) ?_
    refine Qx htb (by kernel_rfl) rfl rfl (Qi rfl rfl rfl rfl fldF152x1) ?_
    refine Qx htb (by kernel_rfl) rfl rfl (Ym (cs' := [v3, pp1.1]) rfl rfl rfl rfl tyF111 (i := 0) rfl (is_rows (i := 2) rfl) rfl rfl) ?_
    refine Zh rfl ?_
    refine tZ [0, 4, 5] [0, 1, 2] [0] rfl rfl rfl rfl ?_
    refine Zx (Qc (sMv rfl rfl rfl ?_))
    refine Qa rfl (Qf rfl rfl rfl rfl rfl (QG (a := i1) (b := (1 : Int)))) ?_
    refine sAs rfl rfl rfl ?_
    refine Qd (tZ [0, 4, 5] [0, 1, 2] [0] rfl rfl rfl rfl ?_)
    exact QY (l1, rows1 ++ [List.replicate (Int.toNat (r1.Len.toNat : Int)) (0 : UInt8)], wi (i1 + (1 : Int)), v3, pp1.1, pp1.2) h [0, 4, 5] [0, 1, 2] [0] rfl rfl rfl rfl rfl
  ·replace h := br_f hg2 h
   refine Qp (cgb hg2) ?_
   refine Zv _ rfl ?_
   refine Qe (Qc (sMv rfl rfl rfl ?_))
   refine sAs rfl rfl rfl ?_
   refine sAs rfl rfl rfl ?_
   refine Qd (tZ [2, 3] [0, 1, 2] [] rfl rfl rfl rfl ?_)
   refine Tk_retire (i := 1) rfl ?_
   refine Tk_vs (vs_fold (fl := dumbwaiterref02_Mem.L) (fb := dumbwaiterref02_Mem.B) (dumbwaiterref02_Mem.mk l1 rows1) (i := 0) (j := 2) rfl rfl rfl (q := 0) rfl rfl rfl) ?_
   obtain rfl := Option.some.inj h
   exact Qn rfl rfl (resA (vs := [.pointer (some ⟨b1, 0, none⟩), vI (0 : Int)]) rfl ⟨rfl, rfl, trivial⟩) [0] [] rfl rfl rfl ⟨(.pointer (some ⟨b1, 0, none⟩)), rfl, rfl, rfl⟩

set_option maxRecDepth 100000 in
set_option maxHeartbeats 4000000 in
theorem w_ref_Mem_find02 {m : dumbwaiterref02_Mem} {atp1 : UInt64} {np2 : UInt64} {b_m : Nat} {vm1 : Value} {vm2 : Value} {vsm1 : List Value} {r : (Int × Int)} (h : Kv m atp1 np2 = some r) :
  Ctr Try.prog 79 #[.pointer (some ⟨b_m, 0, none⟩), vU64 atp1, vU64 np2] [(Qm b_m 152 [vm1, vm2]), (QV u8S false vm2 vsm1 m.B none)] [Fact.sl Qz vm1 m.L]
   (fun rv own shr => rv = .tuple #[vI r.1, vI r.2] ∧ own = [(Qm b_m 152 [vm1, vm2]), (QV u8S false vm2 vsm1 m.B none)] ∧ shr = []) := by
 unfold Kv at h
 refine Ctr.mk (args := [.pointer (some ⟨b_m, 0, none⟩), vU64 atp1, vU64 np2]) Try.func79 rfl rfl (fun R0 w0 B => ?_)
 refine Qe (Qc (sAs rfl rfl rfl ?_))
 refine sAs rfl rfl rfl ?_
 refine Qd (tZ [0, 1, 2] [0, 1] [0] rfl rfl rfl rfl ?_)
 refine Qe (Qe (Qc (sAs rfl rfl rfl ?_)))
 refine Qd (QC (Zf (σ := Int) [0, 1, 2, 8] [0, 1] [0] (fun s => ⟨[(0, some (.pointer (some ⟨b_m, 0, none⟩))), (1, some (vU64 atp1)), (2, some (vU64 np2)), (8, some (vI s))], [some (Qm b_m 152 [vm1, vm2]), some (QV u8S false vm2 vsm1 m.B none)], [Fact.sl Qz vm1 m.L]⟩) (fun nf1 s => Xt m atp1 np2 nf1 s = some r) fuel (0 : Int) h rfl rfl rfl rfl rfl (fun s h => by cases h) ?_))
 rintro nf1 i1 h
 replace h : Kd m atp1 np2 (Xt m atp1 np2 nf1) i1 = some r := h
 unfold Kd at h
 refine Qe (Qe (Qc (sMv rfl rfl rfl ?_)))
 refine sMv rfl rfl rfl ?_
 refine Qa rfl (Zt rfl rfl rfl rfl) ?_
 refine Qa rfl (Qi rfl rfl rfl rfl fldF152x0) ?_
 refine Qa rfl (Qj rfl rfl rfl rfl tyF54 (i := 0) rfl rfl) ?_
 refine Qa rfl (QT rfl rfl rfl rfl Try.underlying54 (i := 0) rfl) ?_
 refine Qa rfl (Qf rfl rfl rfl rfl rfl (QI (a := i1) (b := len m.L))) ?_
 refine Qd (tZ [0, 1, 2, 8, 16] [0, 1] [0] rfl rfl rfl rfl ?_)
 rcases bC (decide (i1 < (len m.L))) with hg1 | hg1
 ·replace h := br_t hg1 h
  refine Ql (cgb hg1) ?_
  refine Qt (Qe (QC (Qe (Qc (sMv rfl rfl rfl ?_)))))
  refine Qa rfl (Zt rfl rfl rfl rfl) ?_
  refine Qa rfl (Qi rfl rfl rfl rfl fldF152x0) ?_
  refine Qa rfl (Qj rfl rfl rfl rfl tyF54 (i := 0) rfl rfl) ?_
  refine sMv rfl rfl rfl ?_
  obtain ⟨r1, hx1, h⟩ := ob_e h
  refine Qu rfl (Zb rfl rfl rfl rfl rfl slF54 (i := 0) rfl hx1) fun p1 => ?_
  refine Qa rfl (Xs (vs := [vU64 r1.At, vU64 r1.Len]) rfl rfl rfl rfl tyF53 (i := 1) rfl rfl) ?_
  refine Qu rfl (QD rfl rfl rfl tyZ53) fun b1 => ?_
  refine Qa rfl (Qo (cs' := [vU64 r1.At, vU64 r1.Len]) rfl rfl rfl rfl tyF53 (i := 2) rfl rfl rfl (QF rfl) rfl) ?_
  refine Qd (tZ [0, 1, 2, 8, 9] [0, 1, 2] [0] rfl rfl rfl rfl ?_)
  refine Qe (Qc (sMv rfl rfl rfl ?_))
  refine Qa rfl (Qf rfl rfl rfl rfl rfl (bin_geq_u64 (a := np2) (b := (1 : UInt64)))) ?_
  refine sMv rfl rfl rfl ?_
  rcases bC (decide (np2 ≥ (1 : UInt64))) with hg2 | hg2
  ·replace h := br_t hg2 h
   refine Qh rfl rfl (cgb hg2) (Qk rfl rfl rfl rfl) ?_
   rintro _ rfl
   refine Qh rfl rfl (cgb hg2) (Qi rfl rfl rfl rfl Yy) ?_
   rintro _ rfl
   refine Qh rfl rfl (cgb hg2) (Qj rfl rfl rfl rfl QZ (i := 2) rfl rfl) ?_
   rintro _ rfl
   refine Qh rfl rfl (cgb hg2) (Qf rfl rfl rfl rfl rfl (bin_geq_u64 (a := atp1) (b := r1.At))) ?_
   rintro _ rfl
   refine Qa rfl (Qr rfl rfl rfl (cgb hg2) rfl) ?_
   refine sMv rfl rfl rfl ?_
   rcases bC (decide (atp1 ≥ r1.At)) with hg3 | hg3
   ·replace h := br_t hg3 h
    refine Qh rfl rfl (cgb hg3) (Qk rfl rfl rfl rfl) ?_
    rintro _ rfl
    refine Qh rfl rfl (cgb hg3) (Qi rfl rfl rfl rfl Yd) ?_
    rintro _ rfl
    refine Qh rfl rfl (cgb hg3) (Qj rfl rfl rfl rfl QZ (i := 2) rfl rfl) ?_
    rintro _ rfl
    refine Qh rfl rfl (cgb hg3) (Qf rfl rfl rfl rfl rfl (bin_leq_u64 (a := np2) (b := r1.Len))) ?_
    rintro _ rfl
    refine Qa rfl (Qr rfl rfl rfl (cgb hg3) rfl) ?_
    refine sMv rfl rfl rfl ?_
    rcases bC (decide (np2 ≤ r1.Len)) with hg4 | hg4
    ·replace h := br_t hg4 h
     refine Qh rfl rfl (cgb hg4) (Qk rfl rfl rfl rfl) ?_
     rintro _ rfl
     refine Qh rfl rfl (cgb hg4) (Qi rfl rfl rfl rfl Yy) ?_
     rintro _ rfl
     refine Qh rfl rfl (cgb hg4) (Qj rfl rfl rfl rfl QZ (i := 2) rfl rfl) ?_
     rintro _ rfl
     refine Qh rfl rfl (cgb hg4) (Qf rfl rfl rfl rfl rfl (Zc (a := atp1) (b := r1.At))) ?_
     rintro _ rfl
     refine Qh rfl rfl (cgb hg4) (Qi rfl rfl rfl rfl Yd) ?_
     rintro _ rfl
     refine Qh rfl rfl (cgb hg4) (Qj rfl rfl rfl rfl QZ (i := 2) rfl rfl) ?_
     rintro _ rfl
     refine Qh rfl rfl (cgb hg4) (Qk rfl rfl rfl rfl) ?_
     rintro _ rfl
     refine Qh rfl rfl (cgb hg4) (Qf rfl rfl rfl rfl rfl (Zc (a := r1.Len) (b := np2))) ?_
     rintro _ rfl
     refine Qh rfl rfl (cgb hg4) (Qf rfl rfl rfl rfl rfl (bin_leq_u64 (a := atp1 - r1.At) (b := r1.Len - np2))) ?_
     rintro _ rfl
     refine Qa rfl (Qr rfl rfl rfl (cgb hg4) rfl) ?_
     refine Qd (tZ [0, 1, 2, 8, 9, 50] [0, 1, 2] [0] rfl rfl rfl rfl ?_)
     rcases bC (decide ((atp1 - r1.At) ≤ (r1.Len - np2))) with hg5 | hg5
     ·replace h := br_t hg5 h
      refine Ql (cgb hg5) ?_
      refine Qe (QU (by kernel_rfl) ?_)
      refine Xn [0, 0, 0, 4, 14, 30, 1, 127] (by kernel_rfl) fun htb => ?_
      refine aZ [1, 8, 9] [0, 1, 2] [0] rfl rfl rfl rfl ?_
      refine QW (lo := 0) (hi := 7) htb rfl rfl (by kernel_rfl) (fun c L a w => Sat c ⟨[(1, some (vU64 atp1)), (8, some (vI i1)), (9, some (.pointer (some ⟨b1, 0, none⟩))), (51, bif L 0 then some (vI i1) else none), (52, bif L 1 then some (vU64 atp1) else none), (53, bif L 2 then some (.pointer (some ⟨b1, 0, none⟩)) else none), (54, bif L 3 then some (vU64 r1.At) else none), (55, bif L 4 then some (vU64 (atp1 - r1.At)) else none), (56, bif L 5 then some (vI (i64 (atp1 - r1.At))) else none), (6, bif L 6 then some (vI i1) else none)], [(some (Qm b_m 152 [vm1, vm2]) : Option Res), (some (QV u8S false vm2 vsm1 m.B none) : Option Res), (some (Qm b1 53 [vU64 r1.At, vU64 r1.Len]) : Option Res)], [Fact.sl Qz vm1 m.L]⟩ a w) [([], [6]), ([], [4, 5]), ([], [3, 4, 5]), ([2], [4, 5]), ([1, 2, 3], [5]), ([1, 2, 3, 4], []), ([0], [])] rfl (by kernel_rfl) ?_ (Qb ?_ (Qb ?_ (Qb ?_ (Qb ?_ (Qb ?_ (Qb ?_ (Qb ?_ (QB)))))))) ?_
      ·intro a w hs
       exact hs.startF [51, 52, 53, 54, 55, 56, 6] [0, 1, 2] [0] rfl rfl rfl rfl
      ·intro L a w hs K Q hK
       exact wGo rfl rfl hs (Qk rfl rfl rfl rfl) fun a w hs => hK a w (pF hs 3 [0, 1, 2] [0] rfl)
      ·intro L a w hs K Q hK
       exact wGo rfl rfl hs (Qk rfl rfl rfl rfl) fun a w hs => hK a w (pF hs 4 [0, 1, 2] [0] rfl)
      ·intro L a w hs K Q hK
       exact wGo rfl rfl hs (Qi rfl rfl rfl rfl Yy) fun a w hs => hK a w (pF hs 5 [0, 1, 2] [0] rfl)
      ·intro L a w hs K Q hK
       exact wGo rfl rfl hs (Qj rfl rfl rfl rfl QZ (i := 2) rfl rfl) fun a w hs => hK a w (pF hs 6 [0, 1, 2] [0] rfl)
      ·intro L a w hs K Q hK
       exact wGo rfl rfl hs (Qf rfl rfl rfl rfl rfl (Zc (a := atp1) (b := r1.At))) fun a w hs => hK a w (pF hs 7 [0, 1, 2] [0] rfl)
      ·intro L a w hs K Q hK
       exact wGo rfl rfl hs (QX rfl rfl rfl rfl (cnv_u64_i (n := atp1 - r1.At) Try.underlying27 Try.underlying3)) fun a w hs => hK a w (pF hs 8 [0, 1, 2] [0] rfl)
      ·intro L a w hs K Q hK
       exact wGo rfl rfl hs (QN rfl rfl rfl rfl) fun a w hs => hK a w (pF hs 9 [0, 1, 2] [0] rfl)
      ·intro L a w hL hv
       rw [QM hL] at hv
       have hs := hv
       refine gZ hs [56, 6] [0, 1] [0] rfl rfl rfl rfl ?_
       clear hs hL
       refine Qx htb (by kernel_rfl) rfl rfl (QN rfl rfl rfl rfl) ?_
       refine Zh rfl ?_
       refine tZ [6, 7] [0, 1] [0] rfl rfl rfl rfl ?_
       obtain rfl := Option.some.inj h
       exact Qn rfl rfl (resA (vs := [vI i1, vI (i64 (atp1 - r1.At))]) rfl ⟨rfl, rfl, trivial⟩) [0, 1] [] rfl rfl rfl ⟨rfl, rfl, rfl⟩
     ·replace h := br_f hg5 h
      refine Qp (cgb hg5) ?_
      refine Qt (Zx (Qc (sMv rfl rfl rfl ?_)))
      refine Qa rfl (Qf rfl rfl rfl rfl rfl (QG (a := i1) (b := (1 : Int)))) ?_
      refine sAs rfl rfl rfl ?_
      refine Qd (tZ [0, 1, 2, 8] [0, 1] [0] rfl rfl rfl rfl ?_)
      exact QY (wi (i1 + (1 : Int))) h [0, 1, 2, 8] [0, 1] [0] rfl rfl rfl rfl rfl
    ·replace h := br_f hg4 h
     refine Qg rfl rfl (cgb hg4) rfl rfl ?_
     refine Qg rfl rfl (cgb hg4) rfl rfl ?_
     refine Qg rfl rfl (cgb hg4) rfl rfl ?_
     refine Qg rfl rfl (cgb hg4) rfl rfl ?_
     refine Qg rfl rfl (cgb hg4) rfl rfl ?_
     refine Qg rfl rfl (cgb hg4) rfl rfl ?_
     refine Qg rfl rfl (cgb hg4) rfl rfl ?_
     refine Qg rfl rfl (cgb hg4) rfl rfl ?_
     refine Qg rfl rfl (cgb hg4) rfl rfl ?_
     refine Qa rfl (Qw rfl rfl rfl (cgb hg4) rfl) ?_
     refine Qd (tZ [0, 1, 2, 8, 9, 50] [0, 1, 2] [0] rfl rfl rfl rfl ?_)
     refine Qp rfl ?_
     refine Qt (Zx (Qc (sMv rfl rfl rfl ?_)))
     refine Qa rfl (Qf rfl rfl rfl rfl rfl (QG (a := i1) (b := (1 : Int)))) ?_
     refine sAs rfl rfl rfl ?_
     refine Qd (tZ [0, 1, 2, 8] [0, 1] [0] rfl rfl rfl rfl ?_)
     exact QY (wi (i1 + (1 : Int))) h [0, 1, 2, 8] [0, 1] [0] rfl rfl rfl rfl rfl
   ·replace h := br_f hg3 h
    refine Qg rfl rfl (cgb hg3) rfl rfl ?_
    refine Qg rfl rfl (cgb hg3) rfl rfl ?_
    refine Qg rfl rfl (cgb hg3) rfl rfl ?_
    refine Qg rfl rfl (cgb hg3) rfl rfl ?_
    refine Qa rfl (Qw rfl rfl rfl (cgb hg3) rfl) ?_
    refine sMv rfl rfl rfl ?_
    refine Qg rfl rfl rfl rfl rfl ?_
    refine Qg rfl rfl rfl rfl rfl ?_
    refine Qg rfl rfl rfl rfl rfl ?_
    refine Qg rfl rfl rfl rfl rfl ?_
    refine Qg rfl rfl rfl rfl rfl ?_
    refine Qg rfl rfl rfl rfl rfl ?_
    refine Qg rfl rfl rfl rfl rfl ?_
    refine Qg rfl rfl rfl rfl rfl ?_
    refine Qg rfl rfl rfl rfl rfl ?_
    refine Qa rfl (Qw rfl rfl rfl rfl rfl) ?_
    refine Qd (tZ [0, 1, 2, 8, 9, 50] [0, 1, 2] [0] rfl rfl rfl rfl ?_)
    refine Qp rfl ?_
    refine Qt (Zx (Qc (sMv rfl rfl rfl ?_)))
    refine Qa rfl (Qf rfl rfl rfl rfl rfl (QG (a := i1) (b := (1 : Int)))) ?_
    refine sAs rfl rfl rfl ?_
    refine Qd (tZ [0, 1, 2, 8] [0, 1] [0] rfl rfl rfl rfl ?_)
    exact QY (wi (i1 + (1 : Int))) h [0, 1, 2, 8] [0, 1] [0] rfl rfl rfl rfl rfl
  ·replace h := br_f hg2 h
   refine Qg rfl rfl (cgb hg2) rfl rfl ?_
   refine Qg rfl rfl (cgb hg2) rfl rfl ?_
   refine Qg rfl rfl (cgb hg2) rfl rfl ?_
   refine Qg rfl rfl (cgb hg2) rfl rfl ?_
   refine Qa rfl (Qw rfl rfl rfl (cgb hg2) rfl) ?_
   refine sMv rfl rfl rfl ?_
   refine Qg rfl rfl rfl rfl rfl ?_
   refine Qg rfl rfl rfl rfl rfl ?_
   refine Qg rfl rfl rfl rfl rfl ?_
   refine Qg rfl rfl rfl rfl rfl ?_
   refine Qa rfl (Qw rfl rfl rfl rfl rfl) ?_
   refine sMv rfl rfl rfl ?_
   refine Qg rfl rfl rfl rfl rfl ?_
   refine Qg rfl rfl rfl rfl rfl ?_
   refine Qg rfl rfl rfl rfl rfl ?_
   refine Qg rfl rfl rfl rfl rfl ?_
   refine Qg rfl rfl rfl rfl rfl ?_
   refine Qg rfl rfl rfl rfl rfl ?_
   refine Qg rfl rfl rfl rfl rfl ?_
   refine Qg rfl rfl rfl rfl rfl ?_
   refine Qg rfl rfl rfl rfl rfl ?_
   refine Qa rfl (Qw rfl rfl rfl rfl rfl) ?_
   refine Qd (tZ [0, 1, 2, 8, 9, 50] [0, 1, 2] [0] rfl rfl rfl rfl ?_)
   refine Qp rfl ?_
   refine Qt (Zx (Qc (sMv rfl rfl rfl ?_)))
   refine Qa rfl (Qf rfl rfl rfl rfl rfl (QG (a := i1) (b := (1 : Int)))) ?_
   refine sAs rfl rfl rfl ?_
   refine Qd (tZ [0, 1, 2, 8] [0, 1] [0] rfl rfl rfl rfl ?_)
   exact QY (wi (i1 + (1 : Int))) h [0, 1, 2, 8] [0, 1] [0] rfl rfl rfl rfl rfl
 ·replace h := br_f hg1 h
  refine Qp (cgb hg1) ?_
  refine Zv _ rfl ?_
  refine Qe (Qc (sAs rfl rfl rfl ?_))
  refine sAs rfl rfl rfl ?_
  refine Qd (tZ [6, 7] [0, 1] [0] rfl rfl rfl rfl ?_)
  obtain rfl := Option.some.inj h
  exact Qn rfl rfl (resA (vs := [vI ((-1) : Int), vI (0 : Int)]) rfl ⟨rfl, rfl, trivial⟩) [0, 1] [] rfl rfl rfl ⟨rfl, rfl, rfl⟩

set_option maxRecDepth 100000 in
set_option maxHeartbeats 4000000 in
theorem w_ref_Mem_Write02 {m : dumbwaiterref02_Mem} {atp1 : UInt64} {b : List UInt8} {b_m : Nat} {vm1 : Value} {vm2 : Value} {vsm1 : List Value} {vb1 : Value} {r : (Int × (List (List UInt8)))} (h : Yi m atp1 b = some r) :
  Ctr Try.prog 36 #[.pointer (some ⟨b_m, 0, none⟩), vU64 atp1, vb1] [(Qm b_m 152 [vm1, vm2]), (QV u8S false vm2 vsm1 m.B none)] [Fact.sl Qz vm1 m.L, Fact.sl u8S vb1 b]
   (fun rv own shr => rv = vI r.1 ∧ own = [(Qm b_m 152 [vm1, vm2]), (QV u8S false vm2 vsm1 r.2 none)] ∧ shr = []) := by
 unfold Yi at h
 refine Ctr.mk (args := [.pointer (some ⟨b_m, 0, none⟩), vU64 atp1, vb1]) Try.func36 rfl rfl (fun R0 w0 B => ?_)
 refine Qe (Qc (sAs rfl rfl rfl ?_))
 refine Qd (tZ [0, 1, 2] [0, 1] [0, 1] rfl rfl rfl rfl ?_)
 refine Qe (Qe (Qc (sMv rfl rfl rfl ?_)))
 refine Qa rfl (QT rfl rfl rfl rfl Try.underlying39 (i := 1) rfl) ?_
 refine Qa rfl (Qf rfl rfl rfl rfl rfl (ZG (a := len b) (b := (0 : Int)))) ?_
 refine Qd (tZ [0, 1, 2, 11] [0, 1] [0, 1] rfl rfl rfl rfl ?_)
 rcases bC ((len b) == (0 : Int)) with hg1 | hg1
 ·replace h := br_t hg1 h
  refine Ql (cgb hg1) ?_
  refine Qe (Qc (sAs rfl rfl rfl ?_))
  refine Qd (tZ [6] [0, 1] [0] rfl rfl rfl rfl ?_)
  obtain rfl := Option.some.inj h
  exact Qn rfl rfl (resA (vs := [vI (0 : Int)]) rfl ⟨rfl, trivial⟩) [0, 1] [] rfl rfl rfl ⟨rfl, rfl, rfl⟩
 ·replace h := br_f hg1 h
  refine Qp (cgb hg1) ?_
  refine Qt (Qe (Qc (sMv rfl rfl rfl ?_)))
  refine sMv rfl rfl rfl ?_
  refine sMv rfl rfl rfl ?_
  refine Qa rfl (QT rfl rfl rfl rfl Try.underlying39 (i := 1) rfl) ?_
  refine Qa rfl (QX rfl rfl rfl rfl (Xw (n := len b) Try.underlying3 Try.underlying27)) ?_
  obtain ⟨find1, hx1, h⟩ := ob_e h
  refine Qs rfl (QJ [2, 3] (w_ref_Mem_find02 hx1) [0, 1] [0] rfl rfl rfl rfl rfl callee79 rfl rfl rfl rfl rfl) ?_
  rintro _ ⟨_, _, _, ⟨rfl, rfl, rfl⟩, rfl⟩
  refine sMv rfl rfl rfl ?_
  refine Qa rfl (Qq rfl rfl rfl rfl rfl) ?_
  refine Qa rfl (Qq rfl rfl rfl rfl rfl) ?_
  refine sAs rfl rfl rfl ?_
  refine sAs rfl rfl rfl ?_
  refine Qd (tZ [0, 2, 7, 8] [0, 1] [0, 1] rfl rfl rfl rfl ?_)
  refine Qe (Qe (Qc (sMv rfl rfl rfl ?_)))
  refine Qa rfl (Qf rfl rfl rfl rfl rfl (QI (a := find1.1) (b := (0 : Int)))) ?_
  refine Qd (tZ [0, 2, 7, 8, 22] [0, 1] [0, 1] rfl rfl rfl rfl ?_)
  rcases bC (decide (find1.1 < (0 : Int))) with hg2 | hg2
  ·replace h := br_t hg2 h
   refine Ql (cgb hg2) ?_
   refine Qe (Qc (sAs rfl rfl rfl ?_))
   refine Qd (tZ [6] [0, 1] [0] rfl rfl rfl rfl ?_)
   obtain rfl := Option.some.inj h
   exact Qn rfl rfl (resA (vs := [vI (5 : Int)]) rfl ⟨rfl, trivial⟩) [0, 1] [] rfl rfl rfl ⟨rfl, rfl, rfl⟩
  ·replace h := br_f hg2 h
   refine Qp (cgb hg2) ?_
   refine Qt (Qe (Qc (sMv rfl rfl rfl ?_)))
   refine Qa rfl (Zt rfl rfl rfl rfl) ?_
   refine Qa rfl (Qi rfl rfl rfl rfl fldF152x1) ?_
   refine Qa rfl (Qj rfl rfl rfl rfl tyF111 (i := 0) rfl rfl) ?_
   refine sMv rfl rfl rfl ?_
   obtain ⟨row1, hx2, h⟩ := ob_e h
   refine Qa rfl (OpT_idxRows rfl rfl rfl rfl rfl slF111 (i := 1) rfl hx2) ?_
   refine Yb (vs_focus (i := 1) (j := find1.1) rfl hx2) ?_
   refine Qa rfl (OpT_loadRow (m := find1.1) rfl rfl rfl rfl tyF39 (i := 1) rfl) ?_
   refine sMv rfl rfl rfl ?_
   obtain ⟨hc1, h⟩ := ZK h
   refine Qa rfl (OpT_subL (S := u8S) (l := find1.2) rfl rfl rfl rfl rfl slF39 (i := 2) rfl hc1) ?_
   refine sMv rfl rfl rfl ?_
   refine Qa rfl (OpT_copyS (S := u8S) (l := find1.2) (m := (len row1)) rfl rfl rfl rfl rfl rfl slF39 (i := 2) (j := 1) rfl rfl hc1) ?_
   refine Qd (tZ [] [0, 1, 2] [0] rfl rfl rfl rfl ?_)
   refine Tk_vs (vs_unfocus (i := 1) (q := 2) rfl rfl rfl) ?_
   refine Qe (Qc (sAs rfl rfl rfl ?_))
   refine Qd (tZ [6] [0, 1] [0] rfl rfl rfl rfl ?_)
   obtain rfl := Option.some.inj h
   exact Qn rfl rfl (resA (vs := [vI (0 : Int)]) rfl ⟨rfl, trivial⟩) [0, 1] [] rfl rfl rfl ⟨rfl, rfl, rfl⟩

set_option maxRecDepth 100000 in
set_option maxHeartbeats 4000000 in
theorem w_ref_PackedBytes03 {dp0 : Packed} {r : (List UInt8)} (h : Xc dp0 = some r) :
  Ctr Try.prog 32 #[.agg #[vU64 dp0.Addr, vU32 dp0.Len, vU16 dp0.ID, vU16 dp0.Flags]] [] []
   (fun rv own shr => ∃ (w1 : Value), rv = w1 ∧ own = [(rowS u8S w1 r)] ∧ shr = []) := by
 unfold Xc at h
 refine Ctr.mk (args := [.agg #[vU64 dp0.Addr, vU32 dp0.Len, vU16 dp0.ID, vU16 dp0.Flags]]) Try.func32 rfl rfl (fun R0 w0 B => ?_)
 refine Qe (Qc (Qu rfl (ZA rfl rfl rfl rfl) fun b1 => ?_))
 refine sAs rfl rfl rfl ?_
 refine Qd (tZ [1] [0] [] rfl rfl rfl rfl ?_)
 refine Qe (QU (by kernel_rfl) ?_)
 refine Xn [0, 1, 3, 0, 8, 24, 63, 0, 128, 384, 1023, 0, 2048, 6144, 16383, 32767] (by kernel_rfl) fun htb => ?_
 refine TA_nilrow u8S ?_
 obtain ⟨put1, hx1, h⟩ := ob_e h
 obtain ⟨put2, hx2, h⟩ := ob_e h
 obtain ⟨put3, hx3, h⟩ := ob_e h
 refine QW (lo := 0) (hi := 14) htb rfl rfl (by kernel_rfl) (fun c L a w => ∃ (v1 : Value), ∃ (v2 : Value), ∃ (v3 : Value), Sat c ⟨[(1, some (.pointer (some ⟨b1, 0, none⟩))), (3, bif L 0 then some (.pointer (some ⟨b1, 0, none⟩)) else none), (4, bif L 1 then some (vU64 dp0.Addr) else none), (5, bif L 2 then some (v1) else none), (6, bif L 3 then some (.pointer (some ⟨b1, 1, none⟩)) else none), (7, bif L 4 then some (vU32 dp0.Len) else none), (8, bif L 5 then some (vU64 dp0.Len.toUInt64) else none), (9, bif L 6 then some (v2) else none), (10, bif L 7 then some (.pointer (some ⟨b1, 2, none⟩)) else none), (11, bif L 8 then some (vU16 dp0.ID) else none), (12, bif L 9 then some (vU64 dp0.ID.toUInt64) else none), (13, bif L 10 then some (v3) else none), (14, bif L 11 then some (.pointer (some ⟨b1, 3, none⟩)) else none), (15, bif L 12 then some (vU16 dp0.Flags) else none), (16, bif L 13 then some (vU64 dp0.Flags.toUInt64) else none)], [(some (Qm b1 87 [vU64 dp0.Addr, vU32 dp0.Len, vU16 dp0.ID, vU16 dp0.Flags]) : Option Res), (bif L 2 then none else some (rowS u8S (.slice none 0 0) ([] : List UInt8)) : Option Res), (bif L 6 then none else bif L 2 then some (rowS u8S v1 put1) else none : Option Res), (bif L 10 then none else bif L 6 then some (rowS u8S v2 put2) else none : Option Res), (bif L 10 then some (rowS u8S v3 put3) else none : Option Res)], []⟩ a w) [([], [1, 2, 6, 10]), ([0], [2, 6, 10]), ([0, 1], [6, 10]), ([], [4, 5, 6, 10]), ([3], [5, 6, 10]), ([3, 4], [6, 10]), ([0, 1, 2, 3, 4, 5], [10]), ([], [8, 9, 10]), ([7], [9, 10]), ([7, 8], [10]), ([0, 1, 2, 3, 4, 5, 6, 7, 8, 9], []), ([], [12, 13]), ([11], [13]), ([11, 12], [])] rfl (by kernel_rfl) ?_ (Qb ?_ (Qb ?_ (Qb ?_ (Qb ?_ (Qb ?_ (Qb ?_ (Qb ?_ (Qb ?_ (Qb ?_ (Qb ?_ (Qb ?_ (Qb ?_ (Qb ?_ (Qb ?_ (QB))))))))))))))) ?_
 ·intro a w hs
  exact ⟨undef, undef, undef, hs.startF [3, 4, 5, 6, 7, 8, 9, 10, 11, 12, 13, 14, 15, 16] [0, 1, 2, 3, 4] [] rfl rfl rfl rfl⟩
 ·intro L a w hv K Q hK
  obtain ⟨v1, v2, v3, hs⟩ := hv
  exact wGo rfl rfl hs (Qi rfl rfl rfl rfl fldF87x0) fun a w hs => hK a w ⟨v1, v2, v3, pF hs 1 [0, 1, 2, 3, 4] [] rfl⟩
 ·intro L a w hv K Q hK
  obtain ⟨v1, v2, v3, hs⟩ := hv
  exact wGo rfl rfl hs (Qj rfl rfl rfl rfl QZ (i := 0) rfl rfl) fun a w hs => hK a w ⟨v1, v2, v3, pF hs 2 [0, 1, 2, 3, 4] [] rfl⟩
 ·intro L a w hv K Q hK
  obtain ⟨v1, v2, v3, hs⟩ := hv
  refine QO rfl rfl hs (Qv (YS hx1) [1] [] rfl rfl rfl rfl rfl callee39 rfl rfl rfl rfl) ?_
  rintro _ ⟨v1', _, _, ⟨_, rfl, rfl, rfl⟩, rfl⟩ a' w' hs'
  exact hK a' w' ⟨v1', v2, v3, hs'.putF (i := 3) rfl [0, 1, 5, 3, 4] [] rfl rfl rfl rfl⟩
 ·intro L a w hv K Q hK
  obtain ⟨v1, v2, v3, hs⟩ := hv
  exact wGo rfl rfl hs (Qi rfl rfl rfl rfl fldF87x1) fun a w hs => hK a w ⟨v1, v2, v3, pF hs 4 [0, 1, 2, 3, 4] [] rfl⟩
 ·intro L a w hv K Q hK
  obtain ⟨v1, v2, v3, hs⟩ := hv
  exact wGo rfl rfl hs (Qj rfl rfl rfl rfl tyF33 (i := 0) rfl rfl) fun a w hs => hK a w ⟨v1, v2, v3, pF hs 5 [0, 1, 2, 3, 4] [] rfl⟩
 ·intro L a w hv K Q hK
  obtain ⟨v1, v2, v3, hs⟩ := hv
  exact wGo rfl rfl hs (QX rfl rfl rfl rfl (XM (n := dp0.Len) Try.underlying33 Try.underlying27)) fun a w hs => hK a w ⟨v1, v2, v3, pF hs 6 [0, 1, 2, 3, 4] [] rfl⟩
 ·intro L a w hv K Q hK
  obtain ⟨v1, v2, v3, hs⟩ := hv
  refine QO rfl rfl hs (Qv (YS hx2) [2] [] rfl rfl rfl rfl rfl callee39 rfl rfl rfl rfl) ?_
  rintro _ ⟨v2', _, _, ⟨_, rfl, rfl, rfl⟩, rfl⟩ a' w' hs'
  exact hK a' w' ⟨v1, v2', v3, hs'.putF (i := 7) rfl [0, 1, 2, 5, 4] [] rfl rfl rfl rfl⟩
 ·intro L a w hv K Q hK
  obtain ⟨v1, v2, v3, hs⟩ := hv
  exact wGo rfl rfl hs (Qi rfl rfl rfl rfl fldF87x2) fun a w hs => hK a w ⟨v1, v2, v3, pF hs 8 [0, 1, 2, 3, 4] [] rfl⟩
 ·intro L a w hv K Q hK
  obtain ⟨v1, v2, v3, hs⟩ := hv
  exact wGo rfl rfl hs (Qj rfl rfl rfl rfl YP (i := 0) rfl rfl) fun a w hs => hK a w ⟨v1, v2, v3, pF hs 9 [0, 1, 2, 3, 4] [] rfl⟩
 ·intro L a w hv K Q hK
  obtain ⟨v1, v2, v3, hs⟩ := hv
  exact wGo rfl rfl hs (QX rfl rfl rfl rfl (YX (n := dp0.ID) Try.underlying34 Try.underlying27)) fun a w hs => hK a w ⟨v1, v2, v3, pF hs 10 [0, 1, 2, 3, 4] [] rfl⟩
 ·intro L a w hv K Q hK
  obtain ⟨v1, v2, v3, hs⟩ := hv
  refine QO rfl rfl hs (Qv (YS hx3) [3] [] rfl rfl rfl rfl rfl callee39 rfl rfl rfl rfl) ?_
  rintro _ ⟨v3', _, _, ⟨_, rfl, rfl, rfl⟩, rfl⟩ a' w' hs'
  exact hK a' w' ⟨v1, v2, v3', hs'.putF (i := 11) rfl [0, 1, 2, 3, 5] [] rfl rfl rfl rfl⟩
 ·intro L a w hv K Q hK
  obtain ⟨v1, v2, v3, hs⟩ := hv
  exact wGo rfl rfl hs (Qi rfl rfl rfl rfl Yx) fun a w hs => hK a w ⟨v1, v2, v3, pF hs 12 [0, 1, 2, 3, 4] [] rfl⟩
 ·intro L a w hv K Q hK
  obtain ⟨v1, v2, v3, hs⟩ := hv
  exact wGo rfl rfl hs (Qj rfl rfl rfl rfl YP (i := 0) rfl rfl) fun a w hs => hK a w ⟨v1, v2, v3, pF hs 13 [0, 1, 2, 3, 4] [] rfl⟩
 ·intro L a w hv K Q hK
  obtain ⟨v1, v2, v3, hs⟩ := hv
  exact wGo rfl rfl hs (QX rfl rfl rfl rfl (YX (n := dp0.Flags) Try.underlying34 Try.underlying27)) fun a w hs => hK a w ⟨v1, v2, v3, pF hs 14 [0, 1, 2, 3, 4] [] rfl⟩
 ·intro L a w hL hv
  rw [QM hL] at hv
  obtain ⟨v1, v2, v3, hs⟩ := hv
  refine gZ hs [13, 16] [4] [] rfl rfl rfl rfl ?_
  clear hs hL
  obtain ⟨put4, hx4, h⟩ := ob_e h
  refine Ka htb (by kernel_rfl) rfl rfl (Qv (YS hx4) [0] [] rfl rfl rfl rfl rfl callee39 rfl rfl rfl rfl) ?_
  rintro _ ⟨v4, _, _, ⟨_, rfl, rfl, rfl⟩, rfl⟩
  refine Qx htb (by kernel_rfl) rfl rfl (QN rfl rfl rfl rfl) ?_
  refine Zh rfl ?_
  refine tZ [2] [1] [] rfl rfl rfl rfl ?_
  obtain rfl := Option.some.inj h
  exact Qn rfl rfl (resA (vs := [v4]) rfl ⟨rfl, trivial⟩) [0] [] rfl rfl rfl ⟨v4, rfl, rfl, rfl⟩

set_option maxRecDepth 100000 in
set_option maxHeartbeats 4000000 in
theorem w_law10zlaid {size : Int} {packed : Bool} {l : List dumbwaiterlaw10_Spot} {vl1 : Value} {r : ((Option gmem_Mem) × (Option dumbwaiterref02_Mem) × Rings × Bool)} (h : KM size packed l = some r) :
  Ctr Try.prog 10 #[vI size, vB packed, vl1] [] [Fact.sl Xk vl1 l]
   (fun rv own shr => ∃ (w1 : Value), ∃ (w2 : Value), rv = .tuple #[w1, w2, .agg #[vB r.2.2.1.Packed, vI r.2.2.1.Size, vU64 r.2.2.1.Desc, vU64 r.2.2.1.Driver, vU64 r.2.2.1.Device], vB r.2.2.2] ∧ own = [(optR 113 Qz u8S true gmem_Mem.l gmem_Mem.b w1 r.1), (optR 152 Qz u8S false dumbwaiterref02_Mem.L dumbwaiterref02_Mem.B w2 r.2.1)] ∧ shr = []) := by
 unfold KM at h
 refine Ctr.mk (args := [vI size, vB packed, vl1]) Try.func10 rfl rfl (fun R0 w0 B => ?_)
 refine Qe (Qc (sAs rfl rfl rfl ?_))
 refine sAs rfl rfl rfl ?_
 refine Qu rfl (QD rfl rfl rfl tyZ29) fun b1 => ?_
 refine sAs rfl rfl rfl ?_
 refine Qd (tZ [0, 1, 2, 8] [0] [0] rfl rfl rfl rfl ?_)
 refine Qe (Qc (sMv rfl rfl rfl ?_))
 refine sMv rfl rfl rfl ?_
 obtain ⟨place1, hx1, h⟩ := ob_e h
 refine Qs rfl (Qv (w_ref_Place04 hx1) [] [] rfl rfl rfl rfl rfl callee15 rfl rfl rfl rfl) ?_
 rintro _ ⟨_, _, _, ⟨rfl, rfl, rfl⟩, rfl⟩
 refine sMv rfl rfl rfl ?_
 refine Qa rfl (Qq rfl rfl rfl rfl rfl) ?_
 refine Qa rfl (Qq rfl rfl rfl rfl rfl) ?_
 refine Qa rfl (Qq rfl rfl rfl rfl rfl) ?_
 refine Qu rfl (QD rfl rfl rfl tyZ29) fun b2 => ?_
 refine Qa rfl (Qo (cs' := [vB place1.1.Packed, vI place1.1.Size, vU64 place1.1.Desc, vU64 place1.1.Driver, vU64 place1.1.Device]) rfl rfl rfl rfl ZX (i := 1) rfl rfl rfl (QF rfl) rfl) ?_
 refine sAs rfl rfl rfl ?_
 refine sAs rfl rfl rfl ?_
 refine Qd (tZ [1, 2, 8, 10, 12] [0, 1] [0] rfl rfl rfl rfl ?_)
 refine Qe (Qc (Qa rfl (QE (v := .agg #[vU64 (0 : UInt64), vU64 (12000 : UInt64)]) rfl rfl rfl rfl (bldV (by kernel_rfl))) ?_))
 refine Qu rfl (QK (S := Qz) (xs := [(Region.mk (0 : UInt64) (12000 : UInt64))]) (css := [[vU64 (0 : UInt64), vU64 (12000 : UInt64)]]) (cs := [vU64 (0 : UInt64), vU64 (12000 : UInt64)]) (e := 53) rfl rfl rfl rfl (bldF slF54 (by decide) (by kernel_rfl)) rfl rfl rfl rfl (Zd (S := Qz) (xs := [(Region.mk (0 : UInt64) (12000 : UInt64))]) (css := [[vU64 (0 : UInt64), vU64 (12000 : UInt64)]]) rfl rfl)) fun v1 => ?_
 refine YZ (i := 2) rfl ?_
 obtain ⟨new1, hx2, h⟩ := ob_e h
 refine Qs rfl (Qv (w_gmem_New hx2) [] [1] rfl rfl rfl rfl rfl callee16 rfl rfl rfl rfl) ?_
 rintro _ ⟨_, _, _, ⟨v2, rfl, rfl, rfl⟩, rfl⟩
 refine sMv rfl rfl rfl ?_
 refine Qa rfl (Qq rfl rfl rfl rfl rfl) ?_
 refine Qa rfl (Qq rfl rfl rfl rfl rfl) ?_
 refine sAs rfl rfl rfl ?_
 refine sAs rfl rfl rfl ?_
 refine Qd (tZ [1, 2, 8, 10, 12, 13, 14] [0, 1, 3] [0] rfl rfl rfl rfl ?_)
 rcases onO_cases h with ⟨ho1, h⟩ | ⟨mem1, ho1, h⟩
 ·cases h
 ·refine Tk_optS (i := 2) rfl ho1 ?_
  rintro b3 v3 v4 vs1 rfl
  refine Qe (Qc (Qa rfl (QE (v := .agg #[vU64 (0 : UInt64), vU64 (12000 : UInt64)]) rfl rfl rfl rfl (bldV (by kernel_rfl))) ?_))
  refine Qu rfl (QK (S := Qz) (xs := [(Region.mk (0 : UInt64) (12000 : UInt64))]) (css := [[vU64 (0 : UInt64), vU64 (12000 : UInt64)]]) (cs := [vU64 (0 : UInt64), vU64 (12000 : UInt64)]) (e := 53) rfl rfl rfl rfl (bldF slF54 (by decide) (by kernel_rfl)) rfl rfl rfl rfl (Zd (S := Qz) (xs := [(Region.mk (0 : UInt64) (12000 : UInt64))]) (css := [[vU64 (0 : UInt64), vU64 (12000 : UInt64)]]) rfl rfl)) fun v5 => ?_
  refine YZ (i := 4) rfl ?_
  obtain ⟨new2, hx3, h⟩ := ob_e h
  refine Qs rfl (Qv (w_ref_New02 hx3) [] [2] rfl rfl rfl rfl rfl callee35 rfl rfl rfl rfl) ?_
  rintro _ ⟨_, _, _, ⟨v6, rfl, rfl, rfl⟩, rfl⟩
  refine sMv rfl rfl rfl ?_
  refine Qa rfl (Qq rfl rfl rfl rfl rfl) ?_
  refine Qa rfl (Qq rfl rfl rfl rfl rfl) ?_
  refine sAs rfl rfl rfl ?_
  refine sAs rfl rfl rfl ?_
  refine Qd (tZ [1, 2, 8, 10, 12, 13, 14, 15, 16] [0, 1, 2, 3, 5] [0, 1] rfl rfl rfl rfl ?_)
  rcases onO_cases h with ⟨ho2, h⟩ | ⟨mem2, ho2, h⟩
  ·cases h
  ·refine Tk_optS (i := 4) rfl ho2 ?_
   rintro b4 v7 v8 vs2 rfl
   refine Qe (Qe (Qc (sMv rfl rfl rfl ?_)))
   refine Qa rfl (Qf rfl rfl rfl rfl rfl (QL (a := place1.2.2) (b := (0 : Int)))) ?_
   refine sMv rfl rfl rfl ?_
   rcases bC (place1.2.2 != (0 : Int)) with hg1 | hg1
   ·replace h := br_t hg1 h
    refine Qg rfl rfl (cgb hg1) rfl rfl ?_
    refine Qg rfl rfl (cgb hg1) rfl rfl ?_
    refine Qa rfl (Qr rfl rfl rfl (cgb hg1) rfl) ?_
    refine sMv rfl rfl rfl ?_
    refine Qg rfl rfl rfl rfl rfl ?_
    refine Qg rfl rfl rfl rfl rfl ?_
    refine Qa rfl (Qr rfl rfl rfl rfl rfl) ?_
    refine Qd (tZ [1, 2, 8, 10, 13, 15, 48] [0, 1, 2, 3, 4, 5] [0, 1, 2] rfl rfl rfl rfl ?_)
    refine Ql rfl ?_
    refine Qe (QU (by kernel_rfl) ?_)
    refine Xn [0, 0, 2, 7, 15] (by kernel_rfl) fun htb => ?_
    refine aZ [8, 10] [0, 1] [] rfl rfl rfl rfl ?_
    refine QW (lo := 0) (hi := 3) htb rfl rfl (by kernel_rfl) (fun c L a w => Sat c ⟨[(8, some (.pointer (some ⟨b1, 0, none⟩))), (10, some (.pointer (some ⟨b2, 0, none⟩))), (49, bif L 0 then some (.agg #[vB place1.1.Packed, vI place1.1.Size, vU64 place1.1.Desc, vU64 place1.1.Driver, vU64 place1.1.Device]) else none), (6, bif L 1 then some (.pointer none) else none), (7, bif L 2 then some (.pointer none) else none)], [(some (Qm b1 29 [vB false, vI (0 : Int), vU64 (0 : UInt64), vU64 (0 : UInt64), vU64 (0 : UInt64)]) : Option Res), (some (Qm b2 29 [vB place1.1.Packed, vI place1.1.Size, vU64 place1.1.Desc, vU64 place1.1.Driver, vU64 place1.1.Device]) : Option Res)], []⟩ a w) [([], []), ([], [2]), ([1], [])] rfl (by kernel_rfl) ?_ (Qb ?_ (Qb ?_ (Qb ?_ (QB)))) ?_
    ·intro a w hs
     exact hs.startF [49, 6, 7] [0, 1] [] rfl rfl rfl rfl
    ·intro L a w hs K Q hK
     exact wGo rfl rfl hs (Qy (vs := [vB place1.1.Packed, vI place1.1.Size, vU64 place1.1.Desc, vU64 place1.1.Driver, vU64 place1.1.Device]) rfl rfl rfl rfl ZX (i := 1) rfl rfl rfl) fun a w hs => hK a w (pF hs 2 [0, 1] [] rfl)
    ·intro L a w hs K Q hK
     exact wGo rfl rfl hs (QN rfl rfl rfl rfl) fun a w hs => hK a w (pF hs 3 [0, 1] [] rfl)
    ·intro L a w hs K Q hK
     exact wGo rfl rfl hs (QN rfl rfl rfl rfl) fun a w hs => hK a w (pF hs 4 [0, 1] [] rfl)
    ·intro L a w hL hv
     rw [QM hL] at hv
     have hs := hv
     refine gZ hs [8, 49, 6, 7] [0] [] rfl rfl rfl rfl ?_
     clear hs hL
     refine Qx htb (by kernel_rfl) rfl rfl (Qo (cs' := [vB place1.1.Packed, vI place1.1.Size, vU64 place1.1.Desc, vU64 place1.1.Driver, vU64 place1.1.Device]) rfl rfl rfl rfl ZX (i := 0) rfl rfl rfl (QF rfl) rfl) ?_
     refine Qx htb (by kernel_rfl) rfl rfl (QN rfl rfl rfl rfl) ?_
     refine Zh rfl ?_
     refine tZ [8, 6, 7, 9] [0] [] rfl rfl rfl rfl ?_
     refine Tk_nilopt 113 Qz u8S true gmem_Mem.l gmem_Mem.b ?_
     refine Tk_nilopt 152 Qz u8S false dumbwaiterref02_Mem.L dumbwaiterref02_Mem.B ?_
     obtain rfl := Option.some.inj h
     exact Qn rfl rfl (resA (vs := [.pointer none, .pointer none, .agg #[vB place1.1.Packed, vI place1.1.Size, vU64 place1.1.Desc, vU64 place1.1.Driver, vU64 place1.1.Device], vB false]) rfl ⟨rfl, rfl, ⟨_, 0, _, _, _, rfl, rfl, .inl ⟨ZX, rfl, rfl⟩⟩, rfl, trivial⟩) [1, 2] [] rfl rfl rfl ⟨(.pointer none), (.pointer none), rfl, rfl, rfl⟩
   ·replace h := br_f hg1 h
    refine Qh rfl rfl (cgb hg1) (Qk rfl rfl rfl rfl) ?_
    rintro _ rfl
    refine Qh rfl rfl (cgb hg1) (Qf rfl rfl rfl rfl rfl (QL (a := new1.2) (b := (0 : Int)))) ?_
    rintro _ rfl
    refine Qa rfl (Qw rfl rfl rfl (cgb hg1) rfl) ?_
    refine sMv rfl rfl rfl ?_
    rcases bC (new1.2 != (0 : Int)) with hg2 | hg2
    ·replace h := br_t hg2 h
     refine Qg rfl rfl (cgb hg2) rfl rfl ?_
     refine Qg rfl rfl (cgb hg2) rfl rfl ?_
     refine Qa rfl (Qr rfl rfl rfl (cgb hg2) rfl) ?_
     refine Qd (tZ [1, 2, 8, 10, 13, 15, 48] [0, 1, 2, 3, 4, 5] [0, 1, 2] rfl rfl rfl rfl ?_)
     refine Ql rfl ?_
     refine Qe (QU (by kernel_rfl) ?_)
     refine Xn [0, 0, 2, 7, 15] (by kernel_rfl) fun htb => ?_
     refine aZ [8, 10] [0, 1] [] rfl rfl rfl rfl ?_
     refine QW (lo := 0) (hi := 3) htb rfl rfl (by kernel_rfl) (fun c L a w => Sat c ⟨[(8, some (.pointer (some ⟨b1, 0, none⟩))), (10, some (.pointer (some ⟨b2, 0, none⟩))), (49, bif L 0 then some (.agg #[vB place1.1.Packed, vI place1.1.Size, vU64 place1.1.Desc, vU64 place1.1.Driver, vU64 place1.1.Device]) else none), (6, bif L 1 then some (.pointer none) else none), (7, bif L 2 then some (.pointer none) else none)], [(some (Qm b1 29 [vB false, vI (0 : Int), vU64 (0 : UInt64), vU64 (0 : UInt64), vU64 (0 : UInt64)]) : Option Res), (some (Qm b2 29 [vB place1.1.Packed, vI place1.1.Size, vU64 place1.1.Desc, vU64 place1.1.Driver, vU64 place1.1.Device]) : Option Res)], []⟩ a w) [([], []), ([], [2]), ([1], [])] rfl (by kernel_rfl) ?_ (Qb ?_ (Qb ?_ (Qb ?_ (QB)))) ?_
     ·intro a w hs
      exact hs.startF [49, 6, 7] [0, 1] [] rfl rfl rfl rfl
     ·intro L a w hs K Q hK
      exact wGo rfl rfl hs (Qy (vs := [vB place1.1.Packed, vI place1.1.Size, vU64 place1.1.Desc, vU64 place1.1.Driver, vU64 place1.1.Device]) rfl rfl rfl rfl ZX (i := 1) rfl rfl rfl) fun a w hs => hK a w (pF hs 2 [0, 1] [] rfl)
     ·intro L a w hs K Q hK
      exact wGo rfl rfl hs (QN rfl rfl rfl rfl) fun a w hs => hK a w (pF hs 3 [0, 1] [] rfl)
     ·intro L a w hs K Q hK
      exact wGo rfl rfl hs (QN rfl rfl rfl rfl) fun a w hs => hK a w (pF hs 4 [0, 1] [] rfl)
     ·intro L a w hL hv
      rw [QM hL] at hv
      have hs := hv
      refine gZ hs [8, 49, 6, 7] [0] [] rfl rfl rfl rfl ?_
      clear hs hL
      refine Qx htb (by kernel_rfl) rfl rfl (Qo (cs' := [vB place1.1.Packed, vI place1.1.Size, vU64 place1.1.Desc, vU64 place1.1.Driver, vU64 place1.1.Device]) rfl rfl rfl rfl ZX (i := 0) rfl rfl rfl (QF rfl) rfl) ?_
      refine Qx htb (by kernel_rfl) rfl rfl (QN rfl rfl rfl rfl) ?_
      refine Zh rfl ?_
      refine tZ [8, 6, 7, 9] [0] [] rfl rfl rfl rfl ?_
      refine Tk_nilopt 113 Qz u8S true gmem_Mem.l gmem_Mem.b ?_
      refine Tk_nilopt 152 Qz u8S false dumbwaiterref02_Mem.L dumbwaiterref02_Mem.B ?_
      obtain rfl := Option.some.inj h
      exact Qn rfl rfl (resA (vs := [.pointer none, .pointer none, .agg #[vB place1.1.Packed, vI place1.1.Size, vU64 place1.1.Desc, vU64 place1.1.Driver, vU64 place1.1.Device], vB false]) rfl ⟨rfl, rfl, ⟨_, 0, _, _, _, rfl, rfl, .inl ⟨ZX, rfl, rfl⟩⟩, rfl, trivial⟩) [1, 2] [] rfl rfl rfl ⟨(.pointer none), (.pointer none), rfl, rfl, rfl⟩
    ·replace h := br_f hg2 h
     refine Qh rfl rfl (cgb hg2) (Qk rfl rfl rfl rfl) ?_
     rintro _ rfl
     refine Qh rfl rfl (cgb hg2) (Qf rfl rfl rfl rfl rfl (QL (a := new2.2) (b := (0 : Int)))) ?_
     rintro _ rfl
     refine Qa rfl (Qw rfl rfl rfl (cgb hg2) rfl) ?_
     refine Qd (tZ [1, 2, 8, 10, 13, 15, 48] [0, 1, 2, 3, 4, 5] [0, 1, 2] rfl rfl rfl rfl ?_)
     rcases bC (new2.2 != (0 : Int)) with hg3 | hg3
     ·replace h := br_t hg3 h
      refine Ql (cgb hg3) ?_
      refine Qe (QU (by kernel_rfl) ?_)
      refine Xn [0, 0, 2, 7, 15] (by kernel_rfl) fun htb => ?_
      refine aZ [8, 10] [0, 1] [] rfl rfl rfl rfl ?_
      refine QW (lo := 0) (hi := 3) htb rfl rfl (by kernel_rfl) (fun c L a w => Sat c ⟨[(8, some (.pointer (some ⟨b1, 0, none⟩))), (10, some (.pointer (some ⟨b2, 0, none⟩))), (49, bif L 0 then some (.agg #[vB place1.1.Packed, vI place1.1.Size, vU64 place1.1.Desc, vU64 place1.1.Driver, vU64 place1.1.Device]) else none), (6, bif L 1 then some (.pointer none) else none), (7, bif L 2 then some (.pointer none) else none)], [(some (Qm b1 29 [vB false, vI (0 : Int), vU64 (0 : UInt64), vU64 (0 : UInt64), vU64 (0 : UInt64)]) : Option Res), (some (Qm b2 29 [vB place1.1.Packed, vI place1.1.Size, vU64 place1.1.Desc, vU64 place1.1.Driver, vU64 place1.1.Device]) : Option Res)], []⟩ a w) [([], []), ([], [2]), ([1], [])] rfl (by kernel_rfl) ?_ (Qb ?_ (Qb ?_ (Qb ?_ (QB)))) ?_
      ·intro a w hs
       exact hs.startF [49, 6, 7] [0, 1] [] rfl rfl rfl rfl
      ·intro L a w hs K Q hK
       exact wGo rfl rfl hs (Qy (vs := [vB place1.1.Packed, vI place1.1.Size, vU64 place1.1.Desc, vU64 place1.1.Driver, vU64 place1.1.Device]) rfl rfl rfl rfl ZX (i := 1) rfl rfl rfl) fun a w hs => hK a w (pF hs 2 [0, 1] [] rfl)
      ·intro L a w hs K Q hK
       exact wGo rfl rfl hs (QN rfl rfl rfl rfl) fun a w hs => hK a w (pF hs 3 [0, 1] [] rfl)
      ·intro L a w hs K Q hK
       exact wGo rfl rfl hs (QN rfl rfl rfl rfl) fun a w hs => hK a w (pF hs 4 [0, 1] [] rfl)
      ·intro L a w hL hv
       rw [QM hL] at hv
       have hs := hv
       refine gZ hs [8, 49, 6, 7] [0] [] rfl rfl rfl rfl ?_
       clear hs hL
       refine Qx htb (by kernel_rfl) rfl rfl (Qo (cs' := [vB place1.1.Packed, vI place1.1.Size, vU64 place1.1.Desc, vU64 place1.1.Driver, vU64 place1.1.Device]) rfl rfl rfl rfl ZX (i := 0) rfl rfl rfl (QF rfl) rfl) ?_
       refine Qx htb (by kernel_rfl) rfl rfl (QN rfl rfl rfl rfl) ?_
       refine Zh rfl ?_
       refine tZ [8, 6, 7, 9] [0] [] rfl rfl rfl rfl ?_
       refine Tk_nilopt 113 Qz u8S true gmem_Mem.l gmem_Mem.b ?_
       refine Tk_nilopt 152 Qz u8S false dumbwaiterref02_Mem.L dumbwaiterref02_Mem.B ?_
       obtain rfl := Option.some.inj h
       exact Qn rfl rfl (resA (vs := [.pointer none, .pointer none, .agg #[vB place1.1.Packed, vI place1.1.Size, vU64 place1.1.Desc, vU64 place1.1.Driver, vU64 place1.1.Device], vB false]) rfl ⟨rfl, rfl, ⟨_, 0, _, _, _, rfl, rfl, .inl ⟨ZX, rfl, rfl⟩⟩, rfl, trivial⟩) [1, 2] [] rfl rfl rfl ⟨(.pointer none), (.pointer none), rfl, rfl, rfl⟩
     ·replace h := br_f hg3 h
      refine Qp (cgb hg3) ?_
      refine Qt (Qe (Qe (Qc (sAs rfl rfl rfl ?_))))
      refine Qd (tZ [1, 2, 8, 10, 13, 15, 17] [0, 1, 2, 3, 4, 5] [0, 1, 2] rfl rfl rfl rfl ?_)
      refine QC (Zf (σ := Rings × Rings × (List (List UInt8)) × (List (List UInt8)) × Int) [1, 2, 8, 10, 13, 15, 17] [0, 1, 2, 3, 4, 5] [0, 1, 2] (fun s => ⟨[(1, some (vB packed)), (2, some vl1), (8, some (.pointer (some ⟨b1, 0, none⟩))), (10, some (.pointer (some ⟨b2, 0, none⟩))), (13, some (.pointer (some ⟨b3, 0, none⟩))), (15, some (.pointer (some ⟨b4, 0, none⟩))), (17, some (vI s.2.2.2.2))], [some (Qm b1 29 [vB s.1.Packed, vI s.1.Size, vU64 s.1.Desc, vU64 s.1.Driver, vU64 s.1.Device]), some (Qm b2 29 [vB s.2.1.Packed, vI s.2.1.Size, vU64 s.2.1.Desc, vU64 s.2.1.Driver, vU64 s.2.1.Device]), some (Qm b3 113 [v3, v4]), some (QV u8S true v4 vs1 s.2.2.1 none), some (Qm b4 152 [v7, v8]), some (QV u8S false v8 vs2 s.2.2.2.1 none)], [Fact.sl Xk vl1 l, Fact.sl Qz v3 mem1.l, Fact.sl Qz v7 mem2.L]⟩) (fun nf1 s => XT packed l mem1 mem2 nf1 s.1 s.2.1 s.2.2.1 s.2.2.2.1 s.2.2.2.2 = some r) fuel ((Rings.mk false (0 : Int) (0 : UInt64) (0 : UInt64) (0 : UInt64)), place1.1, mem1.b, mem2.B, (0 : Int)) h rfl rfl rfl rfl rfl (fun s h => by cases h) ?_)
      rintro nf1 ⟨m1, m2, rows1, rows2, i1⟩ h
      replace h : law10zlaidL1B packed l mem1 mem2 (XT packed l mem1 mem2 nf1) m1 m2 rows1 rows2 i1 = some r := h
      unfold law10zlaidL1B at h
      refine Qe (Qe (Qc (sMv rfl rfl rfl ?_)))
      refine sMv rfl rfl rfl ?_
      refine Qa rfl (QT rfl rfl rfl rfl Try.underlying62 (i := 0) rfl) ?_
      refine Qa rfl (Qf rfl rfl rfl rfl rfl (QI (a := i1) (b := len l))) ?_
      refine Qd (tZ [1, 2, 8, 10, 13, 15, 17, 53] [0, 1, 2, 3, 4, 5] [0, 1, 2] rfl rfl rfl rfl ?_)
      rcases bC (decide (i1 < (len l))) with hg4 | hg4
      ·replace h := br_t hg4 h
       refine Ql (cgb hg4) ?_
       refine Qt (Qe (QC (Qe (Qc (sMv rfl rfl rfl ?_)))))
       refine sMv rfl rfl rfl ?_
       obtain ⟨d1, hx4, h⟩ := ob_e h
       refine Qu rfl (Zb rfl rfl rfl rfl rfl slF62 (i := 0) rfl hx4) fun p1 => ?_
       refine Qu rfl (Zg (S' := DescS) (y := d1.Split) rfl rfl rfl rfl fldF97x1 (i := 3) rfl (by intro h cs hr; subst hr; rfl)) fun p2 => ?_
       refine Qa rfl (Xs (vs := [vU64 d1.Split.Addr, vU32 d1.Split.Len, vU16 d1.Split.Flags, vU16 d1.Split.Next]) rfl rfl rfl rfl tyF36 (i := 4) rfl rfl) ?_
       obtain ⟨bytes1, hx5, h⟩ := ob_e h
       refine Qs rfl (Qv (KV hx5) [] [] rfl rfl rfl rfl rfl callee12 rfl rfl rfl rfl) ?_
       rintro _ ⟨v9, _, _, ⟨_, rfl, rfl, rfl⟩, rfl⟩
       refine sAs rfl rfl rfl ?_
       refine Qd (tZ [1, 2, 8, 10, 13, 15, 17, 18] [0, 1, 2, 3, 4, 5, 6] [0, 1, 2] rfl rfl rfl rfl ?_)
       refine Qe (Qe (Qc (sMv rfl rfl rfl ?_)))
       refine Qd (Tk_join (α := (List UInt8) × Value) (fun s => ⟨[(1, some (vB packed)), (2, some vl1), (8, some (.pointer (some ⟨b1, 0, none⟩))), (10, some (.pointer (some ⟨b2, 0, none⟩))), (13, some (.pointer (some ⟨b3, 0, none⟩))), (15, some (.pointer (some ⟨b4, 0, none⟩))), (17, some (vI i1)), (18, some (s.2))], [some (Qm b1 29 [vB m1.Packed, vI m1.Size, vU64 m1.Desc, vU64 m1.Driver, vU64 m1.Device]), some (Qm b2 29 [vB m2.Packed, vI m2.Size, vU64 m2.Desc, vU64 m2.Driver, vU64 m2.Device]), some (Qm b3 113 [v3, v4]), some (QV u8S true v4 vs1 rows1 none), some (Qm b4 152 [v7, v8]), some (QV u8S false v8 vs2 rows2 none), some (rowS u8S s.2 s.1)], [Fact.sl Xk vl1 l, Fact.sl Qz v3 mem1.l, Fact.sl Qz v7 mem2.L]⟩) (fun s => YV l mem1 mem2 m1 m2 rows1 rows2 i1 (XT packed l mem1 mem2 nf1) s.1 = some r) ?_ ?_)
       ·rintro ⟨b5, v10⟩ h
        replace h : YV l mem1 mem2 m1 m2 rows1 rows2 i1 (XT packed l mem1 mem2 nf1) b5 = some r := h
        unfold YV at h
        refine Qe (Qc (sMv rfl rfl rfl ?_))
        refine sMv rfl rfl rfl ?_
        obtain ⟨d2, hx6, h⟩ := ob_e h
        refine Qu rfl (Zb rfl rfl rfl rfl rfl slF62 (i := 0) rfl hx6) fun p3 => ?_
        refine Qu rfl (Zg (S' := iS) (y := d2.At) rfl rfl rfl rfl fldF97x0 (i := 3) rfl (by intro h cs hr; subst hr; rfl)) fun p4 => ?_
        refine Qa rfl (Zj rfl rfl rfl rfl tyF3 (i := 4) rfl rfl) ?_
        obtain ⟨pick1, hx7, h⟩ := ob_e h
        refine Qs rfl (Qv (w_kit_Pick hx7) [] [] rfl rfl rfl rfl rfl callee9 rfl rfl rfl rfl) ?_
        rintro _ ⟨_, _, _, ⟨rfl, rfl, rfl⟩, rfl⟩
        refine Qa rfl (Qf rfl rfl rfl rfl rfl (YE (a := (16 : Int)) (b := pick1))) ?_
        refine Qa rfl (QX rfl rfl rfl rfl (Xw (n := wi ((16 : Int) * pick1)) Try.underlying3 Try.underlying27)) ?_
        refine sAs rfl rfl rfl ?_
        refine Qd (tZ [1, 2, 8, 10, 13, 15, 17, 18, 19] [0, 1, 2, 3, 4, 5, 6] [0, 1, 2] rfl rfl rfl rfl ?_)
        refine Qe (Qc (sMv rfl rfl rfl ?_))
        refine sMv rfl rfl rfl ?_
        refine sMv rfl rfl rfl ?_
        obtain ⟨write1, hx8, h⟩ := ob_e h
        refine Qs rfl (Zu [6] [0, 1, 7, 8, 4, 5, 6] (ZL hx8) [2, 3] rfl rfl rfl rfl rfl callee11 rfl rfl rfl rfl rfl rfl (Zl (bor_shr 1 rfl) (Zl (Xa 6 rfl rfl) ZZ)) (by rintro _ _ _ ⟨rfl, rfl, rfl⟩; exact ⟨rfl, (YU (ri_cells _ _ _) (YU (ri_rows rfl _ _ _ _ _) XS))⟩)) ?_
        rintro _ ⟨_, _, _, ⟨rfl, rfl, rfl⟩, rfl⟩
        refine Qd (tZ [1, 2, 8, 10, 13, 15, 17, 18, 19] [0, 1, 2, 3, 4, 5, 6] [0, 1, 2] rfl rfl rfl rfl ?_)
        refine Qc (sMv rfl rfl rfl ?_)
        refine sMv rfl rfl rfl ?_
        refine sMv rfl rfl rfl ?_
        obtain ⟨write2, hx9, h⟩ := ob_e h
        refine Qs rfl (Zu [6] [0, 1, 2, 3, 7, 8, 6] (w_ref_Mem_Write02 hx9) [4, 5] rfl rfl rfl rfl rfl callee36 rfl rfl rfl rfl rfl rfl (Zl (bor_shr 2 rfl) (Zl (Xa 6 rfl rfl) ZZ)) (by rintro _ _ _ ⟨rfl, rfl, rfl⟩; exact ⟨rfl, (YU (ri_cells _ _ _) (YU (ri_rows rfl _ _ _ _ _) XS))⟩)) ?_
        rintro _ ⟨_, _, _, ⟨rfl, rfl, rfl⟩, rfl⟩
        refine Qd (tZ [1, 2, 8, 10, 13, 15, 17] [0, 1, 2, 3, 4, 5] [0, 1, 2] rfl rfl rfl rfl ?_)
        refine Zx (Qc (sMv rfl rfl rfl ?_))
        refine Qa rfl (Qf rfl rfl rfl rfl rfl (QG (a := i1) (b := (1 : Int)))) ?_
        refine sAs rfl rfl rfl ?_
        refine Qd (tZ [1, 2, 8, 10, 13, 15, 17] [0, 1, 2, 3, 4, 5] [0, 1, 2] rfl rfl rfl rfl ?_)
        exact QY (m1, m2, write1.2, write2.2, wi (i1 + (1 : Int))) h [1, 2, 8, 10, 13, 15, 17] [0, 1, 2, 3, 4, 5] [0, 1, 2] rfl rfl rfl rfl rfl
       ·intro HJ1
        rcases bC (packed) with hg5 | hg5
        ·replace h := br_t hg5 h
         refine Ql (cgb hg5) ?_
         refine Qc (sMv rfl rfl rfl ?_)
         refine sMv rfl rfl rfl ?_
         obtain ⟨d3, hx10, h⟩ := ob_e h
         refine Qu rfl (Zb rfl rfl rfl rfl rfl slF62 (i := 0) rfl hx10) fun p5 => ?_
         refine Qu rfl (Zg (S' := PackedS) (y := d3.Packed) rfl rfl rfl rfl fldF97x2 (i := 3) rfl (by intro h cs hr; subst hr; rfl)) fun p6 => ?_
         refine Qa rfl (Xs (vs := [vU64 d3.Packed.Addr, vU32 d3.Packed.Len, vU16 d3.Packed.ID, vU16 d3.Packed.Flags]) rfl rfl rfl rfl tyF87 (i := 4) rfl rfl) ?_
         obtain ⟨packed1, hx11, h⟩ := ob_e h
         refine Qs rfl (Qv (w_ref_PackedBytes03 hx11) [] [] rfl rfl rfl rfl rfl callee32 rfl rfl rfl rfl) ?_
         rintro _ ⟨v11, _, _, ⟨_, rfl, rfl, rfl⟩, rfl⟩
         refine sAs rfl rfl rfl ?_
         refine Qd (tZ [1, 2, 8, 10, 13, 15, 17, 18] [0, 1, 2, 3, 4, 5, 7] [0, 1, 2] rfl rfl rfl rfl ?_)
         exact XA (HJ1 (packed1, v11) h) [1, 2, 8, 10, 13, 15, 17, 18] [0, 1, 2, 3, 4, 5, 6] [0, 1, 2] rfl rfl rfl rfl
        ·replace h := br_f hg5 h
         refine Qp (cgb hg5) ?_
         refine Qt ?_
         exact XA (HJ1 (bytes1, v9) h) [1, 2, 8, 10, 13, 15, 17, 18] [0, 1, 2, 3, 4, 5, 6] [0, 1, 2] rfl rfl rfl rfl
      ·replace h := br_f hg4 h
       refine Qp (cgb hg4) ?_
       refine Zv _ rfl ?_
       refine Qe (QU (by kernel_rfl) ?_)
       refine Xn [0, 0, 0, 1, 11, 31, 63] (by kernel_rfl) fun htb => ?_
       refine aZ [8, 10, 13, 15] [0, 1, 2, 3, 4, 5] [1, 2] rfl rfl rfl rfl ?_
       refine QW (lo := 0) (hi := 5) htb rfl rfl (by kernel_rfl) (fun c L a w => Sat c ⟨[(8, some (.pointer (some ⟨b1, 0, none⟩))), (10, some (.pointer (some ⟨b2, 0, none⟩))), (13, some (.pointer (some ⟨b3, 0, none⟩))), (15, some (.pointer (some ⟨b4, 0, none⟩))), (85, bif L 0 then some (.pointer (some ⟨b3, 0, none⟩)) else none), (86, bif L 1 then some (.pointer (some ⟨b4, 0, none⟩)) else none), (87, bif L 2 then some (.agg #[vB m2.Packed, vI m2.Size, vU64 m2.Desc, vU64 m2.Driver, vU64 m2.Device]) else none), (6, bif L 3 then some (.pointer (some ⟨b3, 0, none⟩)) else none), (7, bif L 4 then some (.pointer (some ⟨b4, 0, none⟩)) else none)], [(some (Qm b1 29 [vB m1.Packed, vI m1.Size, vU64 m1.Desc, vU64 m1.Driver, vU64 m1.Device]) : Option Res), (some (Qm b2 29 [vB m2.Packed, vI m2.Size, vU64 m2.Desc, vU64 m2.Driver, vU64 m2.Device]) : Option Res), (some (Qm b3 113 [v3, v4]) : Option Res), (some (QV u8S true v4 vs1 rows1 none) : Option Res), (some (Qm b4 152 [v7, v8]) : Option Res), (some (QV u8S false v8 vs2 rows2 none) : Option Res)], [Fact.sl Qz v3 mem1.l, Fact.sl Qz v7 mem2.L]⟩ a w) [([], [3, 4]), ([], [4]), ([], []), ([0], [4]), ([0, 1, 3], [])] rfl (by kernel_rfl) ?_ (Qb ?_ (Qb ?_ (Qb ?_ (Qb ?_ (Qb ?_ (QB)))))) ?_
       ·intro a w hs
        exact hs.startF [85, 86, 87, 6, 7] [0, 1, 2, 3, 4, 5] [0, 1] rfl rfl rfl rfl
       ·intro L a w hs K Q hK
        exact wGo rfl rfl hs (Qk rfl rfl rfl rfl) fun a w hs => hK a w (pF hs 4 [0, 1, 2, 3, 4, 5] [0, 1] rfl)
       ·intro L a w hs K Q hK
        exact wGo rfl rfl hs (Qk rfl rfl rfl rfl) fun a w hs => hK a w (pF hs 5 [0, 1, 2, 3, 4, 5] [0, 1] rfl)
       ·intro L a w hs K Q hK
        exact wGo rfl rfl hs (Qy (vs := [vB m2.Packed, vI m2.Size, vU64 m2.Desc, vU64 m2.Driver, vU64 m2.Device]) rfl rfl rfl rfl ZX (i := 1) rfl rfl rfl) fun a w hs => hK a w (pF hs 6 [0, 1, 2, 3, 4, 5] [0, 1] rfl)
       ·intro L a w hs K Q hK
        exact wGo rfl rfl hs (QN rfl rfl rfl rfl) fun a w hs => hK a w (pF hs 7 [0, 1, 2, 3, 4, 5] [0, 1] rfl)
       ·intro L a w hs K Q hK
        exact wGo rfl rfl hs (QN rfl rfl rfl rfl) fun a w hs => hK a w (pF hs 8 [0, 1, 2, 3, 4, 5] [0, 1] rfl)
       ·intro L a w hL hv
        rw [QM hL] at hv
        have hs := hv
        refine gZ hs [8, 87, 6, 7] [0, 2, 3, 4, 5] [0, 1] rfl rfl rfl rfl ?_
        clear hs hL
        refine Qx htb (by kernel_rfl) rfl rfl (Qo (cs' := [vB m2.Packed, vI m2.Size, vU64 m2.Desc, vU64 m2.Driver, vU64 m2.Device]) rfl rfl rfl rfl ZX (i := 0) rfl rfl rfl (QF rfl) rfl) ?_
        refine Qx htb (by kernel_rfl) rfl rfl (QN rfl rfl rfl rfl) ?_
        refine Zh rfl ?_
        refine tZ [8, 6, 7, 9] [0, 1, 2, 3, 4] [0, 1] rfl rfl rfl rfl ?_
        refine Tk_vs (vs_fold (fl := gmem_Mem.l) (fb := gmem_Mem.b) (gmem_Mem.mk mem1.l rows1) (i := 1) (j := 2) rfl rfl rfl (q := 0) rfl rfl rfl) ?_
        refine Tk_vs (vs_fold (fl := dumbwaiterref02_Mem.L) (fb := dumbwaiterref02_Mem.B) (dumbwaiterref02_Mem.mk mem2.L rows2) (i := 3) (j := 4) rfl rfl rfl (q := 1) rfl rfl rfl) ?_
        obtain rfl := Option.some.inj h
        exact Qn rfl rfl (resA (vs := [.pointer (some ⟨b3, 0, none⟩), .pointer (some ⟨b4, 0, none⟩), .agg #[vB m2.Packed, vI m2.Size, vU64 m2.Desc, vU64 m2.Driver, vU64 m2.Device], vB true]) rfl ⟨rfl, rfl, ⟨_, 0, _, _, _, rfl, rfl, .inl ⟨ZX, rfl, rfl⟩⟩, rfl, trivial⟩) [1, 3] [] rfl rfl rfl ⟨(.pointer (some ⟨b3, 0, none⟩)), (.pointer (some ⟨b4, 0, none⟩)), rfl, rfl, rfl⟩
end Go.Proofs.Ytlofegfaphijpaa
