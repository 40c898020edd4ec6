/- The functions do what the plain words say: each is walked once. No statement of the seat is proved here; no condition. -/
import Derived.Test.YtlofegfaphijpaaWa4
namespace Go.Proofs.Ytlofegfaphijpaa
attribute [local irreducible] sub
set_option maxRecDepth 100000 in
set_option maxHeartbeats 4000000 in
theorem w_ref_Check05 {l : List Seg} {vl1 : Value} {r : Int} (h : ref_Check05 l = some r) :
  Ctr Try.prog 96 #[vl1] [] [Fact.sl SegS vl1 l]
   (fun rv own shr => rv = vI r ∧ own = [] ∧ shr = []) := by
 unfold ref_Check05 at h
 refine Ctr.mk (args := [vl1]) Try.func96 rfl rfl (fun R0 w0 B => ?_)
 refine Qe (Qb (sAs rfl rfl rfl ?_))
 refine Qc (tZ [0] [] [0] rfl rfl rfl rfl ?_)
 refine Qe (Qe (Qb (sMv rfl rfl rfl ?_)))
 refine Qa rfl (Zq rfl rfl rfl rfl Try.underlying41 (i := 0) rfl) ?_
 refine Qa rfl (Qg rfl rfl rfl rfl rfl (XR (a := len l) (b := (64 : Int)))) ?_
 refine Qc (tZ [0, 7] [] [0] rfl rfl rfl rfl ?_)
 rcases bC (decide ((len l) > (64 : Int))) with hg1 | hg1
 ·replace h := br_t hg1 h
  refine Qk (cgb hg1) ?_
  refine Qe (Qb (sAs rfl rfl rfl ?_))
  refine Qc (tZ [2] [] [] rfl rfl rfl rfl ?_)
  obtain rfl := Option.some.inj h
  exact Qm rfl rfl (resA (vs := [vI (3 : Int)]) rfl ⟨rfl, trivial⟩) [] [] rfl rfl rfl ⟨rfl, rfl, rfl⟩
 ·replace h := br_f hg1 h
  refine Qo (cgb hg1) ?_
  refine Qs (Qe (Qb (sAs rfl rfl rfl ?_)))
  refine Qc (tZ [0, 3] [] [0] rfl rfl rfl rfl ?_)
  refine Qe (Qe (Qb (sAs rfl rfl rfl ?_)))
  refine Qc (QJ (Zx (σ := UInt64 × Int) [0, 3, 4] [] [0] (fun s => ⟨[(0, some vl1), (3, some (vU64 s.1)), (4, some (vI s.2))], [], [Fact.sl SegS vl1 l]⟩) (fun nf1 s => XY l nf1 s.1 s.2 = some r) fuel ((0 : UInt64), (0 : Int)) h rfl rfl rfl rfl rfl (fun s h => by cases h) ?_))
  rintro nf1 ⟨sum1, i1⟩ h
  replace h : ref_Check05L1B l (XY l nf1) sum1 i1 = some r := h
  unfold ref_Check05L1B at h
  refine Qe (Qe (Qb (sMv rfl rfl rfl ?_)))
  refine sMv rfl rfl rfl ?_
  refine Qa rfl (Zq rfl rfl rfl rfl Try.underlying41 (i := 0) rfl) ?_
  refine Qa rfl (Qg rfl rfl rfl rfl rfl (QP (a := i1) (b := len l))) ?_
  refine Qc (tZ [0, 3, 4, 11] [] [0] rfl rfl rfl rfl ?_)
  rcases bC (decide (i1 < (len l))) with hg2 | hg2
  ·replace h := br_t hg2 h
   refine Qk (cgb hg2) ?_
   refine Qs (Qe (QJ (Qe (Qe (Zm (by kernel_rfl) ?_)))))
   refine Yz [0, 0, 3, 7, 15, 31, 63, 127, 127, 511, 1023, 2047, 127, 127, 12415, 28799, 61567, 127103, 258175, 524287, 127, 127, 3145855, 7340159, 15728767, 33554431, 67108863, 134217727, 268435455, 536870911, 1073741823, 2147483647, 2147483647, 6442450943, 17179869183, 34359738367, 68719476735, 137438953471, 274877906943, 549755813887, 549755813887, 2199023255551, 4398046511103, 8796093022207, 17592186044415, 35184372088831, 70368744177663] (by kernel_rfl) fun htb => ?_
   refine aZ [0, 3, 4] [] [0] rfl rfl rfl rfl ?_
   refine Zi (lo := 0) (hi := 2) htb rfl rfl (by kernel_rfl) (fun c L a w => Sat c ⟨[(0, some vl1), (3, some (vU64 sum1)), (4, some (vI i1)), (14, bif L 0 then some (vl1) else none), (15, bif L 1 then some (vI i1) else none)], [], [Fact.sl SegS vl1 l]⟩ a w) [([], []), ([], [])] rfl (by kernel_rfl) ?_ (Qd ?_ (Qd ?_ (QC))) ?_
   ·intro a w hs
    exact hs.startF [14, 15] [] [0] rfl rfl rfl rfl
   ·intro L a w hs K Q hK
    exact wGo rfl rfl hs (Qn rfl rfl rfl rfl) fun a w hs => hK a w (pF hs 3 [] [0] rfl)
   ·intro L a w hs K Q hK
    exact wGo rfl rfl hs (Qn rfl rfl rfl rfl) fun a w hs => hK a w (pF hs 4 [] [0] rfl)
   ·intro L a w hL hv
    rw [QT hL] at hv
    have hs := hv
    refine gZ hs [0, 3, 4, 14, 15] [] [0] rfl rfl rfl rfl ?_
    clear hs hL
    obtain ⟨s1, hx1, h⟩ := ob_e h
    refine TA_ex htb (by kernel_rfl) rfl rfl (Zf rfl rfl rfl rfl rfl slF41 (i := 0) rfl hx1) fun p1 => ?_
    refine TA_ex htb (by kernel_rfl) rfl rfl (Za (S' := u32S) (y := s1.Len) rfl rfl rfl rfl YX (i := 1) rfl (by intro h cs hr; subst hr; rfl)) fun p2 => ?_
    refine QB htb (by kernel_rfl) rfl rfl (Zn rfl rfl rfl rfl tyF33 (i := 2) rfl rfl) ?_
    refine QB htb (by kernel_rfl) rfl rfl (Qg rfl rfl rfl rfl rfl (bin_eql_u32 (a := s1.Len) (b := (0 : UInt32)))) ?_
    refine QB htb (by kernel_rfl) rfl rfl (Qn rfl rfl rfl rfl) ?_
    refine aZ [0, 3, 4, 20] [] [0] rfl rfl rfl rfl ?_
    rcases bC (s1.Len == (0 : UInt32)) with hg3 | hg3
    ·replace h := br_t hg3 h
     refine Zi (lo := 7) (hi := 25) htb rfl rfl (by kernel_rfl) (fun c L a w => Sat c ⟨[(0, some vl1), (3, some (vU64 sum1)), (4, some (vI i1)), (20, some (vB (s1.Len == (0 : UInt32)))), (21, bif L 7 then some (undef) else none), (22, bif L 8 then some (undef) else none), (23, bif L 9 then some (undef) else none), (24, bif L 10 then some (undef) else none), (25, bif L 11 then some (undef) else none), (26, bif L 12 then some (undef) else none), (27, bif L 13 then some (undef) else none), (28, bif L 14 then some (undef) else none), (29, bif L 15 then some (undef) else none), (30, bif L 16 then some (undef) else none), (31, bif L 17 then some (undef) else none), (32, bif L 18 then some (undef) else none), (33, bif L 19 then some (undef) else none), (34, bif L 20 then some (undef) else none), (35, bif L 21 then some (undef) else none), (36, bif L 22 then some (undef) else none), (37, bif L 23 then some (undef) else none), (38, bif L 24 then some (undef) else none)], [], [Fact.sl SegS vl1 l]⟩ a w) [([], [9, 10, 11, 19]), ([], [9, 10, 11, 19]), ([7, 8], [10, 11, 19]), ([7, 8, 9], [11, 19]), ([7, 8, 9, 10], [19]), ([], [14, 15, 16, 17, 18, 19]), ([], [14, 15, 16, 17, 18, 19]), ([12, 13], [15, 16, 17, 18, 19]), ([12, 13, 14], [16, 17, 18, 19]), ([12, 13, 14, 15], [17, 18, 19]), ([12, 13, 14, 15, 16], [18, 19]), ([12, 13, 14, 15, 16, 17], [19]), ([7, 8, 9, 10, 11, 12, 13, 14, 15, 16, 17, 18], []), ([], [22, 23, 24]), ([], [22, 23, 24]), ([20, 21], [23, 24]), ([20, 21, 22], [24]), ([20, 21, 22, 23], [])] rfl (by kernel_rfl) ?_ (Qd ?_ (Qd ?_ (Qd ?_ (Qd ?_ (Qd ?_ (Qd ?_ (Qd ?_ (Qd ?_ (Qd ?_ (Qd ?_ (Qd ?_ (Qd ?_ (Qd ?_ (Qd ?_ (Qd ?_ (Qd ?_ (Qd ?_ (Qd ?_ (QC))))))))))))))))))) ?_
     ·intro a w hs
      exact hs.startF [21, 22, 23, 24, 25, 26, 27, 28, 29, 30, 31, 32, 33, 34, 35, 36, 37, 38] [] [0] rfl rfl rfl rfl
     ·intro L a w hs K Q hK
      exact Qz rfl rfl rfl hs (cgb hg3) rfl rfl fun a w hs => hK a w (pF hs 4 [] [0] rfl)
     ·intro L a w hs K Q hK
      exact Qz rfl rfl rfl hs (cgb hg3) rfl rfl fun a w hs => hK a w (pF hs 5 [] [0] rfl)
     ·intro L a w hs K Q hK
      exact Qz rfl rfl rfl hs (cgb hg3) rfl rfl fun a w hs => hK a w (pF hs 6 [] [0] rfl)
     ·intro L a w hs K Q hK
      exact Qz rfl rfl rfl hs (cgb hg3) rfl rfl fun a w hs => hK a w (pF hs 7 [] [0] rfl)
     ·intro L a w hs K Q hK
      exact Qz rfl rfl rfl hs (cgb hg3) rfl rfl fun a w hs => hK a w (pF hs 8 [] [0] rfl)
     ·intro L a w hs K Q hK
      exact Qz rfl rfl rfl hs (cgb hg3) rfl rfl fun a w hs => hK a w (pF hs 9 [] [0] rfl)
     ·intro L a w hs K Q hK
      exact Qz rfl rfl rfl hs (cgb hg3) rfl rfl fun a w hs => hK a w (pF hs 10 [] [0] rfl)
     ·intro L a w hs K Q hK
      exact Qz rfl rfl rfl hs (cgb hg3) rfl rfl fun a w hs => hK a w (pF hs 11 [] [0] rfl)
     ·intro L a w hs K Q hK
      exact Qz rfl rfl rfl hs (cgb hg3) rfl rfl fun a w hs => hK a w (pF hs 12 [] [0] rfl)
     ·intro L a w hs K Q hK
      exact Qz rfl rfl rfl hs (cgb hg3) rfl rfl fun a w hs => hK a w (pF hs 13 [] [0] rfl)
     ·intro L a w hs K Q hK
      exact Qz rfl rfl rfl hs (cgb hg3) rfl rfl fun a w hs => hK a w (pF hs 14 [] [0] rfl)
     ·intro L a w hs K Q hK
      exact Qz rfl rfl rfl hs (cgb hg3) rfl rfl fun a w hs => hK a w (pF hs 15 [] [0] rfl)
     ·intro L a w hs K Q hK
      exact Qz rfl rfl rfl hs (cgb hg3) rfl rfl fun a w hs => hK a w (pF hs 16 [] [0] rfl)
     ·intro L a w hs K Q hK
      exact Qz rfl rfl rfl hs (cgb hg3) rfl rfl fun a w hs => hK a w (pF hs 17 [] [0] rfl)
     ·intro L a w hs K Q hK
      exact Qz rfl rfl rfl hs (cgb hg3) rfl rfl fun a w hs => hK a w (pF hs 18 [] [0] rfl)
     ·intro L a w hs K Q hK
      exact Qz rfl rfl rfl hs (cgb hg3) rfl rfl fun a w hs => hK a w (pF hs 19 [] [0] rfl)
     ·intro L a w hs K Q hK
      exact Qz rfl rfl rfl hs (cgb hg3) rfl rfl fun a w hs => hK a w (pF hs 20 [] [0] rfl)
     ·intro L a w hs K Q hK
      exact Qz rfl rfl rfl hs (cgb hg3) rfl rfl fun a w hs => hK a w (pF hs 21 [] [0] rfl)
     ·intro L a w hL hv
      rw [QT hL] at hv
      have hs := hv
      refine gZ hs [0, 3, 4, 20, 33, 38] [] [0] rfl rfl rfl rfl ?_
      clear hs hL
      refine Yo htb (by kernel_rfl) rfl rfl rfl (cgb hg3) rfl rfl ?_
      refine QB htb (by kernel_rfl) rfl rfl (Qt rfl rfl rfl (cgb hg3) rfl) ?_
      refine QB htb (by kernel_rfl) rfl rfl (Qn rfl rfl rfl rfl) ?_
      refine Yo htb (by kernel_rfl) rfl rfl rfl rfl rfl rfl ?_
      refine Yo htb (by kernel_rfl) rfl rfl rfl rfl rfl rfl ?_
      refine Yo htb (by kernel_rfl) rfl rfl rfl rfl rfl rfl ?_
      refine aZ [0, 3, 4, 41, 44] [] [0] rfl rfl rfl rfl ?_
      refine Zi (lo := 31) (hi := 34) htb rfl rfl (by kernel_rfl) (fun c L a w => Sat c ⟨[(0, some vl1), (3, some (vU64 sum1)), (4, some (vI i1)), (41, some (vB true)), (44, some undef), (45, bif L 31 then some (undef) else none), (46, bif L 32 then some (undef) else none), (47, bif L 33 then some (undef) else none)], [], [Fact.sl SegS vl1 l]⟩ a w) [([], []), ([], [33]), ([32], [])] rfl (by kernel_rfl) ?_ (Qd ?_ (Qd ?_ (Qd ?_ (QC)))) ?_
      ·intro a w hs
       exact hs.startF [45, 46, 47] [] [0] rfl rfl rfl rfl
      ·intro L a w hs K Q hK
       refine Kj rfl rfl rfl hs rfl rfl rfl ?_
       intro a' w' hs'
       exact hK a' w' (hs'.putF (i := 5) rfl [] [0] rfl rfl rfl rfl)
      ·intro L a w hs K Q hK
       refine Kj rfl rfl rfl hs rfl rfl rfl ?_
       intro a' w' hs'
       exact hK a' w' (hs'.putF (i := 6) rfl [] [0] rfl rfl rfl rfl)
      ·intro L a w hs K Q hK
       refine Kj rfl rfl rfl hs rfl rfl rfl ?_
       intro a' w' hs'
       exact hK a' w' (hs'.putF (i := 7) rfl [] [0] rfl rfl rfl rfl)
      ·intro L a w hL hv
       rw [QT hL] at hv
       have hs := hv
       refine gZ hs [0, 3, 4, 41, 44, 45, 47] [] [0] rfl rfl rfl rfl ?_
       clear hs hL
       refine TA_noU htb (by kernel_rfl) rfl rfl rfl rfl rfl rfl ?_
       refine TA_noU htb (by kernel_rfl) rfl rfl rfl rfl rfl rfl ?_
       refine TA_noU htb (by kernel_rfl) rfl rfl rfl rfl rfl rfl ?_
       refine Yo htb (by kernel_rfl) rfl rfl rfl rfl rfl rfl ?_
       refine Yo htb (by kernel_rfl) rfl rfl rfl rfl rfl rfl ?_
       refine aZ [0, 3, 4, 41, 52] [] [0] rfl rfl rfl rfl ?_
       refine Zi (lo := 39) (hi := 41) htb rfl rfl (by kernel_rfl) (fun c L a w => Sat c ⟨[(0, some vl1), (3, some (vU64 sum1)), (4, some (vI i1)), (41, some (vB true)), (52, some undef), (53, bif L 39 then some (undef) else none), (54, bif L 40 then some (undef) else none)], [], [Fact.sl SegS vl1 l]⟩ a w) [([], []), ([], [])] rfl (by kernel_rfl) ?_ (Qd ?_ (Qd ?_ (QC))) ?_
       ·intro a w hs
        exact hs.startF [53, 54] [] [0] rfl rfl rfl rfl
       ·intro L a w hs K Q hK
        refine Kj rfl rfl rfl hs rfl rfl rfl ?_
        intro a' w' hs'
        exact hK a' w' (hs'.putF (i := 5) rfl [] [0] rfl rfl rfl rfl)
       ·intro L a w hs K Q hK
        refine Kj rfl rfl rfl hs rfl rfl rfl ?_
        intro a' w' hs'
        exact hK a' w' (hs'.putF (i := 6) rfl [] [0] rfl rfl rfl rfl)
       ·intro L a w hL hv
        rw [QT hL] at hv
        have hs := hv
        refine gZ hs [0, 3, 4, 41, 52, 53, 54] [] [0] rfl rfl rfl rfl ?_
        clear hs hL
        refine TA_noU htb (by kernel_rfl) rfl rfl rfl rfl rfl rfl ?_
        refine TA_noU htb (by kernel_rfl) rfl rfl rfl rfl rfl rfl ?_
        refine TA_noU htb (by kernel_rfl) rfl rfl rfl rfl rfl rfl ?_
        refine TA_noU htb (by kernel_rfl) rfl rfl rfl rfl rfl rfl ?_
        refine Yo htb (by kernel_rfl) rfl rfl rfl rfl rfl rfl ?_
        refine QB htb (by kernel_rfl) rfl rfl (Qt rfl rfl rfl rfl rfl) ?_
        refine ZB rfl ?_
        refine tZ [0, 3, 4, 60] [] [0] rfl rfl rfl rfl ?_
        refine Qk rfl ?_
        refine Qe (Qb (sAs rfl rfl rfl ?_))
        refine Qc (tZ [2] [] [] rfl rfl rfl rfl ?_)
        obtain rfl := Option.some.inj h
        exact Qm rfl rfl (resA (vs := [vI (2 : Int)]) rfl ⟨rfl, trivial⟩) [] [] rfl rfl rfl ⟨rfl, rfl, rfl⟩
    ·replace h := br_f hg3 h
     obtain ⟨s2, hx2, h⟩ := ob_e h
     obtain ⟨s3, hx3, h⟩ := ob_e h
     obtain ⟨s4, hx4, h⟩ := ob_e h
     refine Zi (lo := 7) (hi := 25) htb rfl rfl (by kernel_rfl) (fun c L a w => ∃ (p3 : Value), ∃ (p4 : Value), ∃ (p5 : Value), ∃ (p6 : Value), ∃ (p7 : Value), ∃ (p8 : Value), Sat c ⟨[(0, some vl1), (3, some (vU64 sum1)), (4, some (vI i1)), (20, some (vB (s1.Len == (0 : UInt32)))), (21, bif L 7 then some (vl1) else none), (22, bif L 8 then some (vI i1) else none), (23, bif L 9 then some (p3) else none), (24, bif L 10 then some (p4) else none), (25, bif L 11 then some (vU64 s2.At) else none), (26, bif L 12 then some (vl1) else none), (27, bif L 13 then some (vI i1) else none), (28, bif L 14 then some (p5) else none), (29, bif L 15 then some (p6) else none), (30, bif L 16 then some (vU32 s3.Len) else none), (31, bif L 17 then some (vU64 s3.Len.toUInt64) else none), (32, bif L 18 then some (vU64 (s3.Len.toUInt64 - (1 : UInt64))) else none), (33, bif L 19 then some (vU64 (s2.At + (s3.Len.toUInt64 - (1 : UInt64)))) else none), (34, bif L 20 then some (vl1) else none), (35, bif L 21 then some (vI i1) else none), (36, bif L 22 then some (p7) else none), (37, bif L 23 then some (p8) else none), (38, bif L 24 then some (vU64 s4.At) else none)], [], [Fact.sl SegS vl1 l, (bif L 9 then Fact.pt SegS p3 s2 else Fact.tt), (bif L 10 then Fact.pt u64S p4 s2.At else Fact.tt), (bif L 14 then Fact.pt SegS p5 s3 else Fact.tt), (bif L 15 then Fact.pt u32S p6 s3.Len else Fact.tt), (bif L 22 then Fact.pt SegS p7 s4 else Fact.tt), (bif L 23 then Fact.pt u64S p8 s4.At else Fact.tt)]⟩ a w) [([], [9, 10, 11, 19]), ([], [9, 10, 11, 19]), ([7, 8], [10, 11, 19]), ([7, 8, 9], [11, 19]), ([7, 8, 9, 10], [19]), ([], [14, 15, 16, 17, 18, 19]), ([], [14, 15, 16, 17, 18, 19]), ([12, 13], [15, 16, 17, 18, 19]), ([12, 13, 14], [16, 17, 18, 19]), ([12, 13, 14, 15], [17, 18, 19]), ([12, 13, 14, 15, 16], [18, 19]), ([12, 13, 14, 15, 16, 17], [19]), ([7, 8, 9, 10, 11, 12, 13, 14, 15, 16, 17, 18], []), ([], [22, 23, 24]), ([], [22, 23, 24]), ([20, 21], [23, 24]), ([20, 21, 22], [24]), ([20, 21, 22, 23], [])] rfl (by kernel_rfl) ?_ (Qd ?_ (Qd ?_ (Qd ?_ (Qd ?_ (Qd ?_ (Qd ?_ (Qd ?_ (Qd ?_ (Qd ?_ (Qd ?_ (Qd ?_ (Qd ?_ (Qd ?_ (Qd ?_ (Qd ?_ (Qd ?_ (Qd ?_ (Qd ?_ (QC))))))))))))))))))) ?_
     ·intro a w hs
      exact ⟨undef, undef, undef, undef, undef, undef, hs.startF [21, 22, 23, 24, 25, 26, 27, 28, 29, 30, 31, 32, 33, 34, 35, 36, 37, 38] [] [0, 1, 2, 3, 4, 5, 6] rfl rfl rfl rfl⟩
     ·intro L a w hv K Q hK
      obtain ⟨p3, p4, p5, p6, p7, p8, hs⟩ := hv
      exact wYs rfl rfl rfl hs (cgb hg3) (Qn rfl rfl rfl rfl) fun a w hs => hK a w ⟨p3, p4, p5, p6, p7, p8, pF hs 4 [] [0, 1, 2, 3, 4, 5, 6] rfl⟩
     ·intro L a w hv K Q hK
      obtain ⟨p3, p4, p5, p6, p7, p8, hs⟩ := hv
      exact wYs rfl rfl rfl hs (cgb hg3) (Qn rfl rfl rfl rfl) fun a w hs => hK a w ⟨p3, p4, p5, p6, p7, p8, pF hs 5 [] [0, 1, 2, 3, 4, 5, 6] rfl⟩
     ·intro L a w hv K Q hK
      obtain ⟨p3, p4, p5, p6, p7, p8, hs⟩ := hv
      refine ZO rfl rfl rfl hs (cgb hg3) (Zf rfl rfl rfl rfl rfl slF41 (i := 0) rfl hx2) ?_
      rintro _ ⟨p3', rfl⟩ a' w' hs'
      exact hK a' w' ⟨p3', p4, p5, p6, p7, p8, hs'.putF (i := 6) rfl [] [0, 7, 2, 3, 4, 5, 6] rfl rfl rfl rfl⟩
     ·intro L a w hv K Q hK
      obtain ⟨p3, p4, p5, p6, p7, p8, hs⟩ := hv
      refine ZO rfl rfl rfl hs (cgb hg3) (Za (S' := u64S) (y := s2.At) rfl rfl rfl rfl fldF46x0 (i := 1) rfl (by intro h cs hr; subst hr; rfl)) ?_
      rintro _ ⟨p4', rfl⟩ a' w' hs'
      exact hK a' w' ⟨p3, p4', p5, p6, p7, p8, hs'.putF (i := 7) rfl [] [0, 1, 7, 3, 4, 5, 6] rfl rfl rfl rfl⟩
     ·intro L a w hv K Q hK
      obtain ⟨p3, p4, p5, p6, p7, p8, hs⟩ := hv
      exact wYs rfl rfl rfl hs (cgb hg3) (Zn rfl rfl rfl rfl QV (i := 2) rfl rfl) fun a w hs => hK a w ⟨p3, p4, p5, p6, p7, p8, pF hs 8 [] [0, 1, 2, 3, 4, 5, 6] rfl⟩
     ·intro L a w hv K Q hK
      obtain ⟨p3, p4, p5, p6, p7, p8, hs⟩ := hv
      exact wYs rfl rfl rfl hs (cgb hg3) (Qn rfl rfl rfl rfl) fun a w hs => hK a w ⟨p3, p4, p5, p6, p7, p8, pF hs 9 [] [0, 1, 2, 3, 4, 5, 6] rfl⟩
     ·intro L a w hv K Q hK
      obtain ⟨p3, p4, p5, p6, p7, p8, hs⟩ := hv
      exact wYs rfl rfl rfl hs (cgb hg3) (Qn rfl rfl rfl rfl) fun a w hs => hK a w ⟨p3, p4, p5, p6, p7, p8, pF hs 10 [] [0, 1, 2, 3, 4, 5, 6] rfl⟩
     ·intro L a w hv K Q hK
      obtain ⟨p3, p4, p5, p6, p7, p8, hs⟩ := hv
      refine ZO rfl rfl rfl hs (cgb hg3) (Zf rfl rfl rfl rfl rfl slF41 (i := 0) rfl hx3) ?_
      rintro _ ⟨p5', rfl⟩ a' w' hs'
      exact hK a' w' ⟨p3, p4, p5', p6, p7, p8, hs'.putF (i := 11) rfl [] [0, 1, 2, 7, 4, 5, 6] rfl rfl rfl rfl⟩
     ·intro L a w hv K Q hK
      obtain ⟨p3, p4, p5, p6, p7, p8, hs⟩ := hv
      refine ZO rfl rfl rfl hs (cgb hg3) (Za (S' := u32S) (y := s3.Len) rfl rfl rfl rfl YX (i := 3) rfl (by intro h cs hr; subst hr; rfl)) ?_
      rintro _ ⟨p6', rfl⟩ a' w' hs'
      exact hK a' w' ⟨p3, p4, p5, p6', p7, p8, hs'.putF (i := 12) rfl [] [0, 1, 2, 3, 7, 5, 6] rfl rfl rfl rfl⟩
     ·intro L a w hv K Q hK
      obtain ⟨p3, p4, p5, p6, p7, p8, hs⟩ := hv
      exact wYs rfl rfl rfl hs (cgb hg3) (Zn rfl rfl rfl rfl tyF33 (i := 4) rfl rfl) fun a w hs => hK a w ⟨p3, p4, p5, p6, p7, p8, pF hs 13 [] [0, 1, 2, 3, 4, 5, 6] rfl⟩
     ·intro L a w hv K Q hK
      obtain ⟨p3, p4, p5, p6, p7, p8, hs⟩ := hv
      exact wYs rfl rfl rfl hs (cgb hg3) (QU rfl rfl rfl rfl (ZR (n := s3.Len) Try.underlying33 Try.underlying27)) fun a w hs => hK a w ⟨p3, p4, p5, p6, p7, p8, pF hs 14 [] [0, 1, 2, 3, 4, 5, 6] rfl⟩
     ·intro L a w hv K Q hK
      obtain ⟨p3, p4, p5, p6, p7, p8, hs⟩ := hv
      exact wYs rfl rfl rfl hs (cgb hg3) (Qg rfl rfl rfl rfl rfl (QX (a := s3.Len.toUInt64) (b := (1 : UInt64)))) fun a w hs => hK a w ⟨p3, p4, p5, p6, p7, p8, pF hs 15 [] [0, 1, 2, 3, 4, 5, 6] rfl⟩
     ·intro L a w hv K Q hK
      obtain ⟨p3, p4, p5, p6, p7, p8, hs⟩ := hv
      exact wYs rfl rfl rfl hs (cgb hg3) (Qg rfl rfl rfl rfl rfl (QQ (a := s2.At) (b := s3.Len.toUInt64 - (1 : UInt64)))) fun a w hs => hK a w ⟨p3, p4, p5, p6, p7, p8, pF hs 16 [] [0, 1, 2, 3, 4, 5, 6] rfl⟩
     ·intro L a w hv K Q hK
      obtain ⟨p3, p4, p5, p6, p7, p8, hs⟩ := hv
      exact wYs rfl rfl rfl hs (cgb hg3) (Qn rfl rfl rfl rfl) fun a w hs => hK a w ⟨p3, p4, p5, p6, p7, p8, pF hs 17 [] [0, 1, 2, 3, 4, 5, 6] rfl⟩
     ·intro L a w hv K Q hK
      obtain ⟨p3, p4, p5, p6, p7, p8, hs⟩ := hv
      exact wYs rfl rfl rfl hs (cgb hg3) (Qn rfl rfl rfl rfl) fun a w hs => hK a w ⟨p3, p4, p5, p6, p7, p8, pF hs 18 [] [0, 1, 2, 3, 4, 5, 6] rfl⟩
     ·intro L a w hv K Q hK
      obtain ⟨p3, p4, p5, p6, p7, p8, hs⟩ := hv
      refine ZO rfl rfl rfl hs (cgb hg3) (Zf rfl rfl rfl rfl rfl slF41 (i := 0) rfl hx4) ?_
      rintro _ ⟨p7', rfl⟩ a' w' hs'
      exact hK a' w' ⟨p3, p4, p5, p6, p7', p8, hs'.putF (i := 19) rfl [] [0, 1, 2, 3, 4, 7, 6] rfl rfl rfl rfl⟩
     ·intro L a w hv K Q hK
      obtain ⟨p3, p4, p5, p6, p7, p8, hs⟩ := hv
      refine ZO rfl rfl rfl hs (cgb hg3) (Za (S' := u64S) (y := s4.At) rfl rfl rfl rfl fldF46x0 (i := 5) rfl (by intro h cs hr; subst hr; rfl)) ?_
      rintro _ ⟨p8', rfl⟩ a' w' hs'
      exact hK a' w' ⟨p3, p4, p5, p6, p7, p8', hs'.putF (i := 20) rfl [] [0, 1, 2, 3, 4, 5, 7] rfl rfl rfl rfl⟩
     ·intro L a w hv K Q hK
      obtain ⟨p3, p4, p5, p6, p7, p8, hs⟩ := hv
      exact wYs rfl rfl rfl hs (cgb hg3) (Zn rfl rfl rfl rfl QV (i := 6) rfl rfl) fun a w hs => hK a w ⟨p3, p4, p5, p6, p7, p8, pF hs 21 [] [0, 1, 2, 3, 4, 5, 6] rfl⟩
     ·intro L a w hL hv
      rw [QT hL] at hv
      obtain ⟨p3, p4, p5, p6, p7, p8, hs⟩ := hv
      refine gZ hs [0, 3, 4, 20, 33, 38] [] [0] rfl rfl rfl rfl ?_
      clear hs hL
      refine Xp htb (by kernel_rfl) rfl rfl rfl (cgb hg3) (Qg rfl rfl rfl rfl rfl (Zs (a := s2.At + (s3.Len.toUInt64 - (1 : UInt64))) (b := s4.At))) ?_
      rintro _ rfl
      refine QB htb (by kernel_rfl) rfl rfl (Qu rfl rfl rfl (cgb hg3) rfl) ?_
      refine QB htb (by kernel_rfl) rfl rfl (Qn rfl rfl rfl rfl) ?_
      rcases bC (decide ((s2.At + (s3.Len.toUInt64 - (1 : UInt64))) < s4.At)) with hg4 | hg4
      ·replace h := br_t hg4 h
       refine Yo htb (by kernel_rfl) rfl rfl rfl (cgb hg4) rfl rfl ?_
       refine Yo htb (by kernel_rfl) rfl rfl rfl (cgb hg4) rfl rfl ?_
       refine Yo htb (by kernel_rfl) rfl rfl rfl (cgb hg4) rfl rfl ?_
       refine aZ [0, 3, 4, 41, 44] [] [0] rfl rfl rfl rfl ?_
       refine Zi (lo := 31) (hi := 34) htb rfl rfl (by kernel_rfl) (fun c L a w => Sat c ⟨[(0, some vl1), (3, some (vU64 sum1)), (4, some (vI i1)), (41, some (vB (decide ((s2.At + (s3.Len.toUInt64 - (1 : UInt64))) < s4.At)))), (44, some undef), (45, bif L 31 then some (undef) else none), (46, bif L 32 then some (undef) else none), (47, bif L 33 then some (undef) else none)], [], [Fact.sl SegS vl1 l]⟩ a w) [([], []), ([], [33]), ([32], [])] rfl (by kernel_rfl) ?_ (Qd ?_ (Qd ?_ (Qd ?_ (QC)))) ?_
       ·intro a w hs
        exact hs.startF [45, 46, 47] [] [0] rfl rfl rfl rfl
       ·intro L a w hs K Q hK
        refine Kj rfl rfl rfl hs rfl rfl rfl ?_
        intro a' w' hs'
        exact hK a' w' (hs'.putF (i := 5) rfl [] [0] rfl rfl rfl rfl)
       ·intro L a w hs K Q hK
        refine Kj rfl rfl rfl hs rfl rfl rfl ?_
        intro a' w' hs'
        exact hK a' w' (hs'.putF (i := 6) rfl [] [0] rfl rfl rfl rfl)
       ·intro L a w hs K Q hK
        refine Kj rfl rfl rfl hs rfl rfl rfl ?_
        intro a' w' hs'
        exact hK a' w' (hs'.putF (i := 7) rfl [] [0] rfl rfl rfl rfl)
       ·intro L a w hL hv
        rw [QT hL] at hv
        have hs := hv
        refine gZ hs [0, 3, 4, 41, 44, 45, 47] [] [0] rfl rfl rfl rfl ?_
        clear hs hL
        refine TA_noU htb (by kernel_rfl) rfl rfl rfl rfl rfl rfl ?_
        refine TA_noU htb (by kernel_rfl) rfl rfl rfl rfl rfl rfl ?_
        refine TA_noU htb (by kernel_rfl) rfl rfl rfl rfl rfl rfl ?_
        refine Yo htb (by kernel_rfl) rfl rfl rfl (cgb hg4) rfl rfl ?_
        refine Yo htb (by kernel_rfl) rfl rfl rfl (cgb hg4) rfl rfl ?_
        refine aZ [0, 3, 4, 41, 52] [] [0] rfl rfl rfl rfl ?_
        refine Zi (lo := 39) (hi := 41) htb rfl rfl (by kernel_rfl) (fun c L a w => Sat c ⟨[(0, some vl1), (3, some (vU64 sum1)), (4, some (vI i1)), (41, some (vB (decide ((s2.At + (s3.Len.toUInt64 - (1 : UInt64))) < s4.At)))), (52, some undef), (53, bif L 39 then some (undef) else none), (54, bif L 40 then some (undef) else none)], [], [Fact.sl SegS vl1 l]⟩ a w) [([], []), ([], [])] rfl (by kernel_rfl) ?_ (Qd ?_ (Qd ?_ (QC))) ?_
        ·intro a w hs
         exact hs.startF [53, 54] [] [0] rfl rfl rfl rfl
        ·intro L a w hs K Q hK
         refine Kj rfl rfl rfl hs rfl rfl rfl ?_
         intro a' w' hs'
         exact hK a' w' (hs'.putF (i := 5) rfl [] [0] rfl rfl rfl rfl)
        ·intro L a w hs K Q hK
         refine Kj rfl rfl rfl hs rfl rfl rfl ?_
         intro a' w' hs'
         exact hK a' w' (hs'.putF (i := 6) rfl [] [0] rfl rfl rfl rfl)
        ·intro L a w hL hv
         rw [QT hL] at hv
         have hs := hv
         refine gZ hs [0, 3, 4, 41, 52, 53, 54] [] [0] rfl rfl rfl rfl ?_
         clear hs hL
         refine TA_noU htb (by kernel_rfl) rfl rfl rfl rfl rfl rfl ?_
         refine TA_noU htb (by kernel_rfl) rfl rfl rfl rfl rfl rfl ?_
         refine TA_noU htb (by kernel_rfl) rfl rfl rfl rfl rfl rfl ?_
         refine TA_noU htb (by kernel_rfl) rfl rfl rfl rfl rfl rfl ?_
         refine Yo htb (by kernel_rfl) rfl rfl rfl (cgb hg4) rfl rfl ?_
         refine QB htb (by kernel_rfl) rfl rfl (Qt rfl rfl rfl (cgb hg4) rfl) ?_
         refine ZB rfl ?_
         refine tZ [0, 3, 4, 60] [] [0] rfl rfl rfl rfl ?_
         refine Qk rfl ?_
         refine Qe (Qb (sAs rfl rfl rfl ?_))
         refine Qc (tZ [2] [] [] rfl rfl rfl rfl ?_)
         obtain rfl := Option.some.inj h
         exact Qm rfl rfl (resA (vs := [vI (2 : Int)]) rfl ⟨rfl, trivial⟩) [] [] rfl rfl rfl ⟨rfl, rfl, rfl⟩
      ·replace h := br_f hg4 h
       refine Xp htb (by kernel_rfl) rfl rfl rfl (cgb hg4) (Qn rfl rfl rfl rfl) ?_
       rintro _ rfl
       refine Xp htb (by kernel_rfl) rfl rfl rfl (cgb hg4) (Qg rfl rfl rfl rfl rfl (XR (a := i1) (b := (0 : Int)))) ?_
       rintro _ rfl
       refine Xp htb (by kernel_rfl) rfl rfl rfl (cgb hg4) (Qn rfl rfl rfl rfl) ?_
       rintro _ rfl
       refine aZ [0, 3, 4, 41, 44] [] [0] rfl rfl rfl rfl ?_
       rcases bC (decide (i1 > (0 : Int))) with hg5 | hg5
       ·replace h := br_t hg5 h
        refine Zi (lo := 31) (hi := 34) htb rfl rfl (by kernel_rfl) (fun c L a w => Sat c ⟨[(0, some vl1), (3, some (vU64 sum1)), (4, some (vI i1)), (41, some (vB (decide ((s2.At + (s3.Len.toUInt64 - (1 : UInt64))) < s4.At)))), (44, some (vB (decide (i1 > (0 : Int))))), (45, bif L 31 then some (vl1) else none), (46, bif L 32 then some (vI i1) else none), (47, bif L 33 then some (vI (wi (i1 - (1 : Int)))) else none)], [], [Fact.sl SegS vl1 l]⟩ a w) [([], []), ([], [33]), ([32], [])] rfl (by kernel_rfl) ?_ (Qd ?_ (Qd ?_ (Qd ?_ (QC)))) ?_
        ·intro a w hs
         exact hs.startF [45, 46, 47] [] [0] rfl rfl rfl rfl
        ·intro L a w hs K Q hK
         exact wYs rfl rfl rfl hs (cgb hg5) (Qn rfl rfl rfl rfl) fun a w hs => hK a w (pF hs 5 [] [0] rfl)
        ·intro L a w hs K Q hK
         exact wYs rfl rfl rfl hs (cgb hg5) (Qn rfl rfl rfl rfl) fun a w hs => hK a w (pF hs 6 [] [0] rfl)
        ·intro L a w hs K Q hK
         exact wYs rfl rfl rfl hs (cgb hg5) (Qg rfl rfl rfl rfl rfl (Yy (a := i1) (b := (1 : Int)))) fun a w hs => hK a w (pF hs 7 [] [0] rfl)
        ·intro L a w hL hv
         rw [QT hL] at hv
         have hs := hv
         refine gZ hs [0, 3, 4, 41, 44, 45, 47] [] [0] rfl rfl rfl rfl ?_
         clear hs hL
         obtain ⟨s5, hx5, h⟩ := ob_e h
         refine Xp htb (by kernel_rfl) rfl rfl rfl (cgb hg5) (Zf rfl rfl rfl rfl rfl slF41 (i := 0) rfl hx5) ?_
         rintro _ ⟨p9, rfl⟩
         refine Xp htb (by kernel_rfl) rfl rfl rfl (cgb hg5) (Za (S' := bS) (y := s5.Write) rfl rfl rfl rfl fldF46x2 (i := 1) rfl (by intro h cs hr; subst hr; rfl)) ?_
         rintro _ ⟨p10, rfl⟩
         refine Xp htb (by kernel_rfl) rfl rfl rfl (cgb hg5) (Zn rfl rfl rfl rfl tyF4 (i := 2) rfl rfl) ?_
         rintro _ rfl
         refine Xp htb (by kernel_rfl) rfl rfl rfl (cgb hg4) (Qt rfl rfl rfl (cgb hg5) rfl) ?_
         rintro _ rfl
         refine Xp htb (by kernel_rfl) rfl rfl rfl (cgb hg4) (Qn rfl rfl rfl rfl) ?_
         rintro _ rfl
         refine aZ [0, 3, 4, 41, 52] [] [0] rfl rfl rfl rfl ?_
         rcases bC (s5.Write) with hg6 | hg6
         ·replace h := br_t hg6 h
          refine Zi (lo := 39) (hi := 41) htb rfl rfl (by kernel_rfl) (fun c L a w => Sat c ⟨[(0, some vl1), (3, some (vU64 sum1)), (4, some (vI i1)), (41, some (vB (decide ((s2.At + (s3.Len.toUInt64 - (1 : UInt64))) < s4.At)))), (52, some (vB s5.Write)), (53, bif L 39 then some (vl1) else none), (54, bif L 40 then some (vI i1) else none)], [], [Fact.sl SegS vl1 l]⟩ a w) [([], []), ([], [])] rfl (by kernel_rfl) ?_ (Qd ?_ (Qd ?_ (QC))) ?_
          ·intro a w hs
           exact hs.startF [53, 54] [] [0] rfl rfl rfl rfl
          ·intro L a w hs K Q hK
           exact wYs rfl rfl rfl hs (cgb hg6) (Qn rfl rfl rfl rfl) fun a w hs => hK a w (pF hs 5 [] [0] rfl)
          ·intro L a w hs K Q hK
           exact wYs rfl rfl rfl hs (cgb hg6) (Qn rfl rfl rfl rfl) fun a w hs => hK a w (pF hs 6 [] [0] rfl)
          ·intro L a w hL hv
           rw [QT hL] at hv
           have hs := hv
           refine gZ hs [0, 3, 4, 41, 52, 53, 54] [] [0] rfl rfl rfl rfl ?_
           clear hs hL
           obtain ⟨s6, hx6, h⟩ := ob_e h
           refine Xp htb (by kernel_rfl) rfl rfl rfl (cgb hg6) (Zf rfl rfl rfl rfl rfl slF41 (i := 0) rfl hx6) ?_
           rintro _ ⟨p11, rfl⟩
           refine Xp htb (by kernel_rfl) rfl rfl rfl (cgb hg6) (Za (S' := bS) (y := s6.Write) rfl rfl rfl rfl fldF46x2 (i := 1) rfl (by intro h cs hr; subst hr; rfl)) ?_
           rintro _ ⟨p12, rfl⟩
           refine Xp htb (by kernel_rfl) rfl rfl rfl (cgb hg6) (Zn rfl rfl rfl rfl tyF4 (i := 2) rfl rfl) ?_
           rintro _ rfl
           refine Xp htb (by kernel_rfl) rfl rfl rfl (cgb hg6) (Xd rfl rfl rfl rfl) ?_
           rintro _ rfl
           refine Xp htb (by kernel_rfl) rfl rfl rfl (cgb hg4) (Qt rfl rfl rfl (cgb hg6) rfl) ?_
           rintro _ rfl
           refine QB htb (by kernel_rfl) rfl rfl (Qu rfl rfl rfl (cgb hg4) rfl) ?_
           refine ZB rfl ?_
           refine tZ [0, 3, 4, 60] [] [0] rfl rfl rfl rfl ?_
           rcases bC ((!s6.Write)) with hg7 | hg7
           ·replace h := br_t hg7 h
            refine Qk (cgb hg7) ?_
            refine Qe (Qb (sAs rfl rfl rfl ?_))
            refine Qc (tZ [2] [] [] rfl rfl rfl rfl ?_)
            obtain rfl := Option.some.inj h
            exact Qm rfl rfl (resA (vs := [vI (2 : Int)]) rfl ⟨rfl, trivial⟩) [] [] rfl rfl rfl ⟨rfl, rfl, rfl⟩
           ·replace h := br_f hg7 h
            refine Qo (cgb hg7) ?_
            refine Qs (Qb (sMv rfl rfl rfl ?_))
            refine sMv rfl rfl rfl ?_
            refine sMv rfl rfl rfl ?_
            obtain ⟨s7, hx7, h⟩ := ob_e h
            refine Qx rfl (Zf rfl rfl rfl rfl rfl slF41 (i := 0) rfl hx7) fun p13 => ?_
            refine Qx rfl (Za (S' := u32S) (y := s7.Len) rfl rfl rfl rfl YX (i := 1) rfl (by intro h cs hr; subst hr; rfl)) fun p14 => ?_
            refine Qa rfl (Zn rfl rfl rfl rfl tyF33 (i := 2) rfl rfl) ?_
            refine Qa rfl (QU rfl rfl rfl rfl (ZR (n := s7.Len) Try.underlying33 Try.underlying27)) ?_
            refine Qa rfl (Qg rfl rfl rfl rfl rfl (QQ (a := sum1) (b := s7.Len.toUInt64))) ?_
            refine sAs rfl rfl rfl ?_
            refine Qc (tZ [0, 3, 4] [] [0] rfl rfl rfl rfl ?_)
            refine ZD (Qb (sMv rfl rfl rfl ?_))
            refine Qa rfl (Qg rfl rfl rfl rfl rfl (QO (a := i1) (b := (1 : Int)))) ?_
            refine sAs rfl rfl rfl ?_
            refine Qc (tZ [0, 3, 4] [] [0] rfl rfl rfl rfl ?_)
            exact Ze (sum1 + s7.Len.toUInt64, wi (i1 + (1 : Int))) h [0, 3, 4] [] [0] rfl rfl rfl rfl rfl
         ·replace h := br_f hg6 h
          refine Zi (lo := 39) (hi := 41) htb rfl rfl (by kernel_rfl) (fun c L a w => Sat c ⟨[(0, some vl1), (3, some (vU64 sum1)), (4, some (vI i1)), (41, some (vB (decide ((s2.At + (s3.Len.toUInt64 - (1 : UInt64))) < s4.At)))), (52, some (vB s5.Write)), (53, bif L 39 then some (undef) else none), (54, bif L 40 then some (undef) else none)], [], [Fact.sl SegS vl1 l]⟩ a w) [([], []), ([], [])] rfl (by kernel_rfl) ?_ (Qd ?_ (Qd ?_ (QC))) ?_
          ·intro a w hs
           exact hs.startF [53, 54] [] [0] rfl rfl rfl rfl
          ·intro L a w hs K Q hK
           exact Qz rfl rfl rfl hs (cgb hg6) rfl rfl fun a w hs => hK a w (pF hs 5 [] [0] rfl)
          ·intro L a w hs K Q hK
           exact Qz rfl rfl rfl hs (cgb hg6) rfl rfl fun a w hs => hK a w (pF hs 6 [] [0] rfl)
          ·intro L a w hL hv
           rw [QT hL] at hv
           have hs := hv
           refine gZ hs [0, 3, 4, 41, 52, 53, 54] [] [0] rfl rfl rfl rfl ?_
           clear hs hL
           refine Yo htb (by kernel_rfl) rfl rfl rfl (cgb hg6) rfl rfl ?_
           refine Yo htb (by kernel_rfl) rfl rfl rfl (cgb hg6) rfl rfl ?_
           refine Yo htb (by kernel_rfl) rfl rfl rfl (cgb hg6) rfl rfl ?_
           refine Yo htb (by kernel_rfl) rfl rfl rfl (cgb hg6) rfl rfl ?_
           refine Xp htb (by kernel_rfl) rfl rfl rfl (cgb hg4) (Qu rfl rfl rfl (cgb hg6) rfl) ?_
           rintro _ rfl
           refine QB htb (by kernel_rfl) rfl rfl (Qu rfl rfl rfl (cgb hg4) rfl) ?_
           refine ZB rfl ?_
           refine tZ [0, 3, 4, 60] [] [0] rfl rfl rfl rfl ?_
           refine Qo rfl ?_
           refine Qs (Qb (sMv rfl rfl rfl ?_))
           refine sMv rfl rfl rfl ?_
           refine sMv rfl rfl rfl ?_
           obtain ⟨s8, hx8, h⟩ := ob_e h
           refine Qx rfl (Zf rfl rfl rfl rfl rfl slF41 (i := 0) rfl hx8) fun p15 => ?_
           refine Qx rfl (Za (S' := u32S) (y := s8.Len) rfl rfl rfl rfl YX (i := 1) rfl (by intro h cs hr; subst hr; rfl)) fun p16 => ?_
           refine Qa rfl (Zn rfl rfl rfl rfl tyF33 (i := 2) rfl rfl) ?_
           refine Qa rfl (QU rfl rfl rfl rfl (ZR (n := s8.Len) Try.underlying33 Try.underlying27)) ?_
           refine Qa rfl (Qg rfl rfl rfl rfl rfl (QQ (a := sum1) (b := s8.Len.toUInt64))) ?_
           refine sAs rfl rfl rfl ?_
           refine Qc (tZ [0, 3, 4] [] [0] rfl rfl rfl rfl ?_)
           refine ZD (Qb (sMv rfl rfl rfl ?_))
           refine Qa rfl (Qg rfl rfl rfl rfl rfl (QO (a := i1) (b := (1 : Int)))) ?_
           refine sAs rfl rfl rfl ?_
           refine Qc (tZ [0, 3, 4] [] [0] rfl rfl rfl rfl ?_)
           exact Ze (sum1 + s8.Len.toUInt64, wi (i1 + (1 : Int))) h [0, 3, 4] [] [0] rfl rfl rfl rfl rfl
       ·replace h := br_f hg5 h
        refine Zi (lo := 31) (hi := 34) htb rfl rfl (by kernel_rfl) (fun c L a w => Sat c ⟨[(0, some vl1), (3, some (vU64 sum1)), (4, some (vI i1)), (41, some (vB (decide ((s2.At + (s3.Len.toUInt64 - (1 : UInt64))) < s4.At)))), (44, some (vB (decide (i1 > (0 : Int))))), (45, bif L 31 then some (undef) else none), (46, bif L 32 then some (undef) else none), (47, bif L 33 then some (undef) else none)], [], [Fact.sl SegS vl1 l]⟩ a w) [([], []), ([], [33]), ([32], [])] rfl (by kernel_rfl) ?_ (Qd ?_ (Qd ?_ (Qd ?_ (QC)))) ?_
        ·intro a w hs
         exact hs.startF [45, 46, 47] [] [0] rfl rfl rfl rfl
        ·intro L a w hs K Q hK
         exact Qz rfl rfl rfl hs (cgb hg5) rfl rfl fun a w hs => hK a w (pF hs 5 [] [0] rfl)
        ·intro L a w hs K Q hK
         exact Qz rfl rfl rfl hs (cgb hg5) rfl rfl fun a w hs => hK a w (pF hs 6 [] [0] rfl)
        ·intro L a w hs K Q hK
         exact Qz rfl rfl rfl hs (cgb hg5) rfl rfl fun a w hs => hK a w (pF hs 7 [] [0] rfl)
        ·intro L a w hL hv
         rw [QT hL] at hv
         have hs := hv
         refine gZ hs [0, 3, 4, 41, 44, 45, 47] [] [0] rfl rfl rfl rfl ?_
         clear hs hL
         refine Yo htb (by kernel_rfl) rfl rfl rfl (cgb hg5) rfl rfl ?_
         refine Yo htb (by kernel_rfl) rfl rfl rfl (cgb hg5) rfl rfl ?_
         refine Yo htb (by kernel_rfl) rfl rfl rfl (cgb hg5) rfl rfl ?_
         refine Xp htb (by kernel_rfl) rfl rfl rfl (cgb hg4) (Qu rfl rfl rfl (cgb hg5) rfl) ?_
         rintro _ rfl
         refine Xp htb (by kernel_rfl) rfl rfl rfl (cgb hg4) (Qn rfl rfl rfl rfl) ?_
         rintro _ rfl
         refine aZ [0, 3, 4, 41, 52] [] [0] rfl rfl rfl rfl ?_
         refine Zi (lo := 39) (hi := 41) htb rfl rfl (by kernel_rfl) (fun c L a w => Sat c ⟨[(0, some vl1), (3, some (vU64 sum1)), (4, some (vI i1)), (41, some (vB (decide ((s2.At + (s3.Len.toUInt64 - (1 : UInt64))) < s4.At)))), (52, some (vB false)), (53, bif L 39 then some (undef) else none), (54, bif L 40 then some (undef) else none)], [], [Fact.sl SegS vl1 l]⟩ a w) [([], []), ([], [])] rfl (by kernel_rfl) ?_ (Qd ?_ (Qd ?_ (QC))) ?_
         ·intro a w hs
          exact hs.startF [53, 54] [] [0] rfl rfl rfl rfl
         ·intro L a w hs K Q hK
          exact Qz rfl rfl rfl hs rfl rfl rfl fun a w hs => hK a w (pF hs 5 [] [0] rfl)
         ·intro L a w hs K Q hK
          exact Qz rfl rfl rfl hs rfl rfl rfl fun a w hs => hK a w (pF hs 6 [] [0] rfl)
         ·intro L a w hL hv
          rw [QT hL] at hv
          have hs := hv
          refine gZ hs [0, 3, 4, 41, 52, 53, 54] [] [0] rfl rfl rfl rfl ?_
          clear hs hL
          refine Yo htb (by kernel_rfl) rfl rfl rfl rfl rfl rfl ?_
          refine Yo htb (by kernel_rfl) rfl rfl rfl rfl rfl rfl ?_
          refine Yo htb (by kernel_rfl) rfl rfl rfl rfl rfl rfl ?_
          refine Yo htb (by kernel_rfl) rfl rfl rfl rfl rfl rfl ?_
          refine Xp htb (by kernel_rfl) rfl rfl rfl (cgb hg4) (Qu rfl rfl rfl rfl rfl) ?_
          rintro _ rfl
          refine QB htb (by kernel_rfl) rfl rfl (Qu rfl rfl rfl (cgb hg4) rfl) ?_
          refine ZB rfl ?_
          refine tZ [0, 3, 4, 60] [] [0] rfl rfl rfl rfl ?_
          refine Qo rfl ?_
          refine Qs (Qb (sMv rfl rfl rfl ?_))
          refine sMv rfl rfl rfl ?_
          refine sMv rfl rfl rfl ?_
          obtain ⟨s9, hx9, h⟩ := ob_e h
          refine Qx rfl (Zf rfl rfl rfl rfl rfl slF41 (i := 0) rfl hx9) fun p17 => ?_
          refine Qx rfl (Za (S' := u32S) (y := s9.Len) rfl rfl rfl rfl YX (i := 1) rfl (by intro h cs hr; subst hr; rfl)) fun p18 => ?_
          refine Qa rfl (Zn rfl rfl rfl rfl tyF33 (i := 2) rfl rfl) ?_
          refine Qa rfl (QU rfl rfl rfl rfl (ZR (n := s9.Len) Try.underlying33 Try.underlying27)) ?_
          refine Qa rfl (Qg rfl rfl rfl rfl rfl (QQ (a := sum1) (b := s9.Len.toUInt64))) ?_
          refine sAs rfl rfl rfl ?_
          refine Qc (tZ [0, 3, 4] [] [0] rfl rfl rfl rfl ?_)
          refine ZD (Qb (sMv rfl rfl rfl ?_))
          refine Qa rfl (Qg rfl rfl rfl rfl rfl (QO (a := i1) (b := (1 : Int)))) ?_
          refine sAs rfl rfl rfl ?_
          refine Qc (tZ [0, 3, 4] [] [0] rfl rfl rfl rfl ?_)
          exact Ze (sum1 + s9.Len.toUInt64, wi (i1 + (1 : Int))) h [0, 3, 4] [] [0] rfl rfl rfl rfl rfl
  ·replace h := br_f hg2 h
   refine Qo (cgb hg2) ?_
   refine ZA _ rfl ?_
   refine Qe (Qe (Qb (sMv rfl rfl rfl ?_)))
   refine Qa rfl (Qg rfl rfl rfl rfl rfl (bin_geq_u64 (a := sum1) (b := (4294967296 : UInt64)))) ?_
   refine Qc (tZ [70] [] [] rfl rfl rfl rfl ?_)
   rcases bC (decide (sum1 ≥ (4294967296 : UInt64))) with hg8 | hg8
   ·replace h := br_t hg8 h
    refine Qk (cgb hg8) ?_
    refine Qe (Qb (sAs rfl rfl rfl ?_))
    refine Qc (tZ [2] [] [] rfl rfl rfl rfl ?_)
    obtain rfl := Option.some.inj h
    exact Qm rfl rfl (resA (vs := [vI (2 : Int)]) rfl ⟨rfl, trivial⟩) [] [] rfl rfl rfl ⟨rfl, rfl, rfl⟩
   ·replace h := br_f hg8 h
    refine Qo (cgb hg8) ?_
    refine Qs (Qe (Qb (sAs rfl rfl rfl ?_)))
    refine Qc (tZ [2] [] [] rfl rfl rfl rfl ?_)
    obtain rfl := Option.some.inj h
    exact Qm rfl rfl (resA (vs := [vI (0 : Int)]) rfl ⟨rfl, trivial⟩) [] [] rfl rfl rfl ⟨rfl, rfl, rfl⟩

set_option maxRecDepth 100000 in
set_option maxHeartbeats 4000000 in
theorem w_ref_In05 {m : dumbwaiterref02_Mem} {l : List Seg} {b_m : Nat} {vm1 : Value} {vm2 : Value} {vsm1 : List Value} {vl1 : Value} {r : Int} (h : ref_In05 m l = some r) :
  Ctr Try.prog 97 #[.pointer (some ⟨b_m, 0, none⟩), vl1] [(Ql b_m 152 [vm1, vm2]), (QI u8S false vm2 vsm1 m.B none)] [Fact.sl Qv vm1 m.L, Fact.sl SegS vl1 l]
   (fun rv own shr => rv = vI r ∧ own = [(Ql b_m 152 [vm1, vm2]), (QI u8S false vm2 vsm1 m.B none)] ∧ shr = []) := by
 unfold ref_In05 at h
 refine Ctr.mk (args := [.pointer (some ⟨b_m, 0, none⟩), vl1]) Try.func97 rfl rfl (fun R0 w0 B => ?_)
 refine Qe (Qb (sAs rfl rfl rfl ?_))
 refine Qc (tZ [0, 1] [0, 1] [0, 1] rfl rfl rfl rfl ?_)
 refine Qe (Qe (Qb (sMv rfl rfl rfl ?_)))
 refine Qa rfl (OpT_ptrNil rfl rfl rfl (.inl rfl) rfl rfl ptrF26) ?_
 refine Qc (tZ [0, 1, 8] [0, 1] [0, 1] rfl rfl rfl rfl ?_)
 refine Qo rfl ?_
 refine Qs (Qe (Qb (sMv rfl rfl rfl ?_)))
 obtain ⟨check1, hx1, h⟩ := ob_e h
 refine Qr rfl (QD (w_ref_Check05 hx1) [] [1] rfl rfl rfl rfl rfl callee96 rfl rfl rfl rfl) ?_
 rintro _ ⟨_, _, _, ⟨rfl, rfl, rfl⟩, rfl⟩
 refine sAs rfl rfl rfl ?_
 refine Qc (tZ [0, 1, 5] [0, 1] [0, 1] rfl rfl rfl rfl ?_)
 refine Qe (Qe (Qb (sAs rfl rfl rfl ?_)))
 refine Qc (QJ (Zx (σ := Int × Int) [0, 1, 5, 6] [0, 1] [0, 1] (fun s => ⟨[(0, some (.pointer (some ⟨b_m, 0, none⟩))), (1, some vl1), (5, some (vI s.1)), (6, some (vI s.2))], [some (Ql b_m 152 [vm1, vm2]), some (QI u8S false vm2 vsm1 m.B none)], [Fact.sl Qv vm1 m.L, Fact.sl SegS vl1 l]⟩) (fun nf1 s => YG m l nf1 s.1 s.2 = some r) fuel (check1, (0 : Int)) h rfl rfl rfl rfl rfl (fun s h => by cases h) ?_))
 rintro nf1 ⟨e1, i1⟩ h
 replace h : ref_In05L1B m l (YG m l nf1) e1 i1 = some r := h
 unfold ref_In05L1B at h
 refine Qe (Qe (Qb (sMv rfl rfl rfl ?_)))
 refine sMv rfl rfl rfl ?_
 refine Qa rfl (Zq rfl rfl rfl rfl Try.underlying41 (i := 1) rfl) ?_
 refine Qa rfl (Qg rfl rfl rfl rfl rfl (QP (a := i1) (b := len l))) ?_
 refine sMv rfl rfl rfl ?_
 rcases bC (decide (i1 < (len l))) with hg1 | hg1
 ·replace h := br_t hg1 h
  refine Qh rfl rfl (cgb hg1) (Qn rfl rfl rfl rfl) ?_
  rintro _ rfl
  refine Qh rfl rfl (cgb hg1) (Qg rfl rfl rfl rfl rfl (Zg (a := e1) (b := (0 : Int)))) ?_
  rintro _ rfl
  refine Qa rfl (Qt rfl rfl rfl (cgb hg1) rfl) ?_
  refine Qc (tZ [0, 1, 5, 6, 18] [0, 1] [0, 1] rfl rfl rfl rfl ?_)
  rcases bC (e1 == (0 : Int)) with hg2 | hg2
  ·replace h := br_t hg2 h
   refine Qk (cgb hg2) ?_
   refine Qs (Qe (QJ (Qe (Zm (by kernel_rfl) ?_))))
   refine Yz [0, 0, 0, 6, 14, 30, 0, 0, 192, 448, 960, 1984, 4095, 8191] (by kernel_rfl) fun htb => ?_
   refine aZ [0, 1, 5, 6] [0, 1] [0, 1] rfl rfl rfl rfl ?_
   obtain ⟨s1, hx2, h⟩ := ob_e h
   obtain ⟨s2, hx3, h⟩ := ob_e h
   refine Zi (lo := 0) (hi := 12) htb rfl rfl (by kernel_rfl) (fun c L a w => ∃ (p1 : Value), ∃ (p2 : Value), ∃ (p3 : Value), ∃ (p4 : Value), Sat c ⟨[(0, some (.pointer (some ⟨b_m, 0, none⟩))), (1, some vl1), (5, some (vI e1)), (6, some (vI i1)), (21, bif L 0 then some (.pointer (some ⟨b_m, 0, none⟩)) else none), (22, bif L 1 then some (vl1) else none), (23, bif L 2 then some (vI i1) else none), (24, bif L 3 then some (p1) else none), (25, bif L 4 then some (p2) else none), (26, bif L 5 then some (vU64 s1.At) else none), (27, bif L 6 then some (vl1) else none), (28, bif L 7 then some (vI i1) else none), (29, bif L 8 then some (p3) else none), (30, bif L 9 then some (p4) else none), (31, bif L 10 then some (vU32 s2.Len) else none), (32, bif L 11 then some (vU64 s2.Len.toUInt64) else none)], [(some (Ql b_m 152 [vm1, vm2]) : Option Res), (some (QI u8S false vm2 vsm1 m.B none) : Option Res)], [Fact.sl Qv vm1 m.L, Fact.sl SegS vl1 l, (bif L 3 then Fact.pt SegS p1 s1 else Fact.tt), (bif L 4 then Fact.pt u64S p2 s1.At else Fact.tt), (bif L 8 then Fact.pt SegS p3 s2 else Fact.tt), (bif L 9 then Fact.pt u32S p4 s2.Len else Fact.tt)]⟩ a w) [([], []), ([], [3, 4, 5]), ([], [3, 4, 5]), ([1, 2], [4, 5]), ([1, 2, 3], [5]), ([1, 2, 3, 4], []), ([], [8, 9, 10, 11]), ([], [8, 9, 10, 11]), ([6, 7], [9, 10, 11]), ([6, 7, 8], [10, 11]), ([6, 7, 8, 9], [11]), ([6, 7, 8, 9, 10], [])] rfl (by kernel_rfl) ?_ (Qd ?_ (Qd ?_ (Qd ?_ (Qd ?_ (Qd ?_ (Qd ?_ (Qd ?_ (Qd ?_ (Qd ?_ (Qd ?_ (Qd ?_ (Qd ?_ (QC))))))))))))) ?_
   ·intro a w hs
    exact ⟨undef, undef, undef, undef, hs.startF [21, 22, 23, 24, 25, 26, 27, 28, 29, 30, 31, 32] [0, 1] [0, 1, 2, 3, 4, 5] rfl rfl rfl rfl⟩
   ·intro L a w hv K Q hK
    obtain ⟨p1, p2, p3, p4, hs⟩ := hv
    exact wGo rfl rfl hs (Qn rfl rfl rfl rfl) fun a w hs => hK a w ⟨p1, p2, p3, p4, pF hs 4 [0, 1] [0, 1, 2, 3, 4, 5] rfl⟩
   ·intro L a w hv K Q hK
    obtain ⟨p1, p2, p3, p4, hs⟩ := hv
    exact wGo rfl rfl hs (Qn rfl rfl rfl rfl) fun a w hs => hK a w ⟨p1, p2, p3, p4, pF hs 5 [0, 1] [0, 1, 2, 3, 4, 5] rfl⟩
   ·intro L a w hv K Q hK
    obtain ⟨p1, p2, p3, p4, hs⟩ := hv
    exact wGo rfl rfl hs (Qn rfl rfl rfl rfl) fun a w hs => hK a w ⟨p1, p2, p3, p4, pF hs 6 [0, 1] [0, 1, 2, 3, 4, 5] rfl⟩
   ·intro L a w hv K Q hK
    obtain ⟨p1, p2, p3, p4, hs⟩ := hv
    refine Zo rfl rfl hs (Zf rfl rfl rfl rfl rfl slF41 (i := 1) rfl hx2) ?_
    rintro _ ⟨p1', rfl⟩ a' w' hs'
    exact hK a' w' ⟨p1', p2, p3, p4, hs'.putF (i := 7) rfl [0, 1] [0, 1, 6, 3, 4, 5] rfl rfl rfl rfl⟩
   ·intro L a w hv K Q hK
    obtain ⟨p1, p2, p3, p4, hs⟩ := hv
    refine Zo rfl rfl hs (Za (S' := u64S) (y := s1.At) rfl rfl rfl rfl fldF46x0 (i := 2) rfl (by intro h cs hr; subst hr; rfl)) ?_
    rintro _ ⟨p2', rfl⟩ a' w' hs'
    exact hK a' w' ⟨p1, p2', p3, p4, hs'.putF (i := 8) rfl [0, 1] [0, 1, 2, 6, 4, 5] rfl rfl rfl rfl⟩
   ·intro L a w hv K Q hK
    obtain ⟨p1, p2, p3, p4, hs⟩ := hv
    exact wGo rfl rfl hs (Zn rfl rfl rfl rfl QV (i := 3) rfl rfl) fun a w hs => hK a w ⟨p1, p2, p3, p4, pF hs 9 [0, 1] [0, 1, 2, 3, 4, 5] rfl⟩
   ·intro L a w hv K Q hK
    obtain ⟨p1, p2, p3, p4, hs⟩ := hv
    exact wGo rfl rfl hs (Qn rfl rfl rfl rfl) fun a w hs => hK a w ⟨p1, p2, p3, p4, pF hs 10 [0, 1] [0, 1, 2, 3, 4, 5] rfl⟩
   ·intro L a w hv K Q hK
    obtain ⟨p1, p2, p3, p4, hs⟩ := hv
    exact wGo rfl rfl hs (Qn rfl rfl rfl rfl) fun a w hs => hK a w ⟨p1, p2, p3, p4, pF hs 11 [0, 1] [0, 1, 2, 3, 4, 5] rfl⟩
   ·intro L a w hv K Q hK
    obtain ⟨p1, p2, p3, p4, hs⟩ := hv
    refine Zo rfl rfl hs (Zf rfl rfl rfl rfl rfl slF41 (i := 1) rfl hx3) ?_
    rintro _ ⟨p3', rfl⟩ a' w' hs'
    exact hK a' w' ⟨p1, p2, p3', p4, hs'.putF (i := 12) rfl [0, 1] [0, 1, 2, 3, 6, 5] rfl rfl rfl rfl⟩
   ·intro L a w hv K Q hK
    obtain ⟨p1, p2, p3, p4, hs⟩ := hv
    refine Zo rfl rfl hs (Za (S' := u32S) (y := s2.Len) rfl rfl rfl rfl YX (i := 4) rfl (by intro h cs hr; subst hr; rfl)) ?_
    rintro _ ⟨p4', rfl⟩ a' w' hs'
    exact hK a' w' ⟨p1, p2, p3, p4', hs'.putF (i := 13) rfl [0, 1] [0, 1, 2, 3, 4, 6] rfl rfl rfl rfl⟩
   ·intro L a w hv K Q hK
    obtain ⟨p1, p2, p3, p4, hs⟩ := hv
    exact wGo rfl rfl hs (Zn rfl rfl rfl rfl tyF33 (i := 5) rfl rfl) fun a w hs => hK a w ⟨p1, p2, p3, p4, pF hs 14 [0, 1] [0, 1, 2, 3, 4, 5] rfl⟩
   ·intro L a w hv K Q hK
    obtain ⟨p1, p2, p3, p4, hs⟩ := hv
    exact wGo rfl rfl hs (QU rfl rfl rfl rfl (ZR (n := s2.Len) Try.underlying33 Try.underlying27)) fun a w hs => hK a w ⟨p1, p2, p3, p4, pF hs 15 [0, 1] [0, 1, 2, 3, 4, 5] rfl⟩
   ·intro L a w hL hv
    rw [QT hL] at hv
    obtain ⟨p1, p2, p3, p4, hs⟩ := hv
    refine gZ hs [0, 1, 5, 6, 21, 26, 32] [0, 1] [0, 1] rfl rfl rfl rfl ?_
    clear hs hL
    obtain ⟨has1, hx4, h⟩ := ob_e h
    refine TA_exP htb (by kernel_rfl) rfl rfl (Qw [2, 3] (w_ref_Mem_Has02 hx4) [0, 1] [0] rfl rfl rfl rfl rfl callee116 rfl rfl rfl rfl rfl) ?_
    rintro _ ⟨_, _, _, ⟨rfl, rfl, rfl⟩, rfl⟩
    refine QB htb (by kernel_rfl) rfl rfl (Xd rfl rfl rfl rfl) ?_
    refine ZB rfl ?_
    refine tZ [0, 1, 5, 6, 34] [0, 1] [0, 1] rfl rfl rfl rfl ?_
    rcases bC ((!has1)) with hg3 | hg3
    ·replace h := br_t hg3 h
     refine Qk (cgb hg3) ?_
     refine Qb (sAs rfl rfl rfl ?_)
     refine Qc (tZ [0, 1, 5, 6] [0, 1] [0, 1] rfl rfl rfl rfl ?_)
     refine ZD (Qb (sMv rfl rfl rfl ?_))
     refine Qa rfl (Qg rfl rfl rfl rfl rfl (QO (a := i1) (b := (1 : Int)))) ?_
     refine sAs rfl rfl rfl ?_
     refine Qc (tZ [0, 1, 5, 6] [0, 1] [0, 1] rfl rfl rfl rfl ?_)
     exact Ze ((5 : Int), wi (i1 + (1 : Int))) h [0, 1, 5, 6] [0, 1] [0, 1] rfl rfl rfl rfl rfl
    ·replace h := br_f hg3 h
     refine Qo (cgb hg3) ?_
     refine Qs (ZD (Qb (sMv rfl rfl rfl ?_)))
     refine Qa rfl (Qg rfl rfl rfl rfl rfl (QO (a := i1) (b := (1 : Int)))) ?_
     refine sAs rfl rfl rfl ?_
     refine Qc (tZ [0, 1, 5, 6] [0, 1] [0, 1] rfl rfl rfl rfl ?_)
     exact Ze (e1, wi (i1 + (1 : Int))) h [0, 1, 5, 6] [0, 1] [0, 1] rfl rfl rfl rfl rfl
  ·replace h := br_f hg2 h
   refine Qo (cgb hg2) ?_
   refine ZA _ rfl ?_
   refine Qe (Qb (sMv rfl rfl rfl ?_))
   refine sAs rfl rfl rfl ?_
   refine Qc (tZ [4] [0, 1] [0] rfl rfl rfl rfl ?_)
   obtain rfl := Option.some.inj h
   exact Qm rfl rfl (resA (vs := [vI e1]) rfl ⟨rfl, trivial⟩) [0, 1] [] rfl rfl rfl ⟨rfl, rfl, rfl⟩
 ·replace h := br_f hg1 h
  refine Qf rfl rfl (cgb hg1) rfl rfl ?_
  refine Qf rfl rfl (cgb hg1) rfl rfl ?_
  refine Qa rfl (Qu rfl rfl rfl (cgb hg1) rfl) ?_
  refine Qc (tZ [0, 1, 5, 6, 18] [0, 1] [0, 1] rfl rfl rfl rfl ?_)
  refine Qo rfl ?_
  refine ZA _ rfl ?_
  refine Qe (Qb (sMv rfl rfl rfl ?_))
  refine sAs rfl rfl rfl ?_
  refine Qc (tZ [4] [0, 1] [0] rfl rfl rfl rfl ?_)
  obtain rfl := Option.some.inj h
  exact Qm rfl rfl (resA (vs := [vI e1]) rfl ⟨rfl, trivial⟩) [0, 1] [] rfl rfl rfl ⟨rfl, rfl, rfl⟩

set_option maxRecDepth 100000 in
set_option maxHeartbeats 4000000 in
theorem w_ref_reader_end10 {arg0 : dumbwaiterref10_reader} {arg0_m : dumbwaiterref02_Mem} {b_arg0 : Nat} {b_arg0_m : Nat} {varg0m1 : Value} {varg0m2 : Value} {vsarg0m1 : List Value} {varg01 : Value} {r : ((List Seg) × Int)} (h : XA arg0 arg0_m = some r) :
  Ctr Try.prog 52 #[.pointer (some ⟨b_arg0, 0, none⟩)] [(Ql b_arg0 118 [.pointer (some ⟨b_arg0_m, 0, none⟩), varg01, vI arg0.n, vI arg0.e]), (rowS SegS varg01 arg0.segs), (Ql b_arg0_m 152 [varg0m1, varg0m2]), (QI u8S false varg0m2 vsarg0m1 arg0_m.B none)] [Fact.sl Qv varg0m1 arg0_m.L]
   (fun rv own shr => ∃ (w1 : Value), rv = .tuple #[w1, vI r.2] ∧ own = [(Ql b_arg0_m 152 [varg0m1, varg0m2]), (QI u8S false varg0m2 vsarg0m1 arg0_m.B none), (rowS SegS w1 r.1)] ∧ shr = []) := by
 unfold XA at h
 refine Ctr.mk (args := [.pointer (some ⟨b_arg0, 0, none⟩)]) Try.func52 rfl rfl (fun R0 w0 B => ?_)
 refine Qe (Qb (sAs rfl rfl rfl ?_))
 refine sAs rfl rfl rfl ?_
 refine Qc (tZ [0] [0, 1, 2, 3] [0] rfl rfl rfl rfl ?_)
 refine Qe (Qe (Qb (sMv rfl rfl rfl ?_)))
 refine Qa rfl (Qy rfl rfl rfl rfl) ?_
 refine Qa rfl (Qi rfl rfl rfl rfl Xk) ?_
 refine Qa rfl (Qj rfl rfl rfl rfl XC (i := 0) rfl rfl) ?_
 refine Qa rfl (Qg rfl rfl rfl rfl rfl (Zg (a := arg0.e) (b := (0 : Int)))) ?_
 refine sMv rfl rfl rfl ?_
 rcases bC (arg0.e == (0 : Int)) with hg1 | hg1
 ·replace h := br_t hg1 h
  refine Qh rfl rfl (cgb hg1) (Qn rfl rfl rfl rfl) ?_
  rintro _ rfl
  refine Qh rfl rfl (cgb hg1) (Qy rfl rfl rfl rfl) ?_
  rintro _ rfl
  refine Qh rfl rfl (cgb hg1) (Qi rfl rfl rfl rfl fldF118x1) ?_
  rintro _ rfl
  refine Qh rfl rfl (cgb hg1) (Qj rfl rfl rfl rfl tyF41 (i := 0) rfl rfl) ?_
  rintro _ rfl
  refine Qh rfl rfl (cgb hg1) (OpT_lenO rfl rfl rfl rfl Try.underlying41 (i := 1) rfl) ?_
  rintro _ rfl
  refine Qh rfl rfl (cgb hg1) (Qg rfl rfl rfl rfl rfl (Zg (a := len arg0.segs) (b := (0 : Int)))) ?_
  rintro _ rfl
  refine Qh rfl rfl (cgb hg1) (Qn rfl rfl rfl rfl) ?_
  rintro _ rfl
  rcases bC ((len arg0.segs) == (0 : Int)) with hg2 | hg2
  ·replace h := br_t hg2 h
   refine Qf rfl rfl (cgb hg2) rfl rfl ?_
   refine Qf rfl rfl (cgb hg2) rfl rfl ?_
   refine Qf rfl rfl (cgb hg2) rfl rfl ?_
   refine Qf rfl rfl (cgb hg2) rfl rfl ?_
   refine Qf rfl rfl (cgb hg2) rfl rfl ?_
   refine Qf rfl rfl (cgb hg2) rfl rfl ?_
   refine Qh rfl rfl (cgb hg1) (Qt rfl rfl rfl (cgb hg2) rfl) ?_
   rintro _ rfl
   refine Qa rfl (Qt rfl rfl rfl (cgb hg1) rfl) ?_
   refine Qc (tZ [0, 24] [0, 1, 2, 3] [0] rfl rfl rfl rfl ?_)
   refine Qk rfl ?_
   refine Qb (sMv rfl rfl rfl ?_)
   refine Qa rfl (Qy rfl rfl rfl rfl) ?_
   refine Qa rfl (Qi rfl rfl rfl rfl Xk) ?_
   refine Qa rfl (Qq (cs' := [.pointer (some ⟨b_arg0_m, 0, none⟩), varg01, vI arg0.n, vI (4 : Int)]) rfl rfl rfl rfl XC (i := 0) rfl rfl rfl (QF rfl) rfl) ?_
   refine Qc (tZ [0] [0, 1, 2, 3] [0] rfl rfl rfl rfl ?_)
   refine Qe (Qe (Qb (sMv rfl rfl rfl ?_)))
   refine Qa rfl (Qy rfl rfl rfl rfl) ?_
   refine Qa rfl (Qi rfl rfl rfl rfl Xk) ?_
   refine Qa rfl (Qj rfl rfl rfl rfl XC (i := 0) rfl rfl) ?_
   refine Qa rfl (Qg rfl rfl rfl rfl rfl (Zg (a := (4 : Int)) (b := (0 : Int)))) ?_
   refine Qc (tZ [0, 32] [0, 1, 2, 3] [0] rfl rfl rfl rfl ?_)
   refine KA (α := (List Seg) × Int × Int × Value) (fun s => ⟨[(0, some (.pointer (some ⟨b_arg0, 0, none⟩)))], [some (Ql b_arg0 118 [.pointer (some ⟨b_arg0_m, 0, none⟩), s.2.2.2, vI s.2.1, vI s.2.2.1]), some (Ql b_arg0_m 152 [varg0m1, varg0m2]), some (QI u8S false varg0m2 vsarg0m1 arg0_m.B none), some (rowS SegS s.2.2.2 s.1)], [Fact.sl Qv varg0m1 arg0_m.L]⟩) (fun s => Xf s.1 s.2.1 s.2.2.1 = some r) ?_ ?_
   ·rintro ⟨l1, n1, e1, v1⟩ h
    replace h : Xf l1 n1 e1 = some r := h
    unfold Xf at h
    refine Qe (Qe (Qb (sMv rfl rfl rfl ?_)))
    refine Qa rfl (Qy rfl rfl rfl rfl) ?_
    refine Qa rfl (Qi rfl rfl rfl rfl Xk) ?_
    refine Qa rfl (Qj rfl rfl rfl rfl XC (i := 0) rfl rfl) ?_
    refine Qa rfl (Qg rfl rfl rfl rfl rfl (QN (a := e1) (b := (0 : Int)))) ?_
    refine Qc (tZ [0, 49] [0, 1, 2, 3] [0] rfl rfl rfl rfl ?_)
    rcases bC (e1 != (0 : Int)) with hg3 | hg3
    ·replace h := br_t hg3 h
     refine Qk (cgb hg3) ?_
     refine Qe (Zm (by kernel_rfl) ?_)
     refine Yz [0, 1, 3, 7, 0, 31] (by kernel_rfl) fun htb => ?_
     refine aZ [0] [0, 1, 2, 3] [0] rfl rfl rfl rfl ?_
     refine Zi (lo := 0) (hi := 5) htb rfl rfl (by kernel_rfl) (fun c L a w => Sat c ⟨[(0, some (.pointer (some ⟨b_arg0, 0, none⟩))), (50, bif L 0 then some (.pointer (some ⟨b_arg0, 0, none⟩)) else none), (51, bif L 1 then some (.pointer (some ⟨b_arg0, 0, none⟩)) else none), (52, bif L 2 then some (.pointer (some ⟨b_arg0, 3, none⟩)) else none), (53, bif L 3 then some (vI e1) else none), (2, bif L 4 then some (.slice none 0 0) else none)], [(some (Ql b_arg0 118 [.pointer (some ⟨b_arg0_m, 0, none⟩), v1, vI n1, vI e1]) : Option Res), (some (Ql b_arg0_m 152 [varg0m1, varg0m2]) : Option Res), (some (QI u8S false varg0m2 vsarg0m1 arg0_m.B none) : Option Res), (some (rowS SegS v1 l1) : Option Res)], [Fact.sl Qv varg0m1 arg0_m.L]⟩ a w) [([], [1, 2, 3]), ([0], [2, 3]), ([0, 1], [3]), ([0, 1, 2], []), ([], [])] rfl (by kernel_rfl) ?_ (Qd ?_ (Qd ?_ (Qd ?_ (Qd ?_ (Qd ?_ (QC)))))) ?_
     ·intro a w hs
      exact hs.startF [50, 51, 52, 53, 2] [0, 1, 2, 3] [0] rfl rfl rfl rfl
     ·intro L a w hs K Q hK
      exact wGo rfl rfl hs (Qn rfl rfl rfl rfl) fun a w hs => hK a w (pF hs 1 [0, 1, 2, 3] [0] rfl)
     ·intro L a w hs K Q hK
      exact wGo rfl rfl hs (Qy rfl rfl rfl rfl) fun a w hs => hK a w (pF hs 2 [0, 1, 2, 3] [0] rfl)
     ·intro L a w hs K Q hK
      exact wGo rfl rfl hs (Qi rfl rfl rfl rfl Xk) fun a w hs => hK a w (pF hs 3 [0, 1, 2, 3] [0] rfl)
     ·intro L a w hs K Q hK
      exact wGo rfl rfl hs (Qj rfl rfl rfl rfl XC (i := 0) rfl rfl) fun a w hs => hK a w (pF hs 4 [0, 1, 2, 3] [0] rfl)
     ·intro L a w hs K Q hK
      exact wGo rfl rfl hs (Zb rfl rfl rfl rfl) fun a w hs => hK a w (pF hs 5 [0, 1, 2, 3] [0] rfl)
     ·intro L a w hL hv
      rw [QT hL] at hv
      have hs := hv
      refine gZ hs [53, 2] [1, 2] [0] rfl rfl rfl rfl ?_
      clear hs hL
      refine QB htb (by kernel_rfl) rfl rfl (Zb rfl rfl rfl rfl) ?_
      refine ZB rfl ?_
      refine tZ [2, 3] [0, 1] [0] rfl rfl rfl rfl ?_
      refine ZH SegS ?_
      obtain rfl := Option.some.inj h
      exact Qm rfl rfl (resA (vs := [.slice none 0 0, vI e1]) rfl ⟨rfl, rfl, trivial⟩) [0, 1, 2] [] rfl rfl rfl ⟨(.slice none 0 0), rfl, rfl, rfl⟩
    ·replace h := br_f hg3 h
     refine Qo (cgb hg3) ?_
     refine Qs (Qe (Qb (sMv rfl rfl rfl ?_)))
     refine Qa rfl (Qy rfl rfl rfl rfl) ?_
     refine Qa rfl (Qi rfl rfl rfl rfl fldF118x1) ?_
     refine Qa rfl (Qj rfl rfl rfl rfl tyF41 (i := 0) rfl rfl) ?_
     refine sAs rfl rfl rfl ?_
     refine sAs rfl rfl rfl ?_
     refine Qc (tZ [2, 3] [1, 2, 3] [0] rfl rfl rfl rfl ?_)
     obtain rfl := Option.some.inj h
     exact Qm rfl rfl (resA (vs := [v1, vI (0 : Int)]) rfl ⟨rfl, rfl, trivial⟩) [0, 1, 2] [] rfl rfl rfl ⟨v1, rfl, rfl, rfl⟩
   ·intro HJ1
    rcases bC ((4 : Int) == (0 : Int)) with hg4 | hg4
    ·replace h := br_t hg4 h
     refine Qk (cgb hg4) ?_
     refine Zm (by kernel_rfl) ?_
     refine Yz [0, 0, 2, 6, 14, 0, 32, 96, 224, 510, 1023, 2047, 4095] (by kernel_rfl) fun htb => ?_
     refine aZ [0] [0, 1, 2, 3] [0] rfl rfl rfl rfl ?_
     obtain ⟨in1, hx1, h⟩ := ob_e h
     refine Zi (lo := 0) (hi := 10) htb rfl rfl (by kernel_rfl) (fun c L a w => Sat c ⟨[(0, some (.pointer (some ⟨b_arg0, 0, none⟩))), (33, bif L 0 then some (.pointer (some ⟨b_arg0, 0, none⟩)) else none), (34, bif L 1 then some (.pointer (some ⟨b_arg0, 0, none⟩)) else none), (35, bif L 2 then some (.pointer (some ⟨b_arg0, 0, none⟩)) else none), (36, bif L 3 then some (.pointer (some ⟨b_arg0, 0, none⟩)) else none), (37, bif L 4 then some (.pointer (some ⟨b_arg0_m, 0, none⟩)) else none), (38, bif L 5 then some (.pointer (some ⟨b_arg0, 0, none⟩)) else none), (39, bif L 6 then some (.pointer (some ⟨b_arg0, 0, none⟩)) else none), (40, bif L 7 then some (.pointer (some ⟨b_arg0, 1, none⟩)) else none), (41, bif L 8 then some (varg01) else none), (42, bif L 9 then some (vI in1) else none)], [(some (Ql b_arg0 118 [.pointer (some ⟨b_arg0_m, 0, none⟩), varg01, vI arg0.n, vI (4 : Int)]) : Option Res), (some (rowS SegS varg01 arg0.segs) : Option Res), (some (Ql b_arg0_m 152 [varg0m1, varg0m2]) : Option Res), (some (QI u8S false varg0m2 vsarg0m1 arg0_m.B none) : Option Res)], [Fact.sl Qv varg0m1 arg0_m.L]⟩ a w) [([], []), ([], [2, 3, 4, 9]), ([1], [3, 4, 9]), ([1, 2], [4, 9]), ([1, 2, 3], [9]), ([], [6, 7, 8, 9]), ([5], [7, 8, 9]), ([5, 6], [8, 9]), ([5, 6, 7], [9]), ([1, 2, 3, 4, 5, 6, 7, 8], [])] rfl (by kernel_rfl) ?_ (Qd ?_ (Qd ?_ (Qd ?_ (Qd ?_ (Qd ?_ (Qd ?_ (Qd ?_ (Qd ?_ (Qd ?_ (Qd ?_ (QC))))))))))) ?_
     ·intro a w hs
      exact hs.startF [33, 34, 35, 36, 37, 38, 39, 40, 41, 42] [0, 1, 2, 3] [0] rfl rfl rfl rfl
     ·intro L a w hs K Q hK
      exact wGo rfl rfl hs (Qn rfl rfl rfl rfl) fun a w hs => hK a w (pF hs 1 [0, 1, 2, 3] [0] rfl)
     ·intro L a w hs K Q hK
      exact wGo rfl rfl hs (Qn rfl rfl rfl rfl) fun a w hs => hK a w (pF hs 2 [0, 1, 2, 3] [0] rfl)
     ·intro L a w hs K Q hK
      exact wGo rfl rfl hs (Qy rfl rfl rfl rfl) fun a w hs => hK a w (pF hs 3 [0, 1, 2, 3] [0] rfl)
     ·intro L a w hs K Q hK
      exact wGo rfl rfl hs (Qi rfl rfl rfl rfl fldF118x0) fun a w hs => hK a w (pF hs 4 [0, 1, 2, 3] [0] rfl)
     ·intro L a w hs K Q hK
      exact wGo rfl rfl hs (Qj rfl rfl rfl rfl tyF26 (i := 0) rfl rfl) fun a w hs => hK a w (pF hs 5 [0, 1, 2, 3] [0] rfl)
     ·intro L a w hs K Q hK
      exact wGo rfl rfl hs (Qn rfl rfl rfl rfl) fun a w hs => hK a w (pF hs 6 [0, 1, 2, 3] [0] rfl)
     ·intro L a w hs K Q hK
      exact wGo rfl rfl hs (Qy rfl rfl rfl rfl) fun a w hs => hK a w (pF hs 7 [0, 1, 2, 3] [0] rfl)
     ·intro L a w hs K Q hK
      exact wGo rfl rfl hs (Qi rfl rfl rfl rfl fldF118x1) fun a w hs => hK a w (pF hs 8 [0, 1, 2, 3] [0] rfl)
     ·intro L a w hs K Q hK
      exact wGo rfl rfl hs (Qj rfl rfl rfl rfl tyF41 (i := 0) rfl rfl) fun a w hs => hK a w (pF hs 9 [0, 1, 2, 3] [0] rfl)
     ·intro L a w hs K Q hK
      refine Zo rfl rfl hs (ZU [1] [0, 1, 4, 5] (w_ref_In05 hx1) [2, 3] rfl rfl rfl rfl rfl callee97 rfl rfl rfl rfl rfl rfl (Zu (bor_shr 0 rfl) (Zu (Yj 1 rfl rfl) Ye)) (by rintro _ _ _ ⟨rfl, rfl, rfl⟩; exact ⟨rfl, (Kb (ri_cells _ _ _) (Kb (ri_rows rfl _ _ _ _ _) Ko))⟩)) ?_
      rintro _ ⟨_, _, _, ⟨rfl, rfl, rfl⟩, rfl⟩ a' w' hs'
      exact hK a' w' (hs'.putF (i := 10) rfl [0, 1, 2, 3] [0] rfl rfl rfl rfl)
     ·intro L a w hL hv
      rw [QT hL] at hv
      have hs := hv
      refine gZ hs [0, 33, 42] [0, 1, 2, 3] [0] rfl rfl rfl rfl ?_
      clear hs hL
      refine QB htb (by kernel_rfl) rfl rfl (Qy rfl rfl rfl rfl) ?_
      refine QB htb (by kernel_rfl) rfl rfl (Qi rfl rfl rfl rfl Xk) ?_
      refine QB htb (by kernel_rfl) rfl rfl (Qq (cs' := [.pointer (some ⟨b_arg0_m, 0, none⟩), varg01, vI arg0.n, vI in1]) rfl rfl rfl rfl XC (i := 0) rfl rfl rfl (QF rfl) rfl) ?_
      refine ZB rfl ?_
      refine tZ [0] [0, 1, 2, 3] [0] rfl rfl rfl rfl ?_
      exact ZI (HJ1 (arg0.segs, arg0.n, in1, varg01) h) [0] [0, 2, 3, 1] [0] rfl rfl rfl rfl
    ·replace h := br_f hg4 h
     refine Qo (cgb hg4) ?_
     refine Qs ?_
     exact ZI (HJ1 (arg0.segs, arg0.n, (4 : Int), varg01) h) [0] [0, 2, 3, 1] [0] rfl rfl rfl rfl
  ·replace h := br_f hg2 h
   refine Qh rfl rfl (cgb hg2) (Qn rfl rfl rfl rfl) ?_
   rintro _ rfl
   refine Qh rfl rfl (cgb hg2) (Qy rfl rfl rfl rfl) ?_
   rintro _ rfl
   refine Qh rfl rfl (cgb hg2) (Qi rfl rfl rfl rfl fldF118x1) ?_
   rintro _ rfl
   refine Qh rfl rfl (cgb hg2) (Qj rfl rfl rfl rfl tyF41 (i := 0) rfl rfl) ?_
   rintro _ rfl
   obtain ⟨check1, hx2, h⟩ := ob_e h
   refine Qh rfl rfl (cgb hg2) (ZU [1] [0, 1, 2, 3] (w_ref_Check05 hx2) [] rfl rfl rfl rfl rfl callee96 rfl rfl rfl rfl rfl rfl (Zu (Yj 1 rfl rfl) Ye) (by rintro _ _ _ ⟨rfl, rfl, rfl⟩; exact ⟨rfl, Ko⟩)) ?_
   rintro _ ⟨_, _, _, ⟨rfl, rfl, rfl⟩, rfl⟩
   refine Qh rfl rfl (cgb hg2) (Qg rfl rfl rfl rfl rfl (QN (a := check1) (b := (0 : Int)))) ?_
   rintro _ rfl
   refine Qh rfl rfl (cgb hg1) (Qu rfl rfl rfl (cgb hg2) rfl) ?_
   rintro _ rfl
   refine Qa rfl (Qt rfl rfl rfl (cgb hg1) rfl) ?_
   refine Qc (tZ [0, 24] [0, 1, 2, 3] [0] rfl rfl rfl rfl ?_)
   refine KA (α := (List Seg) × Int × Int × Value) (fun s => ⟨[(0, some (.pointer (some ⟨b_arg0, 0, none⟩)))], [some (Ql b_arg0 118 [.pointer (some ⟨b_arg0_m, 0, none⟩), s.2.2.2, vI s.2.1, vI s.2.2.1]), some (Ql b_arg0_m 152 [varg0m1, varg0m2]), some (QI u8S false varg0m2 vsarg0m1 arg0_m.B none), some (rowS SegS s.2.2.2 s.1)], [Fact.sl Qv varg0m1 arg0_m.L]⟩) (fun s => ZQ arg0_m s.1 s.2.1 s.2.2.1 = some r) ?_ ?_
   ·rintro ⟨l2, n2, e2, v2⟩ h
    replace h : ZQ arg0_m l2 n2 e2 = some r := h
    unfold ZQ at h
    refine Qe (Qe (Qb (sMv rfl rfl rfl ?_)))
    refine Qa rfl (Qy rfl rfl rfl rfl) ?_
    refine Qa rfl (Qi rfl rfl rfl rfl Xk) ?_
    refine Qa rfl (Qj rfl rfl rfl rfl XC (i := 0) rfl rfl) ?_
    refine Qa rfl (Qg rfl rfl rfl rfl rfl (Zg (a := e2) (b := (0 : Int)))) ?_
    refine Qc (tZ [0, 32] [0, 1, 2, 3] [0] rfl rfl rfl rfl ?_)
    refine KA (α := (List Seg) × Int × Int × Value) (fun s => ⟨[(0, some (.pointer (some ⟨b_arg0, 0, none⟩)))], [some (Ql b_arg0 118 [.pointer (some ⟨b_arg0_m, 0, none⟩), s.2.2.2, vI s.2.1, vI s.2.2.1]), some (Ql b_arg0_m 152 [varg0m1, varg0m2]), some (QI u8S false varg0m2 vsarg0m1 arg0_m.B none), some (rowS SegS s.2.2.2 s.1)], [Fact.sl Qv varg0m1 arg0_m.L]⟩) (fun s => ZP s.1 s.2.1 s.2.2.1 = some r) ?_ ?_
    ·rintro ⟨l3, n3, e3, v3⟩ h
     replace h : ZP l3 n3 e3 = some r := h
     unfold ZP at h
     refine Qe (Qe (Qb (sMv rfl rfl rfl ?_)))
     refine Qa rfl (Qy rfl rfl rfl rfl) ?_
     refine Qa rfl (Qi rfl rfl rfl rfl Xk) ?_
     refine Qa rfl (Qj rfl rfl rfl rfl XC (i := 0) rfl rfl) ?_
     refine Qa rfl (Qg rfl rfl rfl rfl rfl (QN (a := e3) (b := (0 : Int)))) ?_
     refine Qc (tZ [0, 49] [0, 1, 2, 3] [0] rfl rfl rfl rfl ?_)
     rcases bC (e3 != (0 : Int)) with hg5 | hg5
     ·replace h := br_t hg5 h
      refine Qk (cgb hg5) ?_
      refine Qe (Zm (by kernel_rfl) ?_)
      refine Yz [0, 1, 3, 7, 0, 31] (by kernel_rfl) fun htb => ?_
      refine aZ [0] [0, 1, 2, 3] [0] rfl rfl rfl rfl ?_
      refine Zi (lo := 0) (hi := 5) htb rfl rfl (by kernel_rfl) (fun c L a w => Sat c ⟨[(0, some (.pointer (some ⟨b_arg0, 0, none⟩))), (50, bif L 0 then some (.pointer (some ⟨b_arg0, 0, none⟩)) else none), (51, bif L 1 then some (.pointer (some ⟨b_arg0, 0, none⟩)) else none), (52, bif L 2 then some (.pointer (some ⟨b_arg0, 3, none⟩)) else none), (53, bif L 3 then some (vI e3) else none), (2, bif L 4 then some (.slice none 0 0) else none)], [(some (Ql b_arg0 118 [.pointer (some ⟨b_arg0_m, 0, none⟩), v3, vI n3, vI e3]) : Option Res), (some (Ql b_arg0_m 152 [varg0m1, varg0m2]) : Option Res), (some (QI u8S false varg0m2 vsarg0m1 arg0_m.B none) : Option Res), (some (rowS SegS v3 l3) : Option Res)], [Fact.sl Qv varg0m1 arg0_m.L]⟩ a w) [([], [1, 2, 3]), ([0], [2, 3]), ([0, 1], [3]), ([0, 1, 2], []), ([], [])] rfl (by kernel_rfl) ?_ (Qd ?_ (Qd ?_ (Qd ?_ (Qd ?_ (Qd ?_ (QC)))))) ?_
      ·intro a w hs
       exact hs.startF [50, 51, 52, 53, 2] [0, 1, 2, 3] [0] rfl rfl rfl rfl
      ·intro L a w hs K Q hK
       exact wGo rfl rfl hs (Qn rfl rfl rfl rfl) fun a w hs => hK a w (pF hs 1 [0, 1, 2, 3] [0] rfl)
      ·intro L a w hs K Q hK
       exact wGo rfl rfl hs (Qy rfl rfl rfl rfl) fun a w hs => hK a w (pF hs 2 [0, 1, 2, 3] [0] rfl)
      ·intro L a w hs K Q hK
       exact wGo rfl rfl hs (Qi rfl rfl rfl rfl Xk) fun a w hs => hK a w (pF hs 3 [0, 1, 2, 3] [0] rfl)
      ·intro L a w hs K Q hK
       exact wGo rfl rfl hs (Qj rfl rfl rfl rfl XC (i := 0) rfl rfl) fun a w hs => hK a w (pF hs 4 [0, 1, 2, 3] [0] rfl)
      ·intro L a w hs K Q hK
       exact wGo rfl rfl hs (Zb rfl rfl rfl rfl) fun a w hs => hK a w (pF hs 5 [0, 1, 2, 3] [0] rfl)
      ·intro L a w hL hv
       rw [QT hL] at hv
       have hs := hv
       refine gZ hs [53, 2] [1, 2] [0] rfl rfl rfl rfl ?_
       clear hs hL
       refine QB htb (by kernel_rfl) rfl rfl (Zb rfl rfl rfl rfl) ?_
       refine ZB rfl ?_
       refine tZ [2, 3] [0, 1] [0] rfl rfl rfl rfl ?_
       refine ZH SegS ?_
       obtain rfl := Option.some.inj h
       exact Qm rfl rfl (resA (vs := [.slice none 0 0, vI e3]) rfl ⟨rfl, rfl, trivial⟩) [0, 1, 2] [] rfl rfl rfl ⟨(.slice none 0 0), rfl, rfl, rfl⟩
     ·replace h := br_f hg5 h
      refine Qo (cgb hg5) ?_
      refine Qs (Qe (Qb (sMv rfl rfl rfl ?_)))
      refine Qa rfl (Qy rfl rfl rfl rfl) ?_
      refine Qa rfl (Qi rfl rfl rfl rfl fldF118x1) ?_
      refine Qa rfl (Qj rfl rfl rfl rfl tyF41 (i := 0) rfl rfl) ?_
      refine sAs rfl rfl rfl ?_
      refine sAs rfl rfl rfl ?_
      refine Qc (tZ [2, 3] [1, 2, 3] [0] rfl rfl rfl rfl ?_)
      obtain rfl := Option.some.inj h
      exact Qm rfl rfl (resA (vs := [v3, vI (0 : Int)]) rfl ⟨rfl, rfl, trivial⟩) [0, 1, 2] [] rfl rfl rfl ⟨v3, rfl, rfl, rfl⟩
    ·intro HJ2
     rcases bC (e2 == (0 : Int)) with hg6 | hg6
     ·replace h := br_t hg6 h
      refine Qk (cgb hg6) ?_
      refine Zm (by kernel_rfl) ?_
      refine Yz [0, 0, 2, 6, 14, 0, 32, 96, 224, 510, 1023, 2047, 4095] (by kernel_rfl) fun htb => ?_
      refine aZ [0] [0, 1, 2, 3] [0] rfl rfl rfl rfl ?_
      obtain ⟨in2, hx3, h⟩ := ob_e h
      refine Zi (lo := 0) (hi := 10) htb rfl rfl (by kernel_rfl) (fun c L a w => Sat c ⟨[(0, some (.pointer (some ⟨b_arg0, 0, none⟩))), (33, bif L 0 then some (.pointer (some ⟨b_arg0, 0, none⟩)) else none), (34, bif L 1 then some (.pointer (some ⟨b_arg0, 0, none⟩)) else none), (35, bif L 2 then some (.pointer (some ⟨b_arg0, 0, none⟩)) else none), (36, bif L 3 then some (.pointer (some ⟨b_arg0, 0, none⟩)) else none), (37, bif L 4 then some (.pointer (some ⟨b_arg0_m, 0, none⟩)) else none), (38, bif L 5 then some (.pointer (some ⟨b_arg0, 0, none⟩)) else none), (39, bif L 6 then some (.pointer (some ⟨b_arg0, 0, none⟩)) else none), (40, bif L 7 then some (.pointer (some ⟨b_arg0, 1, none⟩)) else none), (41, bif L 8 then some (v2) else none), (42, bif L 9 then some (vI in2) else none)], [(some (Ql b_arg0 118 [.pointer (some ⟨b_arg0_m, 0, none⟩), v2, vI n2, vI e2]) : Option Res), (some (Ql b_arg0_m 152 [varg0m1, varg0m2]) : Option Res), (some (QI u8S false varg0m2 vsarg0m1 arg0_m.B none) : Option Res), (some (rowS SegS v2 l2) : Option Res)], [Fact.sl Qv varg0m1 arg0_m.L]⟩ a w) [([], []), ([], [2, 3, 4, 9]), ([1], [3, 4, 9]), ([1, 2], [4, 9]), ([1, 2, 3], [9]), ([], [6, 7, 8, 9]), ([5], [7, 8, 9]), ([5, 6], [8, 9]), ([5, 6, 7], [9]), ([1, 2, 3, 4, 5, 6, 7, 8], [])] rfl (by kernel_rfl) ?_ (Qd ?_ (Qd ?_ (Qd ?_ (Qd ?_ (Qd ?_ (Qd ?_ (Qd ?_ (Qd ?_ (Qd ?_ (Qd ?_ (QC))))))))))) ?_
      ·intro a w hs
       exact hs.startF [33, 34, 35, 36, 37, 38, 39, 40, 41, 42] [0, 1, 2, 3] [0] rfl rfl rfl rfl
      ·intro L a w hs K Q hK
       exact wGo rfl rfl hs (Qn rfl rfl rfl rfl) fun a w hs => hK a w (pF hs 1 [0, 1, 2, 3] [0] rfl)
      ·intro L a w hs K Q hK
       exact wGo rfl rfl hs (Qn rfl rfl rfl rfl) fun a w hs => hK a w (pF hs 2 [0, 1, 2, 3] [0] rfl)
      ·intro L a w hs K Q hK
       exact wGo rfl rfl hs (Qy rfl rfl rfl rfl) fun a w hs => hK a w (pF hs 3 [0, 1, 2, 3] [0] rfl)
      ·intro L a w hs K Q hK
       exact wGo rfl rfl hs (Qi rfl rfl rfl rfl fldF118x0) fun a w hs => hK a w (pF hs 4 [0, 1, 2, 3] [0] rfl)
      ·intro L a w hs K Q hK
       exact wGo rfl rfl hs (Qj rfl rfl rfl rfl tyF26 (i := 0) rfl rfl) fun a w hs => hK a w (pF hs 5 [0, 1, 2, 3] [0] rfl)
      ·intro L a w hs K Q hK
       exact wGo rfl rfl hs (Qn rfl rfl rfl rfl) fun a w hs => hK a w (pF hs 6 [0, 1, 2, 3] [0] rfl)
      ·intro L a w hs K Q hK
       exact wGo rfl rfl hs (Qy rfl rfl rfl rfl) fun a w hs => hK a w (pF hs 7 [0, 1, 2, 3] [0] rfl)
      ·intro L a w hs K Q hK
       exact wGo rfl rfl hs (Qi rfl rfl rfl rfl fldF118x1) fun a w hs => hK a w (pF hs 8 [0, 1, 2, 3] [0] rfl)
      ·intro L a w hs K Q hK
       exact wGo rfl rfl hs (Qj rfl rfl rfl rfl tyF41 (i := 0) rfl rfl) fun a w hs => hK a w (pF hs 9 [0, 1, 2, 3] [0] rfl)
      ·intro L a w hs K Q hK
       refine Zo rfl rfl hs (ZU [3] [0, 4, 5, 3] (w_ref_In05 hx3) [1, 2] rfl rfl rfl rfl rfl callee97 rfl rfl rfl rfl rfl rfl (Zu (bor_shr 0 rfl) (Zu (Yj 3 rfl rfl) Ye)) (by rintro _ _ _ ⟨rfl, rfl, rfl⟩; exact ⟨rfl, (Kb (ri_cells _ _ _) (Kb (ri_rows rfl _ _ _ _ _) Ko))⟩)) ?_
       rintro _ ⟨_, _, _, ⟨rfl, rfl, rfl⟩, rfl⟩ a' w' hs'
       exact hK a' w' (hs'.putF (i := 10) rfl [0, 1, 2, 3] [0] rfl rfl rfl rfl)
      ·intro L a w hL hv
       rw [QT hL] at hv
       have hs := hv
       refine gZ hs [0, 33, 42] [0, 1, 2, 3] [0] rfl rfl rfl rfl ?_
       clear hs hL
       refine QB htb (by kernel_rfl) rfl rfl (Qy rfl rfl rfl rfl) ?_
       refine QB htb (by kernel_rfl) rfl rfl (Qi rfl rfl rfl rfl Xk) ?_
       refine QB htb (by kernel_rfl) rfl rfl (Qq (cs' := [.pointer (some ⟨b_arg0_m, 0, none⟩), v2, vI n2, vI in2]) rfl rfl rfl rfl XC (i := 0) rfl rfl rfl (QF rfl) rfl) ?_
       refine ZB rfl ?_
       refine tZ [0] [0, 1, 2, 3] [0] rfl rfl rfl rfl ?_
       exact ZI (HJ2 (l2, n2, in2, v2) h) [0] [0, 1, 2, 3] [0] rfl rfl rfl rfl
     ·replace h := br_f hg6 h
      refine Qo (cgb hg6) ?_
      refine Qs ?_
      exact ZI (HJ2 (l2, n2, e2, v2) h) [0] [0, 1, 2, 3] [0] rfl rfl rfl rfl
   ·intro HJ3
    rcases bC (check1 != (0 : Int)) with hg7 | hg7
    ·replace h := br_t hg7 h
     refine Qk (cgb hg7) ?_
     refine Qb (sMv rfl rfl rfl ?_)
     refine Qa rfl (Qy rfl rfl rfl rfl) ?_
     refine Qa rfl (Qi rfl rfl rfl rfl Xk) ?_
     refine Qa rfl (Qq (cs' := [.pointer (some ⟨b_arg0_m, 0, none⟩), varg01, vI arg0.n, vI (4 : Int)]) rfl rfl rfl rfl XC (i := 0) rfl rfl rfl (QF rfl) rfl) ?_
     refine Qc (tZ [0] [0, 1, 2, 3] [0] rfl rfl rfl rfl ?_)
     exact ZI (HJ3 (arg0.segs, arg0.n, (4 : Int), varg01) h) [0] [0, 2, 3, 1] [0] rfl rfl rfl rfl
    ·replace h := br_f hg7 h
     refine Qo (cgb hg7) ?_
     refine Qs ?_
     exact ZI (HJ3 (arg0.segs, arg0.n, arg0.e, varg01) h) [0] [0, 2, 3, 1] [0] rfl rfl rfl rfl
 ·replace h := br_f hg1 h
  refine Qf rfl rfl (cgb hg1) rfl rfl ?_
  refine Qf rfl rfl (cgb hg1) rfl rfl ?_
  refine Qf rfl rfl (cgb hg1) rfl rfl ?_
  refine Qf rfl rfl (cgb hg1) rfl rfl ?_
  refine Qf rfl rfl (cgb hg1) rfl rfl ?_
  refine Qf rfl rfl (cgb hg1) rfl rfl ?_
  refine Qf rfl rfl (cgb hg1) rfl rfl ?_
  refine QM rfl rfl rfl rfl rfl ?_
  refine QM rfl rfl rfl rfl rfl ?_
  refine QM rfl rfl rfl rfl rfl ?_
  refine QM rfl rfl rfl rfl rfl ?_
  refine QM rfl rfl rfl rfl rfl ?_
  refine QM rfl rfl rfl rfl rfl ?_
  refine Qf rfl rfl (cgb hg1) rfl rfl ?_
  refine Qa rfl (Qu rfl rfl rfl (cgb hg1) rfl) ?_
  refine Qc (tZ [0, 24] [0, 1, 2, 3] [0] rfl rfl rfl rfl ?_)
  refine Qo rfl ?_
  refine Qs (Qe (Qe (Qb (sMv rfl rfl rfl ?_))))
  refine Qa rfl (Qy rfl rfl rfl rfl) ?_
  refine Qa rfl (Qi rfl rfl rfl rfl Xk) ?_
  refine Qa rfl (Qj rfl rfl rfl rfl XC (i := 0) rfl rfl) ?_
  refine Qa rfl (Qg rfl rfl rfl rfl rfl (Zg (a := arg0.e) (b := (0 : Int)))) ?_
  refine Qc (tZ [0, 32] [0, 1, 2, 3] [0] rfl rfl rfl rfl ?_)
  refine Qo (cgb hg1) ?_
  refine Qs (Qe (Qe (Qb (sMv rfl rfl rfl ?_))))
  refine Qa rfl (Qy rfl rfl rfl rfl) ?_
  refine Qa rfl (Qi rfl rfl rfl rfl Xk) ?_
  refine Qa rfl (Qj rfl rfl rfl rfl XC (i := 0) rfl rfl) ?_
  refine Qa rfl (Qg rfl rfl rfl rfl rfl (QN (a := arg0.e) (b := (0 : Int)))) ?_
  refine Qc (tZ [0, 49] [0, 1, 2, 3] [0] rfl rfl rfl rfl ?_)
  refine Qk (congrArg (fun b => some (Value.bool (!b))) hg1) ?_
  refine Qe (Zm (by kernel_rfl) ?_)
  refine Yz [0, 1, 3, 7, 0, 31] (by kernel_rfl) fun htb => ?_
  refine aZ [0] [0, 1, 2, 3] [0] rfl rfl rfl rfl ?_
  refine Zi (lo := 0) (hi := 5) htb rfl rfl (by kernel_rfl) (fun c L a w => Sat c ⟨[(0, some (.pointer (some ⟨b_arg0, 0, none⟩))), (50, bif L 0 then some (.pointer (some ⟨b_arg0, 0, none⟩)) else none), (51, bif L 1 then some (.pointer (some ⟨b_arg0, 0, none⟩)) else none), (52, bif L 2 then some (.pointer (some ⟨b_arg0, 3, none⟩)) else none), (53, bif L 3 then some (vI arg0.e) else none), (2, bif L 4 then some (.slice none 0 0) else none)], [(some (Ql b_arg0 118 [.pointer (some ⟨b_arg0_m, 0, none⟩), varg01, vI arg0.n, vI arg0.e]) : Option Res), (some (rowS SegS varg01 arg0.segs) : Option Res), (some (Ql b_arg0_m 152 [varg0m1, varg0m2]) : Option Res), (some (QI u8S false varg0m2 vsarg0m1 arg0_m.B none) : Option Res)], [Fact.sl Qv varg0m1 arg0_m.L]⟩ a w) [([], [1, 2, 3]), ([0], [2, 3]), ([0, 1], [3]), ([0, 1, 2], []), ([], [])] rfl (by kernel_rfl) ?_ (Qd ?_ (Qd ?_ (Qd ?_ (Qd ?_ (Qd ?_ (QC)))))) ?_
  ·intro a w hs
   exact hs.startF [50, 51, 52, 53, 2] [0, 1, 2, 3] [0] rfl rfl rfl rfl
  ·intro L a w hs K Q hK
   exact wGo rfl rfl hs (Qn rfl rfl rfl rfl) fun a w hs => hK a w (pF hs 1 [0, 1, 2, 3] [0] rfl)
  ·intro L a w hs K Q hK
   exact wGo rfl rfl hs (Qy rfl rfl rfl rfl) fun a w hs => hK a w (pF hs 2 [0, 1, 2, 3] [0] rfl)
  ·intro L a w hs K Q hK
   exact wGo rfl rfl hs (Qi rfl rfl rfl rfl Xk) fun a w hs => hK a w (pF hs 3 [0, 1, 2, 3] [0] rfl)
  ·intro L a w hs K Q hK
   exact wGo rfl rfl hs (Qj rfl rfl rfl rfl XC (i := 0) rfl rfl) fun a w hs => hK a w (pF hs 4 [0, 1, 2, 3] [0] rfl)
  ·intro L a w hs K Q hK
   exact wGo rfl rfl hs (Zb rfl rfl rfl rfl) fun a w hs => hK a w (pF hs 5 [0, 1, 2, 3] [0] rfl)
  ·intro L a w hL hv
   rw [QT hL] at hv
   have hs := hv
   refine gZ hs [53, 2] [2, 3] [0] rfl rfl rfl rfl ?_
   clear hs hL
   refine QB htb (by kernel_rfl) rfl rfl (Zb rfl rfl rfl rfl) ?_
   refine ZB rfl ?_
   refine tZ [2, 3] [0, 1] [0] rfl rfl rfl rfl ?_
   refine ZH SegS ?_
   obtain rfl := Option.some.inj h
   exact Qm rfl rfl (resA (vs := [.slice none 0 0, vI arg0.e]) rfl ⟨rfl, rfl, trivial⟩) [0, 1, 2] [] rfl rfl rfl ⟨(.slice none 0 0), rfl, rfl, rfl⟩

set_option maxRecDepth 100000 in
set_option maxHeartbeats 4000000 in
theorem w_ref_Split10 {m : dumbwaiterref02_Mem} {rp1 : Rings} {head : Int} {table : Bool} {b_m : Nat} {vm1 : Value} {vm2 : Value} {vsm1 : List Value} {r : ((List Seg) × Int)} (h : ref_Split10 m rp1 head table = some r) :
  Ctr Try.prog 19 #[.pointer (some ⟨b_m, 0, none⟩), .agg #[vB rp1.Packed, vI rp1.Size, vU64 rp1.Desc, vU64 rp1.Driver, vU64 rp1.Device], vI head, vB table] [(Ql b_m 152 [vm1, vm2]), (QI u8S false vm2 vsm1 m.B none)] [Fact.sl Qv vm1 m.L]
   (fun rv own shr => ∃ (w1 : Value), rv = .tuple #[w1, vI r.2] ∧ own = [(Ql b_m 152 [vm1, vm2]), (QI u8S false vm2 vsm1 m.B none), (rowS SegS w1 r.1)] ∧ shr = []) := by
 unfold ref_Split10 at h
 refine Ctr.mk (args := [.pointer (some ⟨b_m, 0, none⟩), .agg #[vB rp1.Packed, vI rp1.Size, vU64 rp1.Desc, vU64 rp1.Driver, vU64 rp1.Device], vI head, vB table]) Try.func19 rfl rfl (fun R0 w0 B => ?_)
 refine Qe (Qb (Qx rfl (Zr rfl rfl rfl rfl) fun b1 => ?_))
 refine sAs rfl rfl rfl ?_
 refine sAs rfl rfl rfl ?_
 refine Qc (tZ [0, 2, 3, 5] [0, 1, 2] [0] rfl rfl rfl rfl ?_)
 refine Qe (Qb (sMv rfl rfl rfl ?_))
 refine Qa rfl (QA (vs := [vB rp1.Packed, vI rp1.Size, vU64 rp1.Desc, vU64 rp1.Driver, vU64 rp1.Device]) rfl rfl rfl rfl ZK (i := 2) rfl rfl rfl) ?_
 obtain ⟨refuse1, hx1, h⟩ := ob_e h
 refine Qr rfl (Qw [3, 4, 2] (w_ref_refuse10 hx1) [0, 1] [0] rfl rfl rfl rfl rfl callee50 rfl rfl rfl rfl rfl) ?_
 rintro _ ⟨_, _, _, ⟨rfl, rfl, rfl⟩, rfl⟩
 refine sAs rfl rfl rfl ?_
 refine Qc (tZ [0, 2, 3, 5, 10] [0, 1, 2] [0] rfl rfl rfl rfl ?_)
 refine Qe (Qe (Qb (sMv rfl rfl rfl ?_)))
 refine Qa rfl (Qg rfl rfl rfl rfl rfl (QN (a := refuse1) (b := (0 : Int)))) ?_
 refine Qc (tZ [0, 2, 3, 5, 10, 16] [0, 1, 2] [0] rfl rfl rfl rfl ?_)
 rcases bC (refuse1 != (0 : Int)) with hg1 | hg1
 ·replace h := br_t hg1 h
  refine Qk (cgb hg1) ?_
  refine Qe (Qb (sMv rfl rfl rfl ?_))
  refine sAs rfl rfl rfl ?_
  refine sAs rfl rfl rfl ?_
  refine Qc (tZ [8, 9] [0, 1] [0] rfl rfl rfl rfl ?_)
  refine ZH SegS ?_
  obtain rfl := Option.some.inj h
  exact Qm rfl rfl (resA (vs := [.slice none 0 0, vI refuse1]) rfl ⟨rfl, rfl, trivial⟩) [0, 1, 2] [] rfl rfl rfl ⟨(.slice none 0 0), rfl, rfl, rfl⟩
 ·replace h := br_f hg1 h
  refine Qo (cgb hg1) ?_
  refine Qs (Qe (Qb (sMv rfl rfl rfl ?_)))
  refine Qa rfl (QL (v := .agg #[.pointer (some ⟨b_m, 0, none⟩), .slice none 0 0, vI (0 : Int), vI (0 : Int)]) rfl rfl rfl rfl (bldV (by kernel_rfl))) ?_
  refine Qx rfl (Zr rfl rfl rfl rfl) fun b2 => ?_
  refine sAs rfl rfl rfl ?_
  refine Qc (tZ [2, 3, 5, 11] [0, 1, 2, 3] [0] rfl rfl rfl rfl ?_)
  refine Qe (Qb (sMv rfl rfl rfl ?_))
  refine Qa rfl (Qi rfl rfl rfl rfl Ky) ?_
  refine Qa rfl (Qj rfl rfl rfl rfl QV (i := 2) rfl rfl) ?_
  refine Qa rfl (Qi rfl rfl rfl rfl XH) ?_
  refine Qa rfl (Qj rfl rfl rfl rfl tyF3 (i := 2) rfl rfl) ?_
  refine sMv rfl rfl rfl ?_
  refine sMv rfl rfl rfl ?_
  refine Tops_nilrow SegS ?_
  obtain ⟨chain1, hx2, h⟩ := ob_e h
  refine Qr rfl (Qw [7, 8, 2, 5, 6] (Kn hx2) [3, 4, 0, 1] [0] rfl rfl rfl rfl rfl callee51 rfl rfl rfl rfl rfl) ?_
  rintro _ ⟨_, _, _, ⟨v1, rfl, rfl, rfl⟩, rfl⟩
  refine Qc (tZ [11] [0, 1, 3, 4] [0] rfl rfl rfl rfl ?_)
  refine Qe (Qb (sMv rfl rfl rfl ?_))
  obtain ⟨end1, hx3, h⟩ := ob_e h
  refine Qr rfl (Qw [4, 5, 2, 3, 6] (w_ref_reader_end10 hx3) [2, 3, 0, 1] [0] rfl rfl rfl rfl rfl callee52 rfl rfl rfl rfl rfl) ?_
  rintro _ ⟨_, _, _, ⟨v2, rfl, rfl, rfl⟩, rfl⟩
  refine Qa rfl (Qp rfl rfl rfl rfl rfl) ?_
  refine Qa rfl (Qp rfl rfl rfl rfl rfl) ?_
  refine sAs rfl rfl rfl ?_
  refine sAs rfl rfl rfl ?_
  refine Qc (tZ [8, 9] [0, 1, 4] [0] rfl rfl rfl rfl ?_)
  obtain rfl := Option.some.inj h
  exact Qm rfl rfl (resA (vs := [v2, vI end1.2]) rfl ⟨rfl, rfl, trivial⟩) [0, 1, 2] [] rfl rfl rfl ⟨v2, rfl, rfl, rfl⟩

set_option maxRecDepth 100000 in
set_option maxHeartbeats 4000000 in
theorem w_ref_Reads10 {m : dumbwaiterref02_Mem} {rp1 : Rings} {head : Int} {table : Bool} {b_m : Nat} {vm1 : Value} {vm2 : Value} {vsm1 : List Value} {r : Int} (h : ref_Reads10 m rp1 head table = some r) :
  Ctr Try.prog 20 #[.pointer (some ⟨b_m, 0, none⟩), .agg #[vB rp1.Packed, vI rp1.Size, vU64 rp1.Desc, vU64 rp1.Driver, vU64 rp1.Device], vI head, vB table] [(Ql b_m 152 [vm1, vm2]), (QI u8S false vm2 vsm1 m.B none)] [Fact.sl Qv vm1 m.L]
   (fun rv own shr => rv = vI r ∧ own = [(Ql b_m 152 [vm1, vm2]), (QI u8S false vm2 vsm1 m.B none)] ∧ shr = []) := by
 unfold ref_Reads10 at h
 refine Ctr.mk (args := [.pointer (some ⟨b_m, 0, none⟩), .agg #[vB rp1.Packed, vI rp1.Size, vU64 rp1.Desc, vU64 rp1.Driver, vU64 rp1.Device], vI head, vB table]) Try.func20 rfl rfl (fun R0 w0 B => ?_)
 refine Qe (Qb (Qx rfl (Zr rfl rfl rfl rfl) fun b1 => ?_))
 refine sAs rfl rfl rfl ?_
 refine Qc (tZ [0, 2, 3, 5] [0, 1, 2] [0] rfl rfl rfl rfl ?_)
 refine Qe (Qe (Qb (sMv rfl rfl rfl ?_)))
 refine Qa rfl (QA (vs := [vB rp1.Packed, vI rp1.Size, vU64 rp1.Desc, vU64 rp1.Driver, vU64 rp1.Device]) rfl rfl rfl rfl ZK (i := 2) rfl rfl rfl) ?_
 obtain ⟨refuse1, hx1, h⟩ := ob_e h
 refine Qr rfl (Qw [3, 4, 2] (w_ref_refuse10 hx1) [0, 1] [0] rfl rfl rfl rfl rfl callee50 rfl rfl rfl rfl rfl) ?_
 rintro _ ⟨_, _, _, ⟨rfl, rfl, rfl⟩, rfl⟩
 refine Qa rfl (Qg rfl rfl rfl rfl rfl (QN (a := refuse1) (b := (0 : Int)))) ?_
 refine Qc (tZ [0, 2, 3, 5, 13] [0, 1, 2] [0] rfl rfl rfl rfl ?_)
 rcases bC (refuse1 != (0 : Int)) with hg1 | hg1
 ·replace h := br_t hg1 h
  refine Qk (cgb hg1) ?_
  refine Qe (Qb (sAs rfl rfl rfl ?_))
  refine Qc (tZ [8] [0, 1] [0] rfl rfl rfl rfl ?_)
  obtain rfl := Option.some.inj h
  exact Qm rfl rfl (resA (vs := [vI (0 : Int)]) rfl ⟨rfl, trivial⟩) [0, 1] [] rfl rfl rfl ⟨rfl, rfl, rfl⟩
 ·replace h := br_f hg1 h
  refine Qo (cgb hg1) ?_
  refine Qs (Qe (Qb (sMv rfl rfl rfl ?_)))
  refine Qa rfl (QL (v := .agg #[.pointer (some ⟨b_m, 0, none⟩), .slice none 0 0, vI (0 : Int), vI (0 : Int)]) rfl rfl rfl rfl (bldV (by kernel_rfl))) ?_
  refine Qx rfl (Zr rfl rfl rfl rfl) fun b2 => ?_
  refine sAs rfl rfl rfl ?_
  refine Qc (tZ [2, 3, 5, 9] [0, 1, 2, 3] [0] rfl rfl rfl rfl ?_)
  refine Qe (Qb (sMv rfl rfl rfl ?_))
  refine Qa rfl (Qi rfl rfl rfl rfl Ky) ?_
  refine Qa rfl (Qj rfl rfl rfl rfl QV (i := 2) rfl rfl) ?_
  refine Qa rfl (Qi rfl rfl rfl rfl XH) ?_
  refine Qa rfl (Qj rfl rfl rfl rfl tyF3 (i := 2) rfl rfl) ?_
  refine sMv rfl rfl rfl ?_
  refine sMv rfl rfl rfl ?_
  refine Tops_nilrow SegS ?_
  obtain ⟨chain1, hx2, h⟩ := ob_e h
  refine Qr rfl (Qw [7, 8, 2, 5, 6] (Kn hx2) [3, 4, 0, 1] [0] rfl rfl rfl rfl rfl callee51 rfl rfl rfl rfl rfl) ?_
  rintro _ ⟨_, _, _, ⟨v1, rfl, rfl, rfl⟩, rfl⟩
  refine Qc (tZ [9] [0, 1, 3, 4] [0] rfl rfl rfl rfl ?_)
  refine Qe (Qb (sMv rfl rfl rfl ?_))
  refine Qa rfl (Qy rfl rfl rfl rfl) ?_
  refine Qa rfl (Qi rfl rfl rfl rfl fldF118x2) ?_
  refine Qa rfl (Qj rfl rfl rfl rfl tyF3 (i := 2) rfl rfl) ?_
  refine sAs rfl rfl rfl ?_
  refine Qc (tZ [8] [0, 1] [0] rfl rfl rfl rfl ?_)
  obtain rfl := Option.some.inj h
  exact Qm rfl rfl (resA (vs := [vI chain1.n]) rfl ⟨rfl, trivial⟩) [0, 1] [] rfl rfl rfl ⟨rfl, rfl, rfl⟩

set_option maxRecDepth 100000 in
set_option maxHeartbeats 4000000 in
theorem w_ref_size01 {np0 : Int} {r : Bool} (h : ref_size01 np0 = some r) :
  Ctr Try.prog 98 #[vI np0] [] []
   (fun rv own shr => rv = vB r ∧ own = [] ∧ shr = []) := by
 unfold ref_size01 at h
 refine Ctr.mk (args := [vI np0]) Try.func98 rfl rfl (fun R0 w0 B => ?_)
 refine Qe (Qb (sAs rfl rfl rfl ?_))
 refine Qc (tZ [0] [] [] rfl rfl rfl rfl ?_)
 refine Qe (Qb (sMv rfl rfl rfl ?_))
 refine Qa rfl (Qg rfl rfl rfl rfl rfl (Xl (a := np0) (b := (1 : Int)))) ?_
 refine sMv rfl rfl rfl ?_
 rcases bC (decide (np0 ≥ (1 : Int))) with hg1 | hg1
 ·replace h := br_t hg1 h
  refine Qh rfl rfl (cgb hg1) (Qn rfl rfl rfl rfl) ?_
  rintro _ rfl
  refine Qh rfl rfl (cgb hg1) (Qg rfl rfl rfl rfl rfl (bin_leq_i (a := np0) (b := (32768 : Int)))) ?_
  rintro _ rfl
  refine Qa rfl (Qt rfl rfl rfl (cgb hg1) rfl) ?_
  refine sAs rfl rfl rfl ?_
  refine Qc (tZ [2] [] [] rfl rfl rfl rfl ?_)
  obtain rfl := Option.some.inj h
  exact Qm rfl rfl (resA (vs := [vB (decide (np0 ≤ (32768 : Int)))]) rfl ⟨rfl, trivial⟩) [] [] rfl rfl rfl ⟨rfl, rfl, rfl⟩
 ·replace h := br_f hg1 h
  refine Qf rfl rfl (cgb hg1) rfl rfl ?_
  refine Qf rfl rfl (cgb hg1) rfl rfl ?_
  refine Qa rfl (Qu rfl rfl rfl (cgb hg1) rfl) ?_
  refine sAs rfl rfl rfl ?_
  refine Qc (tZ [2] [] [] rfl rfl rfl rfl ?_)
  obtain rfl := Option.some.inj h
  exact Qm rfl rfl (resA (vs := [vB false]) rfl ⟨rfl, trivial⟩) [] [] rfl rfl rfl ⟨rfl, rfl, rfl⟩

set_option maxRecDepth 100000 in
set_option maxHeartbeats 4000000 in
theorem w_ref_Check01 {pp0 : Pos} {np1 : Int} {r : Int} (h : ref_Check01 pp0 np1 = some r) :
  Ctr Try.prog 53 #[.agg #[vI pp0.At, vB pp0.Wrap], vI np1] [] []
   (fun rv own shr => rv = vI r ∧ own = [] ∧ shr = []) := by
 unfold ref_Check01 at h
 refine Ctr.mk (args := [.agg #[vI pp0.At, vB pp0.Wrap], vI np1]) Try.func53 rfl rfl (fun R0 w0 B => ?_)
 refine Qe (Qb (Qx rfl (Zr rfl rfl rfl rfl) fun b1 => ?_))
 refine sAs rfl rfl rfl ?_
 refine Qc (tZ [1, 2] [0] [] rfl rfl rfl rfl ?_)
 refine Qe (Qe (Qb (sMv rfl rfl rfl ?_)))
 obtain ⟨size1, hx1, h⟩ := ob_e h
 refine Qr rfl (QD (w_ref_size01 hx1) [] [] rfl rfl rfl rfl rfl callee98 rfl rfl rfl rfl) ?_
 rintro _ ⟨_, _, _, ⟨rfl, rfl, rfl⟩, rfl⟩
 refine Qa rfl (Xd rfl rfl rfl rfl) ?_
 refine sMv rfl rfl rfl ?_
 rcases bC ((!size1)) with hg1 | hg1
 ·replace h := br_t hg1 h
  refine Qf rfl rfl (cgb hg1) rfl rfl ?_
  refine Qf rfl rfl (cgb hg1) rfl rfl ?_
  refine Qf rfl rfl (cgb hg1) rfl rfl ?_
  refine Qa rfl (Qt rfl rfl rfl (cgb hg1) rfl) ?_
  refine sMv rfl rfl rfl ?_
  refine Qf rfl rfl rfl rfl rfl ?_
  refine Qf rfl rfl rfl rfl rfl ?_
  refine Qf rfl rfl rfl rfl rfl ?_
  refine Qf rfl rfl rfl rfl rfl ?_
  refine Qa rfl (Qt rfl rfl rfl rfl rfl) ?_
  refine Qc (tZ [18] [] [] rfl rfl rfl rfl ?_)
  refine Qk rfl ?_
  refine Qe (Qb (sAs rfl rfl rfl ?_))
  refine Qc (tZ [4] [] [] rfl rfl rfl rfl ?_)
  obtain rfl := Option.some.inj h
  exact Qm rfl rfl (resA (vs := [vI (2 : Int)]) rfl ⟨rfl, trivial⟩) [] [] rfl rfl rfl ⟨rfl, rfl, rfl⟩
 ·replace h := br_f hg1 h
  refine Qh rfl rfl (cgb hg1) (Qi rfl rfl rfl rfl YW) ?_
  rintro _ rfl
  refine Qh rfl rfl (cgb hg1) (Qj rfl rfl rfl rfl tyF3 (i := 0) rfl rfl) ?_
  rintro _ rfl
  refine Qh rfl rfl (cgb hg1) (Qg rfl rfl rfl rfl rfl (QP (a := pp0.At) (b := (0 : Int)))) ?_
  rintro _ rfl
  refine Qa rfl (Qu rfl rfl rfl (cgb hg1) rfl) ?_
  refine sMv rfl rfl rfl ?_
  rcases bC (decide (pp0.At < (0 : Int))) with hg2 | hg2
  ·replace h := br_t hg2 h
   refine Qf rfl rfl (cgb hg2) rfl rfl ?_
   refine Qf rfl rfl (cgb hg2) rfl rfl ?_
   refine Qf rfl rfl (cgb hg2) rfl rfl ?_
   refine Qf rfl rfl (cgb hg2) rfl rfl ?_
   refine Qa rfl (Qt rfl rfl rfl (cgb hg2) rfl) ?_
   refine Qc (tZ [18] [] [] rfl rfl rfl rfl ?_)
   refine Qk rfl ?_
   refine Qe (Qb (sAs rfl rfl rfl ?_))
   refine Qc (tZ [4] [] [] rfl rfl rfl rfl ?_)
   obtain rfl := Option.some.inj h
   exact Qm rfl rfl (resA (vs := [vI (2 : Int)]) rfl ⟨rfl, trivial⟩) [] [] rfl rfl rfl ⟨rfl, rfl, rfl⟩
  ·replace h := br_f hg2 h
   refine Qh rfl rfl (cgb hg2) (Qi rfl rfl rfl rfl YW) ?_
   rintro _ rfl
   refine Qh rfl rfl (cgb hg2) (Qj rfl rfl rfl rfl tyF3 (i := 0) rfl rfl) ?_
   rintro _ rfl
   refine Qh rfl rfl (cgb hg2) (Qn rfl rfl rfl rfl) ?_
   rintro _ rfl
   refine Qh rfl rfl (cgb hg2) (Qg rfl rfl rfl rfl rfl (Xl (a := pp0.At) (b := np1))) ?_
   rintro _ rfl
   refine Qa rfl (Qu rfl rfl rfl (cgb hg2) rfl) ?_
   refine Qc (tZ [18] [] [] rfl rfl rfl rfl ?_)
   rcases bC (decide (pp0.At ≥ np1)) with hg3 | hg3
   ·replace h := br_t hg3 h
    refine Qk (cgb hg3) ?_
    refine Qe (Qb (sAs rfl rfl rfl ?_))
    refine Qc (tZ [4] [] [] rfl rfl rfl rfl ?_)
    obtain rfl := Option.some.inj h
    exact Qm rfl rfl (resA (vs := [vI (2 : Int)]) rfl ⟨rfl, trivial⟩) [] [] rfl rfl rfl ⟨rfl, rfl, rfl⟩
   ·replace h := br_f hg3 h
    refine Qo (cgb hg3) ?_
    refine Qs (Qe (Qb (sAs rfl rfl rfl ?_)))
    refine Qc (tZ [4] [] [] rfl rfl rfl rfl ?_)
    obtain rfl := Option.some.inj h
    exact Qm rfl rfl (resA (vs := [vI (0 : Int)]) rfl ⟨rfl, trivial⟩) [] [] rfl rfl rfl ⟨rfl, rfl, rfl⟩

set_option maxRecDepth 100000 in
set_option maxHeartbeats 4000000 in
theorem w_ref_ReadPacked03 {b : List UInt8} {vb1 : Value} {r : (Packed × Int)} (h : XB b = some r) :
  Ctr Try.prog 56 #[vb1] [] [Fact.sl u8S vb1 b]
   (fun rv own shr => rv = .tuple #[.agg #[vU64 r.1.Addr, vU32 r.1.Len, vU16 r.1.ID, vU16 r.1.Flags], vI r.2] ∧ own = [] ∧ shr = []) := by
 unfold XB at h
 refine Ctr.mk (args := [vb1]) Try.func56 rfl rfl (fun R0 w0 B => ?_)
 refine Qe (Qb (Qx rfl (QK rfl rfl rfl tyZ87) fun b1 => ?_))
 refine sAs rfl rfl rfl ?_
 refine Qc (tZ [0, 2] [0] [0] rfl rfl rfl rfl ?_)
 refine Qe (Qe (Qb (sMv rfl rfl rfl ?_)))
 refine Qa rfl (Zq rfl rfl rfl rfl Try.underlying39 (i := 0) rfl) ?_
 refine Qa rfl (Qg rfl rfl rfl rfl rfl (QN (a := len b) (b := (16 : Int)))) ?_
 refine Qc (tZ [0, 2, 6] [0] [0] rfl rfl rfl rfl ?_)
 rcases bC ((len b) != (16 : Int)) with hg1 | hg1
 ·replace h := br_t hg1 h
  refine Qk (cgb hg1) ?_
  refine Qe (Qb (Qa rfl (QL (v := .agg #[vU64 (0 : UInt64), vU32 (0 : UInt32), vU16 (0 : UInt16), vU16 (0 : UInt16)]) rfl rfl rfl rfl (bldV (by kernel_rfl))) ?_))
  refine Qa rfl (Qq (cs' := [vU64 (0 : UInt64), vU32 (0 : UInt32), vU16 (0 : UInt16), vU16 (0 : UInt16)]) rfl rfl rfl rfl tyF87 (i := 0) rfl rfl rfl (QF rfl) rfl) ?_
  refine sAs rfl rfl rfl ?_
  refine Qc (tZ [2, 3] [0] [] rfl rfl rfl rfl ?_)
  obtain rfl := Option.some.inj h
  exact Qm rfl rfl (resA (vs := [.agg #[vU64 (0 : UInt64), vU32 (0 : UInt32), vU16 (0 : UInt16), vU16 (0 : UInt16)], vI (4 : Int)]) rfl ⟨⟨_, 0, _, _, _, rfl, rfl, .inl ⟨tyF87, rfl, rfl⟩⟩, rfl, trivial⟩) [] [] rfl rfl rfl ⟨rfl, rfl, rfl⟩
 ·replace h := br_f hg1 h
  refine Qo (cgb hg1) ?_
  refine Qs (Qe (Qb (sMv rfl rfl rfl ?_)))
  obtain ⟨get1, hx1, h⟩ := ob_e h
  refine Qr rfl (QD (Yq hx1) [] [0] rfl rfl rfl rfl rfl callee99 rfl rfl rfl rfl) ?_
  rintro _ ⟨_, _, _, ⟨rfl, rfl, rfl⟩, rfl⟩
  refine sMv rfl rfl rfl ?_
  obtain ⟨get2, hx2, h⟩ := ob_e h
  refine Qr rfl (QD (Yq hx2) [] [0] rfl rfl rfl rfl rfl callee99 rfl rfl rfl rfl) ?_
  rintro _ ⟨_, _, _, ⟨rfl, rfl, rfl⟩, rfl⟩
  refine Qa rfl (QU rfl rfl rfl rfl (cnv_u64_u32 (n := get2) Try.underlying27 Try.underlying33)) ?_
  refine sMv rfl rfl rfl ?_
  obtain ⟨get3, hx3, h⟩ := ob_e h
  refine Qr rfl (QD (Yq hx3) [] [0] rfl rfl rfl rfl rfl callee99 rfl rfl rfl rfl) ?_
  rintro _ ⟨_, _, _, ⟨rfl, rfl, rfl⟩, rfl⟩
  refine Qa rfl (QU rfl rfl rfl rfl (Yx (n := get3) Try.underlying27 Try.underlying34)) ?_
  refine sMv rfl rfl rfl ?_
  obtain ⟨get4, hx4, h⟩ := ob_e h
  refine Qr rfl (QD (Yq hx4) [] [0] rfl rfl rfl rfl rfl callee99 rfl rfl rfl rfl) ?_
  rintro _ ⟨_, _, _, ⟨rfl, rfl, rfl⟩, rfl⟩
  refine Qa rfl (QU rfl rfl rfl rfl (Yx (n := get4) Try.underlying27 Try.underlying34)) ?_
  refine Qa rfl (QL (v := .agg #[vU64 get1, vU32 get2.toUInt32, vU16 get3.toUInt16, vU16 get4.toUInt16]) rfl rfl rfl rfl (bldV (by kernel_rfl))) ?_
  refine Qa rfl (Qq (cs' := [vU64 get1, vU32 get2.toUInt32, vU16 get3.toUInt16, vU16 get4.toUInt16]) rfl rfl rfl rfl tyF87 (i := 0) rfl rfl rfl (QF rfl) rfl) ?_
  refine sAs rfl rfl rfl ?_
  refine Qc (tZ [2, 3] [0] [] rfl rfl rfl rfl ?_)
  obtain rfl := Option.some.inj h
  exact Qm rfl rfl (resA (vs := [.agg #[vU64 get1, vU32 get2.toUInt32, vU16 get3.toUInt16, vU16 get4.toUInt16], vI (0 : Int)]) rfl ⟨⟨_, 0, _, _, _, rfl, rfl, .inl ⟨tyF87, rfl, rfl⟩⟩, rfl, trivial⟩) [] [] rfl rfl rfl ⟨rfl, rfl, rfl⟩

set_option maxRecDepth 100000 in
set_option maxHeartbeats 4000000 in
theorem w_ref_Go01 {pp0 : Pos} {byp1 : Int} {np2 : Int} {r : (Pos × Int)} (h : ref_Go01 pp0 byp1 np2 = some r) :
  Ctr Try.prog 57 #[.agg #[vI pp0.At, vB pp0.Wrap], vI byp1, vI np2] [] []
   (fun rv own shr => rv = .tuple #[.agg #[vI r.1.At, vB r.1.Wrap], vI r.2] ∧ own = [] ∧ shr = []) := by
 unfold ref_Go01 at h
 refine Ctr.mk (args := [.agg #[vI pp0.At, vB pp0.Wrap], vI byp1, vI np2]) Try.func57 rfl rfl (fun R0 w0 B => ?_)
 refine Qe (Qb (Qx rfl (Zr rfl rfl rfl rfl) fun b1 => ?_))
 refine Qx rfl (QK rfl rfl rfl tyZ60) fun b2 => ?_
 refine sAs rfl rfl rfl ?_
 refine Qc (tZ [1, 2, 3, 6] [0, 1] [] rfl rfl rfl rfl ?_)
 refine Qe (Qe (Qb (Qa rfl (QA (vs := [vI pp0.At, vB pp0.Wrap]) rfl rfl rfl rfl YK (i := 0) rfl rfl rfl) ?_)))
 refine sMv rfl rfl rfl ?_
 obtain ⟨check1, hx1, h⟩ := ob_e h
 refine Qr rfl (QD (w_ref_Check01 hx1) [] [] rfl rfl rfl rfl rfl callee53 rfl rfl rfl rfl) ?_
 rintro _ ⟨_, _, _, ⟨rfl, rfl, rfl⟩, rfl⟩
 refine Qa rfl (Qg rfl rfl rfl rfl rfl (QN (a := check1) (b := (0 : Int)))) ?_
 refine sMv rfl rfl rfl ?_
 rcases bC (check1 != (0 : Int)) with hg1 | hg1
 ·replace h := br_t hg1 h
  refine Qf rfl rfl (cgb hg1) rfl rfl ?_
  refine Qf rfl rfl (cgb hg1) rfl rfl ?_
  refine Qa rfl (Qt rfl rfl rfl (cgb hg1) rfl) ?_
  refine sMv rfl rfl rfl ?_
  refine Qf rfl rfl rfl rfl rfl ?_
  refine Qf rfl rfl rfl rfl rfl ?_
  refine Qf rfl rfl rfl rfl rfl ?_
  refine Qa rfl (Qt rfl rfl rfl rfl rfl) ?_
  refine Qc (tZ [1, 2, 3, 6, 21] [0, 1] [] rfl rfl rfl rfl ?_)
  refine Qk rfl ?_
  refine Qe (Qb (Qa rfl (QL (v := .agg #[vI (0 : Int), vB false]) rfl rfl rfl rfl (bldV (by kernel_rfl))) ?_))
  refine Qa rfl (Qq (cs' := [vI (0 : Int), vB false]) rfl rfl rfl rfl YK (i := 1) rfl rfl rfl (QF rfl) rfl) ?_
  refine sAs rfl rfl rfl ?_
  refine Qc (tZ [6, 7] [1] [] rfl rfl rfl rfl ?_)
  obtain rfl := Option.some.inj h
  exact Qm rfl rfl (resA (vs := [.agg #[vI (0 : Int), vB false], vI (2 : Int)]) rfl ⟨⟨_, 0, _, _, _, rfl, rfl, .inl ⟨YK, rfl, rfl⟩⟩, rfl, trivial⟩) [] [] rfl rfl rfl ⟨rfl, rfl, rfl⟩
 ·replace h := br_f hg1 h
  refine Qh rfl rfl (cgb hg1) (Qn rfl rfl rfl rfl) ?_
  rintro _ rfl
  refine Qh rfl rfl (cgb hg1) (Qg rfl rfl rfl rfl rfl (QP (a := byp1) (b := (0 : Int)))) ?_
  rintro _ rfl
  refine Qa rfl (Qu rfl rfl rfl (cgb hg1) rfl) ?_
  refine sMv rfl rfl rfl ?_
  rcases bC (decide (byp1 < (0 : Int))) with hg2 | hg2
  ·replace h := br_t hg2 h
   refine Qf rfl rfl (cgb hg2) rfl rfl ?_
   refine Qf rfl rfl (cgb hg2) rfl rfl ?_
   refine Qf rfl rfl (cgb hg2) rfl rfl ?_
   refine Qa rfl (Qt rfl rfl rfl (cgb hg2) rfl) ?_
   refine Qc (tZ [1, 2, 3, 6, 21] [0, 1] [] rfl rfl rfl rfl ?_)
   refine Qk rfl ?_
   refine Qe (Qb (Qa rfl (QL (v := .agg #[vI (0 : Int), vB false]) rfl rfl rfl rfl (bldV (by kernel_rfl))) ?_))
   refine Qa rfl (Qq (cs' := [vI (0 : Int), vB false]) rfl rfl rfl rfl YK (i := 1) rfl rfl rfl (QF rfl) rfl) ?_
   refine sAs rfl rfl rfl ?_
   refine Qc (tZ [6, 7] [1] [] rfl rfl rfl rfl ?_)
   obtain rfl := Option.some.inj h
   exact Qm rfl rfl (resA (vs := [.agg #[vI (0 : Int), vB false], vI (2 : Int)]) rfl ⟨⟨_, 0, _, _, _, rfl, rfl, .inl ⟨YK, rfl, rfl⟩⟩, rfl, trivial⟩) [] [] rfl rfl rfl ⟨rfl, rfl, rfl⟩
  ·replace h := br_f hg2 h
   refine Qh rfl rfl (cgb hg2) (Qn rfl rfl rfl rfl) ?_
   rintro _ rfl
   refine Qh rfl rfl (cgb hg2) (Qn rfl rfl rfl rfl) ?_
   rintro _ rfl
   refine Qh rfl rfl (cgb hg2) (Qg rfl rfl rfl rfl rfl (XR (a := byp1) (b := np2))) ?_
   rintro _ rfl
   refine Qa rfl (Qu rfl rfl rfl (cgb hg2) rfl) ?_
   refine Qc (tZ [1, 2, 3, 6, 21] [0, 1] [] rfl rfl rfl rfl ?_)
   rcases bC (decide (byp1 > np2)) with hg3 | hg3
   ·replace h := br_t hg3 h
    refine Qk (cgb hg3) ?_
    refine Qe (Qb (Qa rfl (QL (v := .agg #[vI (0 : Int), vB false]) rfl rfl rfl rfl (bldV (by kernel_rfl))) ?_))
    refine Qa rfl (Qq (cs' := [vI (0 : Int), vB false]) rfl rfl rfl rfl YK (i := 1) rfl rfl rfl (QF rfl) rfl) ?_
    refine sAs rfl rfl rfl ?_
    refine Qc (tZ [6, 7] [1] [] rfl rfl rfl rfl ?_)
    obtain rfl := Option.some.inj h
    exact Qm rfl rfl (resA (vs := [.agg #[vI (0 : Int), vB false], vI (2 : Int)]) rfl ⟨⟨_, 0, _, _, _, rfl, rfl, .inl ⟨YK, rfl, rfl⟩⟩, rfl, trivial⟩) [] [] rfl rfl rfl ⟨rfl, rfl, rfl⟩
   ·replace h := br_f hg3 h
    refine Qo (cgb hg3) ?_
    refine Qs (Qe (Qb (Qa rfl (Qi rfl rfl rfl rfl YW) ?_)))
    refine Qa rfl (Qj rfl rfl rfl rfl tyF3 (i := 0) rfl rfl) ?_
    refine sMv rfl rfl rfl ?_
    refine Qa rfl (Qg rfl rfl rfl rfl rfl (QO (a := pp0.At) (b := byp1))) ?_
    refine sAs rfl rfl rfl ?_
    refine Qc (tZ [2, 3, 6, 8] [0, 1] [] rfl rfl rfl rfl ?_)
    refine Qe (Qe (Qb (sMv rfl rfl rfl ?_)))
    refine sMv rfl rfl rfl ?_
    refine Qa rfl (Qg rfl rfl rfl rfl rfl (Xl (a := wi (pp0.At + byp1)) (b := np2))) ?_
    refine Qc (tZ [2, 3, 6, 8, 29] [0, 1] [] rfl rfl rfl rfl ?_)
    rcases bC (decide ((wi (pp0.At + byp1)) ≥ np2)) with hg4 | hg4
    ·replace h := br_t hg4 h
     refine Qk (cgb hg4) ?_
     refine Qe (Qb (sMv rfl rfl rfl ?_))
     refine sMv rfl rfl rfl ?_
     refine Qa rfl (Qg rfl rfl rfl rfl rfl (Yy (a := wi (pp0.At + byp1)) (b := np2))) ?_
     refine Qa rfl (Qi rfl rfl rfl rfl fldF60x1) ?_
     refine Qa rfl (Qj rfl rfl rfl rfl tyF4 (i := 0) rfl rfl) ?_
     refine Qa rfl (Xd rfl rfl rfl rfl) ?_
     refine Qa rfl (QL (v := .agg #[vI (wi ((wi (pp0.At + byp1)) - np2)), vB (!pp0.Wrap)]) rfl rfl rfl rfl (bldV (by kernel_rfl))) ?_
     refine Qa rfl (Qq (cs' := [vI (wi ((wi (pp0.At + byp1)) - np2)), vB (!pp0.Wrap)]) rfl rfl rfl rfl YK (i := 1) rfl rfl rfl (QF rfl) rfl) ?_
     refine sAs rfl rfl rfl ?_
     refine Qc (tZ [6, 7] [1] [] rfl rfl rfl rfl ?_)
     obtain rfl := Option.some.inj h
     exact Qm rfl rfl (resA (vs := [.agg #[vI (wi ((wi (pp0.At + byp1)) - np2)), vB (!pp0.Wrap)], vI (0 : Int)]) rfl ⟨⟨_, 0, _, _, _, rfl, rfl, .inl ⟨YK, rfl, rfl⟩⟩, rfl, trivial⟩) [] [] rfl rfl rfl ⟨rfl, rfl, rfl⟩
    ·replace h := br_f hg4 h
     refine Qo (cgb hg4) ?_
     refine Qs (Qe (Qb (sMv rfl rfl rfl ?_)))
     refine Qa rfl (Qi rfl rfl rfl rfl fldF60x1) ?_
     refine Qa rfl (Qj rfl rfl rfl rfl tyF4 (i := 0) rfl rfl) ?_
     refine Qa rfl (QL (v := .agg #[vI (wi (pp0.At + byp1)), vB pp0.Wrap]) rfl rfl rfl rfl (bldV (by kernel_rfl))) ?_
     refine Qa rfl (Qq (cs' := [vI (wi (pp0.At + byp1)), vB pp0.Wrap]) rfl rfl rfl rfl YK (i := 1) rfl rfl rfl (QF rfl) rfl) ?_
     refine sAs rfl rfl rfl ?_
     refine Qc (tZ [6, 7] [1] [] rfl rfl rfl rfl ?_)
     obtain rfl := Option.some.inj h
     exact Qm rfl rfl (resA (vs := [.agg #[vI (wi (pp0.At + byp1)), vB pp0.Wrap], vI (0 : Int)]) rfl ⟨⟨_, 0, _, _, _, rfl, rfl, .inl ⟨YK, rfl, rfl⟩⟩, rfl, trivial⟩) [] [] rfl rfl rfl ⟨rfl, rfl, rfl⟩

set_option maxRecDepth 100000 in
set_option maxHeartbeats 4000000 in
theorem w_ref_reader_packed10 {arg0 : dumbwaiterref10_reader} {arg0_m : dumbwaiterref02_Mem} {atp1 : UInt64} {np2 : UInt32} {b_arg0 : Nat} {b_arg0_m : Nat} {varg0m1 : Value} {varg0m2 : Value} {vsarg0m1 : List Value} {varg01 : Value} {r : dumbwaiterref10_reader} (h : Xv arg0 arg0_m atp1 np2 = some r) :
  Ctr Try.prog 58 #[.pointer (some ⟨b_arg0, 0, none⟩), vU64 atp1, vU32 np2] [(Ql b_arg0 118 [.pointer (some ⟨b_arg0_m, 0, none⟩), varg01, vI arg0.n, vI arg0.e]), (rowS SegS varg01 arg0.segs), (Ql b_arg0_m 152 [varg0m1, varg0m2]), (QI u8S false varg0m2 vsarg0m1 arg0_m.B none)] [Fact.sl Qv varg0m1 arg0_m.L]
   (fun rv own shr => ∃ (w1 : Value), rv = .tuple #[] ∧ own = [(Ql b_arg0 118 [.pointer (some ⟨b_arg0_m, 0, none⟩), w1, vI r.n, vI r.e]), (rowS SegS w1 r.segs), (Ql b_arg0_m 152 [varg0m1, varg0m2]), (QI u8S false varg0m2 vsarg0m1 arg0_m.B none)] ∧ shr = []) := by
 unfold Xv at h
 refine Ctr.mk (args := [.pointer (some ⟨b_arg0, 0, none⟩), vU64 atp1, vU32 np2]) Try.func58 rfl rfl (fun R0 w0 B => ?_)
 refine Qe (Qb (sMv rfl rfl rfl ?_))
 refine sMv rfl rfl rfl ?_
 refine sMv rfl rfl rfl ?_
 obtain ⟨entrie1, hx1, h⟩ := ob_e h
 refine Qr rfl (Qw [4, 5, 6, 7] (w_ref_reader_entries10 hx1) [0, 1, 2, 3] [0] rfl rfl rfl rfl rfl callee100 rfl rfl rfl rfl rfl) ?_
 rintro _ ⟨_, _, _, ⟨v1, rfl, rfl, rfl⟩, rfl⟩
 refine sMv rfl rfl rfl ?_
 refine Qa rfl (Qp rfl rfl rfl rfl rfl) ?_
 refine Qa rfl (Qp rfl rfl rfl rfl rfl) ?_
 refine sAs rfl rfl rfl ?_
 refine sAs rfl rfl rfl ?_
 refine Qc (tZ [0, 1, 6, 7] [0, 1, 2, 3] [0] rfl rfl rfl rfl ?_)
 refine Qe (Qb (sAs rfl rfl rfl ?_))
 refine Qc (QJ (Zx (σ := (List Seg) × Int × Int × Int × Value) [0, 1, 6, 7, 8] [0, 2, 3, 1] [0] (fun s => ⟨[(0, some (.pointer (some ⟨b_arg0, 0, none⟩))), (1, some (vU64 atp1)), (6, some (vI entrie1.1)), (7, some (vB entrie1.2.1)), (8, some (vI s.2.2.2.1))], [some (Ql b_arg0 118 [.pointer (some ⟨b_arg0_m, 0, none⟩), s.2.2.2.2, vI s.2.1, vI s.2.2.1]), some (Ql b_arg0_m 152 [varg0m1, varg0m2]), some (QI u8S false varg0m2 vsarg0m1 arg0_m.B none), some (rowS SegS s.2.2.2.2 s.1)], [Fact.sl Qv varg0m1 arg0_m.L]⟩) (fun nf1 s => Zy arg0_m atp1 entrie1 nf1 s.1 s.2.1 s.2.2.1 s.2.2.2.1 = some r) fuel (entrie1.2.2.segs, entrie1.2.2.n, entrie1.2.2.e, (0 : Int), v1) h rfl rfl rfl rfl rfl (fun s h => by cases h) ?_))
 rintro nf1 ⟨l1, n1, e1, i1, v2⟩ h
 replace h : ZX arg0_m atp1 entrie1 (Zy arg0_m atp1 entrie1 nf1) l1 n1 e1 i1 = some r := h
 unfold ZX at h
 refine Qe (Qe (Qb (sMv rfl rfl rfl ?_)))
 refine sMv rfl rfl rfl ?_
 refine Qa rfl (Qg rfl rfl rfl rfl rfl (QP (a := i1) (b := entrie1.1))) ?_
 refine sMv rfl rfl rfl ?_
 rcases bC (decide (i1 < entrie1.1)) with hg1 | hg1
 ·replace h := br_t hg1 h
  refine Qh rfl rfl (cgb hg1) (Qn rfl rfl rfl rfl) ?_
  rintro _ rfl
  refine Qa rfl (Qt rfl rfl rfl (cgb hg1) rfl) ?_
  refine Qc (tZ [0, 1, 6, 7, 8, 25] [0, 1, 2, 3] [0] rfl rfl rfl rfl ?_)
  rcases bC (entrie1.2.1) with hg2 | hg2
  ·replace h := br_t hg2 h
   refine Qk (cgb hg2) ?_
   refine Qs (Qe (QJ (Qe (Qb (sMv rfl rfl rfl ?_)))))
   refine Qa rfl (Qy rfl rfl rfl rfl) ?_
   refine Qa rfl (Qi rfl rfl rfl rfl fldF118x0) ?_
   refine Qa rfl (Qj rfl rfl rfl rfl tyF26 (i := 0) rfl rfl) ?_
   refine sMv rfl rfl rfl ?_
   refine sMv rfl rfl rfl ?_
   refine Qa rfl (QU rfl rfl rfl rfl (ZY (n := i1) Try.underlying3 Try.underlying27)) ?_
   refine Qa rfl (Qg rfl rfl rfl rfl rfl (Zz (a := (16 : UInt64)) (b := u64 i1))) ?_
   refine Qa rfl (Qg rfl rfl rfl rfl rfl (QQ (a := atp1) (b := (16 : UInt64) * (u64 i1)))) ?_
   obtain ⟨Xe, hx2, h⟩ := ob_e h
   refine Qr rfl (Qw [0, 4, 5, 3, 6] (w_ref_Mem_Read02 hx2) [1, 2] [0] rfl rfl rfl rfl rfl callee55 rfl rfl rfl rfl rfl) ?_
   rintro _ ⟨_, _, _, ⟨v3, rfl, rfl, rfl⟩, rfl⟩
   refine sMv rfl rfl rfl ?_
   refine Qa rfl (Qp rfl rfl rfl rfl rfl) ?_
   refine Qa rfl (Qp rfl rfl rfl rfl rfl) ?_
   refine sAs rfl rfl rfl ?_
   refine sAs rfl rfl rfl ?_
   refine Qc (tZ [0, 1, 6, 7, 8, 9] [0, 1, 2, 3, 4] [0] rfl rfl rfl rfl ?_)
   refine Qe (Qb (sMv rfl rfl rfl ?_))
   obtain ⟨readpa1, hx3, h⟩ := ob_e h
   refine Qr rfl (ZU [4] [0, 1, 2, 3, 4] (w_ref_ReadPacked03 hx3) [] rfl rfl rfl rfl rfl callee56 rfl rfl rfl rfl rfl rfl (Zu (Yj 4 rfl rfl) Ye) (by rintro _ _ _ ⟨rfl, rfl, rfl⟩; exact ⟨rfl, Ko⟩)) ?_
   rintro _ ⟨_, _, _, ⟨rfl, rfl, rfl⟩, rfl⟩
   refine sMv rfl rfl rfl ?_
   refine Qa rfl (Qp rfl rfl rfl rfl rfl) ?_
   refine Qa rfl (Qp rfl rfl rfl rfl rfl) ?_
   refine Qx rfl (QK rfl rfl rfl tyZ87) fun b1 => ?_
   refine Qa rfl (Qq (cs' := [vU64 readpa1.1.Addr, vU32 readpa1.1.Len, vU16 readpa1.1.ID, vU16 readpa1.1.Flags]) rfl rfl rfl rfl tyF87 (i := 5) rfl rfl rfl (QF rfl) rfl) ?_
   refine sAs rfl rfl rfl ?_
   refine Qc (tZ [0, 1, 6, 7, 8, 11] [0, 1, 2, 3, 5] [0] rfl rfl rfl rfl ?_)
   refine Qe (Qe (Qb (Qa rfl (Qi rfl rfl rfl rfl YI) ?_)))
   refine Qa rfl (Qj rfl rfl rfl rfl Yn (i := 4) rfl rfl) ?_
   refine Qa rfl (Qg rfl rfl rfl rfl rfl (Zp (a := readpa1.1.Flags) (b := (4 : UInt16)))) ?_
   refine Qa rfl (Qg rfl rfl rfl rfl rfl (ZS (a := readpa1.1.Flags &&& (4 : UInt16)) (b := (0 : UInt16)))) ?_
   refine Qc (tZ [0, 1, 6, 7, 8, 11, 49] [0, 1, 2, 3, 4] [0] rfl rfl rfl rfl ?_)
   rcases bC ((readpa1.1.Flags &&& (4 : UInt16)) != (0 : UInt16)) with hg3 | hg3
   ·replace h := br_t hg3 h
    refine Qk (cgb hg3) ?_
    refine Qe (Qb (sMv rfl rfl rfl ?_))
    obtain ⟨stop1, hx4, h⟩ := ob_e h
    refine Qr rfl (Qw [5, 7, 8, 6, 4] (QG hx4) [0, 3, 1, 2] [0] rfl rfl rfl rfl rfl Xa rfl rfl rfl rfl rfl) ?_
    rintro _ ⟨_, _, _, ⟨v4, rfl, rfl, rfl⟩, rfl⟩
    refine Qc (tZ [] [0, 1, 2, 3] [0] rfl rfl rfl rfl ?_)
    obtain rfl := Option.some.inj h
    exact Qm rfl rfl (resA (vs := []) rfl trivial) [0, 3, 1, 2] [] rfl rfl rfl ⟨v4, rfl, rfl, rfl⟩
   ·replace h := br_f hg3 h
    refine Qo (cgb hg3) ?_
    refine Qs (Qb (sMv rfl rfl rfl ?_))
    refine Qa rfl (Qi rfl rfl rfl rfl fldF87x0) ?_
    refine Qa rfl (Qj rfl rfl rfl rfl QV (i := 4) rfl rfl) ?_
    refine Qa rfl (Qi rfl rfl rfl rfl fldF87x1) ?_
    refine Qa rfl (Qj rfl rfl rfl rfl tyF33 (i := 4) rfl rfl) ?_
    refine Qa rfl (Qi rfl rfl rfl rfl YI) ?_
    refine Qa rfl (Qj rfl rfl rfl rfl Yn (i := 4) rfl rfl) ?_
    obtain ⟨seg1, hx5, h⟩ := ob_e h
    refine Qr rfl (Qw [5, 7, 8, 6, 4] (Ym hx5) [0, 3, 1, 2] [0] rfl rfl rfl rfl rfl callee59 rfl rfl rfl rfl rfl) ?_
    rintro _ ⟨_, _, _, ⟨v5, rfl, rfl, rfl⟩, rfl⟩
    refine Qc (tZ [0, 1, 6, 7, 8] [0, 1, 2, 3] [0] rfl rfl rfl rfl ?_)
    refine ZD (Qb (sMv rfl rfl rfl ?_))
    refine Qa rfl (Qg rfl rfl rfl rfl rfl (QO (a := i1) (b := (1 : Int)))) ?_
    refine sAs rfl rfl rfl ?_
    refine Qc (tZ [0, 1, 6, 7, 8] [0, 1, 2, 3] [0] rfl rfl rfl rfl ?_)
    exact Ze (seg1.segs, seg1.n, seg1.e, wi (i1 + (1 : Int)), v5) h [0, 1, 6, 7, 8] [0, 1, 2, 3] [0] rfl rfl rfl rfl rfl
  ·replace h := br_f hg2 h
   refine Qo (cgb hg2) ?_
   refine ZA _ rfl ?_
   obtain rfl := Option.some.inj h
   exact Tk_endV rfl rfl (resA (vs := []) rfl trivial) [0, 3, 1, 2] [] rfl rfl rfl ⟨v2, rfl, rfl, rfl⟩
 ·replace h := br_f hg1 h
  refine Qf rfl rfl (cgb hg1) rfl rfl ?_
  refine Qa rfl (Qu rfl rfl rfl (cgb hg1) rfl) ?_
  refine Qc (tZ [0, 1, 6, 7, 8, 25] [0, 1, 2, 3] [0] rfl rfl rfl rfl ?_)
  refine Qo rfl ?_
  refine ZA _ rfl ?_
  obtain rfl := Option.some.inj h
  exact Tk_endV rfl rfl (resA (vs := []) rfl trivial) [0, 3, 1, 2] [] rfl rfl rfl ⟨v2, rfl, rfl, rfl⟩

set_option maxRecDepth 100000 in
set_option maxHeartbeats 4000000 in
theorem w_ref_Packed10 {m : dumbwaiterref02_Mem} {rp1 : Rings} {pp2 : Pos} {table : Bool} {b_m : Nat} {vm1 : Value} {vm2 : Value} {vsm1 : List Value} {r : (Taken × Int)} (h : ref_Packed10 m rp1 pp2 table = some r) :
  Ctr Try.prog 21 #[.pointer (some ⟨b_m, 0, none⟩), .agg #[vB rp1.Packed, vI rp1.Size, vU64 rp1.Desc, vU64 rp1.Driver, vU64 rp1.Device], .agg #[vI pp2.At, vB pp2.Wrap], vB table] [(Ql b_m 152 [vm1, vm2]), (QI u8S false vm2 vsm1 m.B none)] [Fact.sl Qv vm1 m.L]
   (fun rv own shr => ∃ (w1 : Value), rv = .tuple #[.agg #[vI r.1.ID, vI r.1.Count, w1], vI r.2] ∧ own = [(Ql b_m 152 [vm1, vm2]), (QI u8S false vm2 vsm1 m.B none), (rowS SegS w1 r.1.Segs)] ∧ shr = []) := by
 unfold ref_Packed10 at h
 refine Ctr.mk (args := [.pointer (some ⟨b_m, 0, none⟩), .agg #[vB rp1.Packed, vI rp1.Size, vU64 rp1.Desc, vU64 rp1.Driver, vU64 rp1.Device], .agg #[vI pp2.At, vB pp2.Wrap], vB table]) Try.func21 rfl rfl (fun R0 w0 B => ?_)
 refine Qe (Qb (Qx rfl (Zr rfl rfl rfl rfl) fun b1 => ?_))
 refine Qx rfl (Zr rfl rfl rfl rfl) fun b2 => ?_
 refine Qx rfl (QK rfl rfl rfl tyZ56) fun b3 => ?_
 refine sAs rfl rfl rfl ?_
 refine Qc (tZ [0, 3, 5, 6, 8] [0, 1, 2, 3, 4] [0] rfl rfl rfl rfl ?_)
 refine Qe (Qb (sMv rfl rfl rfl ?_))
 refine Qa rfl (QA (vs := [vB rp1.Packed, vI rp1.Size, vU64 rp1.Desc, vU64 rp1.Driver, vU64 rp1.Device]) rfl rfl rfl rfl ZK (i := 2) rfl rfl rfl) ?_
 obtain ⟨refuse1, hx1, h⟩ := ob_e h
 refine Qr rfl (Qw [5, 6, 2, 3, 4] (w_ref_refuse10 hx1) [0, 1] [0] rfl rfl rfl rfl rfl callee50 rfl rfl rfl rfl rfl) ?_
 rintro _ ⟨_, _, _, ⟨rfl, rfl, rfl⟩, rfl⟩
 refine sAs rfl rfl rfl ?_
 refine Qc (tZ [0, 3, 5, 6, 8, 10] [0, 1, 2, 3, 4] [0] rfl rfl rfl rfl ?_)
 refine Qe (Qe (Qb (sMv rfl rfl rfl ?_)))
 refine Qa rfl (Qg rfl rfl rfl rfl rfl (Zg (a := refuse1) (b := (0 : Int)))) ?_
 refine sMv rfl rfl rfl ?_
 rcases bC (refuse1 == (0 : Int)) with hg1 | hg1
 ·replace h := br_t hg1 h
  refine Qh rfl rfl (cgb hg1) (QA (vs := [vI pp2.At, vB pp2.Wrap]) rfl rfl rfl rfl YK (i := 3) rfl rfl rfl) ?_
  rintro _ rfl
  refine Qh rfl rfl (cgb hg1) (Qi rfl rfl rfl rfl XH) ?_
  rintro _ rfl
  refine Qh rfl rfl (cgb hg1) (Qj rfl rfl rfl rfl tyF3 (i := 2) rfl rfl) ?_
  rintro _ rfl
  obtain ⟨check1, hx2, h⟩ := ob_e h
  refine Qh rfl rfl (cgb hg1) (QD (w_ref_Check01 hx2) [] [] rfl rfl rfl rfl rfl callee53 rfl rfl rfl rfl) ?_
  rintro _ ⟨_, _, _, ⟨rfl, rfl, rfl⟩, rfl⟩
  refine Qh rfl rfl (cgb hg1) (Qg rfl rfl rfl rfl rfl (QN (a := check1) (b := (0 : Int)))) ?_
  rintro _ rfl
  refine Qa rfl (Qt rfl rfl rfl (cgb hg1) rfl) ?_
  refine Qc (tZ [0, 3, 5, 6, 8, 10, 28] [0, 1, 2, 3, 4] [0] rfl rfl rfl rfl ?_)
  refine KA (α := Int) (fun s => ⟨[(0, some (.pointer (some ⟨b_m, 0, none⟩))), (3, some (vB table)), (5, some (.pointer (some ⟨b1, 0, none⟩))), (6, some (.pointer (some ⟨b2, 0, none⟩))), (8, some (.pointer (some ⟨b3, 0, none⟩))), (10, some (vI s))], [some (Ql b_m 152 [vm1, vm2]), some (QI u8S false vm2 vsm1 m.B none), some (Ql b1 29 [vB rp1.Packed, vI rp1.Size, vU64 rp1.Desc, vU64 rp1.Driver, vU64 rp1.Device]), some (Ql b2 60 [vI pp2.At, vB pp2.Wrap]), some (Ql b3 56 [vI (0 : Int), vI (0 : Int), .slice none 0 0])], [Fact.sl Qv vm1 m.L]⟩) (fun s => Yg m rp1 pp2 table s = some r) ?_ ?_
  ·rintro e1 h
   replace h : Yg m rp1 pp2 table e1 = some r := h
   unfold Yg at h
   refine Qe (Qe (Qb (sMv rfl rfl rfl ?_)))
   refine Qa rfl (Qg rfl rfl rfl rfl rfl (QN (a := e1) (b := (0 : Int)))) ?_
   refine Qc (tZ [0, 3, 5, 6, 8, 10, 30] [0, 1, 2, 3, 4] [0] rfl rfl rfl rfl ?_)
   rcases bC (e1 != (0 : Int)) with hg2 | hg2
   ·replace h := br_t hg2 h
    refine Qk (cgb hg2) ?_
    refine Qe (Qb (Qa rfl (QL (v := .agg #[vI (0 : Int), vI (0 : Int), .slice none 0 0]) rfl rfl rfl rfl (bldV (by kernel_rfl))) ?_))
    refine sMv rfl rfl rfl ?_
    refine Qa rfl (Qq (cs' := [vI (0 : Int), vI (0 : Int), .slice none 0 0]) rfl rfl rfl rfl Xx (i := 4) rfl rfl rfl (QF rfl) rfl) ?_
    refine sAs rfl rfl rfl ?_
    refine Qc (tZ [8, 9] [0, 1, 4] [0] rfl rfl rfl rfl ?_)
    refine ZH SegS ?_
    obtain rfl := Option.some.inj h
    exact Qm rfl rfl (resA (vs := [.agg #[vI (0 : Int), vI (0 : Int), .slice none 0 0], vI e1]) rfl ⟨⟨_, 2, _, _, _, rfl, rfl, .inl ⟨Xx, rfl, rfl⟩⟩, rfl, trivial⟩) [0, 1, 3] [] rfl rfl rfl ⟨(.slice none 0 0), rfl, rfl, rfl⟩
   ·replace h := br_f hg2 h
    refine Qo (cgb hg2) ?_
    refine Qs (Qe (Qb (sMv rfl rfl rfl ?_)))
    refine Qa rfl (QL (v := .agg #[.pointer (some ⟨b_m, 0, none⟩), .slice none 0 0, vI (0 : Int), vI (0 : Int)]) rfl rfl rfl rfl (bldV (by kernel_rfl))) ?_
    refine Qx rfl (Zr rfl rfl rfl rfl) fun b4 => ?_
    refine sAs rfl rfl rfl ?_
    refine Qc (tZ [0, 3, 5, 6, 8, 11] [0, 1, 2, 3, 4, 5] [0] rfl rfl rfl rfl ?_)
    refine Qe (Qb (Qx rfl (QK rfl rfl rfl tyZ56) fun b5 => ?_))
    refine Qc (Qe (KA (α := Rings × Int × Int × (List Seg) × (List Seg) × Int × Int × Int × Int × (List Seg) × Value × Value × Value) (fun s => ⟨[(5, some (.pointer (some ⟨b1, 0, none⟩))), (8, some (.pointer (some ⟨b3, 0, none⟩))), (11, some (.pointer (some ⟨b4, 0, none⟩))), (12, some (.pointer (some ⟨b5, 0, none⟩)))], [some (Ql b1 29 [vB s.1.Packed, vI s.1.Size, vU64 s.1.Desc, vU64 s.1.Driver, vU64 s.1.Device]), some (Ql b3 56 [vI s.2.1, vI s.2.2.1, s.2.2.2.2.2.2.2.2.2.2.1]), some (Ql b4 118 [.pointer (some ⟨b_m, 0, none⟩), s.2.2.2.2.2.2.2.2.2.2.2.1, vI s.2.2.2.2.2.1, vI s.2.2.2.2.2.2.1]), some (Ql b_m 152 [vm1, vm2]), some (QI u8S false vm2 vsm1 m.B none), some (rowS SegS s.2.2.2.2.2.2.2.2.2.2.2.1 s.2.2.2.2.1), some (Ql b5 56 [vI s.2.2.2.2.2.2.2.1, vI s.2.2.2.2.2.2.2.2.1, s.2.2.2.2.2.2.2.2.2.2.2.2])], [Fact.sl SegS s.2.2.2.2.2.2.2.2.2.2.1 s.2.2.2.1, Fact.sl Qv vm1 m.L, Fact.sl SegS s.2.2.2.2.2.2.2.2.2.2.2.2 s.2.2.2.2.2.2.2.2.2.1]⟩) (fun s => ZG m s.1 s.2.1 s.2.2.1 s.2.2.2.1 s.2.2.2.2.1 s.2.2.2.2.2.1 s.2.2.2.2.2.2.1 s.2.2.2.2.2.2.2.1 s.2.2.2.2.2.2.2.2.1 s.2.2.2.2.2.2.2.2.2.1 = some r) ?_ ?_))
    ·rintro ⟨m1, ID1, Count1, Segs1, segs1, n1, e2, ID2, Count2, Segs2, v1, v2, v3⟩ h
     replace h : ZG m m1 ID1 Count1 Segs1 segs1 n1 e2 ID2 Count2 Segs2 = some r := h
     unfold ZG at h
     refine Qe (Qe (Qb (Qa rfl (Qi rfl rfl rfl rfl fldF56x0) ?_)))
     refine Qa rfl (Qj rfl rfl rfl rfl tyF3 (i := 6) rfl rfl) ?_
     refine Qa rfl (Qi rfl rfl rfl rfl XH) ?_
     refine Qa rfl (Qj rfl rfl rfl rfl tyF3 (i := 0) rfl rfl) ?_
     refine Qa rfl (Qg rfl rfl rfl rfl rfl (Xl (a := ID2) (b := m1.Size))) ?_
     refine Qc (tZ [8, 11, 12, 120] [1, 2, 3, 4, 5, 6] [0, 1, 2] rfl rfl rfl rfl ?_)
     refine KA (α := Int × Int × (List Seg) × (List Seg) × Int × Int × Int × Int × (List Seg) × Value × Value × Value) (fun s => ⟨[(8, some (.pointer (some ⟨b3, 0, none⟩))), (11, some (.pointer (some ⟨b4, 0, none⟩))), (12, some (.pointer (some ⟨b5, 0, none⟩)))], [some (Ql b3 56 [vI s.1, vI s.2.1, s.2.2.2.2.2.2.2.2.2.1]), some (Ql b4 118 [.pointer (some ⟨b_m, 0, none⟩), s.2.2.2.2.2.2.2.2.2.2.1, vI s.2.2.2.2.1, vI s.2.2.2.2.2.1]), some (Ql b_m 152 [vm1, vm2]), some (QI u8S false vm2 vsm1 m.B none), some (rowS SegS s.2.2.2.2.2.2.2.2.2.2.1 s.2.2.2.1), some (Ql b5 56 [vI s.2.2.2.2.2.2.1, vI s.2.2.2.2.2.2.2.1, s.2.2.2.2.2.2.2.2.2.2.2])], [Fact.sl SegS s.2.2.2.2.2.2.2.2.2.1 s.2.2.1, Fact.sl Qv vm1 m.L, Fact.sl SegS s.2.2.2.2.2.2.2.2.2.2.2 s.2.2.2.2.2.2.2.2.1]⟩) (fun s => XJ m s.1 s.2.1 s.2.2.1 s.2.2.2.1 s.2.2.2.2.1 s.2.2.2.2.2.1 s.2.2.2.2.2.2.1 s.2.2.2.2.2.2.2.1 s.2.2.2.2.2.2.2.2.1 = some r) ?_ ?_
     ·rintro ⟨ID3, Count3, Segs3, l1, n2, e3, ID4, Count4, Segs4, v4, v5, v6⟩ h
      replace h : XJ m ID3 Count3 Segs3 l1 n2 e3 ID4 Count4 Segs4 = some r := h
      unfold XJ at h
      refine Qe (Qb (sMv rfl rfl rfl ?_))
      obtain ⟨end1, hx3, h⟩ := ob_e h
      refine Qr rfl (Qw [0, 1, 6, 7, 4, 5, 8] (w_ref_reader_end10 hx3) [1, 4, 2, 3] [1] rfl rfl rfl rfl rfl callee52 rfl rfl rfl rfl rfl) ?_
      rintro _ ⟨_, _, _, ⟨v7, rfl, rfl, rfl⟩, rfl⟩
      refine sMv rfl rfl rfl ?_
      refine Qa rfl (Qp rfl rfl rfl rfl rfl) ?_
      refine Qa rfl (Qp rfl rfl rfl rfl rfl) ?_
      refine Qa rfl (Qi rfl rfl rfl rfl fldF56x2) ?_
      refine Qa rfl (YJ (cs' := [vI ID4, vI Count4, v7]) rfl rfl rfl rfl tyF41 (i := 5) rfl (Kx (i := 6) rfl) rfl rfl) ?_
      refine sAs rfl rfl rfl ?_
      refine Qc (tZ [8, 12, 10] [0, 2, 3, 5, 6] [0, 1] rfl rfl rfl rfl ?_)
      refine Qe (Qe (Qb (sMv rfl rfl rfl ?_)))
      refine Qa rfl (Qg rfl rfl rfl rfl rfl (QN (a := end1.2) (b := (0 : Int)))) ?_
      refine Qc (tZ [8, 12, 10, 130] [0, 1, 2, 3, 4] [0, 1] rfl rfl rfl rfl ?_)
      rcases bC (end1.2 != (0 : Int)) with hg3 | hg3
      ·replace h := br_t hg3 h
       refine Qk (cgb hg3) ?_
       refine Qe (Qb (Qa rfl (QL (v := .agg #[vI (0 : Int), vI (0 : Int), .slice none 0 0]) rfl rfl rfl rfl (bldV (by kernel_rfl))) ?_))
       refine sMv rfl rfl rfl ?_
       refine Qa rfl (Qq (cs' := [vI (0 : Int), vI (0 : Int), .slice none 0 0]) rfl rfl rfl rfl Xx (i := 0) rfl rfl rfl (QF rfl) rfl) ?_
       refine sAs rfl rfl rfl ?_
       refine Qc (tZ [8, 9] [0, 1, 2] [1] rfl rfl rfl rfl ?_)
       refine ZH SegS ?_
       obtain rfl := Option.some.inj h
       exact Qm rfl rfl (resA (vs := [.agg #[vI (0 : Int), vI (0 : Int), .slice none 0 0], vI end1.2]) rfl ⟨⟨_, 0, _, _, _, rfl, rfl, .inl ⟨Xx, rfl, rfl⟩⟩, rfl, trivial⟩) [1, 2, 3] [] rfl rfl rfl ⟨(.slice none 0 0), rfl, rfl, rfl⟩
      ·replace h := br_f hg3 h
       refine Qo (cgb hg3) ?_
       refine Qs (Qe (Qb (Qa rfl (QA (vs := [vI ID4, vI Count4, v7]) rfl rfl rfl rfl Xx (i := 3) rfl rfl rfl) ?_)))
       refine Qa rfl (Xj (fun z0 => [vI ID4, vI Count4, z0]) (cs' := [vI ID4, vI Count4, v7]) rfl rfl rfl rfl Xx (i := 0) rfl (Kx (i := 4) rfl) (fun _ _ _ => rfl) rfl rfl rfl) ?_
       refine sAs rfl rfl rfl ?_
       refine Qc (tZ [8, 9] [0, 1, 2, 4] [1] rfl rfl rfl rfl ?_)
       obtain rfl := Option.some.inj h
       exact Qm rfl rfl (resA (vs := [.agg #[vI ID4, vI Count4, v7], vI (0 : Int)]) rfl ⟨⟨_, 0, _, _, _, rfl, rfl, .inl ⟨Xx, rfl, rfl⟩⟩, rfl, trivial⟩) [1, 2, 3] [] rfl rfl rfl ⟨v7, rfl, rfl, rfl⟩
     ·intro HJ1
      rcases bC (decide (ID2 ≥ m1.Size)) with hg4 | hg4
      ·replace h := br_t hg4 h
       refine Qk (cgb hg4) ?_
       refine Qb (sMv rfl rfl rfl ?_)
       obtain ⟨stop1, hx4, h⟩ := ob_e h
       refine Qr rfl (Qw [0, 6, 8, 9, 7, 5] (QG hx4) [1, 4, 2, 3] [1] rfl rfl rfl rfl rfl Xa rfl rfl rfl rfl rfl) ?_
       rintro _ ⟨_, _, _, ⟨v8, rfl, rfl, rfl⟩, rfl⟩
       refine Qc (tZ [8, 11, 12] [0, 1, 2, 3, 4, 5] [0, 1, 2] rfl rfl rfl rfl ?_)
       exact ZI (HJ1 (ID1, Count1, Segs1, stop1.segs, stop1.n, stop1.e, ID2, Count2, Segs2, v1, v8, v3) h) [8, 11, 12] [0, 1, 2, 3, 4, 5] [0, 1, 2] rfl rfl rfl rfl
      ·replace h := br_f hg4 h
       refine Qo (cgb hg4) ?_
       refine Qs ?_
       exact ZI (HJ1 (ID1, Count1, Segs1, segs1, n1, e2, ID2, Count2, Segs2, v1, v2, v3) h) [8, 11, 12] [0, 1, 2, 3, 4, 5] [0, 1, 2] rfl rfl rfl rfl
    ·intro HJ2
     refine QJ (Xu SegS ?_)
     refine ZH SegS ?_
     refine Xu SegS ?_
     refine Zx (σ := Rings × Pos × Int × Int × (List Seg) × (List Seg) × Int × Int × Int × Int × (List Seg) × Value × Value × Value) [0, 3, 5, 6, 8, 11, 12] [0, 1, 2, 3, 4, 5, 7, 6] [0, 1, 2] (fun s => ⟨[(0, some (.pointer (some ⟨b_m, 0, none⟩))), (3, some (vB table)), (5, some (.pointer (some ⟨b1, 0, none⟩))), (6, some (.pointer (some ⟨b2, 0, none⟩))), (8, some (.pointer (some ⟨b3, 0, none⟩))), (11, some (.pointer (some ⟨b4, 0, none⟩))), (12, some (.pointer (some ⟨b5, 0, none⟩)))], [some (Ql b_m 152 [vm1, vm2]), some (QI u8S false vm2 vsm1 m.B none), some (Ql b1 29 [vB s.1.Packed, vI s.1.Size, vU64 s.1.Desc, vU64 s.1.Driver, vU64 s.1.Device]), some (Ql b2 60 [vI s.2.1.At, vB s.2.1.Wrap]), some (Ql b3 56 [vI s.2.2.1, vI s.2.2.2.1, s.2.2.2.2.2.2.2.2.2.2.2.1]), some (Ql b4 118 [.pointer (some ⟨b_m, 0, none⟩), s.2.2.2.2.2.2.2.2.2.2.2.2.1, vI s.2.2.2.2.2.2.1, vI s.2.2.2.2.2.2.2.1]), some (rowS SegS s.2.2.2.2.2.2.2.2.2.2.2.2.1 s.2.2.2.2.2.1), some (Ql b5 56 [vI s.2.2.2.2.2.2.2.2.1, vI s.2.2.2.2.2.2.2.2.2.1, s.2.2.2.2.2.2.2.2.2.2.2.2.2])], [Fact.sl Qv vm1 m.L, Fact.sl SegS s.2.2.2.2.2.2.2.2.2.2.2.1 s.2.2.2.2.1, Fact.sl SegS s.2.2.2.2.2.2.2.2.2.2.2.2.2 s.2.2.2.2.2.2.2.2.2.2.1]⟩) (fun nf4 s => XI m table nf4 s.1 s.2.1 s.2.2.1 s.2.2.2.1 s.2.2.2.2.1 s.2.2.2.2.2.1 s.2.2.2.2.2.2.1 s.2.2.2.2.2.2.2.1 s.2.2.2.2.2.2.2.2.1 s.2.2.2.2.2.2.2.2.2.1 s.2.2.2.2.2.2.2.2.2.2.1 = some r) fuel (rp1, pp2, (0 : Int), (0 : Int), ([] : List Seg), ([] : List Seg), (0 : Int), (0 : Int), (0 : Int), (0 : Int), ([] : List Seg), .slice none 0 0, .slice none 0 0, .slice none 0 0) h rfl rfl rfl rfl rfl (fun s h => by cases h) ?_
     rintro nf4 ⟨m2, m3, ID5, Count5, Segs5, segs2, n3, e4, ID6, Count6, Segs6, v9, v10, v11⟩ h
     replace h : Yu m table (XI m table nf4) m2 m3 ID5 Count5 Segs5 segs2 n3 e4 ID6 Count6 Segs6 = some r := h
     unfold Yu at h
     refine QJ (Qe (Qe (Qb (Qa rfl (Qi rfl rfl rfl rfl fldF56x1) ?_))))
     refine Qa rfl (Qj rfl rfl rfl rfl tyF3 (i := 7) rfl rfl) ?_
     refine Qa rfl (Qi rfl rfl rfl rfl XH) ?_
     refine Qa rfl (Qj rfl rfl rfl rfl tyF3 (i := 2) rfl rfl) ?_
     refine Qa rfl (Qg rfl rfl rfl rfl rfl (Zg (a := Count6) (b := m2.Size))) ?_
     refine Qc (tZ [0, 3, 5, 6, 8, 11, 12, 40] [0, 1, 2, 3, 4, 5, 6, 7] [0, 1, 2] rfl rfl rfl rfl ?_)
     rcases bC (Count6 == m2.Size) with hg5 | hg5
     ·replace h := br_t hg5 h
      refine Qk (cgb hg5) ?_
      refine Qe (Qb (sMv rfl rfl rfl ?_))
      obtain ⟨stop2, hx5, h⟩ := ob_e h
      refine Qr rfl (Qw [10, 11, 2, 3, 4, 8, 9, 7] (QG hx5) [5, 6, 0, 1] [0] rfl rfl rfl rfl rfl Xa rfl rfl rfl rfl rfl) ?_
      rintro _ ⟨_, _, _, ⟨v12, rfl, rfl, rfl⟩, rfl⟩
      refine Qc (tZ [5, 8, 11, 12] [0, 1, 2, 4, 5, 6, 7] [0, 1, 2] rfl rfl rfl rfl ?_)
      refine ZA _ rfl ?_
      exact ZI (HJ2 (m2, ID5, Count5, Segs5, stop2.segs, stop2.n, stop2.e, ID6, Count6, Segs6, v9, v12, v11) h) [5, 8, 11, 12] [2, 3, 4, 0, 1, 5, 6] [1, 0, 2] rfl rfl rfl rfl
     ·replace h := br_f hg5 h
      refine Qo (cgb hg5) ?_
      refine Qs (Qe (Qb (sMv rfl rfl rfl ?_)))
      refine Qa rfl (Qi rfl rfl rfl rfl Ky) ?_
      refine Qa rfl (Qj rfl rfl rfl rfl QV (i := 2) rfl rfl) ?_
      refine Qa rfl (Qi rfl rfl rfl rfl YW) ?_
      refine Qa rfl (Qj rfl rfl rfl rfl tyF3 (i := 3) rfl rfl) ?_
      refine Qa rfl (QU rfl rfl rfl rfl (ZY (n := m3.At) Try.underlying3 Try.underlying27)) ?_
      refine Qa rfl (Qg rfl rfl rfl rfl rfl (Zz (a := (16 : UInt64)) (b := u64 m3.At))) ?_
      refine Qa rfl (Qg rfl rfl rfl rfl rfl (QQ (a := m2.Desc) (b := (16 : UInt64) * (u64 m3.At)))) ?_
      obtain ⟨Xe, hx6, h⟩ := ob_e h
      refine Qr rfl (Qw [8, 9, 2, 3, 4, 5, 6, 7, 10] (w_ref_Mem_Read02 hx6) [0, 1] [0] rfl rfl rfl rfl rfl callee55 rfl rfl rfl rfl rfl) ?_
      rintro _ ⟨_, _, _, ⟨v13, rfl, rfl, rfl⟩, rfl⟩
      refine sMv rfl rfl rfl ?_
      refine Qa rfl (Qp rfl rfl rfl rfl rfl) ?_
      refine Qa rfl (Qp rfl rfl rfl rfl rfl) ?_
      refine sAs rfl rfl rfl ?_
      refine sAs rfl rfl rfl ?_
      refine Qc (tZ [0, 3, 5, 6, 8, 11, 12, 13, 14] [0, 1, 2, 3, 4, 5, 6, 7, 8] [0, 1, 2] rfl rfl rfl rfl ?_)
      refine Qe (Qe (Qb (sMv rfl rfl rfl ?_)))
      refine Qa rfl (Qg rfl rfl rfl rfl rfl (QN (a := Xe.2) (b := (0 : Int)))) ?_
      refine Qc (tZ [0, 3, 5, 6, 8, 11, 12, 13, 56] [0, 1, 2, 3, 4, 5, 6, 7, 8] [0, 1, 2] rfl rfl rfl rfl ?_)
      rcases bC (Xe.2 != (0 : Int)) with hg6 | hg6
      ·replace h := br_t hg6 h
       refine Qk (cgb hg6) ?_
       refine Qe (Qb (sMv rfl rfl rfl ?_))
       obtain ⟨stop3, hx7, h⟩ := ob_e h
       refine Qr rfl (Qw [11, 12, 2, 3, 4, 9, 10, 7, 8] (QG hx7) [5, 6, 0, 1] [0] rfl rfl rfl rfl rfl Xa rfl rfl rfl rfl rfl) ?_
       rintro _ ⟨_, _, _, ⟨v14, rfl, rfl, rfl⟩, rfl⟩
       refine Qc (tZ [5, 8, 11, 12] [0, 1, 2, 4, 5, 6, 7] [0, 1, 2] rfl rfl rfl rfl ?_)
       refine ZA _ rfl ?_
       exact ZI (HJ2 (m2, ID5, Count5, Segs5, stop3.segs, stop3.n, stop3.e, ID6, Count6, Segs6, v9, v14, v11) h) [5, 8, 11, 12] [2, 3, 4, 0, 1, 5, 6] [1, 0, 2] rfl rfl rfl rfl
      ·replace h := br_f hg6 h
       refine Qo (cgb hg6) ?_
       refine Qs (Qe (Qb (sMv rfl rfl rfl ?_)))
       obtain ⟨readpa1, hx8, h⟩ := ob_e h
       refine Qr rfl (ZU [8] [0, 1, 2, 3, 4, 5, 6, 7, 8] (w_ref_ReadPacked03 hx8) [] rfl rfl rfl rfl rfl callee56 rfl rfl rfl rfl rfl rfl (Zu (Yj 8 rfl rfl) Ye) (by rintro _ _ _ ⟨rfl, rfl, rfl⟩; exact ⟨rfl, Ko⟩)) ?_
       rintro _ ⟨_, _, _, ⟨rfl, rfl, rfl⟩, rfl⟩
       refine sMv rfl rfl rfl ?_
       refine Qa rfl (Qp rfl rfl rfl rfl rfl) ?_
       refine Qa rfl (Qp rfl rfl rfl rfl rfl) ?_
       refine Qx rfl (QK rfl rfl rfl tyZ87) fun b6 => ?_
       refine Qa rfl (Qq (cs' := [vU64 readpa1.1.Addr, vU32 readpa1.1.Len, vU16 readpa1.1.ID, vU16 readpa1.1.Flags]) rfl rfl rfl rfl tyF87 (i := 9) rfl rfl rfl (QF rfl) rfl) ?_
       refine sAs rfl rfl rfl ?_
       refine Qc (tZ [0, 3, 5, 6, 8, 11, 12, 15] [0, 1, 2, 3, 4, 5, 6, 7, 9] [0, 1, 2] rfl rfl rfl rfl ?_)
       refine Qe (Qb (Qa rfl (Qi rfl rfl rfl rfl fldF87x2) ?_))
       refine Qa rfl (Qj rfl rfl rfl rfl Yn (i := 8) rfl rfl) ?_
       refine Qa rfl (QU rfl rfl rfl rfl (cnv_u16_i (n := readpa1.1.ID) Try.underlying34 Try.underlying3)) ?_
       refine Qa rfl (Qi rfl rfl rfl rfl fldF56x0) ?_
       refine Qa rfl (Qq (cs' := [vI (i16 readpa1.1.ID), vI Count6, v11]) rfl rfl rfl rfl tyF3 (i := 7) rfl rfl rfl (QF rfl) rfl) ?_
       refine Qc (tZ [0, 3, 5, 6, 8, 11, 12, 15] [0, 1, 2, 3, 4, 5, 6, 7, 8] [0, 1, 2] rfl rfl rfl rfl ?_)
       refine Qe (Qb (Qa rfl (Qi rfl rfl rfl rfl fldF56x1) ?_))
       refine Qa rfl (Qj rfl rfl rfl rfl tyF3 (i := 7) rfl rfl) ?_
       refine Qa rfl (Qg rfl rfl rfl rfl rfl (QO (a := Count6) (b := (1 : Int)))) ?_
       refine Qa rfl (Qi rfl rfl rfl rfl fldF56x1) ?_
       refine Qa rfl (Qq (cs' := [vI (i16 readpa1.1.ID), vI (wi (Count6 + (1 : Int))), v11]) rfl rfl rfl rfl tyF3 (i := 7) rfl rfl rfl (QF rfl) rfl) ?_
       refine Qc (tZ [0, 3, 5, 6, 8, 11, 12, 15] [0, 1, 2, 3, 4, 5, 6, 7, 8] [0, 1, 2] rfl rfl rfl rfl ?_)
       refine Qe (Qb (Qa rfl (QA (vs := [vI m3.At, vB m3.Wrap]) rfl rfl rfl rfl YK (i := 3) rfl rfl rfl) ?_))
       refine Qa rfl (Qi rfl rfl rfl rfl XH) ?_
       refine Qa rfl (Qj rfl rfl rfl rfl tyF3 (i := 2) rfl rfl) ?_
       obtain ⟨go1, hx9, h⟩ := ob_e h
       refine Qr rfl (QD (w_ref_Go01 hx9) [] [] rfl rfl rfl rfl rfl callee57 rfl rfl rfl rfl) ?_
       rintro _ ⟨_, _, _, ⟨rfl, rfl, rfl⟩, rfl⟩
       refine sMv rfl rfl rfl ?_
       refine Qa rfl (Qp rfl rfl rfl rfl rfl) ?_
       refine Qa rfl (Qp rfl rfl rfl rfl rfl) ?_
       refine Qa rfl (Qq (cs' := [vI go1.1.At, vB go1.1.Wrap]) rfl rfl rfl rfl YK (i := 3) rfl rfl rfl (QF rfl) rfl) ?_
       refine Qc (tZ [0, 3, 5, 6, 8, 11, 12, 15] [0, 1, 2, 3, 4, 5, 6, 7, 8] [0, 1, 2] rfl rfl rfl rfl ?_)
       refine Qe (Qe (Qb (Qa rfl (Qi rfl rfl rfl rfl YI) ?_)))
       refine Qa rfl (Qj rfl rfl rfl rfl Yn (i := 8) rfl rfl) ?_
       refine Qa rfl (Qg rfl rfl rfl rfl rfl (Zp (a := readpa1.1.Flags) (b := (4 : UInt16)))) ?_
       refine Qa rfl (Qg rfl rfl rfl rfl rfl (ZS (a := readpa1.1.Flags &&& (4 : UInt16)) (b := (0 : UInt16)))) ?_
       refine Qc (tZ [0, 3, 5, 6, 8, 11, 12, 15, 82] [0, 1, 2, 3, 4, 5, 6, 7, 8] [0, 1, 2] rfl rfl rfl rfl ?_)
       rcases bC ((readpa1.1.Flags &&& (4 : UInt16)) != (0 : UInt16)) with hg7 | hg7
       ·replace h := br_t hg7 h
        refine Qk (cgb hg7) ?_
        refine Qe (Qe (Qb (sMv rfl rfl rfl ?_)))
        refine Qa rfl (Xd rfl rfl rfl rfl) ?_
        refine sMv rfl rfl rfl ?_
        rcases bC ((!table)) with hg8 | hg8
        ·replace h := br_t hg8 h
         refine Qf rfl rfl (cgb hg8) rfl rfl ?_
         refine Qf rfl rfl (cgb hg8) rfl rfl ?_
         refine Qf rfl rfl (cgb hg8) rfl rfl ?_
         refine Qa rfl (Qt rfl rfl rfl (cgb hg8) rfl) ?_
         refine sMv rfl rfl rfl ?_
         refine Qf rfl rfl rfl rfl rfl ?_
         refine Qf rfl rfl rfl rfl rfl ?_
         refine Qf rfl rfl rfl rfl rfl ?_
         refine Qf rfl rfl rfl rfl rfl ?_
         refine Qa rfl (Qt rfl rfl rfl rfl rfl) ?_
         refine Qc (tZ [5, 8, 11, 12, 15, 95] [0, 1, 2, 4, 5, 6, 7, 8] [0, 1, 2] rfl rfl rfl rfl ?_)
         refine Qk rfl ?_
         refine Qb (sMv rfl rfl rfl ?_)
         obtain ⟨stop4, hx10, h⟩ := ob_e h
         refine Qr rfl (Qw [10, 11, 2, 3, 8, 9, 6, 7] (QG hx10) [4, 5, 0, 1] [0] rfl rfl rfl rfl rfl Xa rfl rfl rfl rfl rfl) ?_
         rintro _ ⟨_, _, _, ⟨v15, rfl, rfl, rfl⟩, rfl⟩
         refine Qc (tZ [5, 8, 11, 12] [0, 1, 2, 3, 4, 5, 6] [0, 1, 2] rfl rfl rfl rfl ?_)
         refine ZA _ rfl ?_
         exact ZI (HJ2 (m2, ID5, Count5, Segs5, stop4.segs, stop4.n, stop4.e, i16 readpa1.1.ID, wi (Count6 + (1 : Int)), Segs6, v9, v15, v11) h) [5, 8, 11, 12] [2, 3, 4, 0, 1, 5, 6] [1, 0, 2] rfl rfl rfl rfl
        ·replace h := br_f hg8 h
         refine Qh rfl rfl (cgb hg8) (Qi rfl rfl rfl rfl fldF56x1) ?_
         rintro _ rfl
         refine Qh rfl rfl (cgb hg8) (Qj rfl rfl rfl rfl tyF3 (i := 7) rfl rfl) ?_
         rintro _ rfl
         refine Qh rfl rfl (cgb hg8) (Qg rfl rfl rfl rfl rfl (XR (a := wi (Count6 + (1 : Int))) (b := (1 : Int)))) ?_
         rintro _ rfl
         refine Qa rfl (Qu rfl rfl rfl (cgb hg8) rfl) ?_
         refine sMv rfl rfl rfl ?_
         rcases bC (decide ((wi (Count6 + (1 : Int))) > (1 : Int))) with hg9 | hg9
         ·replace h := br_t hg9 h
          refine Qf rfl rfl (cgb hg9) rfl rfl ?_
          refine Qf rfl rfl (cgb hg9) rfl rfl ?_
          refine Qf rfl rfl (cgb hg9) rfl rfl ?_
          refine Qf rfl rfl (cgb hg9) rfl rfl ?_
          refine Qa rfl (Qt rfl rfl rfl (cgb hg9) rfl) ?_
          refine Qc (tZ [5, 8, 11, 12, 15, 95] [0, 1, 2, 4, 5, 6, 7, 8] [0, 1, 2] rfl rfl rfl rfl ?_)
          refine Qk rfl ?_
          refine Qb (sMv rfl rfl rfl ?_)
          obtain ⟨stop5, hx11, h⟩ := ob_e h
          refine Qr rfl (Qw [10, 11, 2, 3, 8, 9, 6, 7] (QG hx11) [4, 5, 0, 1] [0] rfl rfl rfl rfl rfl Xa rfl rfl rfl rfl rfl) ?_
          rintro _ ⟨_, _, _, ⟨v16, rfl, rfl, rfl⟩, rfl⟩
          refine Qc (tZ [5, 8, 11, 12] [0, 1, 2, 3, 4, 5, 6] [0, 1, 2] rfl rfl rfl rfl ?_)
          refine ZA _ rfl ?_
          exact ZI (HJ2 (m2, ID5, Count5, Segs5, stop5.segs, stop5.n, stop5.e, i16 readpa1.1.ID, wi (Count6 + (1 : Int)), Segs6, v9, v16, v11) h) [5, 8, 11, 12] [2, 3, 4, 0, 1, 5, 6] [1, 0, 2] rfl rfl rfl rfl
         ·replace h := br_f hg9 h
          refine Qh rfl rfl (cgb hg9) (Qi rfl rfl rfl rfl YI) ?_
          rintro _ rfl
          refine Qh rfl rfl (cgb hg9) (Qj rfl rfl rfl rfl Yn (i := 8) rfl rfl) ?_
          rintro _ rfl
          refine Qh rfl rfl (cgb hg9) (Qg rfl rfl rfl rfl rfl (Zp (a := readpa1.1.Flags) (b := (1 : UInt16)))) ?_
          rintro _ rfl
          refine Qh rfl rfl (cgb hg9) (Qg rfl rfl rfl rfl rfl (ZS (a := readpa1.1.Flags &&& (1 : UInt16)) (b := (0 : UInt16)))) ?_
          rintro _ rfl
          refine Qa rfl (Qu rfl rfl rfl (cgb hg9) rfl) ?_
          refine Qc (tZ [5, 8, 11, 12, 15, 95] [0, 1, 2, 4, 5, 6, 7, 8] [0, 1, 2] rfl rfl rfl rfl ?_)
          refine KA (α := Rings × Int × Int × (List Seg) × (List Seg) × Int × Int × Int × Int × (List Seg) × Value × Value × Value) (fun s => ⟨[(5, some (.pointer (some ⟨b1, 0, none⟩))), (8, some (.pointer (some ⟨b3, 0, none⟩))), (11, some (.pointer (some ⟨b4, 0, none⟩))), (12, some (.pointer (some ⟨b5, 0, none⟩)))], [some (Ql b1 29 [vB s.1.Packed, vI s.1.Size, vU64 s.1.Desc, vU64 s.1.Driver, vU64 s.1.Device]), some (Ql b3 56 [vI s.2.1, vI s.2.2.1, s.2.2.2.2.2.2.2.2.2.2.1]), some (Ql b4 118 [.pointer (some ⟨b_m, 0, none⟩), s.2.2.2.2.2.2.2.2.2.2.2.1, vI s.2.2.2.2.2.1, vI s.2.2.2.2.2.2.1]), some (Ql b_m 152 [vm1, vm2]), some (QI u8S false vm2 vsm1 m.B none), some (rowS SegS s.2.2.2.2.2.2.2.2.2.2.2.1 s.2.2.2.2.1), some (Ql b5 56 [vI s.2.2.2.2.2.2.2.1, vI s.2.2.2.2.2.2.2.2.1, s.2.2.2.2.2.2.2.2.2.2.2.2])], [Fact.sl SegS s.2.2.2.2.2.2.2.2.2.2.1 s.2.2.2.1, Fact.sl Qv vm1 m.L, Fact.sl SegS s.2.2.2.2.2.2.2.2.2.2.2.2 s.2.2.2.2.2.2.2.2.2.1]⟩) (fun s => YT m s.1 s.2.1 s.2.2.1 s.2.2.2.1 s.2.2.2.2.1 s.2.2.2.2.2.1 s.2.2.2.2.2.2.1 s.2.2.2.2.2.2.2.1 s.2.2.2.2.2.2.2.2.1 s.2.2.2.2.2.2.2.2.2.1 = some r) ?_ ?_
          ·rintro ⟨m4, ID7, Count7, Segs7, l2, n4, e5, ID8, Count8, Segs8, v17, v18, v19⟩ h
           replace h : YT m m4 ID7 Count7 Segs7 l2 n4 e5 ID8 Count8 Segs8 = some r := h
           unfold YT at h
           refine ZA _ rfl ?_
           exact ZI (HJ2 (m4, ID7, Count7, Segs7, l2, n4, e5, ID8, Count8, Segs8, v17, v18, v19) h) [5, 8, 11, 12] [0, 1, 2, 3, 4, 5, 6] [0, 1, 2] rfl rfl rfl rfl
          ·intro HJ3
           rcases bC ((readpa1.1.Flags &&& (1 : UInt16)) != (0 : UInt16)) with hg10 | hg10
           ·replace h := br_t hg10 h
            refine Qk (cgb hg10) ?_
            refine Qb (sMv rfl rfl rfl ?_)
            obtain ⟨stop6, hx12, h⟩ := ob_e h
            refine Qr rfl (Qw [10, 11, 2, 3, 8, 9, 6, 7] (QG hx12) [4, 5, 0, 1] [0] rfl rfl rfl rfl rfl Xa rfl rfl rfl rfl rfl) ?_
            rintro _ ⟨_, _, _, ⟨v20, rfl, rfl, rfl⟩, rfl⟩
            refine Qc (tZ [5, 8, 11, 12] [0, 1, 2, 3, 4, 5, 6] [0, 1, 2] rfl rfl rfl rfl ?_)
            exact ZI (HJ3 (m2, ID5, Count5, Segs5, stop6.segs, stop6.n, stop6.e, i16 readpa1.1.ID, wi (Count6 + (1 : Int)), Segs6, v9, v20, v11) h) [5, 8, 11, 12] [2, 3, 4, 0, 1, 5, 6] [1, 0, 2] rfl rfl rfl rfl
           ·replace h := br_f hg10 h
            refine Qo (cgb hg10) ?_
            refine Qb (sMv rfl rfl rfl ?_)
            refine Qa rfl (Qi rfl rfl rfl rfl fldF87x0) ?_
            refine Qa rfl (Qj rfl rfl rfl rfl QV (i := 7) rfl rfl) ?_
            refine Qa rfl (Qi rfl rfl rfl rfl fldF87x1) ?_
            refine Qa rfl (Qj rfl rfl rfl rfl tyF33 (i := 7) rfl rfl) ?_
            obtain ⟨packed1, hx13, h⟩ := ob_e h
            refine Qr rfl (Qw [10, 11, 2, 3, 8, 9, 6, 7] (w_ref_reader_packed10 hx13) [4, 5, 0, 1] [0] rfl rfl rfl rfl rfl callee58 rfl rfl rfl rfl rfl) ?_
            rintro _ ⟨_, _, _, ⟨v21, rfl, rfl, rfl⟩, rfl⟩
            refine Qc (tZ [5, 8, 11, 12] [0, 1, 2, 3, 4, 5, 6] [0, 1, 2] rfl rfl rfl rfl ?_)
            exact ZI (HJ3 (m2, ID5, Count5, Segs5, packed1.segs, packed1.n, packed1.e, i16 readpa1.1.ID, wi (Count6 + (1 : Int)), Segs6, v9, v21, v11) h) [5, 8, 11, 12] [2, 3, 4, 0, 1, 5, 6] [1, 0, 2] rfl rfl rfl rfl
       ·replace h := br_f hg7 h
        refine Qo (cgb hg7) ?_
        refine Qs (Qe (Qb (sMv rfl rfl rfl ?_)))
        refine Qa rfl (Qi rfl rfl rfl rfl fldF87x0) ?_
        refine Qa rfl (Qj rfl rfl rfl rfl QV (i := 8) rfl rfl) ?_
        refine Qa rfl (Qi rfl rfl rfl rfl fldF87x1) ?_
        refine Qa rfl (Qj rfl rfl rfl rfl tyF33 (i := 8) rfl rfl) ?_
        refine Qa rfl (Qi rfl rfl rfl rfl YI) ?_
        refine Qa rfl (Qj rfl rfl rfl rfl Yn (i := 8) rfl rfl) ?_
        obtain ⟨seg1, hx14, h⟩ := ob_e h
        refine Qr rfl (Qw [11, 12, 2, 3, 4, 9, 10, 7, 8] (Ym hx14) [5, 6, 0, 1] [0] rfl rfl rfl rfl rfl callee59 rfl rfl rfl rfl rfl) ?_
        rintro _ ⟨_, _, _, ⟨v22, rfl, rfl, rfl⟩, rfl⟩
        refine Qc (tZ [0, 3, 5, 6, 8, 11, 12, 15] [0, 1, 2, 3, 4, 5, 6, 7, 8] [0, 1, 2] rfl rfl rfl rfl ?_)
        refine Qe (Qb (Qa rfl (Qi rfl rfl rfl rfl YI) ?_))
        refine Qa rfl (Qj rfl rfl rfl rfl Yn (i := 8) rfl rfl) ?_
        refine Qa rfl (Qg rfl rfl rfl rfl rfl (Zp (a := readpa1.1.Flags) (b := (1 : UInt16)))) ?_
        refine Qa rfl (Qg rfl rfl rfl rfl rfl (bin_eql_u16 (a := readpa1.1.Flags &&& (1 : UInt16)) (b := (0 : UInt16)))) ?_
        refine Qc (tZ [0, 3, 5, 6, 8, 11, 12, 115] [0, 1, 2, 3, 4, 5, 6, 7] [0, 1, 2] rfl rfl rfl rfl ?_)
        rcases bC ((readpa1.1.Flags &&& (1 : UInt16)) == (0 : UInt16)) with hg11 | hg11
        ·replace h := br_t hg11 h
         refine Qk (cgb hg11) ?_
         refine ZA _ rfl ?_
         exact ZI (HJ2 (m2, ID5, Count5, Segs5, seg1.segs, seg1.n, seg1.e, i16 readpa1.1.ID, wi (Count6 + (1 : Int)), Segs6, v9, v22, v11) h) [5, 8, 11, 12] [2, 4, 5, 0, 1, 6, 7] [1, 0, 2] rfl rfl rfl rfl
        ·replace h := br_f hg11 h
         refine Qo (cgb hg11) ?_
         refine Qs (ZD ?_)
         exact Ze (m2, go1.1, ID5, Count5, Segs5, seg1.segs, seg1.n, seg1.e, i16 readpa1.1.ID, wi (Count6 + (1 : Int)), Segs6, v9, v22, v11) h [0, 3, 5, 6, 8, 11, 12] [0, 1, 2, 3, 4, 5, 6, 7] [0, 1, 2] rfl rfl rfl rfl rfl
  ·intro HJ4
   rcases bC (check1 != (0 : Int)) with hg12 | hg12
   ·replace h := br_t hg12 h
    refine Qk (cgb hg12) ?_
    refine Qb (sAs rfl rfl rfl ?_)
    refine Qc (tZ [0, 3, 5, 6, 8, 10] [0, 1, 2, 3, 4] [0] rfl rfl rfl rfl ?_)
    exact ZI (HJ4 (2 : Int) h) [0, 3, 5, 6, 8, 10] [0, 1, 2, 3, 4] [0] rfl rfl rfl rfl
   ·replace h := br_f hg12 h
    refine Qo (cgb hg12) ?_
    refine Qs ?_
    exact ZI (HJ4 refuse1 h) [0, 3, 5, 6, 8, 10] [0, 1, 2, 3, 4] [0] rfl rfl rfl rfl
 ·replace h := br_f hg1 h
  refine Qf rfl rfl (cgb hg1) rfl rfl ?_
  refine Qf rfl rfl (cgb hg1) rfl rfl ?_
  refine Qf rfl rfl (cgb hg1) rfl rfl ?_
  refine Qf rfl rfl (cgb hg1) rfl rfl ?_
  refine Qf rfl rfl (cgb hg1) rfl rfl ?_
  refine Qa rfl (Qu rfl rfl rfl (cgb hg1) rfl) ?_
  refine Qc (tZ [0, 3, 5, 6, 8, 10, 28] [0, 1, 2, 3, 4] [0] rfl rfl rfl rfl ?_)
  refine Qo rfl ?_
  refine Qs (Qe (Qe (Qb (sMv rfl rfl rfl ?_))))
  refine Qa rfl (Qg rfl rfl rfl rfl rfl (QN (a := refuse1) (b := (0 : Int)))) ?_
  refine Qc (tZ [0, 3, 5, 6, 8, 10, 30] [0, 1, 2, 3, 4] [0] rfl rfl rfl rfl ?_)
  refine Qk (congrArg (fun b => some (Value.bool (!b))) hg1) ?_
  refine Qe (Qb (Qa rfl (QL (v := .agg #[vI (0 : Int), vI (0 : Int), .slice none 0 0]) rfl rfl rfl rfl (bldV (by kernel_rfl))) ?_))
  refine sMv rfl rfl rfl ?_
  refine Qa rfl (Qq (cs' := [vI (0 : Int), vI (0 : Int), .slice none 0 0]) rfl rfl rfl rfl Xx (i := 4) rfl rfl rfl (QF rfl) rfl) ?_
  refine sAs rfl rfl rfl ?_
  refine Qc (tZ [8, 9] [0, 1, 4] [0] rfl rfl rfl rfl ?_)
  refine ZH SegS ?_
  obtain rfl := Option.some.inj h
  exact Qm rfl rfl (resA (vs := [.agg #[vI (0 : Int), vI (0 : Int), .slice none 0 0], vI refuse1]) rfl ⟨⟨_, 2, _, _, _, rfl, rfl, .inl ⟨Xx, rfl, rfl⟩⟩, rfl, trivial⟩) [0, 1, 3] [] rfl rfl rfl ⟨(.slice none 0 0), rfl, rfl, rfl⟩

set_option maxRecDepth 100000 in
set_option maxHeartbeats 4000000 in
theorem w_kit_Taken {ap0 : Taken} {b : Taken} {vap01 : Value} {vb1 : Value} {r : Bool} (h : kit_Taken ap0 b = some r) :
  Ctr Try.prog 22 #[.agg #[vI ap0.ID, vI ap0.Count, vap01], .agg #[vI b.ID, vI b.Count, vb1]] [] [Fact.sl SegS vap01 ap0.Segs, Fact.sl SegS vb1 b.Segs]
   (fun rv own shr => rv = vB r ∧ own = [] ∧ shr = []) := by
 unfold kit_Taken at h
 refine Ctr.mk (args := [.agg #[vI ap0.ID, vI ap0.Count, vap01], .agg #[vI b.ID, vI b.Count, vb1]]) Try.func22 rfl rfl (fun R0 w0 B => ?_)
 refine Qe (Qb (Qx rfl (Zr rfl rfl rfl rfl) fun b1 => ?_))
 refine Qx rfl (Zr rfl rfl rfl rfl) fun b2 => ?_
 refine sAs rfl rfl rfl ?_
 refine Qc (tZ [2, 3] [0, 1] [0, 1] rfl rfl rfl rfl ?_)
 refine Qe (Qb (Qa rfl (Qi rfl rfl rfl rfl fldF56x0) ?_))
 refine Qa rfl (Qj rfl rfl rfl rfl tyF3 (i := 0) rfl rfl) ?_
 refine Qa rfl (Qi rfl rfl rfl rfl fldF56x0) ?_
 refine Qa rfl (Qj rfl rfl rfl rfl tyF3 (i := 1) rfl rfl) ?_
 refine Qa rfl (Qg rfl rfl rfl rfl rfl (Zg (a := ap0.ID) (b := b.ID))) ?_
 refine sMv rfl rfl rfl ?_
 rcases bC (ap0.ID == b.ID) with hg1 | hg1
 ·replace h := br_t hg1 h
  refine Qh rfl rfl (cgb hg1) (Qi rfl rfl rfl rfl fldF56x1) ?_
  rintro _ rfl
  refine Qh rfl rfl (cgb hg1) (Qj rfl rfl rfl rfl tyF3 (i := 0) rfl rfl) ?_
  rintro _ rfl
  refine Qh rfl rfl (cgb hg1) (Qi rfl rfl rfl rfl fldF56x1) ?_
  rintro _ rfl
  refine Qh rfl rfl (cgb hg1) (Qj rfl rfl rfl rfl tyF3 (i := 1) rfl rfl) ?_
  rintro _ rfl
  refine Qh rfl rfl (cgb hg1) (Qg rfl rfl rfl rfl rfl (Zg (a := ap0.Count) (b := b.Count))) ?_
  rintro _ rfl
  refine Qa rfl (Qt rfl rfl rfl (cgb hg1) rfl) ?_
  refine sMv rfl rfl rfl ?_
  rcases bC (ap0.Count == b.Count) with hg2 | hg2
  ·replace h := br_t hg2 h
   refine Qh rfl rfl (cgb hg2) (Qi rfl rfl rfl rfl fldF56x2) ?_
   rintro _ rfl
   refine Qh rfl rfl (cgb hg2) (Qj rfl rfl rfl rfl tyF41 (i := 0) rfl rfl) ?_
   rintro _ rfl
   refine Qh rfl rfl (cgb hg2) (Qi rfl rfl rfl rfl fldF56x2) ?_
   rintro _ rfl
   refine Qh rfl rfl (cgb hg2) (Qj rfl rfl rfl rfl tyF41 (i := 1) rfl rfl) ?_
   rintro _ rfl
   obtain ⟨samese1, hx1, h⟩ := ob_e h
   refine Qh rfl rfl (cgb hg2) (QD (w_kit_SameSegs hx1) [] [0, 1] rfl rfl rfl rfl rfl callee18 rfl rfl rfl rfl) ?_
   rintro _ ⟨_, _, _, ⟨rfl, rfl, rfl⟩, rfl⟩
   refine Qa rfl (Qt rfl rfl rfl (cgb hg2) rfl) ?_
   refine sAs rfl rfl rfl ?_
   refine Qc (tZ [4] [] [] rfl rfl rfl rfl ?_)
   obtain rfl := Option.some.inj h
   exact Qm rfl rfl (resA (vs := [vB samese1]) rfl ⟨rfl, trivial⟩) [] [] rfl rfl rfl ⟨rfl, rfl, rfl⟩
  ·replace h := br_f hg2 h
   refine Qf rfl rfl (cgb hg2) rfl rfl ?_
   refine Qf rfl rfl (cgb hg2) rfl rfl ?_
   refine Qf rfl rfl (cgb hg2) rfl rfl ?_
   refine Qf rfl rfl (cgb hg2) rfl rfl ?_
   refine Qf rfl rfl (cgb hg2) rfl rfl ?_
   refine Qa rfl (Qu rfl rfl rfl (cgb hg2) rfl) ?_
   refine sAs rfl rfl rfl ?_
   refine Qc (tZ [4] [] [] rfl rfl rfl rfl ?_)
   obtain rfl := Option.some.inj h
   exact Qm rfl rfl (resA (vs := [vB false]) rfl ⟨rfl, trivial⟩) [] [] rfl rfl rfl ⟨rfl, rfl, rfl⟩
 ·replace h := br_f hg1 h
  refine Qf rfl rfl (cgb hg1) rfl rfl ?_
  refine Qf rfl rfl (cgb hg1) rfl rfl ?_
  refine Qf rfl rfl (cgb hg1) rfl rfl ?_
  refine Qf rfl rfl (cgb hg1) rfl rfl ?_
  refine Qf rfl rfl (cgb hg1) rfl rfl ?_
  refine Qa rfl (Qu rfl rfl rfl (cgb hg1) rfl) ?_
  refine sMv rfl rfl rfl ?_
  refine Qf rfl rfl rfl rfl rfl ?_
  refine Qf rfl rfl rfl rfl rfl ?_
  refine Qf rfl rfl rfl rfl rfl ?_
  refine Qf rfl rfl rfl rfl rfl ?_
  refine Qf rfl rfl rfl rfl rfl ?_
  refine Qa rfl (Qu rfl rfl rfl rfl rfl) ?_
  refine sAs rfl rfl rfl ?_
  refine Qc (tZ [4] [] [] rfl rfl rfl rfl ?_)
  obtain rfl := Option.some.inj h
  exact Qm rfl rfl (resA (vs := [vB false]) rfl ⟨rfl, trivial⟩) [] [] rfl rfl rfl ⟨rfl, rfl, rfl⟩

end Go.Proofs.Ytlofegfaphijpaa
