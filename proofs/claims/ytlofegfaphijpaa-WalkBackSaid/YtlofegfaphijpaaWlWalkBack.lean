/- The law WalkBack is walked: it returns what its plain words say. No condition. -/
import Derived.Test.YtlofegfaphijpaaWa7
namespace Go.Proofs.Ytlofegfaphijpaa
attribute [local irreducible] sub

set_option maxRecDepth 100000 in
set_option maxHeartbeats 4000000 in
theorem w_law10zWalkBack {l : List Seg} {first : Int} {id : Int} {atp3 : Int} {wrap : Bool} {vl1 : Value}  (h : law10zWalkBack l first id atp3 wrap = some true) :
  Ctr Try.prog 7 #[vl1, vI first, vI id, vI atp3, vB wrap] [] [Fact.sl SegS vl1 l]
   (fun rv own shr => rv = .bool true ∧ own = [] ∧ shr = []) := by
 unfold law10zWalkBack at h
 refine Ctr.mk (args := [vl1, vI first, vI id, vI atp3, vB wrap]) Try.func7 rfl rfl (fun R0 w0 B => ?_)
 refine Qe (Qc (sAs rfl rfl rfl ?_))
 refine Qd (tZ [0, 1, 2, 3, 4] [] [0] rfl rfl rfl rfl ?_)
 refine Qe (Qe (Qc ?_))
 obtain ⟨lives1, hx1, h⟩ := ob_e h
 refine Qs rfl (Qv (w_law10zlives hx1) [] [] rfl rfl rfl rfl rfl callee8 rfl rfl rfl rfl) ?_
 rintro _ ⟨_, _, _, ⟨rfl, rfl, rfl⟩, rfl⟩
 refine Qa rfl (XO rfl rfl rfl rfl) ?_
 refine Qd (tZ [0, 1, 2, 3, 4, 40] [] [0] rfl rfl rfl rfl ?_)
 obtain ⟨hg1, h⟩ := ZK h
 replace hg1 := not_t hg1
 refine Qp (cgb hg1) ?_
 refine Qt (Qe (Qe (Qc (sMv rfl rfl rfl ?_))))
 refine Qa rfl (QT rfl rfl rfl rfl Try.underlying41 (i := 0) rfl) ?_
 refine Qa rfl (Qf rfl rfl rfl rfl rfl (Kz (a := len l) (b := (100 : Int)))) ?_
 refine sMv rfl rfl rfl ?_
 rcases bC (decide ((len l) > (100 : Int))) with hg2 | hg2
 ·replace h := br_t hg2 h
  refine Qg rfl rfl (cgb hg2) rfl rfl ?_
  refine Qg rfl rfl (cgb hg2) rfl rfl ?_
  refine Qg rfl rfl (cgb hg2) rfl rfl ?_
  refine Qa rfl (Qr rfl rfl rfl (cgb hg2) rfl) ?_
  refine Qd (tZ [0, 1, 2, 3, 4, 48] [] [0] rfl rfl rfl rfl ?_)
  refine Ql rfl ?_
  refine Qe (Qc (sAs rfl rfl rfl ?_))
  refine Qd (tZ [10] [] [] rfl rfl rfl rfl ?_)
  exact Qn rfl rfl (resA (vs := [.bool true]) rfl ⟨rfl, trivial⟩) [] [] rfl rfl rfl ⟨rfl, rfl, rfl⟩
 ·replace h := br_f hg2 h
  refine Qh rfl rfl (cgb hg2) (Qk rfl rfl rfl rfl) ?_
  rintro _ rfl
  obtain ⟨needs1, hx2, h⟩ := ob_e h
  refine Qh rfl rfl (cgb hg2) (Qv (w_build_Needs hx2) [] [0] rfl rfl rfl rfl rfl callee27 rfl rfl rfl rfl) ?_
  rintro _ ⟨_, _, _, ⟨rfl, rfl, rfl⟩, rfl⟩
  refine Qh rfl rfl (cgb hg2) (Qf rfl rfl rfl rfl rfl (ZG (a := needs1) (b := (0 : Int)))) ?_
  rintro _ rfl
  refine Qa rfl (Qw rfl rfl rfl (cgb hg2) rfl) ?_
  refine Qd (tZ [0, 1, 2, 3, 4, 48] [] [0] rfl rfl rfl rfl ?_)
  rcases bC (needs1 == (0 : Int)) with hg3 | hg3
  ·replace h := br_t hg3 h
   refine Ql (cgb hg3) ?_
   refine Qe (Qc (sAs rfl rfl rfl ?_))
   refine Qd (tZ [10] [] [] rfl rfl rfl rfl ?_)
   exact Qn rfl rfl (resA (vs := [.bool true]) rfl ⟨rfl, trivial⟩) [] [] rfl rfl rfl ⟨rfl, rfl, rfl⟩
  ·replace h := br_f hg3 h
   refine Qp (cgb hg3) ?_
   refine Qt (Qe (Qe (Qc (sAs rfl rfl rfl ?_))))
   refine Qd (tZ [0, 1, 2, 3, 4, 11] [] [0] rfl rfl rfl rfl ?_)
   refine QC (Zf (σ := Int) [0, 1, 2, 3, 4, 11] [] [0] (fun s => ⟨[(0, some vl1), (1, some (vI first)), (2, some (vI id)), (3, some (vI atp3)), (4, some (vB wrap)), (11, some (vI s))], [], [Fact.sl SegS vl1 l]⟩) (fun nf1 s => XR l first id atp3 wrap nf1 s = some true) fuel (0 : Int) h rfl rfl rfl rfl rfl (fun s h => by cases h) ?_)
   rintro nf1 i1 h
   replace h : Kg l first id atp3 wrap (XR l first id atp3 wrap nf1) i1 = some true := h
   unfold Kg at h
   refine Qe (Qe (Qc (sMv rfl rfl rfl ?_)))
   refine sMv rfl rfl rfl ?_
   refine Qa rfl (QT rfl rfl rfl rfl Try.underlying41 (i := 0) rfl) ?_
   refine Qa rfl (Qf rfl rfl rfl rfl rfl (QI (a := i1) (b := len l))) ?_
   refine Qd (tZ [0, 1, 2, 3, 4, 11, 52] [] [0] rfl rfl rfl rfl ?_)
   rcases bC (decide (i1 < (len l))) with hg4 | hg4
   ·replace h := br_t hg4 h
    refine Ql (cgb hg4) ?_
    refine Qt (Qe (QC (Qe (QU (by kernel_rfl) ?_))))
    refine Xn [0, 0, 3, 7, 15, 31, 63, 127, 127, 511, 1023, 2047, 4095, 8191, 16383, 32767, 32767, 131071, 262143, 524287, 32767, 32767, 3178495, 7372799, 15761407, 32538623, 67108863, 134217727, 268435455] (by kernel_rfl) fun htb => ?_
    refine aZ [0, 1, 2, 3, 4, 11] [] [0] rfl rfl rfl rfl ?_
    refine QW (lo := 0) (hi := 2) htb rfl rfl (by kernel_rfl) (fun c L a w => Sat c ⟨[(0, some vl1), (1, some (vI first)), (2, some (vI id)), (3, some (vI atp3)), (4, some (vB wrap)), (11, some (vI i1)), (55, bif L 0 then some (vl1) else none), (56, bif L 1 then some (vI i1) else none)], [], [Fact.sl SegS vl1 l]⟩ a w) [([], []), ([], [])] rfl (by kernel_rfl) ?_ (Qb ?_ (Qb ?_ (QB))) ?_
    ·intro a w hs
     exact hs.startF [55, 56] [] [0] rfl rfl rfl rfl
    ·intro L a w hs K Q hK
     exact wGo rfl rfl hs (Qk rfl rfl rfl rfl) fun a w hs => hK a w (pF hs 6 [] [0] rfl)
    ·intro L a w hs K Q hK
     exact wGo rfl rfl hs (Qk rfl rfl rfl rfl) fun a w hs => hK a w (pF hs 7 [] [0] rfl)
    ·intro L a w hL hv
     rw [QM hL] at hv
     have hs := hv
     refine gZ hs [0, 1, 2, 3, 4, 11, 55, 56] [] [0] rfl rfl rfl rfl ?_
     clear hs hL
     obtain ⟨s1, hx3, h⟩ := ob_e h
     refine TA_ex htb (by kernel_rfl) rfl rfl (Zb rfl rfl rfl rfl rfl slF41 (i := 0) rfl hx3) fun p1 => ?_
     refine TA_ex htb (by kernel_rfl) rfl rfl (Zg (S' := u64S) (y := s1.At) rfl rfl rfl rfl fldF46x0 (i := 1) rfl (by intro h cs hr; subst hr; rfl)) fun p2 => ?_
     refine Qx htb (by kernel_rfl) rfl rfl (Zj rfl rfl rfl rfl QZ (i := 2) rfl rfl) ?_
     refine Qx htb (by kernel_rfl) rfl rfl (Qf rfl rfl rfl rfl rfl (ZD (a := s1.At) (b := (4000 : UInt64)))) ?_
     refine Qx htb (by kernel_rfl) rfl rfl (Qk rfl rfl rfl rfl) ?_
     refine aZ [0, 1, 2, 3, 4, 11, 61] [] [0] rfl rfl rfl rfl ?_
     rcases bC (decide (s1.At < (4000 : UInt64))) with hg5 | hg5
     ·replace h := br_t hg5 h
      refine QW (lo := 7) (hi := 9) htb rfl rfl (by kernel_rfl) (fun c L a w => Sat c ⟨[(0, some vl1), (1, some (vI first)), (2, some (vI id)), (3, some (vI atp3)), (4, some (vB wrap)), (11, some (vI i1)), (61, some (vB (decide (s1.At < (4000 : UInt64))))), (62, bif L 7 then some (undef) else none), (63, bif L 8 then some (undef) else none)], [], [Fact.sl SegS vl1 l]⟩ a w) [([], []), ([], [])] rfl (by kernel_rfl) ?_ (Qb ?_ (Qb ?_ (QB))) ?_
      ·intro a w hs
       exact hs.startF [62, 63] [] [0] rfl rfl rfl rfl
      ·intro L a w hs K Q hK
       exact QA rfl rfl rfl hs (cgb hg5) rfl rfl fun a w hs => hK a w (pF hs 7 [] [0] rfl)
      ·intro L a w hs K Q hK
       exact QA rfl rfl rfl hs (cgb hg5) rfl rfl fun a w hs => hK a w (pF hs 8 [] [0] rfl)
      ·intro L a w hL hv
       rw [QM hL] at hv
       have hs := hv
       refine gZ hs [0, 1, 2, 3, 4, 11, 61, 62, 63] [] [0] rfl rfl rfl rfl ?_
       clear hs hL
       refine KR htb (by kernel_rfl) rfl rfl rfl (cgb hg5) rfl rfl ?_
       refine KR htb (by kernel_rfl) rfl rfl rfl (cgb hg5) rfl rfl ?_
       refine KR htb (by kernel_rfl) rfl rfl rfl (cgb hg5) rfl rfl ?_
       refine KR htb (by kernel_rfl) rfl rfl rfl (cgb hg5) rfl rfl ?_
       refine Qx htb (by kernel_rfl) rfl rfl (Qr rfl rfl rfl (cgb hg5) rfl) ?_
       refine Qx htb (by kernel_rfl) rfl rfl (Qk rfl rfl rfl rfl) ?_
       refine aZ [0, 1, 2, 3, 4, 11, 69] [] [0] rfl rfl rfl rfl ?_
       refine QW (lo := 15) (hi := 26) htb rfl rfl (by kernel_rfl) (fun c L a w => Sat c ⟨[(0, some vl1), (1, some (vI first)), (2, some (vI id)), (3, some (vI atp3)), (4, some (vB wrap)), (11, some (vI i1)), (69, some (vB true)), (70, bif L 15 then some (undef) else none), (71, bif L 16 then some (undef) else none), (72, bif L 17 then some (undef) else none), (73, bif L 18 then some (undef) else none), (74, bif L 19 then some (undef) else none), (75, bif L 20 then some (undef) else none), (76, bif L 21 then some (undef) else none), (77, bif L 22 then some (undef) else none), (78, bif L 23 then some (undef) else none), (79, bif L 24 then some (undef) else none), (80, bif L 25 then some (undef) else none)], [], [Fact.sl SegS vl1 l]⟩ a w) [([], [17, 18, 19]), ([], [17, 18, 19]), ([15, 16], [18, 19]), ([15, 16, 17], [19]), ([15, 16, 17, 18], []), ([], [22, 23, 24, 25]), ([], [22, 23, 24, 25]), ([20, 21], [23, 24, 25]), ([20, 21, 22], [24, 25]), ([20, 21, 22, 23], [25]), ([20, 21, 22, 23, 24], [])] rfl (by kernel_rfl) ?_ (Qb ?_ (Qb ?_ (Qb ?_ (Qb ?_ (Qb ?_ (Qb ?_ (Qb ?_ (Qb ?_ (Qb ?_ (Qb ?_ (Qb ?_ (QB)))))))))))) ?_
       ·intro a w hs
        exact hs.startF [70, 71, 72, 73, 74, 75, 76, 77, 78, 79, 80] [] [0] rfl rfl rfl rfl
       ·intro L a w hs K Q hK
        exact QA rfl rfl rfl hs rfl rfl rfl fun a w hs => hK a w (pF hs 7 [] [0] rfl)
       ·intro L a w hs K Q hK
        exact QA rfl rfl rfl hs rfl rfl rfl fun a w hs => hK a w (pF hs 8 [] [0] rfl)
       ·intro L a w hs K Q hK
        exact QA rfl rfl rfl hs rfl rfl rfl fun a w hs => hK a w (pF hs 9 [] [0] rfl)
       ·intro L a w hs K Q hK
        exact QA rfl rfl rfl hs rfl rfl rfl fun a w hs => hK a w (pF hs 10 [] [0] rfl)
       ·intro L a w hs K Q hK
        exact QA rfl rfl rfl hs rfl rfl rfl fun a w hs => hK a w (pF hs 11 [] [0] rfl)
       ·intro L a w hs K Q hK
        exact QA rfl rfl rfl hs rfl rfl rfl fun a w hs => hK a w (pF hs 12 [] [0] rfl)
       ·intro L a w hs K Q hK
        exact QA rfl rfl rfl hs rfl rfl rfl fun a w hs => hK a w (pF hs 13 [] [0] rfl)
       ·intro L a w hs K Q hK
        exact QA rfl rfl rfl hs rfl rfl rfl fun a w hs => hK a w (pF hs 14 [] [0] rfl)
       ·intro L a w hs K Q hK
        exact QA rfl rfl rfl hs rfl rfl rfl fun a w hs => hK a w (pF hs 15 [] [0] rfl)
       ·intro L a w hs K Q hK
        exact QA rfl rfl rfl hs rfl rfl rfl fun a w hs => hK a w (pF hs 16 [] [0] rfl)
       ·intro L a w hs K Q hK
        exact QA rfl rfl rfl hs rfl rfl rfl fun a w hs => hK a w (pF hs 17 [] [0] rfl)
       ·intro L a w hL hv
        rw [QM hL] at hv
        have hs := hv
        refine gZ hs [0, 1, 2, 3, 4, 11, 69, 74, 80] [] [0] rfl rfl rfl rfl ?_
        clear hs hL
        refine KR htb (by kernel_rfl) rfl rfl rfl rfl rfl rfl ?_
        refine KR htb (by kernel_rfl) rfl rfl rfl rfl rfl rfl ?_
        refine Qx htb (by kernel_rfl) rfl rfl (Qr rfl rfl rfl rfl rfl) ?_
        refine Zh rfl ?_
        refine tZ [0, 1, 2, 3, 4, 11, 83] [] [0] rfl rfl rfl rfl ?_
        refine Ql rfl ?_
        refine Qe (Qc (sAs rfl rfl rfl ?_))
        refine Qd (tZ [10] [] [] rfl rfl rfl rfl ?_)
        exact Qn rfl rfl (resA (vs := [.bool true]) rfl ⟨rfl, trivial⟩) [] [] rfl rfl rfl ⟨rfl, rfl, rfl⟩
     ·replace h := br_f hg5 h
      refine QW (lo := 7) (hi := 9) htb rfl rfl (by kernel_rfl) (fun c L a w => Sat c ⟨[(0, some vl1), (1, some (vI first)), (2, some (vI id)), (3, some (vI atp3)), (4, some (vB wrap)), (11, some (vI i1)), (61, some (vB (decide (s1.At < (4000 : UInt64))))), (62, bif L 7 then some (vl1) else none), (63, bif L 8 then some (vI i1) else none)], [], [Fact.sl SegS vl1 l]⟩ a w) [([], []), ([], [])] rfl (by kernel_rfl) ?_ (Qb ?_ (Qb ?_ (QB))) ?_
      ·intro a w hs
       exact hs.startF [62, 63] [] [0] rfl rfl rfl rfl
      ·intro L a w hs K Q hK
       exact wYs rfl rfl rfl hs (cgb hg5) (Qk rfl rfl rfl rfl) fun a w hs => hK a w (pF hs 7 [] [0] rfl)
      ·intro L a w hs K Q hK
       exact wYs rfl rfl rfl hs (cgb hg5) (Qk rfl rfl rfl rfl) fun a w hs => hK a w (pF hs 8 [] [0] rfl)
      ·intro L a w hL hv
       rw [QM hL] at hv
       have hs := hv
       refine gZ hs [0, 1, 2, 3, 4, 11, 61, 62, 63] [] [0] rfl rfl rfl rfl ?_
       clear hs hL
       obtain ⟨s2, hx4, h⟩ := ob_e h
       refine Xx htb (by kernel_rfl) rfl rfl rfl (cgb hg5) (Zb rfl rfl rfl rfl rfl slF41 (i := 0) rfl hx4) ?_
       rintro _ ⟨p3, rfl⟩
       refine Xx htb (by kernel_rfl) rfl rfl rfl (cgb hg5) (Zg (S' := u64S) (y := s2.At) rfl rfl rfl rfl fldF46x0 (i := 1) rfl (by intro h cs hr; subst hr; rfl)) ?_
       rintro _ ⟨p4, rfl⟩
       refine Xx htb (by kernel_rfl) rfl rfl rfl (cgb hg5) (Zj rfl rfl rfl rfl QZ (i := 2) rfl rfl) ?_
       rintro _ rfl
       refine Xx htb (by kernel_rfl) rfl rfl rfl (cgb hg5) (Qf rfl rfl rfl rfl rfl (Xu (a := s2.At) (b := (12000 : UInt64)))) ?_
       rintro _ rfl
       refine Qx htb (by kernel_rfl) rfl rfl (Qw rfl rfl rfl (cgb hg5) rfl) ?_
       refine Qx htb (by kernel_rfl) rfl rfl (Qk rfl rfl rfl rfl) ?_
       refine aZ [0, 1, 2, 3, 4, 11, 69] [] [0] rfl rfl rfl rfl ?_
       rcases bC (decide (s2.At > (12000 : UInt64))) with hg6 | hg6
       ·replace h := br_t hg6 h
        refine QW (lo := 15) (hi := 26) htb rfl rfl (by kernel_rfl) (fun c L a w => Sat c ⟨[(0, some vl1), (1, some (vI first)), (2, some (vI id)), (3, some (vI atp3)), (4, some (vB wrap)), (11, some (vI i1)), (69, some (vB (decide (s2.At > (12000 : UInt64))))), (70, bif L 15 then some (undef) else none), (71, bif L 16 then some (undef) else none), (72, bif L 17 then some (undef) else none), (73, bif L 18 then some (undef) else none), (74, bif L 19 then some (undef) else none), (75, bif L 20 then some (undef) else none), (76, bif L 21 then some (undef) else none), (77, bif L 22 then some (undef) else none), (78, bif L 23 then some (undef) else none), (79, bif L 24 then some (undef) else none), (80, bif L 25 then some (undef) else none)], [], [Fact.sl SegS vl1 l]⟩ a w) [([], [17, 18, 19]), ([], [17, 18, 19]), ([15, 16], [18, 19]), ([15, 16, 17], [19]), ([15, 16, 17, 18], []), ([], [22, 23, 24, 25]), ([], [22, 23, 24, 25]), ([20, 21], [23, 24, 25]), ([20, 21, 22], [24, 25]), ([20, 21, 22, 23], [25]), ([20, 21, 22, 23, 24], [])] rfl (by kernel_rfl) ?_ (Qb ?_ (Qb ?_ (Qb ?_ (Qb ?_ (Qb ?_ (Qb ?_ (Qb ?_ (Qb ?_ (Qb ?_ (Qb ?_ (Qb ?_ (QB)))))))))))) ?_
        ·intro a w hs
         exact hs.startF [70, 71, 72, 73, 74, 75, 76, 77, 78, 79, 80] [] [0] rfl rfl rfl rfl
        ·intro L a w hs K Q hK
         exact QA rfl rfl rfl hs (cgb hg6) rfl rfl fun a w hs => hK a w (pF hs 7 [] [0] rfl)
        ·intro L a w hs K Q hK
         exact QA rfl rfl rfl hs (cgb hg6) rfl rfl fun a w hs => hK a w (pF hs 8 [] [0] rfl)
        ·intro L a w hs K Q hK
         exact QA rfl rfl rfl hs (cgb hg6) rfl rfl fun a w hs => hK a w (pF hs 9 [] [0] rfl)
        ·intro L a w hs K Q hK
         exact QA rfl rfl rfl hs (cgb hg6) rfl rfl fun a w hs => hK a w (pF hs 10 [] [0] rfl)
        ·intro L a w hs K Q hK
         exact QA rfl rfl rfl hs (cgb hg6) rfl rfl fun a w hs => hK a w (pF hs 11 [] [0] rfl)
        ·intro L a w hs K Q hK
         exact QA rfl rfl rfl hs (cgb hg6) rfl rfl fun a w hs => hK a w (pF hs 12 [] [0] rfl)
        ·intro L a w hs K Q hK
         exact QA rfl rfl rfl hs (cgb hg6) rfl rfl fun a w hs => hK a w (pF hs 13 [] [0] rfl)
        ·intro L a w hs K Q hK
         exact QA rfl rfl rfl hs (cgb hg6) rfl rfl fun a w hs => hK a w (pF hs 14 [] [0] rfl)
        ·intro L a w hs K Q hK
         exact QA rfl rfl rfl hs (cgb hg6) rfl rfl fun a w hs => hK a w (pF hs 15 [] [0] rfl)
        ·intro L a w hs K Q hK
         exact QA rfl rfl rfl hs (cgb hg6) rfl rfl fun a w hs => hK a w (pF hs 16 [] [0] rfl)
        ·intro L a w hs K Q hK
         exact QA rfl rfl rfl hs (cgb hg6) rfl rfl fun a w hs => hK a w (pF hs 17 [] [0] rfl)
        ·intro L a w hL hv
         rw [QM hL] at hv
         have hs := hv
         refine gZ hs [0, 1, 2, 3, 4, 11, 69, 74, 80] [] [0] rfl rfl rfl rfl ?_
         clear hs hL
         refine KR htb (by kernel_rfl) rfl rfl rfl (cgb hg6) rfl rfl ?_
         refine KR htb (by kernel_rfl) rfl rfl rfl (cgb hg6) rfl rfl ?_
         refine Qx htb (by kernel_rfl) rfl rfl (Qr rfl rfl rfl (cgb hg6) rfl) ?_
         refine Zh rfl ?_
         refine tZ [0, 1, 2, 3, 4, 11, 83] [] [0] rfl rfl rfl rfl ?_
         refine Ql rfl ?_
         refine Qe (Qc (sAs rfl rfl rfl ?_))
         refine Qd (tZ [10] [] [] rfl rfl rfl rfl ?_)
         exact Qn rfl rfl (resA (vs := [.bool true]) rfl ⟨rfl, trivial⟩) [] [] rfl rfl rfl ⟨rfl, rfl, rfl⟩
       ·replace h := br_f hg6 h
        obtain ⟨s3, hx5, h⟩ := ob_e h
        obtain ⟨s4, hx6, h⟩ := ob_e h
        refine QW (lo := 15) (hi := 26) htb rfl rfl (by kernel_rfl) (fun c L a w => ∃ (p5 : Value), ∃ (p6 : Value), ∃ (p7 : Value), ∃ (p8 : Value), Sat c ⟨[(0, some vl1), (1, some (vI first)), (2, some (vI id)), (3, some (vI atp3)), (4, some (vB wrap)), (11, some (vI i1)), (69, some (vB (decide (s2.At > (12000 : UInt64))))), (70, bif L 15 then some (vl1) else none), (71, bif L 16 then some (vI i1) else none), (72, bif L 17 then some (p5) else none), (73, bif L 18 then some (p6) else none), (74, bif L 19 then some (vU64 s3.At) else none), (75, bif L 20 then some (vl1) else none), (76, bif L 21 then some (vI i1) else none), (77, bif L 22 then some (p7) else none), (78, bif L 23 then some (p8) else none), (79, bif L 24 then some (vU32 s4.Len) else none), (80, bif L 25 then some (vU64 s4.Len.toUInt64) else none)], [], [Fact.sl SegS vl1 l, (bif L 17 then Fact.pt SegS p5 s3 else Fact.tt), (bif L 18 then Fact.pt u64S p6 s3.At else Fact.tt), (bif L 22 then Fact.pt SegS p7 s4 else Fact.tt), (bif L 23 then Fact.pt u32S p8 s4.Len else Fact.tt)]⟩ a w) [([], [17, 18, 19]), ([], [17, 18, 19]), ([15, 16], [18, 19]), ([15, 16, 17], [19]), ([15, 16, 17, 18], []), ([], [22, 23, 24, 25]), ([], [22, 23, 24, 25]), ([20, 21], [23, 24, 25]), ([20, 21, 22], [24, 25]), ([20, 21, 22, 23], [25]), ([20, 21, 22, 23, 24], [])] rfl (by kernel_rfl) ?_ (Qb ?_ (Qb ?_ (Qb ?_ (Qb ?_ (Qb ?_ (Qb ?_ (Qb ?_ (Qb ?_ (Qb ?_ (Qb ?_ (Qb ?_ (QB)))))))))))) ?_
        ·intro a w hs
         exact ⟨undef, undef, undef, undef, hs.startF [70, 71, 72, 73, 74, 75, 76, 77, 78, 79, 80] [] [0, 1, 2, 3, 4] rfl rfl rfl rfl⟩
        ·intro L a w hv K Q hK
         obtain ⟨p5, p6, p7, p8, hs⟩ := hv
         exact wYs rfl rfl rfl hs (cgb hg6) (Qk rfl rfl rfl rfl) fun a w hs => hK a w ⟨p5, p6, p7, p8, pF hs 7 [] [0, 1, 2, 3, 4] rfl⟩
        ·intro L a w hv K Q hK
         obtain ⟨p5, p6, p7, p8, hs⟩ := hv
         exact wYs rfl rfl rfl hs (cgb hg6) (Qk rfl rfl rfl rfl) fun a w hs => hK a w ⟨p5, p6, p7, p8, pF hs 8 [] [0, 1, 2, 3, 4] rfl⟩
        ·intro L a w hv K Q hK
         obtain ⟨p5, p6, p7, p8, hs⟩ := hv
         refine Xg rfl rfl rfl hs (cgb hg6) (Zb rfl rfl rfl rfl rfl slF41 (i := 0) rfl hx5) ?_
         rintro _ ⟨p5', rfl⟩ a' w' hs'
         exact hK a' w' ⟨p5', p6, p7, p8, hs'.putF (i := 9) rfl [] [0, 5, 2, 3, 4] rfl rfl rfl rfl⟩
        ·intro L a w hv K Q hK
         obtain ⟨p5, p6, p7, p8, hs⟩ := hv
         refine Xg rfl rfl rfl hs (cgb hg6) (Zg (S' := u64S) (y := s3.At) rfl rfl rfl rfl fldF46x0 (i := 1) rfl (by intro h cs hr; subst hr; rfl)) ?_
         rintro _ ⟨p6', rfl⟩ a' w' hs'
         exact hK a' w' ⟨p5, p6', p7, p8, hs'.putF (i := 10) rfl [] [0, 1, 5, 3, 4] rfl rfl rfl rfl⟩
        ·intro L a w hv K Q hK
         obtain ⟨p5, p6, p7, p8, hs⟩ := hv
         exact wYs rfl rfl rfl hs (cgb hg6) (Zj rfl rfl rfl rfl QZ (i := 2) rfl rfl) fun a w hs => hK a w ⟨p5, p6, p7, p8, pF hs 11 [] [0, 1, 2, 3, 4] rfl⟩
        ·intro L a w hv K Q hK
         obtain ⟨p5, p6, p7, p8, hs⟩ := hv
         exact wYs rfl rfl rfl hs (cgb hg6) (Qk rfl rfl rfl rfl) fun a w hs => hK a w ⟨p5, p6, p7, p8, pF hs 12 [] [0, 1, 2, 3, 4] rfl⟩
        ·intro L a w hv K Q hK
         obtain ⟨p5, p6, p7, p8, hs⟩ := hv
         exact wYs rfl rfl rfl hs (cgb hg6) (Qk rfl rfl rfl rfl) fun a w hs => hK a w ⟨p5, p6, p7, p8, pF hs 13 [] [0, 1, 2, 3, 4] rfl⟩
        ·intro L a w hv K Q hK
         obtain ⟨p5, p6, p7, p8, hs⟩ := hv
         refine Xg rfl rfl rfl hs (cgb hg6) (Zb rfl rfl rfl rfl rfl slF41 (i := 0) rfl hx6) ?_
         rintro _ ⟨p7', rfl⟩ a' w' hs'
         exact hK a' w' ⟨p5, p6, p7', p8, hs'.putF (i := 14) rfl [] [0, 1, 2, 5, 4] rfl rfl rfl rfl⟩
        ·intro L a w hv K Q hK
         obtain ⟨p5, p6, p7, p8, hs⟩ := hv
         refine Xg rfl rfl rfl hs (cgb hg6) (Zg (S' := u32S) (y := s4.Len) rfl rfl rfl rfl fldF46x1 (i := 3) rfl (by intro h cs hr; subst hr; rfl)) ?_
         rintro _ ⟨p8', rfl⟩ a' w' hs'
         exact hK a' w' ⟨p5, p6, p7, p8', hs'.putF (i := 15) rfl [] [0, 1, 2, 3, 5] rfl rfl rfl rfl⟩
        ·intro L a w hv K Q hK
         obtain ⟨p5, p6, p7, p8, hs⟩ := hv
         exact wYs rfl rfl rfl hs (cgb hg6) (Zj rfl rfl rfl rfl tyF33 (i := 4) rfl rfl) fun a w hs => hK a w ⟨p5, p6, p7, p8, pF hs 16 [] [0, 1, 2, 3, 4] rfl⟩
        ·intro L a w hv K Q hK
         obtain ⟨p5, p6, p7, p8, hs⟩ := hv
         exact wYs rfl rfl rfl hs (cgb hg6) (QX rfl rfl rfl rfl (XM (n := s4.Len) Try.underlying33 Try.underlying27)) fun a w hs => hK a w ⟨p5, p6, p7, p8, pF hs 17 [] [0, 1, 2, 3, 4] rfl⟩
        ·intro L a w hL hv
         rw [QM hL] at hv
         obtain ⟨p5, p6, p7, p8, hs⟩ := hv
         refine gZ hs [0, 1, 2, 3, 4, 11, 69, 74, 80] [] [0] rfl rfl rfl rfl ?_
         clear hs hL
         refine Xx htb (by kernel_rfl) rfl rfl rfl (cgb hg6) (Qf rfl rfl rfl rfl rfl (Za (a := s3.At) (b := s4.Len.toUInt64))) ?_
         rintro _ rfl
         refine Xx htb (by kernel_rfl) rfl rfl rfl (cgb hg6) (Qf rfl rfl rfl rfl rfl (Xu (a := s3.At + s4.Len.toUInt64) (b := (12000 : UInt64)))) ?_
         rintro _ rfl
         refine Qx htb (by kernel_rfl) rfl rfl (Qw rfl rfl rfl (cgb hg6) rfl) ?_
         refine Zh rfl ?_
         refine tZ [0, 1, 2, 3, 4, 11, 83] [] [0] rfl rfl rfl rfl ?_
         rcases bC (decide ((s3.At + s4.Len.toUInt64) > (12000 : UInt64))) with hg7 | hg7
         ·replace h := br_t hg7 h
          refine Ql (cgb hg7) ?_
          refine Qe (Qc (sAs rfl rfl rfl ?_))
          refine Qd (tZ [10] [] [] rfl rfl rfl rfl ?_)
          exact Qn rfl rfl (resA (vs := [.bool true]) rfl ⟨rfl, trivial⟩) [] [] rfl rfl rfl ⟨rfl, rfl, rfl⟩
         ·replace h := br_f hg7 h
          refine Qp (cgb hg7) ?_
          refine Qt (Zx (Qc (sMv rfl rfl rfl ?_)))
          refine Qa rfl (Qf rfl rfl rfl rfl rfl (QG (a := i1) (b := (1 : Int)))) ?_
          refine sAs rfl rfl rfl ?_
          refine Qd (tZ [0, 1, 2, 3, 4, 11] [] [0] rfl rfl rfl rfl ?_)
          exact QY (wi (i1 + (1 : Int))) h [0, 1, 2, 3, 4, 11] [] [0] rfl rfl rfl rfl rfl
   ·replace h := br_f hg4 h
    refine Qp (cgb hg4) ?_
    refine Zv _ rfl ?_
    refine Qe (Qc (Tops_nilfact Xk ?_))
    obtain ⟨laid1, hx7, h⟩ := ob_e h
    refine Qs rfl (Qv (w_law10zlaid hx7) [] [1] rfl rfl rfl rfl rfl callee10 rfl rfl rfl rfl) ?_
    rintro _ ⟨_, _, _, ⟨v1, v2, rfl, rfl, rfl⟩, rfl⟩
    refine sMv rfl rfl rfl ?_
    refine Qa rfl (Qq rfl rfl rfl rfl rfl) ?_
    refine Qa rfl (Qq rfl rfl rfl rfl rfl) ?_
    refine Qa rfl (Qq rfl rfl rfl rfl rfl) ?_
    refine Qa rfl (Qq rfl rfl rfl rfl rfl) ?_
    refine Qu rfl (QD rfl rfl rfl tyZ29) fun b1 => ?_
    refine sAs rfl rfl rfl ?_
    refine sAs rfl rfl rfl ?_
    refine Qa rfl (Qo (cs' := [vB laid1.2.2.1.Packed, vI laid1.2.2.1.Size, vU64 laid1.2.2.1.Desc, vU64 laid1.2.2.1.Driver, vU64 laid1.2.2.1.Device]) rfl rfl rfl rfl ZX (i := 2) rfl rfl rfl (QF rfl) rfl) ?_
    refine sAs rfl rfl rfl ?_
    refine Qd (tZ [0, 1, 2, 3, 4, 14, 12, 15] [0, 2] [0] rfl rfl rfl rfl ?_)
    rcases onO_cases h with ⟨ho1, h⟩ | ⟨mem1, ho1, h⟩
    ·cases h
    ·refine Tk_optS (i := 0) rfl ho1 ?_
     rintro b2 v3 v4 vs1 rfl
     refine Qe (Qe (Qc (sMv rfl rfl rfl ?_)))
     refine Qa rfl (XO rfl rfl rfl rfl) ?_
     refine Qd (tZ [0, 1, 2, 3, 4, 14, 12, 91] [0, 1, 2] [0, 1] rfl rfl rfl rfl ?_)
     obtain ⟨hg8, h⟩ := ZK h
     replace hg8 := not_t hg8
     refine Qp (cgb hg8) ?_
     refine Qt (Qe (Qc (sAs rfl rfl rfl ?_)))
     refine Qd (tZ [0, 1, 2, 3, 4, 14, 12, 16] [0, 1, 2] [0, 1] rfl rfl rfl rfl ?_)
     refine Qe (Qe (Qc (sAs rfl rfl rfl ?_)))
     refine Qd (QC (Zr iS ?_))
     refine Zf (σ := Rings × (List Int) × Int × Value) [0, 1, 2, 3, 4, 14, 12, 16, 17] [1, 0, 2, 3] [0, 1] (fun s => ⟨[(0, some vl1), (1, some (vI first)), (2, some (vI id)), (3, some (vI atp3)), (4, some (vB wrap)), (14, some (.pointer (some ⟨b1, 0, none⟩))), (12, some (.pointer (some ⟨b2, 0, none⟩))), (16, some (s.2.2.2)), (17, some (vI s.2.2.1))], [some (Qm b1 29 [vB s.1.Packed, vI s.1.Size, vU64 s.1.Desc, vU64 s.1.Driver, vU64 s.1.Device]), some (Qm b2 113 [v3, v4]), some (QV u8S true v4 vs1 mem1.b none), some (rowS iS s.2.2.2 s.2.1)], [Fact.sl SegS vl1 l, Fact.sl Qz v3 mem1.l]⟩) (fun nf2 s => XQ l first id atp3 wrap mem1 nf2 s.1 s.2.1 s.2.2.1 = some true) fuel (laid1.2.2.1, [], (0 : Int), (.slice none 0 0)) h rfl rfl rfl rfl rfl (fun s h => by cases h) ?_
     rintro nf2 ⟨m1, ids1, i2, v5⟩ h
     replace h : Kf l first id atp3 wrap mem1 (XQ l first id atp3 wrap mem1 nf2) m1 ids1 i2 = some true := h
     unfold Kf at h
     refine Qe (Qe (Qc (sMv rfl rfl rfl ?_)))
     refine sMv rfl rfl rfl ?_
     refine Qa rfl (QT rfl rfl rfl rfl Try.underlying41 (i := 0) rfl) ?_
     refine Qa rfl (Qf rfl rfl rfl rfl rfl (QI (a := i2) (b := len l))) ?_
     refine Qd (tZ [0, 1, 2, 3, 4, 14, 12, 16, 17, 95] [0, 1, 2, 3] [0, 1] rfl rfl rfl rfl ?_)
     rcases bC (decide (i2 < (len l))) with hg9 | hg9
     ·replace h := br_t hg9 h
      refine Ql (cgb hg9) ?_
      refine Qt (Qe (QC (Qc (sMv rfl rfl rfl ?_))))
      refine sMv rfl rfl rfl ?_
      obtain ⟨pick1, hx8, h⟩ := ob_e h
      refine Qs rfl (Qv (w_kit_Pick hx8) [] [] rfl rfl rfl rfl rfl callee9 rfl rfl rfl rfl) ?_
      rintro _ ⟨_, _, _, ⟨rfl, rfl, rfl⟩, rfl⟩
      refine sMv rfl rfl rfl ?_
      refine Qa rfl (Qf rfl rfl rfl rfl rfl (YE (a := i2) (b := (11 : Int)))) ?_
      refine Qa rfl (Qf rfl rfl rfl rfl rfl (QG (a := pick1) (b := wi (i2 * (11 : Int))))) ?_
      refine Qa rfl (Qf rfl rfl rfl rfl rfl (bin_rem_i (a := wi (pick1 + (wi (i2 * (11 : Int))))) (b := (64 : Int)) rfl)) ?_
      refine Qu rfl (QK (S := iS) (xs := [remi (wi (pick1 + (wi (i2 * (11 : Int))))) (64 : Int)]) (css := [[vI (remi (wi (pick1 + (wi (i2 * (11 : Int))))) (64 : Int))]]) (cs := [vI (remi (wi (pick1 + (wi (i2 * (11 : Int))))) (64 : Int))]) (e := 3) rfl rfl rfl rfl (bldF slF32 (by decide) (by kernel_rfl)) rfl rfl rfl rfl (Zd (S := iS) (xs := [remi (wi (pick1 + (wi (i2 * (11 : Int))))) (64 : Int)]) (css := [[vI (remi (wi (pick1 + (wi (i2 * (11 : Int))))) (64 : Int))]]) rfl rfl)) fun v6 => ?_
      obtain ⟨hc1, h⟩ := ZK h
      refine Qu rfl (Zw (S := iS) rfl rfl rfl rfl rfl rfl slF32 (i := 3) (j := 4) rfl rfl hc1) fun v7 => ?_
      refine sAs rfl rfl rfl ?_
      refine Qd (tZ [0, 1, 2, 3, 4, 14, 12, 16, 17] [0, 1, 2, 3] [0, 1] rfl rfl rfl rfl ?_)
      refine Zx (Qc (sMv rfl rfl rfl ?_))
      refine Qa rfl (Qf rfl rfl rfl rfl rfl (QG (a := i2) (b := (1 : Int)))) ?_
      refine sAs rfl rfl rfl ?_
      refine Qd (tZ [0, 1, 2, 3, 4, 14, 12, 16, 17] [0, 1, 2, 3] [0, 1] rfl rfl rfl rfl ?_)
      exact QY (m1, ids1 ++ [remi (wi (pick1 + (wi (i2 * (11 : Int))))) (64 : Int)], wi (i2 + (1 : Int)), v7) h [0, 1, 2, 3, 4, 14, 12, 16, 17] [0, 1, 2, 3] [0, 1] rfl rfl rfl rfl rfl
     ·replace h := br_f hg9 h
      refine Qp (cgb hg9) ?_
      refine Zv _ rfl ?_
      refine Qe (Qc (sMv rfl rfl rfl ?_))
      refine sMv rfl rfl rfl ?_
      obtain ⟨split1, hx9, h⟩ := ob_e h
      refine Qs rfl (Zu [3] [0, 1, 2, 3, 4] (w_build_Split hx9) [] rfl rfl rfl rfl rfl callee28 rfl rfl rfl rfl rfl rfl (Zl (Xa 3 rfl rfl) (Zl (bor_shr 0 rfl) ZZ)) (by rintro _ _ _ ⟨_, rfl, rfl, rfl⟩; exact ⟨rfl, (YU (ri_row (S := PutS) rfl _ _) XS)⟩)) ?_
      rintro _ ⟨_, _, _, ⟨v8, rfl, rfl, rfl⟩, rfl⟩
      refine sMv rfl rfl rfl ?_
      refine Qa rfl (Qq rfl rfl rfl rfl rfl) ?_
      refine Qa rfl (Qq rfl rfl rfl rfl rfl) ?_
      refine sAs rfl rfl rfl ?_
      refine sAs rfl rfl rfl ?_
      refine Qd (tZ [0, 2, 3, 4, 14, 12, 16, 18] [0, 1, 2, 3, 4] [0, 1] rfl rfl rfl rfl ?_)
      refine Qe (Qe (Qc (sAs rfl rfl rfl ?_)))
      refine Qd (QC (Zf (σ := Rings × (List (List UInt8)) × (List Int) × (List Put) × Int × Value × Value) [0, 2, 3, 4, 14, 12, 16, 18, 20] [0, 1, 2, 3, 4] [0, 1] (fun s => ⟨[(0, some vl1), (2, some (vI id)), (3, some (vI atp3)), (4, some (vB wrap)), (14, some (.pointer (some ⟨b1, 0, none⟩))), (12, some (.pointer (some ⟨b2, 0, none⟩))), (16, some (s.2.2.2.2.2.1)), (18, some (s.2.2.2.2.2.2)), (20, some (vI s.2.2.2.2.1))], [some (Qm b1 29 [vB s.1.Packed, vI s.1.Size, vU64 s.1.Desc, vU64 s.1.Driver, vU64 s.1.Device]), some (Qm b2 113 [v3, v4]), some (QV u8S true v4 vs1 s.2.1 none), some (rowS iS s.2.2.2.2.2.1 s.2.2.1), some (rowS PutS s.2.2.2.2.2.2 s.2.2.2.1)], [Fact.sl SegS vl1 l, Fact.sl Qz v3 mem1.l]⟩) (fun nf3 s => ZU l id atp3 wrap mem1 nf3 s.1 s.2.1 s.2.2.1 s.2.2.2.1 s.2.2.2.2.1 = some true) fuel (m1, mem1.b, ids1, split1.1, (0 : Int), v5, v8) h rfl rfl rfl rfl rfl (fun s h => by cases h) ?_))
      rintro nf3 ⟨m2, rows1, l1, l2, i3, v9, v10⟩ h
      replace h : XJ l id atp3 wrap mem1 (ZU l id atp3 wrap mem1 nf3) m2 rows1 l1 l2 i3 = some true := h
      unfold XJ at h
      refine Qe (Qe (Qc (sMv rfl rfl rfl ?_)))
      refine sMv rfl rfl rfl ?_
      refine Qa rfl (OpT_lenO rfl rfl rfl rfl Try.underlying74 (i := 4) rfl) ?_
      refine Qa rfl (Qf rfl rfl rfl rfl rfl (QI (a := i3) (b := len l2))) ?_
      refine Qd (tZ [0, 2, 3, 4, 14, 12, 16, 18, 20, 116] [0, 1, 2, 3, 4] [0, 1] rfl rfl rfl rfl ?_)
      rcases bC (decide (i3 < (len l2))) with hg10 | hg10
      ·replace h := br_t hg10 h
       refine Ql (cgb hg10) ?_
       refine Qt (Qe (QC (QU (by kernel_rfl) ?_)))
       refine Xn [0, 0, 2, 0, 0, 24, 56, 120, 248, 504, 1022, 0, 0, 6144, 14336, 30720, 63488, 131071] (by kernel_rfl) fun htb => ?_
       refine aZ [0, 2, 3, 4, 14, 12, 16, 18, 20] [0, 1, 2, 3, 4] [0, 1] rfl rfl rfl rfl ?_
       obtain ⟨p9, hx10, h⟩ := ob_e h
       obtain ⟨p10, hx11, h⟩ := ob_e h
       obtain ⟨bytes1, hx12, h⟩ := ob_e h
       refine QW (lo := 0) (hi := 17) htb rfl rfl (by kernel_rfl) (fun c L a w => ∃ (v11 : Value), Sat c ⟨[(0, some vl1), (2, some (vI id)), (3, some (vI atp3)), (4, some (vB wrap)), (14, some (.pointer (some ⟨b1, 0, none⟩))), (12, some (.pointer (some ⟨b2, 0, none⟩))), (16, some v9), (18, some v10), (20, some (vI i3)), (119, bif L 0 then some (.pointer (some ⟨b2, 0, none⟩)) else none), (120, bif L 1 then some (.pointer (some ⟨b1, 2, none⟩)) else none), (121, bif L 2 then some (vU64 m2.Desc) else none), (122, bif L 3 then some (v10) else none), (123, bif L 4 then some (vI i3) else none), (124, bif L 5 then some (ZW v10 (Int.toNat i3 * 5)) else none), (125, bif L 6 then some (ZW v10 (Int.toNat i3 * 5 + 0)) else none), (126, bif L 7 then some (vI p9.At) else none), (127, bif L 8 then some (vU64 (u64 p9.At)) else none), (128, bif L 9 then some (vU64 ((16 : UInt64) * (u64 p9.At))) else none), (129, bif L 10 then some (vU64 (m2.Desc + ((16 : UInt64) * (u64 p9.At)))) else none), (130, bif L 11 then some (v10) else none), (131, bif L 12 then some (vI i3) else none), (132, bif L 13 then some (ZW v10 (Int.toNat i3 * 5)) else none), (133, bif L 14 then some (ZW v10 (Int.toNat i3 * 5 + 1)) else none), (134, bif L 15 then some (.agg #[vU64 p10.Desc.Addr, vU32 p10.Desc.Len, vU16 p10.Desc.Flags, vU16 p10.Desc.Next]) else none), (135, bif L 16 then some (v11) else none)], [(some (Qm b1 29 [vB m2.Packed, vI m2.Size, vU64 m2.Desc, vU64 m2.Driver, vU64 m2.Device]) : Option Res), (some (Qm b2 113 [v3, v4]) : Option Res), (some (QV u8S true v4 vs1 rows1 none) : Option Res), (some (rowS iS v9 l1) : Option Res), (some (rowS PutS v10 l2) : Option Res)], [Fact.sl SegS vl1 l, Fact.sl Qz v3 mem1.l, (bif L 16 then Fact.sl u8S v11 bytes1 else Fact.tt)]⟩ a w) [([], []), ([], [2, 10]), ([1], [10]), ([], [5, 6, 7, 8, 9, 10]), ([], [5, 6, 7, 8, 9, 10]), ([3, 4], [6, 7, 8, 9, 10]), ([3, 4, 5], [7, 8, 9, 10]), ([3, 4, 5, 6], [8, 9, 10]), ([3, 4, 5, 6, 7], [9, 10]), ([3, 4, 5, 6, 7, 8], [10]), ([1, 2, 3, 4, 5, 6, 7, 8, 9], []), ([], [13, 14, 15, 16]), ([], [13, 14, 15, 16]), ([11, 12], [14, 15, 16]), ([11, 12, 13], [15, 16]), ([11, 12, 13, 14], [16]), ([11, 12, 13, 14, 15], [])] rfl (by kernel_rfl) ?_ (Qb ?_ (Qb ?_ (Qb ?_ (Qb ?_ (Qb ?_ (Qb ?_ (Qb ?_ (Qb ?_ (Qb ?_ (Qb ?_ (Qb ?_ (Qb ?_ (Qb ?_ (Qb ?_ (Qb ?_ (Qb ?_ (Qb ?_ (QB)))))))))))))))))) ?_
       ·intro a w hs
        exact ⟨undef, hs.startF [119, 120, 121, 122, 123, 124, 125, 126, 127, 128, 129, 130, 131, 132, 133, 134, 135] [0, 1, 2, 3, 4] [0, 1, 2] rfl rfl rfl rfl⟩
       ·intro L a w hv K Q hK
        obtain ⟨v11, hs⟩ := hv
        exact wGo rfl rfl hs (Qk rfl rfl rfl rfl) fun a w hs => hK a w ⟨v11, pF hs 9 [0, 1, 2, 3, 4] [0, 1, 2] rfl⟩
       ·intro L a w hv K Q hK
        obtain ⟨v11, hs⟩ := hv
        exact wGo rfl rfl hs (Qi rfl rfl rfl rfl KC) fun a w hs => hK a w ⟨v11, pF hs 10 [0, 1, 2, 3, 4] [0, 1, 2] rfl⟩
       ·intro L a w hv K Q hK
        obtain ⟨v11, hs⟩ := hv
        exact wGo rfl rfl hs (Qj rfl rfl rfl rfl QZ (i := 0) rfl rfl) fun a w hs => hK a w ⟨v11, pF hs 11 [0, 1, 2, 3, 4] [0, 1, 2] rfl⟩
       ·intro L a w hv K Q hK
        obtain ⟨v11, hs⟩ := hv
        exact wGo rfl rfl hs (Qk rfl rfl rfl rfl) fun a w hs => hK a w ⟨v11, pF hs 12 [0, 1, 2, 3, 4] [0, 1, 2] rfl⟩
       ·intro L a w hv K Q hK
        obtain ⟨v11, hs⟩ := hv
        exact wGo rfl rfl hs (Qk rfl rfl rfl rfl) fun a w hs => hK a w ⟨v11, pF hs 13 [0, 1, 2, 3, 4] [0, 1, 2] rfl⟩
       ·intro L a w hv K Q hK
        obtain ⟨v11, hs⟩ := hv
        exact wGo rfl rfl hs (ZR rfl rfl rfl rfl rfl slF74 (i := 4) rfl hx10) fun a w hs => hK a w ⟨v11, pF hs 14 [0, 1, 2, 3, 4] [0, 1, 2] rfl⟩
       ·intro L a w hv K Q hK
        obtain ⟨v11, hs⟩ := hv
        exact wGo rfl rfl hs (OpT_fieldR (S := PutS) rfl rfl rfl rfl fldF78x0 (i := 4) rfl hx10) fun a w hs => hK a w ⟨v11, pF hs 15 [0, 1, 2, 3, 4] [0, 1, 2] rfl⟩
       ·intro L a w hv K Q hK
        obtain ⟨v11, hs⟩ := hv
        exact wGo rfl rfl hs (OpT_loadOF (S := PutS) rfl rfl rfl rfl rfl tyF3 (i := 4) rfl hx10 rfl rfl) fun a w hs => hK a w ⟨v11, pF hs 16 [0, 1, 2, 3, 4] [0, 1, 2] rfl⟩
       ·intro L a w hv K Q hK
        obtain ⟨v11, hs⟩ := hv
        exact wGo rfl rfl hs (QX rfl rfl rfl rfl (Xw (n := p9.At) Try.underlying3 Try.underlying27)) fun a w hs => hK a w ⟨v11, pF hs 17 [0, 1, 2, 3, 4] [0, 1, 2] rfl⟩
       ·intro L a w hv K Q hK
        obtain ⟨v11, hs⟩ := hv
        exact wGo rfl rfl hs (Qf rfl rfl rfl rfl rfl (ZQ (a := (16 : UInt64)) (b := u64 p9.At))) fun a w hs => hK a w ⟨v11, pF hs 18 [0, 1, 2, 3, 4] [0, 1, 2] rfl⟩
       ·intro L a w hv K Q hK
        obtain ⟨v11, hs⟩ := hv
        exact wGo rfl rfl hs (Qf rfl rfl rfl rfl rfl (Za (a := m2.Desc) (b := (16 : UInt64) * (u64 p9.At)))) fun a w hs => hK a w ⟨v11, pF hs 19 [0, 1, 2, 3, 4] [0, 1, 2] rfl⟩
       ·intro L a w hv K Q hK
        obtain ⟨v11, hs⟩ := hv
        exact wGo rfl rfl hs (Qk rfl rfl rfl rfl) fun a w hs => hK a w ⟨v11, pF hs 20 [0, 1, 2, 3, 4] [0, 1, 2] rfl⟩
       ·intro L a w hv K Q hK
        obtain ⟨v11, hs⟩ := hv
        exact wGo rfl rfl hs (Qk rfl rfl rfl rfl) fun a w hs => hK a w ⟨v11, pF hs 21 [0, 1, 2, 3, 4] [0, 1, 2] rfl⟩
       ·intro L a w hv K Q hK
        obtain ⟨v11, hs⟩ := hv
        exact wGo rfl rfl hs (ZR rfl rfl rfl rfl rfl slF74 (i := 4) rfl hx11) fun a w hs => hK a w ⟨v11, pF hs 22 [0, 1, 2, 3, 4] [0, 1, 2] rfl⟩
       ·intro L a w hv K Q hK
        obtain ⟨v11, hs⟩ := hv
        exact wGo rfl rfl hs (OpT_fieldR (S := PutS) rfl rfl rfl rfl fldF78x1 (i := 4) rfl hx11) fun a w hs => hK a w ⟨v11, pF hs 23 [0, 1, 2, 3, 4] [0, 1, 2] rfl⟩
       ·intro L a w hv K Q hK
        obtain ⟨v11, hs⟩ := hv
        exact wGo rfl rfl hs (OpT_loadOFA (S := PutS) (vs := [vU64 p10.Desc.Addr, vU32 p10.Desc.Len, vU16 p10.Desc.Flags, vU16 p10.Desc.Next]) rfl rfl rfl rfl rfl tyF36 (i := 4) rfl hx11 rfl rfl) fun a w hs => hK a w ⟨v11, pF hs 24 [0, 1, 2, 3, 4] [0, 1, 2] rfl⟩
       ·intro L a w hv K Q hK
        obtain ⟨v11, hs⟩ := hv
        refine QO rfl rfl hs (Qv (ws_ref_Bytes03 hx12) [] [] rfl rfl rfl rfl rfl callee12 rfl rfl rfl rfl) ?_
        rintro _ ⟨v11', _, _, ⟨_, rfl, rfl, rfl⟩, rfl⟩ a' w' hs'
        exact hK a' w' ⟨v11', hs'.putF (i := 25) rfl [0, 1, 2, 3, 4] [0, 1, 3] rfl rfl rfl rfl⟩
       ·intro L a w hL hv
        rw [QM hL] at hv
        obtain ⟨v11, hs⟩ := hv
        refine gZ hs [0, 2, 3, 4, 14, 12, 16, 18, 20, 119, 129, 135] [0, 1, 2, 3, 4] [0, 1, 2] rfl rfl rfl rfl ?_
        clear hs hL
        obtain ⟨write1, hx13, h⟩ := ob_e h
        refine Ka htb (by kernel_rfl) rfl rfl (QJ [0, 5, 6, 3, 4] (ZL hx13) [1, 2] [1, 2] rfl rfl rfl rfl rfl callee11 rfl rfl rfl rfl rfl) ?_
        rintro _ ⟨_, _, _, ⟨rfl, rfl, rfl⟩, rfl⟩
        refine Zh rfl ?_
        refine tZ [0, 2, 3, 4, 14, 12, 16, 18, 20] [0, 1, 2, 3, 4] [0, 1] rfl rfl rfl rfl ?_
        refine Zx (Qc (sMv rfl rfl rfl ?_))
        refine Qa rfl (Qf rfl rfl rfl rfl rfl (QG (a := i3) (b := (1 : Int)))) ?_
        refine sAs rfl rfl rfl ?_
        refine Qd (tZ [0, 2, 3, 4, 14, 12, 16, 18, 20] [0, 1, 2, 3, 4] [0, 1] rfl rfl rfl rfl ?_)
        exact QY (m2, write1.2, l1, l2, wi (i3 + (1 : Int)), v9, v10) h [0, 2, 3, 4, 14, 12, 16, 18, 20] [0, 1, 2, 3, 4] [0, 1] rfl rfl rfl rfl rfl
      ·replace h := br_f hg10 h
       refine Qp (cgb hg10) ?_
       refine Zv _ rfl ?_
       refine Qe (QU (by kernel_rfl) ?_)
       refine Xn [0, 0, 0, 4, 12, 31, 63, 127, 127, 255, 1023] (by kernel_rfl) fun htb => ?_
       refine aZ [0, 2, 3, 4, 14, 12, 16] [0, 1, 2, 3] [0, 1] rfl rfl rfl rfl ?_
       obtain ⟨y1, hx14, h⟩ := ob_e h
       refine QW (lo := 0) (hi := 5) htb rfl rfl (by kernel_rfl) (fun c L a w => Sat c ⟨[(0, some vl1), (2, some (vI id)), (3, some (vI atp3)), (4, some (vB wrap)), (14, some (.pointer (some ⟨b1, 0, none⟩))), (12, some (.pointer (some ⟨b2, 0, none⟩))), (16, some v9), (138, bif L 0 then some (.pointer (some ⟨b2, 0, none⟩)) else none), (139, bif L 1 then some (.agg #[vB m2.Packed, vI m2.Size, vU64 m2.Desc, vU64 m2.Driver, vU64 m2.Device]) else none), (140, bif L 2 then some (v9) else none), (141, bif L 3 then some (ZW v9 (Int.toNat (0 : Int) * 1)) else none), (142, bif L 4 then some (vI y1) else none)], [(some (Qm b1 29 [vB m2.Packed, vI m2.Size, vU64 m2.Desc, vU64 m2.Driver, vU64 m2.Device]) : Option Res), (some (Qm b2 113 [v3, v4]) : Option Res), (some (QV u8S true v4 vs1 rows1 none) : Option Res), (some (rowS iS v9 l1) : Option Res)], [Fact.sl SegS vl1 l, Fact.sl Qz v3 mem1.l]⟩ a w) [([], []), ([], []), ([], [3, 4]), ([2], [4]), ([2, 3], [])] rfl (by kernel_rfl) ?_ (Qb ?_ (Qb ?_ (Qb ?_ (Qb ?_ (Qb ?_ (QB)))))) ?_
       ·intro a w hs
        exact hs.startF [138, 139, 140, 141, 142] [0, 1, 2, 3] [0, 1] rfl rfl rfl rfl
       ·intro L a w hs K Q hK
        exact wGo rfl rfl hs (Qk rfl rfl rfl rfl) fun a w hs => hK a w (pF hs 7 [0, 1, 2, 3] [0, 1] rfl)
       ·intro L a w hs K Q hK
        exact wGo rfl rfl hs (Qy (vs := [vB m2.Packed, vI m2.Size, vU64 m2.Desc, vU64 m2.Driver, vU64 m2.Device]) rfl rfl rfl rfl ZX (i := 0) rfl rfl rfl) fun a w hs => hK a w (pF hs 8 [0, 1, 2, 3] [0, 1] rfl)
       ·intro L a w hs K Q hK
        exact wGo rfl rfl hs (Qk rfl rfl rfl rfl) fun a w hs => hK a w (pF hs 9 [0, 1, 2, 3] [0, 1] rfl)
       ·intro L a w hs K Q hK
        exact wGo rfl rfl hs (ZR rfl rfl rfl rfl rfl slF32 (i := 3) rfl hx14) fun a w hs => hK a w (pF hs 10 [0, 1, 2, 3] [0, 1] rfl)
       ·intro L a w hs K Q hK
        exact wGo rfl rfl hs (XW (S := iS) rfl rfl rfl rfl rfl tyF3 (i := 3) rfl hx14 rfl rfl) fun a w hs => hK a w (pF hs 11 [0, 1, 2, 3] [0, 1] rfl)
       ·intro L a w hL hv
        rw [QM hL] at hv
        have hs := hv
        refine gZ hs [0, 2, 3, 4, 14, 12, 16, 138, 139, 142] [0, 1, 2, 3] [0, 1] rfl rfl rfl rfl ?_
        clear hs hL
        obtain ⟨split2, hx15, h⟩ := ob_e h
        refine Ka htb (by kernel_rfl) rfl rfl (QJ [0, 4, 5, 3] (KK hx15) [1, 2] [1] rfl rfl rfl rfl rfl callee13 rfl rfl rfl rfl rfl) ?_
        rintro _ ⟨_, _, _, ⟨v12, rfl, rfl, rfl⟩, rfl⟩
        refine Qx htb (by kernel_rfl) rfl rfl (Qk rfl rfl rfl rfl) ?_
        refine aZ [0, 2, 3, 4, 14, 12, 16, 137] [0, 1, 2, 3] [0, 1, 2] rfl rfl rfl rfl ?_
        refine QW (lo := 7) (hi := 10) htb rfl rfl (by kernel_rfl) (fun c L a w => Sat c ⟨[(0, some vl1), (2, some (vI id)), (3, some (vI atp3)), (4, some (vB wrap)), (14, some (.pointer (some ⟨b1, 0, none⟩))), (12, some (.pointer (some ⟨b2, 0, none⟩))), (16, some v9), (137, some (.tuple #[v12, vI split2.2])), (144, bif L 7 then some (v12) else none), (145, bif L 8 then some (vI split2.2) else none), (21, bif L 9 then some (v12) else none)], [(some (Qm b1 29 [vB m2.Packed, vI m2.Size, vU64 m2.Desc, vU64 m2.Driver, vU64 m2.Device]) : Option Res), (some (Qm b2 113 [v3, v4]) : Option Res), (some (QV u8S true v4 vs1 rows1 none) : Option Res), (some (rowS iS v9 l1) : Option Res)], [Fact.sl SegS vl1 l, Fact.sl Qz v3 mem1.l, Fact.sl SegS v12 split2.1]⟩ a w) [([], [9]), ([], []), ([7], [])] rfl (by kernel_rfl) ?_ (Qb ?_ (Qb ?_ (Qb ?_ (QB)))) ?_
        ·intro a w hs
         exact hs.startF [144, 145, 21] [0, 1, 2, 3] [0, 1, 2] rfl rfl rfl rfl
        ·intro L a w hs K Q hK
         exact wGo rfl rfl hs (Qq rfl rfl rfl rfl rfl) fun a w hs => hK a w (pF hs 8 [0, 1, 2, 3] [0, 1, 2] rfl)
        ·intro L a w hs K Q hK
         exact wGo rfl rfl hs (Qq rfl rfl rfl rfl rfl) fun a w hs => hK a w (pF hs 9 [0, 1, 2, 3] [0, 1, 2] rfl)
        ·intro L a w hs K Q hK
         exact wGo rfl rfl hs (QN rfl rfl rfl rfl) fun a w hs => hK a w (pF hs 10 [0, 1, 2, 3] [0, 1, 2] rfl)
        ·intro L a w hL hv
         rw [QM hL] at hv
         have hs := hv
         refine gZ hs [0, 2, 3, 4, 14, 12, 16, 145, 21] [0, 1, 2, 3] [0, 1, 2] rfl rfl rfl rfl ?_
         clear hs hL
         refine Qx htb (by kernel_rfl) rfl rfl (QN rfl rfl rfl rfl) ?_
         refine Zh rfl ?_
         refine tZ [0, 2, 3, 4, 14, 12, 16, 21, 22] [0, 1, 2, 3] [0, 1, 2] rfl rfl rfl rfl ?_
         refine Qe (Qc (sMv rfl rfl rfl ?_))
         obtain ⟨splitt1, hx16, h⟩ := ob_e h
         refine Qs rfl (Qv (w_build_SplitTable hx16) [] [0] rfl rfl rfl rfl rfl callee29 rfl rfl rfl rfl) ?_
         rintro _ ⟨_, _, _, ⟨v13, rfl, rfl, rfl⟩, rfl⟩
         refine sMv rfl rfl rfl ?_
         refine Qa rfl (Qq rfl rfl rfl rfl rfl) ?_
         refine Qa rfl (Qq rfl rfl rfl rfl rfl) ?_
         refine sAs rfl rfl rfl ?_
         refine sAs rfl rfl rfl ?_
         refine Qd (tZ [0, 2, 3, 4, 14, 12, 16, 21, 22, 23] [0, 1, 2, 3, 4] [0, 1, 2] rfl rfl rfl rfl ?_)
         refine Qe (Qc (sMv rfl rfl rfl ?_))
         obtain ⟨y2, hx17, h⟩ := ob_e h
         refine Qa rfl (ZR rfl rfl rfl rfl rfl slF32 (i := 3) rfl hx17) ?_
         refine Qa rfl (XW (S := iS) rfl rfl rfl rfl rfl tyF3 (i := 3) rfl hx17 rfl rfl) ?_
         refine sMv rfl rfl rfl ?_
         refine Qa rfl (QT rfl rfl rfl rfl Try.underlying41 (i := 0) rfl) ?_
         obtain ⟨splito1, hx18, h⟩ := ob_e h
         refine Qs rfl (Qv (w_build_SplitOne hx18) [] [] rfl rfl rfl rfl rfl callee30 rfl rfl rfl rfl) ?_
         rintro _ ⟨_, _, _, ⟨rfl, rfl, rfl⟩, rfl⟩
         refine sMv rfl rfl rfl ?_
         refine Qa rfl (Qq rfl rfl rfl rfl rfl) ?_
         refine Qa rfl (Qq rfl rfl rfl rfl rfl) ?_
         refine Qu rfl (QD rfl rfl rfl tyZ78) fun b3 => ?_
         refine Qa rfl (Qo (cs' := [vI splito1.1.At, vU64 splito1.1.Desc.Addr, vU32 splito1.1.Desc.Len, vU16 splito1.1.Desc.Flags, vU16 splito1.1.Desc.Next]) rfl rfl rfl rfl tyF78 (i := 5) rfl rfl rfl (QF rfl) rfl) ?_
         refine sAs rfl rfl rfl ?_
         refine Qd (tZ [0, 2, 3, 4, 14, 12, 16, 21, 22, 23, 25] [0, 1, 2, 3, 4, 5] [0, 1, 2] rfl rfl rfl rfl ?_)
         refine Qe (Qc (sMv rfl rfl rfl ?_))
         refine sMv rfl rfl rfl ?_
         obtain ⟨write2, hx19, h⟩ := ob_e h
         refine Qs rfl (Zu [4] [0, 6, 7, 3, 4, 5] (ZL hx19) [1, 2] rfl rfl rfl rfl rfl callee11 rfl rfl rfl rfl rfl rfl (Zl (bor_shr 1 rfl) (Zl (Xa 4 rfl rfl) ZZ)) (by rintro _ _ _ ⟨rfl, rfl, rfl⟩; exact ⟨rfl, (YU (ri_cells _ _ _) (YU (ri_rows rfl _ _ _ _ _) XS))⟩)) ?_
         rintro _ ⟨_, _, _, ⟨rfl, rfl, rfl⟩, rfl⟩
         refine Qd (tZ [0, 2, 3, 4, 14, 12, 16, 21, 22, 25] [0, 1, 2, 3, 5] [0, 1, 2] rfl rfl rfl rfl ?_)
         refine Qe (QU (by kernel_rfl) ?_)
         refine Xn [0, 0, 2, 0, 8, 24, 56, 126, 0, 256, 768, 2047] (by kernel_rfl) fun htb => ?_
         obtain ⟨bytes2, hx20, h⟩ := ob_e h
         refine QW (lo := 0) (hi := 11) htb rfl rfl (by kernel_rfl) (fun c L a w => ∃ (v14 : Value), Sat c ⟨[(0, some vl1), (2, some (vI id)), (3, some (vI atp3)), (4, some (vB wrap)), (14, some (.pointer (some ⟨b1, 0, none⟩))), (12, some (.pointer (some ⟨b2, 0, none⟩))), (16, some v9), (21, some v12), (22, some (vI split2.2)), (25, some (.pointer (some ⟨b3, 0, none⟩))), (163, bif L 0 then some (.pointer (some ⟨b2, 0, none⟩)) else none), (164, bif L 1 then some (.pointer (some ⟨b1, 2, none⟩)) else none), (165, bif L 2 then some (vU64 m2.Desc) else none), (166, bif L 3 then some (.pointer (some ⟨b3, 0, none⟩)) else none), (167, bif L 4 then some (vI splito1.1.At) else none), (168, bif L 5 then some (vU64 (u64 splito1.1.At)) else none), (169, bif L 6 then some (vU64 ((16 : UInt64) * (u64 splito1.1.At))) else none), (170, bif L 7 then some (vU64 (m2.Desc + ((16 : UInt64) * (u64 splito1.1.At)))) else none), (171, bif L 8 then some (.pointer (some ⟨b3, 1, none⟩)) else none), (172, bif L 9 then some (.agg #[vU64 splito1.1.Desc.Addr, vU32 splito1.1.Desc.Len, vU16 splito1.1.Desc.Flags, vU16 splito1.1.Desc.Next]) else none), (173, bif L 10 then some (v14) else none)], [(some (Qm b1 29 [vB m2.Packed, vI m2.Size, vU64 m2.Desc, vU64 m2.Driver, vU64 m2.Device]) : Option Res), (some (Qm b2 113 [v3, v4]) : Option Res), (some (QV u8S true v4 vs1 write2.2 none) : Option Res), (some (rowS iS v9 l1) : Option Res), (some (Qm b3 78 [vI splito1.1.At, vU64 splito1.1.Desc.Addr, vU32 splito1.1.Desc.Len, vU16 splito1.1.Desc.Flags, vU16 splito1.1.Desc.Next]) : Option Res)], [Fact.sl SegS vl1 l, Fact.sl Qz v3 mem1.l, Fact.sl SegS v12 split2.1, (bif L 10 then Fact.sl u8S v14 bytes2 else Fact.tt)]⟩ a w) [([], []), ([], [2, 7]), ([1], [7]), ([], [4, 5, 6, 7]), ([3], [5, 6, 7]), ([3, 4], [6, 7]), ([3, 4, 5], [7]), ([1, 2, 3, 4, 5, 6], []), ([], [9, 10]), ([8], [10]), ([8, 9], [])] rfl (by kernel_rfl) ?_ (Qb ?_ (Qb ?_ (Qb ?_ (Qb ?_ (Qb ?_ (Qb ?_ (Qb ?_ (Qb ?_ (Qb ?_ (Qb ?_ (Qb ?_ (QB)))))))))))) ?_
         ·intro a w hs
          exact ⟨undef, hs.startF [163, 164, 165, 166, 167, 168, 169, 170, 171, 172, 173] [0, 1, 2, 3, 4] [0, 1, 2, 3] rfl rfl rfl rfl⟩
         ·intro L a w hv K Q hK
          obtain ⟨v14, hs⟩ := hv
          exact wGo rfl rfl hs (Qk rfl rfl rfl rfl) fun a w hs => hK a w ⟨v14, pF hs 10 [0, 1, 2, 3, 4] [0, 1, 2, 3] rfl⟩
         ·intro L a w hv K Q hK
          obtain ⟨v14, hs⟩ := hv
          exact wGo rfl rfl hs (Qi rfl rfl rfl rfl KC) fun a w hs => hK a w ⟨v14, pF hs 11 [0, 1, 2, 3, 4] [0, 1, 2, 3] rfl⟩
         ·intro L a w hv K Q hK
          obtain ⟨v14, hs⟩ := hv
          exact wGo rfl rfl hs (Qj rfl rfl rfl rfl QZ (i := 0) rfl rfl) fun a w hs => hK a w ⟨v14, pF hs 12 [0, 1, 2, 3, 4] [0, 1, 2, 3] rfl⟩
         ·intro L a w hv K Q hK
          obtain ⟨v14, hs⟩ := hv
          exact wGo rfl rfl hs (Qi rfl rfl rfl rfl fldF78x0) fun a w hs => hK a w ⟨v14, pF hs 13 [0, 1, 2, 3, 4] [0, 1, 2, 3] rfl⟩
         ·intro L a w hv K Q hK
          obtain ⟨v14, hs⟩ := hv
          exact wGo rfl rfl hs (Qj rfl rfl rfl rfl tyF3 (i := 4) rfl rfl) fun a w hs => hK a w ⟨v14, pF hs 14 [0, 1, 2, 3, 4] [0, 1, 2, 3] rfl⟩
         ·intro L a w hv K Q hK
          obtain ⟨v14, hs⟩ := hv
          exact wGo rfl rfl hs (QX rfl rfl rfl rfl (Xw (n := splito1.1.At) Try.underlying3 Try.underlying27)) fun a w hs => hK a w ⟨v14, pF hs 15 [0, 1, 2, 3, 4] [0, 1, 2, 3] rfl⟩
         ·intro L a w hv K Q hK
          obtain ⟨v14, hs⟩ := hv
          exact wGo rfl rfl hs (Qf rfl rfl rfl rfl rfl (ZQ (a := (16 : UInt64)) (b := u64 splito1.1.At))) fun a w hs => hK a w ⟨v14, pF hs 16 [0, 1, 2, 3, 4] [0, 1, 2, 3] rfl⟩
         ·intro L a w hv K Q hK
          obtain ⟨v14, hs⟩ := hv
          exact wGo rfl rfl hs (Qf rfl rfl rfl rfl rfl (Za (a := m2.Desc) (b := (16 : UInt64) * (u64 splito1.1.At)))) fun a w hs => hK a w ⟨v14, pF hs 17 [0, 1, 2, 3, 4] [0, 1, 2, 3] rfl⟩
         ·intro L a w hv K Q hK
          obtain ⟨v14, hs⟩ := hv
          exact wGo rfl rfl hs (Qi rfl rfl rfl rfl fldF78x1) fun a w hs => hK a w ⟨v14, pF hs 18 [0, 1, 2, 3, 4] [0, 1, 2, 3] rfl⟩
         ·intro L a w hv K Q hK
          obtain ⟨v14, hs⟩ := hv
          exact wGo rfl rfl hs (Qy (vs := [vU64 splito1.1.Desc.Addr, vU32 splito1.1.Desc.Len, vU16 splito1.1.Desc.Flags, vU16 splito1.1.Desc.Next]) rfl rfl rfl rfl tyF36 (i := 4) rfl rfl rfl) fun a w hs => hK a w ⟨v14, pF hs 19 [0, 1, 2, 3, 4] [0, 1, 2, 3] rfl⟩
         ·intro L a w hv K Q hK
          obtain ⟨v14, hs⟩ := hv
          refine QO rfl rfl hs (Qv (ws_ref_Bytes03 hx20) [] [] rfl rfl rfl rfl rfl callee12 rfl rfl rfl rfl) ?_
          rintro _ ⟨v14', _, _, ⟨_, rfl, rfl, rfl⟩, rfl⟩ a' w' hs'
          exact hK a' w' ⟨v14', hs'.putF (i := 20) rfl [0, 1, 2, 3, 4] [0, 1, 2, 4] rfl rfl rfl rfl⟩
         ·intro L a w hL hv
          rw [QM hL] at hv
          obtain ⟨v14, hs⟩ := hv
          refine gZ hs [0, 2, 3, 4, 14, 12, 16, 21, 22, 163, 170, 173] [0, 1, 2, 3] [0, 1, 2, 3] rfl rfl rfl rfl ?_
          clear hs hL
          obtain ⟨write3, hx21, h⟩ := ob_e h
          refine Ka htb (by kernel_rfl) rfl rfl (QJ [0, 4, 5, 3] (ZL hx21) [1, 2] [1, 3] rfl rfl rfl rfl rfl callee11 rfl rfl rfl rfl rfl) ?_
          rintro _ ⟨_, _, _, ⟨rfl, rfl, rfl⟩, rfl⟩
          refine Zh rfl ?_
          refine tZ [0, 2, 3, 4, 14, 12, 16, 21, 22] [0, 1, 2, 3] [0, 1, 2] rfl rfl rfl rfl ?_
          refine Qe (QU (by kernel_rfl) ?_)
          refine Xn [0, 0, 0, 4, 12, 31, 63, 127, 127, 255, 1023] (by kernel_rfl) fun htb => ?_
          obtain ⟨y3, hx22, h⟩ := ob_e h
          refine QW (lo := 0) (hi := 5) htb rfl rfl (by kernel_rfl) (fun c L a w => Sat c ⟨[(0, some vl1), (2, some (vI id)), (3, some (vI atp3)), (4, some (vB wrap)), (14, some (.pointer (some ⟨b1, 0, none⟩))), (12, some (.pointer (some ⟨b2, 0, none⟩))), (16, some v9), (21, some v12), (22, some (vI split2.2)), (176, bif L 0 then some (.pointer (some ⟨b2, 0, none⟩)) else none), (177, bif L 1 then some (.agg #[vB m2.Packed, vI m2.Size, vU64 m2.Desc, vU64 m2.Driver, vU64 m2.Device]) else none), (178, bif L 2 then some (v9) else none), (179, bif L 3 then some (ZW v9 (Int.toNat (0 : Int) * 1)) else none), (180, bif L 4 then some (vI y3) else none)], [(some (Qm b1 29 [vB m2.Packed, vI m2.Size, vU64 m2.Desc, vU64 m2.Driver, vU64 m2.Device]) : Option Res), (some (Qm b2 113 [v3, v4]) : Option Res), (some (QV u8S true v4 vs1 write3.2 none) : Option Res), (some (rowS iS v9 l1) : Option Res)], [Fact.sl SegS vl1 l, Fact.sl Qz v3 mem1.l, Fact.sl SegS v12 split2.1]⟩ a w) [([], []), ([], []), ([], [3, 4]), ([2], [4]), ([2, 3], [])] rfl (by kernel_rfl) ?_ (Qb ?_ (Qb ?_ (Qb ?_ (Qb ?_ (Qb ?_ (QB)))))) ?_
          ·intro a w hs
           exact hs.startF [176, 177, 178, 179, 180] [0, 1, 2, 3] [0, 1, 2] rfl rfl rfl rfl
          ·intro L a w hs K Q hK
           exact wGo rfl rfl hs (Qk rfl rfl rfl rfl) fun a w hs => hK a w (pF hs 9 [0, 1, 2, 3] [0, 1, 2] rfl)
          ·intro L a w hs K Q hK
           exact wGo rfl rfl hs (Qy (vs := [vB m2.Packed, vI m2.Size, vU64 m2.Desc, vU64 m2.Driver, vU64 m2.Device]) rfl rfl rfl rfl ZX (i := 0) rfl rfl rfl) fun a w hs => hK a w (pF hs 10 [0, 1, 2, 3] [0, 1, 2] rfl)
          ·intro L a w hs K Q hK
           exact wGo rfl rfl hs (Qk rfl rfl rfl rfl) fun a w hs => hK a w (pF hs 11 [0, 1, 2, 3] [0, 1, 2] rfl)
          ·intro L a w hs K Q hK
           exact wGo rfl rfl hs (ZR rfl rfl rfl rfl rfl slF32 (i := 3) rfl hx22) fun a w hs => hK a w (pF hs 12 [0, 1, 2, 3] [0, 1, 2] rfl)
          ·intro L a w hs K Q hK
           exact wGo rfl rfl hs (XW (S := iS) rfl rfl rfl rfl rfl tyF3 (i := 3) rfl hx22 rfl rfl) fun a w hs => hK a w (pF hs 13 [0, 1, 2, 3] [0, 1, 2] rfl)
          ·intro L a w hL hv
           rw [QM hL] at hv
           have hs := hv
           refine gZ hs [0, 2, 3, 4, 14, 12, 16, 21, 22, 176, 177, 180] [0, 1, 2, 3] [0, 1, 2] rfl rfl rfl rfl ?_
           clear hs hL
           obtain ⟨split3, hx23, h⟩ := ob_e h
           refine Ka htb (by kernel_rfl) rfl rfl (QJ [0, 4, 5, 3] (KK hx23) [1, 2] [1] rfl rfl rfl rfl rfl callee13 rfl rfl rfl rfl rfl) ?_
           rintro _ ⟨_, _, _, ⟨v15, rfl, rfl, rfl⟩, rfl⟩
           refine Qx htb (by kernel_rfl) rfl rfl (Qk rfl rfl rfl rfl) ?_
           refine aZ [0, 2, 3, 4, 14, 12, 16, 21, 22, 175] [0, 1, 2, 3] [0, 1, 2, 3] rfl rfl rfl rfl ?_
           refine QW (lo := 7) (hi := 10) htb rfl rfl (by kernel_rfl) (fun c L a w => Sat c ⟨[(0, some vl1), (2, some (vI id)), (3, some (vI atp3)), (4, some (vB wrap)), (14, some (.pointer (some ⟨b1, 0, none⟩))), (12, some (.pointer (some ⟨b2, 0, none⟩))), (16, some v9), (21, some v12), (22, some (vI split2.2)), (175, some (.tuple #[v15, vI split3.2])), (182, bif L 7 then some (v15) else none), (183, bif L 8 then some (vI split3.2) else none), (27, bif L 9 then some (v15) else none)], [(some (Qm b1 29 [vB m2.Packed, vI m2.Size, vU64 m2.Desc, vU64 m2.Driver, vU64 m2.Device]) : Option Res), (some (Qm b2 113 [v3, v4]) : Option Res), (some (QV u8S true v4 vs1 write3.2 none) : Option Res), (some (rowS iS v9 l1) : Option Res)], [Fact.sl SegS vl1 l, Fact.sl Qz v3 mem1.l, Fact.sl SegS v12 split2.1, Fact.sl SegS v15 split3.1]⟩ a w) [([], [9]), ([], []), ([7], [])] rfl (by kernel_rfl) ?_ (Qb ?_ (Qb ?_ (Qb ?_ (QB)))) ?_
           ·intro a w hs
            exact hs.startF [182, 183, 27] [0, 1, 2, 3] [0, 1, 2, 3] rfl rfl rfl rfl
           ·intro L a w hs K Q hK
            exact wGo rfl rfl hs (Qq rfl rfl rfl rfl rfl) fun a w hs => hK a w (pF hs 10 [0, 1, 2, 3] [0, 1, 2, 3] rfl)
           ·intro L a w hs K Q hK
            exact wGo rfl rfl hs (Qq rfl rfl rfl rfl rfl) fun a w hs => hK a w (pF hs 11 [0, 1, 2, 3] [0, 1, 2, 3] rfl)
           ·intro L a w hs K Q hK
            exact wGo rfl rfl hs (QN rfl rfl rfl rfl) fun a w hs => hK a w (pF hs 12 [0, 1, 2, 3] [0, 1, 2, 3] rfl)
           ·intro L a w hL hv
            rw [QM hL] at hv
            have hs := hv
            refine gZ hs [0, 2, 3, 4, 14, 12, 16, 21, 22, 183, 27] [0, 1, 2, 3] [0, 1, 2, 3] rfl rfl rfl rfl ?_
            clear hs hL
            refine Qx htb (by kernel_rfl) rfl rfl (QN rfl rfl rfl rfl) ?_
            refine Zh rfl ?_
            refine tZ [0, 2, 3, 4, 14, 12, 16, 21, 22, 27, 28] [0, 1, 2, 3] [0, 1, 2, 3] rfl rfl rfl rfl ?_
            refine Qe (QU (by kernel_rfl) ?_)
            refine Xn [0, 0, 0, 4, 12, 31, 63, 127, 127, 255, 1023] (by kernel_rfl) fun htb => ?_
            obtain ⟨y4, hx24, h⟩ := ob_e h
            refine QW (lo := 0) (hi := 5) htb rfl rfl (by kernel_rfl) (fun c L a w => Sat c ⟨[(0, some vl1), (2, some (vI id)), (3, some (vI atp3)), (4, some (vB wrap)), (14, some (.pointer (some ⟨b1, 0, none⟩))), (12, some (.pointer (some ⟨b2, 0, none⟩))), (16, some v9), (21, some v12), (22, some (vI split2.2)), (27, some v15), (28, some (vI split3.2)), (185, bif L 0 then some (.pointer (some ⟨b2, 0, none⟩)) else none), (186, bif L 1 then some (.agg #[vB m2.Packed, vI m2.Size, vU64 m2.Desc, vU64 m2.Driver, vU64 m2.Device]) else none), (187, bif L 2 then some (v9) else none), (188, bif L 3 then some (ZW v9 (Int.toNat (0 : Int) * 1)) else none), (189, bif L 4 then some (vI y4) else none)], [(some (Qm b1 29 [vB m2.Packed, vI m2.Size, vU64 m2.Desc, vU64 m2.Driver, vU64 m2.Device]) : Option Res), (some (Qm b2 113 [v3, v4]) : Option Res), (some (QV u8S true v4 vs1 write3.2 none) : Option Res), (some (rowS iS v9 l1) : Option Res)], [Fact.sl SegS vl1 l, Fact.sl Qz v3 mem1.l, Fact.sl SegS v12 split2.1, Fact.sl SegS v15 split3.1]⟩ a w) [([], []), ([], []), ([], [3, 4]), ([2], [4]), ([2, 3], [])] rfl (by kernel_rfl) ?_ (Qb ?_ (Qb ?_ (Qb ?_ (Qb ?_ (Qb ?_ (QB)))))) ?_
            ·intro a w hs
             exact hs.startF [185, 186, 187, 188, 189] [0, 1, 2, 3] [0, 1, 2, 3] rfl rfl rfl rfl
            ·intro L a w hs K Q hK
             exact wGo rfl rfl hs (Qk rfl rfl rfl rfl) fun a w hs => hK a w (pF hs 11 [0, 1, 2, 3] [0, 1, 2, 3] rfl)
            ·intro L a w hs K Q hK
             exact wGo rfl rfl hs (Qy (vs := [vB m2.Packed, vI m2.Size, vU64 m2.Desc, vU64 m2.Driver, vU64 m2.Device]) rfl rfl rfl rfl ZX (i := 0) rfl rfl rfl) fun a w hs => hK a w (pF hs 12 [0, 1, 2, 3] [0, 1, 2, 3] rfl)
            ·intro L a w hs K Q hK
             exact wGo rfl rfl hs (Qk rfl rfl rfl rfl) fun a w hs => hK a w (pF hs 13 [0, 1, 2, 3] [0, 1, 2, 3] rfl)
            ·intro L a w hs K Q hK
             exact wGo rfl rfl hs (ZR rfl rfl rfl rfl rfl slF32 (i := 3) rfl hx24) fun a w hs => hK a w (pF hs 14 [0, 1, 2, 3] [0, 1, 2, 3] rfl)
            ·intro L a w hs K Q hK
             exact wGo rfl rfl hs (XW (S := iS) rfl rfl rfl rfl rfl tyF3 (i := 3) rfl hx24 rfl rfl) fun a w hs => hK a w (pF hs 15 [0, 1, 2, 3] [0, 1, 2, 3] rfl)
            ·intro L a w hL hv
             rw [QM hL] at hv
             have hs := hv
             refine gZ hs [0, 2, 3, 4, 14, 12, 16, 21, 22, 27, 28, 185, 186, 189] [0, 1, 2, 3] [0, 1, 2, 3] rfl rfl rfl rfl ?_
             clear hs hL
             obtain ⟨split4, hx25, h⟩ := ob_e h
             refine Ka htb (by kernel_rfl) rfl rfl (QJ [0, 4, 5, 3] (KK hx25) [1, 2] [1] rfl rfl rfl rfl rfl callee13 rfl rfl rfl rfl rfl) ?_
             rintro _ ⟨_, _, _, ⟨v16, rfl, rfl, rfl⟩, rfl⟩
             refine Qx htb (by kernel_rfl) rfl rfl (Qk rfl rfl rfl rfl) ?_
             refine aZ [0, 2, 3, 4, 14, 12, 16, 21, 22, 27, 28, 184] [0, 1, 2, 3] [0, 1, 2, 3, 4] rfl rfl rfl rfl ?_
             refine QW (lo := 7) (hi := 10) htb rfl rfl (by kernel_rfl) (fun c L a w => Sat c ⟨[(0, some vl1), (2, some (vI id)), (3, some (vI atp3)), (4, some (vB wrap)), (14, some (.pointer (some ⟨b1, 0, none⟩))), (12, some (.pointer (some ⟨b2, 0, none⟩))), (16, some v9), (21, some v12), (22, some (vI split2.2)), (27, some v15), (28, some (vI split3.2)), (184, some (.tuple #[v16, vI split4.2])), (191, bif L 7 then some (v16) else none), (192, bif L 8 then some (vI split4.2) else none), (29, bif L 9 then some (v16) else none)], [(some (Qm b1 29 [vB m2.Packed, vI m2.Size, vU64 m2.Desc, vU64 m2.Driver, vU64 m2.Device]) : Option Res), (some (Qm b2 113 [v3, v4]) : Option Res), (some (QV u8S true v4 vs1 write3.2 none) : Option Res), (some (rowS iS v9 l1) : Option Res)], [Fact.sl SegS vl1 l, Fact.sl Qz v3 mem1.l, Fact.sl SegS v12 split2.1, Fact.sl SegS v15 split3.1, Fact.sl SegS v16 split4.1]⟩ a w) [([], [9]), ([], []), ([7], [])] rfl (by kernel_rfl) ?_ (Qb ?_ (Qb ?_ (Qb ?_ (QB)))) ?_
             ·intro a w hs
              exact hs.startF [191, 192, 29] [0, 1, 2, 3] [0, 1, 2, 3, 4] rfl rfl rfl rfl
             ·intro L a w hs K Q hK
              exact wGo rfl rfl hs (Qq rfl rfl rfl rfl rfl) fun a w hs => hK a w (pF hs 12 [0, 1, 2, 3] [0, 1, 2, 3, 4] rfl)
             ·intro L a w hs K Q hK
              exact wGo rfl rfl hs (Qq rfl rfl rfl rfl rfl) fun a w hs => hK a w (pF hs 13 [0, 1, 2, 3] [0, 1, 2, 3, 4] rfl)
             ·intro L a w hs K Q hK
              exact wGo rfl rfl hs (QN rfl rfl rfl rfl) fun a w hs => hK a w (pF hs 14 [0, 1, 2, 3] [0, 1, 2, 3, 4] rfl)
             ·intro L a w hL hv
              rw [QM hL] at hv
              have hs := hv
              refine gZ hs [0, 2, 3, 4, 14, 12, 16, 21, 22, 27, 28, 192] [0, 1, 2, 3] [0, 1, 2, 3] rfl rfl rfl rfl ?_
              clear hs hL
              refine Qx htb (by kernel_rfl) rfl rfl (QN rfl rfl rfl rfl) ?_
              refine Zh rfl ?_
              refine tZ [0, 2, 3, 4, 14, 12, 16, 21, 22, 27, 28, 30] [0, 1, 2, 3] [0, 1, 2, 3] rfl rfl rfl rfl ?_
              refine Qe (Qe (QU (by kernel_rfl) ?_))
              refine Xn [0, 1, 3, 7, 7, 31, 63, 127, 255, 511, 1023, 2047, 4095, 8191, 8191, 32767, 65535, 131071, 262143, 524287, 1048575, 2097151, 4194303, 8388607, 8388607, 8388607, 41943039, 109051903, 268435455, 8388607, 545259519, 1619001343, 4294967295, 8589934591] (by kernel_rfl) fun htb => ?_
              refine Qx htb (by kernel_rfl) rfl rfl (Qk rfl rfl rfl rfl) ?_
              refine Qx htb (by kernel_rfl) rfl rfl (Qf rfl rfl rfl rfl rfl (QL (a := split2.2) (b := (0 : Int)))) ?_
              refine Qx htb (by kernel_rfl) rfl rfl (Qk rfl rfl rfl rfl) ?_
              refine aZ [0, 2, 3, 4, 14, 12, 16, 21, 27, 28, 30, 195] [0, 1, 2, 3] [0, 1, 2, 3] rfl rfl rfl rfl ?_
              obtain ⟨hg11, h⟩ := ZK h
              replace hg11 := not_t hg11
              refine QW (lo := 3) (hi := 5) htb rfl rfl (by kernel_rfl) (fun c L a w => Sat c ⟨[(0, some vl1), (2, some (vI id)), (3, some (vI atp3)), (4, some (vB wrap)), (14, some (.pointer (some ⟨b1, 0, none⟩))), (12, some (.pointer (some ⟨b2, 0, none⟩))), (16, some v9), (21, some v12), (27, some v15), (28, some (vI split3.2)), (30, some (vI split4.2)), (195, some (vB (split2.2 != (0 : Int)))), (196, bif L 3 then some (v12) else none), (197, bif L 4 then some (vl1) else none)], [(some (Qm b1 29 [vB m2.Packed, vI m2.Size, vU64 m2.Desc, vU64 m2.Driver, vU64 m2.Device]) : Option Res), (some (Qm b2 113 [v3, v4]) : Option Res), (some (QV u8S true v4 vs1 write3.2 none) : Option Res), (some (rowS iS v9 l1) : Option Res)], [Fact.sl SegS vl1 l, Fact.sl Qz v3 mem1.l, Fact.sl SegS v12 split2.1, Fact.sl SegS v15 split3.1]⟩ a w) [([], []), ([], [])] rfl (by kernel_rfl) ?_ (Qb ?_ (Qb ?_ (QB))) ?_
              ·intro a w hs
               exact hs.startF [196, 197] [0, 1, 2, 3] [0, 1, 2, 3] rfl rfl rfl rfl
              ·intro L a w hs K Q hK
               exact wYs rfl rfl rfl hs (cgb hg11) (Qk rfl rfl rfl rfl) fun a w hs => hK a w (pF hs 12 [0, 1, 2, 3] [0, 1, 2, 3] rfl)
              ·intro L a w hs K Q hK
               exact wYs rfl rfl rfl hs (cgb hg11) (Qk rfl rfl rfl rfl) fun a w hs => hK a w (pF hs 13 [0, 1, 2, 3] [0, 1, 2, 3] rfl)
              ·intro L a w hL hv
               rw [QM hL] at hv
               have hs := hv
               refine gZ hs [0, 2, 3, 4, 14, 12, 16, 27, 28, 30, 195, 196, 197] [0, 1, 2, 3] [0, 1, 2, 3] rfl rfl rfl rfl ?_
               clear hs hL
               obtain ⟨samese1, hx26, h⟩ := ob_e h
               refine Xx htb (by kernel_rfl) rfl rfl rfl (cgb hg11) (Qv (w_kit_SameSegs hx26) [] [2, 0] rfl rfl rfl rfl rfl callee18 rfl rfl rfl rfl) ?_
               rintro _ ⟨_, _, _, ⟨rfl, rfl, rfl⟩, rfl⟩
               refine Xx htb (by kernel_rfl) rfl rfl rfl (cgb hg11) (XO rfl rfl rfl rfl) ?_
               rintro _ rfl
               refine Qx htb (by kernel_rfl) rfl rfl (Qw rfl rfl rfl (cgb hg11) rfl) ?_
               refine Qx htb (by kernel_rfl) rfl rfl (Qk rfl rfl rfl rfl) ?_
               obtain ⟨hg12, h⟩ := ZK h
               replace hg12 := not_t hg12
               refine Xx htb (by kernel_rfl) rfl rfl rfl (cgb hg12) (Qk rfl rfl rfl rfl) ?_
               rintro _ rfl
               refine Xx htb (by kernel_rfl) rfl rfl rfl (cgb hg12) (Qf rfl rfl rfl rfl rfl (QL (a := split3.2) (b := (0 : Int)))) ?_
               rintro _ rfl
               refine aZ [0, 2, 3, 4, 14, 12, 16, 27, 30, 201, 203] [0, 1, 2, 3] [0, 1, 3] rfl rfl rfl rfl ?_
               refine Qx htb (by kernel_rfl) rfl rfl (Qw rfl rfl rfl (cgb hg12) rfl) ?_
               refine Qx htb (by kernel_rfl) rfl rfl (Qk rfl rfl rfl rfl) ?_
               refine aZ [0, 2, 3, 4, 14, 12, 16, 27, 30, 205] [0, 1, 2, 3] [0, 1, 2] rfl rfl rfl rfl ?_
               obtain ⟨hg13, h⟩ := ZK h
               replace hg13 := not_t hg13
               refine QW (lo := 13) (hi := 15) htb rfl rfl (by kernel_rfl) (fun c L a w => Sat c ⟨[(0, some vl1), (2, some (vI id)), (3, some (vI atp3)), (4, some (vB wrap)), (14, some (.pointer (some ⟨b1, 0, none⟩))), (12, some (.pointer (some ⟨b2, 0, none⟩))), (16, some v9), (27, some v15), (30, some (vI split4.2)), (205, some (vB (split3.2 != (0 : Int)))), (206, bif L 13 then some (v15) else none), (207, bif L 14 then some (vl1) else none)], [(some (Qm b1 29 [vB m2.Packed, vI m2.Size, vU64 m2.Desc, vU64 m2.Driver, vU64 m2.Device]) : Option Res), (some (Qm b2 113 [v3, v4]) : Option Res), (some (QV u8S true v4 vs1 write3.2 none) : Option Res), (some (rowS iS v9 l1) : Option Res)], [Fact.sl SegS vl1 l, Fact.sl Qz v3 mem1.l, Fact.sl SegS v15 split3.1]⟩ a w) [([], []), ([], [])] rfl (by kernel_rfl) ?_ (Qb ?_ (Qb ?_ (QB))) ?_
               ·intro a w hs
                exact hs.startF [206, 207] [0, 1, 2, 3] [0, 1, 2] rfl rfl rfl rfl
               ·intro L a w hs K Q hK
                exact wYs rfl rfl rfl hs (cgb hg13) (Qk rfl rfl rfl rfl) fun a w hs => hK a w (pF hs 10 [0, 1, 2, 3] [0, 1, 2] rfl)
               ·intro L a w hs K Q hK
                exact wYs rfl rfl rfl hs (cgb hg13) (Qk rfl rfl rfl rfl) fun a w hs => hK a w (pF hs 11 [0, 1, 2, 3] [0, 1, 2] rfl)
               ·intro L a w hL hv
                rw [QM hL] at hv
                have hs := hv
                refine gZ hs [0, 2, 3, 4, 14, 12, 16, 30, 205, 206, 207] [0, 1, 2, 3] [0, 1, 2] rfl rfl rfl rfl ?_
                clear hs hL
                obtain ⟨samese2, hx27, h⟩ := ob_e h
                refine Xx htb (by kernel_rfl) rfl rfl rfl (cgb hg13) (Qv (w_kit_SameSegs hx27) [] [2, 0] rfl rfl rfl rfl rfl callee18 rfl rfl rfl rfl) ?_
                rintro _ ⟨_, _, _, ⟨rfl, rfl, rfl⟩, rfl⟩
                refine Xx htb (by kernel_rfl) rfl rfl rfl (cgb hg13) (XO rfl rfl rfl rfl) ?_
                rintro _ rfl
                refine Qx htb (by kernel_rfl) rfl rfl (Qw rfl rfl rfl (cgb hg13) rfl) ?_
                refine Qx htb (by kernel_rfl) rfl rfl (Qk rfl rfl rfl rfl) ?_
                obtain ⟨hg14, h⟩ := ZK h
                replace hg14 := not_t hg14
                refine Xx htb (by kernel_rfl) rfl rfl rfl (cgb hg14) (Qk rfl rfl rfl rfl) ?_
                rintro _ rfl
                refine Xx htb (by kernel_rfl) rfl rfl rfl (cgb hg14) (Qf rfl rfl rfl rfl rfl (QL (a := split4.2) (b := (4 : Int)))) ?_
                rintro _ rfl
                refine aZ [0, 2, 3, 4, 14, 12, 16, 211, 213] [0, 1, 2, 3] [0, 1] rfl rfl rfl rfl ?_
                refine Qx htb (by kernel_rfl) rfl rfl (Qw rfl rfl rfl (cgb hg14) rfl) ?_
                refine Qx htb (by kernel_rfl) rfl rfl (Qk rfl rfl rfl rfl) ?_
                refine aZ [0, 2, 3, 4, 14, 12, 16, 215] [0, 1, 2, 3] [0, 1] rfl rfl rfl rfl ?_
                obtain ⟨hg15, h⟩ := ZK h
                replace hg15 := not_t hg15
                obtain ⟨y5, hx28, h⟩ := ob_e h
                obtain ⟨reads1, hx29, h⟩ := ob_e h
                refine QW (lo := 23) (hi := 32) htb rfl rfl (by kernel_rfl) (fun c L a w => Sat c ⟨[(0, some vl1), (2, some (vI id)), (3, some (vI atp3)), (4, some (vB wrap)), (14, some (.pointer (some ⟨b1, 0, none⟩))), (12, some (.pointer (some ⟨b2, 0, none⟩))), (16, some v9), (215, some (vB (split4.2 != (4 : Int)))), (216, bif L 23 then some (.pointer (some ⟨b2, 0, none⟩)) else none), (217, bif L 24 then some (.agg #[vB m2.Packed, vI m2.Size, vU64 m2.Desc, vU64 m2.Driver, vU64 m2.Device]) else none), (218, bif L 25 then some (v9) else none), (219, bif L 26 then some (ZW v9 (Int.toNat (0 : Int) * 1)) else none), (220, bif L 27 then some (vI y5) else none), (221, bif L 28 then some (vI reads1) else none), (222, bif L 29 then some (vl1) else none), (223, bif L 30 then some (vI (len l)) else none), (224, bif L 31 then some (vI (wi ((1 : Int) + (len l)))) else none)], [(some (Qm b1 29 [vB m2.Packed, vI m2.Size, vU64 m2.Desc, vU64 m2.Driver, vU64 m2.Device]) : Option Res), (some (Qm b2 113 [v3, v4]) : Option Res), (some (QV u8S true v4 vs1 write3.2 none) : Option Res), (some (rowS iS v9 l1) : Option Res)], [Fact.sl SegS vl1 l, Fact.sl Qz v3 mem1.l]⟩ a w) [([], [28]), ([], [28]), ([], [26, 27, 28]), ([25], [27, 28]), ([25, 26], [28]), ([23, 24, 25, 26, 27], []), ([], [30, 31]), ([29], [31]), ([29, 30], [])] rfl (by kernel_rfl) ?_ (Qb ?_ (Qb ?_ (Qb ?_ (Qb ?_ (Qb ?_ (Qb ?_ (Qb ?_ (Qb ?_ (Qb ?_ (QB)))))))))) ?_
                ·intro a w hs
                 exact hs.startF [216, 217, 218, 219, 220, 221, 222, 223, 224] [0, 1, 2, 3] [0, 1] rfl rfl rfl rfl
                ·intro L a w hs K Q hK
                 exact wYs rfl rfl rfl hs (cgb hg15) (Qk rfl rfl rfl rfl) fun a w hs => hK a w (pF hs 8 [0, 1, 2, 3] [0, 1] rfl)
                ·intro L a w hs K Q hK
                 exact wYs rfl rfl rfl hs (cgb hg15) (Qy (vs := [vB m2.Packed, vI m2.Size, vU64 m2.Desc, vU64 m2.Driver, vU64 m2.Device]) rfl rfl rfl rfl ZX (i := 0) rfl rfl rfl) fun a w hs => hK a w (pF hs 9 [0, 1, 2, 3] [0, 1] rfl)
                ·intro L a w hs K Q hK
                 exact wYs rfl rfl rfl hs (cgb hg15) (Qk rfl rfl rfl rfl) fun a w hs => hK a w (pF hs 10 [0, 1, 2, 3] [0, 1] rfl)
                ·intro L a w hs K Q hK
                 exact wYs rfl rfl rfl hs (cgb hg15) (ZR rfl rfl rfl rfl rfl slF32 (i := 3) rfl hx28) fun a w hs => hK a w (pF hs 11 [0, 1, 2, 3] [0, 1] rfl)
                ·intro L a w hs K Q hK
                 exact wYs rfl rfl rfl hs (cgb hg15) (XW (S := iS) rfl rfl rfl rfl rfl tyF3 (i := 3) rfl hx28 rfl rfl) fun a w hs => hK a w (pF hs 12 [0, 1, 2, 3] [0, 1] rfl)
                ·intro L a w hs K Q hK
                 refine Xg rfl rfl rfl hs (cgb hg15) (QJ [0, 4, 5, 3] (w_walk_Reads hx29) [1, 2] [1] rfl rfl rfl rfl rfl callee14 rfl rfl rfl rfl rfl) ?_
                 rintro _ ⟨_, _, _, ⟨rfl, rfl, rfl⟩, rfl⟩ a' w' hs'
                 exact hK a' w' (hs'.putF (i := 13) rfl [0, 1, 2, 3] [0, 1] rfl rfl rfl rfl)
                ·intro L a w hs K Q hK
                 exact wYs rfl rfl rfl hs (cgb hg15) (Qk rfl rfl rfl rfl) fun a w hs => hK a w (pF hs 14 [0, 1, 2, 3] [0, 1] rfl)
                ·intro L a w hs K Q hK
                 exact wYs rfl rfl rfl hs (cgb hg15) (QT rfl rfl rfl rfl Try.underlying41 (i := 0) rfl) fun a w hs => hK a w (pF hs 15 [0, 1, 2, 3] [0, 1] rfl)
                ·intro L a w hs K Q hK
                 exact wYs rfl rfl rfl hs (cgb hg15) (Qf rfl rfl rfl rfl rfl (QG (a := (1 : Int)) (b := len l))) fun a w hs => hK a w (pF hs 16 [0, 1, 2, 3] [0, 1] rfl)
                ·intro L a w hL hv
                 rw [QM hL] at hv
                 have hs := hv
                 refine gZ hs [0, 2, 3, 4, 14, 215, 221, 224] [0] [0] rfl rfl rfl rfl ?_
                 clear hs hL
                 refine Xx htb (by kernel_rfl) rfl rfl rfl (cgb hg15) (Qf rfl rfl rfl rfl rfl (QL (a := reads1) (b := wi ((1 : Int) + (len l))))) ?_
                 rintro _ rfl
                 refine Qx htb (by kernel_rfl) rfl rfl (Qw rfl rfl rfl (cgb hg15) rfl) ?_
                 refine Zh rfl ?_
                 refine tZ [0, 2, 3, 4, 14, 226] [0] [0] rfl rfl rfl rfl ?_
                 obtain ⟨hg16, h⟩ := ZK h
                 replace hg16 := not_t hg16
                 refine Qp (cgb hg16) ?_
                 refine Qt (Qe (Qc (Tops_nilfact Xk ?_)))
                 obtain ⟨laid2, hx30, h⟩ := ob_e h
                 refine Qs rfl (Qv (w_law10zlaid hx30) [] [1] rfl rfl rfl rfl rfl callee10 rfl rfl rfl rfl) ?_
                 rintro _ ⟨_, _, _, ⟨v17, v18, rfl, rfl, rfl⟩, rfl⟩
                 refine sMv rfl rfl rfl ?_
                 refine Qa rfl (Qq rfl rfl rfl rfl rfl) ?_
                 refine Qa rfl (Qq rfl rfl rfl rfl rfl) ?_
                 refine Qa rfl (Qq rfl rfl rfl rfl rfl) ?_
                 refine Qa rfl (Qq rfl rfl rfl rfl rfl) ?_
                 refine sAs rfl rfl rfl ?_
                 refine Qa rfl (Qo (cs' := [vB laid2.2.2.1.Packed, vI laid2.2.2.1.Size, vU64 laid2.2.2.1.Desc, vU64 laid2.2.2.1.Driver, vU64 laid2.2.2.1.Device]) rfl rfl rfl rfl ZX (i := 0) rfl rfl rfl (QF rfl) rfl) ?_
                 refine sAs rfl rfl rfl ?_
                 refine Qd (tZ [0, 2, 3, 4, 14, 12, 15] [0, 1] [0] rfl rfl rfl rfl ?_)
                 rcases onO_cases h with ⟨ho2, h⟩ | ⟨mem2, ho2, h⟩
                 ·cases h
                 ·refine Tk_optS (i := 1) rfl ho2 ?_
                  rintro b4 v19 v20 vs2 rfl
                  refine Qe (Qc (sMv rfl rfl rfl ?_))
                  obtain ⟨pick2, hx31, h⟩ := ob_e h
                  refine Qs rfl (Qv (w_kit_Pick hx31) [] [] rfl rfl rfl rfl rfl callee9 rfl rfl rfl rfl) ?_
                  rintro _ ⟨_, _, _, ⟨rfl, rfl, rfl⟩, rfl⟩
                  refine sMv rfl rfl rfl ?_
                  refine Qa rfl (QE (v := .agg #[vI pick2, vB wrap]) rfl rfl rfl rfl (bldV (by kernel_rfl))) ?_
                  refine Qu rfl (QD rfl rfl rfl tyZ60) fun b5 => ?_
                  refine Qa rfl (Qo (cs' := [vI pick2, vB wrap]) rfl rfl rfl rfl YK (i := 3) rfl rfl rfl (QF rfl) rfl) ?_
                  refine Qd (tZ [0, 2, 14, 12, 15, 31] [0, 1, 2, 3] [0, 1] rfl rfl rfl rfl ?_)
                  refine Qe (Qc (sMv rfl rfl rfl ?_))
                  obtain ⟨pick3, hx32, h⟩ := ob_e h
                  refine Qs rfl (Qv (w_kit_Pick hx32) [] [] rfl rfl rfl rfl rfl callee9 rfl rfl rfl rfl) ?_
                  rintro _ ⟨_, _, _, ⟨rfl, rfl, rfl⟩, rfl⟩
                  refine sAs rfl rfl rfl ?_
                  refine Qd (tZ [0, 2, 14, 12, 15, 31] [0, 1, 2, 3] [0, 1] rfl rfl rfl rfl ?_)
                  refine Qe (Qc (Qa rfl (Qy (vs := [vI pick2, vB wrap]) rfl rfl rfl rfl YK (i := 3) rfl rfl rfl) ?_))
                  refine sMv rfl rfl rfl ?_
                  refine sMv rfl rfl rfl ?_
                  obtain ⟨packed1, hx33, h⟩ := ob_e h
                  refine Qs rfl (Qv (w_build_Packed hx33) [] [0] rfl rfl rfl rfl rfl callee31 rfl rfl rfl rfl) ?_
                  rintro _ ⟨_, _, _, ⟨v21, rfl, rfl, rfl⟩, rfl⟩
                  refine sMv rfl rfl rfl ?_
                  refine Qa rfl (Qq rfl rfl rfl rfl rfl) ?_
                  refine Qa rfl (Qq rfl rfl rfl rfl rfl) ?_
                  refine sAs rfl rfl rfl ?_
                  refine sAs rfl rfl rfl ?_
                  refine Qd (tZ [0, 2, 14, 12, 15, 31, 32, 33] [0, 1, 2, 3, 4] [0, 1] rfl rfl rfl rfl ?_)
                  refine Qe (Qe (Qc (sMv rfl rfl rfl ?_)))
                  refine Qa rfl (XO rfl rfl rfl rfl) ?_
                  refine sMv rfl rfl rfl ?_
                  obtain ⟨hg17, h⟩ := ZK h
                  replace hg17 := not_t hg17
                  refine Qh rfl rfl (cgb hg17) (Qk rfl rfl rfl rfl) ?_
                  rintro _ rfl
                  refine Qh rfl rfl (cgb hg17) (Qf rfl rfl rfl rfl rfl (QL (a := packed1.2) (b := (0 : Int)))) ?_
                  rintro _ rfl
                  refine Qa rfl (Qw rfl rfl rfl (cgb hg17) rfl) ?_
                  refine Qd (tZ [0, 2, 14, 12, 31, 32, 251] [0, 1, 2, 3, 4] [0, 1] rfl rfl rfl rfl ?_)
                  obtain ⟨hg18, h⟩ := ZK h
                  replace hg18 := not_t hg18
                  refine Qp (cgb hg18) ?_
                  refine Qt (Qe (Qe (Qc (sAs rfl rfl rfl ?_))))
                  refine Qd (tZ [0, 2, 14, 12, 31, 32, 34] [0, 1, 2, 3, 4] [0, 1] rfl rfl rfl rfl ?_)
                  refine QC (Zf (σ := Rings × (List (List UInt8)) × Pos × (List PutPacked) × Int × Value) [0, 2, 14, 12, 31, 32, 34] [0, 1, 2, 3, 4] [0, 1] (fun s => ⟨[(0, some vl1), (2, some (vI pick3)), (14, some (.pointer (some ⟨b1, 0, none⟩))), (12, some (.pointer (some ⟨b4, 0, none⟩))), (31, some (.pointer (some ⟨b5, 0, none⟩))), (32, some (s.2.2.2.2.2)), (34, some (vI s.2.2.2.2.1))], [some (Qm b1 29 [vB s.1.Packed, vI s.1.Size, vU64 s.1.Desc, vU64 s.1.Driver, vU64 s.1.Device]), some (Qm b4 113 [v19, v20]), some (QV u8S true v20 vs2 s.2.1 none), some (Qm b5 60 [vI s.2.2.1.At, vB s.2.2.1.Wrap]), some (rowS QS s.2.2.2.2.2 s.2.2.2.1)], [Fact.sl SegS vl1 l, Fact.sl Qz v19 mem2.l]⟩) (fun nf4 s => ZT l mem2 pick3 nf4 s.1 s.2.1 s.2.2.1 s.2.2.2.1 s.2.2.2.2.1 = some true) fuel (laid2.2.2.1, mem2.b, (Pos.mk pick2 wrap), packed1.1, (0 : Int), v21) h rfl rfl rfl rfl rfl (fun s h => by cases h) ?_)
                  rintro nf4 ⟨m3, rows2, m4, l3, i4, v22⟩ h
                  replace h : XI l mem2 pick3 (ZT l mem2 pick3 nf4) m3 rows2 m4 l3 i4 = some true := h
                  unfold XI at h
                  refine Qe (Qe (Qc (sMv rfl rfl rfl ?_)))
                  refine sMv rfl rfl rfl ?_
                  refine Qa rfl (OpT_lenO rfl rfl rfl rfl Try.underlying83 (i := 4) rfl) ?_
                  refine Qa rfl (Qf rfl rfl rfl rfl rfl (QI (a := i4) (b := len l3))) ?_
                  refine Qd (tZ [0, 2, 14, 12, 31, 32, 34, 255] [0, 1, 2, 3, 4] [0, 1] rfl rfl rfl rfl ?_)
                  rcases bC (decide (i4 < (len l3))) with hg19 | hg19
                  ·replace h := br_t hg19 h
                   refine Ql (cgb hg19) ?_
                   refine Qt (Qe (QC (QU (by kernel_rfl) ?_)))
                   refine Xn [0, 0, 2, 0, 0, 24, 56, 120, 248, 504, 1022, 0, 0, 6144, 14336, 30720, 63488, 131071] (by kernel_rfl) fun htb => ?_
                   refine aZ [0, 2, 14, 12, 31, 32, 34] [0, 1, 2, 3, 4] [0, 1] rfl rfl rfl rfl ?_
                   obtain ⟨p11, hx34, h⟩ := ob_e h
                   obtain ⟨p12, hx35, h⟩ := ob_e h
                   obtain ⟨packed2, hx36, h⟩ := ob_e h
                   refine QW (lo := 0) (hi := 17) htb rfl rfl (by kernel_rfl) (fun c L a w => ∃ (v23 : Value), Sat c ⟨[(0, some vl1), (2, some (vI pick3)), (14, some (.pointer (some ⟨b1, 0, none⟩))), (12, some (.pointer (some ⟨b4, 0, none⟩))), (31, some (.pointer (some ⟨b5, 0, none⟩))), (32, some v22), (34, some (vI i4)), (258, bif L 0 then some (.pointer (some ⟨b4, 0, none⟩)) else none), (259, bif L 1 then some (.pointer (some ⟨b1, 2, none⟩)) else none), (260, bif L 2 then some (vU64 m3.Desc) else none), (261, bif L 3 then some (v22) else none), (262, bif L 4 then some (vI i4) else none), (263, bif L 5 then some (ZW v22 (Int.toNat i4 * 5)) else none), (264, bif L 6 then some (ZW v22 (Int.toNat i4 * 5 + 0)) else none), (265, bif L 7 then some (vI p11.At) else none), (266, bif L 8 then some (vU64 (u64 p11.At)) else none), (267, bif L 9 then some (vU64 ((16 : UInt64) * (u64 p11.At))) else none), (268, bif L 10 then some (vU64 (m3.Desc + ((16 : UInt64) * (u64 p11.At)))) else none), (269, bif L 11 then some (v22) else none), (270, bif L 12 then some (vI i4) else none), (271, bif L 13 then some (ZW v22 (Int.toNat i4 * 5)) else none), (272, bif L 14 then some (ZW v22 (Int.toNat i4 * 5 + 1)) else none), (273, bif L 15 then some (.agg #[vU64 p12.Desc.Addr, vU32 p12.Desc.Len, vU16 p12.Desc.ID, vU16 p12.Desc.Flags]) else none), (274, bif L 16 then some (v23) else none)], [(some (Qm b1 29 [vB m3.Packed, vI m3.Size, vU64 m3.Desc, vU64 m3.Driver, vU64 m3.Device]) : Option Res), (some (Qm b4 113 [v19, v20]) : Option Res), (some (QV u8S true v20 vs2 rows2 none) : Option Res), (some (Qm b5 60 [vI m4.At, vB m4.Wrap]) : Option Res), (some (rowS QS v22 l3) : Option Res)], [Fact.sl SegS vl1 l, Fact.sl Qz v19 mem2.l, (bif L 16 then Fact.sl u8S v23 packed2 else Fact.tt)]⟩ a w) [([], []), ([], [2, 10]), ([1], [10]), ([], [5, 6, 7, 8, 9, 10]), ([], [5, 6, 7, 8, 9, 10]), ([3, 4], [6, 7, 8, 9, 10]), ([3, 4, 5], [7, 8, 9, 10]), ([3, 4, 5, 6], [8, 9, 10]), ([3, 4, 5, 6, 7], [9, 10]), ([3, 4, 5, 6, 7, 8], [10]), ([1, 2, 3, 4, 5, 6, 7, 8, 9], []), ([], [13, 14, 15, 16]), ([], [13, 14, 15, 16]), ([11, 12], [14, 15, 16]), ([11, 12, 13], [15, 16]), ([11, 12, 13, 14], [16]), ([11, 12, 13, 14, 15], [])] rfl (by kernel_rfl) ?_ (Qb ?_ (Qb ?_ (Qb ?_ (Qb ?_ (Qb ?_ (Qb ?_ (Qb ?_ (Qb ?_ (Qb ?_ (Qb ?_ (Qb ?_ (Qb ?_ (Qb ?_ (Qb ?_ (Qb ?_ (Qb ?_ (Qb ?_ (QB)))))))))))))))))) ?_
                   ·intro a w hs
                    exact ⟨undef, hs.startF [258, 259, 260, 261, 262, 263, 264, 265, 266, 267, 268, 269, 270, 271, 272, 273, 274] [0, 1, 2, 3, 4] [0, 1, 2] rfl rfl rfl rfl⟩
                   ·intro L a w hv K Q hK
                    obtain ⟨v23, hs⟩ := hv
                    exact wGo rfl rfl hs (Qk rfl rfl rfl rfl) fun a w hs => hK a w ⟨v23, pF hs 7 [0, 1, 2, 3, 4] [0, 1, 2] rfl⟩
                   ·intro L a w hv K Q hK
                    obtain ⟨v23, hs⟩ := hv
                    exact wGo rfl rfl hs (Qi rfl rfl rfl rfl KC) fun a w hs => hK a w ⟨v23, pF hs 8 [0, 1, 2, 3, 4] [0, 1, 2] rfl⟩
                   ·intro L a w hv K Q hK
                    obtain ⟨v23, hs⟩ := hv
                    exact wGo rfl rfl hs (Qj rfl rfl rfl rfl QZ (i := 0) rfl rfl) fun a w hs => hK a w ⟨v23, pF hs 9 [0, 1, 2, 3, 4] [0, 1, 2] rfl⟩
                   ·intro L a w hv K Q hK
                    obtain ⟨v23, hs⟩ := hv
                    exact wGo rfl rfl hs (Qk rfl rfl rfl rfl) fun a w hs => hK a w ⟨v23, pF hs 10 [0, 1, 2, 3, 4] [0, 1, 2] rfl⟩
                   ·intro L a w hv K Q hK
                    obtain ⟨v23, hs⟩ := hv
                    exact wGo rfl rfl hs (Qk rfl rfl rfl rfl) fun a w hs => hK a w ⟨v23, pF hs 11 [0, 1, 2, 3, 4] [0, 1, 2] rfl⟩
                   ·intro L a w hv K Q hK
                    obtain ⟨v23, hs⟩ := hv
                    exact wGo rfl rfl hs (ZR rfl rfl rfl rfl rfl slF83 (i := 4) rfl hx34) fun a w hs => hK a w ⟨v23, pF hs 12 [0, 1, 2, 3, 4] [0, 1, 2] rfl⟩
                   ·intro L a w hv K Q hK
                    obtain ⟨v23, hs⟩ := hv
                    exact wGo rfl rfl hs (OpT_fieldR (S := QS) rfl rfl rfl rfl fldF89x0 (i := 4) rfl hx34) fun a w hs => hK a w ⟨v23, pF hs 13 [0, 1, 2, 3, 4] [0, 1, 2] rfl⟩
                   ·intro L a w hv K Q hK
                    obtain ⟨v23, hs⟩ := hv
                    exact wGo rfl rfl hs (OpT_loadOF (S := QS) rfl rfl rfl rfl rfl tyF3 (i := 4) rfl hx34 rfl rfl) fun a w hs => hK a w ⟨v23, pF hs 14 [0, 1, 2, 3, 4] [0, 1, 2] rfl⟩
                   ·intro L a w hv K Q hK
                    obtain ⟨v23, hs⟩ := hv
                    exact wGo rfl rfl hs (QX rfl rfl rfl rfl (Xw (n := p11.At) Try.underlying3 Try.underlying27)) fun a w hs => hK a w ⟨v23, pF hs 15 [0, 1, 2, 3, 4] [0, 1, 2] rfl⟩
                   ·intro L a w hv K Q hK
                    obtain ⟨v23, hs⟩ := hv
                    exact wGo rfl rfl hs (Qf rfl rfl rfl rfl rfl (ZQ (a := (16 : UInt64)) (b := u64 p11.At))) fun a w hs => hK a w ⟨v23, pF hs 16 [0, 1, 2, 3, 4] [0, 1, 2] rfl⟩
                   ·intro L a w hv K Q hK
                    obtain ⟨v23, hs⟩ := hv
                    exact wGo rfl rfl hs (Qf rfl rfl rfl rfl rfl (Za (a := m3.Desc) (b := (16 : UInt64) * (u64 p11.At)))) fun a w hs => hK a w ⟨v23, pF hs 17 [0, 1, 2, 3, 4] [0, 1, 2] rfl⟩
                   ·intro L a w hv K Q hK
                    obtain ⟨v23, hs⟩ := hv
                    exact wGo rfl rfl hs (Qk rfl rfl rfl rfl) fun a w hs => hK a w ⟨v23, pF hs 18 [0, 1, 2, 3, 4] [0, 1, 2] rfl⟩
                   ·intro L a w hv K Q hK
                    obtain ⟨v23, hs⟩ := hv
                    exact wGo rfl rfl hs (Qk rfl rfl rfl rfl) fun a w hs => hK a w ⟨v23, pF hs 19 [0, 1, 2, 3, 4] [0, 1, 2] rfl⟩
                   ·intro L a w hv K Q hK
                    obtain ⟨v23, hs⟩ := hv
                    exact wGo rfl rfl hs (ZR rfl rfl rfl rfl rfl slF83 (i := 4) rfl hx35) fun a w hs => hK a w ⟨v23, pF hs 20 [0, 1, 2, 3, 4] [0, 1, 2] rfl⟩
                   ·intro L a w hv K Q hK
                    obtain ⟨v23, hs⟩ := hv
                    exact wGo rfl rfl hs (OpT_fieldR (S := QS) rfl rfl rfl rfl fldF89x1 (i := 4) rfl hx35) fun a w hs => hK a w ⟨v23, pF hs 21 [0, 1, 2, 3, 4] [0, 1, 2] rfl⟩
                   ·intro L a w hv K Q hK
                    obtain ⟨v23, hs⟩ := hv
                    exact wGo rfl rfl hs (OpT_loadOFA (S := QS) (vs := [vU64 p12.Desc.Addr, vU32 p12.Desc.Len, vU16 p12.Desc.ID, vU16 p12.Desc.Flags]) rfl rfl rfl rfl rfl tyF87 (i := 4) rfl hx35 rfl rfl) fun a w hs => hK a w ⟨v23, pF hs 22 [0, 1, 2, 3, 4] [0, 1, 2] rfl⟩
                   ·intro L a w hv K Q hK
                    obtain ⟨v23, hs⟩ := hv
                    refine QO rfl rfl hs (Qv (ws_ref_PackedBytes03 hx36) [] [] rfl rfl rfl rfl rfl callee32 rfl rfl rfl rfl) ?_
                    rintro _ ⟨v23', _, _, ⟨_, rfl, rfl, rfl⟩, rfl⟩ a' w' hs'
                    exact hK a' w' ⟨v23', hs'.putF (i := 23) rfl [0, 1, 2, 3, 4] [0, 1, 3] rfl rfl rfl rfl⟩
                   ·intro L a w hL hv
                    rw [QM hL] at hv
                    obtain ⟨v23, hs⟩ := hv
                    refine gZ hs [0, 2, 14, 12, 31, 32, 34, 258, 268, 274] [0, 1, 2, 3, 4] [0, 1, 2] rfl rfl rfl rfl ?_
                    clear hs hL
                    obtain ⟨write4, hx37, h⟩ := ob_e h
                    refine Ka htb (by kernel_rfl) rfl rfl (QJ [0, 5, 6, 3, 4] (ZL hx37) [1, 2] [1, 2] rfl rfl rfl rfl rfl callee11 rfl rfl rfl rfl rfl) ?_
                    rintro _ ⟨_, _, _, ⟨rfl, rfl, rfl⟩, rfl⟩
                    refine Zh rfl ?_
                    refine tZ [0, 2, 14, 12, 31, 32, 34] [0, 1, 2, 3, 4] [0, 1] rfl rfl rfl rfl ?_
                    refine Zx (Qc (sMv rfl rfl rfl ?_))
                    refine Qa rfl (Qf rfl rfl rfl rfl rfl (QG (a := i4) (b := (1 : Int)))) ?_
                    refine sAs rfl rfl rfl ?_
                    refine Qd (tZ [0, 2, 14, 12, 31, 32, 34] [0, 1, 2, 3, 4] [0, 1] rfl rfl rfl rfl ?_)
                    exact QY (m3, write4.2, m4, l3, wi (i4 + (1 : Int)), v22) h [0, 2, 14, 12, 31, 32, 34] [0, 1, 2, 3, 4] [0, 1] rfl rfl rfl rfl rfl
                  ·replace h := br_f hg19 h
                   refine Qp (cgb hg19) ?_
                   refine Zv _ rfl ?_
                   refine Qe (Qc (sMv rfl rfl rfl ?_))
                   refine Qa rfl (Qy (vs := [vB m3.Packed, vI m3.Size, vU64 m3.Desc, vU64 m3.Driver, vU64 m3.Device]) rfl rfl rfl rfl ZX (i := 0) rfl rfl rfl) ?_
                   refine Qa rfl (Qy (vs := [vI m4.At, vB m4.Wrap]) rfl rfl rfl rfl YK (i := 3) rfl rfl rfl) ?_
                   obtain ⟨packed3, hx38, h⟩ := ob_e h
                   refine Qs rfl (QJ [0, 5, 6, 3, 4] (w_walk_Packed hx38) [1, 2] [1] rfl rfl rfl rfl rfl callee17 rfl rfl rfl rfl rfl) ?_
                   rintro _ ⟨_, _, _, ⟨v24, rfl, rfl, rfl⟩, rfl⟩
                   refine sMv rfl rfl rfl ?_
                   refine Qa rfl (Qq rfl rfl rfl rfl rfl) ?_
                   refine Qa rfl (Qq rfl rfl rfl rfl rfl) ?_
                   refine Qu rfl (QD rfl rfl rfl tyZ56) fun b6 => ?_
                   refine Qa rfl (XN (fun z0 => [vI packed3.1.ID, vI packed3.1.Count, z0]) (cs' := [vI packed3.1.ID, vI packed3.1.Count, v24]) rfl rfl rfl rfl YL (i := 5) rfl (is_sl (i := 2) rfl) (fun _ _ _ => rfl) rfl rfl rfl) ?_
                   refine sAs rfl rfl rfl ?_
                   refine Qd (tZ [0, 2, 14, 12, 31, 35, 22] [0, 1, 2, 3, 5] [0, 1, 2] rfl rfl rfl rfl ?_)
                   refine Qe (Qc (sMv rfl rfl rfl ?_))
                   obtain ⟨packed4, hx39, h⟩ := ob_e h
                   refine Qs rfl (Qv (w_build_PackedTable hx39) [] [0] rfl rfl rfl rfl rfl callee33 rfl rfl rfl rfl) ?_
                   rintro _ ⟨_, _, _, ⟨v25, rfl, rfl, rfl⟩, rfl⟩
                   refine sMv rfl rfl rfl ?_
                   refine Qa rfl (Qq rfl rfl rfl rfl rfl) ?_
                   refine Qa rfl (Qq rfl rfl rfl rfl rfl) ?_
                   refine sAs rfl rfl rfl ?_
                   refine Qd (tZ [0, 2, 14, 12, 31, 35, 22, 23] [0, 1, 2, 3, 4, 5] [0, 1, 2] rfl rfl rfl rfl ?_)
                   refine Qe (Qc (Qa rfl (Qy (vs := [vI m4.At, vB m4.Wrap]) rfl rfl rfl rfl YK (i := 3) rfl rfl rfl) ?_))
                   refine sMv rfl rfl rfl ?_
                   refine sMv rfl rfl rfl ?_
                   refine Qa rfl (QT rfl rfl rfl rfl Try.underlying41 (i := 0) rfl) ?_
                   obtain ⟨packed5, hx40, h⟩ := ob_e h
                   refine Qs rfl (Qv (w_build_PackedOne hx40) [] [] rfl rfl rfl rfl rfl callee34 rfl rfl rfl rfl) ?_
                   rintro _ ⟨_, _, _, ⟨rfl, rfl, rfl⟩, rfl⟩
                   refine sMv rfl rfl rfl ?_
                   refine Qa rfl (Qq rfl rfl rfl rfl rfl) ?_
                   refine Qa rfl (Qq rfl rfl rfl rfl rfl) ?_
                   refine Qu rfl (QD rfl rfl rfl tyZ89) fun b7 => ?_
                   refine Qa rfl (Qo (cs' := [vI packed5.1.At, vU64 packed5.1.Desc.Addr, vU32 packed5.1.Desc.Len, vU16 packed5.1.Desc.ID, vU16 packed5.1.Desc.Flags]) rfl rfl rfl rfl tyF89 (i := 6) rfl rfl rfl (QF rfl) rfl) ?_
                   refine sAs rfl rfl rfl ?_
                   refine Qd (tZ [0, 2, 14, 12, 31, 35, 22, 23, 36] [0, 1, 2, 3, 4, 5, 6] [0, 1, 2] rfl rfl rfl rfl ?_)
                   refine Qe (Qc (sMv rfl rfl rfl ?_))
                   refine sMv rfl rfl rfl ?_
                   obtain ⟨write5, hx41, h⟩ := ob_e h
                   refine Qs rfl (Zu [5] [0, 7, 8, 3, 4, 5, 6] (ZL hx41) [1, 2] rfl rfl rfl rfl rfl callee11 rfl rfl rfl rfl rfl rfl (Zl (bor_shr 1 rfl) (Zl (Xa 5 rfl rfl) ZZ)) (by rintro _ _ _ ⟨rfl, rfl, rfl⟩; exact ⟨rfl, (YU (ri_cells _ _ _) (YU (ri_rows rfl _ _ _ _ _) XS))⟩)) ?_
                   rintro _ ⟨_, _, _, ⟨rfl, rfl, rfl⟩, rfl⟩
                   refine Qd (tZ [0, 2, 14, 12, 31, 35, 22, 36] [0, 1, 2, 3, 4, 6] [0, 1, 2] rfl rfl rfl rfl ?_)
                   refine Qe (QU (by kernel_rfl) ?_)
                   refine Xn [0, 0, 2, 0, 8, 24, 56, 126, 0, 256, 768, 2047] (by kernel_rfl) fun htb => ?_
                   obtain ⟨packed6, hx42, h⟩ := ob_e h
                   refine QW (lo := 0) (hi := 11) htb rfl rfl (by kernel_rfl) (fun c L a w => ∃ (v26 : Value), Sat c ⟨[(0, some vl1), (2, some (vI pick3)), (14, some (.pointer (some ⟨b1, 0, none⟩))), (12, some (.pointer (some ⟨b4, 0, none⟩))), (31, some (.pointer (some ⟨b5, 0, none⟩))), (35, some (.pointer (some ⟨b6, 0, none⟩))), (22, some (vI packed3.2)), (36, some (.pointer (some ⟨b7, 0, none⟩))), (299, bif L 0 then some (.pointer (some ⟨b4, 0, none⟩)) else none), (300, bif L 1 then some (.pointer (some ⟨b1, 2, none⟩)) else none), (301, bif L 2 then some (vU64 m3.Desc) else none), (302, bif L 3 then some (.pointer (some ⟨b7, 0, none⟩)) else none), (303, bif L 4 then some (vI packed5.1.At) else none), (304, bif L 5 then some (vU64 (u64 packed5.1.At)) else none), (305, bif L 6 then some (vU64 ((16 : UInt64) * (u64 packed5.1.At))) else none), (306, bif L 7 then some (vU64 (m3.Desc + ((16 : UInt64) * (u64 packed5.1.At)))) else none), (307, bif L 8 then some (.pointer (some ⟨b7, 1, none⟩)) else none), (308, bif L 9 then some (.agg #[vU64 packed5.1.Desc.Addr, vU32 packed5.1.Desc.Len, vU16 packed5.1.Desc.ID, vU16 packed5.1.Desc.Flags]) else none), (309, bif L 10 then some (v26) else none)], [(some (Qm b1 29 [vB m3.Packed, vI m3.Size, vU64 m3.Desc, vU64 m3.Driver, vU64 m3.Device]) : Option Res), (some (Qm b4 113 [v19, v20]) : Option Res), (some (QV u8S true v20 vs2 write5.2 none) : Option Res), (some (Qm b5 60 [vI m4.At, vB m4.Wrap]) : Option Res), (some (Qm b6 56 [vI packed3.1.ID, vI packed3.1.Count, v24]) : Option Res), (some (Qm b7 89 [vI packed5.1.At, vU64 packed5.1.Desc.Addr, vU32 packed5.1.Desc.Len, vU16 packed5.1.Desc.ID, vU16 packed5.1.Desc.Flags]) : Option Res)], [Fact.sl SegS vl1 l, Fact.sl Qz v19 mem2.l, Fact.sl SegS v24 packed3.1.Segs, (bif L 10 then Fact.sl u8S v26 packed6 else Fact.tt)]⟩ a w) [([], []), ([], [2, 7]), ([1], [7]), ([], [4, 5, 6, 7]), ([3], [5, 6, 7]), ([3, 4], [6, 7]), ([3, 4, 5], [7]), ([1, 2, 3, 4, 5, 6], []), ([], [9, 10]), ([8], [10]), ([8, 9], [])] rfl (by kernel_rfl) ?_ (Qb ?_ (Qb ?_ (Qb ?_ (Qb ?_ (Qb ?_ (Qb ?_ (Qb ?_ (Qb ?_ (Qb ?_ (Qb ?_ (Qb ?_ (QB)))))))))))) ?_
                   ·intro a w hs
                    exact ⟨undef, hs.startF [299, 300, 301, 302, 303, 304, 305, 306, 307, 308, 309] [0, 1, 2, 3, 4, 5] [0, 1, 2, 3] rfl rfl rfl rfl⟩
                   ·intro L a w hv K Q hK
                    obtain ⟨v26, hs⟩ := hv
                    exact wGo rfl rfl hs (Qk rfl rfl rfl rfl) fun a w hs => hK a w ⟨v26, pF hs 8 [0, 1, 2, 3, 4, 5] [0, 1, 2, 3] rfl⟩
                   ·intro L a w hv K Q hK
                    obtain ⟨v26, hs⟩ := hv
                    exact wGo rfl rfl hs (Qi rfl rfl rfl rfl KC) fun a w hs => hK a w ⟨v26, pF hs 9 [0, 1, 2, 3, 4, 5] [0, 1, 2, 3] rfl⟩
                   ·intro L a w hv K Q hK
                    obtain ⟨v26, hs⟩ := hv
                    exact wGo rfl rfl hs (Qj rfl rfl rfl rfl QZ (i := 0) rfl rfl) fun a w hs => hK a w ⟨v26, pF hs 10 [0, 1, 2, 3, 4, 5] [0, 1, 2, 3] rfl⟩
                   ·intro L a w hv K Q hK
                    obtain ⟨v26, hs⟩ := hv
                    exact wGo rfl rfl hs (Qi rfl rfl rfl rfl fldF89x0) fun a w hs => hK a w ⟨v26, pF hs 11 [0, 1, 2, 3, 4, 5] [0, 1, 2, 3] rfl⟩
                   ·intro L a w hv K Q hK
                    obtain ⟨v26, hs⟩ := hv
                    exact wGo rfl rfl hs (Qj rfl rfl rfl rfl tyF3 (i := 5) rfl rfl) fun a w hs => hK a w ⟨v26, pF hs 12 [0, 1, 2, 3, 4, 5] [0, 1, 2, 3] rfl⟩
                   ·intro L a w hv K Q hK
                    obtain ⟨v26, hs⟩ := hv
                    exact wGo rfl rfl hs (QX rfl rfl rfl rfl (Xw (n := packed5.1.At) Try.underlying3 Try.underlying27)) fun a w hs => hK a w ⟨v26, pF hs 13 [0, 1, 2, 3, 4, 5] [0, 1, 2, 3] rfl⟩
                   ·intro L a w hv K Q hK
                    obtain ⟨v26, hs⟩ := hv
                    exact wGo rfl rfl hs (Qf rfl rfl rfl rfl rfl (ZQ (a := (16 : UInt64)) (b := u64 packed5.1.At))) fun a w hs => hK a w ⟨v26, pF hs 14 [0, 1, 2, 3, 4, 5] [0, 1, 2, 3] rfl⟩
                   ·intro L a w hv K Q hK
                    obtain ⟨v26, hs⟩ := hv
                    exact wGo rfl rfl hs (Qf rfl rfl rfl rfl rfl (Za (a := m3.Desc) (b := (16 : UInt64) * (u64 packed5.1.At)))) fun a w hs => hK a w ⟨v26, pF hs 15 [0, 1, 2, 3, 4, 5] [0, 1, 2, 3] rfl⟩
                   ·intro L a w hv K Q hK
                    obtain ⟨v26, hs⟩ := hv
                    exact wGo rfl rfl hs (Qi rfl rfl rfl rfl fldF89x1) fun a w hs => hK a w ⟨v26, pF hs 16 [0, 1, 2, 3, 4, 5] [0, 1, 2, 3] rfl⟩
                   ·intro L a w hv K Q hK
                    obtain ⟨v26, hs⟩ := hv
                    exact wGo rfl rfl hs (Qy (vs := [vU64 packed5.1.Desc.Addr, vU32 packed5.1.Desc.Len, vU16 packed5.1.Desc.ID, vU16 packed5.1.Desc.Flags]) rfl rfl rfl rfl tyF87 (i := 5) rfl rfl rfl) fun a w hs => hK a w ⟨v26, pF hs 17 [0, 1, 2, 3, 4, 5] [0, 1, 2, 3] rfl⟩
                   ·intro L a w hv K Q hK
                    obtain ⟨v26, hs⟩ := hv
                    refine QO rfl rfl hs (Qv (ws_ref_PackedBytes03 hx42) [] [] rfl rfl rfl rfl rfl callee32 rfl rfl rfl rfl) ?_
                    rintro _ ⟨v26', _, _, ⟨_, rfl, rfl, rfl⟩, rfl⟩ a' w' hs'
                    exact hK a' w' ⟨v26', hs'.putF (i := 18) rfl [0, 1, 2, 3, 4, 5] [0, 1, 2, 4] rfl rfl rfl rfl⟩
                   ·intro L a w hL hv
                    rw [QM hL] at hv
                    obtain ⟨v26, hs⟩ := hv
                    refine gZ hs [0, 2, 14, 12, 31, 35, 22, 299, 306, 309] [0, 1, 2, 3, 4] [0, 1, 2, 3] rfl rfl rfl rfl ?_
                    clear hs hL
                    obtain ⟨write6, hx43, h⟩ := ob_e h
                    refine Ka htb (by kernel_rfl) rfl rfl (QJ [0, 5, 6, 3, 4] (ZL hx43) [1, 2] [1, 3] rfl rfl rfl rfl rfl callee11 rfl rfl rfl rfl rfl) ?_
                    rintro _ ⟨_, _, _, ⟨rfl, rfl, rfl⟩, rfl⟩
                    refine Zh rfl ?_
                    refine tZ [0, 2, 14, 12, 31, 35, 22] [0, 1, 2, 3, 4] [0, 1, 2] rfl rfl rfl rfl ?_
                    refine Qe (Qc (sMv rfl rfl rfl ?_))
                    refine Qa rfl (Qy (vs := [vB m3.Packed, vI m3.Size, vU64 m3.Desc, vU64 m3.Driver, vU64 m3.Device]) rfl rfl rfl rfl ZX (i := 0) rfl rfl rfl) ?_
                    refine Qa rfl (Qy (vs := [vI m4.At, vB m4.Wrap]) rfl rfl rfl rfl YK (i := 3) rfl rfl rfl) ?_
                    obtain ⟨packed7, hx44, h⟩ := ob_e h
                    refine Qs rfl (QJ [0, 5, 6, 3, 4] (w_walk_Packed hx44) [1, 2] [1] rfl rfl rfl rfl rfl callee17 rfl rfl rfl rfl rfl) ?_
                    rintro _ ⟨_, _, _, ⟨v27, rfl, rfl, rfl⟩, rfl⟩
                    refine sMv rfl rfl rfl ?_
                    refine Qa rfl (Qq rfl rfl rfl rfl rfl) ?_
                    refine Qa rfl (Qq rfl rfl rfl rfl rfl) ?_
                    refine Qu rfl (QD rfl rfl rfl tyZ56) fun b8 => ?_
                    refine Qa rfl (XN (fun z0 => [vI packed7.1.ID, vI packed7.1.Count, z0]) (cs' := [vI packed7.1.ID, vI packed7.1.Count, v27]) rfl rfl rfl rfl YL (i := 5) rfl (is_sl (i := 3) rfl) (fun _ _ _ => rfl) rfl rfl rfl) ?_
                    refine sAs rfl rfl rfl ?_
                    refine Qd (tZ [0, 2, 14, 12, 31, 35, 22, 38, 28] [0, 1, 2, 3, 4, 5] [0, 1, 2, 3] rfl rfl rfl rfl ?_)
                    refine Qe (Qc (sMv rfl rfl rfl ?_))
                    refine Qa rfl (Qy (vs := [vB m3.Packed, vI m3.Size, vU64 m3.Desc, vU64 m3.Driver, vU64 m3.Device]) rfl rfl rfl rfl ZX (i := 0) rfl rfl rfl) ?_
                    refine Qa rfl (Qy (vs := [vI m4.At, vB m4.Wrap]) rfl rfl rfl rfl YK (i := 3) rfl rfl rfl) ?_
                    obtain ⟨packed8, hx45, h⟩ := ob_e h
                    refine Qs rfl (QJ [0, 6, 7, 3, 4, 5] (w_walk_Packed hx45) [1, 2] [1] rfl rfl rfl rfl rfl callee17 rfl rfl rfl rfl rfl) ?_
                    rintro _ ⟨_, _, _, ⟨v28, rfl, rfl, rfl⟩, rfl⟩
                    refine sMv rfl rfl rfl ?_
                    refine Qa rfl (Qq rfl rfl rfl rfl rfl) ?_
                    refine Qa rfl (Qq rfl rfl rfl rfl rfl) ?_
                    refine sAs rfl rfl rfl ?_
                    refine Qd (tZ [0, 2, 35, 22, 38, 28, 30] [4, 5] [0, 2, 3] rfl rfl rfl rfl ?_)
                    refine Qe (Qc (sMv rfl rfl rfl ?_))
                    refine Qa rfl (Qf rfl rfl rfl rfl rfl (ZG (a := packed3.2) (b := (0 : Int)))) ?_
                    refine sMv rfl rfl rfl ?_
                    obtain ⟨hg20, h⟩ := ZK h
                    refine Qh rfl rfl (cgb hg20) (Qk rfl rfl rfl rfl) ?_
                    rintro _ rfl
                    refine Qh rfl rfl (cgb hg20) (Qf rfl rfl rfl rfl rfl (ZG (a := packed7.2) (b := (0 : Int)))) ?_
                    rintro _ rfl
                    refine Qa rfl (Qr rfl rfl rfl (cgb hg20) rfl) ?_
                    refine sMv rfl rfl rfl ?_
                    obtain ⟨hg21, h⟩ := ZK h
                    refine Qh rfl rfl (cgb hg21) (Qk rfl rfl rfl rfl) ?_
                    rintro _ rfl
                    refine Qh rfl rfl (cgb hg21) (Qf rfl rfl rfl rfl rfl (ZG (a := packed8.2) (b := (4 : Int)))) ?_
                    rintro _ rfl
                    refine Qa rfl (Qr rfl rfl rfl (cgb hg21) rfl) ?_
                    refine sMv rfl rfl rfl ?_
                    obtain ⟨hg22, h⟩ := ZK h
                    refine Qh rfl rfl (cgb hg22) (Qy (vs := [vI packed3.1.ID, vI packed3.1.Count, v24]) rfl rfl rfl rfl YL (i := 0) rfl rfl rfl) ?_
                    rintro _ rfl
                    refine Qh rfl rfl (cgb hg22) (Qk rfl rfl rfl rfl) ?_
                    rintro _ rfl
                    refine Qh rfl rfl (cgb hg22) (Qk rfl rfl rfl rfl) ?_
                    rintro _ rfl
                    refine Qh rfl rfl (cgb hg22) (QT rfl rfl rfl rfl Try.underlying41 (i := 0) rfl) ?_
                    rintro _ rfl
                    refine Qh rfl rfl (cgb hg22) (Qk rfl rfl rfl rfl) ?_
                    rintro _ rfl
                    refine Qh rfl rfl (cgb hg22) (OpT_build1 (fun z0 => [(0, vI pick3), (1, vI (len l)), (2, z0)]) (fun z0 => [vI pick3, vI (len l), z0]) rfl rfl rfl rfl (is_sl (i := 0) rfl) (by intros; kernel_rfl)) ?_
                    rintro _ rfl
                    obtain ⟨taken1, hx46, h⟩ := ob_e h
                    refine Qh rfl rfl (cgb hg22) (Qv (w_kit_Taken hx46) [] [1, 0] rfl rfl rfl rfl rfl callee22 rfl rfl rfl rfl) ?_
                    rintro _ ⟨_, _, _, ⟨rfl, rfl, rfl⟩, rfl⟩
                    refine Qa rfl (Qr rfl rfl rfl (cgb hg22) rfl) ?_
                    refine sMv rfl rfl rfl ?_
                    obtain ⟨hg23, h⟩ := ZK h
                    refine Qh rfl rfl (cgb hg23) (Qy (vs := [vI packed7.1.ID, vI packed7.1.Count, v27]) rfl rfl rfl rfl YL (i := 1) rfl rfl rfl) ?_
                    rintro _ rfl
                    refine Qh rfl rfl (cgb hg23) (Qk rfl rfl rfl rfl) ?_
                    rintro _ rfl
                    refine Qh rfl rfl (cgb hg23) (Qk rfl rfl rfl rfl) ?_
                    rintro _ rfl
                    refine Qh rfl rfl (cgb hg23) (OpT_build1 (fun z0 => [(0, vI pick3), (1, vI (1 : Int)), (2, z0)]) (fun z0 => [vI pick3, vI (1 : Int), z0]) rfl rfl rfl rfl (is_sl (i := 0) rfl) (by intros; kernel_rfl)) ?_
                    rintro _ rfl
                    obtain ⟨taken2, hx47, h⟩ := ob_e h
                    refine Qh rfl rfl (cgb hg23) (Qv (w_kit_Taken hx47) [] [2, 0] rfl rfl rfl rfl rfl callee22 rfl rfl rfl rfl) ?_
                    rintro _ ⟨_, _, _, ⟨rfl, rfl, rfl⟩, rfl⟩
                    refine Qa rfl (Qr rfl rfl rfl (cgb hg23) rfl) ?_
                    refine sAs rfl rfl rfl ?_
                    refine Qd (tZ [10] [] [] rfl rfl rfl rfl ?_)
                    obtain ⟨hg24, h⟩ := ZK h
                    exact Qn rfl rfl (resA (vs := [.bool true]) rfl ⟨(cgb hg24), trivial⟩) [] [] rfl rfl rfl ⟨rfl, rfl, rfl⟩
end Go.Proofs.Ytlofegfaphijpaa
