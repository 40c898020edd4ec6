/- The functions do what the plain words say: each is walked once. No statement of the seat is proved here; no condition. -/
import Derived.Test.YtgcbcnpbnonnjaaWa1
namespace Go.Proofs.Ytgcbcnpbnonnjaa
attribute [local irreducible] sub
set_option maxRecDepth 100000 in
set_option maxHeartbeats 4000000 in
theorem w_ref_Check02 {l : List Region} {vl1 : Value} {r : Int} (h : ref_Check02 l = some r) :
  Ctr Try.prog 35 #[vl1] [] [Fact.sl Qf vl1 l]
   (fun rv own shr => rv = vI r ∧ own = [] ∧ shr = []) := by
 unfold ref_Check02 at h
 refine Ctr.mk (args := [vl1]) Try.func35 rfl rfl (fun R0 w0 B => ?_)
 refine Qe (Qb (sAs rfl rfl rfl ?_))
 refine nW [(0, some vl1)] [] [Fact.sl Qf vl1 l] [0] [] [0] rfl ?_
 refine Qe (Qe (Qb (sMv rfl rfl rfl ?_)))
 refine Qa rfl (QB rfl rfl rfl rfl Try.underlying42 (i := 0) rfl) ?_
 refine Qa rfl (Qg rfl rfl rfl rfl rfl (ZD (a := len l) (b := (16 : Int)))) ?_
 refine nW [(0, some vl1), (7, some (vB (decide ((len l) > (16 : Int)))))] [] [Fact.sl Qf vl1 l] [0, 7] [] [0] rfl ?_
 rcases bC (decide ((len l) > (16 : Int))) with hg1 | hg1
 ·replace h := br_t hg1 h
  refine Ql (cgb hg1) ?_
  refine Qe (Qb (sAs rfl rfl rfl ?_))
  refine nW [(2, some (vI (2 : Int)))] [] [] [2] [] [] rfl ?_
  obtain rfl := Option.some.inj h
  exact Qn rfl rfl (resA (vs := [vI (2 : Int)]) rfl ⟨rfl, trivial⟩) [] [] rfl rfl rfl ⟨rfl, rfl, rfl⟩
 ·replace h := br_f hg1 h
  refine Qm (cgb hg1) ?_
  refine Qr (Qe (Qb (sAs rfl rfl rfl ?_)))
  refine nW [(0, some vl1), (3, some (vU64 (0 : UInt64)))] [] [Fact.sl Qf vl1 l] [0, 3] [] [0] rfl ?_
  refine Qe (Qe (Qb (sAs rfl rfl rfl ?_)))
  refine QT (Qz (Zc (σ := UInt64 × Int) [0, 3, 4] [] [0] (fun s => ⟨[(0, some vl1), (3, some (vU64 s.1)), (4, some (vI s.2))], [], [Fact.sl Qf vl1 l]⟩) (fun nf1 s => YA l nf1 s.1 s.2 = some r) fuel ((0 : UInt64), (0 : Int)) h rfl rfl rfl rfl rfl (fun s h => by cases h) ?_))
  rintro nf1 ⟨sum1, i1⟩ h
  replace h : ref_Check02L1B l (YA l nf1) sum1 i1 = some r := h
  unfold ref_Check02L1B at h
  refine Qe (Qe (Qb (sMv rfl rfl rfl ?_)))
  refine sMv rfl rfl rfl ?_
  refine Qa rfl (QB rfl rfl rfl rfl Try.underlying42 (i := 0) rfl) ?_
  refine Qa rfl (Qg rfl rfl rfl rfl rfl (QK (a := i1) (b := len l))) ?_
  refine nW [(0, some vl1), (3, some (vU64 sum1)), (4, some (vI i1)), (11, some (vB (decide (i1 < (len l)))))] [] [Fact.sl Qf vl1 l] [0, 3, 4, 11] [] [0] rfl ?_
  rcases bC (decide (i1 < (len l))) with hg2 | hg2
  ·replace h := br_t hg2 h
   refine Ql (cgb hg2) ?_
   refine Qr (Qe (Qz (Qe (Qe (Zw (by kernel_rfl) ?_)))))
   refine TA_tb [0, 0, 3, 7, 15, 31, 63, 127, 127, 511, 1023, 2047, 4095, 8191, 16383, 32767, 32767, 131071, 262143, 524287, 32767, 32767, 3178495, 7372799, 15761407, 32538623, 67108863, 32767, 32767, 402685951, 939556863, 2013298687, 4294967295, 8589934591] (by kernel_rfl) fun htb => ?_
   refine Xy (fr' := [(0, some vl1), (3, some (vU64 sum1)), (4, some (vI i1))]) (own' := []) (shr' := [Fact.sl Qf vl1 l]) [0, 3, 4] [] [0] rfl rfl rfl rfl ?_
   refine Zs (lo := 0) (hi := 2) htb rfl rfl (by kernel_rfl) (fun c L a w => Sat c ⟨[(0, some vl1), (3, some (vU64 sum1)), (4, some (vI i1)), (14, bif L 0 then some (vl1) else none), (15, bif L 1 then some (vI i1) else none)], [], [Fact.sl Qf vl1 l]⟩ a w) [([], []), ([], [])] rfl (by kernel_rfl) ?_ (Qc ?_ (Qc ?_ (QH))) ?_
   ·intro a w hs
    exact hs.startF [14, 15] [] [0] rfl rfl rfl rfl
   ·intro L a w hs K Q hK
    exact wGo rfl rfl hs (Qk rfl rfl rfl rfl) fun a w hs => hK a w (pF hs 3 [] [0] rfl)
   ·intro L a w hs K Q hK
    exact wGo rfl rfl hs (Qk rfl rfl rfl rfl) fun a w hs => hK a w (pF hs 4 [] [0] rfl)
   ·intro L a w hL hv
    rw [QZ hL] at hv
    have hs := hv
    refine (show TA _ _ _ 2 ⟨[(0, some vl1), (3, some (vU64 sum1)), (4, some (vI i1)), (14, some vl1), (15, some (vI i1))], [], [Fact.sl Qf vl1 l]⟩ from ?_) a w (hs.wkS [0, 3, 4, 14, 15] [] [0] rfl rfl rfl rfl)
    clear hs hL
    obtain ⟨r1, hx1, h⟩ := ob_e h
    refine TA_ex htb (by kernel_rfl) rfl rfl (QA rfl rfl rfl rfl rfl slF42 (i := 0) rfl hx1) fun p1 => ?_
    refine TA_ex htb (by kernel_rfl) rfl rfl (QJ (S' := u64S) (y := r1.Len) rfl rfl rfl rfl XK (i := 1) rfl (by intro h cs hr; subst hr; rfl)) fun p2 => ?_
    refine QL htb (by kernel_rfl) rfl rfl (QC rfl rfl rfl rfl Xc (i := 2) rfl rfl) ?_
    refine QL htb (by kernel_rfl) rfl rfl (Qg rfl rfl rfl rfl rfl (bin_eql_u64 (a := r1.Len) (b := (0 : UInt64)))) ?_
    refine QL htb (by kernel_rfl) rfl rfl (Qk rfl rfl rfl rfl) ?_
    refine Xy (fr' := [(0, some vl1), (3, some (vU64 sum1)), (4, some (vI i1)), (20, some (vB (r1.Len == (0 : UInt64))))]) (own' := []) (shr' := [Fact.sl Qf vl1 l]) [0, 3, 4, 20] [] [0] rfl rfl rfl rfl ?_
    rcases bC (r1.Len == (0 : UInt64)) with hg3 | hg3
    ·replace h := br_t hg3 h
     refine Zs (lo := 7) (hi := 9) htb rfl rfl (by kernel_rfl) (fun c L a w => Sat c ⟨[(0, some vl1), (3, some (vU64 sum1)), (4, some (vI i1)), (20, some (vB (r1.Len == (0 : UInt64)))), (21, bif L 7 then some (undef) else none), (22, bif L 8 then some (undef) else none)], [], [Fact.sl Qf vl1 l]⟩ a w) [([], []), ([], [])] rfl (by kernel_rfl) ?_ (Qc ?_ (Qc ?_ (QH))) ?_
     ·intro a w hs
      exact hs.startF [21, 22] [] [0] rfl rfl rfl rfl
     ·intro L a w hs K Q hK
      exact Qy rfl rfl rfl hs (cgb hg3) rfl rfl fun a w hs => hK a w (pF hs 4 [] [0] rfl)
     ·intro L a w hs K Q hK
      exact Qy rfl rfl rfl hs (cgb hg3) rfl rfl fun a w hs => hK a w (pF hs 5 [] [0] rfl)
     ·intro L a w hL hv
      rw [QZ hL] at hv
      have hs := hv
      refine (show TA _ _ _ 9 ⟨[(0, some vl1), (3, some (vU64 sum1)), (4, some (vI i1)), (20, some (vB (r1.Len == (0 : UInt64)))), (21, some undef), (22, some undef)], [], [Fact.sl Qf vl1 l]⟩ from ?_) a w (hs.wkS [0, 3, 4, 20, 21, 22] [] [0] rfl rfl rfl rfl)
      clear hs hL
      refine YM htb (by kernel_rfl) rfl rfl rfl (cgb hg3) rfl rfl ?_
      refine YM htb (by kernel_rfl) rfl rfl rfl (cgb hg3) rfl rfl ?_
      refine YM htb (by kernel_rfl) rfl rfl rfl (cgb hg3) rfl rfl ?_
      refine YM htb (by kernel_rfl) rfl rfl rfl (cgb hg3) rfl rfl ?_
      refine QL htb (by kernel_rfl) rfl rfl (Qw rfl rfl rfl (cgb hg3) rfl) ?_
      refine QL htb (by kernel_rfl) rfl rfl (Qk rfl rfl rfl rfl) ?_
      refine Xy (fr' := [(0, some vl1), (3, some (vU64 sum1)), (4, some (vI i1)), (28, some (vB true))]) (own' := []) (shr' := [Fact.sl Qf vl1 l]) [0, 3, 4, 28] [] [0] rfl rfl rfl rfl ?_
      refine Zs (lo := 15) (hi := 32) htb rfl rfl (by kernel_rfl) (fun c L a w => Sat c ⟨[(0, some vl1), (3, some (vU64 sum1)), (4, some (vI i1)), (28, some (vB true)), (29, bif L 15 then some (undef) else none), (30, bif L 16 then some (undef) else none), (31, bif L 17 then some (undef) else none), (32, bif L 18 then some (undef) else none), (33, bif L 19 then some (undef) else none), (34, bif L 20 then some (undef) else none), (35, bif L 21 then some (undef) else none), (36, bif L 22 then some (undef) else none), (37, bif L 23 then some (undef) else none), (38, bif L 24 then some (undef) else none), (39, bif L 25 then some (undef) else none), (40, bif L 26 then some (undef) else none), (41, bif L 27 then some (undef) else none), (42, bif L 28 then some (undef) else none), (43, bif L 29 then some (undef) else none), (44, bif L 30 then some (undef) else none), (45, bif L 31 then some (undef) else none)], [], [Fact.sl Qf vl1 l]⟩ a w) [([], [17, 18, 19, 26]), ([], [17, 18, 19, 26]), ([15, 16], [18, 19, 26]), ([15, 16, 17], [19, 26]), ([15, 16, 17, 18], [26]), ([], [22, 23, 24, 25, 26]), ([], [22, 23, 24, 25, 26]), ([20, 21], [23, 24, 25, 26]), ([20, 21, 22], [24, 25, 26]), ([20, 21, 22, 23], [25, 26]), ([20, 21, 22, 23, 24], [26]), ([15, 16, 17, 18, 19, 20, 21, 22, 23, 24, 25], []), ([], [29, 30, 31]), ([], [29, 30, 31]), ([27, 28], [30, 31]), ([27, 28, 29], [31]), ([27, 28, 29, 30], [])] rfl (by kernel_rfl) ?_ (Qc ?_ (Qc ?_ (Qc ?_ (Qc ?_ (Qc ?_ (Qc ?_ (Qc ?_ (Qc ?_ (Qc ?_ (Qc ?_ (Qc ?_ (Qc ?_ (Qc ?_ (Qc ?_ (Qc ?_ (Qc ?_ (Qc ?_ (QH)))))))))))))))))) ?_
      ·intro a w hs
       exact hs.startF [29, 30, 31, 32, 33, 34, 35, 36, 37, 38, 39, 40, 41, 42, 43, 44, 45] [] [0] rfl rfl rfl rfl
      ·intro L a w hs K Q hK
       exact Qy rfl rfl rfl hs rfl rfl rfl fun a w hs => hK a w (pF hs 4 [] [0] rfl)
      ·intro L a w hs K Q hK
       exact Qy rfl rfl rfl hs rfl rfl rfl fun a w hs => hK a w (pF hs 5 [] [0] rfl)
      ·intro L a w hs K Q hK
       exact Qy rfl rfl rfl hs rfl rfl rfl fun a w hs => hK a w (pF hs 6 [] [0] rfl)
      ·intro L a w hs K Q hK
       exact Qy rfl rfl rfl hs rfl rfl rfl fun a w hs => hK a w (pF hs 7 [] [0] rfl)
      ·intro L a w hs K Q hK
       exact Qy rfl rfl rfl hs rfl rfl rfl fun a w hs => hK a w (pF hs 8 [] [0] rfl)
      ·intro L a w hs K Q hK
       exact Qy rfl rfl rfl hs rfl rfl rfl fun a w hs => hK a w (pF hs 9 [] [0] rfl)
      ·intro L a w hs K Q hK
       exact Qy rfl rfl rfl hs rfl rfl rfl fun a w hs => hK a w (pF hs 10 [] [0] rfl)
      ·intro L a w hs K Q hK
       exact Qy rfl rfl rfl hs rfl rfl rfl fun a w hs => hK a w (pF hs 11 [] [0] rfl)
      ·intro L a w hs K Q hK
       exact Qy rfl rfl rfl hs rfl rfl rfl fun a w hs => hK a w (pF hs 12 [] [0] rfl)
      ·intro L a w hs K Q hK
       exact Qy rfl rfl rfl hs rfl rfl rfl fun a w hs => hK a w (pF hs 13 [] [0] rfl)
      ·intro L a w hs K Q hK
       exact Qy rfl rfl rfl hs rfl rfl rfl fun a w hs => hK a w (pF hs 14 [] [0] rfl)
      ·intro L a w hs K Q hK
       exact Qy rfl rfl rfl hs rfl rfl rfl fun a w hs => hK a w (pF hs 15 [] [0] rfl)
      ·intro L a w hs K Q hK
       exact Qy rfl rfl rfl hs rfl rfl rfl fun a w hs => hK a w (pF hs 16 [] [0] rfl)
      ·intro L a w hs K Q hK
       exact Qy rfl rfl rfl hs rfl rfl rfl fun a w hs => hK a w (pF hs 17 [] [0] rfl)
      ·intro L a w hs K Q hK
       exact Qy rfl rfl rfl hs rfl rfl rfl fun a w hs => hK a w (pF hs 18 [] [0] rfl)
      ·intro L a w hs K Q hK
       exact Qy rfl rfl rfl hs rfl rfl rfl fun a w hs => hK a w (pF hs 19 [] [0] rfl)
      ·intro L a w hs K Q hK
       exact Qy rfl rfl rfl hs rfl rfl rfl fun a w hs => hK a w (pF hs 20 [] [0] rfl)
      ·intro L a w hL hv
       rw [QZ hL] at hv
       have hs := hv
       refine (show TA _ _ _ 32 ⟨[(0, some vl1), (3, some (vU64 sum1)), (4, some (vI i1)), (28, some (vB true)), (40, some undef), (45, some undef)], [], [Fact.sl Qf vl1 l]⟩ from ?_) a w (hs.wkS [0, 3, 4, 28, 40, 45] [] [0] rfl rfl rfl rfl)
       clear hs hL
       refine YM htb (by kernel_rfl) rfl rfl rfl rfl rfl rfl ?_
       refine QL htb (by kernel_rfl) rfl rfl (Qw rfl rfl rfl rfl rfl) ?_
       refine ZW rfl ?_
       refine tW [(0, some vl1), (3, some (vU64 sum1)), (4, some (vI i1)), (47, some (vB true))] [] [Fact.sl Qf vl1 l] [0, 3, 4, 47] [] [0] rfl ?_
       refine Ql rfl ?_
       refine Qe (Qb (sAs rfl rfl rfl ?_))
       refine nW [(2, some (vI (2 : Int)))] [] [] [2] [] [] rfl ?_
       obtain rfl := Option.some.inj h
       exact Qn rfl rfl (resA (vs := [vI (2 : Int)]) rfl ⟨rfl, trivial⟩) [] [] rfl rfl rfl ⟨rfl, rfl, rfl⟩
    ·replace h := br_f hg3 h
     refine Zs (lo := 7) (hi := 9) htb rfl rfl (by kernel_rfl) (fun c L a w => Sat c ⟨[(0, some vl1), (3, some (vU64 sum1)), (4, some (vI i1)), (20, some (vB (r1.Len == (0 : UInt64)))), (21, bif L 7 then some (vl1) else none), (22, bif L 8 then some (vI i1) else none)], [], [Fact.sl Qf vl1 l]⟩ a w) [([], []), ([], [])] rfl (by kernel_rfl) ?_ (Qc ?_ (Qc ?_ (QH))) ?_
     ·intro a w hs
      exact hs.startF [21, 22] [] [0] rfl rfl rfl rfl
     ·intro L a w hs K Q hK
      exact wYs rfl rfl rfl hs (cgb hg3) (Qk rfl rfl rfl rfl) fun a w hs => hK a w (pF hs 4 [] [0] rfl)
     ·intro L a w hs K Q hK
      exact wYs rfl rfl rfl hs (cgb hg3) (Qk rfl rfl rfl rfl) fun a w hs => hK a w (pF hs 5 [] [0] rfl)
     ·intro L a w hL hv
      rw [QZ hL] at hv
      have hs := hv
      refine (show TA _ _ _ 9 ⟨[(0, some vl1), (3, some (vU64 sum1)), (4, some (vI i1)), (20, some (vB (r1.Len == (0 : UInt64)))), (21, some vl1), (22, some (vI i1))], [], [Fact.sl Qf vl1 l]⟩ from ?_) a w (hs.wkS [0, 3, 4, 20, 21, 22] [] [0] rfl rfl rfl rfl)
      clear hs hL
      obtain ⟨r2, hx2, h⟩ := ob_e h
      refine Yh htb (by kernel_rfl) rfl rfl rfl (cgb hg3) (QA rfl rfl rfl rfl rfl slF42 (i := 0) rfl hx2) ?_
      rintro _ ⟨p3, rfl⟩
      refine Yh htb (by kernel_rfl) rfl rfl rfl (cgb hg3) (QJ (S' := u64S) (y := r2.Len) rfl rfl rfl rfl XK (i := 1) rfl (by intro h cs hr; subst hr; rfl)) ?_
      rintro _ ⟨p4, rfl⟩
      refine Yh htb (by kernel_rfl) rfl rfl rfl (cgb hg3) (QC rfl rfl rfl rfl Xc (i := 2) rfl rfl) ?_
      rintro _ rfl
      refine Yh htb (by kernel_rfl) rfl rfl rfl (cgb hg3) (Qg rfl rfl rfl rfl rfl (Ys (a := r2.Len) (b := (1048576 : UInt64)))) ?_
      rintro _ rfl
      refine QL htb (by kernel_rfl) rfl rfl (Qu rfl rfl rfl (cgb hg3) rfl) ?_
      refine QL htb (by kernel_rfl) rfl rfl (Qk rfl rfl rfl rfl) ?_
      refine Xy (fr' := [(0, some vl1), (3, some (vU64 sum1)), (4, some (vI i1)), (28, some (vB (decide (r2.Len > (1048576 : UInt64)))))]) (own' := []) (shr' := [Fact.sl Qf vl1 l]) [0, 3, 4, 28] [] [0] rfl rfl rfl rfl ?_
      rcases bC (decide (r2.Len > (1048576 : UInt64))) with hg4 | hg4
      ·replace h := br_t hg4 h
       refine Zs (lo := 15) (hi := 32) htb rfl rfl (by kernel_rfl) (fun c L a w => Sat c ⟨[(0, some vl1), (3, some (vU64 sum1)), (4, some (vI i1)), (28, some (vB (decide (r2.Len > (1048576 : UInt64))))), (29, bif L 15 then some (undef) else none), (30, bif L 16 then some (undef) else none), (31, bif L 17 then some (undef) else none), (32, bif L 18 then some (undef) else none), (33, bif L 19 then some (undef) else none), (34, bif L 20 then some (undef) else none), (35, bif L 21 then some (undef) else none), (36, bif L 22 then some (undef) else none), (37, bif L 23 then some (undef) else none), (38, bif L 24 then some (undef) else none), (39, bif L 25 then some (undef) else none), (40, bif L 26 then some (undef) else none), (41, bif L 27 then some (undef) else none), (42, bif L 28 then some (undef) else none), (43, bif L 29 then some (undef) else none), (44, bif L 30 then some (undef) else none), (45, bif L 31 then some (undef) else none)], [], [Fact.sl Qf vl1 l]⟩ a w) [([], [17, 18, 19, 26]), ([], [17, 18, 19, 26]), ([15, 16], [18, 19, 26]), ([15, 16, 17], [19, 26]), ([15, 16, 17, 18], [26]), ([], [22, 23, 24, 25, 26]), ([], [22, 23, 24, 25, 26]), ([20, 21], [23, 24, 25, 26]), ([20, 21, 22], [24, 25, 26]), ([20, 21, 22, 23], [25, 26]), ([20, 21, 22, 23, 24], [26]), ([15, 16, 17, 18, 19, 20, 21, 22, 23, 24, 25], []), ([], [29, 30, 31]), ([], [29, 30, 31]), ([27, 28], [30, 31]), ([27, 28, 29], [31]), ([27, 28, 29, 30], [])] rfl (by kernel_rfl) ?_ (Qc ?_ (Qc ?_ (Qc ?_ (Qc ?_ (Qc ?_ (Qc ?_ (Qc ?_ (Qc ?_ (Qc ?_ (Qc ?_ (Qc ?_ (Qc ?_ (Qc ?_ (Qc ?_ (Qc ?_ (Qc ?_ (Qc ?_ (QH)))))))))))))))))) ?_
       ·intro a w hs
        exact hs.startF [29, 30, 31, 32, 33, 34, 35, 36, 37, 38, 39, 40, 41, 42, 43, 44, 45] [] [0] rfl rfl rfl rfl
       ·intro L a w hs K Q hK
        exact Qy rfl rfl rfl hs (cgb hg4) rfl rfl fun a w hs => hK a w (pF hs 4 [] [0] rfl)
       ·intro L a w hs K Q hK
        exact Qy rfl rfl rfl hs (cgb hg4) rfl rfl fun a w hs => hK a w (pF hs 5 [] [0] rfl)
       ·intro L a w hs K Q hK
        exact Qy rfl rfl rfl hs (cgb hg4) rfl rfl fun a w hs => hK a w (pF hs 6 [] [0] rfl)
       ·intro L a w hs K Q hK
        exact Qy rfl rfl rfl hs (cgb hg4) rfl rfl fun a w hs => hK a w (pF hs 7 [] [0] rfl)
       ·intro L a w hs K Q hK
        exact Qy rfl rfl rfl hs (cgb hg4) rfl rfl fun a w hs => hK a w (pF hs 8 [] [0] rfl)
       ·intro L a w hs K Q hK
        exact Qy rfl rfl rfl hs (cgb hg4) rfl rfl fun a w hs => hK a w (pF hs 9 [] [0] rfl)
       ·intro L a w hs K Q hK
        exact Qy rfl rfl rfl hs (cgb hg4) rfl rfl fun a w hs => hK a w (pF hs 10 [] [0] rfl)
       ·intro L a w hs K Q hK
        exact Qy rfl rfl rfl hs (cgb hg4) rfl rfl fun a w hs => hK a w (pF hs 11 [] [0] rfl)
       ·intro L a w hs K Q hK
        exact Qy rfl rfl rfl hs (cgb hg4) rfl rfl fun a w hs => hK a w (pF hs 12 [] [0] rfl)
       ·intro L a w hs K Q hK
        exact Qy rfl rfl rfl hs (cgb hg4) rfl rfl fun a w hs => hK a w (pF hs 13 [] [0] rfl)
       ·intro L a w hs K Q hK
        exact Qy rfl rfl rfl hs (cgb hg4) rfl rfl fun a w hs => hK a w (pF hs 14 [] [0] rfl)
       ·intro L a w hs K Q hK
        exact Qy rfl rfl rfl hs (cgb hg4) rfl rfl fun a w hs => hK a w (pF hs 15 [] [0] rfl)
       ·intro L a w hs K Q hK
        exact Qy rfl rfl rfl hs (cgb hg4) rfl rfl fun a w hs => hK a w (pF hs 16 [] [0] rfl)
       ·intro L a w hs K Q hK
        exact Qy rfl rfl rfl hs (cgb hg4) rfl rfl fun a w hs => hK a w (pF hs 17 [] [0] rfl)
       ·intro L a w hs K Q hK
        exact Qy rfl rfl rfl hs (cgb hg4) rfl rfl fun a w hs => hK a w (pF hs 18 [] [0] rfl)
       ·intro L a w hs K Q hK
        exact Qy rfl rfl rfl hs (cgb hg4) rfl rfl fun a w hs => hK a w (pF hs 19 [] [0] rfl)
       ·intro L a w hs K Q hK
        exact Qy rfl rfl rfl hs (cgb hg4) rfl rfl fun a w hs => hK a w (pF hs 20 [] [0] rfl)
       ·intro L a w hL hv
        rw [QZ hL] at hv
        have hs := hv
        refine (show TA _ _ _ 32 ⟨[(0, some vl1), (3, some (vU64 sum1)), (4, some (vI i1)), (28, some (vB (decide (r2.Len > (1048576 : UInt64))))), (40, some undef), (45, some undef)], [], [Fact.sl Qf vl1 l]⟩ from ?_) a w (hs.wkS [0, 3, 4, 28, 40, 45] [] [0] rfl rfl rfl rfl)
        clear hs hL
        refine YM htb (by kernel_rfl) rfl rfl rfl (cgb hg4) rfl rfl ?_
        refine QL htb (by kernel_rfl) rfl rfl (Qw rfl rfl rfl (cgb hg4) rfl) ?_
        refine ZW rfl ?_
        refine tW [(0, some vl1), (3, some (vU64 sum1)), (4, some (vI i1)), (47, some (vB true))] [] [Fact.sl Qf vl1 l] [0, 3, 4, 47] [] [0] rfl ?_
        refine Ql rfl ?_
        refine Qe (Qb (sAs rfl rfl rfl ?_))
        refine nW [(2, some (vI (2 : Int)))] [] [] [2] [] [] rfl ?_
        obtain rfl := Option.some.inj h
        exact Qn rfl rfl (resA (vs := [vI (2 : Int)]) rfl ⟨rfl, trivial⟩) [] [] rfl rfl rfl ⟨rfl, rfl, rfl⟩
      ·replace h := br_f hg4 h
       obtain ⟨r3, hx3, h⟩ := ob_e h
       obtain ⟨r4, hx4, h⟩ := ob_e h
       obtain ⟨r5, hx5, h⟩ := ob_e h
       refine Zs (lo := 15) (hi := 32) htb rfl rfl (by kernel_rfl) (fun c L a w => ∃ (p5 : Value), ∃ (p6 : Value), ∃ (p7 : Value), ∃ (p8 : Value), ∃ (p9 : Value), ∃ (p10 : Value), Sat c ⟨[(0, some vl1), (3, some (vU64 sum1)), (4, some (vI i1)), (28, some (vB (decide (r2.Len > (1048576 : UInt64))))), (29, bif L 15 then some (vl1) else none), (30, bif L 16 then some (vI i1) else none), (31, bif L 17 then some (p5) else none), (32, bif L 18 then some (p6) else none), (33, bif L 19 then some (vU64 r3.At) else none), (34, bif L 20 then some (vl1) else none), (35, bif L 21 then some (vI i1) else none), (36, bif L 22 then some (p7) else none), (37, bif L 23 then some (p8) else none), (38, bif L 24 then some (vU64 r4.Len) else none), (39, bif L 25 then some (vU64 (r4.Len - (1 : UInt64))) else none), (40, bif L 26 then some (vU64 (r3.At + (r4.Len - (1 : UInt64)))) else none), (41, bif L 27 then some (vl1) else none), (42, bif L 28 then some (vI i1) else none), (43, bif L 29 then some (p9) else none), (44, bif L 30 then some (p10) else none), (45, bif L 31 then some (vU64 r5.At) else none)], [], [Fact.sl Qf vl1 l, (bif L 17 then Fact.pt Qf p5 r3 else Fact.tt), (bif L 18 then Fact.pt u64S p6 r3.At else Fact.tt), (bif L 22 then Fact.pt Qf p7 r4 else Fact.tt), (bif L 23 then Fact.pt u64S p8 r4.Len else Fact.tt), (bif L 29 then Fact.pt Qf p9 r5 else Fact.tt), (bif L 30 then Fact.pt u64S p10 r5.At else Fact.tt)]⟩ a w) [([], [17, 18, 19, 26]), ([], [17, 18, 19, 26]), ([15, 16], [18, 19, 26]), ([15, 16, 17], [19, 26]), ([15, 16, 17, 18], [26]), ([], [22, 23, 24, 25, 26]), ([], [22, 23, 24, 25, 26]), ([20, 21], [23, 24, 25, 26]), ([20, 21, 22], [24, 25, 26]), ([20, 21, 22, 23], [25, 26]), ([20, 21, 22, 23, 24], [26]), ([15, 16, 17, 18, 19, 20, 21, 22, 23, 24, 25], []), ([], [29, 30, 31]), ([], [29, 30, 31]), ([27, 28], [30, 31]), ([27, 28, 29], [31]), ([27, 28, 29, 30], [])] rfl (by kernel_rfl) ?_ (Qc ?_ (Qc ?_ (Qc ?_ (Qc ?_ (Qc ?_ (Qc ?_ (Qc ?_ (Qc ?_ (Qc ?_ (Qc ?_ (Qc ?_ (Qc ?_ (Qc ?_ (Qc ?_ (Qc ?_ (Qc ?_ (Qc ?_ (QH)))))))))))))))))) ?_
       ·intro a w hs
        exact ⟨undef, undef, undef, undef, undef, undef, hs.startF [29, 30, 31, 32, 33, 34, 35, 36, 37, 38, 39, 40, 41, 42, 43, 44, 45] [] [0, 1, 2, 3, 4, 5, 6] rfl rfl rfl rfl⟩
       ·intro L a w hv K Q hK
        obtain ⟨p5, p6, p7, p8, p9, p10, hs⟩ := hv
        exact wYs rfl rfl rfl hs (cgb hg4) (Qk rfl rfl rfl rfl) fun a w hs => hK a w ⟨p5, p6, p7, p8, p9, p10, pF hs 4 [] [0, 1, 2, 3, 4, 5, 6] rfl⟩
       ·intro L a w hv K Q hK
        obtain ⟨p5, p6, p7, p8, p9, p10, hs⟩ := hv
        exact wYs rfl rfl rfl hs (cgb hg4) (Qk rfl rfl rfl rfl) fun a w hs => hK a w ⟨p5, p6, p7, p8, p9, p10, pF hs 5 [] [0, 1, 2, 3, 4, 5, 6] rfl⟩
       ·intro L a w hv K Q hK
        obtain ⟨p5, p6, p7, p8, p9, p10, hs⟩ := hv
        refine ZQ rfl rfl rfl hs (cgb hg4) (QA rfl rfl rfl rfl rfl slF42 (i := 0) rfl hx3) ?_
        rintro _ ⟨p5', rfl⟩ a' w' hs'
        exact hK a' w' ⟨p5', p6, p7, p8, p9, p10, hs'.putF (i := 6) rfl [] [0, 7, 2, 3, 4, 5, 6] rfl rfl rfl rfl⟩
       ·intro L a w hv K Q hK
        obtain ⟨p5, p6, p7, p8, p9, p10, hs⟩ := hv
        refine ZQ rfl rfl rfl hs (cgb hg4) (QJ (S' := u64S) (y := r3.At) rfl rfl rfl rfl Yc (i := 1) rfl (by intro h cs hr; subst hr; rfl)) ?_
        rintro _ ⟨p6', rfl⟩ a' w' hs'
        exact hK a' w' ⟨p5, p6', p7, p8, p9, p10, hs'.putF (i := 7) rfl [] [0, 1, 7, 3, 4, 5, 6] rfl rfl rfl rfl⟩
       ·intro L a w hv K Q hK
        obtain ⟨p5, p6, p7, p8, p9, p10, hs⟩ := hv
        exact wYs rfl rfl rfl hs (cgb hg4) (QC rfl rfl rfl rfl Xc (i := 2) rfl rfl) fun a w hs => hK a w ⟨p5, p6, p7, p8, p9, p10, pF hs 8 [] [0, 1, 2, 3, 4, 5, 6] rfl⟩
       ·intro L a w hv K Q hK
        obtain ⟨p5, p6, p7, p8, p9, p10, hs⟩ := hv
        exact wYs rfl rfl rfl hs (cgb hg4) (Qk rfl rfl rfl rfl) fun a w hs => hK a w ⟨p5, p6, p7, p8, p9, p10, pF hs 9 [] [0, 1, 2, 3, 4, 5, 6] rfl⟩
       ·intro L a w hv K Q hK
        obtain ⟨p5, p6, p7, p8, p9, p10, hs⟩ := hv
        exact wYs rfl rfl rfl hs (cgb hg4) (Qk rfl rfl rfl rfl) fun a w hs => hK a w ⟨p5, p6, p7, p8, p9, p10, pF hs 10 [] [0, 1, 2, 3, 4, 5, 6] rfl⟩
       ·intro L a w hv K Q hK
        obtain ⟨p5, p6, p7, p8, p9, p10, hs⟩ := hv
        refine ZQ rfl rfl rfl hs (cgb hg4) (QA rfl rfl rfl rfl rfl slF42 (i := 0) rfl hx4) ?_
        rintro _ ⟨p7', rfl⟩ a' w' hs'
        exact hK a' w' ⟨p5, p6, p7', p8, p9, p10, hs'.putF (i := 11) rfl [] [0, 1, 2, 7, 4, 5, 6] rfl rfl rfl rfl⟩
       ·intro L a w hv K Q hK
        obtain ⟨p5, p6, p7, p8, p9, p10, hs⟩ := hv
        refine ZQ rfl rfl rfl hs (cgb hg4) (QJ (S' := u64S) (y := r4.Len) rfl rfl rfl rfl XK (i := 3) rfl (by intro h cs hr; subst hr; rfl)) ?_
        rintro _ ⟨p8', rfl⟩ a' w' hs'
        exact hK a' w' ⟨p5, p6, p7, p8', p9, p10, hs'.putF (i := 12) rfl [] [0, 1, 2, 3, 7, 5, 6] rfl rfl rfl rfl⟩
       ·intro L a w hv K Q hK
        obtain ⟨p5, p6, p7, p8, p9, p10, hs⟩ := hv
        exact wYs rfl rfl rfl hs (cgb hg4) (QC rfl rfl rfl rfl Xc (i := 4) rfl rfl) fun a w hs => hK a w ⟨p5, p6, p7, p8, p9, p10, pF hs 13 [] [0, 1, 2, 3, 4, 5, 6] rfl⟩
       ·intro L a w hv K Q hK
        obtain ⟨p5, p6, p7, p8, p9, p10, hs⟩ := hv
        exact wYs rfl rfl rfl hs (cgb hg4) (Qg rfl rfl rfl rfl rfl (Zu (a := r4.Len) (b := (1 : UInt64)))) fun a w hs => hK a w ⟨p5, p6, p7, p8, p9, p10, pF hs 14 [] [0, 1, 2, 3, 4, 5, 6] rfl⟩
       ·intro L a w hv K Q hK
        obtain ⟨p5, p6, p7, p8, p9, p10, hs⟩ := hv
        exact wYs rfl rfl rfl hs (cgb hg4) (Qg rfl rfl rfl rfl rfl (Zb (a := r3.At) (b := r4.Len - (1 : UInt64)))) fun a w hs => hK a w ⟨p5, p6, p7, p8, p9, p10, pF hs 15 [] [0, 1, 2, 3, 4, 5, 6] rfl⟩
       ·intro L a w hv K Q hK
        obtain ⟨p5, p6, p7, p8, p9, p10, hs⟩ := hv
        exact wYs rfl rfl rfl hs (cgb hg4) (Qk rfl rfl rfl rfl) fun a w hs => hK a w ⟨p5, p6, p7, p8, p9, p10, pF hs 16 [] [0, 1, 2, 3, 4, 5, 6] rfl⟩
       ·intro L a w hv K Q hK
        obtain ⟨p5, p6, p7, p8, p9, p10, hs⟩ := hv
        exact wYs rfl rfl rfl hs (cgb hg4) (Qk rfl rfl rfl rfl) fun a w hs => hK a w ⟨p5, p6, p7, p8, p9, p10, pF hs 17 [] [0, 1, 2, 3, 4, 5, 6] rfl⟩
       ·intro L a w hv K Q hK
        obtain ⟨p5, p6, p7, p8, p9, p10, hs⟩ := hv
        refine ZQ rfl rfl rfl hs (cgb hg4) (QA rfl rfl rfl rfl rfl slF42 (i := 0) rfl hx5) ?_
        rintro _ ⟨p9', rfl⟩ a' w' hs'
        exact hK a' w' ⟨p5, p6, p7, p8, p9', p10, hs'.putF (i := 18) rfl [] [0, 1, 2, 3, 4, 7, 6] rfl rfl rfl rfl⟩
       ·intro L a w hv K Q hK
        obtain ⟨p5, p6, p7, p8, p9, p10, hs⟩ := hv
        refine ZQ rfl rfl rfl hs (cgb hg4) (QJ (S' := u64S) (y := r5.At) rfl rfl rfl rfl Yc (i := 5) rfl (by intro h cs hr; subst hr; rfl)) ?_
        rintro _ ⟨p10', rfl⟩ a' w' hs'
        exact hK a' w' ⟨p5, p6, p7, p8, p9, p10', hs'.putF (i := 19) rfl [] [0, 1, 2, 3, 4, 5, 7] rfl rfl rfl rfl⟩
       ·intro L a w hv K Q hK
        obtain ⟨p5, p6, p7, p8, p9, p10, hs⟩ := hv
        exact wYs rfl rfl rfl hs (cgb hg4) (QC rfl rfl rfl rfl Xc (i := 6) rfl rfl) fun a w hs => hK a w ⟨p5, p6, p7, p8, p9, p10, pF hs 20 [] [0, 1, 2, 3, 4, 5, 6] rfl⟩
       ·intro L a w hL hv
        rw [QZ hL] at hv
        obtain ⟨p5, p6, p7, p8, p9, p10, hs⟩ := hv
        refine (show TA _ _ _ 32 ⟨[(0, some vl1), (3, some (vU64 sum1)), (4, some (vI i1)), (28, some (vB (decide (r2.Len > (1048576 : UInt64))))), (40, some (vU64 (r3.At + (r4.Len - (1 : UInt64))))), (45, some (vU64 r5.At))], [], [Fact.sl Qf vl1 l]⟩ from ?_) a w (hs.wkS [0, 3, 4, 28, 40, 45] [] [0] rfl rfl rfl rfl)
        clear hs hL
        refine Yh htb (by kernel_rfl) rfl rfl rfl (cgb hg4) (Qg rfl rfl rfl rfl rfl (Yr (a := r3.At + (r4.Len - (1 : UInt64))) (b := r5.At))) ?_
        rintro _ rfl
        refine QL htb (by kernel_rfl) rfl rfl (Qu rfl rfl rfl (cgb hg4) rfl) ?_
        refine ZW rfl ?_
        refine tW [(0, some vl1), (3, some (vU64 sum1)), (4, some (vI i1)), (47, some (vB (decide ((r3.At + (r4.Len - (1 : UInt64))) < r5.At))))] [] [Fact.sl Qf vl1 l] [0, 3, 4, 47] [] [0] rfl ?_
        rcases bC (decide ((r3.At + (r4.Len - (1 : UInt64))) < r5.At)) with hg5 | hg5
        ·replace h := br_t hg5 h
         refine Ql (cgb hg5) ?_
         refine Qe (Qb (sAs rfl rfl rfl ?_))
         refine nW [(2, some (vI (2 : Int)))] [] [] [2] [] [] rfl ?_
         obtain rfl := Option.some.inj h
         exact Qn rfl rfl (resA (vs := [vI (2 : Int)]) rfl ⟨rfl, trivial⟩) [] [] rfl rfl rfl ⟨rfl, rfl, rfl⟩
        ·replace h := br_f hg5 h
         refine Qm (cgb hg5) ?_
         refine Qr (Qe (Qb (sMv rfl rfl rfl ?_)))
         refine sMv rfl rfl rfl ?_
         refine sMv rfl rfl rfl ?_
         obtain ⟨r6, hx6, h⟩ := ob_e h
         refine Qq rfl (QA rfl rfl rfl rfl rfl slF42 (i := 0) rfl hx6) fun p11 => ?_
         refine Qq rfl (QJ (S' := u64S) (y := r6.Len) rfl rfl rfl rfl XK (i := 1) rfl (by intro h cs hr; subst hr; rfl)) fun p12 => ?_
         refine Qa rfl (QC rfl rfl rfl rfl Xc (i := 2) rfl rfl) ?_
         refine Qa rfl (Qg rfl rfl rfl rfl rfl (Zb (a := sum1) (b := r6.Len))) ?_
         refine sAs rfl rfl rfl ?_
         refine nW [(0, some vl1), (3, some (vU64 (sum1 + r6.Len))), (4, some (vI i1))] [] [Fact.sl Qf vl1 l] [0, 3, 4] [] [0] rfl ?_
         refine Qe (Zw (by kernel_rfl) ?_)
         refine TA_tb [0, 1, 3, 7, 7, 31, 63, 127, 7, 7, 519, 1799, 3847, 7943, 7, 7, 32775, 114695, 245767, 507911, 1032199, 2096903, 4194303, 8388607] (by kernel_rfl) fun htb => ?_
         refine QL htb (by kernel_rfl) rfl rfl (Qk rfl rfl rfl rfl) ?_
         refine QL htb (by kernel_rfl) rfl rfl (Qg rfl rfl rfl rfl rfl (ZD (a := i1) (b := (0 : Int)))) ?_
         refine QL htb (by kernel_rfl) rfl rfl (Qk rfl rfl rfl rfl) ?_
         refine Xy (fr' := [(0, some vl1), (3, some (vU64 (sum1 + r6.Len))), (4, some (vI i1)), (57, some (vB (decide (i1 > (0 : Int)))))]) (own' := []) (shr' := [Fact.sl Qf vl1 l]) [0, 3, 4, 57] [] [0] rfl rfl rfl rfl ?_
         rcases bC (decide (i1 > (0 : Int))) with hg6 | hg6
         ·replace h := br_t hg6 h
          obtain ⟨r7, hx7, h⟩ := ob_e h
          obtain ⟨r8, hx8, h⟩ := ob_e h
          obtain ⟨r9, hx9, h⟩ := ob_e h
          refine Zs (lo := 3) (hi := 22) htb rfl rfl (by kernel_rfl) (fun c L a w => ∃ (p13 : Value), ∃ (p14 : Value), ∃ (p15 : Value), ∃ (p16 : Value), ∃ (p17 : Value), ∃ (p18 : Value), Sat c ⟨[(0, some vl1), (3, some (vU64 (sum1 + r6.Len))), (4, some (vI i1)), (57, some (vB (decide (i1 > (0 : Int))))), (58, bif L 3 then some (vl1) else none), (59, bif L 4 then some (vI i1) else none), (60, bif L 5 then some (p13) else none), (61, bif L 6 then some (p14) else none), (62, bif L 7 then some (vU64 r7.At) else none), (63, bif L 8 then some (vl1) else none), (64, bif L 9 then some (vI i1) else none), (65, bif L 10 then some (vI (wi (i1 - (1 : Int)))) else none), (66, bif L 11 then some (p15) else none), (67, bif L 12 then some (p16) else none), (68, bif L 13 then some (vU64 r8.At) else none), (69, bif L 14 then some (vl1) else none), (70, bif L 15 then some (vI i1) else none), (71, bif L 16 then some (vI (wi (i1 - (1 : Int)))) else none), (72, bif L 17 then some (p17) else none), (73, bif L 18 then some (p18) else none), (74, bif L 19 then some (vU64 r9.Len) else none), (75, bif L 20 then some (vU64 (r9.Len - (1 : UInt64))) else none), (76, bif L 21 then some (vU64 (r8.At + (r9.Len - (1 : UInt64)))) else none)], [], [Fact.sl Qf vl1 l, (bif L 5 then Fact.pt Qf p13 r7 else Fact.tt), (bif L 6 then Fact.pt u64S p14 r7.At else Fact.tt), (bif L 11 then Fact.pt Qf p15 r8 else Fact.tt), (bif L 12 then Fact.pt u64S p16 r8.At else Fact.tt), (bif L 17 then Fact.pt Qf p17 r9 else Fact.tt), (bif L 18 then Fact.pt u64S p18 r9.Len else Fact.tt)]⟩ a w) [([], [5, 6, 7]), ([], [5, 6, 7]), ([3, 4], [6, 7]), ([3, 4, 5], [7]), ([3, 4, 5, 6], []), ([], [11, 12, 13, 21]), ([], [10, 11, 12, 13, 21]), ([9], [11, 12, 13, 21]), ([8, 9, 10], [12, 13, 21]), ([8, 9, 10, 11], [13, 21]), ([8, 9, 10, 11, 12], [21]), ([], [17, 18, 19, 20, 21]), ([], [16, 17, 18, 19, 20, 21]), ([15], [17, 18, 19, 20, 21]), ([14, 15, 16], [18, 19, 20, 21]), ([14, 15, 16, 17], [19, 20, 21]), ([14, 15, 16, 17, 18], [20, 21]), ([14, 15, 16, 17, 18, 19], [21]), ([8, 9, 10, 11, 12, 13, 14, 15, 16, 17, 18, 19, 20], [])] rfl (by kernel_rfl) ?_ (Qc ?_ (Qc ?_ (Qc ?_ (Qc ?_ (Qc ?_ (Qc ?_ (Qc ?_ (Qc ?_ (Qc ?_ (Qc ?_ (Qc ?_ (Qc ?_ (Qc ?_ (Qc ?_ (Qc ?_ (Qc ?_ (Qc ?_ (Qc ?_ (Qc ?_ (QH)))))))))))))))))))) ?_
          ·intro a w hs
           exact ⟨undef, undef, undef, undef, undef, undef, hs.startF [58, 59, 60, 61, 62, 63, 64, 65, 66, 67, 68, 69, 70, 71, 72, 73, 74, 75, 76] [] [0, 1, 2, 3, 4, 5, 6] rfl rfl rfl rfl⟩
          ·intro L a w hv K Q hK
           obtain ⟨p13, p14, p15, p16, p17, p18, hs⟩ := hv
           exact wYs rfl rfl rfl hs (cgb hg6) (Qk rfl rfl rfl rfl) fun a w hs => hK a w ⟨p13, p14, p15, p16, p17, p18, pF hs 4 [] [0, 1, 2, 3, 4, 5, 6] rfl⟩
          ·intro L a w hv K Q hK
           obtain ⟨p13, p14, p15, p16, p17, p18, hs⟩ := hv
           exact wYs rfl rfl rfl hs (cgb hg6) (Qk rfl rfl rfl rfl) fun a w hs => hK a w ⟨p13, p14, p15, p16, p17, p18, pF hs 5 [] [0, 1, 2, 3, 4, 5, 6] rfl⟩
          ·intro L a w hv K Q hK
           obtain ⟨p13, p14, p15, p16, p17, p18, hs⟩ := hv
           refine ZQ rfl rfl rfl hs (cgb hg6) (QA rfl rfl rfl rfl rfl slF42 (i := 0) rfl hx7) ?_
           rintro _ ⟨p13', rfl⟩ a' w' hs'
           exact hK a' w' ⟨p13', p14, p15, p16, p17, p18, hs'.putF (i := 6) rfl [] [0, 7, 2, 3, 4, 5, 6] rfl rfl rfl rfl⟩
          ·intro L a w hv K Q hK
           obtain ⟨p13, p14, p15, p16, p17, p18, hs⟩ := hv
           refine ZQ rfl rfl rfl hs (cgb hg6) (QJ (S' := u64S) (y := r7.At) rfl rfl rfl rfl Yc (i := 1) rfl (by intro h cs hr; subst hr; rfl)) ?_
           rintro _ ⟨p14', rfl⟩ a' w' hs'
           exact hK a' w' ⟨p13, p14', p15, p16, p17, p18, hs'.putF (i := 7) rfl [] [0, 1, 7, 3, 4, 5, 6] rfl rfl rfl rfl⟩
          ·intro L a w hv K Q hK
           obtain ⟨p13, p14, p15, p16, p17, p18, hs⟩ := hv
           exact wYs rfl rfl rfl hs (cgb hg6) (QC rfl rfl rfl rfl Xc (i := 2) rfl rfl) fun a w hs => hK a w ⟨p13, p14, p15, p16, p17, p18, pF hs 8 [] [0, 1, 2, 3, 4, 5, 6] rfl⟩
          ·intro L a w hv K Q hK
           obtain ⟨p13, p14, p15, p16, p17, p18, hs⟩ := hv
           exact wYs rfl rfl rfl hs (cgb hg6) (Qk rfl rfl rfl rfl) fun a w hs => hK a w ⟨p13, p14, p15, p16, p17, p18, pF hs 9 [] [0, 1, 2, 3, 4, 5, 6] rfl⟩
          ·intro L a w hv K Q hK
           obtain ⟨p13, p14, p15, p16, p17, p18, hs⟩ := hv
           exact wYs rfl rfl rfl hs (cgb hg6) (Qk rfl rfl rfl rfl) fun a w hs => hK a w ⟨p13, p14, p15, p16, p17, p18, pF hs 10 [] [0, 1, 2, 3, 4, 5, 6] rfl⟩
          ·intro L a w hv K Q hK
           obtain ⟨p13, p14, p15, p16, p17, p18, hs⟩ := hv
           exact wYs rfl rfl rfl hs (cgb hg6) (Qg rfl rfl rfl rfl rfl (Xu (a := i1) (b := (1 : Int)))) fun a w hs => hK a w ⟨p13, p14, p15, p16, p17, p18, pF hs 11 [] [0, 1, 2, 3, 4, 5, 6] rfl⟩
          ·intro L a w hv K Q hK
           obtain ⟨p13, p14, p15, p16, p17, p18, hs⟩ := hv
           refine ZQ rfl rfl rfl hs (cgb hg6) (QA rfl rfl rfl rfl rfl slF42 (i := 0) rfl hx8) ?_
           rintro _ ⟨p15', rfl⟩ a' w' hs'
           exact hK a' w' ⟨p13, p14, p15', p16, p17, p18, hs'.putF (i := 12) rfl [] [0, 1, 2, 7, 4, 5, 6] rfl rfl rfl rfl⟩
          ·intro L a w hv K Q hK
           obtain ⟨p13, p14, p15, p16, p17, p18, hs⟩ := hv
           refine ZQ rfl rfl rfl hs (cgb hg6) (QJ (S' := u64S) (y := r8.At) rfl rfl rfl rfl Yc (i := 3) rfl (by intro h cs hr; subst hr; rfl)) ?_
           rintro _ ⟨p16', rfl⟩ a' w' hs'
           exact hK a' w' ⟨p13, p14, p15, p16', p17, p18, hs'.putF (i := 13) rfl [] [0, 1, 2, 3, 7, 5, 6] rfl rfl rfl rfl⟩
          ·intro L a w hv K Q hK
           obtain ⟨p13, p14, p15, p16, p17, p18, hs⟩ := hv
           exact wYs rfl rfl rfl hs (cgb hg6) (QC rfl rfl rfl rfl Xc (i := 4) rfl rfl) fun a w hs => hK a w ⟨p13, p14, p15, p16, p17, p18, pF hs 14 [] [0, 1, 2, 3, 4, 5, 6] rfl⟩
          ·intro L a w hv K Q hK
           obtain ⟨p13, p14, p15, p16, p17, p18, hs⟩ := hv
           exact wYs rfl rfl rfl hs (cgb hg6) (Qk rfl rfl rfl rfl) fun a w hs => hK a w ⟨p13, p14, p15, p16, p17, p18, pF hs 15 [] [0, 1, 2, 3, 4, 5, 6] rfl⟩
          ·intro L a w hv K Q hK
           obtain ⟨p13, p14, p15, p16, p17, p18, hs⟩ := hv
           exact wYs rfl rfl rfl hs (cgb hg6) (Qk rfl rfl rfl rfl) fun a w hs => hK a w ⟨p13, p14, p15, p16, p17, p18, pF hs 16 [] [0, 1, 2, 3, 4, 5, 6] rfl⟩
          ·intro L a w hv K Q hK
           obtain ⟨p13, p14, p15, p16, p17, p18, hs⟩ := hv
           exact wYs rfl rfl rfl hs (cgb hg6) (Qg rfl rfl rfl rfl rfl (Xu (a := i1) (b := (1 : Int)))) fun a w hs => hK a w ⟨p13, p14, p15, p16, p17, p18, pF hs 17 [] [0, 1, 2, 3, 4, 5, 6] rfl⟩
          ·intro L a w hv K Q hK
           obtain ⟨p13, p14, p15, p16, p17, p18, hs⟩ := hv
           refine ZQ rfl rfl rfl hs (cgb hg6) (QA rfl rfl rfl rfl rfl slF42 (i := 0) rfl hx9) ?_
           rintro _ ⟨p17', rfl⟩ a' w' hs'
           exact hK a' w' ⟨p13, p14, p15, p16, p17', p18, hs'.putF (i := 18) rfl [] [0, 1, 2, 3, 4, 7, 6] rfl rfl rfl rfl⟩
          ·intro L a w hv K Q hK
           obtain ⟨p13, p14, p15, p16, p17, p18, hs⟩ := hv
           refine ZQ rfl rfl rfl hs (cgb hg6) (QJ (S' := u64S) (y := r9.Len) rfl rfl rfl rfl XK (i := 5) rfl (by intro h cs hr; subst hr; rfl)) ?_
           rintro _ ⟨p18', rfl⟩ a' w' hs'
           exact hK a' w' ⟨p13, p14, p15, p16, p17, p18', hs'.putF (i := 19) rfl [] [0, 1, 2, 3, 4, 5, 7] rfl rfl rfl rfl⟩
          ·intro L a w hv K Q hK
           obtain ⟨p13, p14, p15, p16, p17, p18, hs⟩ := hv
           exact wYs rfl rfl rfl hs (cgb hg6) (QC rfl rfl rfl rfl Xc (i := 6) rfl rfl) fun a w hs => hK a w ⟨p13, p14, p15, p16, p17, p18, pF hs 20 [] [0, 1, 2, 3, 4, 5, 6] rfl⟩
          ·intro L a w hv K Q hK
           obtain ⟨p13, p14, p15, p16, p17, p18, hs⟩ := hv
           exact wYs rfl rfl rfl hs (cgb hg6) (Qg rfl rfl rfl rfl rfl (Zu (a := r9.Len) (b := (1 : UInt64)))) fun a w hs => hK a w ⟨p13, p14, p15, p16, p17, p18, pF hs 21 [] [0, 1, 2, 3, 4, 5, 6] rfl⟩
          ·intro L a w hv K Q hK
           obtain ⟨p13, p14, p15, p16, p17, p18, hs⟩ := hv
           exact wYs rfl rfl rfl hs (cgb hg6) (Qg rfl rfl rfl rfl rfl (Zb (a := r8.At) (b := r9.Len - (1 : UInt64)))) fun a w hs => hK a w ⟨p13, p14, p15, p16, p17, p18, pF hs 22 [] [0, 1, 2, 3, 4, 5, 6] rfl⟩
          ·intro L a w hL hv
           rw [QZ hL] at hv
           obtain ⟨p13, p14, p15, p16, p17, p18, hs⟩ := hv
           refine (show TA _ _ _ 22 ⟨[(0, some vl1), (3, some (vU64 (sum1 + r6.Len))), (4, some (vI i1)), (57, some (vB (decide (i1 > (0 : Int))))), (62, some (vU64 r7.At)), (76, some (vU64 (r8.At + (r9.Len - (1 : UInt64)))))], [], [Fact.sl Qf vl1 l]⟩ from ?_) a w (hs.wkS [0, 3, 4, 57, 62, 76] [] [0] rfl rfl rfl rfl)
           clear hs hL
           refine Yh htb (by kernel_rfl) rfl rfl rfl (cgb hg6) (Qg rfl rfl rfl rfl rfl (bin_leq_u64 (a := r7.At) (b := r8.At + (r9.Len - (1 : UInt64))))) ?_
           rintro _ rfl
           refine QL htb (by kernel_rfl) rfl rfl (Qw rfl rfl rfl (cgb hg6) rfl) ?_
           refine ZW rfl ?_
           refine tW [(0, some vl1), (3, some (vU64 (sum1 + r6.Len))), (4, some (vI i1)), (78, some (vB (decide (r7.At ≤ (r8.At + (r9.Len - (1 : UInt64)))))))] [] [Fact.sl Qf vl1 l] [0, 3, 4, 78] [] [0] rfl ?_
           rcases bC (decide (r7.At ≤ (r8.At + (r9.Len - (1 : UInt64))))) with hg7 | hg7
           ·replace h := br_t hg7 h
            refine Ql (cgb hg7) ?_
            refine Qe (Qb (sAs rfl rfl rfl ?_))
            refine nW [(2, some (vI (2 : Int)))] [] [] [2] [] [] rfl ?_
            obtain rfl := Option.some.inj h
            exact Qn rfl rfl (resA (vs := [vI (2 : Int)]) rfl ⟨rfl, trivial⟩) [] [] rfl rfl rfl ⟨rfl, rfl, rfl⟩
           ·replace h := br_f hg7 h
            refine Qm (cgb hg7) ?_
            refine Qr (Zk (Qb (sMv rfl rfl rfl ?_)))
            refine Qa rfl (Qg rfl rfl rfl rfl rfl (Qx (a := i1) (b := (1 : Int)))) ?_
            refine sAs rfl rfl rfl ?_
            refine nW [(0, some vl1), (3, some (vU64 (sum1 + r6.Len))), (4, some (vI (wi (i1 + (1 : Int)))))] [] [Fact.sl Qf vl1 l] [0, 3, 4] [] [0] rfl ?_
            exact QN (sum1 + r6.Len, wi (i1 + (1 : Int))) h [0, 3, 4] [] [0] rfl rfl rfl rfl rfl
         ·replace h := br_f hg6 h
          refine Zs (lo := 3) (hi := 22) htb rfl rfl (by kernel_rfl) (fun c L a w => Sat c ⟨[(0, some vl1), (3, some (vU64 (sum1 + r6.Len))), (4, some (vI i1)), (57, some (vB (decide (i1 > (0 : Int))))), (58, bif L 3 then some (undef) else none), (59, bif L 4 then some (undef) else none), (60, bif L 5 then some (undef) else none), (61, bif L 6 then some (undef) else none), (62, bif L 7 then some (undef) else none), (63, bif L 8 then some (undef) else none), (64, bif L 9 then some (undef) else none), (65, bif L 10 then some (undef) else none), (66, bif L 11 then some (undef) else none), (67, bif L 12 then some (undef) else none), (68, bif L 13 then some (undef) else none), (69, bif L 14 then some (undef) else none), (70, bif L 15 then some (undef) else none), (71, bif L 16 then some (undef) else none), (72, bif L 17 then some (undef) else none), (73, bif L 18 then some (undef) else none), (74, bif L 19 then some (undef) else none), (75, bif L 20 then some (undef) else none), (76, bif L 21 then some (undef) else none)], [], [Fact.sl Qf vl1 l]⟩ a w) [([], [5, 6, 7]), ([], [5, 6, 7]), ([3, 4], [6, 7]), ([3, 4, 5], [7]), ([3, 4, 5, 6], []), ([], [11, 12, 13, 21]), ([], [10, 11, 12, 13, 21]), ([9], [11, 12, 13, 21]), ([8, 9, 10], [12, 13, 21]), ([8, 9, 10, 11], [13, 21]), ([8, 9, 10, 11, 12], [21]), ([], [17, 18, 19, 20, 21]), ([], [16, 17, 18, 19, 20, 21]), ([15], [17, 18, 19, 20, 21]), ([14, 15, 16], [18, 19, 20, 21]), ([14, 15, 16, 17], [19, 20, 21]), ([14, 15, 16, 17, 18], [20, 21]), ([14, 15, 16, 17, 18, 19], [21]), ([8, 9, 10, 11, 12, 13, 14, 15, 16, 17, 18, 19, 20], [])] rfl (by kernel_rfl) ?_ (Qc ?_ (Qc ?_ (Qc ?_ (Qc ?_ (Qc ?_ (Qc ?_ (Qc ?_ (Qc ?_ (Qc ?_ (Qc ?_ (Qc ?_ (Qc ?_ (Qc ?_ (Qc ?_ (Qc ?_ (Qc ?_ (Qc ?_ (Qc ?_ (Qc ?_ (QH)))))))))))))))))))) ?_
          ·intro a w hs
           exact hs.startF [58, 59, 60, 61, 62, 63, 64, 65, 66, 67, 68, 69, 70, 71, 72, 73, 74, 75, 76] [] [0] rfl rfl rfl rfl
          ·intro L a w hs K Q hK
           exact Qy rfl rfl rfl hs (cgb hg6) rfl rfl fun a w hs => hK a w (pF hs 4 [] [0] rfl)
          ·intro L a w hs K Q hK
           exact Qy rfl rfl rfl hs (cgb hg6) rfl rfl fun a w hs => hK a w (pF hs 5 [] [0] rfl)
          ·intro L a w hs K Q hK
           exact Qy rfl rfl rfl hs (cgb hg6) rfl rfl fun a w hs => hK a w (pF hs 6 [] [0] rfl)
          ·intro L a w hs K Q hK
           exact Qy rfl rfl rfl hs (cgb hg6) rfl rfl fun a w hs => hK a w (pF hs 7 [] [0] rfl)
          ·intro L a w hs K Q hK
           exact Qy rfl rfl rfl hs (cgb hg6) rfl rfl fun a w hs => hK a w (pF hs 8 [] [0] rfl)
          ·intro L a w hs K Q hK
           exact Qy rfl rfl rfl hs (cgb hg6) rfl rfl fun a w hs => hK a w (pF hs 9 [] [0] rfl)
          ·intro L a w hs K Q hK
           exact Qy rfl rfl rfl hs (cgb hg6) rfl rfl fun a w hs => hK a w (pF hs 10 [] [0] rfl)
          ·intro L a w hs K Q hK
           exact Qy rfl rfl rfl hs (cgb hg6) rfl rfl fun a w hs => hK a w (pF hs 11 [] [0] rfl)
          ·intro L a w hs K Q hK
           exact Qy rfl rfl rfl hs (cgb hg6) rfl rfl fun a w hs => hK a w (pF hs 12 [] [0] rfl)
          ·intro L a w hs K Q hK
           exact Qy rfl rfl rfl hs (cgb hg6) rfl rfl fun a w hs => hK a w (pF hs 13 [] [0] rfl)
          ·intro L a w hs K Q hK
           exact Qy rfl rfl rfl hs (cgb hg6) rfl rfl fun a w hs => hK a w (pF hs 14 [] [0] rfl)
          ·intro L a w hs K Q hK
           exact Qy rfl rfl rfl hs (cgb hg6) rfl rfl fun a w hs => hK a w (pF hs 15 [] [0] rfl)
          ·intro L a w hs K Q hK
           exact Qy rfl rfl rfl hs (cgb hg6) rfl rfl fun a w hs => hK a w (pF hs 16 [] [0] rfl)
          ·intro L a w hs K Q hK
           exact Qy rfl rfl rfl hs (cgb hg6) rfl rfl fun a w hs => hK a w (pF hs 17 [] [0] rfl)
          ·intro L a w hs K Q hK
           exact Qy rfl rfl rfl hs (cgb hg6) rfl rfl fun a w hs => hK a w (pF hs 18 [] [0] rfl)
          ·intro L a w hs K Q hK
           exact Qy rfl rfl rfl hs (cgb hg6) rfl rfl fun a w hs => hK a w (pF hs 19 [] [0] rfl)
          ·intro L a w hs K Q hK
           exact Qy rfl rfl rfl hs (cgb hg6) rfl rfl fun a w hs => hK a w (pF hs 20 [] [0] rfl)
          ·intro L a w hs K Q hK
           exact Qy rfl rfl rfl hs (cgb hg6) rfl rfl fun a w hs => hK a w (pF hs 21 [] [0] rfl)
          ·intro L a w hs K Q hK
           exact Qy rfl rfl rfl hs (cgb hg6) rfl rfl fun a w hs => hK a w (pF hs 22 [] [0] rfl)
          ·intro L a w hL hv
           rw [QZ hL] at hv
           have hs := hv
           refine (show TA _ _ _ 22 ⟨[(0, some vl1), (3, some (vU64 (sum1 + r6.Len))), (4, some (vI i1)), (57, some (vB (decide (i1 > (0 : Int))))), (62, some undef), (76, some undef)], [], [Fact.sl Qf vl1 l]⟩ from ?_) a w (hs.wkS [0, 3, 4, 57, 62, 76] [] [0] rfl rfl rfl rfl)
           clear hs hL
           refine YM htb (by kernel_rfl) rfl rfl rfl (cgb hg6) rfl rfl ?_
           refine QL htb (by kernel_rfl) rfl rfl (Qu rfl rfl rfl (cgb hg6) rfl) ?_
           refine ZW rfl ?_
           refine tW [(0, some vl1), (3, some (vU64 (sum1 + r6.Len))), (4, some (vI i1)), (78, some (vB false))] [] [Fact.sl Qf vl1 l] [0, 3, 4, 78] [] [0] rfl ?_
           refine Qm rfl ?_
           refine Qr (Zk (Qb (sMv rfl rfl rfl ?_)))
           refine Qa rfl (Qg rfl rfl rfl rfl rfl (Qx (a := i1) (b := (1 : Int)))) ?_
           refine sAs rfl rfl rfl ?_
           refine nW [(0, some vl1), (3, some (vU64 (sum1 + r6.Len))), (4, some (vI (wi (i1 + (1 : Int)))))] [] [Fact.sl Qf vl1 l] [0, 3, 4] [] [0] rfl ?_
           exact QN (sum1 + r6.Len, wi (i1 + (1 : Int))) h [0, 3, 4] [] [0] rfl rfl rfl rfl rfl
  ·replace h := br_f hg2 h
   refine Qm (cgb hg2) ?_
   refine Zf _ rfl ?_
   refine Qe (Qe (Qb (sMv rfl rfl rfl ?_)))
   refine Qa rfl (Qg rfl rfl rfl rfl rfl (Ys (a := sum1) (b := (1048576 : UInt64)))) ?_
   refine nW [(80, some (vB (decide (sum1 > (1048576 : UInt64)))))] [] [] [80] [] [] rfl ?_
   rcases bC (decide (sum1 > (1048576 : UInt64))) with hg8 | hg8
   ·replace h := br_t hg8 h
    refine Ql (cgb hg8) ?_
    refine Qe (Qb (sAs rfl rfl rfl ?_))
    refine nW [(2, some (vI (2 : Int)))] [] [] [2] [] [] rfl ?_
    obtain rfl := Option.some.inj h
    exact Qn rfl rfl (resA (vs := [vI (2 : Int)]) rfl ⟨rfl, trivial⟩) [] [] rfl rfl rfl ⟨rfl, rfl, rfl⟩
   ·replace h := br_f hg8 h
    refine Qm (cgb hg8) ?_
    refine Qr (Qe (Qb (sAs rfl rfl rfl ?_)))
    refine nW [(2, some (vI (0 : Int)))] [] [] [2] [] [] rfl ?_
    obtain rfl := Option.some.inj h
    exact Qn rfl rfl (resA (vs := [vI (0 : Int)]) rfl ⟨rfl, trivial⟩) [] [] rfl rfl rfl ⟨rfl, rfl, rfl⟩

set_option maxRecDepth 100000 in
set_option maxHeartbeats 4000000 in
theorem w_ref_New02 {l : List Region} {vl1 : Value} {r : ((Option dumbwaiterref02_Mem) × Int)} (h : ref_New02 l = some r) :
  Ctr Try.prog 13 #[vl1] [] [Fact.sl Qf vl1 l]
   (fun rv own shr => ∃ (w1 : Value), rv = .tuple #[w1, vI r.2] ∧ own = [(optR 84 Qf u8S false dumbwaiterref02_Mem.L dumbwaiterref02_Mem.B w1 r.1)] ∧ shr = []) := by
 unfold ref_New02 at h
 refine Ctr.mk (args := [vl1]) Try.func13 rfl rfl (fun R0 w0 B => ?_)
 refine Qe (Qb (sAs rfl rfl rfl ?_))
 refine sAs rfl rfl rfl ?_
 refine nW [(0, some vl1)] [] [Fact.sl Qf vl1 l] [0] [] [0] rfl ?_
 refine Qe (Qe (Qb (sMv rfl rfl rfl ?_)))
 obtain ⟨check1, hx1, h⟩ := ob_e h
 refine Qt rfl (QO (w_ref_Check02 hx1) [] [0] rfl rfl rfl rfl rfl callee35 rfl rfl rfl rfl) ?_
 rintro _ ⟨_, _, _, ⟨rfl, rfl, rfl⟩, rfl⟩
 refine Qa rfl (Qg rfl rfl rfl rfl rfl (QU (a := check1) (b := (0 : Int)))) ?_
 refine nW [(0, some vl1), (8, some (vB (check1 != (0 : Int))))] [] [Fact.sl Qf vl1 l] [0, 8] [] [0] rfl ?_
 rcases bC (check1 != (0 : Int)) with hg1 | hg1
 ·replace h := br_t hg1 h
  refine Ql (cgb hg1) ?_
  refine Qe (Qb (sAs rfl rfl rfl ?_))
  refine sAs rfl rfl rfl ?_
  refine nW [(2, some (.pointer none)), (3, some (vI (2 : Int)))] [] [] [2, 3] [] [] rfl ?_
  refine Tk_nilopt 84 Qf u8S false dumbwaiterref02_Mem.L dumbwaiterref02_Mem.B ?_
  obtain rfl := Option.some.inj h
  exact Qn rfl rfl (resA (vs := [.pointer none, vI (2 : Int)]) rfl ⟨rfl, rfl, trivial⟩) [0] [] rfl rfl rfl ⟨(.pointer none), rfl, rfl, rfl⟩
 ·replace h := br_f hg1 h
  refine Qm (cgb hg1) ?_
  refine Qr (Qe (Qb (Qq rfl (QF (S := Qf) (xs := ([] : List Region)) (css := []) (cs := []) (e := 75) rfl rfl rfl rfl (bldF slF42 (by decide) (by kernel_rfl)) rfl rfl rfl rfl (Ze (S := Qf) (xs := ([] : List Region)) (css := []) rfl rfl)) fun v1 => ?_)))
  refine sMv rfl rfl rfl ?_
  obtain ⟨hc1, h⟩ := Zi h
  refine Qq rfl (ZS rfl rfl rfl rfl rfl slF42 (i := 0) (j := 0) rfl rfl hc1) fun v2 => ?_
  refine Qa rfl (OpT_build1 (fun z0 => [(0, z0)]) (fun z0 => [z0, .slice none 0 0]) rfl rfl rfl rfl (is_row (i := 0) rfl) (by intros; kernel_rfl)) ?_
  refine Tops_vs (vs_nilrows (S := u8S)) ?_
  refine Qq rfl (YG rfl rfl rfl rfl) fun b1 => ?_
  refine sAs rfl rfl rfl ?_
  refine nW [(0, some vl1), (4, some (.pointer (some ⟨b1, 0, none⟩)))] [some (rowS Qf v2 l), some (Qj u8S false (.slice none 0 0) [] ([] : List (List UInt8)) none), some (Qd b1 84 [v2, .slice none 0 0])] [Fact.sl Qf vl1 l] [0, 4] [0, 1, 2] [0] rfl ?_
  refine Qe (Qe (Qb (sAs rfl rfl rfl ?_)))
  refine QT (Qz (Zc (σ := (List Region) × (List (List UInt8)) × Int × Value × Value × (List Value)) [0, 4, 5] [2, 0, 1] [0] (fun s => ⟨[(0, some vl1), (4, some (.pointer (some ⟨b1, 0, none⟩))), (5, some (vI s.2.2.1))], [some (Qd b1 84 [s.2.2.2.1, s.2.2.2.2.1]), some (rowS Qf s.2.2.2.1 s.1), some (Qj u8S false s.2.2.2.2.1 s.2.2.2.2.2 s.2.1 none)], [Fact.sl Qf vl1 l]⟩) (fun nf1 s => ref_New02L1 l nf1 s.1 s.2.1 s.2.2.1 = some r) fuel (l, ([] : List (List UInt8)), (0 : Int), v2, (.slice none 0 0), []) h rfl rfl rfl rfl rfl (fun s h => by cases h) ?_))
  rintro nf1 ⟨l1, rows1, i1, v3, v4, vs1⟩ h
  replace h : ref_New02L1B l (ref_New02L1 l nf1) l1 rows1 i1 = some r := h
  unfold ref_New02L1B at h
  refine Qe (Qe (Qb (sMv rfl rfl rfl ?_)))
  refine sMv rfl rfl rfl ?_
  refine Qa rfl (QB rfl rfl rfl rfl Try.underlying42 (i := 0) rfl) ?_
  refine Qa rfl (Qg rfl rfl rfl rfl rfl (QK (a := i1) (b := len l))) ?_
  refine nW [(0, some vl1), (4, some (.pointer (some ⟨b1, 0, none⟩))), (5, some (vI i1)), (17, some (vB (decide (i1 < (len l)))))] [some (Qd b1 84 [v3, v4]), some (rowS Qf v3 l1), some (Qj u8S false v4 vs1 rows1 none)] [Fact.sl Qf vl1 l] [0, 4, 5, 17] [0, 1, 2] [0] rfl ?_
  rcases bC (decide (i1 < (len l))) with hg2 | hg2
  ·replace h := br_t hg2 h
   refine Ql (cgb hg2) ?_
   refine Qr (Qe (Qz (Zw (by kernel_rfl) ?_)))
   refine TA_tb [0, 0, 2, 6, 14, 0, 0, 96, 224, 480, 992, 2016, 4094, 8191, 16383, 32767] (by kernel_rfl) fun htb => ?_
   refine Xy (fr' := [(0, some vl1), (4, some (.pointer (some ⟨b1, 0, none⟩))), (5, some (vI i1))]) (own' := [some (Qd b1 84 [v3, v4]), some (rowS Qf v3 l1), some (Qj u8S false v4 vs1 rows1 none)]) (shr' := [Fact.sl Qf vl1 l]) [0, 4, 5] [0, 1, 2] [0] rfl rfl rfl rfl ?_
   obtain ⟨r1, hx2, h⟩ := ob_e h
   obtain ⟨hc2, h⟩ := Zi h
   obtain ⟨hc3, h⟩ := Zi h
   refine Zs (lo := 0) (hi := 13) htb rfl rfl (by kernel_rfl) (fun c L a w => ∃ (p1 : Value), ∃ (p2 : Value), ∃ (v5 : Value), ∃ (v6 : Value), ∃ (pp1 : Value × List Value), Sat c ⟨[(0, some vl1), (4, some (.pointer (some ⟨b1, 0, none⟩))), (5, some (vI i1)), (20, bif L 0 then some (.pointer (some ⟨b1, 0, none⟩)) else none), (21, bif L 1 then some (.pointer (some ⟨b1, 0, none⟩)) else none), (22, bif L 2 then some (.pointer (some ⟨b1, 0, none⟩)) else none), (23, bif L 3 then some (.pointer (some ⟨b1, 1, none⟩)) else none), (24, bif L 4 then some (v4) else none), (25, bif L 5 then some (vl1) else none), (26, bif L 6 then some (vI i1) else none), (27, bif L 7 then some (p1) else none), (28, bif L 8 then some (p2) else none), (29, bif L 9 then some (vU64 r1.Len) else none), (30, bif L 10 then some (v5) else none), (31, bif L 11 then some (v6) else none), (32, bif L 12 then some (pp1.1) else none)], [(some (Qd b1 84 [v3, v4]) : Option Res), (some (rowS Qf v3 l1) : Option Res), (bif L 12 then some (Qj u8S false pp1.1 pp1.2 (rows1 ++ [List.replicate (Int.toNat (r1.Len.toNat : Int)) (0 : UInt8)]) none) else some (Qj u8S false v4 vs1 rows1 none) : Option Res), (bif L 12 then none else bif L 10 then some (rowS u8S v5 (List.replicate (Int.toNat (r1.Len.toNat : Int)) (0 : UInt8))) else none : Option Res), (bif L 12 then none else bif L 11 then some (rowS valS v6 [v5]) else none : Option Res)], [Fact.sl Qf vl1 l, (bif L 7 then Fact.pt Qf p1 r1 else Fact.tt), (bif L 8 then Fact.pt u64S p2 r1.Len else Fact.tt)]⟩ a w) [([], []), ([], [2, 3, 4, 12]), ([1], [3, 4, 12]), ([1, 2], [4, 12]), ([1, 2, 3], [12]), ([], [7, 8, 9, 10, 11, 12]), ([], [7, 8, 9, 10, 11, 12]), ([5, 6], [8, 9, 10, 11, 12]), ([5, 6, 7], [9, 10, 11, 12]), ([5, 6, 7, 8], [10, 11, 12]), ([5, 6, 7, 8, 9], [11, 12]), ([5, 6, 7, 8, 9, 10], [12]), ([1, 2, 3, 4, 5, 6, 7, 8, 9, 10, 11], [])] rfl (by kernel_rfl) ?_ (Qc ?_ (Qc ?_ (Qc ?_ (Qc ?_ (Qc ?_ (Qc ?_ (Qc ?_ (Qc ?_ (Qc ?_ (Qc ?_ (Qc ?_ (Qc ?_ (Qc ?_ (QH)))))))))))))) ?_
   ·intro a w hs
    exact ⟨undef, undef, undef, undef, (undef, []), hs.startF [20, 21, 22, 23, 24, 25, 26, 27, 28, 29, 30, 31, 32] [0, 1, 2, 3, 4] [0, 1, 2] rfl rfl rfl rfl⟩
   ·intro L a w hv K Q hK
    obtain ⟨p1, p2, v5, v6, pp1, hs⟩ := hv
    exact wGo rfl rfl hs (Qk rfl rfl rfl rfl) fun a w hs => hK a w ⟨p1, p2, v5, v6, pp1, pF hs 3 [0, 1, 2, 3, 4] [0, 1, 2] rfl⟩
   ·intro L a w hv K Q hK
    obtain ⟨p1, p2, v5, v6, pp1, hs⟩ := hv
    exact wGo rfl rfl hs (Qk rfl rfl rfl rfl) fun a w hs => hK a w ⟨p1, p2, v5, v6, pp1, pF hs 4 [0, 1, 2, 3, 4] [0, 1, 2] rfl⟩
   ·intro L a w hv K Q hK
    obtain ⟨p1, p2, v5, v6, pp1, hs⟩ := hv
    exact wGo rfl rfl hs (QP rfl rfl rfl rfl) fun a w hs => hK a w ⟨p1, p2, v5, v6, pp1, pF hs 5 [0, 1, 2, 3, 4] [0, 1, 2] rfl⟩
   ·intro L a w hv K Q hK
    obtain ⟨p1, p2, v5, v6, pp1, hs⟩ := hv
    exact wGo rfl rfl hs (Qo rfl rfl rfl rfl fldF84x1) fun a w hs => hK a w ⟨p1, p2, v5, v6, pp1, pF hs 6 [0, 1, 2, 3, 4] [0, 1, 2] rfl⟩
   ·intro L a w hv K Q hK
    obtain ⟨p1, p2, v5, v6, pp1, hs⟩ := hv
    exact wGo rfl rfl hs (Qp rfl rfl rfl rfl tyF80 (i := 0) rfl rfl) fun a w hs => hK a w ⟨p1, p2, v5, v6, pp1, pF hs 7 [0, 1, 2, 3, 4] [0, 1, 2] rfl⟩
   ·intro L a w hv K Q hK
    obtain ⟨p1, p2, v5, v6, pp1, hs⟩ := hv
    exact wGo rfl rfl hs (Qk rfl rfl rfl rfl) fun a w hs => hK a w ⟨p1, p2, v5, v6, pp1, pF hs 8 [0, 1, 2, 3, 4] [0, 1, 2] rfl⟩
   ·intro L a w hv K Q hK
    obtain ⟨p1, p2, v5, v6, pp1, hs⟩ := hv
    exact wGo rfl rfl hs (Qk rfl rfl rfl rfl) fun a w hs => hK a w ⟨p1, p2, v5, v6, pp1, pF hs 9 [0, 1, 2, 3, 4] [0, 1, 2] rfl⟩
   ·intro L a w hv K Q hK
    obtain ⟨p1, p2, v5, v6, pp1, hs⟩ := hv
    refine QG rfl rfl hs (QA rfl rfl rfl rfl rfl slF42 (i := 0) rfl hx2) ?_
    rintro _ ⟨p1', rfl⟩ a' w' hs'
    exact hK a' w' ⟨p1', p2, v5, v6, pp1, hs'.putF (i := 10) rfl [0, 1, 2, 3, 4] [0, 3, 2] rfl rfl rfl rfl⟩
   ·intro L a w hv K Q hK
    obtain ⟨p1, p2, v5, v6, pp1, hs⟩ := hv
    refine QG rfl rfl hs (QJ (S' := u64S) (y := r1.Len) rfl rfl rfl rfl XK (i := 1) rfl (by intro h cs hr; subst hr; rfl)) ?_
    rintro _ ⟨p2', rfl⟩ a' w' hs'
    exact hK a' w' ⟨p1, p2', v5, v6, pp1, hs'.putF (i := 11) rfl [0, 1, 2, 3, 4] [0, 1, 3] rfl rfl rfl rfl⟩
   ·intro L a w hv K Q hK
    obtain ⟨p1, p2, v5, v6, pp1, hs⟩ := hv
    exact wGo rfl rfl hs (QC rfl rfl rfl rfl Xc (i := 2) rfl rfl) fun a w hs => hK a w ⟨p1, p2, v5, v6, pp1, pF hs 12 [0, 1, 2, 3, 4] [0, 1, 2] rfl⟩
   ·intro L a w hv K Q hK
    obtain ⟨p1, p2, v5, v6, pp1, hs⟩ := hv
    refine QG rfl rfl hs (OpT_makeK u8S rfl (u := (0 : UInt8)) rfl rfl rfl rfl rfl Xg rfl hc2) ?_
    rintro _ ⟨v5', rfl⟩ a' w' hs'
    exact hK a' w' ⟨p1, p2, v5', v6, pp1, hs'.putF (i := 13) rfl [0, 1, 2, 5, 4] [0, 1, 2] rfl rfl rfl rfl⟩
   ·intro L a w hv K Q hK
    obtain ⟨p1, p2, v5, v6, pp1, hs⟩ := hv
    refine QG rfl rfl hs (OpT_buildV (u := v5) rfl rfl rfl rfl slF80 (i := 3) rfl) ?_
    rintro _ ⟨v6', rfl⟩ a' w' hs'
    exact hK a' w' ⟨p1, p2, v5, v6', pp1, hs'.putF (i := 14) rfl [0, 1, 2, 3, 5] [0, 1, 2] rfl rfl rfl rfl⟩
   ·intro L a w hv K Q hK
    obtain ⟨p1, p2, v5, v6, pp1, hs⟩ := hv
    refine QG rfl rfl hs (OpT_appendRows (u := v5) rfl rfl rfl rfl rfl slF80 (i := 2) (j := 4) (q := 3) rfl rfl rfl rfl rfl rfl hc3) ?_
    rintro _ ⟨pp1', rfl⟩ a' w' hs'
    exact hK a' w' ⟨p1, p2, v5, v6, pp1', hs'.putF (i := 15) rfl [0, 1, 2, 3, 4] [0, 1, 2] rfl rfl rfl rfl⟩
   ·intro L a w hL hv
    rw [QZ hL] at hv
    obtain ⟨p1, p2, v5, v6, pp1, hs⟩ := hv
    refine (show TA _ _ _ 13 ⟨[(0, some vl1), (4, some (.pointer (some ⟨b1, 0, none⟩))), (5, some (vI i1)), (20, some (.pointer (some ⟨b1, 0, none⟩))), (32, some (pp1.1))], [some (Qd b1 84 [v3, v4]), some (rowS Qf v3 l1), some (Qj u8S false pp1.1 pp1.2 (rows1 ++ [List.replicate (Int.toNat (r1.Len.toNat : Int)) (0 : UInt8)]) none)], [Fact.sl Qf vl1 l]⟩ from ?_) a w (hs.wkS [0, 4, 5, 20, 32] [0, 1, 2] [0] rfl rfl rfl rfl)
    clear hs hL
    refine QL htb (by kernel_rfl) rfl rfl (QP rfl rfl rfl rfl) ?_
    refine QL htb (by kernel_rfl) rfl rfl (Qo rfl rfl rfl rfl fldF84x1) ?_
    refine QL htb (by kernel_rfl) rfl rfl (OpT_storeV (cs' := [v3, pp1.1]) rfl rfl rfl rfl tyF80 (i := 0) rfl (is_rows (i := 2) rfl) rfl rfl) ?_
    refine ZW rfl ?_
    refine tW [(0, some vl1), (4, some (.pointer (some ⟨b1, 0, none⟩))), (5, some (vI i1))] [some (Qd b1 84 [v3, pp1.1]), some (rowS Qf v3 l1), some (Qj u8S false pp1.1 pp1.2 (rows1 ++ [List.replicate (Int.toNat (r1.Len.toNat : Int)) (0 : UInt8)]) none)] [Fact.sl Qf vl1 l] [0, 4, 5] [0, 1, 2] [0] rfl ?_
    refine Zk (Qb (sMv rfl rfl rfl ?_))
    refine Qa rfl (Qg rfl rfl rfl rfl rfl (Qx (a := i1) (b := (1 : Int)))) ?_
    refine sAs rfl rfl rfl ?_
    refine nW [(0, some vl1), (4, some (.pointer (some ⟨b1, 0, none⟩))), (5, some (vI (wi (i1 + (1 : Int)))))] [some (Qd b1 84 [v3, pp1.1]), some (rowS Qf v3 l1), some (Qj u8S false pp1.1 pp1.2 (rows1 ++ [List.replicate (Int.toNat (r1.Len.toNat : Int)) (0 : UInt8)]) none)] [Fact.sl Qf vl1 l] [0, 4, 5] [0, 1, 2] [0] rfl ?_
    exact QN (l1, rows1 ++ [List.replicate (Int.toNat (r1.Len.toNat : Int)) (0 : UInt8)], wi (i1 + (1 : Int)), v3, pp1.1, pp1.2) h [0, 4, 5] [0, 1, 2] [0] rfl rfl rfl rfl rfl
  ·replace h := br_f hg2 h
   refine Qm (cgb hg2) ?_
   refine Zf _ rfl ?_
   refine Qe (Qb (sMv rfl rfl rfl ?_))
   refine sAs rfl rfl rfl ?_
   refine sAs rfl rfl rfl ?_
   refine nW [(2, some (.pointer (some ⟨b1, 0, none⟩))), (3, some (vI (0 : Int)))] [some (Qd b1 84 [v3, v4]), some (rowS Qf v3 l1), some (Qj u8S false v4 vs1 rows1 none)] [] [2, 3] [0, 1, 2] [] rfl ?_
   refine Tk_retire (i := 1) rfl ?_
   refine Tk_vs (vs_fold (fl := dumbwaiterref02_Mem.L) (fb := dumbwaiterref02_Mem.B) (dumbwaiterref02_Mem.mk l1 rows1) (i := 0) (j := 2) rfl rfl rfl (q := 0) rfl rfl rfl) ?_
   obtain rfl := Option.some.inj h
   exact Qn rfl rfl (resA (vs := [.pointer (some ⟨b1, 0, none⟩), vI (0 : Int)]) rfl ⟨rfl, rfl, trivial⟩) [0] [] rfl rfl rfl ⟨(.pointer (some ⟨b1, 0, none⟩)), rfl, rfl, rfl⟩

set_option maxRecDepth 100000 in
set_option maxHeartbeats 4000000 in
theorem w_gmem_Mem_made {m : gmem_Mem} {b_m : Nat} {vm1 : Value} {vm2 : Value} {vsm1 : List Value} {r : Bool} (h : XF m = some r) :
  Ctr Try.prog 39 #[.pointer (some ⟨b_m, 0, none⟩)] [(Qd b_m 82 [vm1, vm2]), (Qj u8S true vm2 vsm1 m.b none)] [Fact.sl Qf vm1 m.l]
   (fun rv own shr => rv = vB r ∧ own = [(Qd b_m 82 [vm1, vm2]), (Qj u8S true vm2 vsm1 m.b none)] ∧ shr = []) := by
 unfold XF at h
 refine Ctr.mk (args := [.pointer (some ⟨b_m, 0, none⟩)]) Try.func39 rfl rfl (fun R0 w0 B => ?_)
 refine Qe (Qb (sAs rfl rfl rfl ?_))
 refine nW [(0, some (.pointer (some ⟨b_m, 0, none⟩)))] [some (Qd b_m 82 [vm1, vm2]), some (Qj u8S true vm2 vsm1 m.b none)] [Fact.sl Qf vm1 m.l] [0] [0, 1] [0] rfl ?_
 refine Qe (Qb (sMv rfl rfl rfl ?_))
 refine Qa rfl (OpT_ptrNil rfl rfl rfl (.inr rfl) rfl rfl ptrF39) ?_
 refine sMv rfl rfl rfl ?_
 refine Qi rfl rfl rfl (Qk rfl rfl rfl rfl) ?_
 rintro _ rfl
 refine Qi rfl rfl rfl (QP rfl rfl rfl rfl) ?_
 rintro _ rfl
 refine Qi rfl rfl rfl (Qo rfl rfl rfl rfl fldF82x1) ?_
 rintro _ rfl
 refine Qi rfl rfl rfl (Qp rfl rfl rfl rfl tyF80 (i := 0) rfl rfl) ?_
 rintro _ rfl
 refine Qi rfl rfl rfl (OpT_eqRows rfl rfl rfl (.inr rfl) rfl rfl Try.underlying80 (i := 1) rfl) ?_
 rintro _ rfl
 refine Qa rfl (Qw rfl rfl rfl rfl rfl) ?_
 refine sAs rfl rfl rfl ?_
 refine nW [(2, some (vB true))] [some (Qd b_m 82 [vm1, vm2]), some (Qj u8S true vm2 vsm1 m.b none)] [Fact.sl Qf vm1 m.l] [2] [0, 1] [0] rfl ?_
 obtain rfl := Option.some.inj h
 exact Qn rfl rfl (resA (vs := [vB true]) rfl ⟨rfl, trivial⟩) [0, 1] [] rfl rfl rfl ⟨rfl, rfl, rfl⟩

set_option maxRecDepth 100000 in
set_option maxHeartbeats 4000000 in
theorem w_gmem_Mem_bytes_1 {ip0 : Int} {arg1 : gmem_Mem} {arg2 : UInt64} {b_arg1 : Nat} {varg11 : Value} {varg12 : Value} {vsarg11 : List Value} {bb_arg1 : Nat} {b_arg2 : Nat} {r : Bool} (h : Yg ip0 arg1 arg2 = some r) :
  Ctr Try.prog 65 #[vI ip0, .pointer (some ⟨bb_arg1, 0, none⟩), .pointer (some ⟨b_arg2, 0, none⟩)] [(Qd bb_arg1 39 [.pointer (some ⟨b_arg1, 0, none⟩)]), (Qd b_arg1 82 [varg11, varg12]), (Qj u8S true varg12 vsarg11 arg1.b none), (Qd b_arg2 22 [vU64 arg2])] [Fact.sl Qf varg11 arg1.l]
   (fun rv own shr => rv = vB r ∧ own = [(Qd bb_arg1 39 [.pointer (some ⟨b_arg1, 0, none⟩)]), (Qd b_arg1 82 [varg11, varg12]), (Qj u8S true varg12 vsarg11 arg1.b none), (Qd b_arg2 22 [vU64 arg2])] ∧ shr = []) := by
 unfold Yg at h
 refine Ctr.mk (args := [vI ip0, .pointer (some ⟨bb_arg1, 0, none⟩), .pointer (some ⟨b_arg2, 0, none⟩)]) Try.func65 rfl rfl (fun R0 w0 B => ?_)
 refine Qe (Qb (sAs rfl rfl rfl ?_))
 refine nW [(0, some (vI ip0)), (1, some (.pointer (some ⟨bb_arg1, 0, none⟩))), (2, some (.pointer (some ⟨b_arg2, 0, none⟩)))] [some (Qd bb_arg1 39 [.pointer (some ⟨b_arg1, 0, none⟩)]), some (Qd b_arg1 82 [varg11, varg12]), some (Qj u8S true varg12 vsarg11 arg1.b none), some (Qd b_arg2 22 [vU64 arg2])] [Fact.sl Qf varg11 arg1.l] [0, 1, 2] [0, 1, 2, 3] [0] rfl ?_
 refine Qe (Zw (by kernel_rfl) ?_)
 refine TA_tb [0, 1, 3, 7, 0, 31, 63, 127, 255, 0, 512, 1536, 3584, 0, 15872, 32256, 65024, 131071, 0, 524287, 1048575] (by kernel_rfl) fun htb => ?_
 obtain ⟨r1, hx1, h⟩ := ob_e h
 obtain ⟨r2, hx2, h⟩ := ob_e h
 refine Zs (lo := 0) (hi := 19) htb rfl rfl (by kernel_rfl) (fun c L a w => ∃ (p1 : Value), ∃ (p2 : Value), ∃ (p3 : Value), ∃ (p4 : Value), Sat c ⟨[(0, some (vI ip0)), (1, some (.pointer (some ⟨bb_arg1, 0, none⟩))), (2, some (.pointer (some ⟨b_arg2, 0, none⟩))), (5, bif L 0 then some (.pointer (some ⟨b_arg1, 0, none⟩)) else none), (6, bif L 1 then some (.pointer (some ⟨b_arg1, 0, none⟩)) else none), (7, bif L 2 then some (.pointer (some ⟨b_arg1, 0, none⟩)) else none), (8, bif L 3 then some (varg11) else none), (9, bif L 4 then some (vI ip0) else none), (10, bif L 5 then some (p1) else none), (11, bif L 6 then some (p2) else none), (12, bif L 7 then some (vU64 r1.Len) else none), (13, bif L 8 then some (vU64 (r1.Len - (1 : UInt64))) else none), (14, bif L 9 then some (.pointer (some ⟨b_arg1, 0, none⟩)) else none), (15, bif L 10 then some (.pointer (some ⟨b_arg1, 0, none⟩)) else none), (16, bif L 11 then some (.pointer (some ⟨b_arg1, 0, none⟩)) else none), (17, bif L 12 then some (varg11) else none), (18, bif L 13 then some (vI ip0) else none), (19, bif L 14 then some (p3) else none), (20, bif L 15 then some (p4) else none), (21, bif L 16 then some (vU64 r2.At) else none), (22, bif L 17 then some (vU64 ((r1.Len - (1 : UInt64)) + r2.At)) else none), (23, bif L 18 then some (vU64 arg2) else none)], [(some (Qd bb_arg1 39 [.pointer (some ⟨b_arg1, 0, none⟩)]) : Option Res), (some (Qd b_arg1 82 [varg11, varg12]) : Option Res), (some (Qj u8S true varg12 vsarg11 arg1.b none) : Option Res), (some (Qd b_arg2 22 [vU64 arg2]) : Option Res)], [Fact.sl Qf varg11 arg1.l, (bif L 5 then Fact.pt Qf p1 r1 else Fact.tt), (bif L 6 then Fact.pt u64S p2 r1.Len else Fact.tt), (bif L 14 then Fact.pt Qf p3 r2 else Fact.tt), (bif L 15 then Fact.pt u64S p4 r2.At else Fact.tt)]⟩ a w) [([], [1, 2, 3, 5, 6, 7, 8, 17]), ([0], [2, 3, 5, 6, 7, 8, 17]), ([0, 1], [3, 5, 6, 7, 8, 17]), ([0, 1, 2], [5, 6, 7, 8, 17]), ([], [5, 6, 7, 8, 17]), ([0, 1, 2, 3, 4], [6, 7, 8, 17]), ([0, 1, 2, 3, 4, 5], [7, 8, 17]), ([0, 1, 2, 3, 4, 5, 6], [8, 17]), ([0, 1, 2, 3, 4, 5, 6, 7], [17]), ([], [10, 11, 12, 14, 15, 16, 17]), ([9], [11, 12, 14, 15, 16, 17]), ([9, 10], [12, 14, 15, 16, 17]), ([9, 10, 11], [14, 15, 16, 17]), ([], [14, 15, 16, 17]), ([9, 10, 11, 12, 13], [15, 16, 17]), ([9, 10, 11, 12, 13, 14], [16, 17]), ([9, 10, 11, 12, 13, 14, 15], [17]), ([0, 1, 2, 3, 4, 5, 6, 7, 8, 9, 10, 11, 12, 13, 14, 15, 16], []), ([], [])] rfl (by kernel_rfl) ?_ (Qc ?_ (Qc ?_ (Qc ?_ (Qc ?_ (Qc ?_ (Qc ?_ (Qc ?_ (Qc ?_ (Qc ?_ (Qc ?_ (Qc ?_ (Qc ?_ (Qc ?_ (Qc ?_ (Qc ?_ (Qc ?_ (Qc ?_ (Qc ?_ (Qc ?_ (QH)))))))))))))))))))) ?_
 ·intro a w hs
  exact ⟨undef, undef, undef, undef, hs.startF [5, 6, 7, 8, 9, 10, 11, 12, 13, 14, 15, 16, 17, 18, 19, 20, 21, 22, 23] [0, 1, 2, 3] [0, 1, 2, 3, 4] rfl rfl rfl rfl⟩
 ·intro L a w hv K Q hK
  obtain ⟨p1, p2, p3, p4, hs⟩ := hv
  exact wGo rfl rfl hs (Qp rfl rfl rfl rfl tyF39 (i := 0) rfl rfl) fun a w hs => hK a w ⟨p1, p2, p3, p4, pF hs 3 [0, 1, 2, 3] [0, 1, 2, 3, 4] rfl⟩
 ·intro L a w hv K Q hK
  obtain ⟨p1, p2, p3, p4, hs⟩ := hv
  exact wGo rfl rfl hs (QP rfl rfl rfl rfl) fun a w hs => hK a w ⟨p1, p2, p3, p4, pF hs 4 [0, 1, 2, 3] [0, 1, 2, 3, 4] rfl⟩
 ·intro L a w hv K Q hK
  obtain ⟨p1, p2, p3, p4, hs⟩ := hv
  exact wGo rfl rfl hs (Qo rfl rfl rfl rfl fldF82x0) fun a w hs => hK a w ⟨p1, p2, p3, p4, pF hs 5 [0, 1, 2, 3] [0, 1, 2, 3, 4] rfl⟩
 ·intro L a w hv K Q hK
  obtain ⟨p1, p2, p3, p4, hs⟩ := hv
  exact wGo rfl rfl hs (Qp rfl rfl rfl rfl tyF42 (i := 1) rfl rfl) fun a w hs => hK a w ⟨p1, p2, p3, p4, pF hs 6 [0, 1, 2, 3] [0, 1, 2, 3, 4] rfl⟩
 ·intro L a w hv K Q hK
  obtain ⟨p1, p2, p3, p4, hs⟩ := hv
  exact wGo rfl rfl hs (Qk rfl rfl rfl rfl) fun a w hs => hK a w ⟨p1, p2, p3, p4, pF hs 7 [0, 1, 2, 3] [0, 1, 2, 3, 4] rfl⟩
 ·intro L a w hv K Q hK
  obtain ⟨p1, p2, p3, p4, hs⟩ := hv
  refine QG rfl rfl hs (QA rfl rfl rfl rfl rfl slF42 (i := 0) rfl hx1) ?_
  rintro _ ⟨p1', rfl⟩ a' w' hs'
  exact hK a' w' ⟨p1', p2, p3, p4, hs'.putF (i := 8) rfl [0, 1, 2, 3] [0, 5, 2, 3, 4] rfl rfl rfl rfl⟩
 ·intro L a w hv K Q hK
  obtain ⟨p1, p2, p3, p4, hs⟩ := hv
  refine QG rfl rfl hs (QJ (S' := u64S) (y := r1.Len) rfl rfl rfl rfl XK (i := 1) rfl (by intro h cs hr; subst hr; rfl)) ?_
  rintro _ ⟨p2', rfl⟩ a' w' hs'
  exact hK a' w' ⟨p1, p2', p3, p4, hs'.putF (i := 9) rfl [0, 1, 2, 3] [0, 1, 5, 3, 4] rfl rfl rfl rfl⟩
 ·intro L a w hv K Q hK
  obtain ⟨p1, p2, p3, p4, hs⟩ := hv
  exact wGo rfl rfl hs (QC rfl rfl rfl rfl Xc (i := 2) rfl rfl) fun a w hs => hK a w ⟨p1, p2, p3, p4, pF hs 10 [0, 1, 2, 3] [0, 1, 2, 3, 4] rfl⟩
 ·intro L a w hv K Q hK
  obtain ⟨p1, p2, p3, p4, hs⟩ := hv
  exact wGo rfl rfl hs (Qg rfl rfl rfl rfl rfl (Zu (a := r1.Len) (b := (1 : UInt64)))) fun a w hs => hK a w ⟨p1, p2, p3, p4, pF hs 11 [0, 1, 2, 3] [0, 1, 2, 3, 4] rfl⟩
 ·intro L a w hv K Q hK
  obtain ⟨p1, p2, p3, p4, hs⟩ := hv
  exact wGo rfl rfl hs (Qp rfl rfl rfl rfl tyF39 (i := 0) rfl rfl) fun a w hs => hK a w ⟨p1, p2, p3, p4, pF hs 12 [0, 1, 2, 3] [0, 1, 2, 3, 4] rfl⟩
 ·intro L a w hv K Q hK
  obtain ⟨p1, p2, p3, p4, hs⟩ := hv
  exact wGo rfl rfl hs (QP rfl rfl rfl rfl) fun a w hs => hK a w ⟨p1, p2, p3, p4, pF hs 13 [0, 1, 2, 3] [0, 1, 2, 3, 4] rfl⟩
 ·intro L a w hv K Q hK
  obtain ⟨p1, p2, p3, p4, hs⟩ := hv
  exact wGo rfl rfl hs (Qo rfl rfl rfl rfl fldF82x0) fun a w hs => hK a w ⟨p1, p2, p3, p4, pF hs 14 [0, 1, 2, 3] [0, 1, 2, 3, 4] rfl⟩
 ·intro L a w hv K Q hK
  obtain ⟨p1, p2, p3, p4, hs⟩ := hv
  exact wGo rfl rfl hs (Qp rfl rfl rfl rfl tyF42 (i := 1) rfl rfl) fun a w hs => hK a w ⟨p1, p2, p3, p4, pF hs 15 [0, 1, 2, 3] [0, 1, 2, 3, 4] rfl⟩
 ·intro L a w hv K Q hK
  obtain ⟨p1, p2, p3, p4, hs⟩ := hv
  exact wGo rfl rfl hs (Qk rfl rfl rfl rfl) fun a w hs => hK a w ⟨p1, p2, p3, p4, pF hs 16 [0, 1, 2, 3] [0, 1, 2, 3, 4] rfl⟩
 ·intro L a w hv K Q hK
  obtain ⟨p1, p2, p3, p4, hs⟩ := hv
  refine QG rfl rfl hs (QA rfl rfl rfl rfl rfl slF42 (i := 0) rfl hx2) ?_
  rintro _ ⟨p3', rfl⟩ a' w' hs'
  exact hK a' w' ⟨p1, p2, p3', p4, hs'.putF (i := 17) rfl [0, 1, 2, 3] [0, 1, 2, 5, 4] rfl rfl rfl rfl⟩
 ·intro L a w hv K Q hK
  obtain ⟨p1, p2, p3, p4, hs⟩ := hv
  refine QG rfl rfl hs (QJ (S' := u64S) (y := r2.At) rfl rfl rfl rfl Yc (i := 3) rfl (by intro h cs hr; subst hr; rfl)) ?_
  rintro _ ⟨p4', rfl⟩ a' w' hs'
  exact hK a' w' ⟨p1, p2, p3, p4', hs'.putF (i := 18) rfl [0, 1, 2, 3] [0, 1, 2, 3, 5] rfl rfl rfl rfl⟩
 ·intro L a w hv K Q hK
  obtain ⟨p1, p2, p3, p4, hs⟩ := hv
  exact wGo rfl rfl hs (QC rfl rfl rfl rfl Xc (i := 4) rfl rfl) fun a w hs => hK a w ⟨p1, p2, p3, p4, pF hs 19 [0, 1, 2, 3] [0, 1, 2, 3, 4] rfl⟩
 ·intro L a w hv K Q hK
  obtain ⟨p1, p2, p3, p4, hs⟩ := hv
  exact wGo rfl rfl hs (Qg rfl rfl rfl rfl rfl (Zb (a := r1.Len - (1 : UInt64)) (b := r2.At))) fun a w hs => hK a w ⟨p1, p2, p3, p4, pF hs 20 [0, 1, 2, 3] [0, 1, 2, 3, 4] rfl⟩
 ·intro L a w hv K Q hK
  obtain ⟨p1, p2, p3, p4, hs⟩ := hv
  exact wGo rfl rfl hs (Qp rfl rfl rfl rfl Xc (i := 3) rfl rfl) fun a w hs => hK a w ⟨p1, p2, p3, p4, pF hs 21 [0, 1, 2, 3] [0, 1, 2, 3, 4] rfl⟩
 ·intro L a w hL hv
  rw [QZ hL] at hv
  obtain ⟨p1, p2, p3, p4, hs⟩ := hv
  refine (show TA _ _ _ 19 ⟨[(22, some (vU64 ((r1.Len - (1 : UInt64)) + r2.At))), (23, some (vU64 arg2))], [some (Qd bb_arg1 39 [.pointer (some ⟨b_arg1, 0, none⟩)]), some (Qd b_arg1 82 [varg11, varg12]), some (Qj u8S true varg12 vsarg11 arg1.b none), some (Qd b_arg2 22 [vU64 arg2])], [Fact.sl Qf varg11 arg1.l]⟩ from ?_) a w (hs.wkS [22, 23] [0, 1, 2, 3] [0] rfl rfl rfl rfl)
  clear hs hL
  refine QL htb (by kernel_rfl) rfl rfl (Qg rfl rfl rfl rfl rfl (Yt (a := (r1.Len - (1 : UInt64)) + r2.At) (b := arg2))) ?_
  refine QL htb (by kernel_rfl) rfl rfl (Zh rfl rfl rfl rfl) ?_
  refine ZW rfl ?_
  refine tW [(4, some (vB (decide (((r1.Len - (1 : UInt64)) + r2.At) ≥ arg2))))] [some (Qd bb_arg1 39 [.pointer (some ⟨b_arg1, 0, none⟩)]), some (Qd b_arg1 82 [varg11, varg12]), some (Qj u8S true varg12 vsarg11 arg1.b none), some (Qd b_arg2 22 [vU64 arg2])] [Fact.sl Qf varg11 arg1.l] [4] [0, 1, 2, 3] [0] rfl ?_
  obtain rfl := Option.some.inj h
  exact Qn rfl rfl (resA (vs := [vB (decide (((r1.Len - (1 : UInt64)) + r2.At) ≥ arg2))]) rfl ⟨rfl, trivial⟩) [0, 1, 2, 3] [] rfl rfl rfl ⟨rfl, rfl, rfl⟩

set_option maxRecDepth 100000 in
set_option maxHeartbeats 4000000 in
theorem w_sort_SearchFgmem_Mem_bytes_1 {np0 : Int} {fc0 : gmem_Mem} {fc1 : UInt64} {b_fc0 : Nat} {vfc01 : Value} {vfc02 : Value} {vsfc01 : List Value} {bb_fc0 : Nat} {b_fc1 : Nat} {r : Int} (h : Zo np0 fc0 fc1 = some r) :
  Ctr Try.prog 64 #[vI np0, .func (.func 65) #[] #[.pointer (some ⟨bb_fc0, 0, none⟩), .pointer (some ⟨b_fc1, 0, none⟩)]] [(Qd bb_fc0 39 [.pointer (some ⟨b_fc0, 0, none⟩)]), (Qd b_fc0 82 [vfc01, vfc02]), (Qj u8S true vfc02 vsfc01 fc0.b none), (Qd b_fc1 22 [vU64 fc1])] [Fact.sl Qf vfc01 fc0.l]
   (fun rv own shr => rv = vI r ∧ own = [(Qd bb_fc0 39 [.pointer (some ⟨b_fc0, 0, none⟩)]), (Qd b_fc0 82 [vfc01, vfc02]), (Qj u8S true vfc02 vsfc01 fc0.b none), (Qd b_fc1 22 [vU64 fc1])] ∧ shr = []) := by
 unfold Zo at h
 refine Ctr.mk (args := [vI np0, .func (.func 65) #[] #[.pointer (some ⟨bb_fc0, 0, none⟩), .pointer (some ⟨b_fc1, 0, none⟩)]]) Try.func64 rfl rfl (fun R0 w0 B => ?_)
 refine Qe (Qb (sAs rfl rfl rfl ?_))
 refine nW [(0, some (vI np0)), (1, some (.func (.func 65) #[] #[.pointer (some ⟨bb_fc0, 0, none⟩), .pointer (some ⟨b_fc1, 0, none⟩)]))] [some (Qd bb_fc0 39 [.pointer (some ⟨b_fc0, 0, none⟩)]), some (Qd b_fc0 82 [vfc01, vfc02]), some (Qj u8S true vfc02 vsfc01 fc0.b none), some (Qd b_fc1 22 [vU64 fc1])] [Fact.sl Qf vfc01 fc0.l] [0, 1] [0, 1, 2, 3] [0] rfl ?_
 refine Qe (Qb (sMv rfl rfl rfl ?_))
 refine sAs rfl rfl rfl ?_
 refine sAs rfl rfl rfl ?_
 refine nW [(1, some (.func (.func 65) #[] #[.pointer (some ⟨bb_fc0, 0, none⟩), .pointer (some ⟨b_fc1, 0, none⟩)])), (5, some (vI (0 : Int))), (6, some (vI np0))] [some (Qd bb_fc0 39 [.pointer (some ⟨b_fc0, 0, none⟩)]), some (Qd b_fc0 82 [vfc01, vfc02]), some (Qj u8S true vfc02 vsfc01 fc0.b none), some (Qd b_fc1 22 [vU64 fc1])] [Fact.sl Qf vfc01 fc0.l] [1, 5, 6] [0, 1, 2, 3] [0] rfl ?_
 refine Qe (Qz (Zc (σ := Int × Int) [1, 5, 6] [0, 1, 2, 3] [0] (fun s => ⟨[(1, some (.func (.func 65) #[] #[.pointer (some ⟨bb_fc0, 0, none⟩), .pointer (some ⟨b_fc1, 0, none⟩)])), (5, some (vI s.1)), (6, some (vI s.2))], [some (Qd bb_fc0 39 [.pointer (some ⟨b_fc0, 0, none⟩)]), some (Qd b_fc0 82 [vfc01, vfc02]), some (Qj u8S true vfc02 vsfc01 fc0.b none), some (Qd b_fc1 22 [vU64 fc1])], [Fact.sl Qf vfc01 fc0.l]⟩) (fun nf1 s => Za fc0 fc1 nf1 s.1 s.2 = some r) fuel ((0 : Int), np0) h rfl rfl rfl rfl rfl (fun s h => by cases h) ?_))
 rintro nf1 ⟨i1, j1⟩ h
 replace h : Zv fc0 fc1 (Za fc0 fc1 nf1) i1 j1 = some r := h
 unfold Zv at h
 refine Qe (Qe (Qb (sMv rfl rfl rfl ?_)))
 refine sMv rfl rfl rfl ?_
 refine Qa rfl (Qg rfl rfl rfl rfl rfl (QK (a := i1) (b := j1))) ?_
 refine nW [(1, some (.func (.func 65) #[] #[.pointer (some ⟨bb_fc0, 0, none⟩), .pointer (some ⟨b_fc1, 0, none⟩)])), (5, some (vI i1)), (6, some (vI j1)), (11, some (vB (decide (i1 < j1))))] [some (Qd bb_fc0 39 [.pointer (some ⟨b_fc0, 0, none⟩)]), some (Qd b_fc0 82 [vfc01, vfc02]), some (Qj u8S true vfc02 vsfc01 fc0.b none), some (Qd b_fc1 22 [vU64 fc1])] [Fact.sl Qf vfc01 fc0.l] [1, 5, 6, 11] [0, 1, 2, 3] [0] rfl ?_
 rcases bC (decide (i1 < j1)) with hg1 | hg1
 ·replace h := br_t hg1 h
  refine Ql (cgb hg1) ?_
  refine Qr (Qz (Qe (Qb (sMv rfl rfl rfl ?_))))
  refine sMv rfl rfl rfl ?_
  refine Qa rfl (Qg rfl rfl rfl rfl rfl (Qx (a := i1) (b := j1))) ?_
  refine Qa rfl (QM rfl rfl rfl rfl (Yq (n := wi (i1 + j1)) Try.underlying3 Try.underlying99)) ?_
  refine Qa rfl (Qg rfl rfl rfl rfl rfl (bin_shr_u64_u64 (a := u64 (wi (i1 + j1))) (n := (1 : UInt64)))) ?_
  refine Qa rfl (QM rfl rfl rfl rfl (cnv_u64_i (n := XH (u64 (wi (i1 + j1))) ((1 : UInt64).toNat)) Try.underlying99 Try.underlying3)) ?_
  refine sAs rfl rfl rfl ?_
  refine nW [(1, some (.func (.func 65) #[] #[.pointer (some ⟨bb_fc0, 0, none⟩), .pointer (some ⟨b_fc1, 0, none⟩)])), (5, some (vI i1)), (6, some (vI j1)), (7, some (vI (i64 (XH (u64 (wi (i1 + j1))) ((1 : UInt64).toNat)))))] [some (Qd bb_fc0 39 [.pointer (some ⟨b_fc0, 0, none⟩)]), some (Qd b_fc0 82 [vfc01, vfc02]), some (Qj u8S true vfc02 vsfc01 fc0.b none), some (Qd b_fc1 22 [vU64 fc1])] [Fact.sl Qf vfc01 fc0.l] [1, 5, 6, 7] [0, 1, 2, 3] [0] rfl ?_
  refine Qe (Qb (sMv rfl rfl rfl ?_))
  refine sMv rfl rfl rfl ?_
  obtain ⟨bytes1, hx1, h⟩ := ob_e h
  refine Qt rfl (QW [4, 5, 6, 7] (w_gmem_Mem_bytes_1 hx1) [0, 1, 2, 3] [0] rfl rfl rfl rfl rfl callee65 rfl rfl rfl rfl rfl) ?_
  rintro _ ⟨_, _, _, ⟨rfl, rfl, rfl⟩, rfl⟩
  refine Qa rfl (OpT_not rfl rfl rfl rfl) ?_
  refine nW [(1, some (.func (.func 65) #[] #[.pointer (some ⟨bb_fc0, 0, none⟩), .pointer (some ⟨b_fc1, 0, none⟩)])), (5, some (vI i1)), (6, some (vI j1)), (7, some (vI (i64 (XH (u64 (wi (i1 + j1))) ((1 : UInt64).toNat))))), (21, some (vB (!bytes1)))] [some (Qd bb_fc0 39 [.pointer (some ⟨b_fc0, 0, none⟩)]), some (Qd b_fc0 82 [vfc01, vfc02]), some (Qj u8S true vfc02 vsfc01 fc0.b none), some (Qd b_fc1 22 [vU64 fc1])] [Fact.sl Qf vfc01 fc0.l] [1, 5, 6, 7, 21] [0, 1, 2, 3] [0] rfl ?_
  rcases bC ((!bytes1)) with hg2 | hg2
  ·replace h := br_t hg2 h
   refine Ql (cgb hg2) ?_
   refine Qb (sMv rfl rfl rfl ?_)
   refine Qa rfl (Qg rfl rfl rfl rfl rfl (Qx (a := i64 (XH (u64 (wi (i1 + j1))) ((1 : UInt64).toNat))) (b := (1 : Int)))) ?_
   refine sAs rfl rfl rfl ?_
   refine nW [(1, some (.func (.func 65) #[] #[.pointer (some ⟨bb_fc0, 0, none⟩), .pointer (some ⟨b_fc1, 0, none⟩)])), (5, some (vI (wi ((i64 (XH (u64 (wi (i1 + j1))) ((1 : UInt64).toNat))) + (1 : Int))))), (6, some (vI j1))] [some (Qd bb_fc0 39 [.pointer (some ⟨b_fc0, 0, none⟩)]), some (Qd b_fc0 82 [vfc01, vfc02]), some (Qj u8S true vfc02 vsfc01 fc0.b none), some (Qd b_fc1 22 [vU64 fc1])] [Fact.sl Qf vfc01 fc0.l] [1, 5, 6] [0, 1, 2, 3] [0] rfl ?_
   refine Zk ?_
   exact QN (wi ((i64 (XH (u64 (wi (i1 + j1))) ((1 : UInt64).toNat))) + (1 : Int)), j1) h [1, 5, 6] [0, 1, 2, 3] [0] rfl rfl rfl rfl rfl
  ·replace h := br_f hg2 h
   refine Qm (cgb hg2) ?_
   refine Qb (sMv rfl rfl rfl ?_)
   refine sAs rfl rfl rfl ?_
   refine nW [(1, some (.func (.func 65) #[] #[.pointer (some ⟨bb_fc0, 0, none⟩), .pointer (some ⟨b_fc1, 0, none⟩)])), (5, some (vI i1)), (6, some (vI (i64 (XH (u64 (wi (i1 + j1))) ((1 : UInt64).toNat)))))] [some (Qd bb_fc0 39 [.pointer (some ⟨b_fc0, 0, none⟩)]), some (Qd b_fc0 82 [vfc01, vfc02]), some (Qj u8S true vfc02 vsfc01 fc0.b none), some (Qd b_fc1 22 [vU64 fc1])] [Fact.sl Qf vfc01 fc0.l] [1, 5, 6] [0, 1, 2, 3] [0] rfl ?_
   refine Zk ?_
   exact QN (i1, i64 (XH (u64 (wi (i1 + j1))) ((1 : UInt64).toNat))) h [1, 5, 6] [0, 1, 2, 3] [0] rfl rfl rfl rfl rfl
 ·replace h := br_f hg1 h
  refine Qm (cgb hg1) ?_
  refine Zf _ rfl ?_
  refine Qe (Qb (sMv rfl rfl rfl ?_))
  refine sAs rfl rfl rfl ?_
  refine nW [(4, some (vI i1))] [some (Qd bb_fc0 39 [.pointer (some ⟨b_fc0, 0, none⟩)]), some (Qd b_fc0 82 [vfc01, vfc02]), some (Qj u8S true vfc02 vsfc01 fc0.b none), some (Qd b_fc1 22 [vU64 fc1])] [Fact.sl Qf vfc01 fc0.l] [4] [0, 1, 2, 3] [0] rfl ?_
  obtain rfl := Option.some.inj h
  exact Qn rfl rfl (resA (vs := [vI i1]) rfl ⟨rfl, trivial⟩) [0, 1, 2, 3] [] rfl rfl rfl ⟨rfl, rfl, rfl⟩

set_option maxRecDepth 100000 in
set_option maxHeartbeats 4000000 in
theorem w_gmem_Mem_bytes {m : gmem_Mem} {atp1 : UInt64} {np2 : UInt64} {b_m : Nat} {vm1 : Value} {vm2 : Value} {vsm1 : List Value} {r : (Option (Int × Int × Int))} (h : XJ m atp1 np2 = some r) :
  Ctr Try.prog 51 #[.pointer (some ⟨b_m, 0, none⟩), vU64 atp1, vU64 np2] [(Qd b_m 82 [vm1, vm2]), (Qj u8S true vm2 vsm1 m.b none)] [Fact.sl Qf vm1 m.l]
   (fun rv own shr => rv = winV 1 vsm1 r ∧ own = [(Qd b_m 82 [vm1, vm2]), (Qj u8S true vm2 vsm1 m.b none)] ∧ shr = []) := by
 unfold XJ at h
 refine Ctr.mk (args := [.pointer (some ⟨b_m, 0, none⟩), vU64 atp1, vU64 np2]) Try.func51 rfl rfl (fun R0 w0 B => ?_)
 refine Qe (Qb (Qq rfl (YG rfl rfl rfl rfl) fun b1 => ?_))
 refine Qq rfl (YG rfl rfl rfl rfl) fun b2 => ?_
 refine sAs rfl rfl rfl ?_
 refine nW [(2, some (vU64 np2)), (3, some (.pointer (some ⟨b1, 0, none⟩))), (4, some (.pointer (some ⟨b2, 0, none⟩)))] [some (Qd b_m 82 [vm1, vm2]), some (Qj u8S true vm2 vsm1 m.b none), some (Qd b1 39 [.pointer (some ⟨b_m, 0, none⟩)]), some (Qd b2 22 [vU64 atp1])] [Fact.sl Qf vm1 m.l] [2, 3, 4] [0, 1, 2, 3] [0] rfl ?_
 refine Qe (Qe (Qb (sMv rfl rfl rfl ?_)))
 refine Qa rfl (Qg rfl rfl rfl rfl rfl (Yr (a := np2) (b := (1 : UInt64)))) ?_
 refine nW [(2, some (vU64 np2)), (3, some (.pointer (some ⟨b1, 0, none⟩))), (4, some (.pointer (some ⟨b2, 0, none⟩))), (10, some (vB (decide (np2 < (1 : UInt64)))))] [some (Qd b_m 82 [vm1, vm2]), some (Qj u8S true vm2 vsm1 m.b none), some (Qd b1 39 [.pointer (some ⟨b_m, 0, none⟩)]), some (Qd b2 22 [vU64 atp1])] [Fact.sl Qf vm1 m.l] [2, 3, 4, 10] [0, 1, 2, 3] [0] rfl ?_
 rcases bC (decide (np2 < (1 : UInt64))) with hg1 | hg1
 ·replace h := br_t hg1 h
  refine Ql (cgb hg1) ?_
  refine Qe (Qb (sAs rfl rfl rfl ?_))
  refine nW [(6, some (.slice none 0 0))] [some (Qd b_m 82 [vm1, vm2]), some (Qj u8S true vm2 vsm1 m.b none)] [Fact.sl Qf vm1 m.l] [6] [0, 1] [0] rfl ?_
  obtain rfl := Option.some.inj h
  exact Qn rfl rfl (resA (vs := [.slice none 0 0]) rfl ⟨rfl, trivial⟩) [0, 1] [] rfl rfl rfl ⟨rfl, rfl, rfl⟩
 ·replace h := br_f hg1 h
  refine Qm (cgb hg1) ?_
  refine Qr (Qe (Qb (Qa rfl (Qp rfl rfl rfl rfl tyF39 (i := 2) rfl rfl) ?_)))
  refine Qa rfl (QP rfl rfl rfl rfl) ?_
  refine Qa rfl (Qo rfl rfl rfl rfl fldF82x0) ?_
  refine Qa rfl (Qp rfl rfl rfl rfl tyF42 (i := 0) rfl rfl) ?_
  refine Qa rfl (QB rfl rfl rfl rfl Try.underlying42 (i := 0) rfl) ?_
  refine Qa rfl (OpT_makeFunc (vs := [.pointer (some ⟨b1, 0, none⟩), .pointer (some ⟨b2, 0, none⟩)]) rfl rfl rfl rfl) ?_
  obtain ⟨search1, hx1, h⟩ := ob_e h
  refine Qt rfl (QW [5, 6, 4, 7] (w_sort_SearchFgmem_Mem_bytes_1 hx1) [2, 0, 1, 3] [0] rfl rfl rfl rfl rfl callee64 rfl rfl rfl rfl rfl) ?_
  rintro _ ⟨_, _, _, ⟨rfl, rfl, rfl⟩, rfl⟩
  refine sAs rfl rfl rfl ?_
  refine nW [(2, some (vU64 np2)), (3, some (.pointer (some ⟨b1, 0, none⟩))), (4, some (.pointer (some ⟨b2, 0, none⟩))), (7, some (vI search1))] [some (Qd b_m 82 [vm1, vm2]), some (Qj u8S true vm2 vsm1 m.b none), some (Qd b1 39 [.pointer (some ⟨b_m, 0, none⟩)]), some (Qd b2 22 [vU64 atp1])] [Fact.sl Qf vm1 m.l] [2, 3, 4, 7] [0, 1, 2, 3] [0] rfl ?_
  refine Qe (Qe (Zw (by kernel_rfl) ?_))
  refine TA_tb [0, 0, 2, 6, 14, 30, 63, 127, 255, 255, 767, 1791, 3839, 255, 16127, 32511, 65279, 131071, 262143] (by kernel_rfl) fun htb => ?_
  refine Zs (lo := 0) (hi := 6) htb rfl rfl (by kernel_rfl) (fun c L a w => Sat c ⟨[(2, some (vU64 np2)), (3, some (.pointer (some ⟨b1, 0, none⟩))), (4, some (.pointer (some ⟨b2, 0, none⟩))), (7, some (vI search1)), (18, bif L 0 then some (vI search1) else none), (19, bif L 1 then some (.pointer (some ⟨b_m, 0, none⟩)) else none), (20, bif L 2 then some (.pointer (some ⟨b_m, 0, none⟩)) else none), (21, bif L 3 then some (.pointer (some ⟨b_m, 0, none⟩)) else none), (22, bif L 4 then some (vm1) else none), (23, bif L 5 then some (vI (len m.l)) else none)], [(some (Qd b_m 82 [vm1, vm2]) : Option Res), (some (Qj u8S true vm2 vsm1 m.b none) : Option Res), (some (Qd b1 39 [.pointer (some ⟨b_m, 0, none⟩)]) : Option Res), (some (Qd b2 22 [vU64 atp1]) : Option Res)], [Fact.sl Qf vm1 m.l]⟩ a w) [([], []), ([], [2, 3, 4, 5]), ([1], [3, 4, 5]), ([1, 2], [4, 5]), ([1, 2, 3], [5]), ([1, 2, 3, 4], [])] rfl (by kernel_rfl) ?_ (Qc ?_ (Qc ?_ (Qc ?_ (Qc ?_ (Qc ?_ (Qc ?_ (QH))))))) ?_
  ·intro a w hs
   exact hs.startF [18, 19, 20, 21, 22, 23] [0, 1, 2, 3] [0] rfl rfl rfl rfl
  ·intro L a w hs K Q hK
   exact wGo rfl rfl hs (Qk rfl rfl rfl rfl) fun a w hs => hK a w (pF hs 4 [0, 1, 2, 3] [0] rfl)
  ·intro L a w hs K Q hK
   exact wGo rfl rfl hs (Qp rfl rfl rfl rfl tyF39 (i := 2) rfl rfl) fun a w hs => hK a w (pF hs 5 [0, 1, 2, 3] [0] rfl)
  ·intro L a w hs K Q hK
   exact wGo rfl rfl hs (QP rfl rfl rfl rfl) fun a w hs => hK a w (pF hs 6 [0, 1, 2, 3] [0] rfl)
  ·intro L a w hs K Q hK
   exact wGo rfl rfl hs (Qo rfl rfl rfl rfl fldF82x0) fun a w hs => hK a w (pF hs 7 [0, 1, 2, 3] [0] rfl)
  ·intro L a w hs K Q hK
   exact wGo rfl rfl hs (Qp rfl rfl rfl rfl tyF42 (i := 0) rfl rfl) fun a w hs => hK a w (pF hs 8 [0, 1, 2, 3] [0] rfl)
  ·intro L a w hs K Q hK
   exact wGo rfl rfl hs (QB rfl rfl rfl rfl Try.underlying42 (i := 0) rfl) fun a w hs => hK a w (pF hs 9 [0, 1, 2, 3] [0] rfl)
  ·intro L a w hL hv
   rw [QZ hL] at hv
   have hs := hv
   refine (show TA _ _ _ 6 ⟨[(2, some (vU64 np2)), (3, some (.pointer (some ⟨b1, 0, none⟩))), (4, some (.pointer (some ⟨b2, 0, none⟩))), (7, some (vI search1)), (18, some (vI search1)), (23, some (vI (len m.l)))], [some (Qd b_m 82 [vm1, vm2]), some (Qj u8S true vm2 vsm1 m.b none), some (Qd b1 39 [.pointer (some ⟨b_m, 0, none⟩)]), some (Qd b2 22 [vU64 atp1])], [Fact.sl Qf vm1 m.l]⟩ from ?_) a w (hs.wkS [2, 3, 4, 7, 18, 23] [0, 1, 2, 3] [0] rfl rfl rfl rfl)
   clear hs hL
   refine QL htb (by kernel_rfl) rfl rfl (Qg rfl rfl rfl rfl rfl (Xh (a := search1) (b := len m.l))) ?_
   refine QL htb (by kernel_rfl) rfl rfl (Qk rfl rfl rfl rfl) ?_
   refine Xy (fr' := [(2, some (vU64 np2)), (3, some (.pointer (some ⟨b1, 0, none⟩))), (4, some (.pointer (some ⟨b2, 0, none⟩))), (7, some (vI search1)), (25, some (vB (search1 == (len m.l))))]) (own' := [some (Qd b_m 82 [vm1, vm2]), some (Qj u8S true vm2 vsm1 m.b none), some (Qd b1 39 [.pointer (some ⟨b_m, 0, none⟩)]), some (Qd b2 22 [vU64 atp1])]) (shr' := [Fact.sl Qf vm1 m.l]) [2, 3, 4, 7, 25] [0, 1, 2, 3] [0] rfl rfl rfl rfl ?_
   rcases bC (search1 == (len m.l)) with hg2 | hg2
   ·replace h := br_t hg2 h
    refine Zs (lo := 8) (hi := 17) htb rfl rfl (by kernel_rfl) (fun c L a w => Sat c ⟨[(2, some (vU64 np2)), (3, some (.pointer (some ⟨b1, 0, none⟩))), (4, some (.pointer (some ⟨b2, 0, none⟩))), (7, some (vI search1)), (25, some (vB (search1 == (len m.l)))), (26, bif L 8 then some (undef) else none), (27, bif L 9 then some (undef) else none), (28, bif L 10 then some (undef) else none), (29, bif L 11 then some (undef) else none), (30, bif L 12 then some (undef) else none), (31, bif L 13 then some (undef) else none), (32, bif L 14 then some (undef) else none), (33, bif L 15 then some (undef) else none), (34, bif L 16 then some (undef) else none)], [(some (Qd b_m 82 [vm1, vm2]) : Option Res), (some (Qj u8S true vm2 vsm1 m.b none) : Option Res), (some (Qd b1 39 [.pointer (some ⟨b_m, 0, none⟩)]) : Option Res), (some (Qd b2 22 [vU64 atp1]) : Option Res)], [Fact.sl Qf vm1 m.l]⟩ a w) [([], []), ([], [10, 11, 12, 14, 15, 16]), ([9], [11, 12, 14, 15, 16]), ([9, 10], [12, 14, 15, 16]), ([9, 10, 11], [14, 15, 16]), ([], [14, 15, 16]), ([9, 10, 11, 12, 13], [15, 16]), ([9, 10, 11, 12, 13, 14], [16]), ([9, 10, 11, 12, 13, 14, 15], [])] rfl (by kernel_rfl) ?_ (Qc ?_ (Qc ?_ (Qc ?_ (Qc ?_ (Qc ?_ (Qc ?_ (Qc ?_ (Qc ?_ (Qc ?_ (QH)))))))))) ?_
    ·intro a w hs
     exact hs.startF [26, 27, 28, 29, 30, 31, 32, 33, 34] [0, 1, 2, 3] [0] rfl rfl rfl rfl
    ·intro L a w hs K Q hK
     exact Qy rfl rfl rfl hs (cgb hg2) rfl rfl fun a w hs => hK a w (pF hs 5 [0, 1, 2, 3] [0] rfl)
    ·intro L a w hs K Q hK
     exact Qy rfl rfl rfl hs (cgb hg2) rfl rfl fun a w hs => hK a w (pF hs 6 [0, 1, 2, 3] [0] rfl)
    ·intro L a w hs K Q hK
     exact Qy rfl rfl rfl hs (cgb hg2) rfl rfl fun a w hs => hK a w (pF hs 7 [0, 1, 2, 3] [0] rfl)
    ·intro L a w hs K Q hK
     exact Qy rfl rfl rfl hs (cgb hg2) rfl rfl fun a w hs => hK a w (pF hs 8 [0, 1, 2, 3] [0] rfl)
    ·intro L a w hs K Q hK
     exact Qy rfl rfl rfl hs (cgb hg2) rfl rfl fun a w hs => hK a w (pF hs 9 [0, 1, 2, 3] [0] rfl)
    ·intro L a w hs K Q hK
     exact Qy rfl rfl rfl hs (cgb hg2) rfl rfl fun a w hs => hK a w (pF hs 10 [0, 1, 2, 3] [0] rfl)
    ·intro L a w hs K Q hK
     exact Qy rfl rfl rfl hs (cgb hg2) rfl rfl fun a w hs => hK a w (pF hs 11 [0, 1, 2, 3] [0] rfl)
    ·intro L a w hs K Q hK
     exact Qy rfl rfl rfl hs (cgb hg2) rfl rfl fun a w hs => hK a w (pF hs 12 [0, 1, 2, 3] [0] rfl)
    ·intro L a w hs K Q hK
     exact Qy rfl rfl rfl hs (cgb hg2) rfl rfl fun a w hs => hK a w (pF hs 13 [0, 1, 2, 3] [0] rfl)
    ·intro L a w hL hv
     rw [QZ hL] at hv
     have hs := hv
     refine (show TA _ _ _ 17 ⟨[(2, some (vU64 np2)), (3, some (.pointer (some ⟨b1, 0, none⟩))), (4, some (.pointer (some ⟨b2, 0, none⟩))), (7, some (vI search1)), (25, some (vB (search1 == (len m.l)))), (26, some undef), (34, some undef)], [some (Qd b_m 82 [vm1, vm2]), some (Qj u8S true vm2 vsm1 m.b none), some (Qd b1 39 [.pointer (some ⟨b_m, 0, none⟩)]), some (Qd b2 22 [vU64 atp1])], [Fact.sl Qf vm1 m.l]⟩ from ?_) a w (hs.wkS [2, 3, 4, 7, 25, 26, 34] [0, 1, 2, 3] [0] rfl rfl rfl rfl)
     clear hs hL
     refine YM htb (by kernel_rfl) rfl rfl rfl (cgb hg2) rfl rfl ?_
     refine QL htb (by kernel_rfl) rfl rfl (Qw rfl rfl rfl (cgb hg2) rfl) ?_
     refine ZW rfl ?_
     refine tW [(2, some (vU64 np2)), (3, some (.pointer (some ⟨b1, 0, none⟩))), (4, some (.pointer (some ⟨b2, 0, none⟩))), (7, some (vI search1)), (36, some (vB true))] [some (Qd b_m 82 [vm1, vm2]), some (Qj u8S true vm2 vsm1 m.b none), some (Qd b1 39 [.pointer (some ⟨b_m, 0, none⟩)]), some (Qd b2 22 [vU64 atp1])] [Fact.sl Qf vm1 m.l] [2, 3, 4, 7, 36] [0, 1, 2, 3] [0] rfl ?_
     refine Ql rfl ?_
     refine Qe (Qb (sAs rfl rfl rfl ?_))
     refine nW [(6, some (.slice none 0 0))] [some (Qd b_m 82 [vm1, vm2]), some (Qj u8S true vm2 vsm1 m.b none)] [Fact.sl Qf vm1 m.l] [6] [0, 1] [0] rfl ?_
     obtain rfl := Option.some.inj h
     exact Qn rfl rfl (resA (vs := [.slice none 0 0]) rfl ⟨rfl, trivial⟩) [0, 1] [] rfl rfl rfl ⟨rfl, rfl, rfl⟩
   ·replace h := br_f hg2 h
    obtain ⟨r1, hx2, h⟩ := ob_e h
    refine Zs (lo := 8) (hi := 17) htb rfl rfl (by kernel_rfl) (fun c L a w => ∃ (p1 : Value), ∃ (p2 : Value), Sat c ⟨[(2, some (vU64 np2)), (3, some (.pointer (some ⟨b1, 0, none⟩))), (4, some (.pointer (some ⟨b2, 0, none⟩))), (7, some (vI search1)), (25, some (vB (search1 == (len m.l)))), (26, bif L 8 then some (vU64 atp1) else none), (27, bif L 9 then some (.pointer (some ⟨b_m, 0, none⟩)) else none), (28, bif L 10 then some (.pointer (some ⟨b_m, 0, none⟩)) else none), (29, bif L 11 then some (.pointer (some ⟨b_m, 0, none⟩)) else none), (30, bif L 12 then some (vm1) else none), (31, bif L 13 then some (vI search1) else none), (32, bif L 14 then some (p1) else none), (33, bif L 15 then some (p2) else none), (34, bif L 16 then some (vU64 r1.At) else none)], [(some (Qd b_m 82 [vm1, vm2]) : Option Res), (some (Qj u8S true vm2 vsm1 m.b none) : Option Res), (some (Qd b1 39 [.pointer (some ⟨b_m, 0, none⟩)]) : Option Res), (some (Qd b2 22 [vU64 atp1]) : Option Res)], [Fact.sl Qf vm1 m.l, (bif L 14 then Fact.pt Qf p1 r1 else Fact.tt), (bif L 15 then Fact.pt u64S p2 r1.At else Fact.tt)]⟩ a w) [([], []), ([], [10, 11, 12, 14, 15, 16]), ([9], [11, 12, 14, 15, 16]), ([9, 10], [12, 14, 15, 16]), ([9, 10, 11], [14, 15, 16]), ([], [14, 15, 16]), ([9, 10, 11, 12, 13], [15, 16]), ([9, 10, 11, 12, 13, 14], [16]), ([9, 10, 11, 12, 13, 14, 15], [])] rfl (by kernel_rfl) ?_ (Qc ?_ (Qc ?_ (Qc ?_ (Qc ?_ (Qc ?_ (Qc ?_ (Qc ?_ (Qc ?_ (Qc ?_ (QH)))))))))) ?_
    ·intro a w hs
     exact ⟨undef, undef, hs.startF [26, 27, 28, 29, 30, 31, 32, 33, 34] [0, 1, 2, 3] [0, 1, 2] rfl rfl rfl rfl⟩
    ·intro L a w hv K Q hK
     obtain ⟨p1, p2, hs⟩ := hv
     exact wYs rfl rfl rfl hs (cgb hg2) (Qp rfl rfl rfl rfl Xc (i := 3) rfl rfl) fun a w hs => hK a w ⟨p1, p2, pF hs 5 [0, 1, 2, 3] [0, 1, 2] rfl⟩
    ·intro L a w hv K Q hK
     obtain ⟨p1, p2, hs⟩ := hv
     exact wYs rfl rfl rfl hs (cgb hg2) (Qp rfl rfl rfl rfl tyF39 (i := 2) rfl rfl) fun a w hs => hK a w ⟨p1, p2, pF hs 6 [0, 1, 2, 3] [0, 1, 2] rfl⟩
    ·intro L a w hv K Q hK
     obtain ⟨p1, p2, hs⟩ := hv
     exact wYs rfl rfl rfl hs (cgb hg2) (QP rfl rfl rfl rfl) fun a w hs => hK a w ⟨p1, p2, pF hs 7 [0, 1, 2, 3] [0, 1, 2] rfl⟩
    ·intro L a w hv K Q hK
     obtain ⟨p1, p2, hs⟩ := hv
     exact wYs rfl rfl rfl hs (cgb hg2) (Qo rfl rfl rfl rfl fldF82x0) fun a w hs => hK a w ⟨p1, p2, pF hs 8 [0, 1, 2, 3] [0, 1, 2] rfl⟩
    ·intro L a w hv K Q hK
     obtain ⟨p1, p2, hs⟩ := hv
     exact wYs rfl rfl rfl hs (cgb hg2) (Qp rfl rfl rfl rfl tyF42 (i := 0) rfl rfl) fun a w hs => hK a w ⟨p1, p2, pF hs 9 [0, 1, 2, 3] [0, 1, 2] rfl⟩
    ·intro L a w hv K Q hK
     obtain ⟨p1, p2, hs⟩ := hv
     exact wYs rfl rfl rfl hs (cgb hg2) (Qk rfl rfl rfl rfl) fun a w hs => hK a w ⟨p1, p2, pF hs 10 [0, 1, 2, 3] [0, 1, 2] rfl⟩
    ·intro L a w hv K Q hK
     obtain ⟨p1, p2, hs⟩ := hv
     refine ZQ rfl rfl rfl hs (cgb hg2) (QA rfl rfl rfl rfl rfl slF42 (i := 0) rfl hx2) ?_
     rintro _ ⟨p1', rfl⟩ a' w' hs'
     exact hK a' w' ⟨p1', p2, hs'.putF (i := 11) rfl [0, 1, 2, 3] [0, 3, 2] rfl rfl rfl rfl⟩
    ·intro L a w hv K Q hK
     obtain ⟨p1, p2, hs⟩ := hv
     refine ZQ rfl rfl rfl hs (cgb hg2) (QJ (S' := u64S) (y := r1.At) rfl rfl rfl rfl Yc (i := 1) rfl (by intro h cs hr; subst hr; rfl)) ?_
     rintro _ ⟨p2', rfl⟩ a' w' hs'
     exact hK a' w' ⟨p1, p2', hs'.putF (i := 12) rfl [0, 1, 2, 3] [0, 1, 3] rfl rfl rfl rfl⟩
    ·intro L a w hv K Q hK
     obtain ⟨p1, p2, hs⟩ := hv
     exact wYs rfl rfl rfl hs (cgb hg2) (QC rfl rfl rfl rfl Xc (i := 2) rfl rfl) fun a w hs => hK a w ⟨p1, p2, pF hs 13 [0, 1, 2, 3] [0, 1, 2] rfl⟩
    ·intro L a w hL hv
     rw [QZ hL] at hv
     obtain ⟨p1, p2, hs⟩ := hv
     refine (show TA _ _ _ 17 ⟨[(2, some (vU64 np2)), (3, some (.pointer (some ⟨b1, 0, none⟩))), (4, some (.pointer (some ⟨b2, 0, none⟩))), (7, some (vI search1)), (25, some (vB (search1 == (len m.l)))), (26, some (vU64 atp1)), (34, some (vU64 r1.At))], [some (Qd b_m 82 [vm1, vm2]), some (Qj u8S true vm2 vsm1 m.b none), some (Qd b1 39 [.pointer (some ⟨b_m, 0, none⟩)]), some (Qd b2 22 [vU64 atp1])], [Fact.sl Qf vm1 m.l]⟩ from ?_) a w (hs.wkS [2, 3, 4, 7, 25, 26, 34] [0, 1, 2, 3] [0] rfl rfl rfl rfl)
     clear hs hL
     refine Yh htb (by kernel_rfl) rfl rfl rfl (cgb hg2) (Qg rfl rfl rfl rfl rfl (Yr (a := atp1) (b := r1.At))) ?_
     rintro _ rfl
     refine QL htb (by kernel_rfl) rfl rfl (Qu rfl rfl rfl (cgb hg2) rfl) ?_
     refine ZW rfl ?_
     refine tW [(2, some (vU64 np2)), (3, some (.pointer (some ⟨b1, 0, none⟩))), (4, some (.pointer (some ⟨b2, 0, none⟩))), (7, some (vI search1)), (36, some (vB (decide (atp1 < r1.At))))] [some (Qd b_m 82 [vm1, vm2]), some (Qj u8S true vm2 vsm1 m.b none), some (Qd b1 39 [.pointer (some ⟨b_m, 0, none⟩)]), some (Qd b2 22 [vU64 atp1])] [Fact.sl Qf vm1 m.l] [2, 3, 4, 7, 36] [0, 1, 2, 3] [0] rfl ?_
     rcases bC (decide (atp1 < r1.At)) with hg3 | hg3
     ·replace h := br_t hg3 h
      refine Ql (cgb hg3) ?_
      refine Qe (Qb (sAs rfl rfl rfl ?_))
      refine nW [(6, some (.slice none 0 0))] [some (Qd b_m 82 [vm1, vm2]), some (Qj u8S true vm2 vsm1 m.b none)] [Fact.sl Qf vm1 m.l] [6] [0, 1] [0] rfl ?_
      obtain rfl := Option.some.inj h
      exact Qn rfl rfl (resA (vs := [.slice none 0 0]) rfl ⟨rfl, trivial⟩) [0, 1] [] rfl rfl rfl ⟨rfl, rfl, rfl⟩
     ·replace h := br_f hg3 h
      refine Qm (cgb hg3) ?_
      refine Qr (Qe (Zw (by kernel_rfl) ?_))
      refine TA_tb [0, 0, 2, 6, 14, 0, 62, 126, 254, 511, 1023] (by kernel_rfl) fun htb => ?_
      refine Xy (fr' := [(2, some (vU64 np2)), (3, some (.pointer (some ⟨b1, 0, none⟩))), (4, some (.pointer (some ⟨b2, 0, none⟩))), (7, some (vI search1))]) (own' := [some (Qd b_m 82 [vm1, vm2]), some (Qj u8S true vm2 vsm1 m.b none), some (Qd b1 39 [.pointer (some ⟨b_m, 0, none⟩)]), some (Qd b2 22 [vU64 atp1])]) (shr' := [Fact.sl Qf vm1 m.l]) [2, 3, 4, 7] [0, 1, 2, 3] [0] rfl rfl rfl rfl ?_
      obtain ⟨r2, hx3, h⟩ := ob_e h
      refine Zs (lo := 0) (hi := 9) htb rfl rfl (by kernel_rfl) (fun c L a w => ∃ (p3 : Value), ∃ (p4 : Value), Sat c ⟨[(2, some (vU64 np2)), (3, some (.pointer (some ⟨b1, 0, none⟩))), (4, some (.pointer (some ⟨b2, 0, none⟩))), (7, some (vI search1)), (37, bif L 0 then some (vU64 atp1) else none), (38, bif L 1 then some (.pointer (some ⟨b_m, 0, none⟩)) else none), (39, bif L 2 then some (.pointer (some ⟨b_m, 0, none⟩)) else none), (40, bif L 3 then some (.pointer (some ⟨b_m, 0, none⟩)) else none), (41, bif L 4 then some (vm1) else none), (42, bif L 5 then some (vI search1) else none), (43, bif L 6 then some (p3) else none), (44, bif L 7 then some (p4) else none), (45, bif L 8 then some (vU64 r2.At) else none)], [(some (Qd b_m 82 [vm1, vm2]) : Option Res), (some (Qj u8S true vm2 vsm1 m.b none) : Option Res), (some (Qd b1 39 [.pointer (some ⟨b_m, 0, none⟩)]) : Option Res), (some (Qd b2 22 [vU64 atp1]) : Option Res)], [Fact.sl Qf vm1 m.l, (bif L 6 then Fact.pt Qf p3 r2 else Fact.tt), (bif L 7 then Fact.pt u64S p4 r2.At else Fact.tt)]⟩ a w) [([], []), ([], [2, 3, 4, 6, 7, 8]), ([1], [3, 4, 6, 7, 8]), ([1, 2], [4, 6, 7, 8]), ([1, 2, 3], [6, 7, 8]), ([], [6, 7, 8]), ([1, 2, 3, 4, 5], [7, 8]), ([1, 2, 3, 4, 5, 6], [8]), ([1, 2, 3, 4, 5, 6, 7], [])] rfl (by kernel_rfl) ?_ (Qc ?_ (Qc ?_ (Qc ?_ (Qc ?_ (Qc ?_ (Qc ?_ (Qc ?_ (Qc ?_ (Qc ?_ (QH)))))))))) ?_
      ·intro a w hs
       exact ⟨undef, undef, hs.startF [37, 38, 39, 40, 41, 42, 43, 44, 45] [0, 1, 2, 3] [0, 1, 2] rfl rfl rfl rfl⟩
      ·intro L a w hv K Q hK
       obtain ⟨p3, p4, hs⟩ := hv
       exact wGo rfl rfl hs (Qp rfl rfl rfl rfl Xc (i := 3) rfl rfl) fun a w hs => hK a w ⟨p3, p4, pF hs 4 [0, 1, 2, 3] [0, 1, 2] rfl⟩
      ·intro L a w hv K Q hK
       obtain ⟨p3, p4, hs⟩ := hv
       exact wGo rfl rfl hs (Qp rfl rfl rfl rfl tyF39 (i := 2) rfl rfl) fun a w hs => hK a w ⟨p3, p4, pF hs 5 [0, 1, 2, 3] [0, 1, 2] rfl⟩
      ·intro L a w hv K Q hK
       obtain ⟨p3, p4, hs⟩ := hv
       exact wGo rfl rfl hs (QP rfl rfl rfl rfl) fun a w hs => hK a w ⟨p3, p4, pF hs 6 [0, 1, 2, 3] [0, 1, 2] rfl⟩
      ·intro L a w hv K Q hK
       obtain ⟨p3, p4, hs⟩ := hv
       exact wGo rfl rfl hs (Qo rfl rfl rfl rfl fldF82x0) fun a w hs => hK a w ⟨p3, p4, pF hs 7 [0, 1, 2, 3] [0, 1, 2] rfl⟩
      ·intro L a w hv K Q hK
       obtain ⟨p3, p4, hs⟩ := hv
       exact wGo rfl rfl hs (Qp rfl rfl rfl rfl tyF42 (i := 0) rfl rfl) fun a w hs => hK a w ⟨p3, p4, pF hs 8 [0, 1, 2, 3] [0, 1, 2] rfl⟩
      ·intro L a w hv K Q hK
       obtain ⟨p3, p4, hs⟩ := hv
       exact wGo rfl rfl hs (Qk rfl rfl rfl rfl) fun a w hs => hK a w ⟨p3, p4, pF hs 9 [0, 1, 2, 3] [0, 1, 2] rfl⟩
      ·intro L a w hv K Q hK
       obtain ⟨p3, p4, hs⟩ := hv
       refine QG rfl rfl hs (QA rfl rfl rfl rfl rfl slF42 (i := 0) rfl hx3) ?_
       rintro _ ⟨p3', rfl⟩ a' w' hs'
       exact hK a' w' ⟨p3', p4, hs'.putF (i := 10) rfl [0, 1, 2, 3] [0, 3, 2] rfl rfl rfl rfl⟩
      ·intro L a w hv K Q hK
       obtain ⟨p3, p4, hs⟩ := hv
       refine QG rfl rfl hs (QJ (S' := u64S) (y := r2.At) rfl rfl rfl rfl Yc (i := 1) rfl (by intro h cs hr; subst hr; rfl)) ?_
       rintro _ ⟨p4', rfl⟩ a' w' hs'
       exact hK a' w' ⟨p3, p4', hs'.putF (i := 11) rfl [0, 1, 2, 3] [0, 1, 3] rfl rfl rfl rfl⟩
      ·intro L a w hv K Q hK
       obtain ⟨p3, p4, hs⟩ := hv
       exact wGo rfl rfl hs (QC rfl rfl rfl rfl Xc (i := 2) rfl rfl) fun a w hs => hK a w ⟨p3, p4, pF hs 12 [0, 1, 2, 3] [0, 1, 2] rfl⟩
      ·intro L a w hL hv
       rw [QZ hL] at hv
       obtain ⟨p3, p4, hs⟩ := hv
       refine (show TA _ _ _ 9 ⟨[(2, some (vU64 np2)), (3, some (.pointer (some ⟨b1, 0, none⟩))), (7, some (vI search1)), (37, some (vU64 atp1)), (45, some (vU64 r2.At))], [some (Qd b_m 82 [vm1, vm2]), some (Qj u8S true vm2 vsm1 m.b none), some (Qd b1 39 [.pointer (some ⟨b_m, 0, none⟩)])], [Fact.sl Qf vm1 m.l]⟩ from ?_) a w (hs.wkS [2, 3, 7, 37, 45] [0, 1, 2] [0] rfl rfl rfl rfl)
       clear hs hL
       refine QL htb (by kernel_rfl) rfl rfl (Qg rfl rfl rfl rfl rfl (Zu (a := atp1) (b := r2.At))) ?_
       refine QL htb (by kernel_rfl) rfl rfl (Zh rfl rfl rfl rfl) ?_
       refine ZW rfl ?_
       refine tW [(2, some (vU64 np2)), (3, some (.pointer (some ⟨b1, 0, none⟩))), (7, some (vI search1)), (8, some (vU64 (atp1 - r2.At)))] [some (Qd b_m 82 [vm1, vm2]), some (Qj u8S true vm2 vsm1 m.b none), some (Qd b1 39 [.pointer (some ⟨b_m, 0, none⟩)])] [Fact.sl Qf vm1 m.l] [2, 3, 7, 8] [0, 1, 2] [0] rfl ?_
       refine Qe (Qe (Qb (sMv rfl rfl rfl ?_)))
       refine Qa rfl (Qp rfl rfl rfl rfl tyF39 (i := 2) rfl rfl) ?_
       refine Qa rfl (QP rfl rfl rfl rfl) ?_
       refine Qa rfl (Qo rfl rfl rfl rfl fldF82x0) ?_
       refine Qa rfl (Qp rfl rfl rfl rfl tyF42 (i := 0) rfl rfl) ?_
       refine sMv rfl rfl rfl ?_
       obtain ⟨r3, hx4, h⟩ := ob_e h
       refine Qq rfl (QA rfl rfl rfl rfl rfl slF42 (i := 0) rfl hx4) fun p5 => ?_
       refine Qq rfl (QJ (S' := u64S) (y := r3.Len) rfl rfl rfl rfl XK (i := 1) rfl (by intro h cs hr; subst hr; rfl)) fun p6 => ?_
       refine Qa rfl (QC rfl rfl rfl rfl Xc (i := 2) rfl rfl) ?_
       refine sMv rfl rfl rfl ?_
       refine Qa rfl (Qg rfl rfl rfl rfl rfl (Zu (a := r3.Len) (b := atp1 - r2.At))) ?_
       refine Qa rfl (Qg rfl rfl rfl rfl rfl (Ys (a := np2) (b := r3.Len - (atp1 - r2.At)))) ?_
       refine nW [(2, some (vU64 np2)), (3, some (.pointer (some ⟨b1, 0, none⟩))), (7, some (vI search1)), (8, some (vU64 (atp1 - r2.At))), (58, some (vB (decide (np2 > (r3.Len - (atp1 - r2.At))))))] [some (Qd b_m 82 [vm1, vm2]), some (Qj u8S true vm2 vsm1 m.b none), some (Qd b1 39 [.pointer (some ⟨b_m, 0, none⟩)])] [Fact.sl Qf vm1 m.l] [2, 3, 7, 8, 58] [0, 1, 2] [0] rfl ?_
       rcases bC (decide (np2 > (r3.Len - (atp1 - r2.At)))) with hg4 | hg4
       ·replace h := br_t hg4 h
        refine Ql (cgb hg4) ?_
        refine Qe (Qb (sAs rfl rfl rfl ?_))
        refine nW [(6, some (.slice none 0 0))] [some (Qd b_m 82 [vm1, vm2]), some (Qj u8S true vm2 vsm1 m.b none)] [Fact.sl Qf vm1 m.l] [6] [0, 1] [0] rfl ?_
        obtain rfl := Option.some.inj h
        exact Qn rfl rfl (resA (vs := [.slice none 0 0]) rfl ⟨rfl, trivial⟩) [0, 1] [] rfl rfl rfl ⟨rfl, rfl, rfl⟩
       ·replace h := br_f hg4 h
        refine Qm (cgb hg4) ?_
        refine Qr (Qe (Qb (Qa rfl (Qp rfl rfl rfl rfl tyF39 (i := 2) rfl rfl) ?_)))
        refine Qa rfl (QP rfl rfl rfl rfl) ?_
        refine Qa rfl (Qo rfl rfl rfl rfl fldF82x1) ?_
        refine Qa rfl (Qp rfl rfl rfl rfl tyF80 (i := 0) rfl rfl) ?_
        refine sMv rfl rfl rfl ?_
        obtain ⟨row1, hx5, h⟩ := ob_e h
        refine Qa rfl (OpT_idxRows rfl rfl rfl rfl rfl slF80 (i := 1) rfl hx5) ?_
        refine Tops_vs (vs_focus (i := 1) (j := search1) rfl hx5) ?_
        refine Qa rfl (OpT_loadRow (m := search1) rfl rfl rfl rfl tyF35 (i := 1) rfl) ?_
        refine sMv rfl rfl rfl ?_
        refine sMv rfl rfl rfl ?_
        refine sMv rfl rfl rfl ?_
        refine Qa rfl (Qg rfl rfl rfl rfl rfl (Zb (a := atp1 - r2.At) (b := np2))) ?_
        obtain ⟨hc1, h⟩ := Zi h
        refine Qa rfl (OpT_subLH (S := u8S) (l := ((atp1 - r2.At).toNat : Int)) (m := (((atp1 - r2.At) + np2).toNat : Int)) rfl rfl rfl rfl rfl rfl Xg (i := 3) rfl hc1) ?_
        refine sAs rfl rfl rfl ?_
        refine nW [(6, some (subV (vsAt vsm1 (Int.toNat search1)) 1 (Int.toNat ((atp1 - r2.At).toNat : Int)) (Int.toNat (((atp1 - r2.At) + np2).toNat : Int))))] [some (Qd b_m 82 [vm1, vm2]), some (Qj u8S true vm2 vsm1 m.b (some (Int.toNat search1, vsAt vsm1 (Int.toNat search1)))), some (rowS u8S (vsAt vsm1 (Int.toNat search1)) row1)] [Fact.sl Qf vm1 m.l] [6] [0, 1, 3] [0] rfl ?_
        refine Tk_vs (vs_unfocus0 (i := 1) (q := 2) rfl rfl rfl hx5) ?_
        obtain rfl := Option.some.inj h
        exact Qn rfl rfl (resA (vs := [subV (vsAt vsm1 (Int.toNat search1)) 1 (Int.toNat ((atp1 - r2.At).toNat : Int)) (Int.toNat (((atp1 - r2.At) + np2).toNat : Int))]) rfl ⟨rfl, trivial⟩) [0, 1] [] rfl rfl rfl ⟨rfl, rfl, rfl⟩

set_option maxRecDepth 100000 in
set_option maxHeartbeats 4000000 in
theorem w_gmem_Mem_Write {m : gmem_Mem} {atp1 : UInt64} {arg2 : List UInt8} {b_m : Nat} {vm1 : Value} {vm2 : Value} {vsm1 : List Value} {varg21 : Value} {r : (Int × (List (List UInt8)))} (h : Xk m atp1 arg2 = some r) :
  Ctr Try.prog 24 #[.pointer (some ⟨b_m, 0, none⟩), vU64 atp1, varg21] [(Qd b_m 82 [vm1, vm2]), (Qj u8S true vm2 vsm1 m.b none)] [Fact.sl Qf vm1 m.l, Fact.sl u8S varg21 arg2]
   (fun rv own shr => rv = vI r.1 ∧ own = [(Qd b_m 82 [vm1, vm2]), (Qj u8S true vm2 vsm1 r.2 none)] ∧ shr = []) := by
 unfold Xk at h
 refine Ctr.mk (args := [.pointer (some ⟨b_m, 0, none⟩), vU64 atp1, varg21]) Try.func24 rfl rfl (fun R0 w0 B => ?_)
 refine Qe (Qb (sAs rfl rfl rfl ?_))
 refine nW [(0, some (.pointer (some ⟨b_m, 0, none⟩))), (1, some (vU64 atp1)), (2, some varg21)] [some (Qd b_m 82 [vm1, vm2]), some (Qj u8S true vm2 vsm1 m.b none)] [Fact.sl Qf vm1 m.l, Fact.sl u8S varg21 arg2] [0, 1, 2] [0, 1] [0, 1] rfl ?_
 refine Qe (Qe (Qb (sMv rfl rfl rfl ?_)))
 obtain ⟨made1, hx1, h⟩ := ob_e h
 refine Qt rfl (QW [2, 3] (w_gmem_Mem_made hx1) [0, 1] [0] rfl rfl rfl rfl rfl callee39 rfl rfl rfl rfl rfl) ?_
 rintro _ ⟨_, _, _, ⟨rfl, rfl, rfl⟩, rfl⟩
 refine Qa rfl (OpT_not rfl rfl rfl rfl) ?_
 refine nW [(0, some (.pointer (some ⟨b_m, 0, none⟩))), (1, some (vU64 atp1)), (2, some varg21), (10, some (vB (!made1)))] [some (Qd b_m 82 [vm1, vm2]), some (Qj u8S true vm2 vsm1 m.b none)] [Fact.sl Qf vm1 m.l, Fact.sl u8S varg21 arg2] [0, 1, 2, 10] [0, 1] [0, 1] rfl ?_
 refine Qm (congrArg (fun b => some (Value.bool b)) (congrArg (!·) (Option.some.inj (show some true = some made1 from hx1)).symm)) ?_
 refine Qr (Qe (Qe (Qb (sMv rfl rfl rfl ?_))))
 refine Qa rfl (QB rfl rfl rfl rfl Try.underlying35 (i := 1) rfl) ?_
 refine Qa rfl (Qg rfl rfl rfl rfl rfl (Xh (a := len arg2) (b := (0 : Int)))) ?_
 refine nW [(0, some (.pointer (some ⟨b_m, 0, none⟩))), (1, some (vU64 atp1)), (2, some varg21), (13, some (vB ((len arg2) == (0 : Int))))] [some (Qd b_m 82 [vm1, vm2]), some (Qj u8S true vm2 vsm1 m.b none)] [Fact.sl Qf vm1 m.l, Fact.sl u8S varg21 arg2] [0, 1, 2, 13] [0, 1] [0, 1] rfl ?_
 rcases bC ((len arg2) == (0 : Int)) with hg1 | hg1
 ·replace h := br_t hg1 h
  refine Ql (cgb hg1) ?_
  refine Qe (Qb (sAs rfl rfl rfl ?_))
  refine nW [(6, some (vI (0 : Int)))] [some (Qd b_m 82 [vm1, vm2]), some (Qj u8S true vm2 vsm1 m.b none)] [Fact.sl Qf vm1 m.l] [6] [0, 1] [0] rfl ?_
  obtain rfl := Option.some.inj h
  exact Qn rfl rfl (resA (vs := [vI (0 : Int)]) rfl ⟨rfl, trivial⟩) [0, 1] [] rfl rfl rfl ⟨rfl, rfl, rfl⟩
 ·replace h := br_f hg1 h
  refine Qm (cgb hg1) ?_
  refine Qr (Qe (Qb (sMv rfl rfl rfl ?_)))
  refine sMv rfl rfl rfl ?_
  refine sMv rfl rfl rfl ?_
  refine Qa rfl (QB rfl rfl rfl rfl Try.underlying35 (i := 1) rfl) ?_
  refine Qa rfl (QM rfl rfl rfl rfl (Yq (n := len arg2) Try.underlying3 Try.underlying22)) ?_
  obtain ⟨bytes1, hx2, h⟩ := ob_e h
  refine Qt rfl (QW [2, 3] (w_gmem_Mem_bytes hx2) [0, 1] [0] rfl rfl rfl rfl rfl callee51 rfl rfl rfl rfl rfl) ?_
  rintro _ ⟨_, _, _, ⟨rfl, rfl, rfl⟩, rfl⟩
  refine sAs rfl rfl rfl ?_
  refine nW [(2, some varg21), (7, some (winV 1 vsm1 bytes1))] [some (Qd b_m 82 [vm1, vm2]), some (Qj u8S true vm2 vsm1 m.b none)] [Fact.sl Qf vm1 m.l, Fact.sl u8S varg21 arg2] [2, 7] [0, 1] [0, 1] rfl ?_
  rcases onO_cases h with ⟨ho1, h⟩ | ⟨w1, ho1, h⟩
  ·refine Tk_eqv (x := winV 1 vsm1 bytes1) (y := .slice none 0 0) (by rw [ho1]; rfl) (fun z => ⟨[(2, some varg21), (7, some z)], [some (Qd b_m 82 [vm1, vm2]), some (Qj u8S true vm2 vsm1 m.b none)], [Fact.sl Qf vm1 m.l, Fact.sl u8S varg21 arg2]⟩) ?_
   refine Qe (Qe (Qb (sMv rfl rfl rfl ?_)))
   refine Qa rfl (OpT_eqNilN rfl rfl rfl (.inl rfl) rfl rfl Try.underlying35) ?_
   refine nW [(2, some varg21), (7, some (.slice none 0 0)), (21, some (vB true))] [some (Qd b_m 82 [vm1, vm2]), some (Qj u8S true vm2 vsm1 m.b none)] [Fact.sl Qf vm1 m.l, Fact.sl u8S varg21 arg2] [2, 7, 21] [0, 1] [0, 1] rfl ?_
   refine Ql rfl ?_
   refine Qe (Qb (sAs rfl rfl rfl ?_))
   refine nW [(6, some (vI (5 : Int)))] [some (Qd b_m 82 [vm1, vm2]), some (Qj u8S true vm2 vsm1 m.b none)] [Fact.sl Qf vm1 m.l] [6] [0, 1] [0] rfl ?_
   obtain rfl := Option.some.inj h
   exact Qn rfl rfl (resA (vs := [vI (5 : Int)]) rfl ⟨rfl, trivial⟩) [0, 1] [] rfl rfl rfl ⟨rfl, rfl, rfl⟩
  ·refine Tk_eqv (x := winV 1 vsm1 bytes1) (y := subV (vsAt vsm1 (Int.toNat w1.1)) 1 (Int.toNat w1.2.1) (Int.toNat w1.2.2)) (by rw [ho1]; rfl) (fun z => ⟨[(2, some varg21), (7, some z)], [some (Qd b_m 82 [vm1, vm2]), some (Qj u8S true vm2 vsm1 m.b none)], [Fact.sl Qf vm1 m.l, Fact.sl u8S varg21 arg2]⟩) ?_
   obtain ⟨row1, hx3, h⟩ := ob_e h
   refine Tk_vs (vs_focus (i := 1) (j := w1.1) rfl hx3) ?_
   obtain ⟨hc1, h⟩ := Zi h
   refine Qe (Qe (Qb (sMv rfl rfl rfl ?_)))
   obtain ⟨hc2, h⟩ := Zi h
   refine Qa rfl (OpT_eqSub (S := u8S) (l := w1.2.1) (m := w1.2.2) rfl rfl rfl (.inl rfl) rfl rfl Try.underlying35 (i := 2) rfl hc1 hc2) ?_
   refine nW [(2, some varg21), (7, some (subV (vsAt vsm1 (Int.toNat w1.1)) 1 (Int.toNat w1.2.1) (Int.toNat w1.2.2))), (21, some (vB false))] [some (Qd b_m 82 [vm1, vm2]), some (Qj u8S true vm2 vsm1 m.b (some (Int.toNat w1.1, vsAt vsm1 (Int.toNat w1.1)))), some (rowS u8S (vsAt vsm1 (Int.toNat w1.1)) row1)] [Fact.sl Qf vm1 m.l, Fact.sl u8S varg21 arg2] [2, 7, 21] [0, 1, 2] [0, 1] rfl ?_
   refine Qm rfl ?_
   refine Qr (Qe (Qb (sMv rfl rfl rfl ?_)))
   refine sMv rfl rfl rfl ?_
   refine Qa rfl (OpT_copyS (S := u8S) (l := w1.2.1) (m := w1.2.2) rfl rfl rfl rfl rfl rfl Xg (i := 2) (j := 1) rfl rfl hc1) ?_
   refine nW [] [some (Qd b_m 82 [vm1, vm2]), some (Qj u8S true vm2 vsm1 m.b (some (Int.toNat w1.1, vsAt vsm1 (Int.toNat w1.1)))), some (rowS u8S (vsAt vsm1 (Int.toNat w1.1)) (copyAt row1 w1.2.1 w1.2.2 arg2))] [Fact.sl Qf vm1 m.l] [] [0, 1, 2] [0] rfl ?_
   refine Tk_vs (vs_unfocus (i := 1) (q := 2) rfl rfl rfl) ?_
   refine Qe (Qb (sAs rfl rfl rfl ?_))
   refine nW [(6, some (vI (0 : Int)))] [some (Qd b_m 82 [vm1, vm2]), some (Qj u8S true vm2 vsm1 (m.b.set (Int.toNat w1.1) (copyAt row1 w1.2.1 w1.2.2 arg2)) none)] [Fact.sl Qf vm1 m.l] [6] [0, 1] [0] rfl ?_
   obtain rfl := Option.some.inj h
   exact Qn rfl rfl (resA (vs := [vI (0 : Int)]) rfl ⟨rfl, trivial⟩) [0, 1] [] rfl rfl rfl ⟨rfl, rfl, rfl⟩

set_option maxRecDepth 100000 in
set_option maxHeartbeats 4000000 in
theorem w_frame_Check {f : Frame} {vf1 : Value} {r : Int} (h : Ya f = some r) :
  Ctr Try.prog 60 #[.agg #[vU8 f.Dst.a0, vU8 f.Dst.a1, vU8 f.Dst.a2, vU8 f.Dst.a3, vU8 f.Dst.a4, vU8 f.Dst.a5, vU8 f.Src.a0, vU8 f.Src.a1, vU8 f.Src.a2, vU8 f.Src.a3, vU8 f.Src.a4, vU8 f.Src.a5, vI f.Vlan, vU16 f.Type_, vf1]] [] [Fact.sl u8S vf1 f.Data]
   (fun rv own shr => rv = vI r ∧ own = [] ∧ shr = []) := by
 unfold Ya at h
 refine Ctr.mk (args := [.agg #[vU8 f.Dst.a0, vU8 f.Dst.a1, vU8 f.Dst.a2, vU8 f.Dst.a3, vU8 f.Dst.a4, vU8 f.Dst.a5, vU8 f.Src.a0, vU8 f.Src.a1, vU8 f.Src.a2, vU8 f.Src.a3, vU8 f.Src.a4, vU8 f.Src.a5, vI f.Vlan, vU16 f.Type_, vf1]]) Try.func60 rfl rfl (fun R0 w0 B => ?_)
 refine Qe (Qb (Qq rfl (YG rfl rfl rfl rfl) fun b1 => ?_))
 refine sAs rfl rfl rfl ?_
 refine nW [(1, some (.pointer (some ⟨b1, 0, none⟩)))] [some (Qd b1 37 [vU8 f.Dst.a0, vU8 f.Dst.a1, vU8 f.Dst.a2, vU8 f.Dst.a3, vU8 f.Dst.a4, vU8 f.Dst.a5, vU8 f.Src.a0, vU8 f.Src.a1, vU8 f.Src.a2, vU8 f.Src.a3, vU8 f.Src.a4, vU8 f.Src.a5, vI f.Vlan, vU16 f.Type_, vf1])] [Fact.sl u8S vf1 f.Data] [1] [0] [0] rfl ?_
 refine Qe (Qe (Qb (Qa rfl (Qo rfl rfl rfl rfl YE) ?_)))
 refine Qa rfl (Qp rfl rfl rfl rfl tyF3 (i := 0) rfl rfl) ?_
 refine Qa rfl (Qg rfl rfl rfl rfl rfl (QK (a := f.Vlan) (b := ((-1) : Int)))) ?_
 refine sMv rfl rfl rfl ?_
 rcases bC (decide (f.Vlan < ((-1) : Int))) with hg1 | hg1
 ·replace h := br_t hg1 h
  refine Qh rfl rfl (cgb hg1) rfl rfl ?_
  refine Qh rfl rfl (cgb hg1) rfl rfl ?_
  refine Qh rfl rfl (cgb hg1) rfl rfl ?_
  refine Qa rfl (Qw rfl rfl rfl (cgb hg1) rfl) ?_
  refine sMv rfl rfl rfl ?_
  refine Qh rfl rfl rfl rfl rfl ?_
  refine Qh rfl rfl rfl rfl rfl ?_
  refine Qh rfl rfl rfl rfl rfl ?_
  refine Qa rfl (Qw rfl rfl rfl rfl rfl) ?_
  refine sMv rfl rfl rfl ?_
  refine Qh rfl rfl rfl rfl rfl ?_
  refine Qh rfl rfl rfl rfl rfl ?_
  refine Qh rfl rfl rfl rfl rfl ?_
  refine Qh rfl rfl rfl rfl rfl ?_
  refine Qa rfl (Qw rfl rfl rfl rfl rfl) ?_
  refine nW [(21, some (vB true))] [] [] [21] [] [] rfl ?_
  refine Ql rfl ?_
  refine Qe (Qb (sAs rfl rfl rfl ?_))
  refine nW [(2, some (vI (2 : Int)))] [] [] [2] [] [] rfl ?_
  obtain rfl := Option.some.inj h
  exact Qn rfl rfl (resA (vs := [vI (2 : Int)]) rfl ⟨rfl, trivial⟩) [] [] rfl rfl rfl ⟨rfl, rfl, rfl⟩
 ·replace h := br_f hg1 h
  refine Qi rfl rfl (cgb hg1) (Qo rfl rfl rfl rfl YE) ?_
  rintro _ rfl
  refine Qi rfl rfl (cgb hg1) (Qp rfl rfl rfl rfl tyF3 (i := 0) rfl rfl) ?_
  rintro _ rfl
  refine Qi rfl rfl (cgb hg1) (Qg rfl rfl rfl rfl rfl (ZD (a := f.Vlan) (b := (4095 : Int)))) ?_
  rintro _ rfl
  refine Qa rfl (Qu rfl rfl rfl (cgb hg1) rfl) ?_
  refine sMv rfl rfl rfl ?_
  rcases bC (decide (f.Vlan > (4095 : Int))) with hg2 | hg2
  ·replace h := br_t hg2 h
   refine Qh rfl rfl (cgb hg2) rfl rfl ?_
   refine Qh rfl rfl (cgb hg2) rfl rfl ?_
   refine Qh rfl rfl (cgb hg2) rfl rfl ?_
   refine Qa rfl (Qw rfl rfl rfl (cgb hg2) rfl) ?_
   refine sMv rfl rfl rfl ?_
   refine Qh rfl rfl rfl rfl rfl ?_
   refine Qh rfl rfl rfl rfl rfl ?_
   refine Qh rfl rfl rfl rfl rfl ?_
   refine Qh rfl rfl rfl rfl rfl ?_
   refine Qa rfl (Qw rfl rfl rfl rfl rfl) ?_
   refine nW [(21, some (vB true))] [] [] [21] [] [] rfl ?_
   refine Ql rfl ?_
   refine Qe (Qb (sAs rfl rfl rfl ?_))
   refine nW [(2, some (vI (2 : Int)))] [] [] [2] [] [] rfl ?_
   obtain rfl := Option.some.inj h
   exact Qn rfl rfl (resA (vs := [vI (2 : Int)]) rfl ⟨rfl, trivial⟩) [] [] rfl rfl rfl ⟨rfl, rfl, rfl⟩
  ·replace h := br_f hg2 h
   refine Qi rfl rfl (cgb hg2) (Qo rfl rfl rfl rfl fldF37x3) ?_
   rintro _ rfl
   refine Qi rfl rfl (cgb hg2) (Qp rfl rfl rfl rfl tyF34 (i := 0) rfl rfl) ?_
   rintro _ rfl
   refine Qi rfl rfl (cgb hg2) (Qg rfl rfl rfl rfl rfl (bin_eql_u16 (a := f.Type_) (b := (33024 : UInt16)))) ?_
   rintro _ rfl
   refine Qa rfl (Qu rfl rfl rfl (cgb hg2) rfl) ?_
   refine sMv rfl rfl rfl ?_
   rcases bC (f.Type_ == (33024 : UInt16)) with hg3 | hg3
   ·replace h := br_t hg3 h
    refine Qh rfl rfl (cgb hg3) rfl rfl ?_
    refine Qh rfl rfl (cgb hg3) rfl rfl ?_
    refine Qh rfl rfl (cgb hg3) rfl rfl ?_
    refine Qh rfl rfl (cgb hg3) rfl rfl ?_
    refine Qa rfl (Qw rfl rfl rfl (cgb hg3) rfl) ?_
    refine nW [(21, some (vB true))] [] [] [21] [] [] rfl ?_
    refine Ql rfl ?_
    refine Qe (Qb (sAs rfl rfl rfl ?_))
    refine nW [(2, some (vI (2 : Int)))] [] [] [2] [] [] rfl ?_
    obtain rfl := Option.some.inj h
    exact Qn rfl rfl (resA (vs := [vI (2 : Int)]) rfl ⟨rfl, trivial⟩) [] [] rfl rfl rfl ⟨rfl, rfl, rfl⟩
   ·replace h := br_f hg3 h
    refine Qi rfl rfl (cgb hg3) (Qo rfl rfl rfl rfl fldF37x4) ?_
    rintro _ rfl
    refine Qi rfl rfl (cgb hg3) (Qp rfl rfl rfl rfl tyF35 (i := 0) rfl rfl) ?_
    rintro _ rfl
    refine Qi rfl rfl (cgb hg3) (QB rfl rfl rfl rfl Try.underlying35 (i := 0) rfl) ?_
    rintro _ rfl
    refine Qi rfl rfl (cgb hg3) (Qg rfl rfl rfl rfl rfl (ZD (a := len f.Data) (b := (1500 : Int)))) ?_
    rintro _ rfl
    refine Qa rfl (Qu rfl rfl rfl (cgb hg3) rfl) ?_
    refine nW [(21, some (vB (decide ((len f.Data) > (1500 : Int)))))] [] [] [21] [] [] rfl ?_
    rcases bC (decide ((len f.Data) > (1500 : Int))) with hg4 | hg4
    ·replace h := br_t hg4 h
     refine Ql (cgb hg4) ?_
     refine Qe (Qb (sAs rfl rfl rfl ?_))
     refine nW [(2, some (vI (2 : Int)))] [] [] [2] [] [] rfl ?_
     obtain rfl := Option.some.inj h
     exact Qn rfl rfl (resA (vs := [vI (2 : Int)]) rfl ⟨rfl, trivial⟩) [] [] rfl rfl rfl ⟨rfl, rfl, rfl⟩
    ·replace h := br_f hg4 h
     refine Qm (cgb hg4) ?_
     refine Qr (Qe (Qb (sAs rfl rfl rfl ?_)))
     refine nW [(2, some (vI (0 : Int)))] [] [] [2] [] [] rfl ?_
     obtain rfl := Option.some.inj h
     exact Qn rfl rfl (resA (vs := [vI (0 : Int)]) rfl ⟨rfl, trivial⟩) [] [] rfl rfl rfl ⟨rfl, rfl, rfl⟩

set_option maxRecDepth 100000 in
set_option maxHeartbeats 4000000 in
theorem w_slices_Grow_bytebyten0 {np1 : Int} {r : (List UInt8)} (h : ZR np1 = some r) :
  Ctr Try.prog 61 #[.slice none 0 0, vI np1] [] []
   (fun rv own shr => ∃ (w1 : Value), rv = w1 ∧ own = [(rowS u8S w1 r)] ∧ shr = []) := by
 unfold ZR at h
 refine Ctr.mk (args := [.slice none 0 0, vI np1]) Try.func61 rfl rfl (fun R0 w0 B => ?_)
 refine Qe (Qb (sAs rfl rfl rfl ?_))
 refine nW [(0, some (.slice none 0 0)), (1, some (vI np1))] [] [] [0, 1] [] [] rfl ?_
 refine Qe (Qe (Qb (sMv rfl rfl rfl ?_)))
 refine Qa rfl (Qg rfl rfl rfl rfl rfl (QK (a := np1) (b := (0 : Int)))) ?_
 refine nW [(0, some (.slice none 0 0)), (1, some (vI np1)), (6, some (vB (decide (np1 < (0 : Int)))))] [] [] [0, 1, 6] [] [] rfl ?_
 refine Yu (α := Unit) (fun s => ⟨[(0, some (.slice none 0 0)), (1, some (vI np1))], [], []⟩) (fun s => ZI np1 = some r) ?_ ?_
 ·rintro _ h
  replace h : ZI np1 = some r := h
  unfold ZI at h
  refine Qe (Qe (Qb (sMv rfl rfl rfl ?_)))
  refine sMv rfl rfl rfl ?_
  refine Qa rfl (OpT_capN rfl rfl rfl rfl Try.underlying35) ?_
  refine sMv rfl rfl rfl ?_
  refine Qa rfl (OpT_lenE rfl rfl rfl rfl Try.underlying35) ?_
  refine Qa rfl (Qg rfl rfl rfl rfl rfl (Xu (a := (0 : Int)) (b := (0 : Int)))) ?_
  refine Qa rfl (Qg rfl rfl rfl rfl rfl (Xu (a := np1) (b := wi ((0 : Int) - (0 : Int))))) ?_
  refine sAs rfl rfl rfl ?_
  refine nW [(0, some (.slice none 0 0)), (1, some (vI (wi (np1 - (wi ((0 : Int) - (0 : Int)))))))] [] [] [0, 1] [] [] rfl ?_
  refine Qe (Qb (sMv rfl rfl rfl ?_))
  refine Qa rfl (Qg rfl rfl rfl rfl rfl (ZD (a := wi (np1 - (wi ((0 : Int) - (0 : Int))))) (b := (0 : Int)))) ?_
  refine nW [(0, some (.slice none 0 0)), (1, some (vI (wi (np1 - (wi ((0 : Int) - (0 : Int))))))), (16, some (vB (decide ((wi (np1 - (wi ((0 : Int) - (0 : Int))))) > (0 : Int)))))] [] [] [0, 1, 16] [] [] rfl ?_
  rcases bC (decide ((wi (np1 - (wi ((0 : Int) - (0 : Int))))) > (0 : Int))) with hg1 | hg1
  ·replace h := br_t hg1 h
   refine Ql (cgb hg1) ?_
   refine Qb (sMv rfl rfl rfl ?_)
   refine sMv rfl rfl rfl ?_
   refine Qa rfl (OpT_capN rfl rfl rfl rfl Try.underlying35) ?_
   refine Qa rfl (OpT_sliceN rfl rfl rfl rfl rfl Try.underlying35 ⟨_, (Xg).sz⟩) ?_
   refine sMv rfl rfl rfl ?_
   obtain ⟨hc1, h⟩ := Zi h
   refine Qq rfl (OpT_appendZ u8S rfl (l := wi (np1 - (wi ((0 : Int) - (0 : Int))))) (u := (0 : UInt8)) rfl rfl rfl rfl rfl Xg Try.underlying3 rfl hc1) fun v1 => ?_
   refine sMv rfl rfl rfl ?_
   refine Qa rfl (OpT_lenE rfl rfl rfl rfl Try.underlying35) ?_
   obtain ⟨hc2, h⟩ := Zi h
   refine Qq rfl (OpT_sliceO (m := (0 : Int)) rfl rfl rfl rfl rfl Xg (i := 0) rfl hc2) fun v2 => ?_
   refine sAs rfl rfl rfl ?_
   refine nW [(0, some v2)] [some (rowS u8S v2 ((List.replicate (wi (np1 - (wi ((0 : Int) - (0 : Int))))).toNat (0 : UInt8)).take (0 : Int).toNat))] [] [0] [0] [] rfl ?_
   refine Qe (Qb (sMv rfl rfl rfl ?_))
   refine sAs rfl rfl rfl ?_
   refine nW [(4, some v2)] [some (rowS u8S v2 ((List.replicate (wi (np1 - (wi ((0 : Int) - (0 : Int))))).toNat (0 : UInt8)).take (0 : Int).toNat))] [] [4] [0] [] rfl ?_
   obtain rfl := Option.some.inj h
   exact Qn rfl rfl (resA (vs := [v2]) rfl ⟨rfl, trivial⟩) [0] [] rfl rfl rfl ⟨v2, rfl, rfl, rfl⟩
  ·replace h := br_f hg1 h
   refine Qm (cgb hg1) ?_
   refine Qr (Qe (Qb (sMv rfl rfl rfl ?_)))
   refine sAs rfl rfl rfl ?_
   refine nW [(4, some (.slice none 0 0))] [] [] [4] [] [] rfl ?_
   refine QI u8S ?_
   obtain rfl := Option.some.inj h
   exact Qn rfl rfl (resA (vs := [.slice none 0 0]) rfl ⟨rfl, trivial⟩) [0] [] rfl rfl rfl ⟨(.slice none 0 0), rfl, rfl, rfl⟩
 ·intro HJ1
  obtain ⟨hg2, h⟩ := Zi h
  replace hg2 := not_t hg2
  refine Qm (cgb hg2) ?_
  refine Qr ?_
  exact ZP (HJ1 () h) [0, 1] [] [] rfl rfl rfl rfl

set_option maxRecDepth 100000 in
set_option maxHeartbeats 4000000 in
theorem YW {slices : List (List UInt8)} {vslices1 : Value} {r : (List UInt8)} (h : Zl slices = some r) :
  Ctr Try.prog 40 #[vslices1] [] [Fact.sl (Shape.slice u8S) vslices1 slices]
   (fun rv own shr => ∃ (w1 : Value), rv = w1 ∧ own = [(rowS u8S w1 r)] ∧ shr = []) := by
 unfold Zl at h
 refine Ctr.mk (args := [vslices1]) Try.func40 rfl rfl (fun R0 w0 B => ?_)
 refine Qe (Qb (sAs rfl rfl rfl ?_))
 refine nW [(0, some vslices1)] [] [Fact.sl (Shape.slice u8S) vslices1 slices] [0] [] [0] rfl ?_
 refine Qe (Qb (sAs rfl rfl rfl ?_))
 refine QT (Qe (Qe (Qb (sMv rfl rfl rfl ?_))))
 refine Qa rfl (QB rfl rfl rfl rfl Try.underlying80 (i := 0) rfl) ?_
 refine sMv rfl rfl rfl ?_
 refine QT (Qz (Zc (σ := Int × Int) [0, 3, 9, 10, 11] [] [0] (fun s => ⟨[(0, some vslices1), (3, some (vI s.1)), (9, some vslices1), (10, some (vI (len slices))), (11, some (vI s.2))], [], [Fact.sl (Shape.slice u8S) vslices1 slices]⟩) (fun nf1 s => QS slices nf1 s.1 s.2 = some r) fuel ((0 : Int), (0 : Int)) h rfl rfl rfl rfl rfl (fun s h => by cases h) ?_))
 rintro nf1 ⟨size1, x1⟩ h
 replace h : ZU slices (QS slices nf1) size1 x1 = some r := h
 unfold ZU at h
 refine Qe (Qb (Qa rfl (Qg rfl rfl rfl rfl rfl (QK (a := x1) (b := len slices))) ?_))
 refine QT (Qe ?_)
 rcases bC (decide (x1 < (len slices))) with hg1 | hg1
 ·replace h := br_t hg1 h
  refine Ql (cgb hg1) ?_
  refine Qr (Qe (Yu (α := Int) (fun s => ⟨[(0, some vslices1), (3, some (vI s)), (9, some vslices1), (10, some (vI (len slices))), (11, some (vI x1))], [], [Fact.sl (Shape.slice u8S) vslices1 slices]⟩) (fun s => ZK x1 (QS slices nf1) s = some r) ?_ ?_))
  ·rintro size2 h
   replace h : ZK x1 (QS slices nf1) size2 = some r := h
   unfold ZK at h
   refine Qb (Qa rfl (Qg rfl rfl rfl rfl rfl (Qx (a := x1) (b := (1 : Int)))) ?_)
   refine sMv rfl rfl rfl ?_
   refine nW [(0, some vslices1), (3, some (vI size2)), (9, some vslices1), (10, some (vI (len slices))), (11, some (vI (wi (x1 + (1 : Int)))))] [] [Fact.sl (Shape.slice u8S) vslices1 slices] [0, 3, 9, 10, 11] [] [0] rfl ?_
   exact QN (size2, wi (x1 + (1 : Int))) h [0, 3, 9, 10, 11] [] [0] rfl rfl rfl rfl rfl
  ·intro HJ1
   refine Qz (Qe (Qb ?_))
   obtain ⟨y1, hx1, h⟩ := ob_e h
   refine Qq rfl (QA rfl rfl rfl rfl rfl slF80 (i := 0) rfl hx1) fun p1 => ?_
   refine Qq rfl (Xn rfl rfl rfl rfl tyF35 (i := 1) rfl) fun v1 => ?_
   refine sAs rfl rfl rfl ?_
   refine nW [(0, some vslices1), (3, some (vI size1)), (9, some vslices1), (10, some (vI (len slices))), (11, some (vI x1)), (5, some v1)] [] [Fact.sl (Shape.slice u8S) vslices1 slices, Fact.sl u8S v1 y1] [0, 3, 9, 10, 11, 5] [] [0, 2] rfl ?_
   refine Qe (Qb (sMv rfl rfl rfl ?_))
   refine sMv rfl rfl rfl ?_
   refine Qa rfl (QB rfl rfl rfl rfl Try.underlying35 (i := 1) rfl) ?_
   refine Qa rfl (Qg rfl rfl rfl rfl rfl (Qx (a := size1) (b := len y1))) ?_
   refine sAs rfl rfl rfl ?_
   refine nW [(0, some vslices1), (3, some (vI (wi (size1 + (len y1))))), (9, some vslices1), (10, some (vI (len slices))), (11, some (vI x1))] [] [Fact.sl (Shape.slice u8S) vslices1 slices] [0, 3, 9, 10, 11] [] [0] rfl ?_
   refine Qe (Qb (sMv rfl rfl rfl ?_))
   refine Qa rfl (Qg rfl rfl rfl rfl rfl (QK (a := wi (size1 + (len y1))) (b := (0 : Int)))) ?_
   refine nW [(0, some vslices1), (3, some (vI (wi (size1 + (len y1))))), (9, some vslices1), (10, some (vI (len slices))), (11, some (vI x1)), (20, some (vB (decide ((wi (size1 + (len y1))) < (0 : Int)))))] [] [Fact.sl (Shape.slice u8S) vslices1 slices] [0, 3, 9, 10, 11, 20] [] [0] rfl ?_
   refine Yu (α := Unit) (fun s => ⟨[(0, some vslices1), (3, some (vI (wi (size1 + (len y1))))), (9, some vslices1), (10, some (vI (len slices))), (11, some (vI x1))], [], [Fact.sl (Shape.slice u8S) vslices1 slices]⟩) (fun s => ZJ size1 x1 (QS slices nf1) y1 = some r) ?_ ?_
   ·rintro _ h
    replace h : ZJ size1 x1 (QS slices nf1) y1 = some r := h
    unfold ZJ at h
    refine Zk ?_
    exact ZP (HJ1 (wi (size1 + (len y1))) h) [0, 3, 9, 10, 11] [] [0] rfl rfl rfl rfl
   ·intro HJ2
    obtain ⟨hg2, h⟩ := Zi h
    replace hg2 := not_t hg2
    refine Qm (cgb hg2) ?_
    refine Qr ?_
    exact ZP (HJ2 () h) [0, 3, 9, 10, 11] [] [0] rfl rfl rfl rfl
 ·replace h := br_f hg1 h
  refine Qm (cgb hg1) ?_
  refine Zf _ rfl ?_
  refine Qe (Qb (sMv rfl rfl rfl ?_))
  obtain ⟨growby1, hx2, h⟩ := ob_e h
  refine Qt rfl (QO (w_slices_Grow_bytebyten0 hx2) [] [] rfl rfl rfl rfl rfl callee61 rfl rfl rfl rfl) ?_
  rintro _ ⟨v2, _, _, ⟨_, rfl, rfl, rfl⟩, rfl⟩
  refine sAs rfl rfl rfl ?_
  refine nW [(0, some vslices1), (6, some v2)] [some (rowS u8S v2 growby1)] [Fact.sl (Shape.slice u8S) vslices1 slices] [0, 6] [0] [0] rfl ?_
  refine Qe (Qe (Qb (sMv rfl rfl rfl ?_)))
  refine Qa rfl (QB rfl rfl rfl rfl Try.underlying80 (i := 0) rfl) ?_
  refine sMv rfl rfl rfl ?_
  refine nW [(6, some v2), (25, some vslices1), (26, some (vI (len slices))), (27, some (vI (0 : Int)))] [some (rowS u8S v2 growby1)] [Fact.sl (Shape.slice u8S) vslices1 slices] [6, 25, 26, 27] [0] [0] rfl ?_
  refine Qz (Zc (σ := (List UInt8) × Int × Value) [6, 25, 26, 27] [0] [0] (fun s => ⟨[(6, some (s.2.2)), (25, some vslices1), (26, some (vI (len slices))), (27, some (vI s.2.1))], [some (rowS u8S s.2.2 s.1)], [Fact.sl (Shape.slice u8S) vslices1 slices]⟩) (fun nf4 s => Zr slices nf4 s.1 s.2.1 = some r) fuel (growby1, (0 : Int), v2) h rfl rfl rfl rfl rfl (fun s h => by cases h) ?_)
  rintro nf4 ⟨newslice1, x2, v3⟩ h
  replace h : ZT slices (Zr slices nf4) newslice1 x2 = some r := h
  unfold ZT at h
  refine Qe (Qb (Qa rfl (Qg rfl rfl rfl rfl rfl (QK (a := x2) (b := len slices))) ?_))
  refine QT (Qe ?_)
  rcases bC (decide (x2 < (len slices))) with hg3 | hg3
  ·replace h := br_t hg3 h
   refine Ql (cgb hg3) ?_
   refine Qr (Qe (Qz (Qe (Qb ?_))))
   obtain ⟨y2, hx3, h⟩ := ob_e h
   refine Qq rfl (QA rfl rfl rfl rfl rfl slF80 (i := 0) rfl hx3) fun p2 => ?_
   refine Qq rfl (Xn rfl rfl rfl rfl tyF35 (i := 1) rfl) fun v4 => ?_
   refine sAs rfl rfl rfl ?_
   refine nW [(6, some v3), (25, some vslices1), (26, some (vI (len slices))), (27, some (vI x2)), (8, some v4)] [some (rowS u8S v3 newslice1)] [Fact.sl (Shape.slice u8S) vslices1 slices, Fact.sl u8S v4 y2] [6, 25, 26, 27, 8] [0] [0, 2] rfl ?_
   refine Qb (sMv rfl rfl rfl ?_)
   refine sMv rfl rfl rfl ?_
   obtain ⟨hc1, h⟩ := Zi h
   refine Qq rfl (ZS rfl rfl rfl rfl rfl Xg (i := 0) (j := 1) rfl rfl hc1) fun v5 => ?_
   refine sAs rfl rfl rfl ?_
   refine nW [(6, some v5), (25, some vslices1), (26, some (vI (len slices))), (27, some (vI x2))] [some (rowS u8S v5 (newslice1 ++ y2))] [Fact.sl (Shape.slice u8S) vslices1 slices] [6, 25, 26, 27] [0] [0] rfl ?_
   refine Zk (Qb (Qa rfl (Qg rfl rfl rfl rfl rfl (Qx (a := x2) (b := (1 : Int)))) ?_))
   refine sMv rfl rfl rfl ?_
   refine nW [(6, some v5), (25, some vslices1), (26, some (vI (len slices))), (27, some (vI (wi (x2 + (1 : Int)))))] [some (rowS u8S v5 (newslice1 ++ y2))] [Fact.sl (Shape.slice u8S) vslices1 slices] [6, 25, 26, 27] [0] [0] rfl ?_
   exact QN (newslice1 ++ y2, wi (x2 + (1 : Int)), v5) h [6, 25, 26, 27] [0] [0] rfl rfl rfl rfl rfl
  ·replace h := br_f hg3 h
   refine Qm (cgb hg3) ?_
   refine Zf _ rfl ?_
   refine Qe (Qb (sMv rfl rfl rfl ?_))
   refine sAs rfl rfl rfl ?_
   refine nW [(2, some v3)] [some (rowS u8S v3 newslice1)] [] [2] [0] [] rfl ?_
   obtain rfl := Option.some.inj h
   exact Qn rfl rfl (resA (vs := [v3]) rfl ⟨rfl, trivial⟩) [0] [] rfl rfl rfl ⟨v3, rfl, rfl, rfl⟩

set_option maxRecDepth 100000 in
set_option maxHeartbeats 4000000 in
theorem w_frame_Bytes {f : Frame} {vf1 : Value} {r : ((List UInt8) × Int)} (h : Yo f = some r) :
  Ctr Try.prog 36 #[.agg #[vU8 f.Dst.a0, vU8 f.Dst.a1, vU8 f.Dst.a2, vU8 f.Dst.a3, vU8 f.Dst.a4, vU8 f.Dst.a5, vU8 f.Src.a0, vU8 f.Src.a1, vU8 f.Src.a2, vU8 f.Src.a3, vU8 f.Src.a4, vU8 f.Src.a5, vI f.Vlan, vU16 f.Type_, vf1]] [] [Fact.sl u8S vf1 f.Data]
   (fun rv own shr => ∃ (w1 : Value), rv = .tuple #[w1, vI r.2] ∧ own = [(rowS u8S w1 r.1)] ∧ shr = []) := by
 unfold Yo at h
 refine Ctr.mk (args := [.agg #[vU8 f.Dst.a0, vU8 f.Dst.a1, vU8 f.Dst.a2, vU8 f.Dst.a3, vU8 f.Dst.a4, vU8 f.Dst.a5, vU8 f.Src.a0, vU8 f.Src.a1, vU8 f.Src.a2, vU8 f.Src.a3, vU8 f.Src.a4, vU8 f.Src.a5, vI f.Vlan, vU16 f.Type_, vf1]]) Try.func36 rfl rfl (fun R0 w0 B => ?_)
 refine Qe (Qb (Qq rfl (YG rfl rfl rfl rfl) fun b1 => ?_))
 refine sAs rfl rfl rfl ?_
 refine sAs rfl rfl rfl ?_
 refine nW [(1, some (.pointer (some ⟨b1, 0, none⟩)))] [some (Qd b1 37 [vU8 f.Dst.a0, vU8 f.Dst.a1, vU8 f.Dst.a2, vU8 f.Dst.a3, vU8 f.Dst.a4, vU8 f.Dst.a5, vU8 f.Src.a0, vU8 f.Src.a1, vU8 f.Src.a2, vU8 f.Src.a3, vU8 f.Src.a4, vU8 f.Src.a5, vI f.Vlan, vU16 f.Type_, vf1])] [Fact.sl u8S vf1 f.Data] [1] [0] [0] rfl ?_
 refine Qe (Qe (Qb (Qa rfl (Zx (vs := [vU8 f.Dst.a0, vU8 f.Dst.a1, vU8 f.Dst.a2, vU8 f.Dst.a3, vU8 f.Dst.a4, vU8 f.Dst.a5, vU8 f.Src.a0, vU8 f.Src.a1, vU8 f.Src.a2, vU8 f.Src.a3, vU8 f.Src.a4, vU8 f.Src.a5, vI f.Vlan, vU16 f.Type_, vf1]) rfl rfl rfl rfl Xo (i := 0) rfl rfl rfl) ?_)))
 obtain ⟨check1, hx1, h⟩ := ob_e h
 refine Qt rfl (QO (w_frame_Check hx1) [] [0] rfl rfl rfl rfl rfl callee60 rfl rfl rfl rfl) ?_
 rintro _ ⟨_, _, _, ⟨rfl, rfl, rfl⟩, rfl⟩
 refine sAs rfl rfl rfl ?_
 refine nW [(1, some (.pointer (some ⟨b1, 0, none⟩))), (4, some (vI check1))] [some (Qd b1 37 [vU8 f.Dst.a0, vU8 f.Dst.a1, vU8 f.Dst.a2, vU8 f.Dst.a3, vU8 f.Dst.a4, vU8 f.Dst.a5, vU8 f.Src.a0, vU8 f.Src.a1, vU8 f.Src.a2, vU8 f.Src.a3, vU8 f.Src.a4, vU8 f.Src.a5, vI f.Vlan, vU16 f.Type_, vf1])] [Fact.sl u8S vf1 f.Data] [1, 4] [0] [0] rfl ?_
 refine Qe (Qb (sMv rfl rfl rfl ?_))
 refine Qa rfl (Qg rfl rfl rfl rfl rfl (QU (a := check1) (b := (0 : Int)))) ?_
 refine nW [(1, some (.pointer (some ⟨b1, 0, none⟩))), (4, some (vI check1)), (9, some (vB (check1 != (0 : Int))))] [some (Qd b1 37 [vU8 f.Dst.a0, vU8 f.Dst.a1, vU8 f.Dst.a2, vU8 f.Dst.a3, vU8 f.Dst.a4, vU8 f.Dst.a5, vU8 f.Src.a0, vU8 f.Src.a1, vU8 f.Src.a2, vU8 f.Src.a3, vU8 f.Src.a4, vU8 f.Src.a5, vI f.Vlan, vU16 f.Type_, vf1])] [Fact.sl u8S vf1 f.Data] [1, 4, 9] [0] [0] rfl ?_
 rcases bC (check1 != (0 : Int)) with hg1 | hg1
 ·replace h := br_t hg1 h
  refine Ql (cgb hg1) ?_
  refine Qe (Qb (sMv rfl rfl rfl ?_))
  refine sAs rfl rfl rfl ?_
  refine sAs rfl rfl rfl ?_
  refine nW [(2, some (.slice none 0 0)), (3, some (vI check1))] [] [] [2, 3] [] [] rfl ?_
  refine QI u8S ?_
  obtain rfl := Option.some.inj h
  exact Qn rfl rfl (resA (vs := [.slice none 0 0, vI check1]) rfl ⟨rfl, rfl, trivial⟩) [0] [] rfl rfl rfl ⟨(.slice none 0 0), rfl, rfl, rfl⟩
 ·replace h := br_f hg1 h
  refine Qm (cgb hg1) ?_
  refine Qr (Qe (Zw (by kernel_rfl) ?_))
  refine TA_tb [0, 1, 0, 4, 15, 31, 63] (by kernel_rfl) fun htb => ?_
  refine Xy (fr' := [(1, some (.pointer (some ⟨b1, 0, none⟩)))]) (own' := [some (Qd b1 37 [vU8 f.Dst.a0, vU8 f.Dst.a1, vU8 f.Dst.a2, vU8 f.Dst.a3, vU8 f.Dst.a4, vU8 f.Dst.a5, vU8 f.Src.a0, vU8 f.Src.a1, vU8 f.Src.a2, vU8 f.Src.a3, vU8 f.Src.a4, vU8 f.Src.a5, vI f.Vlan, vU16 f.Type_, vf1])]) (shr' := [Fact.sl u8S vf1 f.Data]) [1] [0] [0] rfl rfl rfl rfl ?_
  refine TA_vs (vs_retireP QD (x := f) (i := 0) rfl (rel_s1 (i := 0) rfl rfl rfl)) ?_
  refine Zs (lo := 0) (hi := 4) htb rfl rfl (by kernel_rfl) (fun c L a w => ∃ (p1 : Value), ∃ (v1 : Value), ∃ (p2 : Value), ∃ (v2 : Value), Sat c ⟨[(1, some (.pointer (some ⟨b1, 0, none⟩))), (11, bif L 0 then some (p1) else none), (12, bif L 1 then some (v1) else none), (13, bif L 2 then some (p2) else none), (14, bif L 3 then some (v2) else none)], [(none : Option Res)], [Fact.sl u8S vf1 f.Data, Fact.pt QD (.pointer (some ⟨b1, 0, none⟩)) f, (bif L 0 then Fact.pt a6UInt8S p1 f.Dst else Fact.tt), (bif L 1 then Fact.sl u8S v1 [f.Dst.a0, f.Dst.a1, f.Dst.a2, f.Dst.a3, f.Dst.a4, f.Dst.a5] else Fact.tt), (bif L 2 then Fact.pt a6UInt8S p2 f.Src else Fact.tt), (bif L 3 then Fact.sl u8S v2 [f.Src.a0, f.Src.a1, f.Src.a2, f.Src.a3, f.Src.a4, f.Src.a5] else Fact.tt)]⟩ a w) [([], [1]), ([0], []), ([], [3]), ([2], [])] rfl (by kernel_rfl) ?_ (Qc ?_ (Qc ?_ (Qc ?_ (Qc ?_ (QH))))) ?_
  ·intro a w hs
   exact ⟨undef, undef, undef, undef, hs.startF [11, 12, 13, 14] [0] [0, 1, 2, 3, 4, 5] rfl rfl rfl rfl⟩
  ·intro L a w hv K Q hK
   obtain ⟨p1, v1, p2, v2, hs⟩ := hv
   refine QG rfl rfl hs (QJ (S' := a6UInt8S) (y := f.Dst) rfl rfl rfl rfl fldF37x0 (i := 1) rfl (by intro h cs hr; obtain ⟨v, rfl, _⟩ := hr; rfl)) ?_
   rintro _ ⟨p1', rfl⟩ a' w' hs'
   exact hK a' w' ⟨p1', v1, p2, v2, hs'.putF (i := 1) rfl [0] [0, 1, 6, 3, 4, 5] rfl rfl rfl rfl⟩
  ·intro L a w hv K Q hK
   obtain ⟨p1, v1, p2, v2, hs⟩ := hv
   refine QG rfl rfl hs (OpT_sliceArrP u8S rfl (xs := [f.Dst.a0, f.Dst.a1, f.Dst.a2, f.Dst.a3, f.Dst.a4, f.Dst.a5]) rfl rfl rfl rfl arrF33 (i := 2) rfl (fun _ _ h => h) rfl rfl) ?_
   rintro _ ⟨v1', rfl⟩ a' w' hs'
   exact hK a' w' ⟨p1, v1', p2, v2, hs'.putF (i := 2) rfl [0] [0, 1, 2, 6, 4, 5] rfl rfl rfl rfl⟩
  ·intro L a w hv K Q hK
   obtain ⟨p1, v1, p2, v2, hs⟩ := hv
   refine QG rfl rfl hs (QJ (S' := a6UInt8S) (y := f.Src) rfl rfl rfl rfl fldF37x1 (i := 1) rfl (by intro h cs hr; obtain ⟨v, rfl, _⟩ := hr; rfl)) ?_
   rintro _ ⟨p2', rfl⟩ a' w' hs'
   exact hK a' w' ⟨p1, v1, p2', v2, hs'.putF (i := 3) rfl [0] [0, 1, 2, 3, 6, 5] rfl rfl rfl rfl⟩
  ·intro L a w hv K Q hK
   obtain ⟨p1, v1, p2, v2, hs⟩ := hv
   refine QG rfl rfl hs (OpT_sliceArrP u8S rfl (xs := [f.Src.a0, f.Src.a1, f.Src.a2, f.Src.a3, f.Src.a4, f.Src.a5]) rfl rfl rfl rfl arrF33 (i := 4) rfl (fun _ _ h => h) rfl rfl) ?_
   rintro _ ⟨v2', rfl⟩ a' w' hs'
   exact hK a' w' ⟨p1, v1, p2, v2', hs'.putF (i := 4) rfl [0] [0, 1, 2, 3, 4, 6] rfl rfl rfl rfl⟩
  ·intro L a w hL hv
   rw [QZ hL] at hv
   obtain ⟨p1, v1, p2, v2, hs⟩ := hv
   refine (show TA _ _ _ 4 ⟨[(1, some (.pointer (some ⟨b1, 0, none⟩))), (12, some v1), (14, some v2)], [], [Fact.pt QD (.pointer (some ⟨b1, 0, none⟩)) f, Fact.sl u8S v1 [f.Dst.a0, f.Dst.a1, f.Dst.a2, f.Dst.a3, f.Dst.a4, f.Dst.a5], Fact.sl u8S v2 [f.Src.a0, f.Src.a1, f.Src.a2, f.Src.a3, f.Src.a4, f.Src.a5]]⟩ from ?_) a w (hs.wkS [1, 12, 14] [] [1, 3, 5] rfl rfl rfl rfl)
   clear hs hL
   refine TA_ex htb (by kernel_rfl) rfl rfl (YV (Shape.slice u8S) (vs := [v1, v2]) (xs := [[f.Dst.a0, f.Dst.a1, f.Dst.a2, f.Dst.a3, f.Dst.a4, f.Dst.a5], [f.Src.a0, f.Src.a1, f.Src.a2, f.Src.a3, f.Src.a4, f.Src.a5]]) rfl rfl rfl rfl rfl slF80 (isl_cons (is_sl (i := 1) rfl) (isl_cons (is_sl (i := 2) rfl) isl_nil)) rfl rfl rfl (rel_cons (rel_sl (i := 1) rfl) (rel_cons (rel_sl (i := 2) rfl) (rel_nil rfl)))) fun v3 => ?_
   obtain ⟨concat1, hx2, h⟩ := ob_e h
   refine TA_exP htb (by kernel_rfl) rfl rfl (Zj [0] [0, 1] (YW hx2) [] rfl rfl rfl rfl rfl callee40 rfl rfl rfl rfl rfl rfl (QV (ZO 0 rfl rfl) Xe) (by rintro _ _ _ ⟨_, rfl, rfl, rfl⟩; exact ⟨rfl, (ZL (ri_row (S := u8S) rfl _ _) Ye)⟩)) ?_
   rintro _ ⟨v4, _, _, ⟨_, rfl, rfl, rfl⟩, rfl⟩
   refine QL htb (by kernel_rfl) rfl rfl (Zh rfl rfl rfl rfl) ?_
   refine ZW rfl ?_
   refine tW [(1, some (.pointer (some ⟨b1, 0, none⟩))), (5, some v4)] [some (rowS u8S v4 concat1)] [Fact.pt QD (.pointer (some ⟨b1, 0, none⟩)) f] [1, 5] [1] [0] rfl ?_
   refine Qe (Qe (Qb (Qq rfl (QJ (S' := iS) (y := f.Vlan) rfl rfl rfl rfl YE (i := 0) rfl (by intro h cs hr; obtain ⟨v, rfl, _⟩ := hr; rfl)) fun p3 => ?_)))
   refine Qa rfl (QC rfl rfl rfl rfl tyF3 (i := 1) rfl rfl) ?_
   refine Qa rfl (Qg rfl rfl rfl rfl rfl (bin_geq_i (a := f.Vlan) (b := (0 : Int)))) ?_
   refine nW [(1, some (.pointer (some ⟨b1, 0, none⟩))), (5, some v4), (19, some (vB (decide (f.Vlan ≥ (0 : Int)))))] [some (rowS u8S v4 concat1)] [Fact.pt QD (.pointer (some ⟨b1, 0, none⟩)) f] [1, 5, 19] [0] [0] rfl ?_
   refine Yu (α := (List UInt8) × Value) (fun s => ⟨[(1, some (.pointer (some ⟨b1, 0, none⟩))), (5, some (s.2))], [some (rowS u8S s.2 s.1)], [Fact.pt QD (.pointer (some ⟨b1, 0, none⟩)) f]⟩) (fun s => Yb f s.1 = some r) ?_ ?_
   ·rintro ⟨b2, v5⟩ h
    replace h : Yb f b2 = some r := h
    unfold Yb at h
    refine Qe (Qb (sMv rfl rfl rfl ?_))
    refine Qq rfl (QJ (S' := u16S) (y := f.Type_) rfl rfl rfl rfl fldF37x3 (i := 0) rfl (by intro h cs hr; obtain ⟨v, rfl, _⟩ := hr; rfl)) fun p4 => ?_
    refine Qa rfl (QC rfl rfl rfl rfl tyF34 (i := 1) rfl rfl) ?_
    refine Qa rfl (Qg rfl rfl rfl rfl rfl (XP (a := f.Type_) (n := (8 : UInt64)))) ?_
    refine Qa rfl (QM rfl rfl rfl rfl (XC (n := ZG f.Type_ ((8 : UInt64).toNat)) Try.underlying34 Try.underlying5)) ?_
    refine Qq rfl (QJ (S' := u16S) (y := f.Type_) rfl rfl rfl rfl fldF37x3 (i := 0) rfl (by intro h cs hr; obtain ⟨v, rfl, _⟩ := hr; rfl)) fun p5 => ?_
    refine Qa rfl (QC rfl rfl rfl rfl tyF34 (i := 2) rfl rfl) ?_
    refine Qa rfl (QM rfl rfl rfl rfl (XC (n := f.Type_) Try.underlying34 Try.underlying5)) ?_
    refine Qq rfl (QF (S := u8S) (xs := [(ZG f.Type_ ((8 : UInt64).toNat)).toUInt8, f.Type_.toUInt8]) (css := [[vU8 ((ZG f.Type_ ((8 : UInt64).toNat)).toUInt8)], [vU8 f.Type_.toUInt8]]) (cs := [vU8 ((ZG f.Type_ ((8 : UInt64).toNat)).toUInt8), vU8 f.Type_.toUInt8]) (e := 5) rfl rfl rfl rfl (bldF Xg (by decide) (by kernel_rfl)) rfl rfl rfl rfl (Ze (S := u8S) (xs := [(ZG f.Type_ ((8 : UInt64).toNat)).toUInt8, f.Type_.toUInt8]) (css := [[vU8 ((ZG f.Type_ ((8 : UInt64).toNat)).toUInt8)], [vU8 f.Type_.toUInt8]]) rfl rfl)) fun v6 => ?_
    obtain ⟨hc1, h⟩ := Zi h
    refine Qq rfl (ZH (S := u8S) rfl rfl rfl rfl rfl rfl Xg (i := 0) (j := 1) rfl rfl hc1) fun v7 => ?_
    refine sAs rfl rfl rfl ?_
    refine nW [(1, some (.pointer (some ⟨b1, 0, none⟩))), (5, some v7)] [some (rowS u8S v7 (b2 ++ [(ZG f.Type_ ((8 : UInt64).toNat)).toUInt8, f.Type_.toUInt8]))] [Fact.pt QD (.pointer (some ⟨b1, 0, none⟩)) f] [1, 5] [0] [0] rfl ?_
    refine Qe (Qb (sMv rfl rfl rfl ?_))
    refine Qq rfl (QJ (S' := (Shape.slice u8S)) (y := f.Data) rfl rfl rfl rfl fldF37x4 (i := 0) rfl (by intro h cs hr; obtain ⟨v, rfl, hv⟩ := hr; exact ⟨v, rfl, hv⟩)) fun p6 => ?_
    refine Qq rfl (Xn rfl rfl rfl rfl tyF35 (i := 1) rfl) fun v8 => ?_
    obtain ⟨hc2, h⟩ := Zi h
    refine Qq rfl (ZS rfl rfl rfl rfl rfl Xg (i := 0) (j := 2) rfl rfl hc2) fun v9 => ?_
    refine sAs rfl rfl rfl ?_
    refine sAs rfl rfl rfl ?_
    refine nW [(2, some v9), (3, some (vI (0 : Int)))] [some (rowS u8S v9 ((b2 ++ [(ZG f.Type_ ((8 : UInt64).toNat)).toUInt8, f.Type_.toUInt8]) ++ f.Data))] [] [2, 3] [0] [] rfl ?_
    obtain rfl := Option.some.inj h
    exact Qn rfl rfl (resA (vs := [v9, vI (0 : Int)]) rfl ⟨rfl, rfl, trivial⟩) [0] [] rfl rfl rfl ⟨v9, rfl, rfl, rfl⟩
   ·intro HJ1
    rcases bC (decide (f.Vlan ≥ (0 : Int))) with hg2 | hg2
    ·replace h := br_t hg2 h
     refine Ql (cgb hg2) ?_
     refine Qb (sMv rfl rfl rfl ?_)
     refine Qq rfl (QJ (S' := iS) (y := f.Vlan) rfl rfl rfl rfl YE (i := 0) rfl (by intro h cs hr; obtain ⟨v, rfl, _⟩ := hr; rfl)) fun p7 => ?_
     refine Qa rfl (QC rfl rfl rfl rfl tyF3 (i := 1) rfl rfl) ?_
     refine Qa rfl (Qg rfl rfl rfl rfl rfl (bin_shr_i_u64 (a := f.Vlan) (n := (8 : UInt64)))) ?_
     refine Qa rfl (QM rfl rfl rfl rfl (cnv_i_u8 (n := shri f.Vlan ((8 : UInt64).toNat)) Try.underlying3 Try.underlying5)) ?_
     refine Qq rfl (QJ (S' := iS) (y := f.Vlan) rfl rfl rfl rfl YE (i := 0) rfl (by intro h cs hr; obtain ⟨v, rfl, _⟩ := hr; rfl)) fun p8 => ?_
     refine Qa rfl (QC rfl rfl rfl rfl tyF3 (i := 2) rfl rfl) ?_
     refine Qa rfl (QM rfl rfl rfl rfl (cnv_i_u8 (n := f.Vlan) Try.underlying3 Try.underlying5)) ?_
     refine Qq rfl (QF (S := u8S) (xs := [(129 : UInt8), (0 : UInt8), u8 (shri f.Vlan ((8 : UInt64).toNat)), u8 f.Vlan]) (css := [[vU8 (129 : UInt8)], [vU8 (0 : UInt8)], [vU8 (u8 (shri f.Vlan ((8 : UInt64).toNat)))], [vU8 (u8 f.Vlan)]]) (cs := [vU8 (129 : UInt8), vU8 (0 : UInt8), vU8 (u8 (shri f.Vlan ((8 : UInt64).toNat))), vU8 (u8 f.Vlan)]) (e := 5) rfl rfl rfl rfl (bldF Xg (by decide) (by kernel_rfl)) rfl rfl rfl rfl (Ze (S := u8S) (xs := [(129 : UInt8), (0 : UInt8), u8 (shri f.Vlan ((8 : UInt64).toNat)), u8 f.Vlan]) (css := [[vU8 (129 : UInt8)], [vU8 (0 : UInt8)], [vU8 (u8 (shri f.Vlan ((8 : UInt64).toNat)))], [vU8 (u8 f.Vlan)]]) rfl rfl)) fun v10 => ?_
     obtain ⟨hc3, h⟩ := Zi h
     refine Qq rfl (ZH (S := u8S) rfl rfl rfl rfl rfl rfl Xg (i := 0) (j := 1) rfl rfl hc3) fun v11 => ?_
     refine sAs rfl rfl rfl ?_
     refine nW [(1, some (.pointer (some ⟨b1, 0, none⟩))), (5, some v11)] [some (rowS u8S v11 (concat1 ++ [(129 : UInt8), (0 : UInt8), u8 (shri f.Vlan ((8 : UInt64).toNat)), u8 f.Vlan]))] [Fact.pt QD (.pointer (some ⟨b1, 0, none⟩)) f] [1, 5] [0] [0] rfl ?_
     exact ZP (HJ1 (concat1 ++ [(129 : UInt8), (0 : UInt8), u8 (shri f.Vlan ((8 : UInt64).toNat)), u8 f.Vlan], v11) h) [1, 5] [0] [0] rfl rfl rfl rfl
    ·replace h := br_f hg2 h
     refine Qm (cgb hg2) ?_
     refine Qr ?_
     exact ZP (HJ1 (concat1, v4) h) [1, 5] [0] [0] rfl rfl rfl rfl

set_option maxRecDepth 100000 in
set_option maxHeartbeats 4000000 in
theorem w_frame_HdrOf {hp0 : Hdr} {r : (List UInt8)} (h : frame_HdrOf hp0 = some r) :
  Ctr Try.prog 37 #[.agg #[vU8 hp0.Flags, vU16 hp0.Start, vU16 hp0.Off, vU16 hp0.Buffers]] [] []
   (fun rv own shr => ∃ (w1 : Value), rv = w1 ∧ own = [(rowS u8S w1 r)] ∧ shr = []) := by
 unfold frame_HdrOf at h
 refine Ctr.mk (args := [.agg #[vU8 hp0.Flags, vU16 hp0.Start, vU16 hp0.Off, vU16 hp0.Buffers]]) Try.func37 rfl rfl (fun R0 w0 B => ?_)
 refine Qe (Qb (Qq rfl (YG rfl rfl rfl rfl) fun b1 => ?_))
 refine sAs rfl rfl rfl ?_
 refine nW [(1, some (.pointer (some ⟨b1, 0, none⟩)))] [some (Qd b1 88 [vU8 hp0.Flags, vU16 hp0.Start, vU16 hp0.Off, vU16 hp0.Buffers])] [] [1] [0] [] rfl ?_
 refine Qe (Qb ?_)
 obtain ⟨hc1, h⟩ := Zi h
 refine Qq rfl (OpT_makeD u8S rfl (u := (0 : UInt8)) rfl rfl rfl rfl rfl Xg rfl hc1) fun v1 => ?_
 refine sAs rfl rfl rfl ?_
 refine nW [(1, some (.pointer (some ⟨b1, 0, none⟩))), (3, some v1)] [some (Qd b1 88 [vU8 hp0.Flags, vU16 hp0.Start, vU16 hp0.Off, vU16 hp0.Buffers]), some (rowS u8S v1 (List.replicate (12 : Int).toNat (0 : UInt8)))] [] [1, 3] [0, 1] [] rfl ?_
 refine Qe (Qb (sMv rfl rfl rfl ?_))
 refine Qa rfl (Qo rfl rfl rfl rfl fldF88x0) ?_
 refine Qa rfl (Qp rfl rfl rfl rfl tyF5 (i := 0) rfl rfl) ?_
 obtain ⟨y1, hx1, h⟩ := ob_e h
 refine Qa rfl (OpT_idxO rfl rfl rfl rfl rfl Xg (i := 1) rfl hx1) ?_
 refine Qa rfl (OpT_storeO (S := u8S) (u := hp0.Flags) rfl rfl rfl rfl rfl tyF5 (i := 1) rfl hx1 rfl) ?_
 refine nW [(1, some (.pointer (some ⟨b1, 0, none⟩))), (3, some v1)] [some (Qd b1 88 [vU8 hp0.Flags, vU16 hp0.Start, vU16 hp0.Off, vU16 hp0.Buffers]), some (rowS u8S v1 ((List.replicate (12 : Int).toNat (0 : UInt8)).set (0 : Int).toNat hp0.Flags))] [] [1, 3] [0, 1] [] rfl ?_
 refine Qe (Qe (Qb (Qa rfl (Qo rfl rfl rfl rfl fldF88x1) ?_)))
 refine Qa rfl (Qp rfl rfl rfl rfl tyF34 (i := 0) rfl rfl) ?_
 refine Qa rfl (Qo rfl rfl rfl rfl fldF88x2) ?_
 refine Qa rfl (Qp rfl rfl rfl rfl tyF34 (i := 0) rfl rfl) ?_
 refine Qa rfl (Qo rfl rfl rfl rfl fldF88x3) ?_
 refine Qa rfl (Qp rfl rfl rfl rfl tyF34 (i := 0) rfl rfl) ?_
 refine Qa rfl (Zd (v := .agg #[vU16 hp0.Start, vU16 hp0.Off, vU16 hp0.Buffers]) rfl rfl rfl rfl (bldV (by kernel_rfl))) ?_
 refine sMv rfl rfl rfl ?_
 refine nW [(3, some v1), (17, some (.agg #[vU16 hp0.Start, vU16 hp0.Off, vU16 hp0.Buffers])), (18, some (vI (0 : Int)))] [some (rowS u8S v1 ((List.replicate (12 : Int).toNat (0 : UInt8)).set (0 : Int).toNat hp0.Flags))] [] [3, 17, 18] [1] [] rfl ?_
 refine Qz (Zc (σ := (List UInt8) × Int × Value) [3, 17, 18] [0] [] (fun s => ⟨[(3, some (s.2.2)), (17, some (.agg #[vU16 hp0.Start, vU16 hp0.Off, vU16 hp0.Buffers])), (18, some (vI s.2.1))], [some (rowS u8S s.2.2 s.1)], []⟩) (fun nf1 s => frame_HdrOfL1 hp0 nf1 s.1 s.2.1 = some r) fuel ((List.replicate (12 : Int).toNat (0 : UInt8)).set (0 : Int).toNat hp0.Flags, (0 : Int), v1) h rfl rfl rfl rfl rfl (fun s h => by cases h) ?_)
 rintro nf1 ⟨l1, x1, v2⟩ h
 replace h : frame_HdrOfL1B hp0 (frame_HdrOfL1 hp0 nf1) l1 x1 = some r := h
 unfold frame_HdrOfL1B at h
 refine Qe (Qb (Qa rfl (Qg rfl rfl rfl rfl rfl (QK (a := x1) (b := (3 : Int)))) ?_))
 refine QT (Qe ?_)
 rcases bC (decide (x1 < (3 : Int))) with hg1 | hg1
 ·replace h := br_t hg1 h
  refine Ql (cgb hg1) ?_
  refine Qr (Qe (Qz (Qe (Qb (sMv rfl rfl rfl ?_)))))
  obtain ⟨u1, hx2, h⟩ := ob_e h
  refine Qa rfl (OpT_idxV vU16 [hp0.Start, hp0.Off, hp0.Buffers] rfl rfl rfl rfl rfl arrF113 tyF34 rfl rfl hx2) ?_
  refine sAs rfl rfl rfl ?_
  refine sAs rfl rfl rfl ?_
  refine nW [(3, some v2), (17, some (.agg #[vU16 hp0.Start, vU16 hp0.Off, vU16 hp0.Buffers])), (18, some (vI x1)), (4, some (vI x1)), (5, some (vU16 u1))] [some (rowS u8S v2 l1)] [] [3, 17, 18, 4, 5] [0] [] rfl ?_
  refine Qb (sMv rfl rfl rfl ?_)
  refine sMv rfl rfl rfl ?_
  refine Qa rfl (Qg rfl rfl rfl rfl rfl (bin_mul_i (a := (2 : Int)) (b := x1))) ?_
  refine Qa rfl (Qg rfl rfl rfl rfl rfl (Qx (a := (6 : Int)) (b := wi ((2 : Int) * x1)))) ?_
  refine sMv rfl rfl rfl ?_
  refine sMv rfl rfl rfl ?_
  refine Qa rfl (Qg rfl rfl rfl rfl rfl (bin_mul_i (a := (2 : Int)) (b := x1))) ?_
  refine Qa rfl (Qg rfl rfl rfl rfl rfl (Qx (a := (7 : Int)) (b := wi ((2 : Int) * x1)))) ?_
  refine sMv rfl rfl rfl ?_
  refine Qa rfl (QM rfl rfl rfl rfl (XC (n := u1) Try.underlying34 Try.underlying5)) ?_
  refine sMv rfl rfl rfl ?_
  refine Qa rfl (Qg rfl rfl rfl rfl rfl (XP (a := u1) (n := (8 : UInt64)))) ?_
  refine Qa rfl (QM rfl rfl rfl rfl (XC (n := ZG u1 ((8 : UInt64).toNat)) Try.underlying34 Try.underlying5)) ?_
  obtain ⟨y2, hx3, h⟩ := ob_e h
  refine Qa rfl (OpT_idxO rfl rfl rfl rfl rfl Xg (i := 0) rfl hx3) ?_
  refine Qa rfl (OpT_storeO (S := u8S) (u := u1.toUInt8) rfl rfl rfl rfl rfl tyF5 (i := 0) rfl hx3 rfl) ?_
  obtain ⟨y3, hx4, h⟩ := ob_e h
  refine Qa rfl (OpT_idxO rfl rfl rfl rfl rfl Xg (i := 0) rfl hx4) ?_
  refine Qa rfl (OpT_storeO (S := u8S) (u := (ZG u1 ((8 : UInt64).toNat)).toUInt8) rfl rfl rfl rfl rfl tyF5 (i := 0) rfl hx4 rfl) ?_
  refine nW [(3, some v2), (17, some (.agg #[vU16 hp0.Start, vU16 hp0.Off, vU16 hp0.Buffers])), (18, some (vI x1))] [some (rowS u8S v2 ((l1.set (wi ((6 : Int) + (wi ((2 : Int) * x1)))).toNat u1.toUInt8).set (wi ((7 : Int) + (wi ((2 : Int) * x1)))).toNat ((ZG u1 ((8 : UInt64).toNat)).toUInt8)))] [] [3, 17, 18] [0] [] rfl ?_
  refine Zk (Qb (Qa rfl (Qg rfl rfl rfl rfl rfl (Qx (a := x1) (b := (1 : Int)))) ?_))
  refine sMv rfl rfl rfl ?_
  refine nW [(3, some v2), (17, some (.agg #[vU16 hp0.Start, vU16 hp0.Off, vU16 hp0.Buffers])), (18, some (vI (wi (x1 + (1 : Int)))))] [some (rowS u8S v2 ((l1.set (wi ((6 : Int) + (wi ((2 : Int) * x1)))).toNat u1.toUInt8).set (wi ((7 : Int) + (wi ((2 : Int) * x1)))).toNat ((ZG u1 ((8 : UInt64).toNat)).toUInt8)))] [] [3, 17, 18] [0] [] rfl ?_
  exact QN ((l1.set (wi ((6 : Int) + (wi ((2 : Int) * x1)))).toNat u1.toUInt8).set (wi ((7 : Int) + (wi ((2 : Int) * x1)))).toNat ((ZG u1 ((8 : UInt64).toNat)).toUInt8), wi (x1 + (1 : Int)), v2) h [3, 17, 18] [0] [] rfl rfl rfl rfl rfl
 ·replace h := br_f hg1 h
  refine Qm (cgb hg1) ?_
  refine Zf _ rfl ?_
  refine Qe (Qb (sMv rfl rfl rfl ?_))
  refine sAs rfl rfl rfl ?_
  refine nW [(2, some v2)] [some (rowS u8S v2 l1)] [] [2] [0] [] rfl ?_
  obtain rfl := Option.some.inj h
  exact Qn rfl rfl (resA (vs := [v2]) rfl ⟨rfl, trivial⟩) [0] [] rfl rfl rfl ⟨v2, rfl, rfl, rfl⟩

set_option maxRecDepth 100000 in
set_option maxHeartbeats 4000000 in
theorem w_netdrv_Lay {m : gmem_Mem} {atp1 : UInt64} {f : Frame} {sum : Int} {cuts : List Int} {b_m : Nat} {vm1 : Value} {vm2 : Value} {vsm1 : List Value} {vf1 : Value} {vcuts1 : Value} {r : ((List Seg) × Int × (List (List UInt8)))} (h : netdrv_Lay m atp1 f sum cuts = some r) :
  Ctr Try.prog 15 #[.pointer (some ⟨b_m, 0, none⟩), vU64 atp1, .agg #[vU8 f.Dst.a0, vU8 f.Dst.a1, vU8 f.Dst.a2, vU8 f.Dst.a3, vU8 f.Dst.a4, vU8 f.Dst.a5, vU8 f.Src.a0, vU8 f.Src.a1, vU8 f.Src.a2, vU8 f.Src.a3, vU8 f.Src.a4, vU8 f.Src.a5, vI f.Vlan, vU16 f.Type_, vf1], vI sum, vcuts1] [(Qd b_m 82 [vm1, vm2]), (Qj u8S true vm2 vsm1 m.b none)] [Fact.sl Qf vm1 m.l, Fact.sl u8S vf1 f.Data, Fact.sl iS vcuts1 cuts]
   (fun rv own shr => ∃ (w1 : Value), rv = .tuple #[w1, vI r.2.1] ∧ own = [(Qd b_m 82 [vm1, vm2]), (Qj u8S true vm2 vsm1 r.2.2 none), (rowS SegS w1 r.1)] ∧ shr = []) := by
 unfold netdrv_Lay at h
 refine Ctr.mk (args := [.pointer (some ⟨b_m, 0, none⟩), vU64 atp1, .agg #[vU8 f.Dst.a0, vU8 f.Dst.a1, vU8 f.Dst.a2, vU8 f.Dst.a3, vU8 f.Dst.a4, vU8 f.Dst.a5, vU8 f.Src.a0, vU8 f.Src.a1, vU8 f.Src.a2, vU8 f.Src.a3, vU8 f.Src.a4, vU8 f.Src.a5, vI f.Vlan, vU16 f.Type_, vf1], vI sum, vcuts1]) Try.func15 rfl rfl (fun R0 w0 B => ?_)
 refine Qe (Qb (Qq rfl (YG rfl rfl rfl rfl) fun b1 => ?_))
 refine sAs rfl rfl rfl ?_
 refine sAs rfl rfl rfl ?_
 refine nW [(0, some (.pointer (some ⟨b_m, 0, none⟩))), (1, some (vU64 atp1)), (3, some (vI sum)), (4, some vcuts1), (7, some (.pointer (some ⟨b1, 0, none⟩)))] [some (Qd b_m 82 [vm1, vm2]), some (Qj u8S true vm2 vsm1 m.b none), some (Qd b1 37 [vU8 f.Dst.a0, vU8 f.Dst.a1, vU8 f.Dst.a2, vU8 f.Dst.a3, vU8 f.Dst.a4, vU8 f.Dst.a5, vU8 f.Src.a0, vU8 f.Src.a1, vU8 f.Src.a2, vU8 f.Src.a3, vU8 f.Src.a4, vU8 f.Src.a5, vI f.Vlan, vU16 f.Type_, vf1])] [Fact.sl Qf vm1 m.l, Fact.sl u8S vf1 f.Data, Fact.sl iS vcuts1 cuts] [0, 1, 3, 4, 7] [0, 1, 2] [0, 1, 2] rfl ?_
 refine Qe (Qe (Qb (sMv rfl rfl rfl ?_)))
 refine Qa rfl (OpT_ptrNil rfl rfl rfl (.inl rfl) rfl rfl ptrF39) ?_
 refine nW [(0, some (.pointer (some ⟨b_m, 0, none⟩))), (1, some (vU64 atp1)), (3, some (vI sum)), (4, some vcuts1), (7, some (.pointer (some ⟨b1, 0, none⟩))), (16, some (vB false))] [some (Qd b_m 82 [vm1, vm2]), some (Qj u8S true vm2 vsm1 m.b none), some (Qd b1 37 [vU8 f.Dst.a0, vU8 f.Dst.a1, vU8 f.Dst.a2, vU8 f.Dst.a3, vU8 f.Dst.a4, vU8 f.Dst.a5, vU8 f.Src.a0, vU8 f.Src.a1, vU8 f.Src.a2, vU8 f.Src.a3, vU8 f.Src.a4, vU8 f.Src.a5, vI f.Vlan, vU16 f.Type_, vf1])] [Fact.sl Qf vm1 m.l, Fact.sl u8S vf1 f.Data, Fact.sl iS vcuts1 cuts] [0, 1, 3, 4, 7, 16] [0, 1, 2] [0, 1, 2] rfl ?_
 refine Qm rfl ?_
 refine Qr (Qe (Qb (Qa rfl (Zx (vs := [vU8 f.Dst.a0, vU8 f.Dst.a1, vU8 f.Dst.a2, vU8 f.Dst.a3, vU8 f.Dst.a4, vU8 f.Dst.a5, vU8 f.Src.a0, vU8 f.Src.a1, vU8 f.Src.a2, vU8 f.Src.a3, vU8 f.Src.a4, vU8 f.Src.a5, vI f.Vlan, vU16 f.Type_, vf1]) rfl rfl rfl rfl Xo (i := 2) rfl rfl rfl) ?_)))
 obtain ⟨bytes1, hx1, h⟩ := ob_e h
 refine Qt rfl (QO (w_frame_Bytes hx1) [] [1] rfl rfl rfl rfl rfl callee36 rfl rfl rfl rfl) ?_
 rintro _ ⟨_, _, _, ⟨v1, rfl, rfl, rfl⟩, rfl⟩
 refine sMv rfl rfl rfl ?_
 refine Qa rfl (Qs rfl rfl rfl rfl rfl) ?_
 refine Qa rfl (Qs rfl rfl rfl rfl rfl) ?_
 refine sAs rfl rfl rfl ?_
 refine sAs rfl rfl rfl ?_
 refine nW [(0, some (.pointer (some ⟨b_m, 0, none⟩))), (1, some (vU64 atp1)), (3, some (vI sum)), (4, some vcuts1), (7, some (.pointer (some ⟨b1, 0, none⟩))), (12, some v1), (13, some (vI bytes1.2))] [some (Qd b_m 82 [vm1, vm2]), some (Qj u8S true vm2 vsm1 m.b none), some (Qd b1 37 [vU8 f.Dst.a0, vU8 f.Dst.a1, vU8 f.Dst.a2, vU8 f.Dst.a3, vU8 f.Dst.a4, vU8 f.Dst.a5, vU8 f.Src.a0, vU8 f.Src.a1, vU8 f.Src.a2, vU8 f.Src.a3, vU8 f.Src.a4, vU8 f.Src.a5, vI f.Vlan, vU16 f.Type_, vf1]), some (rowS u8S v1 bytes1.1)] [Fact.sl Qf vm1 m.l, Fact.sl u8S vf1 f.Data, Fact.sl iS vcuts1 cuts] [0, 1, 3, 4, 7, 12, 13] [0, 1, 2, 3] [0, 1, 2] rfl ?_
 refine Qe (Qe (Qb (sMv rfl rfl rfl ?_)))
 refine Qa rfl (Qg rfl rfl rfl rfl rfl (QU (a := bytes1.2) (b := (0 : Int)))) ?_
 refine nW [(0, some (.pointer (some ⟨b_m, 0, none⟩))), (1, some (vU64 atp1)), (3, some (vI sum)), (4, some vcuts1), (7, some (.pointer (some ⟨b1, 0, none⟩))), (12, some v1), (13, some (vI bytes1.2)), (23, some (vB (bytes1.2 != (0 : Int))))] [some (Qd b_m 82 [vm1, vm2]), some (Qj u8S true vm2 vsm1 m.b none), some (Qd b1 37 [vU8 f.Dst.a0, vU8 f.Dst.a1, vU8 f.Dst.a2, vU8 f.Dst.a3, vU8 f.Dst.a4, vU8 f.Dst.a5, vU8 f.Src.a0, vU8 f.Src.a1, vU8 f.Src.a2, vU8 f.Src.a3, vU8 f.Src.a4, vU8 f.Src.a5, vI f.Vlan, vU16 f.Type_, vf1]), some (rowS u8S v1 bytes1.1)] [Fact.sl Qf vm1 m.l, Fact.sl u8S vf1 f.Data, Fact.sl iS vcuts1 cuts] [0, 1, 3, 4, 7, 12, 13, 23] [0, 1, 2, 3] [0, 1, 2] rfl ?_
 rcases bC (bytes1.2 != (0 : Int)) with hg1 | hg1
 ·replace h := br_t hg1 h
  refine Ql (cgb hg1) ?_
  refine Qe (Qb (sMv rfl rfl rfl ?_))
  refine sAs rfl rfl rfl ?_
  refine sAs rfl rfl rfl ?_
  refine nW [(10, some (.slice none 0 0)), (11, some (vI bytes1.2))] [some (Qd b_m 82 [vm1, vm2]), some (Qj u8S true vm2 vsm1 m.b none)] [Fact.sl Qf vm1 m.l] [10, 11] [0, 1] [0] rfl ?_
  refine QI SegS ?_
  obtain rfl := Option.some.inj h
  exact Qn rfl rfl (resA (vs := [.slice none 0 0, vI bytes1.2]) rfl ⟨rfl, rfl, trivial⟩) [0, 1, 2] [] rfl rfl rfl ⟨(.slice none 0 0), rfl, rfl, rfl⟩
 ·replace h := br_f hg1 h
  refine Qm (cgb hg1) ?_
  refine Qr (Qe (Qb (Qq rfl (Zq rfl rfl rfl tyZ88) fun b2 => ?_)))
  refine nW [(0, some (.pointer (some ⟨b_m, 0, none⟩))), (1, some (vU64 atp1)), (3, some (vI sum)), (4, some vcuts1), (7, some (.pointer (some ⟨b1, 0, none⟩))), (12, some v1), (14, some (.pointer (some ⟨b2, 0, none⟩)))] [some (Qd b_m 82 [vm1, vm2]), some (Qj u8S true vm2 vsm1 m.b none), some (Qd b1 37 [vU8 f.Dst.a0, vU8 f.Dst.a1, vU8 f.Dst.a2, vU8 f.Dst.a3, vU8 f.Dst.a4, vU8 f.Dst.a5, vU8 f.Src.a0, vU8 f.Src.a1, vU8 f.Src.a2, vU8 f.Src.a3, vU8 f.Src.a4, vU8 f.Src.a5, vI f.Vlan, vU16 f.Type_, vf1]), some (rowS u8S v1 bytes1.1), some (Qd b2 88 [vU8 (0 : UInt8), vU16 (0 : UInt16), vU16 (0 : UInt16), vU16 (0 : UInt16)])] [Fact.sl Qf vm1 m.l, Fact.sl u8S vf1 f.Data, Fact.sl iS vcuts1 cuts] [0, 1, 3, 4, 7, 12, 14] [0, 1, 2, 3, 4] [0, 1, 2] rfl ?_
  refine Qe (Qe (Qb (sMv rfl rfl rfl ?_)))
  refine Qa rfl (Qg rfl rfl rfl rfl rfl (bin_geq_i (a := sum) (b := (0 : Int)))) ?_
  refine nW [(0, some (.pointer (some ⟨b_m, 0, none⟩))), (1, some (vU64 atp1)), (3, some (vI sum)), (4, some vcuts1), (7, some (.pointer (some ⟨b1, 0, none⟩))), (12, some v1), (14, some (.pointer (some ⟨b2, 0, none⟩))), (26, some (vB (decide (sum ≥ (0 : Int)))))] [some (Qd b_m 82 [vm1, vm2]), some (Qj u8S true vm2 vsm1 m.b none), some (Qd b1 37 [vU8 f.Dst.a0, vU8 f.Dst.a1, vU8 f.Dst.a2, vU8 f.Dst.a3, vU8 f.Dst.a4, vU8 f.Dst.a5, vU8 f.Src.a0, vU8 f.Src.a1, vU8 f.Src.a2, vU8 f.Src.a3, vU8 f.Src.a4, vU8 f.Src.a5, vI f.Vlan, vU16 f.Type_, vf1]), some (rowS u8S v1 bytes1.1), some (Qd b2 88 [vU8 (0 : UInt8), vU16 (0 : UInt16), vU16 (0 : UInt16), vU16 (0 : UInt16)])] [Fact.sl Qf vm1 m.l, Fact.sl u8S vf1 f.Data, Fact.sl iS vcuts1 cuts] [0, 1, 3, 4, 7, 12, 14, 26] [0, 1, 2, 3, 4] [0, 1, 2] rfl ?_
  refine Yu (α := (List UInt8) × Hdr × Value) (fun s => ⟨[(0, some (.pointer (some ⟨b_m, 0, none⟩))), (1, some (vU64 atp1)), (4, some vcuts1), (12, some (s.2.2)), (14, some (.pointer (some ⟨b2, 0, none⟩)))], [some (Qd b_m 82 [vm1, vm2]), some (Qj u8S true vm2 vsm1 m.b none), some (rowS u8S s.2.2 s.1), some (Qd b2 88 [vU8 s.2.1.Flags, vU16 s.2.1.Start, vU16 s.2.1.Off, vU16 s.2.1.Buffers])], [Fact.sl Qf vm1 m.l, Fact.sl iS vcuts1 cuts]⟩) (fun s => netdrv_LayJ1 m atp1 cuts s.1 s.2.1 = some r) ?_ ?_
  ·rintro ⟨l1, m1, v2⟩ h
   replace h : netdrv_LayJ1 m atp1 cuts l1 m1 = some r := h
   unfold netdrv_LayJ1 at h
   refine Qe (Qb (Qa rfl (Zx (vs := [vU8 m1.Flags, vU16 m1.Start, vU16 m1.Off, vU16 m1.Buffers]) rfl rfl rfl rfl tyF88 (i := 3) rfl rfl rfl) ?_))
   obtain ⟨hdrof1, hx2, h⟩ := ob_e h
   refine Qt rfl (QO (w_frame_HdrOf hx2) [] [] rfl rfl rfl rfl rfl callee37 rfl rfl rfl rfl) ?_
   rintro _ ⟨v3, _, _, ⟨_, rfl, rfl, rfl⟩, rfl⟩
   refine sMv rfl rfl rfl ?_
   obtain ⟨hc1, h⟩ := Zi h
   refine Qq rfl (ZH (S := u8S) rfl rfl rfl rfl rfl rfl Xg (i := 4) (j := 2) rfl rfl hc1) fun v4 => ?_
   refine sAs rfl rfl rfl ?_
   refine nW [(0, some (.pointer (some ⟨b_m, 0, none⟩))), (1, some (vU64 atp1)), (4, some vcuts1), (12, some v4)] [some (Qd b_m 82 [vm1, vm2]), some (Qj u8S true vm2 vsm1 m.b none), some (rowS u8S v4 (hdrof1 ++ l1))] [Fact.sl Qf vm1 m.l, Fact.sl iS vcuts1 cuts] [0, 1, 4, 12] [0, 1, 4] [0, 1] rfl ?_
   refine Qe (Qe (Qb (sMv rfl rfl rfl ?_)))
   refine sMv rfl rfl rfl ?_
   refine sMv rfl rfl rfl ?_
   obtain ⟨write1, hx3, h⟩ := ob_e h
   refine Qt rfl (Zj [2] [3, 4, 2] (w_gmem_Mem_Write hx3) [0, 1] rfl rfl rfl rfl rfl callee24 rfl rfl rfl rfl rfl rfl (QV (bor_shr 0 rfl) (QV (ZO 2 rfl rfl) Xe)) (by rintro _ _ _ ⟨rfl, rfl, rfl⟩; exact ⟨rfl, (ZL (ri_cells _ _ _) (ZL (ri_rows rfl _ _ _ _ _) Ye))⟩)) ?_
   rintro _ ⟨_, _, _, ⟨rfl, rfl, rfl⟩, rfl⟩
   refine Qa rfl (Qg rfl rfl rfl rfl rfl (QU (a := write1.1) (b := (0 : Int)))) ?_
   refine nW [(1, some (vU64 atp1)), (4, some vcuts1), (12, some v4), (51, some (vB (write1.1 != (0 : Int))))] [some (Qd b_m 82 [vm1, vm2]), some (Qj u8S true vm2 vsm1 write1.2 none), some (rowS u8S v4 (hdrof1 ++ l1))] [Fact.sl Qf vm1 m.l, Fact.sl iS vcuts1 cuts] [1, 4, 12, 51] [0, 1, 2] [0, 1] rfl ?_
   rcases bC (write1.1 != (0 : Int)) with hg2 | hg2
   ·replace h := br_t hg2 h
    refine Ql (cgb hg2) ?_
    refine Qe (Qb (sAs rfl rfl rfl ?_))
    refine sAs rfl rfl rfl ?_
    refine nW [(10, some (.slice none 0 0)), (11, some (vI (5 : Int)))] [some (Qd b_m 82 [vm1, vm2]), some (Qj u8S true vm2 vsm1 write1.2 none)] [Fact.sl Qf vm1 m.l] [10, 11] [0, 1] [0] rfl ?_
    refine QI SegS ?_
    obtain rfl := Option.some.inj h
    exact Qn rfl rfl (resA (vs := [.slice none 0 0, vI (5 : Int)]) rfl ⟨rfl, rfl, trivial⟩) [0, 1, 2] [] rfl rfl rfl ⟨(.slice none 0 0), rfl, rfl, rfl⟩
   ·replace h := br_f hg2 h
    refine Qm (cgb hg2) ?_
    refine Qr (Qe (Qb (sMv rfl rfl rfl ?_)))
    refine sMv rfl rfl rfl ?_
    refine Qa rfl (Kp rfl rfl rfl rfl Try.underlying35 (i := 2) rfl) ?_
    refine Qa rfl (QM rfl rfl rfl rfl (cnv_i_u32 (n := len (hdrof1 ++ l1)) Try.underlying3 Try.underlying27)) ?_
    refine Qa rfl (Zd (v := .agg #[vU64 atp1, vU32 (u32 (len (hdrof1 ++ l1))), vB false]) rfl rfl rfl rfl (bldV (by kernel_rfl))) ?_
    refine Qq rfl (QF (S := SegS) (xs := [(Seg.mk atp1 (u32 (len (hdrof1 ++ l1))) false)]) (css := [[vU64 atp1, vU32 (u32 (len (hdrof1 ++ l1))), vB false]]) (cs := [vU64 atp1, vU32 (u32 (len (hdrof1 ++ l1))), vB false]) (e := 29) rfl rfl rfl rfl (bldF XS (by decide) (by kernel_rfl)) rfl rfl rfl rfl (Ze (S := SegS) (xs := [(Seg.mk atp1 (u32 (len (hdrof1 ++ l1))) false)]) (css := [[vU64 atp1, vU32 (u32 (len (hdrof1 ++ l1))), vB false]]) rfl rfl)) fun v5 => ?_
    refine sMv rfl rfl rfl ?_
    obtain ⟨cut1, hx4, h⟩ := ob_e h
    refine Qt rfl (Zj [3] [0, 1, 2, 3, 4] (w_blkdrv_Cut hx4) [] rfl rfl rfl rfl rfl callee32 rfl rfl rfl rfl rfl rfl (QV (ZO 3 rfl rfl) (QV (bor_shr 1 rfl) Xe)) (by rintro _ _ _ ⟨_, rfl, rfl, rfl⟩; exact ⟨rfl, (ZL (ri_row (S := SegS) rfl _ _) Ye)⟩)) ?_
    rintro _ ⟨v6, _, _, ⟨_, rfl, rfl, rfl⟩, rfl⟩
    refine sAs rfl rfl rfl ?_
    refine sAs rfl rfl rfl ?_
    refine nW [(10, some v6), (11, some (vI (0 : Int)))] [some (Qd b_m 82 [vm1, vm2]), some (Qj u8S true vm2 vsm1 write1.2 none), some (rowS SegS v6 cut1)] [Fact.sl Qf vm1 m.l] [10, 11] [0, 1, 4] [0] rfl ?_
    obtain rfl := Option.some.inj h
    exact Qn rfl rfl (resA (vs := [v6, vI (0 : Int)]) rfl ⟨rfl, rfl, trivial⟩) [0, 1, 2] [] rfl rfl rfl ⟨v6, rfl, rfl, rfl⟩
  ·intro HJ1
   rcases bC (decide (sum ≥ (0 : Int))) with hg3 | hg3
   ·replace h := br_t hg3 h
    refine Ql (cgb hg3) ?_
    refine Qe (Qe (Qb (sMv rfl rfl rfl ?_)))
    refine Qa rfl (Qo rfl rfl rfl rfl fldF37x4) ?_
    refine Qa rfl (Qp rfl rfl rfl rfl tyF35 (i := 2) rfl rfl) ?_
    refine Qa rfl (QB rfl rfl rfl rfl Try.underlying35 (i := 1) rfl) ?_
    refine Qa rfl (Qg rfl rfl rfl rfl rfl (Xu (a := len f.Data) (b := (2 : Int)))) ?_
    refine Qa rfl (Qg rfl rfl rfl rfl rfl (ZD (a := sum) (b := wi ((len f.Data) - (2 : Int))))) ?_
    refine nW [(0, some (.pointer (some ⟨b_m, 0, none⟩))), (1, some (vU64 atp1)), (3, some (vI sum)), (4, some vcuts1), (7, some (.pointer (some ⟨b1, 0, none⟩))), (12, some v1), (14, some (.pointer (some ⟨b2, 0, none⟩))), (32, some (vB (decide (sum > (wi ((len f.Data) - (2 : Int)))))))] [some (Qd b_m 82 [vm1, vm2]), some (Qj u8S true vm2 vsm1 m.b none), some (Qd b1 37 [vU8 f.Dst.a0, vU8 f.Dst.a1, vU8 f.Dst.a2, vU8 f.Dst.a3, vU8 f.Dst.a4, vU8 f.Dst.a5, vU8 f.Src.a0, vU8 f.Src.a1, vU8 f.Src.a2, vU8 f.Src.a3, vU8 f.Src.a4, vU8 f.Src.a5, vI f.Vlan, vU16 f.Type_, vf1]), some (rowS u8S v1 bytes1.1), some (Qd b2 88 [vU8 (0 : UInt8), vU16 (0 : UInt16), vU16 (0 : UInt16), vU16 (0 : UInt16)])] [Fact.sl Qf vm1 m.l, Fact.sl u8S vf1 f.Data, Fact.sl iS vcuts1 cuts] [0, 1, 3, 4, 7, 12, 14, 32] [0, 1, 2, 3, 4] [0, 1, 2] rfl ?_
    rcases bC (decide (sum > (wi ((len f.Data) - (2 : Int))))) with hg4 | hg4
    ·replace h := br_t hg4 h
     refine Ql (cgb hg4) ?_
     refine Qe (Qb (sAs rfl rfl rfl ?_))
     refine sAs rfl rfl rfl ?_
     refine nW [(10, some (.slice none 0 0)), (11, some (vI (2 : Int)))] [some (Qd b_m 82 [vm1, vm2]), some (Qj u8S true vm2 vsm1 m.b none)] [Fact.sl Qf vm1 m.l] [10, 11] [0, 1] [0] rfl ?_
     refine QI SegS ?_
     obtain rfl := Option.some.inj h
     exact Qn rfl rfl (resA (vs := [.slice none 0 0, vI (2 : Int)]) rfl ⟨rfl, rfl, trivial⟩) [0, 1, 2] [] rfl rfl rfl ⟨(.slice none 0 0), rfl, rfl, rfl⟩
    ·replace h := br_f hg4 h
     refine Qm (cgb hg4) ?_
     refine Qr (Qb (sMv rfl rfl rfl ?_))
     refine Qa rfl (Kp rfl rfl rfl rfl Try.underlying35 (i := 3) rfl) ?_
     refine Qa rfl (Qo rfl rfl rfl rfl fldF37x4) ?_
     refine Qa rfl (Qp rfl rfl rfl rfl tyF35 (i := 2) rfl rfl) ?_
     refine Qa rfl (QB rfl rfl rfl rfl Try.underlying35 (i := 1) rfl) ?_
     refine Qa rfl (Qg rfl rfl rfl rfl rfl (Xu (a := len bytes1.1) (b := len f.Data))) ?_
     refine Qa rfl (QM rfl rfl rfl rfl (cnv_i_u16 (n := wi ((len bytes1.1) - (len f.Data))) Try.underlying3 Try.underlying34)) ?_
     refine sMv rfl rfl rfl ?_
     refine Qa rfl (QM rfl rfl rfl rfl (cnv_i_u16 (n := sum) Try.underlying3 Try.underlying34)) ?_
     refine Qa rfl (Zd (v := .agg #[vU8 (1 : UInt8), vU16 (u16 (wi ((len bytes1.1) - (len f.Data)))), vU16 (u16 sum), vU16 (0 : UInt16)]) rfl rfl rfl rfl (bldV (by kernel_rfl))) ?_
     refine Qa rfl (QE (cs' := [vU8 (1 : UInt8), vU16 (u16 (wi ((len bytes1.1) - (len f.Data)))), vU16 (u16 sum), vU16 (0 : UInt16)]) rfl rfl rfl rfl tyF88 (i := 4) rfl rfl rfl (ZE rfl) rfl) ?_
     refine nW [(0, some (.pointer (some ⟨b_m, 0, none⟩))), (1, some (vU64 atp1)), (4, some vcuts1), (12, some v1), (14, some (.pointer (some ⟨b2, 0, none⟩)))] [some (Qd b_m 82 [vm1, vm2]), some (Qj u8S true vm2 vsm1 m.b none), some (rowS u8S v1 bytes1.1), some (Qd b2 88 [vU8 (1 : UInt8), vU16 (u16 (wi ((len bytes1.1) - (len f.Data)))), vU16 (u16 sum), vU16 (0 : UInt16)])] [Fact.sl Qf vm1 m.l, Fact.sl iS vcuts1 cuts] [0, 1, 4, 12, 14] [0, 1, 3, 4] [0, 2] rfl ?_
     exact ZP (HJ1 (bytes1.1, (Hdr.mk (1 : UInt8) (u16 (wi ((len bytes1.1) - (len f.Data)))) (u16 sum) (0 : UInt16)), v1) h) [0, 1, 4, 12, 14] [0, 1, 2, 3] [0, 1] rfl rfl rfl rfl
   ·replace h := br_f hg3 h
    refine Qm (cgb hg3) ?_
    refine Qr ?_
    exact ZP (HJ1 (bytes1.1, (Hdr.mk (0 : UInt8) (0 : UInt16) (0 : UInt16) (0 : UInt16)), v1) h) [0, 1, 4, 12, 14] [0, 1, 3, 4] [0, 2] rfl rfl rfl rfl
end Go.Proofs.Ytgcbcnpbnonnjaa
