/- The functions do what the plain words say: each is walked once. No statement of the seat is proved here; no condition. -/
import Derived.Test.YtgcbcnpbnonnjaaWa2
namespace Go.Proofs.Ytgcbcnpbnonnjaa
attribute [local irreducible] sub
set_option maxRecDepth 100000 in
set_option maxHeartbeats 4000000 in
theorem w_ref_Total05 {l : List Seg} {vl1 : Value} {r : (UInt64 × UInt64)} (h : ref_Total05 l = some r) :
  Ctr Try.prog 22 #[vl1] [] [Fact.sl SegS vl1 l]
   (fun rv own shr => rv = .tuple #[vU64 r.1, vU64 r.2] ∧ own = [] ∧ shr = []) := by
 unfold ref_Total05 at h
 refine Ctr.mk (args := [vl1]) Try.func22 rfl rfl (fun R0 w0 B => ?_)
 refine Qe (Qb (sAs rfl rfl rfl ?_))
 refine sAs rfl rfl rfl ?_
 refine nW [(0, some vl1)] [] [Fact.sl SegS vl1 l] [0] [] [0] rfl ?_
 refine Qe (Qb (sAs rfl rfl rfl ?_))
 refine sAs rfl rfl rfl ?_
 refine QT (Qe (Qe (Qb (sAs rfl rfl rfl ?_))))
 refine QT (Qz (Zc (σ := UInt64 × UInt64 × Int) [0, 4, 5, 6] [] [0] (fun s => ⟨[(0, some vl1), (4, some (vU64 s.1)), (5, some (vU64 s.2.1)), (6, some (vI s.2.2))], [], [Fact.sl SegS vl1 l]⟩) (fun nf1 s => ZM l nf1 s.1 s.2.1 s.2.2 = some r) fuel ((0 : UInt64), (0 : UInt64), (0 : Int)) h rfl rfl rfl rfl rfl (fun s h => by cases h) ?_))
 rintro nf1 ⟨read1, write1, i1⟩ h
 replace h : YH l (ZM l nf1) read1 write1 i1 = some r := h
 unfold YH at h
 refine Qe (Qe (Qb (sMv rfl rfl rfl ?_)))
 refine sMv rfl rfl rfl ?_
 refine Qa rfl (QB rfl rfl rfl rfl Try.underlying25 (i := 0) rfl) ?_
 refine Qa rfl (Qg rfl rfl rfl rfl rfl (QK (a := i1) (b := len l))) ?_
 refine sMv rfl rfl rfl ?_
 rcases bC (decide (i1 < (len l))) with hg1 | hg1
 ·replace h := br_t hg1 h
  refine Qi rfl rfl (cgb hg1) (Qk rfl rfl rfl rfl) ?_
  rintro _ rfl
  obtain ⟨check1, hx1, h⟩ := ob_e h
  refine Qi rfl rfl (cgb hg1) (QO (w_ref_Check05 hx1) [] [0] rfl rfl rfl rfl rfl callee9 rfl rfl rfl rfl) ?_
  rintro _ ⟨_, _, _, ⟨rfl, rfl, rfl⟩, rfl⟩
  refine Qi rfl rfl (cgb hg1) (Qg rfl rfl rfl rfl rfl (Xh (a := check1) (b := (0 : Int)))) ?_
  rintro _ rfl
  refine Qa rfl (Qw rfl rfl rfl (cgb hg1) rfl) ?_
  refine nW [(0, some vl1), (4, some (vU64 read1)), (5, some (vU64 write1)), (6, some (vI i1)), (15, some (vB (check1 == (0 : Int))))] [] [Fact.sl SegS vl1 l] [0, 4, 5, 6, 15] [] [0] rfl ?_
  rcases bC (check1 == (0 : Int)) with hg2 | hg2
  ·replace h := br_t hg2 h
   refine Ql (cgb hg2) ?_
   refine Qr (Qe (Yu (α := UInt64 × UInt64) (fun s => ⟨[(0, some vl1), (4, some (vU64 s.1)), (5, some (vU64 s.2)), (6, some (vI i1))], [], [Fact.sl SegS vl1 l]⟩) (fun s => Yw i1 (ZM l nf1) s.1 s.2 = some r) ?_ ?_))
   ·rintro ⟨read2, write2⟩ h
    replace h : Yw i1 (ZM l nf1) read2 write2 = some r := h
    unfold Yw at h
    refine Qb (sMv rfl rfl rfl ?_)
    refine Qa rfl (Qg rfl rfl rfl rfl rfl (Qx (a := i1) (b := (1 : Int)))) ?_
    refine sAs rfl rfl rfl ?_
    refine nW [(0, some vl1), (4, some (vU64 read2)), (5, some (vU64 write2)), (6, some (vI (wi (i1 + (1 : Int)))))] [] [Fact.sl SegS vl1 l] [0, 4, 5, 6] [] [0] rfl ?_
    exact QN (read2, write2, wi (i1 + (1 : Int))) h [0, 4, 5, 6] [] [0] rfl rfl rfl rfl rfl
   ·intro HJ1
    refine Qz (Qe (Qb (sMv rfl rfl rfl ?_)))
    refine sMv rfl rfl rfl ?_
    obtain ⟨s1, hx2, h⟩ := ob_e h
    refine Qq rfl (QA rfl rfl rfl rfl rfl XS (i := 0) rfl hx2) fun p1 => ?_
    refine Qq rfl (QJ (S' := bS) (y := s1.Write) rfl rfl rfl rfl Km (i := 1) rfl (by intro h cs hr; subst hr; rfl)) fun p2 => ?_
    refine Qa rfl (QC rfl rfl rfl rfl tyF4 (i := 2) rfl rfl) ?_
    refine nW [(0, some vl1), (4, some (vU64 read1)), (5, some (vU64 write1)), (6, some (vI i1)), (22, some (vB s1.Write))] [] [Fact.sl SegS vl1 l] [0, 4, 5, 6, 22] [] [0] rfl ?_
    refine Yu (α := UInt64 × UInt64) (fun s => ⟨[(0, some vl1), (4, some (vU64 s.1)), (5, some (vU64 s.2)), (6, some (vI i1))], [], [Fact.sl SegS vl1 l]⟩) (fun s => XT i1 (ZM l nf1) s.1 s.2 = some r) ?_ ?_
    ·rintro ⟨read3, write3⟩ h
     replace h : XT i1 (ZM l nf1) read3 write3 = some r := h
     unfold XT at h
     refine Zk ?_
     exact ZP (HJ1 (read3, write3) h) [0, 4, 5, 6] [] [0] rfl rfl rfl rfl
    ·intro HJ2
     rcases bC (s1.Write) with hg3 | hg3
     ·replace h := br_t hg3 h
      refine Ql (cgb hg3) ?_
      refine Qb (sMv rfl rfl rfl ?_)
      refine sMv rfl rfl rfl ?_
      refine sMv rfl rfl rfl ?_
      obtain ⟨s2, hx3, h⟩ := ob_e h
      refine Qq rfl (QA rfl rfl rfl rfl rfl XS (i := 0) rfl hx3) fun p3 => ?_
      refine Qq rfl (QJ (S' := u32S) (y := s2.Len) rfl rfl rfl rfl ZV (i := 1) rfl (by intro h cs hr; subst hr; rfl)) fun p4 => ?_
      refine Qa rfl (QC rfl rfl rfl rfl tyF27 (i := 2) rfl rfl) ?_
      refine Qa rfl (QM rfl rfl rfl rfl (Zm (n := s2.Len) Try.underlying27 Try.underlying22)) ?_
      refine Qa rfl (Qg rfl rfl rfl rfl rfl (Zb (a := write1) (b := s2.Len.toUInt64))) ?_
      refine sAs rfl rfl rfl ?_
      refine nW [(0, some vl1), (4, some (vU64 read1)), (5, some (vU64 (write1 + s2.Len.toUInt64))), (6, some (vI i1))] [] [Fact.sl SegS vl1 l] [0, 4, 5, 6] [] [0] rfl ?_
      exact ZP (HJ2 (read1, write1 + s2.Len.toUInt64) h) [0, 4, 5, 6] [] [0] rfl rfl rfl rfl
     ·replace h := br_f hg3 h
      refine Qm (cgb hg3) ?_
      refine Qb (sMv rfl rfl rfl ?_)
      refine sMv rfl rfl rfl ?_
      refine sMv rfl rfl rfl ?_
      obtain ⟨s3, hx4, h⟩ := ob_e h
      refine Qq rfl (QA rfl rfl rfl rfl rfl XS (i := 0) rfl hx4) fun p5 => ?_
      refine Qq rfl (QJ (S' := u32S) (y := s3.Len) rfl rfl rfl rfl ZV (i := 1) rfl (by intro h cs hr; subst hr; rfl)) fun p6 => ?_
      refine Qa rfl (QC rfl rfl rfl rfl tyF27 (i := 2) rfl rfl) ?_
      refine Qa rfl (QM rfl rfl rfl rfl (Zm (n := s3.Len) Try.underlying27 Try.underlying22)) ?_
      refine Qa rfl (Qg rfl rfl rfl rfl rfl (Zb (a := read1) (b := s3.Len.toUInt64))) ?_
      refine sAs rfl rfl rfl ?_
      refine nW [(0, some vl1), (4, some (vU64 (read1 + s3.Len.toUInt64))), (5, some (vU64 write1)), (6, some (vI i1))] [] [Fact.sl SegS vl1 l] [0, 4, 5, 6] [] [0] rfl ?_
      exact ZP (HJ2 (read1 + s3.Len.toUInt64, write1) h) [0, 4, 5, 6] [] [0] rfl rfl rfl rfl
  ·replace h := br_f hg2 h
   refine Qm (cgb hg2) ?_
   refine Zf _ rfl ?_
   refine Qe (Qb (sMv rfl rfl rfl ?_))
   refine sMv rfl rfl rfl ?_
   refine sAs rfl rfl rfl ?_
   refine sAs rfl rfl rfl ?_
   refine nW [(2, some (vU64 read1)), (3, some (vU64 write1))] [] [] [2, 3] [] [] rfl ?_
   obtain rfl := Option.some.inj h
   exact Qn rfl rfl (resA (vs := [vU64 read1, vU64 write1]) rfl ⟨rfl, rfl, trivial⟩) [] [] rfl rfl rfl ⟨rfl, rfl, rfl⟩
 ·replace h := br_f hg1 h
  refine Qh rfl rfl (cgb hg1) rfl rfl ?_
  refine Qh rfl rfl (cgb hg1) rfl rfl ?_
  refine Qh rfl rfl (cgb hg1) rfl rfl ?_
  refine Qa rfl (Qu rfl rfl rfl (cgb hg1) rfl) ?_
  refine nW [(0, some vl1), (4, some (vU64 read1)), (5, some (vU64 write1)), (6, some (vI i1)), (15, some (vB false))] [] [Fact.sl SegS vl1 l] [0, 4, 5, 6, 15] [] [0] rfl ?_
  refine Qm rfl ?_
  refine Zf _ rfl ?_
  refine Qe (Qb (sMv rfl rfl rfl ?_))
  refine sMv rfl rfl rfl ?_
  refine sAs rfl rfl rfl ?_
  refine sAs rfl rfl rfl ?_
  refine nW [(2, some (vU64 read1)), (3, some (vU64 write1))] [] [] [2, 3] [] [] rfl ?_
  obtain rfl := Option.some.inj h
  exact Qn rfl rfl (resA (vs := [vU64 read1, vU64 write1]) rfl ⟨rfl, rfl, trivial⟩) [] [] rfl rfl rfl ⟨rfl, rfl, rfl⟩

set_option maxRecDepth 100000 in
set_option maxHeartbeats 4000000 in
theorem w_ref_Has06 {set : UInt64} {bit : Int} {r : Bool} (h : Kj set bit = some r) :
  Ctr Try.prog 43 #[vU64 set, vI bit] [] []
   (fun rv own shr => rv = vB r ∧ own = [] ∧ shr = []) := by
 unfold Kj at h
 refine Ctr.mk (args := [vU64 set, vI bit]) Try.func43 rfl rfl (fun R0 w0 B => ?_)
 refine Qe (Qb (sAs rfl rfl rfl ?_))
 refine nW [(0, some (vU64 set)), (1, some (vI bit))] [] [] [0, 1] [] [] rfl ?_
 refine Qe (Qb (sMv rfl rfl rfl ?_))
 refine Qa rfl (Qg rfl rfl rfl rfl rfl (bin_geq_i (a := bit) (b := (0 : Int)))) ?_
 refine sMv rfl rfl rfl ?_
 rcases bC (decide (bit ≥ (0 : Int))) with hg1 | hg1
 ·replace h := br_t hg1 h
  refine Qi rfl rfl (cgb hg1) (Qk rfl rfl rfl rfl) ?_
  rintro _ rfl
  refine Qi rfl rfl (cgb hg1) (Qg rfl rfl rfl rfl rfl (QK (a := bit) (b := (64 : Int)))) ?_
  rintro _ rfl
  refine Qa rfl (Qw rfl rfl rfl (cgb hg1) rfl) ?_
  refine sMv rfl rfl rfl ?_
  rcases bC (decide (bit < (64 : Int))) with hg2 | hg2
  ·replace h := br_t hg2 h
   refine Qi rfl rfl (cgb hg2) (Qk rfl rfl rfl rfl) ?_
   rintro _ rfl
   refine Qi rfl rfl (cgb hg2) (Qk rfl rfl rfl rfl) ?_
   rintro _ rfl
   refine Qi rfl rfl (cgb hg2) (QM rfl rfl rfl rfl (Yq (n := bit) Try.underlying3 Try.underlying99)) ?_
   rintro _ rfl
   refine Qi rfl rfl (cgb hg2) (Qg rfl rfl rfl rfl rfl (bin_shr_u64_u64 (a := set) (n := u64 bit))) ?_
   rintro _ rfl
   refine Qi rfl rfl (cgb hg2) (Qg rfl rfl rfl rfl rfl (bin_rem_u64 (a := XH set ((u64 bit).toNat)) (b := (2 : UInt64)) rfl)) ?_
   rintro _ rfl
   refine Qi rfl rfl (cgb hg2) (Qg rfl rfl rfl rfl rfl (bin_eql_u64 (a := (XH set ((u64 bit).toNat)) % (2 : UInt64)) (b := (1 : UInt64)))) ?_
   rintro _ rfl
   refine Qa rfl (Qw rfl rfl rfl (cgb hg2) rfl) ?_
   refine sAs rfl rfl rfl ?_
   refine nW [(4, some (vB (((XH set ((u64 bit).toNat)) % (2 : UInt64)) == (1 : UInt64))))] [] [] [4] [] [] rfl ?_
   obtain rfl := Option.some.inj h
   exact Qn rfl rfl (resA (vs := [vB (((XH set ((u64 bit).toNat)) % (2 : UInt64)) == (1 : UInt64))]) rfl ⟨rfl, trivial⟩) [] [] rfl rfl rfl ⟨rfl, rfl, rfl⟩
  ·replace h := br_f hg2 h
   refine Qh rfl rfl (cgb hg2) rfl rfl ?_
   refine Qh rfl rfl (cgb hg2) rfl rfl ?_
   refine Qh rfl rfl (cgb hg2) rfl rfl ?_
   refine Qh rfl rfl (cgb hg2) rfl rfl ?_
   refine Qh rfl rfl (cgb hg2) rfl rfl ?_
   refine Qh rfl rfl (cgb hg2) rfl rfl ?_
   refine Qa rfl (Qu rfl rfl rfl (cgb hg2) rfl) ?_
   refine sAs rfl rfl rfl ?_
   refine nW [(4, some (vB false))] [] [] [4] [] [] rfl ?_
   obtain rfl := Option.some.inj h
   exact Qn rfl rfl (resA (vs := [vB false]) rfl ⟨rfl, trivial⟩) [] [] rfl rfl rfl ⟨rfl, rfl, rfl⟩
 ·replace h := br_f hg1 h
  refine Qh rfl rfl (cgb hg1) rfl rfl ?_
  refine Qh rfl rfl (cgb hg1) rfl rfl ?_
  refine Qa rfl (Qu rfl rfl rfl (cgb hg1) rfl) ?_
  refine sMv rfl rfl rfl ?_
  refine Qh rfl rfl rfl rfl rfl ?_
  refine Qh rfl rfl rfl rfl rfl ?_
  refine Qh rfl rfl rfl rfl rfl ?_
  refine Qh rfl rfl rfl rfl rfl ?_
  refine Qh rfl rfl rfl rfl rfl ?_
  refine Qh rfl rfl rfl rfl rfl ?_
  refine Qa rfl (Qu rfl rfl rfl rfl rfl) ?_
  refine sAs rfl rfl rfl ?_
  refine nW [(4, some (vB false))] [] [] [4] [] [] rfl ?_
  obtain rfl := Option.some.inj h
  exact Qn rfl rfl (resA (vs := [vB false]) rfl ⟨rfl, trivial⟩) [] [] rfl rfl rfl ⟨rfl, rfl, rfl⟩

set_option maxRecDepth 100000 in
set_option maxHeartbeats 4000000 in
theorem w_ref_Needs25 {feats : UInt64} {bufs : List (List Seg)} {np2 : Int} {vbufs1 : Value} {r : (Int × Bool)} (h : ref_Needs25 feats bufs np2 = some r) :
  Ctr Try.prog 47 #[vU64 feats, vbufs1, vI np2] [] [Fact.sl (Shape.slice SegS) vbufs1 bufs]
   (fun rv own shr => rv = .tuple #[vI r.1, vB r.2] ∧ own = [] ∧ shr = []) := by
 unfold ref_Needs25 at h
 refine Ctr.mk (args := [vU64 feats, vbufs1, vI np2]) Try.func47 rfl rfl (fun R0 w0 B => ?_)
 refine Qe (Qb (sAs rfl rfl rfl ?_))
 refine sAs rfl rfl rfl ?_
 refine nW [(0, some (vU64 feats)), (1, some vbufs1), (2, some (vI np2))] [] [Fact.sl (Shape.slice SegS) vbufs1 bufs] [0, 1, 2] [] [0] rfl ?_
 refine Qe (Qb (sMv rfl rfl rfl ?_))
 refine Qa rfl (OpT_max_i (u := np2) (v := (12 : Int)) rfl rfl rfl rfl rfl) ?_
 refine sAs rfl rfl rfl ?_
 refine nW [(0, some (vU64 feats)), (1, some vbufs1), (2, some (vI (maxi np2 (12 : Int))))] [] [Fact.sl (Shape.slice SegS) vbufs1 bufs] [0, 1, 2] [] [0] rfl ?_
 refine Qe (Qb (sAs rfl rfl rfl ?_))
 refine QT (Qe (Qe (Qb (sAs rfl rfl rfl ?_))))
 refine QT (Qz (Zc (σ := UInt64 × Int) [0, 1, 2, 8, 9] [] [0] (fun s => ⟨[(0, some (vU64 feats)), (1, some vbufs1), (2, some (vI (maxi np2 (12 : Int)))), (8, some (vU64 s.1)), (9, some (vI s.2))], [], [Fact.sl (Shape.slice SegS) vbufs1 bufs]⟩) (fun nf1 s => XD feats bufs np2 nf1 s.1 s.2 = some r) fuel ((0 : UInt64), (0 : Int)) h rfl rfl rfl rfl rfl (fun s h => by cases h) ?_))
 rintro nf1 ⟨sum1, i1⟩ h
 replace h : YI feats bufs np2 (XD feats bufs np2 nf1) sum1 i1 = some r := h
 unfold YI at h
 refine Qe (Qe (Qb (sMv rfl rfl rfl ?_)))
 refine sMv rfl rfl rfl ?_
 refine Qa rfl (QB rfl rfl rfl rfl Try.underlying59 (i := 0) rfl) ?_
 refine Qa rfl (Qg rfl rfl rfl rfl rfl (QK (a := i1) (b := len bufs))) ?_
 refine nW [(0, some (vU64 feats)), (1, some vbufs1), (2, some (vI (maxi np2 (12 : Int)))), (8, some (vU64 sum1)), (9, some (vI i1)), (17, some (vB (decide (i1 < (len bufs)))))] [] [Fact.sl (Shape.slice SegS) vbufs1 bufs] [0, 1, 2, 8, 9, 17] [] [0] rfl ?_
 rcases bC (decide (i1 < (len bufs))) with hg1 | hg1
 ·replace h := br_t hg1 h
  refine Ql (cgb hg1) ?_
  refine Qr (Qe (Qz (Qe (Qb (sMv rfl rfl rfl ?_)))))
  refine sMv rfl rfl rfl ?_
  obtain ⟨y1, hx1, h⟩ := ob_e h
  refine Qq rfl (QA rfl rfl rfl rfl rfl slF59 (i := 0) rfl hx1) fun p1 => ?_
  refine Qq rfl (Xn rfl rfl rfl rfl tyF25 (i := 1) rfl) fun v1 => ?_
  obtain ⟨total1, hx2, h⟩ := ob_e h
  refine Qt rfl (QO (w_ref_Total05 hx2) [] [2] rfl rfl rfl rfl rfl callee22 rfl rfl rfl rfl) ?_
  rintro _ ⟨_, _, _, ⟨rfl, rfl, rfl⟩, rfl⟩
  refine sMv rfl rfl rfl ?_
  refine Qa rfl (Qs rfl rfl rfl rfl rfl) ?_
  refine Qa rfl (Qs rfl rfl rfl rfl rfl) ?_
  refine sAs rfl rfl rfl ?_
  refine sAs rfl rfl rfl ?_
  refine nW [(0, some (vU64 feats)), (1, some vbufs1), (2, some (vI (maxi np2 (12 : Int)))), (8, some (vU64 sum1)), (9, some (vI i1)), (11, some (vU64 total1.2))] [] [Fact.sl (Shape.slice SegS) vbufs1 bufs] [0, 1, 2, 8, 9, 11] [] [0] rfl ?_
  refine Qe (Qe (Qb (sMv rfl rfl rfl ?_)))
  refine Qa rfl (Qg rfl rfl rfl rfl rfl (bin_eql_u64 (a := total1.2) (b := (0 : UInt64)))) ?_
  refine sMv rfl rfl rfl ?_
  rcases bC (total1.2 == (0 : UInt64)) with hg2 | hg2
  ·replace h := br_t hg2 h
   refine Qh rfl rfl (cgb hg2) rfl rfl ?_
   refine Qh rfl rfl (cgb hg2) rfl rfl ?_
   refine Qh rfl rfl (cgb hg2) rfl rfl ?_
   refine Xb rfl rfl rfl rfl rfl ?_
   refine Xb rfl rfl rfl rfl rfl ?_
   refine Qh rfl rfl (cgb hg2) rfl rfl ?_
   refine Qa rfl (Qw rfl rfl rfl (cgb hg2) rfl) ?_
   refine nW [(0, some (vU64 feats)), (1, some vbufs1), (2, some (vI (maxi np2 (12 : Int)))), (8, some (vU64 sum1)), (9, some (vI i1)), (11, some (vU64 total1.2)), (37, some (vB true))] [] [Fact.sl (Shape.slice SegS) vbufs1 bufs] [0, 1, 2, 8, 9, 11, 37] [] [0] rfl ?_
   refine Ql rfl ?_
   refine Qe (Qb (sAs rfl rfl rfl ?_))
   refine sAs rfl rfl rfl ?_
   refine nW [(6, some (vI (0 : Int))), (7, some (vB false))] [] [] [6, 7] [] [] rfl ?_
   obtain rfl := Option.some.inj h
   exact Qn rfl rfl (resA (vs := [vI (0 : Int), vB false]) rfl ⟨rfl, rfl, trivial⟩) [] [] rfl rfl rfl ⟨rfl, rfl, rfl⟩
  ·replace h := br_f hg2 h
   refine Qi rfl rfl (cgb hg2) (Qk rfl rfl rfl rfl) ?_
   rintro _ rfl
   refine Qi rfl rfl (cgb hg2) (Qg rfl rfl rfl rfl rfl (Xh (a := i1) (b := (0 : Int)))) ?_
   rintro _ rfl
   refine Qi rfl rfl (cgb hg2) (Qk rfl rfl rfl rfl) ?_
   rintro _ rfl
   rcases bC (i1 == (0 : Int)) with hg3 | hg3
   ·replace h := br_t hg3 h
    refine Qi rfl rfl (cgb hg3) (Qk rfl rfl rfl rfl) ?_
    rintro _ rfl
    refine Qi rfl rfl (cgb hg3) (Qg rfl rfl rfl rfl rfl (Yr (a := total1.2) (b := (12 : UInt64)))) ?_
    rintro _ rfl
    refine Qi rfl rfl (cgb hg2) (Qw rfl rfl rfl (cgb hg3) rfl) ?_
    rintro _ rfl
    refine Qa rfl (Qu rfl rfl rfl (cgb hg2) rfl) ?_
    refine nW [(0, some (vU64 feats)), (1, some vbufs1), (2, some (vI (maxi np2 (12 : Int)))), (8, some (vU64 sum1)), (9, some (vI i1)), (11, some (vU64 total1.2)), (37, some (vB (decide (total1.2 < (12 : UInt64)))))] [] [Fact.sl (Shape.slice SegS) vbufs1 bufs] [0, 1, 2, 8, 9, 11, 37] [] [0] rfl ?_
    rcases bC (decide (total1.2 < (12 : UInt64))) with hg4 | hg4
    ·replace h := br_t hg4 h
     refine Ql (cgb hg4) ?_
     refine Qe (Qb (sAs rfl rfl rfl ?_))
     refine sAs rfl rfl rfl ?_
     refine nW [(6, some (vI (0 : Int))), (7, some (vB false))] [] [] [6, 7] [] [] rfl ?_
     obtain rfl := Option.some.inj h
     exact Qn rfl rfl (resA (vs := [vI (0 : Int), vB false]) rfl ⟨rfl, rfl, trivial⟩) [] [] rfl rfl rfl ⟨rfl, rfl, rfl⟩
    ·replace h := br_f hg4 h
     refine Qm (cgb hg4) ?_
     refine Qr (Qe (Qb (sMv rfl rfl rfl ?_)))
     refine sMv rfl rfl rfl ?_
     refine Qa rfl (Qg rfl rfl rfl rfl rfl (Zb (a := sum1) (b := total1.2))) ?_
     refine sAs rfl rfl rfl ?_
     refine nW [(0, some (vU64 feats)), (1, some vbufs1), (2, some (vI (maxi np2 (12 : Int)))), (8, some (vU64 (sum1 + total1.2))), (9, some (vI i1))] [] [Fact.sl (Shape.slice SegS) vbufs1 bufs] [0, 1, 2, 8, 9] [] [0] rfl ?_
     refine Qe (Qe (Qb (sMv rfl rfl rfl ?_)))
     refine sMv rfl rfl rfl ?_
     refine Qa rfl (QM rfl rfl rfl rfl (Yq (n := maxi np2 (12 : Int)) Try.underlying3 Try.underlying22)) ?_
     refine Qa rfl (Qg rfl rfl rfl rfl rfl (Yt (a := sum1 + total1.2) (b := u64 (maxi np2 (12 : Int))))) ?_
     refine nW [(0, some (vU64 feats)), (1, some vbufs1), (2, some (vI (maxi np2 (12 : Int)))), (8, some (vU64 (sum1 + total1.2))), (9, some (vI i1)), (44, some (vB (decide ((sum1 + total1.2) ≥ (u64 (maxi np2 (12 : Int)))))))] [] [Fact.sl (Shape.slice SegS) vbufs1 bufs] [0, 1, 2, 8, 9, 44] [] [0] rfl ?_
     rcases bC (decide ((sum1 + total1.2) ≥ (u64 (maxi np2 (12 : Int))))) with hg5 | hg5
     ·replace h := br_t hg5 h
      refine Ql (cgb hg5) ?_
      refine Qe (Qb (sMv rfl rfl rfl ?_))
      refine Qa rfl (Qg rfl rfl rfl rfl rfl (Qx (a := i1) (b := (1 : Int)))) ?_
      refine sAs rfl rfl rfl ?_
      refine sAs rfl rfl rfl ?_
      refine nW [(6, some (vI (wi (i1 + (1 : Int))))), (7, some (vB true))] [] [] [6, 7] [] [] rfl ?_
      obtain rfl := Option.some.inj h
      exact Qn rfl rfl (resA (vs := [vI (wi (i1 + (1 : Int))), vB true]) rfl ⟨rfl, rfl, trivial⟩) [] [] rfl rfl rfl ⟨rfl, rfl, rfl⟩
     ·replace h := br_f hg5 h
      refine Qm (cgb hg5) ?_
      refine Qr (Qe (Qb (sMv rfl rfl rfl ?_)))
      obtain ⟨has1, hx3, h⟩ := ob_e h
      refine Qt rfl (QO (w_ref_Has06 hx3) [] [] rfl rfl rfl rfl rfl callee43 rfl rfl rfl rfl) ?_
      rintro _ ⟨_, _, _, ⟨rfl, rfl, rfl⟩, rfl⟩
      refine Qa rfl (OpT_not rfl rfl rfl rfl) ?_
      refine nW [(0, some (vU64 feats)), (1, some vbufs1), (2, some (vI (maxi np2 (12 : Int)))), (8, some (vU64 (sum1 + total1.2))), (9, some (vI i1)), (49, some (vB (!has1)))] [] [Fact.sl (Shape.slice SegS) vbufs1 bufs] [0, 1, 2, 8, 9, 49] [] [0] rfl ?_
      rcases bC ((!has1)) with hg6 | hg6
      ·replace h := br_t hg6 h
       refine Ql (cgb hg6) ?_
       refine Qe (Qb (sAs rfl rfl rfl ?_))
       refine sAs rfl rfl rfl ?_
       refine nW [(6, some (vI (0 : Int))), (7, some (vB false))] [] [] [6, 7] [] [] rfl ?_
       obtain rfl := Option.some.inj h
       exact Qn rfl rfl (resA (vs := [vI (0 : Int), vB false]) rfl ⟨rfl, rfl, trivial⟩) [] [] rfl rfl rfl ⟨rfl, rfl, rfl⟩
      ·replace h := br_f hg6 h
       refine Qm (cgb hg6) ?_
       refine Qr (Zk (Qb (sMv rfl rfl rfl ?_)))
       refine Qa rfl (Qg rfl rfl rfl rfl rfl (Qx (a := i1) (b := (1 : Int)))) ?_
       refine sAs rfl rfl rfl ?_
       refine nW [(0, some (vU64 feats)), (1, some vbufs1), (2, some (vI (maxi np2 (12 : Int)))), (8, some (vU64 (sum1 + total1.2))), (9, some (vI (wi (i1 + (1 : Int)))))] [] [Fact.sl (Shape.slice SegS) vbufs1 bufs] [0, 1, 2, 8, 9] [] [0] rfl ?_
       exact QN (sum1 + total1.2, wi (i1 + (1 : Int))) h [0, 1, 2, 8, 9] [] [0] rfl rfl rfl rfl rfl
   ·replace h := br_f hg3 h
    refine Qh rfl rfl (cgb hg3) rfl rfl ?_
    refine Qh rfl rfl (cgb hg3) rfl rfl ?_
    refine Qi rfl rfl (cgb hg2) (Qu rfl rfl rfl (cgb hg3) rfl) ?_
    rintro _ rfl
    refine Qa rfl (Qu rfl rfl rfl (cgb hg2) rfl) ?_
    refine nW [(0, some (vU64 feats)), (1, some vbufs1), (2, some (vI (maxi np2 (12 : Int)))), (8, some (vU64 sum1)), (9, some (vI i1)), (11, some (vU64 total1.2)), (37, some (vB false))] [] [Fact.sl (Shape.slice SegS) vbufs1 bufs] [0, 1, 2, 8, 9, 11, 37] [] [0] rfl ?_
    refine Qm rfl ?_
    refine Qr (Qe (Qb (sMv rfl rfl rfl ?_)))
    refine sMv rfl rfl rfl ?_
    refine Qa rfl (Qg rfl rfl rfl rfl rfl (Zb (a := sum1) (b := total1.2))) ?_
    refine sAs rfl rfl rfl ?_
    refine nW [(0, some (vU64 feats)), (1, some vbufs1), (2, some (vI (maxi np2 (12 : Int)))), (8, some (vU64 (sum1 + total1.2))), (9, some (vI i1))] [] [Fact.sl (Shape.slice SegS) vbufs1 bufs] [0, 1, 2, 8, 9] [] [0] rfl ?_
    refine Qe (Qe (Qb (sMv rfl rfl rfl ?_)))
    refine sMv rfl rfl rfl ?_
    refine Qa rfl (QM rfl rfl rfl rfl (Yq (n := maxi np2 (12 : Int)) Try.underlying3 Try.underlying22)) ?_
    refine Qa rfl (Qg rfl rfl rfl rfl rfl (Yt (a := sum1 + total1.2) (b := u64 (maxi np2 (12 : Int))))) ?_
    refine nW [(0, some (vU64 feats)), (1, some vbufs1), (2, some (vI (maxi np2 (12 : Int)))), (8, some (vU64 (sum1 + total1.2))), (9, some (vI i1)), (44, some (vB (decide ((sum1 + total1.2) ≥ (u64 (maxi np2 (12 : Int)))))))] [] [Fact.sl (Shape.slice SegS) vbufs1 bufs] [0, 1, 2, 8, 9, 44] [] [0] rfl ?_
    rcases bC (decide ((sum1 + total1.2) ≥ (u64 (maxi np2 (12 : Int))))) with hg7 | hg7
    ·replace h := br_t hg7 h
     refine Ql (cgb hg7) ?_
     refine Qe (Qb (sMv rfl rfl rfl ?_))
     refine Qa rfl (Qg rfl rfl rfl rfl rfl (Qx (a := i1) (b := (1 : Int)))) ?_
     refine sAs rfl rfl rfl ?_
     refine sAs rfl rfl rfl ?_
     refine nW [(6, some (vI (wi (i1 + (1 : Int))))), (7, some (vB true))] [] [] [6, 7] [] [] rfl ?_
     obtain rfl := Option.some.inj h
     exact Qn rfl rfl (resA (vs := [vI (wi (i1 + (1 : Int))), vB true]) rfl ⟨rfl, rfl, trivial⟩) [] [] rfl rfl rfl ⟨rfl, rfl, rfl⟩
    ·replace h := br_f hg7 h
     refine Qm (cgb hg7) ?_
     refine Qr (Qe (Qb (sMv rfl rfl rfl ?_)))
     obtain ⟨has2, hx4, h⟩ := ob_e h
     refine Qt rfl (QO (w_ref_Has06 hx4) [] [] rfl rfl rfl rfl rfl callee43 rfl rfl rfl rfl) ?_
     rintro _ ⟨_, _, _, ⟨rfl, rfl, rfl⟩, rfl⟩
     refine Qa rfl (OpT_not rfl rfl rfl rfl) ?_
     refine nW [(0, some (vU64 feats)), (1, some vbufs1), (2, some (vI (maxi np2 (12 : Int)))), (8, some (vU64 (sum1 + total1.2))), (9, some (vI i1)), (49, some (vB (!has2)))] [] [Fact.sl (Shape.slice SegS) vbufs1 bufs] [0, 1, 2, 8, 9, 49] [] [0] rfl ?_
     rcases bC ((!has2)) with hg8 | hg8
     ·replace h := br_t hg8 h
      refine Ql (cgb hg8) ?_
      refine Qe (Qb (sAs rfl rfl rfl ?_))
      refine sAs rfl rfl rfl ?_
      refine nW [(6, some (vI (0 : Int))), (7, some (vB false))] [] [] [6, 7] [] [] rfl ?_
      obtain rfl := Option.some.inj h
      exact Qn rfl rfl (resA (vs := [vI (0 : Int), vB false]) rfl ⟨rfl, rfl, trivial⟩) [] [] rfl rfl rfl ⟨rfl, rfl, rfl⟩
     ·replace h := br_f hg8 h
      refine Qm (cgb hg8) ?_
      refine Qr (Zk (Qb (sMv rfl rfl rfl ?_)))
      refine Qa rfl (Qg rfl rfl rfl rfl rfl (Qx (a := i1) (b := (1 : Int)))) ?_
      refine sAs rfl rfl rfl ?_
      refine nW [(0, some (vU64 feats)), (1, some vbufs1), (2, some (vI (maxi np2 (12 : Int)))), (8, some (vU64 (sum1 + total1.2))), (9, some (vI (wi (i1 + (1 : Int)))))] [] [Fact.sl (Shape.slice SegS) vbufs1 bufs] [0, 1, 2, 8, 9] [] [0] rfl ?_
      exact QN (sum1 + total1.2, wi (i1 + (1 : Int))) h [0, 1, 2, 8, 9] [] [0] rfl rfl rfl rfl rfl
 ·replace h := br_f hg1 h
  refine Qm (cgb hg1) ?_
  refine Zf _ rfl ?_
  refine Qe (Qb (sAs rfl rfl rfl ?_))
  refine sAs rfl rfl rfl ?_
  refine nW [(6, some (vI (0 : Int))), (7, some (vB false))] [] [] [6, 7] [] [] rfl ?_
  obtain rfl := Option.some.inj h
  exact Qn rfl rfl (resA (vs := [vI (0 : Int), vB false]) rfl ⟨rfl, rfl, trivial⟩) [] [] rfl rfl rfl ⟨rfl, rfl, rfl⟩

set_option maxRecDepth 100000 in
set_option maxHeartbeats 4000000 in
theorem w_ref_Mem_find02 {m : dumbwaiterref02_Mem} {atp1 : UInt64} {np2 : UInt64} {b_m : Nat} {vm1 : Value} {vm2 : Value} {vsm1 : List Value} {r : (Int × Int)} (h : Yi m atp1 np2 = some r) :
  Ctr Try.prog 38 #[.pointer (some ⟨b_m, 0, none⟩), vU64 atp1, vU64 np2] [(Qd b_m 84 [vm1, vm2]), (Qj u8S false vm2 vsm1 m.B none)] [Fact.sl Qf vm1 m.L]
   (fun rv own shr => rv = .tuple #[vI r.1, vI r.2] ∧ own = [(Qd b_m 84 [vm1, vm2]), (Qj u8S false vm2 vsm1 m.B none)] ∧ shr = []) := by
 unfold Yi at h
 refine Ctr.mk (args := [.pointer (some ⟨b_m, 0, none⟩), vU64 atp1, vU64 np2]) Try.func38 rfl rfl (fun R0 w0 B => ?_)
 refine Qe (Qb (sAs rfl rfl rfl ?_))
 refine sAs rfl rfl rfl ?_
 refine nW [(0, some (.pointer (some ⟨b_m, 0, none⟩))), (1, some (vU64 atp1)), (2, some (vU64 np2))] [some (Qd b_m 84 [vm1, vm2]), some (Qj u8S false vm2 vsm1 m.B none)] [Fact.sl Qf vm1 m.L] [0, 1, 2] [0, 1] [0] rfl ?_
 refine Qe (Qe (Qb (sAs rfl rfl rfl ?_)))
 refine QT (Qz (Zc (σ := Int) [0, 1, 2, 8] [0, 1] [0] (fun s => ⟨[(0, some (.pointer (some ⟨b_m, 0, none⟩))), (1, some (vU64 atp1)), (2, some (vU64 np2)), (8, some (vI s))], [some (Qd b_m 84 [vm1, vm2]), some (Qj u8S false vm2 vsm1 m.B none)], [Fact.sl Qf vm1 m.L]⟩) (fun nf1 s => Xd m atp1 np2 nf1 s = some r) fuel (0 : Int) h rfl rfl rfl rfl rfl (fun s h => by cases h) ?_))
 rintro nf1 i1 h
 replace h : Yx m atp1 np2 (Xd m atp1 np2 nf1) i1 = some r := h
 unfold Yx at h
 refine Qe (Qe (Qb (sMv rfl rfl rfl ?_)))
 refine sMv rfl rfl rfl ?_
 refine Qa rfl (QP rfl rfl rfl rfl) ?_
 refine Qa rfl (Qo rfl rfl rfl rfl fldF84x0) ?_
 refine Qa rfl (Qp rfl rfl rfl rfl tyF42 (i := 0) rfl rfl) ?_
 refine Qa rfl (QB rfl rfl rfl rfl Try.underlying42 (i := 0) rfl) ?_
 refine Qa rfl (Qg rfl rfl rfl rfl rfl (QK (a := i1) (b := len m.L))) ?_
 refine nW [(0, some (.pointer (some ⟨b_m, 0, none⟩))), (1, some (vU64 atp1)), (2, some (vU64 np2)), (8, some (vI i1)), (16, some (vB (decide (i1 < (len m.L)))))] [some (Qd b_m 84 [vm1, vm2]), some (Qj u8S false vm2 vsm1 m.B none)] [Fact.sl Qf vm1 m.L] [0, 1, 2, 8, 16] [0, 1] [0] rfl ?_
 rcases bC (decide (i1 < (len m.L))) with hg1 | hg1
 ·replace h := br_t hg1 h
  refine Ql (cgb hg1) ?_
  refine Qr (Qe (Qz (Qe (Qb (sMv rfl rfl rfl ?_)))))
  refine Qa rfl (QP rfl rfl rfl rfl) ?_
  refine Qa rfl (Qo rfl rfl rfl rfl fldF84x0) ?_
  refine Qa rfl (Qp rfl rfl rfl rfl tyF42 (i := 0) rfl rfl) ?_
  refine sMv rfl rfl rfl ?_
  obtain ⟨r1, hx1, h⟩ := ob_e h
  refine Qq rfl (QA rfl rfl rfl rfl rfl slF42 (i := 0) rfl hx1) fun p1 => ?_
  refine Qa rfl (XR (vs := [vU64 r1.At, vU64 r1.Len]) rfl rfl rfl rfl tyF75 (i := 1) rfl rfl) ?_
  refine Qq rfl (Zq rfl rfl rfl tyZ75) fun b1 => ?_
  refine Qa rfl (QE (cs' := [vU64 r1.At, vU64 r1.Len]) rfl rfl rfl rfl tyF75 (i := 2) rfl rfl rfl (ZE rfl) rfl) ?_
  refine nW [(0, some (.pointer (some ⟨b_m, 0, none⟩))), (1, some (vU64 atp1)), (2, some (vU64 np2)), (8, some (vI i1)), (9, some (.pointer (some ⟨b1, 0, none⟩)))] [some (Qd b_m 84 [vm1, vm2]), some (Qj u8S false vm2 vsm1 m.B none), some (Qd b1 75 [vU64 r1.At, vU64 r1.Len])] [Fact.sl Qf vm1 m.L] [0, 1, 2, 8, 9] [0, 1, 2] [0] rfl ?_
  refine Qe (Qb (sMv rfl rfl rfl ?_))
  refine Qa rfl (Qg rfl rfl rfl rfl rfl (Yt (a := np2) (b := (1 : UInt64)))) ?_
  refine sMv rfl rfl rfl ?_
  rcases bC (decide (np2 ≥ (1 : UInt64))) with hg2 | hg2
  ·replace h := br_t hg2 h
   refine Qi rfl rfl (cgb hg2) (Qk rfl rfl rfl rfl) ?_
   rintro _ rfl
   refine Qi rfl rfl (cgb hg2) (Qo rfl rfl rfl rfl Yc) ?_
   rintro _ rfl
   refine Qi rfl rfl (cgb hg2) (Qp rfl rfl rfl rfl Xc (i := 2) rfl rfl) ?_
   rintro _ rfl
   refine Qi rfl rfl (cgb hg2) (Qg rfl rfl rfl rfl rfl (Yt (a := atp1) (b := r1.At))) ?_
   rintro _ rfl
   refine Qa rfl (Qw rfl rfl rfl (cgb hg2) rfl) ?_
   refine sMv rfl rfl rfl ?_
   rcases bC (decide (atp1 ≥ r1.At)) with hg3 | hg3
   ·replace h := br_t hg3 h
    refine Qi rfl rfl (cgb hg3) (Qk rfl rfl rfl rfl) ?_
    rintro _ rfl
    refine Qi rfl rfl (cgb hg3) (Qo rfl rfl rfl rfl XK) ?_
    rintro _ rfl
    refine Qi rfl rfl (cgb hg3) (Qp rfl rfl rfl rfl Xc (i := 2) rfl rfl) ?_
    rintro _ rfl
    refine Qi rfl rfl (cgb hg3) (Qg rfl rfl rfl rfl rfl (bin_leq_u64 (a := np2) (b := r1.Len))) ?_
    rintro _ rfl
    refine Qa rfl (Qw rfl rfl rfl (cgb hg3) rfl) ?_
    refine sMv rfl rfl rfl ?_
    rcases bC (decide (np2 ≤ r1.Len)) with hg4 | hg4
    ·replace h := br_t hg4 h
     refine Qi rfl rfl (cgb hg4) (Qk rfl rfl rfl rfl) ?_
     rintro _ rfl
     refine Qi rfl rfl (cgb hg4) (Qo rfl rfl rfl rfl Yc) ?_
     rintro _ rfl
     refine Qi rfl rfl (cgb hg4) (Qp rfl rfl rfl rfl Xc (i := 2) rfl rfl) ?_
     rintro _ rfl
     refine Qi rfl rfl (cgb hg4) (Qg rfl rfl rfl rfl rfl (Zu (a := atp1) (b := r1.At))) ?_
     rintro _ rfl
     refine Qi rfl rfl (cgb hg4) (Qo rfl rfl rfl rfl XK) ?_
     rintro _ rfl
     refine Qi rfl rfl (cgb hg4) (Qp rfl rfl rfl rfl Xc (i := 2) rfl rfl) ?_
     rintro _ rfl
     refine Qi rfl rfl (cgb hg4) (Qk rfl rfl rfl rfl) ?_
     rintro _ rfl
     refine Qi rfl rfl (cgb hg4) (Qg rfl rfl rfl rfl rfl (Zu (a := r1.Len) (b := np2))) ?_
     rintro _ rfl
     refine Qi rfl rfl (cgb hg4) (Qg rfl rfl rfl rfl rfl (bin_leq_u64 (a := atp1 - r1.At) (b := r1.Len - np2))) ?_
     rintro _ rfl
     refine Qa rfl (Qw rfl rfl rfl (cgb hg4) rfl) ?_
     refine nW [(0, some (.pointer (some ⟨b_m, 0, none⟩))), (1, some (vU64 atp1)), (2, some (vU64 np2)), (8, some (vI i1)), (9, some (.pointer (some ⟨b1, 0, none⟩))), (50, some (vB (decide ((atp1 - r1.At) ≤ (r1.Len - np2)))))] [some (Qd b_m 84 [vm1, vm2]), some (Qj u8S false vm2 vsm1 m.B none), some (Qd b1 75 [vU64 r1.At, vU64 r1.Len])] [Fact.sl Qf vm1 m.L] [0, 1, 2, 8, 9, 50] [0, 1, 2] [0] rfl ?_
     rcases bC (decide ((atp1 - r1.At) ≤ (r1.Len - np2))) with hg5 | hg5
     ·replace h := br_t hg5 h
      refine Ql (cgb hg5) ?_
      refine Qe (Zw (by kernel_rfl) ?_)
      refine TA_tb [0, 0, 0, 4, 14, 30, 1, 127] (by kernel_rfl) fun htb => ?_
      refine Xy (fr' := [(1, some (vU64 atp1)), (8, some (vI i1)), (9, some (.pointer (some ⟨b1, 0, none⟩)))]) (own' := [some (Qd b_m 84 [vm1, vm2]), some (Qj u8S false vm2 vsm1 m.B none), some (Qd b1 75 [vU64 r1.At, vU64 r1.Len])]) (shr' := [Fact.sl Qf vm1 m.L]) [1, 8, 9] [0, 1, 2] [0] rfl rfl rfl rfl ?_
      refine Zs (lo := 0) (hi := 7) htb rfl rfl (by kernel_rfl) (fun c L a w => Sat c ⟨[(1, some (vU64 atp1)), (8, some (vI i1)), (9, some (.pointer (some ⟨b1, 0, none⟩))), (51, bif L 0 then some (vI i1) else none), (52, bif L 1 then some (vU64 atp1) else none), (53, bif L 2 then some (.pointer (some ⟨b1, 0, none⟩)) else none), (54, bif L 3 then some (vU64 r1.At) else none), (55, bif L 4 then some (vU64 (atp1 - r1.At)) else none), (56, bif L 5 then some (vI (i64 (atp1 - r1.At))) else none), (6, bif L 6 then some (vI i1) else none)], [(some (Qd b_m 84 [vm1, vm2]) : Option Res), (some (Qj u8S false vm2 vsm1 m.B none) : Option Res), (some (Qd b1 75 [vU64 r1.At, vU64 r1.Len]) : Option Res)], [Fact.sl Qf vm1 m.L]⟩ a w) [([], [6]), ([], [4, 5]), ([], [3, 4, 5]), ([2], [4, 5]), ([1, 2, 3], [5]), ([1, 2, 3, 4], []), ([0], [])] rfl (by kernel_rfl) ?_ (Qc ?_ (Qc ?_ (Qc ?_ (Qc ?_ (Qc ?_ (Qc ?_ (Qc ?_ (QH)))))))) ?_
      ·intro a w hs
       exact hs.startF [51, 52, 53, 54, 55, 56, 6] [0, 1, 2] [0] rfl rfl rfl rfl
      ·intro L a w hs K Q hK
       exact wGo rfl rfl hs (Qk rfl rfl rfl rfl) fun a w hs => hK a w (pF hs 3 [0, 1, 2] [0] rfl)
      ·intro L a w hs K Q hK
       exact wGo rfl rfl hs (Qk rfl rfl rfl rfl) fun a w hs => hK a w (pF hs 4 [0, 1, 2] [0] rfl)
      ·intro L a w hs K Q hK
       exact wGo rfl rfl hs (Qo rfl rfl rfl rfl Yc) fun a w hs => hK a w (pF hs 5 [0, 1, 2] [0] rfl)
      ·intro L a w hs K Q hK
       exact wGo rfl rfl hs (Qp rfl rfl rfl rfl Xc (i := 2) rfl rfl) fun a w hs => hK a w (pF hs 6 [0, 1, 2] [0] rfl)
      ·intro L a w hs K Q hK
       exact wGo rfl rfl hs (Qg rfl rfl rfl rfl rfl (Zu (a := atp1) (b := r1.At))) fun a w hs => hK a w (pF hs 7 [0, 1, 2] [0] rfl)
      ·intro L a w hs K Q hK
       exact wGo rfl rfl hs (QM rfl rfl rfl rfl (cnv_u64_i (n := atp1 - r1.At) Try.underlying22 Try.underlying3)) fun a w hs => hK a w (pF hs 8 [0, 1, 2] [0] rfl)
      ·intro L a w hs K Q hK
       exact wGo rfl rfl hs (Zh rfl rfl rfl rfl) fun a w hs => hK a w (pF hs 9 [0, 1, 2] [0] rfl)
      ·intro L a w hL hv
       rw [QZ hL] at hv
       have hs := hv
       refine (show TA _ _ _ 7 ⟨[(56, some (vI (i64 (atp1 - r1.At)))), (6, some (vI i1))], [some (Qd b_m 84 [vm1, vm2]), some (Qj u8S false vm2 vsm1 m.B none)], [Fact.sl Qf vm1 m.L]⟩ from ?_) a w (hs.wkS [56, 6] [0, 1] [0] rfl rfl rfl rfl)
       clear hs hL
       refine QL htb (by kernel_rfl) rfl rfl (Zh rfl rfl rfl rfl) ?_
       refine ZW rfl ?_
       refine tW [(6, some (vI i1)), (7, some (vI (i64 (atp1 - r1.At))))] [some (Qd b_m 84 [vm1, vm2]), some (Qj u8S false vm2 vsm1 m.B none)] [Fact.sl Qf vm1 m.L] [6, 7] [0, 1] [0] rfl ?_
       obtain rfl := Option.some.inj h
       exact Qn rfl rfl (resA (vs := [vI i1, vI (i64 (atp1 - r1.At))]) rfl ⟨rfl, rfl, trivial⟩) [0, 1] [] rfl rfl rfl ⟨rfl, rfl, rfl⟩
     ·replace h := br_f hg5 h
      refine Qm (cgb hg5) ?_
      refine Qr (Zk (Qb (sMv rfl rfl rfl ?_)))
      refine Qa rfl (Qg rfl rfl rfl rfl rfl (Qx (a := i1) (b := (1 : Int)))) ?_
      refine sAs rfl rfl rfl ?_
      refine nW [(0, some (.pointer (some ⟨b_m, 0, none⟩))), (1, some (vU64 atp1)), (2, some (vU64 np2)), (8, some (vI (wi (i1 + (1 : Int)))))] [some (Qd b_m 84 [vm1, vm2]), some (Qj u8S false vm2 vsm1 m.B none)] [Fact.sl Qf vm1 m.L] [0, 1, 2, 8] [0, 1] [0] rfl ?_
      exact QN (wi (i1 + (1 : Int))) h [0, 1, 2, 8] [0, 1] [0] rfl rfl rfl rfl rfl
    ·replace h := br_f hg4 h
     refine Qh rfl rfl (cgb hg4) rfl rfl ?_
     refine Qh rfl rfl (cgb hg4) rfl rfl ?_
     refine Qh rfl rfl (cgb hg4) rfl rfl ?_
     refine Qh rfl rfl (cgb hg4) rfl rfl ?_
     refine Qh rfl rfl (cgb hg4) rfl rfl ?_
     refine Qh rfl rfl (cgb hg4) rfl rfl ?_
     refine Qh rfl rfl (cgb hg4) rfl rfl ?_
     refine Qh rfl rfl (cgb hg4) rfl rfl ?_
     refine Qh rfl rfl (cgb hg4) rfl rfl ?_
     refine Qa rfl (Qu rfl rfl rfl (cgb hg4) rfl) ?_
     refine nW [(0, some (.pointer (some ⟨b_m, 0, none⟩))), (1, some (vU64 atp1)), (2, some (vU64 np2)), (8, some (vI i1)), (9, some (.pointer (some ⟨b1, 0, none⟩))), (50, some (vB false))] [some (Qd b_m 84 [vm1, vm2]), some (Qj u8S false vm2 vsm1 m.B none), some (Qd b1 75 [vU64 r1.At, vU64 r1.Len])] [Fact.sl Qf vm1 m.L] [0, 1, 2, 8, 9, 50] [0, 1, 2] [0] rfl ?_
     refine Qm rfl ?_
     refine Qr (Zk (Qb (sMv rfl rfl rfl ?_)))
     refine Qa rfl (Qg rfl rfl rfl rfl rfl (Qx (a := i1) (b := (1 : Int)))) ?_
     refine sAs rfl rfl rfl ?_
     refine nW [(0, some (.pointer (some ⟨b_m, 0, none⟩))), (1, some (vU64 atp1)), (2, some (vU64 np2)), (8, some (vI (wi (i1 + (1 : Int)))))] [some (Qd b_m 84 [vm1, vm2]), some (Qj u8S false vm2 vsm1 m.B none)] [Fact.sl Qf vm1 m.L] [0, 1, 2, 8] [0, 1] [0] rfl ?_
     exact QN (wi (i1 + (1 : Int))) h [0, 1, 2, 8] [0, 1] [0] rfl rfl rfl rfl rfl
   ·replace h := br_f hg3 h
    refine Qh rfl rfl (cgb hg3) rfl rfl ?_
    refine Qh rfl rfl (cgb hg3) rfl rfl ?_
    refine Qh rfl rfl (cgb hg3) rfl rfl ?_
    refine Qh rfl rfl (cgb hg3) rfl rfl ?_
    refine Qa rfl (Qu rfl rfl rfl (cgb hg3) rfl) ?_
    refine sMv rfl rfl rfl ?_
    refine Qh rfl rfl rfl rfl rfl ?_
    refine Qh rfl rfl rfl rfl rfl ?_
    refine Qh rfl rfl rfl rfl rfl ?_
    refine Qh rfl rfl rfl rfl rfl ?_
    refine Qh rfl rfl rfl rfl rfl ?_
    refine Qh rfl rfl rfl rfl rfl ?_
    refine Qh rfl rfl rfl rfl rfl ?_
    refine Qh rfl rfl rfl rfl rfl ?_
    refine Qh rfl rfl rfl rfl rfl ?_
    refine Qa rfl (Qu rfl rfl rfl rfl rfl) ?_
    refine nW [(0, some (.pointer (some ⟨b_m, 0, none⟩))), (1, some (vU64 atp1)), (2, some (vU64 np2)), (8, some (vI i1)), (9, some (.pointer (some ⟨b1, 0, none⟩))), (50, some (vB false))] [some (Qd b_m 84 [vm1, vm2]), some (Qj u8S false vm2 vsm1 m.B none), some (Qd b1 75 [vU64 r1.At, vU64 r1.Len])] [Fact.sl Qf vm1 m.L] [0, 1, 2, 8, 9, 50] [0, 1, 2] [0] rfl ?_
    refine Qm rfl ?_
    refine Qr (Zk (Qb (sMv rfl rfl rfl ?_)))
    refine Qa rfl (Qg rfl rfl rfl rfl rfl (Qx (a := i1) (b := (1 : Int)))) ?_
    refine sAs rfl rfl rfl ?_
    refine nW [(0, some (.pointer (some ⟨b_m, 0, none⟩))), (1, some (vU64 atp1)), (2, some (vU64 np2)), (8, some (vI (wi (i1 + (1 : Int)))))] [some (Qd b_m 84 [vm1, vm2]), some (Qj u8S false vm2 vsm1 m.B none)] [Fact.sl Qf vm1 m.L] [0, 1, 2, 8] [0, 1] [0] rfl ?_
    exact QN (wi (i1 + (1 : Int))) h [0, 1, 2, 8] [0, 1] [0] rfl rfl rfl rfl rfl
  ·replace h := br_f hg2 h
   refine Qh rfl rfl (cgb hg2) rfl rfl ?_
   refine Qh rfl rfl (cgb hg2) rfl rfl ?_
   refine Qh rfl rfl (cgb hg2) rfl rfl ?_
   refine Qh rfl rfl (cgb hg2) rfl rfl ?_
   refine Qa rfl (Qu rfl rfl rfl (cgb hg2) rfl) ?_
   refine sMv rfl rfl rfl ?_
   refine Qh rfl rfl rfl rfl rfl ?_
   refine Qh rfl rfl rfl rfl rfl ?_
   refine Qh rfl rfl rfl rfl rfl ?_
   refine Qh rfl rfl rfl rfl rfl ?_
   refine Qa rfl (Qu rfl rfl rfl rfl rfl) ?_
   refine sMv rfl rfl rfl ?_
   refine Qh rfl rfl rfl rfl rfl ?_
   refine Qh rfl rfl rfl rfl rfl ?_
   refine Qh rfl rfl rfl rfl rfl ?_
   refine Qh rfl rfl rfl rfl rfl ?_
   refine Qh rfl rfl rfl rfl rfl ?_
   refine Qh rfl rfl rfl rfl rfl ?_
   refine Qh rfl rfl rfl rfl rfl ?_
   refine Qh rfl rfl rfl rfl rfl ?_
   refine Qh rfl rfl rfl rfl rfl ?_
   refine Qa rfl (Qu rfl rfl rfl rfl rfl) ?_
   refine nW [(0, some (.pointer (some ⟨b_m, 0, none⟩))), (1, some (vU64 atp1)), (2, some (vU64 np2)), (8, some (vI i1)), (9, some (.pointer (some ⟨b1, 0, none⟩))), (50, some (vB false))] [some (Qd b_m 84 [vm1, vm2]), some (Qj u8S false vm2 vsm1 m.B none), some (Qd b1 75 [vU64 r1.At, vU64 r1.Len])] [Fact.sl Qf vm1 m.L] [0, 1, 2, 8, 9, 50] [0, 1, 2] [0] rfl ?_
   refine Qm rfl ?_
   refine Qr (Zk (Qb (sMv rfl rfl rfl ?_)))
   refine Qa rfl (Qg rfl rfl rfl rfl rfl (Qx (a := i1) (b := (1 : Int)))) ?_
   refine sAs rfl rfl rfl ?_
   refine nW [(0, some (.pointer (some ⟨b_m, 0, none⟩))), (1, some (vU64 atp1)), (2, some (vU64 np2)), (8, some (vI (wi (i1 + (1 : Int)))))] [some (Qd b_m 84 [vm1, vm2]), some (Qj u8S false vm2 vsm1 m.B none)] [Fact.sl Qf vm1 m.L] [0, 1, 2, 8] [0, 1] [0] rfl ?_
   exact QN (wi (i1 + (1 : Int))) h [0, 1, 2, 8] [0, 1] [0] rfl rfl rfl rfl rfl
 ·replace h := br_f hg1 h
  refine Qm (cgb hg1) ?_
  refine Zf _ rfl ?_
  refine Qe (Qb (sAs rfl rfl rfl ?_))
  refine sAs rfl rfl rfl ?_
  refine nW [(6, some (vI ((-1) : Int))), (7, some (vI (0 : Int)))] [some (Qd b_m 84 [vm1, vm2]), some (Qj u8S false vm2 vsm1 m.B none)] [Fact.sl Qf vm1 m.L] [6, 7] [0, 1] [0] rfl ?_
  obtain rfl := Option.some.inj h
  exact Qn rfl rfl (resA (vs := [vI ((-1) : Int), vI (0 : Int)]) rfl ⟨rfl, rfl, trivial⟩) [0, 1] [] rfl rfl rfl ⟨rfl, rfl, rfl⟩

set_option maxRecDepth 100000 in
set_option maxHeartbeats 4000000 in
theorem w_ref_Mem_Has02 {m : dumbwaiterref02_Mem} {atp1 : UInt64} {np2 : UInt64} {b_m : Nat} {vm1 : Value} {vm2 : Value} {vsm1 : List Value} {r : Bool} (h : Ki m atp1 np2 = some r) :
  Ctr Try.prog 63 #[.pointer (some ⟨b_m, 0, none⟩), vU64 atp1, vU64 np2] [(Qd b_m 84 [vm1, vm2]), (Qj u8S false vm2 vsm1 m.B none)] [Fact.sl Qf vm1 m.L]
   (fun rv own shr => rv = vB r ∧ own = [(Qd b_m 84 [vm1, vm2]), (Qj u8S false vm2 vsm1 m.B none)] ∧ shr = []) := by
 unfold Ki at h
 refine Ctr.mk (args := [.pointer (some ⟨b_m, 0, none⟩), vU64 atp1, vU64 np2]) Try.func63 rfl rfl (fun R0 w0 B => ?_)
 refine Qe (Qb (sAs rfl rfl rfl ?_))
 refine nW [(0, some (.pointer (some ⟨b_m, 0, none⟩))), (1, some (vU64 atp1)), (2, some (vU64 np2))] [some (Qd b_m 84 [vm1, vm2]), some (Qj u8S false vm2 vsm1 m.B none)] [Fact.sl Qf vm1 m.L] [0, 1, 2] [0, 1] [0] rfl ?_
 refine Qe (Qb (sMv rfl rfl rfl ?_))
 refine sMv rfl rfl rfl ?_
 refine sMv rfl rfl rfl ?_
 obtain ⟨Yp, hx1, h⟩ := ob_e h
 refine Qt rfl (QW [2, 3] (w_ref_Mem_find02 hx1) [0, 1] [0] rfl rfl rfl rfl rfl callee38 rfl rfl rfl rfl rfl) ?_
 rintro _ ⟨_, _, _, ⟨rfl, rfl, rfl⟩, rfl⟩
 refine sMv rfl rfl rfl ?_
 refine Qa rfl (Qs rfl rfl rfl rfl rfl) ?_
 refine Qa rfl (Qs rfl rfl rfl rfl rfl) ?_
 refine sAs rfl rfl rfl ?_
 refine sAs rfl rfl rfl ?_
 refine nW [(7, some (vI Yp.1))] [some (Qd b_m 84 [vm1, vm2]), some (Qj u8S false vm2 vsm1 m.B none)] [Fact.sl Qf vm1 m.L] [7] [0, 1] [0] rfl ?_
 refine Qe (Qb (sMv rfl rfl rfl ?_))
 refine Qa rfl (Qg rfl rfl rfl rfl rfl (bin_geq_i (a := Yp.1) (b := (0 : Int)))) ?_
 refine sAs rfl rfl rfl ?_
 refine nW [(6, some (vB (decide (Yp.1 ≥ (0 : Int)))))] [some (Qd b_m 84 [vm1, vm2]), some (Qj u8S false vm2 vsm1 m.B none)] [Fact.sl Qf vm1 m.L] [6] [0, 1] [0] rfl ?_
 obtain rfl := Option.some.inj h
 exact Qn rfl rfl (resA (vs := [vB (decide (Yp.1 ≥ (0 : Int)))]) rfl ⟨rfl, trivial⟩) [0, 1] [] rfl rfl rfl ⟨rfl, rfl, rfl⟩

set_option maxRecDepth 100000 in
set_option maxHeartbeats 4000000 in
theorem w_ref_In05 {m : dumbwaiterref02_Mem} {l : List Seg} {b_m : Nat} {vm1 : Value} {vm2 : Value} {vsm1 : List Value} {vl1 : Value} {r : Int} (h : ref_In05 m l = some r) :
  Ctr Try.prog 48 #[.pointer (some ⟨b_m, 0, none⟩), vl1] [(Qd b_m 84 [vm1, vm2]), (Qj u8S false vm2 vsm1 m.B none)] [Fact.sl Qf vm1 m.L, Fact.sl SegS vl1 l]
   (fun rv own shr => rv = vI r ∧ own = [(Qd b_m 84 [vm1, vm2]), (Qj u8S false vm2 vsm1 m.B none)] ∧ shr = []) := by
 unfold ref_In05 at h
 refine Ctr.mk (args := [.pointer (some ⟨b_m, 0, none⟩), vl1]) Try.func48 rfl rfl (fun R0 w0 B => ?_)
 refine Qe (Qb (sAs rfl rfl rfl ?_))
 refine nW [(0, some (.pointer (some ⟨b_m, 0, none⟩))), (1, some vl1)] [some (Qd b_m 84 [vm1, vm2]), some (Qj u8S false vm2 vsm1 m.B none)] [Fact.sl Qf vm1 m.L, Fact.sl SegS vl1 l] [0, 1] [0, 1] [0, 1] rfl ?_
 refine Qe (Qe (Qb (sMv rfl rfl rfl ?_)))
 refine Qa rfl (OpT_ptrNil rfl rfl rfl (.inl rfl) rfl rfl ptrF44) ?_
 refine nW [(0, some (.pointer (some ⟨b_m, 0, none⟩))), (1, some vl1), (8, some (vB false))] [some (Qd b_m 84 [vm1, vm2]), some (Qj u8S false vm2 vsm1 m.B none)] [Fact.sl Qf vm1 m.L, Fact.sl SegS vl1 l] [0, 1, 8] [0, 1] [0, 1] rfl ?_
 refine Qm rfl ?_
 refine Qr (Qe (Qb (sMv rfl rfl rfl ?_)))
 obtain ⟨check1, hx1, h⟩ := ob_e h
 refine Qt rfl (QO (w_ref_Check05 hx1) [] [1] rfl rfl rfl rfl rfl callee9 rfl rfl rfl rfl) ?_
 rintro _ ⟨_, _, _, ⟨rfl, rfl, rfl⟩, rfl⟩
 refine sAs rfl rfl rfl ?_
 refine nW [(0, some (.pointer (some ⟨b_m, 0, none⟩))), (1, some vl1), (5, some (vI check1))] [some (Qd b_m 84 [vm1, vm2]), some (Qj u8S false vm2 vsm1 m.B none)] [Fact.sl Qf vm1 m.L, Fact.sl SegS vl1 l] [0, 1, 5] [0, 1] [0, 1] rfl ?_
 refine Qe (Qe (Qb (sAs rfl rfl rfl ?_)))
 refine QT (Qz (Zc (σ := Int × Int) [0, 1, 5, 6] [0, 1] [0, 1] (fun s => ⟨[(0, some (.pointer (some ⟨b_m, 0, none⟩))), (1, some vl1), (5, some (vI s.1)), (6, some (vI s.2))], [some (Qd b_m 84 [vm1, vm2]), some (Qj u8S false vm2 vsm1 m.B none)], [Fact.sl Qf vm1 m.L, Fact.sl SegS vl1 l]⟩) (fun nf1 s => Yy m l nf1 s.1 s.2 = some r) fuel (check1, (0 : Int)) h rfl rfl rfl rfl rfl (fun s h => by cases h) ?_))
 rintro nf1 ⟨e1, i1⟩ h
 replace h : ref_In05L1B m l (Yy m l nf1) e1 i1 = some r := h
 unfold ref_In05L1B at h
 refine Qe (Qe (Qb (sMv rfl rfl rfl ?_)))
 refine sMv rfl rfl rfl ?_
 refine Qa rfl (QB rfl rfl rfl rfl Try.underlying25 (i := 1) rfl) ?_
 refine Qa rfl (Qg rfl rfl rfl rfl rfl (QK (a := i1) (b := len l))) ?_
 refine sMv rfl rfl rfl ?_
 rcases bC (decide (i1 < (len l))) with hg1 | hg1
 ·replace h := br_t hg1 h
  refine Qi rfl rfl (cgb hg1) (Qk rfl rfl rfl rfl) ?_
  rintro _ rfl
  refine Qi rfl rfl (cgb hg1) (Qg rfl rfl rfl rfl rfl (Xh (a := e1) (b := (0 : Int)))) ?_
  rintro _ rfl
  refine Qa rfl (Qw rfl rfl rfl (cgb hg1) rfl) ?_
  refine nW [(0, some (.pointer (some ⟨b_m, 0, none⟩))), (1, some vl1), (5, some (vI e1)), (6, some (vI i1)), (18, some (vB (e1 == (0 : Int))))] [some (Qd b_m 84 [vm1, vm2]), some (Qj u8S false vm2 vsm1 m.B none)] [Fact.sl Qf vm1 m.L, Fact.sl SegS vl1 l] [0, 1, 5, 6, 18] [0, 1] [0, 1] rfl ?_
  rcases bC (e1 == (0 : Int)) with hg2 | hg2
  ·replace h := br_t hg2 h
   refine Ql (cgb hg2) ?_
   refine Qr (Qe (Qz (Qe (Zw (by kernel_rfl) ?_))))
   refine TA_tb [0, 0, 0, 6, 14, 30, 0, 0, 192, 448, 960, 1984, 4095, 8191] (by kernel_rfl) fun htb => ?_
   refine Xy (fr' := [(0, some (.pointer (some ⟨b_m, 0, none⟩))), (1, some vl1), (5, some (vI e1)), (6, some (vI i1))]) (own' := [some (Qd b_m 84 [vm1, vm2]), some (Qj u8S false vm2 vsm1 m.B none)]) (shr' := [Fact.sl Qf vm1 m.L, Fact.sl SegS vl1 l]) [0, 1, 5, 6] [0, 1] [0, 1] rfl rfl rfl rfl ?_
   obtain ⟨s1, hx2, h⟩ := ob_e h
   obtain ⟨s2, hx3, h⟩ := ob_e h
   refine Zs (lo := 0) (hi := 12) htb rfl rfl (by kernel_rfl) (fun c L a w => ∃ (p1 : Value), ∃ (p2 : Value), ∃ (p3 : Value), ∃ (p4 : Value), Sat c ⟨[(0, some (.pointer (some ⟨b_m, 0, none⟩))), (1, some vl1), (5, some (vI e1)), (6, some (vI i1)), (21, bif L 0 then some (.pointer (some ⟨b_m, 0, none⟩)) else none), (22, bif L 1 then some (vl1) else none), (23, bif L 2 then some (vI i1) else none), (24, bif L 3 then some (p1) else none), (25, bif L 4 then some (p2) else none), (26, bif L 5 then some (vU64 s1.At) else none), (27, bif L 6 then some (vl1) else none), (28, bif L 7 then some (vI i1) else none), (29, bif L 8 then some (p3) else none), (30, bif L 9 then some (p4) else none), (31, bif L 10 then some (vU32 s2.Len) else none), (32, bif L 11 then some (vU64 s2.Len.toUInt64) else none)], [(some (Qd b_m 84 [vm1, vm2]) : Option Res), (some (Qj u8S false vm2 vsm1 m.B none) : Option Res)], [Fact.sl Qf vm1 m.L, Fact.sl SegS vl1 l, (bif L 3 then Fact.pt SegS p1 s1 else Fact.tt), (bif L 4 then Fact.pt u64S p2 s1.At else Fact.tt), (bif L 8 then Fact.pt SegS p3 s2 else Fact.tt), (bif L 9 then Fact.pt u32S p4 s2.Len else Fact.tt)]⟩ a w) [([], []), ([], [3, 4, 5]), ([], [3, 4, 5]), ([1, 2], [4, 5]), ([1, 2, 3], [5]), ([1, 2, 3, 4], []), ([], [8, 9, 10, 11]), ([], [8, 9, 10, 11]), ([6, 7], [9, 10, 11]), ([6, 7, 8], [10, 11]), ([6, 7, 8, 9], [11]), ([6, 7, 8, 9, 10], [])] rfl (by kernel_rfl) ?_ (Qc ?_ (Qc ?_ (Qc ?_ (Qc ?_ (Qc ?_ (Qc ?_ (Qc ?_ (Qc ?_ (Qc ?_ (Qc ?_ (Qc ?_ (Qc ?_ (QH))))))))))))) ?_
   ·intro a w hs
    exact ⟨undef, undef, undef, undef, hs.startF [21, 22, 23, 24, 25, 26, 27, 28, 29, 30, 31, 32] [0, 1] [0, 1, 2, 3, 4, 5] rfl rfl rfl rfl⟩
   ·intro L a w hv K Q hK
    obtain ⟨p1, p2, p3, p4, hs⟩ := hv
    exact wGo rfl rfl hs (Qk rfl rfl rfl rfl) fun a w hs => hK a w ⟨p1, p2, p3, p4, pF hs 4 [0, 1] [0, 1, 2, 3, 4, 5] rfl⟩
   ·intro L a w hv K Q hK
    obtain ⟨p1, p2, p3, p4, hs⟩ := hv
    exact wGo rfl rfl hs (Qk rfl rfl rfl rfl) fun a w hs => hK a w ⟨p1, p2, p3, p4, pF hs 5 [0, 1] [0, 1, 2, 3, 4, 5] rfl⟩
   ·intro L a w hv K Q hK
    obtain ⟨p1, p2, p3, p4, hs⟩ := hv
    exact wGo rfl rfl hs (Qk rfl rfl rfl rfl) fun a w hs => hK a w ⟨p1, p2, p3, p4, pF hs 6 [0, 1] [0, 1, 2, 3, 4, 5] rfl⟩
   ·intro L a w hv K Q hK
    obtain ⟨p1, p2, p3, p4, hs⟩ := hv
    refine QG rfl rfl hs (QA rfl rfl rfl rfl rfl XS (i := 1) rfl hx2) ?_
    rintro _ ⟨p1', rfl⟩ a' w' hs'
    exact hK a' w' ⟨p1', p2, p3, p4, hs'.putF (i := 7) rfl [0, 1] [0, 1, 6, 3, 4, 5] rfl rfl rfl rfl⟩
   ·intro L a w hv K Q hK
    obtain ⟨p1, p2, p3, p4, hs⟩ := hv
    refine QG rfl rfl hs (QJ (S' := u64S) (y := s1.At) rfl rfl rfl rfl fldF29x0 (i := 2) rfl (by intro h cs hr; subst hr; rfl)) ?_
    rintro _ ⟨p2', rfl⟩ a' w' hs'
    exact hK a' w' ⟨p1, p2', p3, p4, hs'.putF (i := 8) rfl [0, 1] [0, 1, 2, 6, 4, 5] rfl rfl rfl rfl⟩
   ·intro L a w hv K Q hK
    obtain ⟨p1, p2, p3, p4, hs⟩ := hv
    exact wGo rfl rfl hs (QC rfl rfl rfl rfl Xc (i := 3) rfl rfl) fun a w hs => hK a w ⟨p1, p2, p3, p4, pF hs 9 [0, 1] [0, 1, 2, 3, 4, 5] rfl⟩
   ·intro L a w hv K Q hK
    obtain ⟨p1, p2, p3, p4, hs⟩ := hv
    exact wGo rfl rfl hs (Qk rfl rfl rfl rfl) fun a w hs => hK a w ⟨p1, p2, p3, p4, pF hs 10 [0, 1] [0, 1, 2, 3, 4, 5] rfl⟩
   ·intro L a w hv K Q hK
    obtain ⟨p1, p2, p3, p4, hs⟩ := hv
    exact wGo rfl rfl hs (Qk rfl rfl rfl rfl) fun a w hs => hK a w ⟨p1, p2, p3, p4, pF hs 11 [0, 1] [0, 1, 2, 3, 4, 5] rfl⟩
   ·intro L a w hv K Q hK
    obtain ⟨p1, p2, p3, p4, hs⟩ := hv
    refine QG rfl rfl hs (QA rfl rfl rfl rfl rfl XS (i := 1) rfl hx3) ?_
    rintro _ ⟨p3', rfl⟩ a' w' hs'
    exact hK a' w' ⟨p1, p2, p3', p4, hs'.putF (i := 12) rfl [0, 1] [0, 1, 2, 3, 6, 5] rfl rfl rfl rfl⟩
   ·intro L a w hv K Q hK
    obtain ⟨p1, p2, p3, p4, hs⟩ := hv
    refine QG rfl rfl hs (QJ (S' := u32S) (y := s2.Len) rfl rfl rfl rfl ZV (i := 4) rfl (by intro h cs hr; subst hr; rfl)) ?_
    rintro _ ⟨p4', rfl⟩ a' w' hs'
    exact hK a' w' ⟨p1, p2, p3, p4', hs'.putF (i := 13) rfl [0, 1] [0, 1, 2, 3, 4, 6] rfl rfl rfl rfl⟩
   ·intro L a w hv K Q hK
    obtain ⟨p1, p2, p3, p4, hs⟩ := hv
    exact wGo rfl rfl hs (QC rfl rfl rfl rfl tyF27 (i := 5) rfl rfl) fun a w hs => hK a w ⟨p1, p2, p3, p4, pF hs 14 [0, 1] [0, 1, 2, 3, 4, 5] rfl⟩
   ·intro L a w hv K Q hK
    obtain ⟨p1, p2, p3, p4, hs⟩ := hv
    exact wGo rfl rfl hs (QM rfl rfl rfl rfl (Zm (n := s2.Len) Try.underlying27 Try.underlying22)) fun a w hs => hK a w ⟨p1, p2, p3, p4, pF hs 15 [0, 1] [0, 1, 2, 3, 4, 5] rfl⟩
   ·intro L a w hL hv
    rw [QZ hL] at hv
    obtain ⟨p1, p2, p3, p4, hs⟩ := hv
    refine (show TA _ _ _ 12 ⟨[(0, some (.pointer (some ⟨b_m, 0, none⟩))), (1, some vl1), (5, some (vI e1)), (6, some (vI i1)), (21, some (.pointer (some ⟨b_m, 0, none⟩))), (26, some (vU64 s1.At)), (32, some (vU64 s2.Len.toUInt64))], [some (Qd b_m 84 [vm1, vm2]), some (Qj u8S false vm2 vsm1 m.B none)], [Fact.sl Qf vm1 m.L, Fact.sl SegS vl1 l]⟩ from ?_) a w (hs.wkS [0, 1, 5, 6, 21, 26, 32] [0, 1] [0, 1] rfl rfl rfl rfl)
    clear hs hL
    obtain ⟨has1, hx4, h⟩ := ob_e h
    refine TA_exP htb (by kernel_rfl) rfl rfl (QW [2, 3] (w_ref_Mem_Has02 hx4) [0, 1] [0] rfl rfl rfl rfl rfl callee63 rfl rfl rfl rfl rfl) ?_
    rintro _ ⟨_, _, _, ⟨rfl, rfl, rfl⟩, rfl⟩
    refine QL htb (by kernel_rfl) rfl rfl (OpT_not rfl rfl rfl rfl) ?_
    refine ZW rfl ?_
    refine tW [(0, some (.pointer (some ⟨b_m, 0, none⟩))), (1, some vl1), (5, some (vI e1)), (6, some (vI i1)), (34, some (vB (!has1)))] [some (Qd b_m 84 [vm1, vm2]), some (Qj u8S false vm2 vsm1 m.B none)] [Fact.sl Qf vm1 m.L, Fact.sl SegS vl1 l] [0, 1, 5, 6, 34] [0, 1] [0, 1] rfl ?_
    rcases bC ((!has1)) with hg3 | hg3
    ·replace h := br_t hg3 h
     refine Ql (cgb hg3) ?_
     refine Qb (sAs rfl rfl rfl ?_)
     refine nW [(0, some (.pointer (some ⟨b_m, 0, none⟩))), (1, some vl1), (5, some (vI (5 : Int))), (6, some (vI i1))] [some (Qd b_m 84 [vm1, vm2]), some (Qj u8S false vm2 vsm1 m.B none)] [Fact.sl Qf vm1 m.L, Fact.sl SegS vl1 l] [0, 1, 5, 6] [0, 1] [0, 1] rfl ?_
     refine Zk (Qb (sMv rfl rfl rfl ?_))
     refine Qa rfl (Qg rfl rfl rfl rfl rfl (Qx (a := i1) (b := (1 : Int)))) ?_
     refine sAs rfl rfl rfl ?_
     refine nW [(0, some (.pointer (some ⟨b_m, 0, none⟩))), (1, some vl1), (5, some (vI (5 : Int))), (6, some (vI (wi (i1 + (1 : Int)))))] [some (Qd b_m 84 [vm1, vm2]), some (Qj u8S false vm2 vsm1 m.B none)] [Fact.sl Qf vm1 m.L, Fact.sl SegS vl1 l] [0, 1, 5, 6] [0, 1] [0, 1] rfl ?_
     exact QN ((5 : Int), wi (i1 + (1 : Int))) h [0, 1, 5, 6] [0, 1] [0, 1] rfl rfl rfl rfl rfl
    ·replace h := br_f hg3 h
     refine Qm (cgb hg3) ?_
     refine Qr (Zk (Qb (sMv rfl rfl rfl ?_)))
     refine Qa rfl (Qg rfl rfl rfl rfl rfl (Qx (a := i1) (b := (1 : Int)))) ?_
     refine sAs rfl rfl rfl ?_
     refine nW [(0, some (.pointer (some ⟨b_m, 0, none⟩))), (1, some vl1), (5, some (vI e1)), (6, some (vI (wi (i1 + (1 : Int)))))] [some (Qd b_m 84 [vm1, vm2]), some (Qj u8S false vm2 vsm1 m.B none)] [Fact.sl Qf vm1 m.L, Fact.sl SegS vl1 l] [0, 1, 5, 6] [0, 1] [0, 1] rfl ?_
     exact QN (e1, wi (i1 + (1 : Int))) h [0, 1, 5, 6] [0, 1] [0, 1] rfl rfl rfl rfl rfl
  ·replace h := br_f hg2 h
   refine Qm (cgb hg2) ?_
   refine Zf _ rfl ?_
   refine Qe (Qb (sMv rfl rfl rfl ?_))
   refine sAs rfl rfl rfl ?_
   refine nW [(4, some (vI e1))] [some (Qd b_m 84 [vm1, vm2]), some (Qj u8S false vm2 vsm1 m.B none)] [Fact.sl Qf vm1 m.L] [4] [0, 1] [0] rfl ?_
   obtain rfl := Option.some.inj h
   exact Qn rfl rfl (resA (vs := [vI e1]) rfl ⟨rfl, trivial⟩) [0, 1] [] rfl rfl rfl ⟨rfl, rfl, rfl⟩
 ·replace h := br_f hg1 h
  refine Qh rfl rfl (cgb hg1) rfl rfl ?_
  refine Qh rfl rfl (cgb hg1) rfl rfl ?_
  refine Qa rfl (Qu rfl rfl rfl (cgb hg1) rfl) ?_
  refine nW [(0, some (.pointer (some ⟨b_m, 0, none⟩))), (1, some vl1), (5, some (vI e1)), (6, some (vI i1)), (18, some (vB false))] [some (Qd b_m 84 [vm1, vm2]), some (Qj u8S false vm2 vsm1 m.B none)] [Fact.sl Qf vm1 m.L, Fact.sl SegS vl1 l] [0, 1, 5, 6, 18] [0, 1] [0, 1] rfl ?_
  refine Qm rfl ?_
  refine Zf _ rfl ?_
  refine Qe (Qb (sMv rfl rfl rfl ?_))
  refine sAs rfl rfl rfl ?_
  refine nW [(4, some (vI e1))] [some (Qd b_m 84 [vm1, vm2]), some (Qj u8S false vm2 vsm1 m.B none)] [Fact.sl Qf vm1 m.L] [4] [0, 1] [0] rfl ?_
  obtain rfl := Option.some.inj h
  exact Qn rfl rfl (resA (vs := [vI e1]) rfl ⟨rfl, trivial⟩) [0, 1] [] rfl rfl rfl ⟨rfl, rfl, rfl⟩

set_option maxRecDepth 100000 in
set_option maxHeartbeats 4000000 in
theorem w_ref_Mem_Write02 {m : dumbwaiterref02_Mem} {atp1 : UInt64} {b : List UInt8} {b_m : Nat} {vm1 : Value} {vm2 : Value} {vsm1 : List Value} {vb1 : Value} {r : (Int × (List (List UInt8)))} (h : XM m atp1 b = some r) :
  Ctr Try.prog 16 #[.pointer (some ⟨b_m, 0, none⟩), vU64 atp1, vb1] [(Qd b_m 84 [vm1, vm2]), (Qj u8S false vm2 vsm1 m.B none)] [Fact.sl Qf vm1 m.L, Fact.sl u8S vb1 b]
   (fun rv own shr => rv = vI r.1 ∧ own = [(Qd b_m 84 [vm1, vm2]), (Qj u8S false vm2 vsm1 r.2 none)] ∧ shr = []) := by
 unfold XM at h
 refine Ctr.mk (args := [.pointer (some ⟨b_m, 0, none⟩), vU64 atp1, vb1]) Try.func16 rfl rfl (fun R0 w0 B => ?_)
 refine Qe (Qb (sAs rfl rfl rfl ?_))
 refine nW [(0, some (.pointer (some ⟨b_m, 0, none⟩))), (1, some (vU64 atp1)), (2, some vb1)] [some (Qd b_m 84 [vm1, vm2]), some (Qj u8S false vm2 vsm1 m.B none)] [Fact.sl Qf vm1 m.L, Fact.sl u8S vb1 b] [0, 1, 2] [0, 1] [0, 1] rfl ?_
 refine Qe (Qe (Qb (sMv rfl rfl rfl ?_)))
 refine Qa rfl (QB rfl rfl rfl rfl Try.underlying35 (i := 1) rfl) ?_
 refine Qa rfl (Qg rfl rfl rfl rfl rfl (Xh (a := len b) (b := (0 : Int)))) ?_
 refine nW [(0, some (.pointer (some ⟨b_m, 0, none⟩))), (1, some (vU64 atp1)), (2, some vb1), (11, some (vB ((len b) == (0 : Int))))] [some (Qd b_m 84 [vm1, vm2]), some (Qj u8S false vm2 vsm1 m.B none)] [Fact.sl Qf vm1 m.L, Fact.sl u8S vb1 b] [0, 1, 2, 11] [0, 1] [0, 1] rfl ?_
 rcases bC ((len b) == (0 : Int)) with hg1 | hg1
 ·replace h := br_t hg1 h
  refine Ql (cgb hg1) ?_
  refine Qe (Qb (sAs rfl rfl rfl ?_))
  refine nW [(6, some (vI (0 : Int)))] [some (Qd b_m 84 [vm1, vm2]), some (Qj u8S false vm2 vsm1 m.B none)] [Fact.sl Qf vm1 m.L] [6] [0, 1] [0] rfl ?_
  obtain rfl := Option.some.inj h
  exact Qn rfl rfl (resA (vs := [vI (0 : Int)]) rfl ⟨rfl, trivial⟩) [0, 1] [] rfl rfl rfl ⟨rfl, rfl, rfl⟩
 ·replace h := br_f hg1 h
  refine Qm (cgb hg1) ?_
  refine Qr (Qe (Qb (sMv rfl rfl rfl ?_)))
  refine sMv rfl rfl rfl ?_
  refine sMv rfl rfl rfl ?_
  refine Qa rfl (QB rfl rfl rfl rfl Try.underlying35 (i := 1) rfl) ?_
  refine Qa rfl (QM rfl rfl rfl rfl (Yq (n := len b) Try.underlying3 Try.underlying22)) ?_
  obtain ⟨Yp, hx1, h⟩ := ob_e h
  refine Qt rfl (QW [2, 3] (w_ref_Mem_find02 hx1) [0, 1] [0] rfl rfl rfl rfl rfl callee38 rfl rfl rfl rfl rfl) ?_
  rintro _ ⟨_, _, _, ⟨rfl, rfl, rfl⟩, rfl⟩
  refine sMv rfl rfl rfl ?_
  refine Qa rfl (Qs rfl rfl rfl rfl rfl) ?_
  refine Qa rfl (Qs rfl rfl rfl rfl rfl) ?_
  refine sAs rfl rfl rfl ?_
  refine sAs rfl rfl rfl ?_
  refine nW [(0, some (.pointer (some ⟨b_m, 0, none⟩))), (2, some vb1), (7, some (vI Yp.1)), (8, some (vI Yp.2))] [some (Qd b_m 84 [vm1, vm2]), some (Qj u8S false vm2 vsm1 m.B none)] [Fact.sl Qf vm1 m.L, Fact.sl u8S vb1 b] [0, 2, 7, 8] [0, 1] [0, 1] rfl ?_
  refine Qe (Qe (Qb (sMv rfl rfl rfl ?_)))
  refine Qa rfl (Qg rfl rfl rfl rfl rfl (QK (a := Yp.1) (b := (0 : Int)))) ?_
  refine nW [(0, some (.pointer (some ⟨b_m, 0, none⟩))), (2, some vb1), (7, some (vI Yp.1)), (8, some (vI Yp.2)), (22, some (vB (decide (Yp.1 < (0 : Int)))))] [some (Qd b_m 84 [vm1, vm2]), some (Qj u8S false vm2 vsm1 m.B none)] [Fact.sl Qf vm1 m.L, Fact.sl u8S vb1 b] [0, 2, 7, 8, 22] [0, 1] [0, 1] rfl ?_
  rcases bC (decide (Yp.1 < (0 : Int))) with hg2 | hg2
  ·replace h := br_t hg2 h
   refine Ql (cgb hg2) ?_
   refine Qe (Qb (sAs rfl rfl rfl ?_))
   refine nW [(6, some (vI (5 : Int)))] [some (Qd b_m 84 [vm1, vm2]), some (Qj u8S false vm2 vsm1 m.B none)] [Fact.sl Qf vm1 m.L] [6] [0, 1] [0] rfl ?_
   obtain rfl := Option.some.inj h
   exact Qn rfl rfl (resA (vs := [vI (5 : Int)]) rfl ⟨rfl, trivial⟩) [0, 1] [] rfl rfl rfl ⟨rfl, rfl, rfl⟩
  ·replace h := br_f hg2 h
   refine Qm (cgb hg2) ?_
   refine Qr (Qe (Qb (sMv rfl rfl rfl ?_)))
   refine Qa rfl (QP rfl rfl rfl rfl) ?_
   refine Qa rfl (Qo rfl rfl rfl rfl fldF84x1) ?_
   refine Qa rfl (Qp rfl rfl rfl rfl tyF80 (i := 0) rfl rfl) ?_
   refine sMv rfl rfl rfl ?_
   obtain ⟨row1, hx2, h⟩ := ob_e h
   refine Qa rfl (OpT_idxRows rfl rfl rfl rfl rfl slF80 (i := 1) rfl hx2) ?_
   refine Tops_vs (vs_focus (i := 1) (j := Yp.1) rfl hx2) ?_
   refine Qa rfl (OpT_loadRow (m := Yp.1) rfl rfl rfl rfl tyF35 (i := 1) rfl) ?_
   refine sMv rfl rfl rfl ?_
   obtain ⟨hc1, h⟩ := Zi h
   refine Qa rfl (OpT_subL (S := u8S) (l := Yp.2) rfl rfl rfl rfl rfl Xg (i := 2) rfl hc1) ?_
   refine sMv rfl rfl rfl ?_
   refine Qa rfl (OpT_copyS (S := u8S) (l := Yp.2) (m := (len row1)) rfl rfl rfl rfl rfl rfl Xg (i := 2) (j := 1) rfl rfl hc1) ?_
   refine nW [] [some (Qd b_m 84 [vm1, vm2]), some (Qj u8S false vm2 vsm1 m.B (some (Int.toNat Yp.1, vsAt vsm1 (Int.toNat Yp.1)))), some (rowS u8S (vsAt vsm1 (Int.toNat Yp.1)) (copyAt row1 Yp.2 (len row1) b))] [Fact.sl Qf vm1 m.L] [] [0, 1, 2] [0] rfl ?_
   refine Tk_vs (vs_unfocus (i := 1) (q := 2) rfl rfl rfl) ?_
   refine Qe (Qb (sAs rfl rfl rfl ?_))
   refine nW [(6, some (vI (0 : Int)))] [some (Qd b_m 84 [vm1, vm2]), some (Qj u8S false vm2 vsm1 (m.B.set (Int.toNat Yp.1) (copyAt row1 Yp.2 (len row1) b)) none)] [Fact.sl Qf vm1 m.L] [6] [0, 1] [0] rfl ?_
   obtain rfl := Option.some.inj h
   exact Qn rfl rfl (resA (vs := [vI (0 : Int)]) rfl ⟨rfl, trivial⟩) [0, 1] [] rfl rfl rfl ⟨rfl, rfl, rfl⟩

set_option maxRecDepth 100000 in
set_option maxHeartbeats 4000000 in
theorem w_ref_Scatter05 {m : dumbwaiterref02_Mem} {l : List Seg} {b : List UInt8} {b_m : Nat} {vm1 : Value} {vm2 : Value} {vsm1 : List Value} {vl1 : Value} {vb1 : Value} {r : (Int × Int × (List (List UInt8)))} (h : XU m l b = some r) :
  Ctr Try.prog 50 #[.pointer (some ⟨b_m, 0, none⟩), vl1, vb1] [(Qd b_m 84 [vm1, vm2]), (Qj u8S false vm2 vsm1 m.B none)] [Fact.sl Qf vm1 m.L, Fact.sl SegS vl1 l, Fact.sl u8S vb1 b]
   (fun rv own shr => rv = .tuple #[vI r.1, vI r.2.1] ∧ own = [(Qd b_m 84 [vm1, vm2]), (Qj u8S false vm2 vsm1 r.2.2 none)] ∧ shr = []) := by
 unfold XU at h
 refine Ctr.mk (args := [.pointer (some ⟨b_m, 0, none⟩), vl1, vb1]) Try.func50 rfl rfl (fun R0 w0 B => ?_)
 refine Qe (Qb (sAs rfl rfl rfl ?_))
 refine sAs rfl rfl rfl ?_
 refine nW [(0, some (.pointer (some ⟨b_m, 0, none⟩))), (1, some vl1), (2, some vb1)] [some (Qd b_m 84 [vm1, vm2]), some (Qj u8S false vm2 vsm1 m.B none)] [Fact.sl Qf vm1 m.L, Fact.sl SegS vl1 l, Fact.sl u8S vb1 b] [0, 1, 2] [0, 1] [0, 1, 2] rfl ?_
 refine Qe (Qb (sMv rfl rfl rfl ?_))
 refine sMv rfl rfl rfl ?_
 obtain ⟨in1, hx1, h⟩ := ob_e h
 refine Qt rfl (QW [2, 3] (w_ref_In05 hx1) [0, 1] [0, 1] rfl rfl rfl rfl rfl callee48 rfl rfl rfl rfl rfl) ?_
 rintro _ ⟨_, _, _, ⟨rfl, rfl, rfl⟩, rfl⟩
 refine sAs rfl rfl rfl ?_
 refine nW [(0, some (.pointer (some ⟨b_m, 0, none⟩))), (1, some vl1), (2, some vb1), (8, some (vI in1))] [some (Qd b_m 84 [vm1, vm2]), some (Qj u8S false vm2 vsm1 m.B none)] [Fact.sl Qf vm1 m.L, Fact.sl SegS vl1 l, Fact.sl u8S vb1 b] [0, 1, 2, 8] [0, 1] [0, 1, 2] rfl ?_
 refine Qe (Qe (Qb (sMv rfl rfl rfl ?_)))
 refine Qa rfl (Qg rfl rfl rfl rfl rfl (QU (a := in1) (b := (0 : Int)))) ?_
 refine nW [(0, some (.pointer (some ⟨b_m, 0, none⟩))), (1, some vl1), (2, some vb1), (8, some (vI in1)), (16, some (vB (in1 != (0 : Int))))] [some (Qd b_m 84 [vm1, vm2]), some (Qj u8S false vm2 vsm1 m.B none)] [Fact.sl Qf vm1 m.L, Fact.sl SegS vl1 l, Fact.sl u8S vb1 b] [0, 1, 2, 8, 16] [0, 1] [0, 1, 2] rfl ?_
 rcases bC (in1 != (0 : Int)) with hg1 | hg1
 ·replace h := br_t hg1 h
  refine Ql (cgb hg1) ?_
  refine Qe (Qb (sMv rfl rfl rfl ?_))
  refine sAs rfl rfl rfl ?_
  refine sAs rfl rfl rfl ?_
  refine nW [(6, some (vI (0 : Int))), (7, some (vI in1))] [some (Qd b_m 84 [vm1, vm2]), some (Qj u8S false vm2 vsm1 m.B none)] [Fact.sl Qf vm1 m.L] [6, 7] [0, 1] [0] rfl ?_
  obtain rfl := Option.some.inj h
  exact Qn rfl rfl (resA (vs := [vI (0 : Int), vI in1]) rfl ⟨rfl, rfl, trivial⟩) [0, 1] [] rfl rfl rfl ⟨rfl, rfl, rfl⟩
 ·replace h := br_f hg1 h
  refine Qm (cgb hg1) ?_
  refine Qr (Qe (Qb (sAs rfl rfl rfl ?_)))
  refine nW [(0, some (.pointer (some ⟨b_m, 0, none⟩))), (1, some vl1), (2, some vb1), (9, some (vI (0 : Int)))] [some (Qd b_m 84 [vm1, vm2]), some (Qj u8S false vm2 vsm1 m.B none)] [Fact.sl Qf vm1 m.L, Fact.sl SegS vl1 l, Fact.sl u8S vb1 b] [0, 1, 2, 9] [0, 1] [0, 1, 2] rfl ?_
  refine Qe (Qe (Qb (sAs rfl rfl rfl ?_)))
  refine QT (Qz (Zc (σ := (List (List UInt8)) × Int × Int) [0, 1, 2, 9, 10] [0, 1] [0, 1, 2] (fun s => ⟨[(0, some (.pointer (some ⟨b_m, 0, none⟩))), (1, some vl1), (2, some vb1), (9, some (vI s.2.1)), (10, some (vI s.2.2))], [some (Qd b_m 84 [vm1, vm2]), some (Qj u8S false vm2 vsm1 s.1 none)], [Fact.sl Qf vm1 m.L, Fact.sl SegS vl1 l, Fact.sl u8S vb1 b]⟩) (fun nf1 s => ZC m l b nf1 s.1 s.2.1 s.2.2 = some r) fuel (m.B, (0 : Int), (0 : Int)) h rfl rfl rfl rfl rfl (fun s h => by cases h) ?_))
  rintro nf1 ⟨rows1, n1, i1⟩ h
  replace h : YO m l b (ZC m l b nf1) rows1 n1 i1 = some r := h
  unfold YO at h
  refine Qe (Qe (Qb (sMv rfl rfl rfl ?_)))
  refine sMv rfl rfl rfl ?_
  refine Qa rfl (QB rfl rfl rfl rfl Try.underlying25 (i := 1) rfl) ?_
  refine Qa rfl (Qg rfl rfl rfl rfl rfl (QK (a := i1) (b := len l))) ?_
  refine nW [(0, some (.pointer (some ⟨b_m, 0, none⟩))), (1, some vl1), (2, some vb1), (9, some (vI n1)), (10, some (vI i1)), (21, some (vB (decide (i1 < (len l)))))] [some (Qd b_m 84 [vm1, vm2]), some (Qj u8S false vm2 vsm1 rows1 none)] [Fact.sl Qf vm1 m.L, Fact.sl SegS vl1 l, Fact.sl u8S vb1 b] [0, 1, 2, 9, 10, 21] [0, 1] [0, 1, 2] rfl ?_
  rcases bC (decide (i1 < (len l))) with hg2 | hg2
  ·replace h := br_t hg2 h
   refine Ql (cgb hg2) ?_
   refine Qr (Qe (Yu (α := (List (List UInt8)) × Int) (fun s => ⟨[(0, some (.pointer (some ⟨b_m, 0, none⟩))), (1, some vl1), (2, some vb1), (9, some (vI s.2)), (10, some (vI i1))], [some (Qd b_m 84 [vm1, vm2]), some (Qj u8S false vm2 vsm1 s.1 none)], [Fact.sl Qf vm1 m.L, Fact.sl SegS vl1 l, Fact.sl u8S vb1 b]⟩) (fun s => XL i1 (ZC m l b nf1) s.1 s.2 = some r) ?_ ?_))
   ·rintro ⟨rows2, n2⟩ h
    replace h : XL i1 (ZC m l b nf1) rows2 n2 = some r := h
    unfold XL at h
    refine Qb (sMv rfl rfl rfl ?_)
    refine Qa rfl (Qg rfl rfl rfl rfl rfl (Qx (a := i1) (b := (1 : Int)))) ?_
    refine sAs rfl rfl rfl ?_
    refine nW [(0, some (.pointer (some ⟨b_m, 0, none⟩))), (1, some vl1), (2, some vb1), (9, some (vI n2)), (10, some (vI (wi (i1 + (1 : Int)))))] [some (Qd b_m 84 [vm1, vm2]), some (Qj u8S false vm2 vsm1 rows2 none)] [Fact.sl Qf vm1 m.L, Fact.sl SegS vl1 l, Fact.sl u8S vb1 b] [0, 1, 2, 9, 10] [0, 1] [0, 1, 2] rfl ?_
    exact QN (rows2, n2, wi (i1 + (1 : Int))) h [0, 1, 2, 9, 10] [0, 1] [0, 1, 2] rfl rfl rfl rfl rfl
   ·intro HJ1
    refine Qz (Qe (Qb (sMv rfl rfl rfl ?_)))
    refine sMv rfl rfl rfl ?_
    obtain ⟨s1, hx2, h⟩ := ob_e h
    refine Qq rfl (QA rfl rfl rfl rfl rfl XS (i := 1) rfl hx2) fun p1 => ?_
    refine Qq rfl (QJ (S' := bS) (y := s1.Write) rfl rfl rfl rfl Km (i := 3) rfl (by intro h cs hr; subst hr; rfl)) fun p2 => ?_
    refine Qa rfl (QC rfl rfl rfl rfl tyF4 (i := 4) rfl rfl) ?_
    refine nW [(0, some (.pointer (some ⟨b_m, 0, none⟩))), (1, some vl1), (2, some vb1), (9, some (vI n1)), (10, some (vI i1)), (28, some (vB s1.Write))] [some (Qd b_m 84 [vm1, vm2]), some (Qj u8S false vm2 vsm1 rows1 none)] [Fact.sl Qf vm1 m.L, Fact.sl SegS vl1 l, Fact.sl u8S vb1 b] [0, 1, 2, 9, 10, 28] [0, 1] [0, 1, 2] rfl ?_
    refine Yu (α := (List (List UInt8)) × Int) (fun s => ⟨[(0, some (.pointer (some ⟨b_m, 0, none⟩))), (1, some vl1), (2, some vb1), (9, some (vI s.2)), (10, some (vI i1))], [some (Qd b_m 84 [vm1, vm2]), some (Qj u8S false vm2 vsm1 s.1 none)], [Fact.sl Qf vm1 m.L, Fact.sl SegS vl1 l, Fact.sl u8S vb1 b]⟩) (fun s => Xp i1 (ZC m l b nf1) s.1 s.2 = some r) ?_ ?_
    ·rintro ⟨rows3, n3⟩ h
     replace h : Xp i1 (ZC m l b nf1) rows3 n3 = some r := h
     unfold Xp at h
     refine Zk ?_
     exact ZP (HJ1 (rows3, n3) h) [0, 1, 2, 9, 10] [0, 1] [0, 1, 2] rfl rfl rfl rfl
    ·intro HJ2
     rcases bC (s1.Write) with hg3 | hg3
     ·replace h := br_t hg3 h
      refine Ql (cgb hg3) ?_
      refine Qe (Qb (sMv rfl rfl rfl ?_))
      refine Qa rfl (QB rfl rfl rfl rfl Try.underlying35 (i := 2) rfl) ?_
      refine sMv rfl rfl rfl ?_
      refine Qa rfl (Qg rfl rfl rfl rfl rfl (Xu (a := len b) (b := n1))) ?_
      refine sMv rfl rfl rfl ?_
      refine sMv rfl rfl rfl ?_
      obtain ⟨s2, hx3, h⟩ := ob_e h
      refine Qq rfl (QA rfl rfl rfl rfl rfl XS (i := 1) rfl hx3) fun p3 => ?_
      refine Qq rfl (QJ (S' := u32S) (y := s2.Len) rfl rfl rfl rfl ZV (i := 3) rfl (by intro h cs hr; subst hr; rfl)) fun p4 => ?_
      refine Qa rfl (QC rfl rfl rfl rfl tyF27 (i := 4) rfl rfl) ?_
      refine Qa rfl (QM rfl rfl rfl rfl (cnv_u32_i (n := s2.Len) Try.underlying27 Try.underlying3)) ?_
      refine Qa rfl (OpT_min_i (u := wi ((len b) - n1)) (v := i32 s2.Len) rfl rfl rfl rfl rfl) ?_
      refine sAs rfl rfl rfl ?_
      refine nW [(0, some (.pointer (some ⟨b_m, 0, none⟩))), (1, some vl1), (2, some vb1), (9, some (vI n1)), (10, some (vI i1)), (11, some (vI (mini (wi ((len b) - n1)) (i32 s2.Len))))] [some (Qd b_m 84 [vm1, vm2]), some (Qj u8S false vm2 vsm1 rows1 none)] [Fact.sl Qf vm1 m.L, Fact.sl SegS vl1 l, Fact.sl u8S vb1 b] [0, 1, 2, 9, 10, 11] [0, 1] [0, 1, 2] rfl ?_
      refine Qe (Zw (by kernel_rfl) ?_)
      refine TA_tb [0, 0, 0, 6, 14, 30, 0, 0, 0, 0, 768, 1984, 4095] (by kernel_rfl) fun htb => ?_
      obtain ⟨s3, hx4, h⟩ := ob_e h
      obtain ⟨hc1, h⟩ := Zi h
      refine Zs (lo := 0) (hi := 12) htb rfl rfl (by kernel_rfl) (fun c L a w => ∃ (p5 : Value), ∃ (p6 : Value), ∃ (v1 : Value), Sat c ⟨[(0, some (.pointer (some ⟨b_m, 0, none⟩))), (1, some vl1), (2, some vb1), (9, some (vI n1)), (10, some (vI i1)), (11, some (vI (mini (wi ((len b) - n1)) (i32 s2.Len)))), (40, bif L 0 then some (.pointer (some ⟨b_m, 0, none⟩)) else none), (41, bif L 1 then some (vl1) else none), (42, bif L 2 then some (vI i1) else none), (43, bif L 3 then some (p5) else none), (44, bif L 4 then some (p6) else none), (45, bif L 5 then some (vU64 s3.At) else none), (46, bif L 6 then some (vb1) else none), (47, bif L 7 then some (vI n1) else none), (48, bif L 8 then some (vI n1) else none), (49, bif L 9 then some (vI (mini (wi ((len b) - n1)) (i32 s2.Len))) else none), (50, bif L 10 then some (vI (wi (n1 + (mini (wi ((len b) - n1)) (i32 s2.Len))))) else none), (51, bif L 11 then some (v1) else none)], [(some (Qd b_m 84 [vm1, vm2]) : Option Res), (some (Qj u8S false vm2 vsm1 rows1 none) : Option Res)], [Fact.sl Qf vm1 m.L, Fact.sl SegS vl1 l, Fact.sl u8S vb1 b, (bif L 3 then Fact.pt SegS p5 s3 else Fact.tt), (bif L 4 then Fact.pt u64S p6 s3.At else Fact.tt), (bif L 11 then Fact.sl u8S v1 (sub b n1 (wi (n1 + (mini (wi ((len b) - n1)) (i32 s2.Len))))) else Fact.tt)]⟩ a w) [([], []), ([], [3, 4, 5]), ([], [3, 4, 5]), ([1, 2], [4, 5]), ([1, 2, 3], [5]), ([1, 2, 3, 4], []), ([], [11]), ([], [11]), ([], [10, 11]), ([], [10, 11]), ([8, 9], [11]), ([6, 7, 8, 9, 10], [])] rfl (by kernel_rfl) ?_ (Qc ?_ (Qc ?_ (Qc ?_ (Qc ?_ (Qc ?_ (Qc ?_ (Qc ?_ (Qc ?_ (Qc ?_ (Qc ?_ (Qc ?_ (Qc ?_ (QH))))))))))))) ?_
      ·intro a w hs
       exact ⟨undef, undef, undef, hs.startF [40, 41, 42, 43, 44, 45, 46, 47, 48, 49, 50, 51] [0, 1] [0, 1, 2, 3, 4, 5] rfl rfl rfl rfl⟩
      ·intro L a w hv K Q hK
       obtain ⟨p5, p6, v1, hs⟩ := hv
       exact wGo rfl rfl hs (Qk rfl rfl rfl rfl) fun a w hs => hK a w ⟨p5, p6, v1, pF hs 6 [0, 1] [0, 1, 2, 3, 4, 5] rfl⟩
      ·intro L a w hv K Q hK
       obtain ⟨p5, p6, v1, hs⟩ := hv
       exact wGo rfl rfl hs (Qk rfl rfl rfl rfl) fun a w hs => hK a w ⟨p5, p6, v1, pF hs 7 [0, 1] [0, 1, 2, 3, 4, 5] rfl⟩
      ·intro L a w hv K Q hK
       obtain ⟨p5, p6, v1, hs⟩ := hv
       exact wGo rfl rfl hs (Qk rfl rfl rfl rfl) fun a w hs => hK a w ⟨p5, p6, v1, pF hs 8 [0, 1] [0, 1, 2, 3, 4, 5] rfl⟩
      ·intro L a w hv K Q hK
       obtain ⟨p5, p6, v1, hs⟩ := hv
       refine QG rfl rfl hs (QA rfl rfl rfl rfl rfl XS (i := 1) rfl hx4) ?_
       rintro _ ⟨p5', rfl⟩ a' w' hs'
       exact hK a' w' ⟨p5', p6, v1, hs'.putF (i := 9) rfl [0, 1] [0, 1, 2, 6, 4, 5] rfl rfl rfl rfl⟩
      ·intro L a w hv K Q hK
       obtain ⟨p5, p6, v1, hs⟩ := hv
       refine QG rfl rfl hs (QJ (S' := u64S) (y := s3.At) rfl rfl rfl rfl fldF29x0 (i := 3) rfl (by intro h cs hr; subst hr; rfl)) ?_
       rintro _ ⟨p6', rfl⟩ a' w' hs'
       exact hK a' w' ⟨p5, p6', v1, hs'.putF (i := 10) rfl [0, 1] [0, 1, 2, 3, 6, 5] rfl rfl rfl rfl⟩
      ·intro L a w hv K Q hK
       obtain ⟨p5, p6, v1, hs⟩ := hv
       exact wGo rfl rfl hs (QC rfl rfl rfl rfl Xc (i := 4) rfl rfl) fun a w hs => hK a w ⟨p5, p6, v1, pF hs 11 [0, 1] [0, 1, 2, 3, 4, 5] rfl⟩
      ·intro L a w hv K Q hK
       obtain ⟨p5, p6, v1, hs⟩ := hv
       exact wGo rfl rfl hs (Qk rfl rfl rfl rfl) fun a w hs => hK a w ⟨p5, p6, v1, pF hs 12 [0, 1] [0, 1, 2, 3, 4, 5] rfl⟩
      ·intro L a w hv K Q hK
       obtain ⟨p5, p6, v1, hs⟩ := hv
       exact wGo rfl rfl hs (Qk rfl rfl rfl rfl) fun a w hs => hK a w ⟨p5, p6, v1, pF hs 13 [0, 1] [0, 1, 2, 3, 4, 5] rfl⟩
      ·intro L a w hv K Q hK
       obtain ⟨p5, p6, v1, hs⟩ := hv
       exact wGo rfl rfl hs (Qk rfl rfl rfl rfl) fun a w hs => hK a w ⟨p5, p6, v1, pF hs 14 [0, 1] [0, 1, 2, 3, 4, 5] rfl⟩
      ·intro L a w hv K Q hK
       obtain ⟨p5, p6, v1, hs⟩ := hv
       exact wGo rfl rfl hs (Qk rfl rfl rfl rfl) fun a w hs => hK a w ⟨p5, p6, v1, pF hs 15 [0, 1] [0, 1, 2, 3, 4, 5] rfl⟩
      ·intro L a w hv K Q hK
       obtain ⟨p5, p6, v1, hs⟩ := hv
       exact wGo rfl rfl hs (Qg rfl rfl rfl rfl rfl (Qx (a := n1) (b := mini (wi ((len b) - n1)) (i32 s2.Len)))) fun a w hs => hK a w ⟨p5, p6, v1, pF hs 16 [0, 1] [0, 1, 2, 3, 4, 5] rfl⟩
      ·intro L a w hv K Q hK
       obtain ⟨p5, p6, v1, hs⟩ := hv
       refine QG rfl rfl hs (OpT_sliceLH (l := n1) (m := wi (n1 + (mini (wi ((len b) - n1)) (i32 s2.Len)))) rfl rfl rfl rfl rfl rfl Xg (i := 2) rfl hc1) ?_
       rintro _ ⟨v1', rfl⟩ a' w' hs'
       exact hK a' w' ⟨p5, p6, v1', hs'.putF (i := 17) rfl [0, 1] [0, 1, 2, 3, 4, 6] rfl rfl rfl rfl⟩
      ·intro L a w hL hv
       rw [QZ hL] at hv
       obtain ⟨p5, p6, v1, hs⟩ := hv
       refine (show TA _ _ _ 12 ⟨[(0, some (.pointer (some ⟨b_m, 0, none⟩))), (1, some vl1), (2, some vb1), (9, some (vI n1)), (10, some (vI i1)), (11, some (vI (mini (wi ((len b) - n1)) (i32 s2.Len)))), (40, some (.pointer (some ⟨b_m, 0, none⟩))), (45, some (vU64 s3.At)), (51, some v1)], [some (Qd b_m 84 [vm1, vm2]), some (Qj u8S false vm2 vsm1 rows1 none)], [Fact.sl Qf vm1 m.L, Fact.sl SegS vl1 l, Fact.sl u8S vb1 b, Fact.sl u8S v1 (sub b n1 (wi (n1 + (mini (wi ((len b) - n1)) (i32 s2.Len)))))]⟩ from ?_) a w (hs.wkS [0, 1, 2, 9, 10, 11, 40, 45, 51] [0, 1] [0, 1, 2, 5] rfl rfl rfl rfl)
       clear hs hL
       obtain ⟨write1, hx5, h⟩ := ob_e h
       refine TA_exP htb (by kernel_rfl) rfl rfl (QW [2, 3] (w_ref_Mem_Write02 hx5) [0, 1] [0, 3] rfl rfl rfl rfl rfl callee16 rfl rfl rfl rfl rfl) ?_
       rintro _ ⟨_, _, _, ⟨rfl, rfl, rfl⟩, rfl⟩
       refine ZW rfl ?_
       refine tW [(0, some (.pointer (some ⟨b_m, 0, none⟩))), (1, some vl1), (2, some vb1), (9, some (vI n1)), (10, some (vI i1)), (11, some (vI (mini (wi ((len b) - n1)) (i32 s2.Len))))] [some (Qd b_m 84 [vm1, vm2]), some (Qj u8S false vm2 vsm1 write1.2 none)] [Fact.sl Qf vm1 m.L, Fact.sl SegS vl1 l, Fact.sl u8S vb1 b] [0, 1, 2, 9, 10, 11] [0, 1] [0, 1, 2] rfl ?_
       refine Qb (sMv rfl rfl rfl ?_)
       refine sMv rfl rfl rfl ?_
       refine Qa rfl (Qg rfl rfl rfl rfl rfl (Qx (a := n1) (b := mini (wi ((len b) - n1)) (i32 s2.Len)))) ?_
       refine sAs rfl rfl rfl ?_
       refine nW [(0, some (.pointer (some ⟨b_m, 0, none⟩))), (1, some vl1), (2, some vb1), (9, some (vI (wi (n1 + (mini (wi ((len b) - n1)) (i32 s2.Len)))))), (10, some (vI i1))] [some (Qd b_m 84 [vm1, vm2]), some (Qj u8S false vm2 vsm1 write1.2 none)] [Fact.sl Qf vm1 m.L, Fact.sl SegS vl1 l, Fact.sl u8S vb1 b] [0, 1, 2, 9, 10] [0, 1] [0, 1, 2] rfl ?_
       exact ZP (HJ2 (write1.2, wi (n1 + (mini (wi ((len b) - n1)) (i32 s2.Len)))) h) [0, 1, 2, 9, 10] [0, 1] [0, 1, 2] rfl rfl rfl rfl
     ·replace h := br_f hg3 h
      refine Qm (cgb hg3) ?_
      refine Qr ?_
      exact ZP (HJ2 (rows1, n1) h) [0, 1, 2, 9, 10] [0, 1] [0, 1, 2] rfl rfl rfl rfl
  ·replace h := br_f hg2 h
   refine Qm (cgb hg2) ?_
   refine Zf _ rfl ?_
   refine Qe (Qb (sMv rfl rfl rfl ?_))
   refine sAs rfl rfl rfl ?_
   refine sAs rfl rfl rfl ?_
   refine nW [(6, some (vI n1)), (7, some (vI (0 : Int)))] [some (Qd b_m 84 [vm1, vm2]), some (Qj u8S false vm2 vsm1 rows1 none)] [Fact.sl Qf vm1 m.L] [6, 7] [0, 1] [0] rfl ?_
   obtain rfl := Option.some.inj h
   exact Qn rfl rfl (resA (vs := [vI n1, vI (0 : Int)]) rfl ⟨rfl, rfl, trivial⟩) [0, 1] [] rfl rfl rfl ⟨rfl, rfl, rfl⟩

set_option maxRecDepth 100000 in
set_option maxHeartbeats 4000000 in
theorem w_ref_Check23 {f : Frame} {vf1 : Value} {r : Int} (h : ref_Check23 f = some r) :
  Ctr Try.prog 10 #[.agg #[vU8 f.Dst.a0, vU8 f.Dst.a1, vU8 f.Dst.a2, vU8 f.Dst.a3, vU8 f.Dst.a4, vU8 f.Dst.a5, vU8 f.Src.a0, vU8 f.Src.a1, vU8 f.Src.a2, vU8 f.Src.a3, vU8 f.Src.a4, vU8 f.Src.a5, vI f.Vlan, vU16 f.Type_, vf1]] [] [Fact.sl u8S vf1 f.Data]
   (fun rv own shr => rv = vI r ∧ own = [] ∧ shr = []) := by
 unfold ref_Check23 at h
 refine Ctr.mk (args := [.agg #[vU8 f.Dst.a0, vU8 f.Dst.a1, vU8 f.Dst.a2, vU8 f.Dst.a3, vU8 f.Dst.a4, vU8 f.Dst.a5, vU8 f.Src.a0, vU8 f.Src.a1, vU8 f.Src.a2, vU8 f.Src.a3, vU8 f.Src.a4, vU8 f.Src.a5, vI f.Vlan, vU16 f.Type_, vf1]]) Try.func10 rfl rfl (fun R0 w0 B => ?_)
 refine Qe (Qb (Qq rfl (YG rfl rfl rfl rfl) fun b1 => ?_))
 refine sAs rfl rfl rfl ?_
 refine nW [(1, some (.pointer (some ⟨b1, 0, none⟩)))] [some (Qd b1 37 [vU8 f.Dst.a0, vU8 f.Dst.a1, vU8 f.Dst.a2, vU8 f.Dst.a3, vU8 f.Dst.a4, vU8 f.Dst.a5, vU8 f.Src.a0, vU8 f.Src.a1, vU8 f.Src.a2, vU8 f.Src.a3, vU8 f.Src.a4, vU8 f.Src.a5, vI f.Vlan, vU16 f.Type_, vf1])] [Fact.sl u8S vf1 f.Data] [1] [0] [0] rfl ?_
 refine Qe (Qe (Qb (Qa rfl (Qo rfl rfl rfl rfl YE) ?_)))
 refine Qa rfl (Qp rfl rfl rfl rfl tyF3 (i := 0) rfl rfl) ?_
 refine Qa rfl (Qg rfl rfl rfl rfl rfl (QK (a := f.Vlan) (b := ((-1) : Int)))) ?_
 refine sMv rfl rfl rfl ?_
 rcases bC (decide (f.Vlan < ((-1) : Int))) with hg1 | hg1
 ·replace h := br_t hg1 h
  refine Qh rfl rfl (cgb hg1) rfl rfl ?_
  refine Qh rfl rfl (cgb hg1) rfl rfl ?_
  refine Qh rfl rfl (cgb hg1) rfl rfl ?_
  refine Qa rfl (Qw rfl rfl rfl (cgb hg1) rfl) ?_
  refine sMv rfl rfl rfl ?_
  refine Qh rfl rfl rfl rfl rfl ?_
  refine Qh rfl rfl rfl rfl rfl ?_
  refine Qh rfl rfl rfl rfl rfl ?_
  refine Qa rfl (Qw rfl rfl rfl rfl rfl) ?_
  refine sMv rfl rfl rfl ?_
  refine Qh rfl rfl rfl rfl rfl ?_
  refine Qh rfl rfl rfl rfl rfl ?_
  refine Qh rfl rfl rfl rfl rfl ?_
  refine Qh rfl rfl rfl rfl rfl ?_
  refine Qa rfl (Qw rfl rfl rfl rfl rfl) ?_
  refine nW [(21, some (vB true))] [] [] [21] [] [] rfl ?_
  refine Ql rfl ?_
  refine Qe (Qb (sAs rfl rfl rfl ?_))
  refine nW [(2, some (vI (2 : Int)))] [] [] [2] [] [] rfl ?_
  obtain rfl := Option.some.inj h
  exact Qn rfl rfl (resA (vs := [vI (2 : Int)]) rfl ⟨rfl, trivial⟩) [] [] rfl rfl rfl ⟨rfl, rfl, rfl⟩
 ·replace h := br_f hg1 h
  refine Qi rfl rfl (cgb hg1) (Qo rfl rfl rfl rfl YE) ?_
  rintro _ rfl
  refine Qi rfl rfl (cgb hg1) (Qp rfl rfl rfl rfl tyF3 (i := 0) rfl rfl) ?_
  rintro _ rfl
  refine Qi rfl rfl (cgb hg1) (Qg rfl rfl rfl rfl rfl (ZD (a := f.Vlan) (b := (4095 : Int)))) ?_
  rintro _ rfl
  refine Qa rfl (Qu rfl rfl rfl (cgb hg1) rfl) ?_
  refine sMv rfl rfl rfl ?_
  rcases bC (decide (f.Vlan > (4095 : Int))) with hg2 | hg2
  ·replace h := br_t hg2 h
   refine Qh rfl rfl (cgb hg2) rfl rfl ?_
   refine Qh rfl rfl (cgb hg2) rfl rfl ?_
   refine Qh rfl rfl (cgb hg2) rfl rfl ?_
   refine Qa rfl (Qw rfl rfl rfl (cgb hg2) rfl) ?_
   refine sMv rfl rfl rfl ?_
   refine Qh rfl rfl rfl rfl rfl ?_
   refine Qh rfl rfl rfl rfl rfl ?_
   refine Qh rfl rfl rfl rfl rfl ?_
   refine Qh rfl rfl rfl rfl rfl ?_
   refine Qa rfl (Qw rfl rfl rfl rfl rfl) ?_
   refine nW [(21, some (vB true))] [] [] [21] [] [] rfl ?_
   refine Ql rfl ?_
   refine Qe (Qb (sAs rfl rfl rfl ?_))
   refine nW [(2, some (vI (2 : Int)))] [] [] [2] [] [] rfl ?_
   obtain rfl := Option.some.inj h
   exact Qn rfl rfl (resA (vs := [vI (2 : Int)]) rfl ⟨rfl, trivial⟩) [] [] rfl rfl rfl ⟨rfl, rfl, rfl⟩
  ·replace h := br_f hg2 h
   refine Qi rfl rfl (cgb hg2) (Qo rfl rfl rfl rfl fldF37x3) ?_
   rintro _ rfl
   refine Qi rfl rfl (cgb hg2) (Qp rfl rfl rfl rfl tyF34 (i := 0) rfl rfl) ?_
   rintro _ rfl
   refine Qi rfl rfl (cgb hg2) (Qg rfl rfl rfl rfl rfl (bin_eql_u16 (a := f.Type_) (b := (33024 : UInt16)))) ?_
   rintro _ rfl
   refine Qa rfl (Qu rfl rfl rfl (cgb hg2) rfl) ?_
   refine sMv rfl rfl rfl ?_
   rcases bC (f.Type_ == (33024 : UInt16)) with hg3 | hg3
   ·replace h := br_t hg3 h
    refine Qh rfl rfl (cgb hg3) rfl rfl ?_
    refine Qh rfl rfl (cgb hg3) rfl rfl ?_
    refine Qh rfl rfl (cgb hg3) rfl rfl ?_
    refine Qh rfl rfl (cgb hg3) rfl rfl ?_
    refine Qa rfl (Qw rfl rfl rfl (cgb hg3) rfl) ?_
    refine nW [(21, some (vB true))] [] [] [21] [] [] rfl ?_
    refine Ql rfl ?_
    refine Qe (Qb (sAs rfl rfl rfl ?_))
    refine nW [(2, some (vI (2 : Int)))] [] [] [2] [] [] rfl ?_
    obtain rfl := Option.some.inj h
    exact Qn rfl rfl (resA (vs := [vI (2 : Int)]) rfl ⟨rfl, trivial⟩) [] [] rfl rfl rfl ⟨rfl, rfl, rfl⟩
   ·replace h := br_f hg3 h
    refine Qi rfl rfl (cgb hg3) (Qo rfl rfl rfl rfl fldF37x4) ?_
    rintro _ rfl
    refine Qi rfl rfl (cgb hg3) (Qp rfl rfl rfl rfl tyF35 (i := 0) rfl rfl) ?_
    rintro _ rfl
    refine Qi rfl rfl (cgb hg3) (QB rfl rfl rfl rfl Try.underlying35 (i := 0) rfl) ?_
    rintro _ rfl
    refine Qi rfl rfl (cgb hg3) (Qg rfl rfl rfl rfl rfl (ZD (a := len f.Data) (b := (1500 : Int)))) ?_
    rintro _ rfl
    refine Qa rfl (Qu rfl rfl rfl (cgb hg3) rfl) ?_
    refine nW [(21, some (vB (decide ((len f.Data) > (1500 : Int)))))] [] [] [21] [] [] rfl ?_
    rcases bC (decide ((len f.Data) > (1500 : Int))) with hg4 | hg4
    ·replace h := br_t hg4 h
     refine Ql (cgb hg4) ?_
     refine Qe (Qb (sAs rfl rfl rfl ?_))
     refine nW [(2, some (vI (2 : Int)))] [] [] [2] [] [] rfl ?_
     obtain rfl := Option.some.inj h
     exact Qn rfl rfl (resA (vs := [vI (2 : Int)]) rfl ⟨rfl, trivial⟩) [] [] rfl rfl rfl ⟨rfl, rfl, rfl⟩
    ·replace h := br_f hg4 h
     refine Qm (cgb hg4) ?_
     refine Qr (Qe (Qb (sAs rfl rfl rfl ?_)))
     refine nW [(2, some (vI (0 : Int)))] [] [] [2] [] [] rfl ?_
     obtain rfl := Option.some.inj h
     exact Qn rfl rfl (resA (vs := [vI (0 : Int)]) rfl ⟨rfl, trivial⟩) [] [] rfl rfl rfl ⟨rfl, rfl, rfl⟩

set_option maxRecDepth 100000 in
set_option maxHeartbeats 4000000 in
theorem w_ref_Bytes23 {f : Frame} {vf1 : Value} {r : ((List UInt8) × Int)} (h : ref_Bytes23 f = some r) :
  Ctr Try.prog 46 #[.agg #[vU8 f.Dst.a0, vU8 f.Dst.a1, vU8 f.Dst.a2, vU8 f.Dst.a3, vU8 f.Dst.a4, vU8 f.Dst.a5, vU8 f.Src.a0, vU8 f.Src.a1, vU8 f.Src.a2, vU8 f.Src.a3, vU8 f.Src.a4, vU8 f.Src.a5, vI f.Vlan, vU16 f.Type_, vf1]] [] [Fact.sl u8S vf1 f.Data]
   (fun rv own shr => ∃ (w1 : Value), rv = .tuple #[w1, vI r.2] ∧ own = [(rowS u8S w1 r.1)] ∧ shr = []) := by
 unfold ref_Bytes23 at h
 refine Ctr.mk (args := [.agg #[vU8 f.Dst.a0, vU8 f.Dst.a1, vU8 f.Dst.a2, vU8 f.Dst.a3, vU8 f.Dst.a4, vU8 f.Dst.a5, vU8 f.Src.a0, vU8 f.Src.a1, vU8 f.Src.a2, vU8 f.Src.a3, vU8 f.Src.a4, vU8 f.Src.a5, vI f.Vlan, vU16 f.Type_, vf1]]) Try.func46 rfl rfl (fun R0 w0 B => ?_)
 refine Qe (Qb (Qq rfl (YG rfl rfl rfl rfl) fun b1 => ?_))
 refine sAs rfl rfl rfl ?_
 refine sAs rfl rfl rfl ?_
 refine nW [(1, some (.pointer (some ⟨b1, 0, none⟩)))] [some (Qd b1 37 [vU8 f.Dst.a0, vU8 f.Dst.a1, vU8 f.Dst.a2, vU8 f.Dst.a3, vU8 f.Dst.a4, vU8 f.Dst.a5, vU8 f.Src.a0, vU8 f.Src.a1, vU8 f.Src.a2, vU8 f.Src.a3, vU8 f.Src.a4, vU8 f.Src.a5, vI f.Vlan, vU16 f.Type_, vf1])] [Fact.sl u8S vf1 f.Data] [1] [0] [0] rfl ?_
 refine Qe (Qb (Qa rfl (Zx (vs := [vU8 f.Dst.a0, vU8 f.Dst.a1, vU8 f.Dst.a2, vU8 f.Dst.a3, vU8 f.Dst.a4, vU8 f.Dst.a5, vU8 f.Src.a0, vU8 f.Src.a1, vU8 f.Src.a2, vU8 f.Src.a3, vU8 f.Src.a4, vU8 f.Src.a5, vI f.Vlan, vU16 f.Type_, vf1]) rfl rfl rfl rfl Xo (i := 0) rfl rfl rfl) ?_))
 obtain ⟨check1, hx1, h⟩ := ob_e h
 refine Qt rfl (QO (w_ref_Check23 hx1) [] [0] rfl rfl rfl rfl rfl callee10 rfl rfl rfl rfl) ?_
 rintro _ ⟨_, _, _, ⟨rfl, rfl, rfl⟩, rfl⟩
 refine sAs rfl rfl rfl ?_
 refine nW [(1, some (.pointer (some ⟨b1, 0, none⟩))), (4, some (vI check1))] [some (Qd b1 37 [vU8 f.Dst.a0, vU8 f.Dst.a1, vU8 f.Dst.a2, vU8 f.Dst.a3, vU8 f.Dst.a4, vU8 f.Dst.a5, vU8 f.Src.a0, vU8 f.Src.a1, vU8 f.Src.a2, vU8 f.Src.a3, vU8 f.Src.a4, vU8 f.Src.a5, vI f.Vlan, vU16 f.Type_, vf1])] [Fact.sl u8S vf1 f.Data] [1, 4] [0] [0] rfl ?_
 refine Qe (Qe (Qb (sMv rfl rfl rfl ?_)))
 refine Qa rfl (Qg rfl rfl rfl rfl rfl (QU (a := check1) (b := (0 : Int)))) ?_
 refine nW [(1, some (.pointer (some ⟨b1, 0, none⟩))), (4, some (vI check1)), (11, some (vB (check1 != (0 : Int))))] [some (Qd b1 37 [vU8 f.Dst.a0, vU8 f.Dst.a1, vU8 f.Dst.a2, vU8 f.Dst.a3, vU8 f.Dst.a4, vU8 f.Dst.a5, vU8 f.Src.a0, vU8 f.Src.a1, vU8 f.Src.a2, vU8 f.Src.a3, vU8 f.Src.a4, vU8 f.Src.a5, vI f.Vlan, vU16 f.Type_, vf1])] [Fact.sl u8S vf1 f.Data] [1, 4, 11] [0] [0] rfl ?_
 rcases bC (check1 != (0 : Int)) with hg1 | hg1
 ·replace h := br_t hg1 h
  refine Ql (cgb hg1) ?_
  refine Qe (Qb (sMv rfl rfl rfl ?_))
  refine sAs rfl rfl rfl ?_
  refine sAs rfl rfl rfl ?_
  refine nW [(2, some (.slice none 0 0)), (3, some (vI check1))] [] [] [2, 3] [] [] rfl ?_
  refine QI u8S ?_
  obtain rfl := Option.some.inj h
  exact Qn rfl rfl (resA (vs := [.slice none 0 0, vI check1]) rfl ⟨rfl, rfl, trivial⟩) [0] [] rfl rfl rfl ⟨(.slice none 0 0), rfl, rfl, rfl⟩
 ·replace h := br_f hg1 h
  refine Qm (cgb hg1) ?_
  refine Qr (Qe (Qb (sAs rfl rfl rfl ?_)))
  refine nW [(1, some (.pointer (some ⟨b1, 0, none⟩))), (5, some (.slice none 0 0))] [some (Qd b1 37 [vU8 f.Dst.a0, vU8 f.Dst.a1, vU8 f.Dst.a2, vU8 f.Dst.a3, vU8 f.Dst.a4, vU8 f.Dst.a5, vU8 f.Src.a0, vU8 f.Src.a1, vU8 f.Src.a2, vU8 f.Src.a3, vU8 f.Src.a4, vU8 f.Src.a5, vI f.Vlan, vU16 f.Type_, vf1])] [Fact.sl u8S vf1 f.Data] [1, 5] [0] [0] rfl ?_
  refine Qe (Qe (Qb (sAs rfl rfl rfl ?_)))
  refine QT (Qz (QI u8S ?_))
  refine Zc (σ := (A6 UInt8) × (A6 UInt8) × Int × UInt16 × (List UInt8) × (List UInt8) × Int × Value × Value) [1, 5, 6] [0, 1] [0] (fun s => ⟨[(1, some (.pointer (some ⟨b1, 0, none⟩))), (5, some (s.2.2.2.2.2.2.2.2)), (6, some (vI s.2.2.2.2.2.2.1))], [some (Qd b1 37 [vU8 s.1.a0, vU8 s.1.a1, vU8 s.1.a2, vU8 s.1.a3, vU8 s.1.a4, vU8 s.1.a5, vU8 s.2.1.a0, vU8 s.2.1.a1, vU8 s.2.1.a2, vU8 s.2.1.a3, vU8 s.2.1.a4, vU8 s.2.1.a5, vI s.2.2.1, vU16 s.2.2.2.1, s.2.2.2.2.2.2.2.1]), some (rowS u8S s.2.2.2.2.2.2.2.2 s.2.2.2.2.2.1)], [Fact.sl u8S s.2.2.2.2.2.2.2.1 s.2.2.2.2.1]⟩) (fun nf1 s => Kk nf1 s.1 s.2.1 s.2.2.1 s.2.2.2.1 s.2.2.2.2.1 s.2.2.2.2.2.1 s.2.2.2.2.2.2.1 = some r) fuel (f.Dst, f.Src, f.Vlan, f.Type_, f.Data, [], (0 : Int), vf1, (.slice none 0 0)) h rfl rfl rfl rfl rfl (fun s h => by cases h) ?_
  rintro nf1 ⟨Dst1, Src1, Vlan1, Type1, Data1, b2, i1, v1, v2⟩ h
  replace h : ref_Bytes23L1B (Kk nf1) Dst1 Src1 Vlan1 Type1 Data1 b2 i1 = some r := h
  unfold ref_Bytes23L1B at h
  refine Qe (Qe (Qb (sMv rfl rfl rfl ?_)))
  refine Qa rfl (Qg rfl rfl rfl rfl rfl (QK (a := i1) (b := (6 : Int)))) ?_
  refine nW [(1, some (.pointer (some ⟨b1, 0, none⟩))), (5, some v2), (6, some (vI i1)), (14, some (vB (decide (i1 < (6 : Int)))))] [some (Qd b1 37 [vU8 Dst1.a0, vU8 Dst1.a1, vU8 Dst1.a2, vU8 Dst1.a3, vU8 Dst1.a4, vU8 Dst1.a5, vU8 Src1.a0, vU8 Src1.a1, vU8 Src1.a2, vU8 Src1.a3, vU8 Src1.a4, vU8 Src1.a5, vI Vlan1, vU16 Type1, v1]), some (rowS u8S v2 b2)] [Fact.sl u8S v1 Data1] [1, 5, 6, 14] [0, 1] [0] rfl ?_
  rcases bC (decide (i1 < (6 : Int))) with hg2 | hg2
  ·replace h := br_t hg2 h
   refine Ql (cgb hg2) ?_
   refine Qr (Qe (Qz (Qb (sMv rfl rfl rfl ?_))))
   refine sMv rfl rfl rfl ?_
   refine Qa rfl (Qo rfl rfl rfl rfl fldF37x0) ?_
   obtain ⟨hc1, h⟩ := Zi h
   refine Qa rfl (OpT_indexC rfl rfl rfl rfl rfl arrF33 hc1) ?_
   obtain ⟨u1, hx2, h⟩ := ob_e h
   refine Qa rfl (OpT_loadX1 vU8 [Dst1.a0, Dst1.a1, Dst1.a2, Dst1.a3, Dst1.a4, Dst1.a5] [] [vU8 Src1.a0, vU8 Src1.a1, vU8 Src1.a2, vU8 Src1.a3, vU8 Src1.a4, vU8 Src1.a5, vI Vlan1, vU16 Type1, v1] rfl rfl rfl rfl tyF5 (i := 0) rfl rfl rfl hx2) ?_
   refine Qq rfl (QF (S := u8S) (xs := [u1]) (css := [[vU8 u1]]) (cs := [vU8 u1]) (e := 5) rfl rfl rfl rfl (bldF Xg (by decide) (by kernel_rfl)) rfl rfl rfl rfl (Ze (S := u8S) (xs := [u1]) (css := [[vU8 u1]]) rfl rfl)) fun v3 => ?_
   obtain ⟨hc2, h⟩ := Zi h
   refine Qq rfl (ZH (S := u8S) rfl rfl rfl rfl rfl rfl Xg (i := 1) (j := 2) rfl rfl hc2) fun v4 => ?_
   refine sAs rfl rfl rfl ?_
   refine nW [(1, some (.pointer (some ⟨b1, 0, none⟩))), (5, some v4), (6, some (vI i1))] [some (Qd b1 37 [vU8 Dst1.a0, vU8 Dst1.a1, vU8 Dst1.a2, vU8 Dst1.a3, vU8 Dst1.a4, vU8 Dst1.a5, vU8 Src1.a0, vU8 Src1.a1, vU8 Src1.a2, vU8 Src1.a3, vU8 Src1.a4, vU8 Src1.a5, vI Vlan1, vU16 Type1, v1]), some (rowS u8S v4 (b2 ++ [u1]))] [Fact.sl u8S v1 Data1] [1, 5, 6] [0, 1] [0] rfl ?_
   refine Zk (Qb (sMv rfl rfl rfl ?_))
   refine Qa rfl (Qg rfl rfl rfl rfl rfl (Qx (a := i1) (b := (1 : Int)))) ?_
   refine sAs rfl rfl rfl ?_
   refine nW [(1, some (.pointer (some ⟨b1, 0, none⟩))), (5, some v4), (6, some (vI (wi (i1 + (1 : Int)))))] [some (Qd b1 37 [vU8 Dst1.a0, vU8 Dst1.a1, vU8 Dst1.a2, vU8 Dst1.a3, vU8 Dst1.a4, vU8 Dst1.a5, vU8 Src1.a0, vU8 Src1.a1, vU8 Src1.a2, vU8 Src1.a3, vU8 Src1.a4, vU8 Src1.a5, vI Vlan1, vU16 Type1, v1]), some (rowS u8S v4 (b2 ++ [u1]))] [Fact.sl u8S v1 Data1] [1, 5, 6] [0, 1] [0] rfl ?_
   exact QN (Dst1, Src1, Vlan1, Type1, Data1, b2 ++ [u1], wi (i1 + (1 : Int)), v1, v4) h [1, 5, 6] [0, 1] [0] rfl rfl rfl rfl rfl
  ·replace h := br_f hg2 h
   refine Qm (cgb hg2) ?_
   refine Zf _ rfl ?_
   refine Qe (Qe (Qb (sAs rfl rfl rfl ?_)))
   refine nW [(1, some (.pointer (some ⟨b1, 0, none⟩))), (5, some v2), (7, some (vI (0 : Int)))] [some (Qd b1 37 [vU8 Dst1.a0, vU8 Dst1.a1, vU8 Dst1.a2, vU8 Dst1.a3, vU8 Dst1.a4, vU8 Dst1.a5, vU8 Src1.a0, vU8 Src1.a1, vU8 Src1.a2, vU8 Src1.a3, vU8 Src1.a4, vU8 Src1.a5, vI Vlan1, vU16 Type1, v1]), some (rowS u8S v2 b2)] [Fact.sl u8S v1 Data1] [1, 5, 7] [0, 1] [0] rfl ?_
   refine Qz (Zc (σ := (A6 UInt8) × (A6 UInt8) × Int × UInt16 × (List UInt8) × (List UInt8) × Int × Value × Value) [1, 5, 7] [0, 1] [0] (fun s => ⟨[(1, some (.pointer (some ⟨b1, 0, none⟩))), (5, some (s.2.2.2.2.2.2.2.2)), (7, some (vI s.2.2.2.2.2.2.1))], [some (Qd b1 37 [vU8 s.1.a0, vU8 s.1.a1, vU8 s.1.a2, vU8 s.1.a3, vU8 s.1.a4, vU8 s.1.a5, vU8 s.2.1.a0, vU8 s.2.1.a1, vU8 s.2.1.a2, vU8 s.2.1.a3, vU8 s.2.1.a4, vU8 s.2.1.a5, vI s.2.2.1, vU16 s.2.2.2.1, s.2.2.2.2.2.2.2.1]), some (rowS u8S s.2.2.2.2.2.2.2.2 s.2.2.2.2.2.1)], [Fact.sl u8S s.2.2.2.2.2.2.2.1 s.2.2.2.2.1]⟩) (fun nf2 s => ref_Bytes23L2 nf2 s.1 s.2.1 s.2.2.1 s.2.2.2.1 s.2.2.2.2.1 s.2.2.2.2.2.1 s.2.2.2.2.2.2.1 = some r) fuel (Dst1, Src1, Vlan1, Type1, Data1, b2, (0 : Int), v1, v2) h rfl rfl rfl rfl rfl (fun s h => by cases h) ?_)
   rintro nf2 ⟨Dst2, Src2, Vlan2, Type2, Data2, b3, i2, v5, v6⟩ h
   replace h : ref_Bytes23L2B (ref_Bytes23L2 nf2) Dst2 Src2 Vlan2 Type2 Data2 b3 i2 = some r := h
   unfold ref_Bytes23L2B at h
   refine Qe (Qe (Qb (sMv rfl rfl rfl ?_)))
   refine Qa rfl (Qg rfl rfl rfl rfl rfl (QK (a := i2) (b := (6 : Int)))) ?_
   refine nW [(1, some (.pointer (some ⟨b1, 0, none⟩))), (5, some v6), (7, some (vI i2)), (25, some (vB (decide (i2 < (6 : Int)))))] [some (Qd b1 37 [vU8 Dst2.a0, vU8 Dst2.a1, vU8 Dst2.a2, vU8 Dst2.a3, vU8 Dst2.a4, vU8 Dst2.a5, vU8 Src2.a0, vU8 Src2.a1, vU8 Src2.a2, vU8 Src2.a3, vU8 Src2.a4, vU8 Src2.a5, vI Vlan2, vU16 Type2, v5]), some (rowS u8S v6 b3)] [Fact.sl u8S v5 Data2] [1, 5, 7, 25] [0, 1] [0] rfl ?_
   rcases bC (decide (i2 < (6 : Int))) with hg3 | hg3
   ·replace h := br_t hg3 h
    refine Ql (cgb hg3) ?_
    refine Qr (Qe (Qz (Qb (sMv rfl rfl rfl ?_))))
    refine sMv rfl rfl rfl ?_
    refine Qa rfl (Qo rfl rfl rfl rfl fldF37x1) ?_
    obtain ⟨hc3, h⟩ := Zi h
    refine Qa rfl (OpT_indexC rfl rfl rfl rfl rfl arrF33 hc3) ?_
    obtain ⟨u2, hx3, h⟩ := ob_e h
    refine Qa rfl (OpT_loadX1 vU8 [Src2.a0, Src2.a1, Src2.a2, Src2.a3, Src2.a4, Src2.a5] [vU8 Dst2.a0, vU8 Dst2.a1, vU8 Dst2.a2, vU8 Dst2.a3, vU8 Dst2.a4, vU8 Dst2.a5] [vI Vlan2, vU16 Type2, v5] rfl rfl rfl rfl tyF5 (i := 0) rfl rfl rfl hx3) ?_
    refine Qq rfl (QF (S := u8S) (xs := [u2]) (css := [[vU8 u2]]) (cs := [vU8 u2]) (e := 5) rfl rfl rfl rfl (bldF Xg (by decide) (by kernel_rfl)) rfl rfl rfl rfl (Ze (S := u8S) (xs := [u2]) (css := [[vU8 u2]]) rfl rfl)) fun v7 => ?_
    obtain ⟨hc4, h⟩ := Zi h
    refine Qq rfl (ZH (S := u8S) rfl rfl rfl rfl rfl rfl Xg (i := 1) (j := 2) rfl rfl hc4) fun v8 => ?_
    refine sAs rfl rfl rfl ?_
    refine nW [(1, some (.pointer (some ⟨b1, 0, none⟩))), (5, some v8), (7, some (vI i2))] [some (Qd b1 37 [vU8 Dst2.a0, vU8 Dst2.a1, vU8 Dst2.a2, vU8 Dst2.a3, vU8 Dst2.a4, vU8 Dst2.a5, vU8 Src2.a0, vU8 Src2.a1, vU8 Src2.a2, vU8 Src2.a3, vU8 Src2.a4, vU8 Src2.a5, vI Vlan2, vU16 Type2, v5]), some (rowS u8S v8 (b3 ++ [u2]))] [Fact.sl u8S v5 Data2] [1, 5, 7] [0, 1] [0] rfl ?_
    refine Zk (Qb (sMv rfl rfl rfl ?_))
    refine Qa rfl (Qg rfl rfl rfl rfl rfl (Qx (a := i2) (b := (1 : Int)))) ?_
    refine sAs rfl rfl rfl ?_
    refine nW [(1, some (.pointer (some ⟨b1, 0, none⟩))), (5, some v8), (7, some (vI (wi (i2 + (1 : Int)))))] [some (Qd b1 37 [vU8 Dst2.a0, vU8 Dst2.a1, vU8 Dst2.a2, vU8 Dst2.a3, vU8 Dst2.a4, vU8 Dst2.a5, vU8 Src2.a0, vU8 Src2.a1, vU8 Src2.a2, vU8 Src2.a3, vU8 Src2.a4, vU8 Src2.a5, vI Vlan2, vU16 Type2, v5]), some (rowS u8S v8 (b3 ++ [u2]))] [Fact.sl u8S v5 Data2] [1, 5, 7] [0, 1] [0] rfl ?_
    exact QN (Dst2, Src2, Vlan2, Type2, Data2, b3 ++ [u2], wi (i2 + (1 : Int)), v5, v8) h [1, 5, 7] [0, 1] [0] rfl rfl rfl rfl rfl
   ·replace h := br_f hg3 h
    refine Qm (cgb hg3) ?_
    refine Zf _ rfl ?_
    refine Qe (Qe (Qb (Qa rfl (Qo rfl rfl rfl rfl YE) ?_)))
    refine Qa rfl (Qp rfl rfl rfl rfl tyF3 (i := 0) rfl rfl) ?_
    refine Qa rfl (Qg rfl rfl rfl rfl rfl (bin_geq_i (a := Vlan2) (b := (0 : Int)))) ?_
    refine nW [(1, some (.pointer (some ⟨b1, 0, none⟩))), (5, some v6), (37, some (vB (decide (Vlan2 ≥ (0 : Int)))))] [some (Qd b1 37 [vU8 Dst2.a0, vU8 Dst2.a1, vU8 Dst2.a2, vU8 Dst2.a3, vU8 Dst2.a4, vU8 Dst2.a5, vU8 Src2.a0, vU8 Src2.a1, vU8 Src2.a2, vU8 Src2.a3, vU8 Src2.a4, vU8 Src2.a5, vI Vlan2, vU16 Type2, v5]), some (rowS u8S v6 b3)] [Fact.sl u8S v5 Data2] [1, 5, 37] [0, 1] [0] rfl ?_
    refine Yu (α := (A6 UInt8) × (A6 UInt8) × Int × UInt16 × (List UInt8) × (List UInt8) × Value × Value) (fun s => ⟨[(1, some (.pointer (some ⟨b1, 0, none⟩))), (5, some (s.2.2.2.2.2.2.2))], [some (Qd b1 37 [vU8 s.1.a0, vU8 s.1.a1, vU8 s.1.a2, vU8 s.1.a3, vU8 s.1.a4, vU8 s.1.a5, vU8 s.2.1.a0, vU8 s.2.1.a1, vU8 s.2.1.a2, vU8 s.2.1.a3, vU8 s.2.1.a4, vU8 s.2.1.a5, vI s.2.2.1, vU16 s.2.2.2.1, s.2.2.2.2.2.2.1]), some (rowS u8S s.2.2.2.2.2.2.2 s.2.2.2.2.2.1)], [Fact.sl u8S s.2.2.2.2.2.2.1 s.2.2.2.2.1]⟩) (fun s => Xi s.1 s.2.1 s.2.2.1 s.2.2.2.1 s.2.2.2.2.1 s.2.2.2.2.2.1 = some r) ?_ ?_
    ·rintro ⟨Dst3, Src3, Vlan3, Type3, Data3, b4, v9, v10⟩ h
     replace h : Xi Dst3 Src3 Vlan3 Type3 Data3 b4 = some r := h
     unfold Xi at h
     refine Qe (Zw (by kernel_rfl) ?_)
     refine TA_tb [0, 0, 2, 6, 14, 0, 32, 96, 254, 511, 0, 1024, 4095, 8191, 16383] (by kernel_rfl) fun htb => ?_
     obtain ⟨hc5, h⟩ := Zi h
     refine Zs (lo := 0) (hi := 12) htb rfl rfl (by kernel_rfl) (fun c L a w => ∃ (v11 : Value), ∃ (v12 : Value), Sat c ⟨[(1, some (.pointer (some ⟨b1, 0, none⟩))), (5, some v10), (48, bif L 0 then some (v10) else none), (49, bif L 1 then some (.pointer (some ⟨b1, 13, none⟩)) else none), (50, bif L 2 then some (vU16 Type3) else none), (51, bif L 3 then some (vU16 (ZG Type3 ((8 : UInt64).toNat))) else none), (52, bif L 4 then some (vU8 ((ZG Type3 ((8 : UInt64).toNat)).toUInt8)) else none), (53, bif L 5 then some (.pointer (some ⟨b1, 13, none⟩)) else none), (54, bif L 6 then some (vU16 Type3) else none), (55, bif L 7 then some (vU8 Type3.toUInt8) else none), (56, bif L 8 then some (v11) else none), (57, bif L 9 then some (v12) else none), (58, bif L 10 then some (.pointer (some ⟨b1, 14, none⟩)) else none), (59, bif L 11 then some (v9) else none)], [(some (Qd b1 37 [vU8 Dst3.a0, vU8 Dst3.a1, vU8 Dst3.a2, vU8 Dst3.a3, vU8 Dst3.a4, vU8 Dst3.a5, vU8 Src3.a0, vU8 Src3.a1, vU8 Src3.a2, vU8 Src3.a3, vU8 Src3.a4, vU8 Src3.a5, vI Vlan3, vU16 Type3, v9]) : Option Res), (bif L 9 then some (rowS u8S v12 (b4 ++ [(ZG Type3 ((8 : UInt64).toNat)).toUInt8, Type3.toUInt8])) else some (rowS u8S v10 b4) : Option Res), (bif L 8 then some (rowS u8S v11 [(ZG Type3 ((8 : UInt64).toNat)).toUInt8, Type3.toUInt8]) else none : Option Res)], [Fact.sl u8S v9 Data3]⟩ a w) [([], [9]), ([], [2, 3, 4, 8, 9]), ([1], [3, 4, 8, 9]), ([1, 2], [4, 8, 9]), ([1, 2, 3], [8, 9]), ([], [6, 7, 8, 9]), ([5], [7, 8, 9]), ([5, 6], [8, 9]), ([1, 2, 3, 4, 5, 6, 7], [9]), ([0, 1, 2, 3, 4, 5, 6, 7, 8], []), ([], [11]), ([10], [])] rfl (by kernel_rfl) ?_ (Qc ?_ (Qc ?_ (Qc ?_ (Qc ?_ (Qc ?_ (Qc ?_ (Qc ?_ (Qc ?_ (Qc ?_ (Qc ?_ (Qc ?_ (Qc ?_ (QH))))))))))))) ?_
     ·intro a w hs
      exact ⟨undef, undef, hs.startF [48, 49, 50, 51, 52, 53, 54, 55, 56, 57, 58, 59] [0, 1, 2] [0] rfl rfl rfl rfl⟩
     ·intro L a w hv K Q hK
      obtain ⟨v11, v12, hs⟩ := hv
      exact wGo rfl rfl hs (Qk rfl rfl rfl rfl) fun a w hs => hK a w ⟨v11, v12, pF hs 2 [0, 1, 2] [0] rfl⟩
     ·intro L a w hv K Q hK
      obtain ⟨v11, v12, hs⟩ := hv
      exact wGo rfl rfl hs (Qo rfl rfl rfl rfl fldF37x3) fun a w hs => hK a w ⟨v11, v12, pF hs 3 [0, 1, 2] [0] rfl⟩
     ·intro L a w hv K Q hK
      obtain ⟨v11, v12, hs⟩ := hv
      exact wGo rfl rfl hs (Qp rfl rfl rfl rfl tyF34 (i := 0) rfl rfl) fun a w hs => hK a w ⟨v11, v12, pF hs 4 [0, 1, 2] [0] rfl⟩
     ·intro L a w hv K Q hK
      obtain ⟨v11, v12, hs⟩ := hv
      exact wGo rfl rfl hs (Qg rfl rfl rfl rfl rfl (XP (a := Type3) (n := (8 : UInt64)))) fun a w hs => hK a w ⟨v11, v12, pF hs 5 [0, 1, 2] [0] rfl⟩
     ·intro L a w hv K Q hK
      obtain ⟨v11, v12, hs⟩ := hv
      exact wGo rfl rfl hs (QM rfl rfl rfl rfl (XC (n := ZG Type3 ((8 : UInt64).toNat)) Try.underlying34 Try.underlying5)) fun a w hs => hK a w ⟨v11, v12, pF hs 6 [0, 1, 2] [0] rfl⟩
     ·intro L a w hv K Q hK
      obtain ⟨v11, v12, hs⟩ := hv
      exact wGo rfl rfl hs (Qo rfl rfl rfl rfl fldF37x3) fun a w hs => hK a w ⟨v11, v12, pF hs 7 [0, 1, 2] [0] rfl⟩
     ·intro L a w hv K Q hK
      obtain ⟨v11, v12, hs⟩ := hv
      exact wGo rfl rfl hs (Qp rfl rfl rfl rfl tyF34 (i := 0) rfl rfl) fun a w hs => hK a w ⟨v11, v12, pF hs 8 [0, 1, 2] [0] rfl⟩
     ·intro L a w hv K Q hK
      obtain ⟨v11, v12, hs⟩ := hv
      exact wGo rfl rfl hs (QM rfl rfl rfl rfl (XC (n := Type3) Try.underlying34 Try.underlying5)) fun a w hs => hK a w ⟨v11, v12, pF hs 9 [0, 1, 2] [0] rfl⟩
     ·intro L a w hv K Q hK
      obtain ⟨v11, v12, hs⟩ := hv
      refine QG rfl rfl hs (QF (S := u8S) (xs := [(ZG Type3 ((8 : UInt64).toNat)).toUInt8, Type3.toUInt8]) (css := [[vU8 ((ZG Type3 ((8 : UInt64).toNat)).toUInt8)], [vU8 Type3.toUInt8]]) (cs := [vU8 ((ZG Type3 ((8 : UInt64).toNat)).toUInt8), vU8 Type3.toUInt8]) (e := 5) rfl rfl rfl rfl (bldF Xg (by decide) (by kernel_rfl)) rfl rfl rfl rfl (Ze (S := u8S) (xs := [(ZG Type3 ((8 : UInt64).toNat)).toUInt8, Type3.toUInt8]) (css := [[vU8 ((ZG Type3 ((8 : UInt64).toNat)).toUInt8)], [vU8 Type3.toUInt8]]) rfl rfl)) ?_
      rintro _ ⟨v11', rfl⟩ a' w' hs'
      exact hK a' w' ⟨v11', v12, hs'.putF (i := 10) rfl [0, 1, 3] [0] rfl rfl rfl rfl⟩
     ·intro L a w hv K Q hK
      obtain ⟨v11, v12, hs⟩ := hv
      refine QG rfl rfl hs (ZH (S := u8S) rfl rfl rfl rfl rfl rfl Xg (i := 1) (j := 2) rfl rfl hc5) ?_
      rintro _ ⟨v12', rfl⟩ a' w' hs'
      exact hK a' w' ⟨v11, v12', hs'.putF (i := 11) rfl [0, 1, 2] [0] rfl rfl rfl rfl⟩
     ·intro L a w hv K Q hK
      obtain ⟨v11, v12, hs⟩ := hv
      exact wGo rfl rfl hs (Qo rfl rfl rfl rfl fldF37x4) fun a w hs => hK a w ⟨v11, v12, pF hs 12 [0, 1, 2] [0] rfl⟩
     ·intro L a w hv K Q hK
      obtain ⟨v11, v12, hs⟩ := hv
      exact wGo rfl rfl hs (Qp rfl rfl rfl rfl tyF35 (i := 0) rfl rfl) fun a w hs => hK a w ⟨v11, v12, pF hs 13 [0, 1, 2] [0] rfl⟩
     ·intro L a w hL hv
      rw [QZ hL] at hv
      obtain ⟨v11, v12, hs⟩ := hv
      refine (show TA _ _ _ 12 ⟨[(57, some v12), (59, some v9)], [some (rowS u8S v12 (b4 ++ [(ZG Type3 ((8 : UInt64).toNat)).toUInt8, Type3.toUInt8]))], [Fact.sl u8S v9 Data3]⟩ from ?_) a w (hs.wkS [57, 59] [1] [0] rfl rfl rfl rfl)
      clear hs hL
      obtain ⟨hc6, h⟩ := Zi h
      refine TA_ex htb (by kernel_rfl) rfl rfl (ZS rfl rfl rfl rfl rfl Xg (i := 0) (j := 0) rfl rfl hc6) fun v13 => ?_
      refine QL htb (by kernel_rfl) rfl rfl (Zh rfl rfl rfl rfl) ?_
      refine QL htb (by kernel_rfl) rfl rfl (Zh rfl rfl rfl rfl) ?_
      refine ZW rfl ?_
      refine tW [(2, some v13), (3, some (vI (0 : Int)))] [some (rowS u8S v13 ((b4 ++ [(ZG Type3 ((8 : UInt64).toNat)).toUInt8, Type3.toUInt8]) ++ Data3))] [] [2, 3] [0] [] rfl ?_
      obtain rfl := Option.some.inj h
      exact Qn rfl rfl (resA (vs := [v13, vI (0 : Int)]) rfl ⟨rfl, rfl, trivial⟩) [0] [] rfl rfl rfl ⟨v13, rfl, rfl, rfl⟩
    ·intro HJ1
     rcases bC (decide (Vlan2 ≥ (0 : Int))) with hg4 | hg4
     ·replace h := br_t hg4 h
      refine Ql (cgb hg4) ?_
      refine Qb (sMv rfl rfl rfl ?_)
      refine Qa rfl (Qo rfl rfl rfl rfl YE) ?_
      refine Qa rfl (Qp rfl rfl rfl rfl tyF3 (i := 0) rfl rfl) ?_
      refine Qa rfl (Qg rfl rfl rfl rfl rfl (bin_shr_i_u64 (a := Vlan2) (n := (8 : UInt64)))) ?_
      refine Qa rfl (QM rfl rfl rfl rfl (cnv_i_u8 (n := shri Vlan2 ((8 : UInt64).toNat)) Try.underlying3 Try.underlying5)) ?_
      refine Qa rfl (Qo rfl rfl rfl rfl YE) ?_
      refine Qa rfl (Qp rfl rfl rfl rfl tyF3 (i := 0) rfl rfl) ?_
      refine Qa rfl (QM rfl rfl rfl rfl (cnv_i_u8 (n := Vlan2) Try.underlying3 Try.underlying5)) ?_
      refine Qq rfl (QF (S := u8S) (xs := [(129 : UInt8), (0 : UInt8), u8 (shri Vlan2 ((8 : UInt64).toNat)), u8 Vlan2]) (css := [[vU8 (129 : UInt8)], [vU8 (0 : UInt8)], [vU8 (u8 (shri Vlan2 ((8 : UInt64).toNat)))], [vU8 (u8 Vlan2)]]) (cs := [vU8 (129 : UInt8), vU8 (0 : UInt8), vU8 (u8 (shri Vlan2 ((8 : UInt64).toNat))), vU8 (u8 Vlan2)]) (e := 5) rfl rfl rfl rfl (bldF Xg (by decide) (by kernel_rfl)) rfl rfl rfl rfl (Ze (S := u8S) (xs := [(129 : UInt8), (0 : UInt8), u8 (shri Vlan2 ((8 : UInt64).toNat)), u8 Vlan2]) (css := [[vU8 (129 : UInt8)], [vU8 (0 : UInt8)], [vU8 (u8 (shri Vlan2 ((8 : UInt64).toNat)))], [vU8 (u8 Vlan2)]]) rfl rfl)) fun v14 => ?_
      obtain ⟨hc7, h⟩ := Zi h
      refine Qq rfl (ZH (S := u8S) rfl rfl rfl rfl rfl rfl Xg (i := 1) (j := 2) rfl rfl hc7) fun v15 => ?_
      refine sAs rfl rfl rfl ?_
      refine nW [(1, some (.pointer (some ⟨b1, 0, none⟩))), (5, some v15)] [some (Qd b1 37 [vU8 Dst2.a0, vU8 Dst2.a1, vU8 Dst2.a2, vU8 Dst2.a3, vU8 Dst2.a4, vU8 Dst2.a5, vU8 Src2.a0, vU8 Src2.a1, vU8 Src2.a2, vU8 Src2.a3, vU8 Src2.a4, vU8 Src2.a5, vI Vlan2, vU16 Type2, v5]), some (rowS u8S v15 (b3 ++ [(129 : UInt8), (0 : UInt8), u8 (shri Vlan2 ((8 : UInt64).toNat)), u8 Vlan2]))] [Fact.sl u8S v5 Data2] [1, 5] [0, 1] [0] rfl ?_
      exact ZP (HJ1 (Dst2, Src2, Vlan2, Type2, Data2, b3 ++ [(129 : UInt8), (0 : UInt8), u8 (shri Vlan2 ((8 : UInt64).toNat)), u8 Vlan2], v5, v15) h) [1, 5] [0, 1] [0] rfl rfl rfl rfl
     ·replace h := br_f hg4 h
      refine Qm (cgb hg4) ?_
      refine Qr ?_
      exact ZP (HJ1 (Dst2, Src2, Vlan2, Type2, Data2, b3, v5, v6) h) [1, 5] [0, 1] [0] rfl rfl rfl rfl

set_option maxRecDepth 100000 in
set_option maxHeartbeats 4000000 in
theorem w_ref_HdrOf23 {hp0 : Hdr} {r : (List UInt8)} (h : ref_HdrOf23 hp0 = some r) :
  Ctr Try.prog 49 #[.agg #[vU8 hp0.Flags, vU16 hp0.Start, vU16 hp0.Off, vU16 hp0.Buffers]] [] []
   (fun rv own shr => ∃ (w1 : Value), rv = w1 ∧ own = [(rowS u8S w1 r)] ∧ shr = []) := by
 unfold ref_HdrOf23 at h
 refine Ctr.mk (args := [.agg #[vU8 hp0.Flags, vU16 hp0.Start, vU16 hp0.Off, vU16 hp0.Buffers]]) Try.func49 rfl rfl (fun R0 w0 B => ?_)
 refine Qe (Qb (Qq rfl (YG rfl rfl rfl rfl) fun b1 => ?_))
 refine sAs rfl rfl rfl ?_
 refine nW [(1, some (.pointer (some ⟨b1, 0, none⟩)))] [some (Qd b1 88 [vU8 hp0.Flags, vU16 hp0.Start, vU16 hp0.Off, vU16 hp0.Buffers])] [] [1] [0] [] rfl ?_
 refine Qe (Qb (Qa rfl (Qo rfl rfl rfl rfl fldF88x0) ?_))
 refine Qa rfl (Qp rfl rfl rfl rfl tyF5 (i := 0) rfl rfl) ?_
 refine Qa rfl (Qo rfl rfl rfl rfl fldF88x1) ?_
 refine Qa rfl (Qp rfl rfl rfl rfl tyF34 (i := 0) rfl rfl) ?_
 refine Qa rfl (QM rfl rfl rfl rfl (XC (n := hp0.Start) Try.underlying34 Try.underlying5)) ?_
 refine Qa rfl (Qo rfl rfl rfl rfl fldF88x1) ?_
 refine Qa rfl (Qp rfl rfl rfl rfl tyF34 (i := 0) rfl rfl) ?_
 refine Qa rfl (Qg rfl rfl rfl rfl rfl (XP (a := hp0.Start) (n := (8 : UInt64)))) ?_
 refine Qa rfl (QM rfl rfl rfl rfl (XC (n := ZG hp0.Start ((8 : UInt64).toNat)) Try.underlying34 Try.underlying5)) ?_
 refine Qa rfl (Qo rfl rfl rfl rfl fldF88x2) ?_
 refine Qa rfl (Qp rfl rfl rfl rfl tyF34 (i := 0) rfl rfl) ?_
 refine Qa rfl (QM rfl rfl rfl rfl (XC (n := hp0.Off) Try.underlying34 Try.underlying5)) ?_
 refine Qa rfl (Qo rfl rfl rfl rfl fldF88x2) ?_
 refine Qa rfl (Qp rfl rfl rfl rfl tyF34 (i := 0) rfl rfl) ?_
 refine Qa rfl (Qg rfl rfl rfl rfl rfl (XP (a := hp0.Off) (n := (8 : UInt64)))) ?_
 refine Qa rfl (QM rfl rfl rfl rfl (XC (n := ZG hp0.Off ((8 : UInt64).toNat)) Try.underlying34 Try.underlying5)) ?_
 refine Qa rfl (Qo rfl rfl rfl rfl fldF88x3) ?_
 refine Qa rfl (Qp rfl rfl rfl rfl tyF34 (i := 0) rfl rfl) ?_
 refine Qa rfl (QM rfl rfl rfl rfl (XC (n := hp0.Buffers) Try.underlying34 Try.underlying5)) ?_
 refine Qa rfl (Qo rfl rfl rfl rfl fldF88x3) ?_
 refine Qa rfl (Qp rfl rfl rfl rfl tyF34 (i := 0) rfl rfl) ?_
 refine Qa rfl (Qg rfl rfl rfl rfl rfl (XP (a := hp0.Buffers) (n := (8 : UInt64)))) ?_
 refine Qa rfl (QM rfl rfl rfl rfl (XC (n := ZG hp0.Buffers ((8 : UInt64).toNat)) Try.underlying34 Try.underlying5)) ?_
 refine Qq rfl (QF (S := u8S) (xs := [hp0.Flags, (0 : UInt8), (0 : UInt8), (0 : UInt8), (0 : UInt8), (0 : UInt8), hp0.Start.toUInt8, (ZG hp0.Start ((8 : UInt64).toNat)).toUInt8, hp0.Off.toUInt8, (ZG hp0.Off ((8 : UInt64).toNat)).toUInt8, hp0.Buffers.toUInt8, (ZG hp0.Buffers ((8 : UInt64).toNat)).toUInt8]) (css := [[vU8 hp0.Flags], [vU8 (0 : UInt8)], [vU8 (0 : UInt8)], [vU8 (0 : UInt8)], [vU8 (0 : UInt8)], [vU8 (0 : UInt8)], [vU8 hp0.Start.toUInt8], [vU8 ((ZG hp0.Start ((8 : UInt64).toNat)).toUInt8)], [vU8 hp0.Off.toUInt8], [vU8 ((ZG hp0.Off ((8 : UInt64).toNat)).toUInt8)], [vU8 hp0.Buffers.toUInt8], [vU8 ((ZG hp0.Buffers ((8 : UInt64).toNat)).toUInt8)]]) (cs := [vU8 hp0.Flags, vU8 (0 : UInt8), vU8 (0 : UInt8), vU8 (0 : UInt8), vU8 (0 : UInt8), vU8 (0 : UInt8), vU8 hp0.Start.toUInt8, vU8 ((ZG hp0.Start ((8 : UInt64).toNat)).toUInt8), vU8 hp0.Off.toUInt8, vU8 ((ZG hp0.Off ((8 : UInt64).toNat)).toUInt8), vU8 hp0.Buffers.toUInt8, vU8 ((ZG hp0.Buffers ((8 : UInt64).toNat)).toUInt8)]) (e := 5) rfl rfl rfl rfl (bldF Xg (by decide) (by kernel_rfl)) rfl rfl rfl rfl (Ze (S := u8S) (xs := [hp0.Flags, (0 : UInt8), (0 : UInt8), (0 : UInt8), (0 : UInt8), (0 : UInt8), hp0.Start.toUInt8, (ZG hp0.Start ((8 : UInt64).toNat)).toUInt8, hp0.Off.toUInt8, (ZG hp0.Off ((8 : UInt64).toNat)).toUInt8, hp0.Buffers.toUInt8, (ZG hp0.Buffers ((8 : UInt64).toNat)).toUInt8]) (css := [[vU8 hp0.Flags], [vU8 (0 : UInt8)], [vU8 (0 : UInt8)], [vU8 (0 : UInt8)], [vU8 (0 : UInt8)], [vU8 (0 : UInt8)], [vU8 hp0.Start.toUInt8], [vU8 ((ZG hp0.Start ((8 : UInt64).toNat)).toUInt8)], [vU8 hp0.Off.toUInt8], [vU8 ((ZG hp0.Off ((8 : UInt64).toNat)).toUInt8)], [vU8 hp0.Buffers.toUInt8], [vU8 ((ZG hp0.Buffers ((8 : UInt64).toNat)).toUInt8)]]) rfl rfl)) fun v1 => ?_
 refine sAs rfl rfl rfl ?_
 refine nW [(2, some v1)] [some (rowS u8S v1 [hp0.Flags, (0 : UInt8), (0 : UInt8), (0 : UInt8), (0 : UInt8), (0 : UInt8), hp0.Start.toUInt8, (ZG hp0.Start ((8 : UInt64).toNat)).toUInt8, hp0.Off.toUInt8, (ZG hp0.Off ((8 : UInt64).toNat)).toUInt8, hp0.Buffers.toUInt8, (ZG hp0.Buffers ((8 : UInt64).toNat)).toUInt8])] [] [2] [1] [] rfl ?_
 obtain rfl := Option.some.inj h
 exact Qn rfl rfl (resA (vs := [v1]) rfl ⟨rfl, trivial⟩) [0] [] rfl rfl rfl ⟨v1, rfl, rfl, rfl⟩

set_option maxRecDepth 100000 in
set_option maxHeartbeats 4000000 in
theorem w_ref_Deliver25 {m : dumbwaiterref02_Mem} {feats : UInt64} {bufs : List (List Seg)} {f : Frame} {b_m : Nat} {vm1 : Value} {vm2 : Value} {vsm1 : List Value} {vbufs1 : Value} {vf1 : Value} {r : ((List UInt32) × Int × (List (List UInt8)))} (h : Yz m feats bufs f = some r) :
  Ctr Try.prog 23 #[.pointer (some ⟨b_m, 0, none⟩), vU64 feats, vbufs1, .agg #[vU8 f.Dst.a0, vU8 f.Dst.a1, vU8 f.Dst.a2, vU8 f.Dst.a3, vU8 f.Dst.a4, vU8 f.Dst.a5, vU8 f.Src.a0, vU8 f.Src.a1, vU8 f.Src.a2, vU8 f.Src.a3, vU8 f.Src.a4, vU8 f.Src.a5, vI f.Vlan, vU16 f.Type_, vf1]] [(Qd b_m 84 [vm1, vm2]), (Qj u8S false vm2 vsm1 m.B none)] [Fact.sl Qf vm1 m.L, Fact.sl (Shape.slice SegS) vbufs1 bufs, Fact.sl u8S vf1 f.Data]
   (fun rv own shr => ∃ (w1 : Value), rv = .tuple #[w1, vI r.2.1] ∧ own = [(Qd b_m 84 [vm1, vm2]), (Qj u8S false vm2 vsm1 r.2.2 none), (rowS u32S w1 r.1)] ∧ shr = []) := by
 unfold Yz at h
 refine Ctr.mk (args := [.pointer (some ⟨b_m, 0, none⟩), vU64 feats, vbufs1, .agg #[vU8 f.Dst.a0, vU8 f.Dst.a1, vU8 f.Dst.a2, vU8 f.Dst.a3, vU8 f.Dst.a4, vU8 f.Dst.a5, vU8 f.Src.a0, vU8 f.Src.a1, vU8 f.Src.a2, vU8 f.Src.a3, vU8 f.Src.a4, vU8 f.Src.a5, vI f.Vlan, vU16 f.Type_, vf1]]) Try.func23 rfl rfl (fun R0 w0 B => ?_)
 refine Qe (Qb (Qq rfl (YG rfl rfl rfl rfl) fun b1 => ?_))
 refine sAs rfl rfl rfl ?_
 refine sAs rfl rfl rfl ?_
 refine nW [(0, some (.pointer (some ⟨b_m, 0, none⟩))), (1, some (vU64 feats)), (2, some vbufs1), (7, some (.pointer (some ⟨b1, 0, none⟩)))] [some (Qd b_m 84 [vm1, vm2]), some (Qj u8S false vm2 vsm1 m.B none), some (Qd b1 37 [vU8 f.Dst.a0, vU8 f.Dst.a1, vU8 f.Dst.a2, vU8 f.Dst.a3, vU8 f.Dst.a4, vU8 f.Dst.a5, vU8 f.Src.a0, vU8 f.Src.a1, vU8 f.Src.a2, vU8 f.Src.a3, vU8 f.Src.a4, vU8 f.Src.a5, vI f.Vlan, vU16 f.Type_, vf1])] [Fact.sl Qf vm1 m.L, Fact.sl (Shape.slice SegS) vbufs1 bufs, Fact.sl u8S vf1 f.Data] [0, 1, 2, 7] [0, 1, 2] [0, 1, 2] rfl ?_
 refine Qe (Qe (Qb (sMv rfl rfl rfl ?_)))
 refine Qa rfl (OpT_ptrNil rfl rfl rfl (.inl rfl) rfl rfl ptrF44) ?_
 refine nW [(0, some (.pointer (some ⟨b_m, 0, none⟩))), (1, some (vU64 feats)), (2, some vbufs1), (7, some (.pointer (some ⟨b1, 0, none⟩))), (21, some (vB false))] [some (Qd b_m 84 [vm1, vm2]), some (Qj u8S false vm2 vsm1 m.B none), some (Qd b1 37 [vU8 f.Dst.a0, vU8 f.Dst.a1, vU8 f.Dst.a2, vU8 f.Dst.a3, vU8 f.Dst.a4, vU8 f.Dst.a5, vU8 f.Src.a0, vU8 f.Src.a1, vU8 f.Src.a2, vU8 f.Src.a3, vU8 f.Src.a4, vU8 f.Src.a5, vI f.Vlan, vU16 f.Type_, vf1])] [Fact.sl Qf vm1 m.L, Fact.sl (Shape.slice SegS) vbufs1 bufs, Fact.sl u8S vf1 f.Data] [0, 1, 2, 7, 21] [0, 1, 2] [0, 1, 2] rfl ?_
 refine Qm rfl ?_
 refine Qr (Qe (Qb (Qa rfl (Zx (vs := [vU8 f.Dst.a0, vU8 f.Dst.a1, vU8 f.Dst.a2, vU8 f.Dst.a3, vU8 f.Dst.a4, vU8 f.Dst.a5, vU8 f.Src.a0, vU8 f.Src.a1, vU8 f.Src.a2, vU8 f.Src.a3, vU8 f.Src.a4, vU8 f.Src.a5, vI f.Vlan, vU16 f.Type_, vf1]) rfl rfl rfl rfl Xo (i := 2) rfl rfl rfl) ?_)))
 obtain ⟨bytes1, hx1, h⟩ := ob_e h
 refine Qt rfl (QO (w_ref_Bytes23 hx1) [] [2] rfl rfl rfl rfl rfl callee46 rfl rfl rfl rfl) ?_
 rintro _ ⟨_, _, _, ⟨v1, rfl, rfl, rfl⟩, rfl⟩
 refine sMv rfl rfl rfl ?_
 refine Qa rfl (Qs rfl rfl rfl rfl rfl) ?_
 refine Qa rfl (Qs rfl rfl rfl rfl rfl) ?_
 refine sAs rfl rfl rfl ?_
 refine sAs rfl rfl rfl ?_
 refine nW [(0, some (.pointer (some ⟨b_m, 0, none⟩))), (1, some (vU64 feats)), (2, some vbufs1), (10, some v1), (11, some (vI bytes1.2))] [some (Qd b_m 84 [vm1, vm2]), some (Qj u8S false vm2 vsm1 m.B none), some (rowS u8S v1 bytes1.1)] [Fact.sl Qf vm1 m.L, Fact.sl (Shape.slice SegS) vbufs1 bufs] [0, 1, 2, 10, 11] [0, 1, 3] [0, 1] rfl ?_
 refine Qe (Qe (Qb (sMv rfl rfl rfl ?_)))
 refine Qa rfl (Qg rfl rfl rfl rfl rfl (QU (a := bytes1.2) (b := (0 : Int)))) ?_
 refine nW [(0, some (.pointer (some ⟨b_m, 0, none⟩))), (1, some (vU64 feats)), (2, some vbufs1), (10, some v1), (11, some (vI bytes1.2)), (28, some (vB (bytes1.2 != (0 : Int))))] [some (Qd b_m 84 [vm1, vm2]), some (Qj u8S false vm2 vsm1 m.B none), some (rowS u8S v1 bytes1.1)] [Fact.sl Qf vm1 m.L, Fact.sl (Shape.slice SegS) vbufs1 bufs] [0, 1, 2, 10, 11, 28] [0, 1, 2] [0, 1] rfl ?_
 rcases bC (bytes1.2 != (0 : Int)) with hg1 | hg1
 ·replace h := br_t hg1 h
  refine Ql (cgb hg1) ?_
  refine Qe (Qb (sMv rfl rfl rfl ?_))
  refine sAs rfl rfl rfl ?_
  refine sAs rfl rfl rfl ?_
  refine nW [(8, some (.slice none 0 0)), (9, some (vI bytes1.2))] [some (Qd b_m 84 [vm1, vm2]), some (Qj u8S false vm2 vsm1 m.B none)] [Fact.sl Qf vm1 m.L] [8, 9] [0, 1] [0] rfl ?_
  refine QI u32S ?_
  obtain rfl := Option.some.inj h
  exact Qn rfl rfl (resA (vs := [.slice none 0 0, vI bytes1.2]) rfl ⟨rfl, rfl, trivial⟩) [0, 1, 2] [] rfl rfl rfl ⟨(.slice none 0 0), rfl, rfl, rfl⟩
 ·replace h := br_f hg1 h
  refine Qm (cgb hg1) ?_
  refine Qr (Qe (Qb (sMv rfl rfl rfl ?_)))
  refine sMv rfl rfl rfl ?_
  refine sMv rfl rfl rfl ?_
  refine Qa rfl (Kp rfl rfl rfl rfl Try.underlying35 (i := 2) rfl) ?_
  refine Qa rfl (Qg rfl rfl rfl rfl rfl (Qx (a := (12 : Int)) (b := len bytes1.1))) ?_
  obtain ⟨needs1, hx2, h⟩ := ob_e h
  refine Qt rfl (QO (w_ref_Needs25 hx2) [] [1] rfl rfl rfl rfl rfl callee47 rfl rfl rfl rfl) ?_
  rintro _ ⟨_, _, _, ⟨rfl, rfl, rfl⟩, rfl⟩
  refine sMv rfl rfl rfl ?_
  refine Qa rfl (Qs rfl rfl rfl rfl rfl) ?_
  refine Qa rfl (Qs rfl rfl rfl rfl rfl) ?_
  refine sAs rfl rfl rfl ?_
  refine sAs rfl rfl rfl ?_
  refine nW [(0, some (.pointer (some ⟨b_m, 0, none⟩))), (1, some (vU64 feats)), (2, some vbufs1), (10, some v1), (12, some (vI needs1.1)), (13, some (vB needs1.2))] [some (Qd b_m 84 [vm1, vm2]), some (Qj u8S false vm2 vsm1 m.B none), some (rowS u8S v1 bytes1.1)] [Fact.sl Qf vm1 m.L, Fact.sl (Shape.slice SegS) vbufs1 bufs] [0, 1, 2, 10, 12, 13] [0, 1, 2] [0, 1] rfl ?_
  refine Qe (Qe (Qb (sMv rfl rfl rfl ?_)))
  refine Qa rfl (OpT_not rfl rfl rfl rfl) ?_
  refine nW [(0, some (.pointer (some ⟨b_m, 0, none⟩))), (1, some (vU64 feats)), (2, some vbufs1), (10, some v1), (12, some (vI needs1.1)), (40, some (vB (!needs1.2)))] [some (Qd b_m 84 [vm1, vm2]), some (Qj u8S false vm2 vsm1 m.B none), some (rowS u8S v1 bytes1.1)] [Fact.sl Qf vm1 m.L, Fact.sl (Shape.slice SegS) vbufs1 bufs] [0, 1, 2, 10, 12, 40] [0, 1, 2] [0, 1] rfl ?_
  rcases bC ((!needs1.2)) with hg2 | hg2
  ·replace h := br_t hg2 h
   refine Ql (cgb hg2) ?_
   refine Qe (Qb (sAs rfl rfl rfl ?_))
   refine sAs rfl rfl rfl ?_
   refine nW [(8, some (.slice none 0 0)), (9, some (vI (7 : Int)))] [some (Qd b_m 84 [vm1, vm2]), some (Qj u8S false vm2 vsm1 m.B none)] [Fact.sl Qf vm1 m.L] [8, 9] [0, 1] [0] rfl ?_
   refine QI u32S ?_
   obtain rfl := Option.some.inj h
   exact Qn rfl rfl (resA (vs := [.slice none 0 0, vI (7 : Int)]) rfl ⟨rfl, rfl, trivial⟩) [0, 1, 2] [] rfl rfl rfl ⟨(.slice none 0 0), rfl, rfl, rfl⟩
  ·replace h := br_f hg2 h
   refine Qm (cgb hg2) ?_
   refine Qr (Qe (Qe (Qb (sAs rfl rfl rfl ?_))))
   refine nW [(0, some (.pointer (some ⟨b_m, 0, none⟩))), (1, some (vU64 feats)), (2, some vbufs1), (10, some v1), (12, some (vI needs1.1)), (14, some (vI (0 : Int)))] [some (Qd b_m 84 [vm1, vm2]), some (Qj u8S false vm2 vsm1 m.B none), some (rowS u8S v1 bytes1.1)] [Fact.sl Qf vm1 m.L, Fact.sl (Shape.slice SegS) vbufs1 bufs] [0, 1, 2, 10, 12, 14] [0, 1, 2] [0, 1] rfl ?_
   refine Qz (Tk_retire (i := 2) rfl ?_)
   refine Zc (σ := Int) [0, 1, 2, 10, 12, 14] [0, 1] [0, 1, 2] (fun s => ⟨[(0, some (.pointer (some ⟨b_m, 0, none⟩))), (1, some (vU64 feats)), (2, some vbufs1), (10, some v1), (12, some (vI needs1.1)), (14, some (vI s))], [some (Qd b_m 84 [vm1, vm2]), some (Qj u8S false vm2 vsm1 m.B none)], [Fact.sl Qf vm1 m.L, Fact.sl (Shape.slice SegS) vbufs1 bufs, Fact.sl u8S v1 bytes1.1]⟩) (fun nf1 s => Xr m feats bufs bytes1 needs1 nf1 s = some r) fuel (0 : Int) h rfl rfl rfl rfl rfl (fun s h => by cases h) ?_
   rintro nf1 i1 h
   replace h : YQ m feats bufs bytes1 needs1 (Xr m feats bufs bytes1 needs1 nf1) i1 = some r := h
   unfold YQ at h
   refine Qe (Qe (Qb (sMv rfl rfl rfl ?_)))
   refine sMv rfl rfl rfl ?_
   refine Qa rfl (Qg rfl rfl rfl rfl rfl (QK (a := i1) (b := needs1.1))) ?_
   refine nW [(0, some (.pointer (some ⟨b_m, 0, none⟩))), (1, some (vU64 feats)), (2, some vbufs1), (10, some v1), (12, some (vI needs1.1)), (14, some (vI i1)), (43, some (vB (decide (i1 < needs1.1))))] [some (Qd b_m 84 [vm1, vm2]), some (Qj u8S false vm2 vsm1 m.B none)] [Fact.sl Qf vm1 m.L, Fact.sl (Shape.slice SegS) vbufs1 bufs, Fact.sl u8S v1 bytes1.1] [0, 1, 2, 10, 12, 14, 43] [0, 1] [0, 1, 2] rfl ?_
   rcases bC (decide (i1 < needs1.1)) with hg3 | hg3
   ·replace h := br_t hg3 h
    refine Ql (cgb hg3) ?_
    refine Qr (Qe (Qz (Qe (Qb (sMv rfl rfl rfl ?_)))))
    refine sMv rfl rfl rfl ?_
    refine sMv rfl rfl rfl ?_
    obtain ⟨y1, hx3, h⟩ := ob_e h
    refine Qq rfl (QA rfl rfl rfl rfl rfl slF59 (i := 1) rfl hx3) fun p1 => ?_
    refine Qq rfl (Xn rfl rfl rfl rfl tyF25 (i := 3) rfl) fun v2 => ?_
    obtain ⟨in1, hx4, h⟩ := ob_e h
    refine Qt rfl (QW [2, 3] (w_ref_In05 hx4) [0, 1] [0, 4] rfl rfl rfl rfl rfl callee48 rfl rfl rfl rfl rfl) ?_
    rintro _ ⟨_, _, _, ⟨rfl, rfl, rfl⟩, rfl⟩
    refine sAs rfl rfl rfl ?_
    refine nW [(0, some (.pointer (some ⟨b_m, 0, none⟩))), (1, some (vU64 feats)), (2, some vbufs1), (10, some v1), (12, some (vI needs1.1)), (14, some (vI i1)), (11, some (vI in1))] [some (Qd b_m 84 [vm1, vm2]), some (Qj u8S false vm2 vsm1 m.B none)] [Fact.sl Qf vm1 m.L, Fact.sl (Shape.slice SegS) vbufs1 bufs, Fact.sl u8S v1 bytes1.1] [0, 1, 2, 10, 12, 14, 11] [0, 1] [0, 1, 2] rfl ?_
    refine Qe (Qb (sMv rfl rfl rfl ?_))
    refine Qa rfl (Qg rfl rfl rfl rfl rfl (QU (a := in1) (b := (0 : Int)))) ?_
    refine nW [(0, some (.pointer (some ⟨b_m, 0, none⟩))), (1, some (vU64 feats)), (2, some vbufs1), (10, some v1), (12, some (vI needs1.1)), (14, some (vI i1)), (11, some (vI in1)), (53, some (vB (in1 != (0 : Int))))] [some (Qd b_m 84 [vm1, vm2]), some (Qj u8S false vm2 vsm1 m.B none)] [Fact.sl Qf vm1 m.L, Fact.sl (Shape.slice SegS) vbufs1 bufs, Fact.sl u8S v1 bytes1.1] [0, 1, 2, 10, 12, 14, 11, 53] [0, 1] [0, 1, 2] rfl ?_
    rcases bC (in1 != (0 : Int)) with hg4 | hg4
    ·replace h := br_t hg4 h
     refine Ql (cgb hg4) ?_
     refine Qe (Qb (sMv rfl rfl rfl ?_))
     refine sAs rfl rfl rfl ?_
     refine sAs rfl rfl rfl ?_
     refine nW [(8, some (.slice none 0 0)), (9, some (vI in1))] [some (Qd b_m 84 [vm1, vm2]), some (Qj u8S false vm2 vsm1 m.B none)] [Fact.sl Qf vm1 m.L] [8, 9] [0, 1] [0] rfl ?_
     refine QI u32S ?_
     obtain rfl := Option.some.inj h
     exact Qn rfl rfl (resA (vs := [.slice none 0 0, vI in1]) rfl ⟨rfl, rfl, trivial⟩) [0, 1, 2] [] rfl rfl rfl ⟨(.slice none 0 0), rfl, rfl, rfl⟩
    ·replace h := br_f hg4 h
     refine Qm (cgb hg4) ?_
     refine Qr (Zk (Qb (sMv rfl rfl rfl ?_)))
     refine Qa rfl (Qg rfl rfl rfl rfl rfl (Qx (a := i1) (b := (1 : Int)))) ?_
     refine sAs rfl rfl rfl ?_
     refine nW [(0, some (.pointer (some ⟨b_m, 0, none⟩))), (1, some (vU64 feats)), (2, some vbufs1), (10, some v1), (12, some (vI needs1.1)), (14, some (vI (wi (i1 + (1 : Int)))))] [some (Qd b_m 84 [vm1, vm2]), some (Qj u8S false vm2 vsm1 m.B none)] [Fact.sl Qf vm1 m.L, Fact.sl (Shape.slice SegS) vbufs1 bufs, Fact.sl u8S v1 bytes1.1] [0, 1, 2, 10, 12, 14] [0, 1] [0, 1, 2] rfl ?_
     exact QN (wi (i1 + (1 : Int))) h [0, 1, 2, 10, 12, 14] [0, 1] [0, 1, 2] rfl rfl rfl rfl rfl
   ·replace h := br_f hg3 h
    refine Qm (cgb hg3) ?_
    refine Zf _ rfl ?_
    refine Qe (Qb (sMv rfl rfl rfl ?_))
    refine Qa rfl (QM rfl rfl rfl rfl (cnv_i_u16 (n := needs1.1) Try.underlying3 Try.underlying34)) ?_
    refine Qa rfl (Zd (v := .agg #[vU8 (0 : UInt8), vU16 (0 : UInt16), vU16 (0 : UInt16), vU16 (u16 needs1.1)]) rfl rfl rfl rfl (bldV (by kernel_rfl))) ?_
    refine Qq rfl (Zq rfl rfl rfl tyZ88) fun b2 => ?_
    refine Qa rfl (QE (cs' := [vU8 (0 : UInt8), vU16 (0 : UInt16), vU16 (0 : UInt16), vU16 (u16 needs1.1)]) rfl rfl rfl rfl tyF88 (i := 2) rfl rfl rfl (ZE rfl) rfl) ?_
    refine nW [(0, some (.pointer (some ⟨b_m, 0, none⟩))), (1, some (vU64 feats)), (2, some vbufs1), (10, some v1), (12, some (vI needs1.1)), (15, some (.pointer (some ⟨b2, 0, none⟩)))] [some (Qd b_m 84 [vm1, vm2]), some (Qj u8S false vm2 vsm1 m.B none), some (Qd b2 88 [vU8 (0 : UInt8), vU16 (0 : UInt16), vU16 (0 : UInt16), vU16 (u16 needs1.1)])] [Fact.sl Qf vm1 m.L, Fact.sl (Shape.slice SegS) vbufs1 bufs, Fact.sl u8S v1 bytes1.1] [0, 1, 2, 10, 12, 15] [0, 1, 2] [0, 1, 2] rfl ?_
    refine Qe (Qe (Qb (sMv rfl rfl rfl ?_)))
    obtain ⟨has1, hx5, h⟩ := ob_e h
    refine Qt rfl (QO (w_ref_Has06 hx5) [] [] rfl rfl rfl rfl rfl callee43 rfl rfl rfl rfl) ?_
    rintro _ ⟨_, _, _, ⟨rfl, rfl, rfl⟩, rfl⟩
    refine nW [(0, some (.pointer (some ⟨b_m, 0, none⟩))), (2, some vbufs1), (10, some v1), (12, some (vI needs1.1)), (15, some (.pointer (some ⟨b2, 0, none⟩))), (59, some (vB has1))] [some (Qd b_m 84 [vm1, vm2]), some (Qj u8S false vm2 vsm1 m.B none), some (Qd b2 88 [vU8 (0 : UInt8), vU16 (0 : UInt16), vU16 (0 : UInt16), vU16 (u16 needs1.1)])] [Fact.sl Qf vm1 m.L, Fact.sl (Shape.slice SegS) vbufs1 bufs, Fact.sl u8S v1 bytes1.1] [0, 2, 10, 12, 15, 59] [0, 1, 2] [0, 1, 2] rfl ?_
    refine Yu (α := Hdr) (fun s => ⟨[(0, some (.pointer (some ⟨b_m, 0, none⟩))), (2, some vbufs1), (10, some v1), (12, some (vI needs1.1)), (15, some (.pointer (some ⟨b2, 0, none⟩)))], [some (Qd b_m 84 [vm1, vm2]), some (Qj u8S false vm2 vsm1 m.B none), some (Qd b2 88 [vU8 s.Flags, vU16 s.Start, vU16 s.Off, vU16 s.Buffers])], [Fact.sl Qf vm1 m.L, Fact.sl (Shape.slice SegS) vbufs1 bufs, Fact.sl u8S v1 bytes1.1]⟩) (fun s => ZN m bufs bytes1 needs1 s = some r) ?_ ?_
    ·rintro m1 h
     replace h : ZN m bufs bytes1 needs1 m1 = some r := h
     unfold ZN at h
     refine Qe (Qb (Qa rfl (Zx (vs := [vU8 m1.Flags, vU16 m1.Start, vU16 m1.Off, vU16 m1.Buffers]) rfl rfl rfl rfl tyF88 (i := 2) rfl rfl rfl) ?_))
     obtain ⟨hdrof1, hx6, h⟩ := ob_e h
     refine Qt rfl (QO (w_ref_HdrOf23 hx6) [] [] rfl rfl rfl rfl rfl callee49 rfl rfl rfl rfl) ?_
     rintro _ ⟨v3, _, _, ⟨_, rfl, rfl, rfl⟩, rfl⟩
     refine sMv rfl rfl rfl ?_
     obtain ⟨hc1, h⟩ := Zi h
     refine Qq rfl (ZS rfl rfl rfl rfl rfl Xg (i := 3) (j := 2) rfl rfl hc1) fun v4 => ?_
     refine sAs rfl rfl rfl ?_
     refine nW [(0, some (.pointer (some ⟨b_m, 0, none⟩))), (2, some vbufs1), (10, some v4), (12, some (vI needs1.1))] [some (Qd b_m 84 [vm1, vm2]), some (Qj u8S false vm2 vsm1 m.B none), some (rowS u8S v4 (hdrof1 ++ bytes1.1))] [Fact.sl Qf vm1 m.L, Fact.sl (Shape.slice SegS) vbufs1 bufs] [0, 2, 10, 12] [0, 1, 3] [0, 1] rfl ?_
     refine Qe (Qb (sAs rfl rfl rfl ?_))
     refine QT (Qe (Qe (Qb (sAs rfl rfl rfl ?_))))
     refine QT (Qz (Tk_retire (i := 2) rfl ?_))
     refine QI u32S ?_
     refine Zc (σ := (List (List UInt8)) × (List UInt8) × (List UInt32) × Int × Value × Value) [0, 2, 10, 12, 16, 17] [0, 1, 3] [0, 1, 2] (fun s => ⟨[(0, some (.pointer (some ⟨b_m, 0, none⟩))), (2, some vbufs1), (10, some (s.2.2.2.2.1)), (12, some (vI needs1.1)), (16, some (s.2.2.2.2.2)), (17, some (vI s.2.2.2.1))], [some (Qd b_m 84 [vm1, vm2]), some (Qj u8S false vm2 vsm1 s.1 none), some (rowS u32S s.2.2.2.2.2 s.2.2.1)], [Fact.sl Qf vm1 m.L, Fact.sl (Shape.slice SegS) vbufs1 bufs, Fact.sl u8S s.2.2.2.2.1 s.2.1]⟩) (fun nf3 s => XN m bufs needs1 nf3 s.1 s.2.1 s.2.2.1 s.2.2.2.1 = some r) fuel (m.B, hdrof1 ++ bytes1.1, [], (0 : Int), v4, (.slice none 0 0)) h rfl rfl rfl rfl rfl (fun s h => by cases h) ?_
     rintro nf3 ⟨rows1, b3, out1, i2, v5, v6⟩ h
     replace h : YP m bufs needs1 (XN m bufs needs1 nf3) rows1 b3 out1 i2 = some r := h
     unfold YP at h
     refine Qe (Qe (Qb (sMv rfl rfl rfl ?_)))
     refine sMv rfl rfl rfl ?_
     refine Qa rfl (Qg rfl rfl rfl rfl rfl (QK (a := i2) (b := needs1.1))) ?_
     refine nW [(0, some (.pointer (some ⟨b_m, 0, none⟩))), (2, some vbufs1), (10, some v5), (12, some (vI needs1.1)), (16, some v6), (17, some (vI i2)), (67, some (vB (decide (i2 < needs1.1))))] [some (Qd b_m 84 [vm1, vm2]), some (Qj u8S false vm2 vsm1 rows1 none), some (rowS u32S v6 out1)] [Fact.sl Qf vm1 m.L, Fact.sl (Shape.slice SegS) vbufs1 bufs, Fact.sl u8S v5 b3] [0, 2, 10, 12, 16, 17, 67] [0, 1, 2] [0, 1, 2] rfl ?_
     rcases bC (decide (i2 < needs1.1)) with hg5 | hg5
     ·replace h := br_t hg5 h
      refine Ql (cgb hg5) ?_
      refine Qr (Qe (Qz (Qe (Qb (sMv rfl rfl rfl ?_)))))
      refine sMv rfl rfl rfl ?_
      refine sMv rfl rfl rfl ?_
      obtain ⟨y2, hx7, h⟩ := ob_e h
      refine Qq rfl (QA rfl rfl rfl rfl rfl slF59 (i := 1) rfl hx7) fun p2 => ?_
      refine Qq rfl (Xn rfl rfl rfl rfl tyF25 (i := 3) rfl) fun v7 => ?_
      refine sMv rfl rfl rfl ?_
      obtain ⟨scatte1, hx8, h⟩ := ob_e h
      refine Qt rfl (QW [3, 4, 2] (w_ref_Scatter05 hx8) [0, 1] [0, 4, 2] rfl rfl rfl rfl rfl callee50 rfl rfl rfl rfl rfl) ?_
      rintro _ ⟨_, _, _, ⟨rfl, rfl, rfl⟩, rfl⟩
      refine sMv rfl rfl rfl ?_
      refine Qa rfl (Qs rfl rfl rfl rfl rfl) ?_
      refine Qa rfl (Qs rfl rfl rfl rfl rfl) ?_
      refine sAs rfl rfl rfl ?_
      refine sAs rfl rfl rfl ?_
      refine nW [(0, some (.pointer (some ⟨b_m, 0, none⟩))), (2, some vbufs1), (10, some v5), (12, some (vI needs1.1)), (16, some v6), (17, some (vI i2)), (18, some (vI scatte1.1))] [some (Qd b_m 84 [vm1, vm2]), some (Qj u8S false vm2 vsm1 scatte1.2.2 none), some (rowS u32S v6 out1)] [Fact.sl Qf vm1 m.L, Fact.sl (Shape.slice SegS) vbufs1 bufs, Fact.sl u8S v5 b3] [0, 2, 10, 12, 16, 17, 18] [0, 1, 2] [0, 1, 2] rfl ?_
      refine Qe (Qb (sMv rfl rfl rfl ?_))
      refine sMv rfl rfl rfl ?_
      refine Qa rfl (QM rfl rfl rfl rfl (cnv_i_u32 (n := scatte1.1) Try.underlying3 Try.underlying27)) ?_
      refine Qq rfl (QF (S := u32S) (xs := [u32 scatte1.1]) (css := [[vU32 (u32 scatte1.1)]]) (cs := [vU32 (u32 scatte1.1)]) (e := 27) rfl rfl rfl rfl (bldF slF62 (by decide) (by kernel_rfl)) rfl rfl rfl rfl (Ze (S := u32S) (xs := [u32 scatte1.1]) (css := [[vU32 (u32 scatte1.1)]]) rfl rfl)) fun v8 => ?_
      obtain ⟨hc2, h⟩ := Zi h
      refine Qq rfl (ZH (S := u32S) rfl rfl rfl rfl rfl rfl slF62 (i := 2) (j := 3) rfl rfl hc2) fun v9 => ?_
      refine sAs rfl rfl rfl ?_
      refine nW [(0, some (.pointer (some ⟨b_m, 0, none⟩))), (2, some vbufs1), (10, some v5), (12, some (vI needs1.1)), (16, some v9), (17, some (vI i2)), (18, some (vI scatte1.1))] [some (Qd b_m 84 [vm1, vm2]), some (Qj u8S false vm2 vsm1 scatte1.2.2 none), some (rowS u32S v9 (out1 ++ [u32 scatte1.1]))] [Fact.sl Qf vm1 m.L, Fact.sl (Shape.slice SegS) vbufs1 bufs, Fact.sl u8S v5 b3] [0, 2, 10, 12, 16, 17, 18] [0, 1, 2] [0, 1, 2] rfl ?_
      refine Qb (sMv rfl rfl rfl ?_)
      refine sMv rfl rfl rfl ?_
      obtain ⟨hc3, h⟩ := Zi h
      refine Qq rfl (XQ (l := scatte1.1) rfl rfl rfl rfl rfl Xg (i := 2) rfl hc3) fun v10 => ?_
      refine sAs rfl rfl rfl ?_
      refine nW [(0, some (.pointer (some ⟨b_m, 0, none⟩))), (2, some vbufs1), (10, some v10), (12, some (vI needs1.1)), (16, some v9), (17, some (vI i2))] [some (Qd b_m 84 [vm1, vm2]), some (Qj u8S false vm2 vsm1 scatte1.2.2 none), some (rowS u32S v9 (out1 ++ [u32 scatte1.1]))] [Fact.sl Qf vm1 m.L, Fact.sl (Shape.slice SegS) vbufs1 bufs, Fact.sl u8S v10 (sub b3 scatte1.1 (len b3))] [0, 2, 10, 12, 16, 17] [0, 1, 2] [0, 1, 3] rfl ?_
      refine Zk (Qb (sMv rfl rfl rfl ?_))
      refine Qa rfl (Qg rfl rfl rfl rfl rfl (Qx (a := i2) (b := (1 : Int)))) ?_
      refine sAs rfl rfl rfl ?_
      refine nW [(0, some (.pointer (some ⟨b_m, 0, none⟩))), (2, some vbufs1), (10, some v10), (12, some (vI needs1.1)), (16, some v9), (17, some (vI (wi (i2 + (1 : Int)))))] [some (Qd b_m 84 [vm1, vm2]), some (Qj u8S false vm2 vsm1 scatte1.2.2 none), some (rowS u32S v9 (out1 ++ [u32 scatte1.1]))] [Fact.sl Qf vm1 m.L, Fact.sl (Shape.slice SegS) vbufs1 bufs, Fact.sl u8S v10 (sub b3 scatte1.1 (len b3))] [0, 2, 10, 12, 16, 17] [0, 1, 2] [0, 1, 2] rfl ?_
      exact QN (scatte1.2.2, sub b3 scatte1.1 (len b3), out1 ++ [u32 scatte1.1], wi (i2 + (1 : Int)), v10, v9) h [0, 2, 10, 12, 16, 17] [0, 1, 2] [0, 1, 2] rfl rfl rfl rfl rfl
     ·replace h := br_f hg5 h
      refine Qm (cgb hg5) ?_
      refine Zf _ rfl ?_
      refine Qe (Qb (sMv rfl rfl rfl ?_))
      refine sAs rfl rfl rfl ?_
      refine sAs rfl rfl rfl ?_
      refine nW [(8, some v6), (9, some (vI (0 : Int)))] [some (Qd b_m 84 [vm1, vm2]), some (Qj u8S false vm2 vsm1 rows1 none), some (rowS u32S v6 out1)] [Fact.sl Qf vm1 m.L] [8, 9] [0, 1, 2] [0] rfl ?_
      obtain rfl := Option.some.inj h
      exact Qn rfl rfl (resA (vs := [v6, vI (0 : Int)]) rfl ⟨rfl, rfl, trivial⟩) [0, 1, 2] [] rfl rfl rfl ⟨v6, rfl, rfl, rfl⟩
    ·intro HJ1
     rcases bC (has1) with hg6 | hg6
     ·replace h := br_t hg6 h
      refine Ql (cgb hg6) ?_
      refine Qb (Qa rfl (Qo rfl rfl rfl rfl fldF88x0) ?_)
      refine Qa rfl (QE (cs' := [vU8 (2 : UInt8), vU16 (0 : UInt16), vU16 (0 : UInt16), vU16 (u16 needs1.1)]) rfl rfl rfl rfl tyF5 (i := 2) rfl rfl rfl (ZE rfl) rfl) ?_
      refine nW [(0, some (.pointer (some ⟨b_m, 0, none⟩))), (2, some vbufs1), (10, some v1), (12, some (vI needs1.1)), (15, some (.pointer (some ⟨b2, 0, none⟩)))] [some (Qd b_m 84 [vm1, vm2]), some (Qj u8S false vm2 vsm1 m.B none), some (Qd b2 88 [vU8 (2 : UInt8), vU16 (0 : UInt16), vU16 (0 : UInt16), vU16 (u16 needs1.1)])] [Fact.sl Qf vm1 m.L, Fact.sl (Shape.slice SegS) vbufs1 bufs, Fact.sl u8S v1 bytes1.1] [0, 2, 10, 12, 15] [0, 1, 2] [0, 1, 2] rfl ?_
      exact ZP (HJ1 (Hdr.mk (2 : UInt8) (0 : UInt16) (0 : UInt16) (u16 needs1.1)) h) [0, 2, 10, 12, 15] [0, 1, 2] [0, 1, 2] rfl rfl rfl rfl
     ·replace h := br_f hg6 h
      refine Qm (cgb hg6) ?_
      refine Qr ?_
      exact ZP (HJ1 (Hdr.mk (0 : UInt8) (0 : UInt16) (0 : UInt16) (u16 needs1.1)) h) [0, 2, 10, 12, 15] [0, 1, 2] [0, 1, 2] rfl rfl rfl rfl

set_option maxRecDepth 100000 in
set_option maxHeartbeats 4000000 in
theorem w_ref_Mem_Image02 {m : dumbwaiterref02_Mem} {b_m : Nat} {vm1 : Value} {vm2 : Value} {vsm1 : List Value} {r : (List UInt8)} (h : Xq m = some r) :
  Ctr Try.prog 25 #[.pointer (some ⟨b_m, 0, none⟩)] [(Qd b_m 84 [vm1, vm2]), (Qj u8S false vm2 vsm1 m.B none)] [Fact.sl Qf vm1 m.L]
   (fun rv own shr => ∃ (w1 : Value), rv = w1 ∧ own = [(Qd b_m 84 [vm1, vm2]), (Qj u8S false vm2 vsm1 m.B none), (rowS u8S w1 r)] ∧ shr = []) := by
 unfold Xq at h
 refine Ctr.mk (args := [.pointer (some ⟨b_m, 0, none⟩)]) Try.func25 rfl rfl (fun R0 w0 B => ?_)
 refine Qe (Qb (sAs rfl rfl rfl ?_))
 refine nW [(0, some (.pointer (some ⟨b_m, 0, none⟩)))] [some (Qd b_m 84 [vm1, vm2]), some (Qj u8S false vm2 vsm1 m.B none)] [Fact.sl Qf vm1 m.L] [0] [0, 1] [0] rfl ?_
 refine Qe (Qb (sAs rfl rfl rfl ?_))
 refine QT (Qe (Qe (Qb (sAs rfl rfl rfl ?_))))
 refine QT (Qz (QI u8S ?_))
 refine Zc (σ := (List UInt8) × Int × Value) [0, 3, 4] [0, 1, 2] [0] (fun s => ⟨[(0, some (.pointer (some ⟨b_m, 0, none⟩))), (3, some (s.2.2)), (4, some (vI s.2.1))], [some (Qd b_m 84 [vm1, vm2]), some (Qj u8S false vm2 vsm1 m.B none), some (rowS u8S s.2.2 s.1)], [Fact.sl Qf vm1 m.L]⟩) (fun nf1 s => Xm m nf1 s.1 s.2.1 = some r) fuel ([], (0 : Int), (.slice none 0 0)) h rfl rfl rfl rfl rfl (fun s h => by cases h) ?_
 rintro nf1 ⟨out1, i1, v1⟩ h
 replace h : Yk m (Xm m nf1) out1 i1 = some r := h
 unfold Yk at h
 refine Qe (Qe (Qb (sMv rfl rfl rfl ?_)))
 refine sMv rfl rfl rfl ?_
 refine Qa rfl (QP rfl rfl rfl rfl) ?_
 refine Qa rfl (Qo rfl rfl rfl rfl fldF84x1) ?_
 refine Qa rfl (Qp rfl rfl rfl rfl tyF80 (i := 0) rfl rfl) ?_
 refine Qa rfl (OpT_lenRows rfl rfl rfl rfl Try.underlying80 (i := 1) rfl) ?_
 refine Qa rfl (Qg rfl rfl rfl rfl rfl (QK (a := i1) (b := len m.B))) ?_
 refine nW [(0, some (.pointer (some ⟨b_m, 0, none⟩))), (3, some v1), (4, some (vI i1)), (11, some (vB (decide (i1 < (len m.B)))))] [some (Qd b_m 84 [vm1, vm2]), some (Qj u8S false vm2 vsm1 m.B none), some (rowS u8S v1 out1)] [Fact.sl Qf vm1 m.L] [0, 3, 4, 11] [0, 1, 2] [0] rfl ?_
 rcases bC (decide (i1 < (len m.B))) with hg1 | hg1
 ·replace h := br_t hg1 h
  refine Ql (cgb hg1) ?_
  refine Qr (Qe (Qz (Qb (sMv rfl rfl rfl ?_))))
  refine sMv rfl rfl rfl ?_
  refine Qa rfl (QP rfl rfl rfl rfl) ?_
  refine Qa rfl (Qo rfl rfl rfl rfl fldF84x1) ?_
  refine Qa rfl (Qp rfl rfl rfl rfl tyF80 (i := 0) rfl rfl) ?_
  refine sMv rfl rfl rfl ?_
  obtain ⟨row1, hx1, h⟩ := ob_e h
  refine Qa rfl (OpT_idxRows rfl rfl rfl rfl rfl slF80 (i := 1) rfl hx1) ?_
  refine Tops_vs (vs_focus (i := 1) (j := i1) rfl hx1) ?_
  refine Qa rfl (OpT_loadRow (m := i1) rfl rfl rfl rfl tyF35 (i := 1) rfl) ?_
  obtain ⟨hc1, h⟩ := Zi h
  refine Qq rfl (ZH (S := u8S) rfl rfl rfl rfl rfl rfl Xg (i := 2) (j := 3) rfl rfl hc1) fun v2 => ?_
  refine sAs rfl rfl rfl ?_
  refine nW [(0, some (.pointer (some ⟨b_m, 0, none⟩))), (3, some v2), (4, some (vI i1))] [some (Qd b_m 84 [vm1, vm2]), some (Qj u8S false vm2 vsm1 m.B (some (Int.toNat i1, vsAt vsm1 (Int.toNat i1)))), some (rowS u8S v2 (out1 ++ row1)), some (rowS u8S (vsAt vsm1 (Int.toNat i1)) row1)] [Fact.sl Qf vm1 m.L] [0, 3, 4] [0, 1, 2, 3] [0] rfl ?_
  refine Zk (Tk_vs (vs_unfocus0 (i := 1) (q := 3) rfl rfl rfl hx1) ?_)
  refine Qb (sMv rfl rfl rfl ?_)
  refine Qa rfl (Qg rfl rfl rfl rfl rfl (Qx (a := i1) (b := (1 : Int)))) ?_
  refine sAs rfl rfl rfl ?_
  refine nW [(0, some (.pointer (some ⟨b_m, 0, none⟩))), (3, some v2), (4, some (vI (wi (i1 + (1 : Int)))))] [some (Qd b_m 84 [vm1, vm2]), some (Qj u8S false vm2 vsm1 m.B none), some (rowS u8S v2 (out1 ++ row1))] [Fact.sl Qf vm1 m.L] [0, 3, 4] [0, 1, 2] [0] rfl ?_
  exact QN (out1 ++ row1, wi (i1 + (1 : Int)), v2) h [0, 3, 4] [0, 1, 2] [0] rfl rfl rfl rfl rfl
 ·replace h := br_f hg1 h
  refine Qm (cgb hg1) ?_
  refine Zf _ rfl ?_
  refine Qe (Qb (sMv rfl rfl rfl ?_))
  refine sAs rfl rfl rfl ?_
  refine nW [(2, some v1)] [some (Qd b_m 84 [vm1, vm2]), some (Qj u8S false vm2 vsm1 m.B none), some (rowS u8S v1 out1)] [Fact.sl Qf vm1 m.L] [2] [0, 1, 2] [0] rfl ?_
  obtain rfl := Option.some.inj h
  exact Qn rfl rfl (resA (vs := [v1]) rfl ⟨rfl, trivial⟩) [0, 1, 2] [] rfl rfl rfl ⟨v1, rfl, rfl, rfl⟩

set_option maxRecDepth 100000 in
set_option maxHeartbeats 4000000 in
theorem w_netdrv_from {m : gmem_Mem} {bufs : List (List Seg)} {written : List UInt32} {b_m : Nat} {vm1 : Value} {vm2 : Value} {vsm1 : List Value} {vbufs1 : Value} {vwritten1 : Value} {r : (Option Clo66)} (h : netdrv_from m bufs written = some r) :
  Ctr Try.prog 53 #[.pointer (some ⟨b_m, 0, none⟩), vbufs1, vwritten1] [(Qd b_m 82 [vm1, vm2]), (Qj u8S true vm2 vsm1 m.b none)] [Fact.sl Qf vm1 m.l, Fact.sl (Shape.slice SegS) vbufs1 bufs, Fact.sl u32S vwritten1 written]
   (fun rv own shr => ∃ (w1 : Value), rv = w1 ∧ own = [(Qd b_m 82 [vm1, vm2]), (Qj u8S true vm2 vsm1 m.b none)] ∧ shr = [Fact.clo (cl66 b_m) w1 r]) := by
 unfold netdrv_from at h
 refine Ctr.mk (args := [.pointer (some ⟨b_m, 0, none⟩), vbufs1, vwritten1]) Try.func53 rfl rfl (fun R0 w0 B => ?_)
 refine Qe (Qb (Qq rfl (YG rfl rfl rfl rfl) fun b1 => ?_))
 refine Qq rfl (OpT_box1 rfl rfl rfl rfl (is_sl (i := 1) rfl)) fun b2 => ?_
 refine Qq rfl (OpT_box1 rfl rfl rfl rfl (is_sl (i := 2) rfl)) fun b3 => ?_
 refine sAs rfl rfl rfl ?_
 refine nW [(3, some (.pointer (some ⟨b1, 0, none⟩))), (4, some (.pointer (some ⟨b2, 0, none⟩))), (5, some (.pointer (some ⟨b3, 0, none⟩)))] [some (Qd b_m 82 [vm1, vm2]), some (Qj u8S true vm2 vsm1 m.b none), some (Qd b1 39 [.pointer (some ⟨b_m, 0, none⟩)]), some (Qd b2 59 [vbufs1]), some (Qd b3 62 [vwritten1])] [Fact.sl Qf vm1 m.l, Fact.sl (Shape.slice SegS) vbufs1 bufs, Fact.sl u32S vwritten1 written] [3, 4, 5] [0, 1, 2, 3, 4] [0, 1, 2] rfl ?_
 refine Qe (Qb (Qa rfl (OpT_makeFunc (vs := [.pointer (some ⟨b2, 0, none⟩), .pointer (some ⟨b1, 0, none⟩), .pointer (some ⟨b3, 0, none⟩)]) rfl rfl rfl rfl) ?_))
 refine sAs rfl rfl rfl ?_
 refine nW [(6, some (.func (.func 66) #[] #[.pointer (some ⟨b2, 0, none⟩), .pointer (some ⟨b1, 0, none⟩), .pointer (some ⟨b3, 0, none⟩)]))] [some (Qd b_m 82 [vm1, vm2]), some (Qj u8S true vm2 vsm1 m.b none), some (Qd b1 39 [.pointer (some ⟨b_m, 0, none⟩)]), some (Qd b2 59 [vbufs1]), some (Qd b3 62 [vwritten1])] [Fact.sl Qf vm1 m.l, Fact.sl (Shape.slice SegS) vbufs1 bufs, Fact.sl u32S vwritten1 written] [6] [0, 1, 2, 3, 4] [0, 1, 2] rfl ?_
 refine Tk_vs (vs_retireP (Shape.slice (Shape.slice SegS)) (x := bufs) (i := 3) rfl (rel_sl (i := 1) rfl)) ?_
 refine Tk_vs (vs_retireP (ptrS b_m) (x := ()) (i := 2) rfl (fun _ _ => rfl)) ?_
 refine Tk_vs (vs_retireP (Shape.slice u32S) (x := written) (i := 4) rfl (rel_sl (i := 2) rfl)) ?_
 refine Tk_vs (vs_add (Fact.clo (cl66 b_m) (.func (.func 66) #[] #[.pointer (some ⟨b2, 0, none⟩), .pointer (some ⟨b1, 0, none⟩), .pointer (some ⟨b3, 0, none⟩)]) (some (Clo66.mk bufs written))) (fun R hF x hx => by cases hx; exact ⟨_, _, _, rfl, mem_at (i := 3) rfl hF, mem_at (i := 4) rfl hF, mem_at (i := 5) rfl hF⟩)) ?_
 obtain rfl := Option.some.inj h
 exact Qn rfl rfl (resA (vs := [.func (.func 66) #[] #[.pointer (some ⟨b2, 0, none⟩), .pointer (some ⟨b1, 0, none⟩), .pointer (some ⟨b3, 0, none⟩)]]) rfl ⟨rfl, trivial⟩) [0, 1] [6] rfl rfl rfl ⟨(.func (.func 66) #[] #[.pointer (some ⟨b2, 0, none⟩), .pointer (some ⟨b1, 0, none⟩), .pointer (some ⟨b3, 0, none⟩)]), rfl, rfl, rfl⟩

set_option maxRecDepth 100000 in
set_option maxHeartbeats 4000000 in
theorem w_frame_ReadHdr_1 {ip0 : Int} {arg1 : List UInt8} {b_arg1 : Nat} {varg11 : Value} {r : UInt16} (h : Xs ip0 arg1 = some r) :
  Ctr Try.prog 68 #[vI ip0, .pointer (some ⟨b_arg1, 0, none⟩)] [(Qd b_arg1 35 [varg11])] [Fact.sl u8S varg11 arg1]
   (fun rv own shr => rv = vU16 r ∧ own = [(Qd b_arg1 35 [varg11])] ∧ shr = []) := by
 unfold Xs at h
 refine Ctr.mk (args := [vI ip0, .pointer (some ⟨b_arg1, 0, none⟩)]) Try.func68 rfl rfl (fun R0 w0 B => ?_)
 refine Qe (Qb (sAs rfl rfl rfl ?_))
 refine nW [(0, some (vI ip0)), (1, some (.pointer (some ⟨b_arg1, 0, none⟩)))] [some (Qd b_arg1 35 [varg11])] [Fact.sl u8S varg11 arg1] [0, 1] [0] [0] rfl ?_
 refine Qe (Zw (by kernel_rfl) ?_)
 refine TA_tb [0, 0, 3, 7, 15, 0, 0, 64, 224, 480, 992, 2016, 4095, 8191] (by kernel_rfl) fun htb => ?_
 obtain ⟨y1, hx1, h⟩ := ob_e h
 obtain ⟨y2, hx2, h⟩ := ob_e h
 refine Zs (lo := 0) (hi := 12) htb rfl rfl (by kernel_rfl) (fun c L a w => ∃ (p1 : Value), ∃ (p2 : Value), Sat c ⟨[(0, some (vI ip0)), (1, some (.pointer (some ⟨b_arg1, 0, none⟩))), (4, bif L 0 then some (varg11) else none), (5, bif L 1 then some (vI ip0) else none), (6, bif L 2 then some (p1) else none), (7, bif L 3 then some (vU8 y1) else none), (8, bif L 4 then some (vU16 y1.toUInt16) else none), (9, bif L 5 then some (varg11) else none), (10, bif L 6 then some (vI ip0) else none), (11, bif L 7 then some (vI (wi (ip0 + (1 : Int)))) else none), (12, bif L 8 then some (p2) else none), (13, bif L 9 then some (vU8 y2) else none), (14, bif L 10 then some (vU16 y2.toUInt16) else none), (15, bif L 11 then some (vU16 (shl16 y2.toUInt16 ((8 : UInt64).toNat))) else none)], [(some (Qd b_arg1 35 [varg11]) : Option Res)], [Fact.sl u8S varg11 arg1, (bif L 2 then Fact.pt u8S p1 y1 else Fact.tt), (bif L 8 then Fact.pt u8S p2 y2 else Fact.tt)]⟩ a w) [([], [2, 3, 4]), ([], [2, 3, 4]), ([0, 1], [3, 4]), ([0, 1, 2], [4]), ([0, 1, 2, 3], []), ([], [8, 9, 10, 11]), ([], [7, 8, 9, 10, 11]), ([6], [8, 9, 10, 11]), ([5, 6, 7], [9, 10, 11]), ([5, 6, 7, 8], [10, 11]), ([5, 6, 7, 8, 9], [11]), ([5, 6, 7, 8, 9, 10], [])] rfl (by kernel_rfl) ?_ (Qc ?_ (Qc ?_ (Qc ?_ (Qc ?_ (Qc ?_ (Qc ?_ (Qc ?_ (Qc ?_ (Qc ?_ (Qc ?_ (Qc ?_ (Qc ?_ (QH))))))))))))) ?_
 ·intro a w hs
  exact ⟨undef, undef, hs.startF [4, 5, 6, 7, 8, 9, 10, 11, 12, 13, 14, 15] [0] [0, 1, 2] rfl rfl rfl rfl⟩
 ·intro L a w hv K Q hK
  obtain ⟨p1, p2, hs⟩ := hv
  exact wGo rfl rfl hs (Qp rfl rfl rfl rfl tyF35 (i := 0) rfl rfl) fun a w hs => hK a w ⟨p1, p2, pF hs 2 [0] [0, 1, 2] rfl⟩
 ·intro L a w hv K Q hK
  obtain ⟨p1, p2, hs⟩ := hv
  exact wGo rfl rfl hs (Qk rfl rfl rfl rfl) fun a w hs => hK a w ⟨p1, p2, pF hs 3 [0] [0, 1, 2] rfl⟩
 ·intro L a w hv K Q hK
  obtain ⟨p1, p2, hs⟩ := hv
  refine QG rfl rfl hs (QA rfl rfl rfl rfl rfl Xg (i := 0) rfl hx1) ?_
  rintro _ ⟨p1', rfl⟩ a' w' hs'
  exact hK a' w' ⟨p1', p2, hs'.putF (i := 4) rfl [0] [0, 3, 2] rfl rfl rfl rfl⟩
 ·intro L a w hv K Q hK
  obtain ⟨p1, p2, hs⟩ := hv
  exact wGo rfl rfl hs (QC rfl rfl rfl rfl tyF5 (i := 1) rfl rfl) fun a w hs => hK a w ⟨p1, p2, pF hs 5 [0] [0, 1, 2] rfl⟩
 ·intro L a w hv K Q hK
  obtain ⟨p1, p2, hs⟩ := hv
  exact wGo rfl rfl hs (QM rfl rfl rfl rfl (cnv_u8_u16 (n := y1) Try.underlying5 Try.underlying34)) fun a w hs => hK a w ⟨p1, p2, pF hs 6 [0] [0, 1, 2] rfl⟩
 ·intro L a w hv K Q hK
  obtain ⟨p1, p2, hs⟩ := hv
  exact wGo rfl rfl hs (Qp rfl rfl rfl rfl tyF35 (i := 0) rfl rfl) fun a w hs => hK a w ⟨p1, p2, pF hs 7 [0] [0, 1, 2] rfl⟩
 ·intro L a w hv K Q hK
  obtain ⟨p1, p2, hs⟩ := hv
  exact wGo rfl rfl hs (Qk rfl rfl rfl rfl) fun a w hs => hK a w ⟨p1, p2, pF hs 8 [0] [0, 1, 2] rfl⟩
 ·intro L a w hv K Q hK
  obtain ⟨p1, p2, hs⟩ := hv
  exact wGo rfl rfl hs (Qg rfl rfl rfl rfl rfl (Qx (a := ip0) (b := (1 : Int)))) fun a w hs => hK a w ⟨p1, p2, pF hs 9 [0] [0, 1, 2] rfl⟩
 ·intro L a w hv K Q hK
  obtain ⟨p1, p2, hs⟩ := hv
  refine QG rfl rfl hs (QA rfl rfl rfl rfl rfl Xg (i := 0) rfl hx2) ?_
  rintro _ ⟨p2', rfl⟩ a' w' hs'
  exact hK a' w' ⟨p1, p2', hs'.putF (i := 10) rfl [0] [0, 1, 3] rfl rfl rfl rfl⟩
 ·intro L a w hv K Q hK
  obtain ⟨p1, p2, hs⟩ := hv
  exact wGo rfl rfl hs (QC rfl rfl rfl rfl tyF5 (i := 2) rfl rfl) fun a w hs => hK a w ⟨p1, p2, pF hs 11 [0] [0, 1, 2] rfl⟩
 ·intro L a w hv K Q hK
  obtain ⟨p1, p2, hs⟩ := hv
  exact wGo rfl rfl hs (QM rfl rfl rfl rfl (cnv_u8_u16 (n := y2) Try.underlying5 Try.underlying34)) fun a w hs => hK a w ⟨p1, p2, pF hs 12 [0] [0, 1, 2] rfl⟩
 ·intro L a w hv K Q hK
  obtain ⟨p1, p2, hs⟩ := hv
  exact wGo rfl rfl hs (Qg rfl rfl rfl rfl rfl (bin_shl_u16_u64 (a := y2.toUInt16) (n := (8 : UInt64)))) fun a w hs => hK a w ⟨p1, p2, pF hs 13 [0] [0, 1, 2] rfl⟩
 ·intro L a w hL hv
  rw [QZ hL] at hv
  obtain ⟨p1, p2, hs⟩ := hv
  refine (show TA _ _ _ 12 ⟨[(8, some (vU16 y1.toUInt16)), (15, some (vU16 (shl16 y2.toUInt16 ((8 : UInt64).toNat))))], [some (Qd b_arg1 35 [varg11])], [Fact.sl u8S varg11 arg1]⟩ from ?_) a w (hs.wkS [8, 15] [0] [0] rfl rfl rfl rfl)
  clear hs hL
  refine QL htb (by kernel_rfl) rfl rfl (Qg rfl rfl rfl rfl rfl (bin_or_u16 (a := y1.toUInt16) (b := shl16 y2.toUInt16 ((8 : UInt64).toNat)))) ?_
  refine QL htb (by kernel_rfl) rfl rfl (Zh rfl rfl rfl rfl) ?_
  refine ZW rfl ?_
  refine tW [(3, some (vU16 (y1.toUInt16 ||| (shl16 y2.toUInt16 ((8 : UInt64).toNat)))))] [some (Qd b_arg1 35 [varg11])] [Fact.sl u8S varg11 arg1] [3] [0] [0] rfl ?_
  obtain rfl := Option.some.inj h
  exact Qn rfl rfl (resA (vs := [vU16 (y1.toUInt16 ||| (shl16 y2.toUInt16 ((8 : UInt64).toNat)))]) rfl ⟨rfl, trivial⟩) [0] [] rfl rfl rfl ⟨rfl, rfl, rfl⟩

set_option maxRecDepth 100000 in
set_option maxHeartbeats 4000000 in
theorem w_frame_ReadHdr {b : List UInt8} {vb1 : Value} {r : (Hdr × Int)} (h : Zp b = some r) :
  Ctr Try.prog 54 #[vb1] [] [Fact.sl u8S vb1 b]
   (fun rv own shr => rv = .tuple #[.agg #[vU8 r.1.Flags, vU16 r.1.Start, vU16 r.1.Off, vU16 r.1.Buffers], vI r.2] ∧ own = [] ∧ shr = []) := by
 unfold Zp at h
 refine Ctr.mk (args := [vb1]) Try.func54 rfl rfl (fun R0 w0 B => ?_)
 refine Qe (Qb (Qq rfl (OpT_box1 rfl rfl rfl rfl (is_sl (i := 0) rfl)) fun b1 => ?_))
 refine Qq rfl (Zq rfl rfl rfl tyZ88) fun b2 => ?_
 refine sAs rfl rfl rfl ?_
 refine nW [(1, some (.pointer (some ⟨b1, 0, none⟩))), (2, some (.pointer (some ⟨b2, 0, none⟩)))] [some (Qd b1 35 [vb1]), some (Qd b2 88 [vU8 (0 : UInt8), vU16 (0 : UInt16), vU16 (0 : UInt16), vU16 (0 : UInt16)])] [Fact.sl u8S vb1 b] [1, 2] [0, 1] [0] rfl ?_
 refine Qe (Qe (Qb (Qa rfl (Qp rfl rfl rfl rfl tyF35 (i := 0) rfl rfl) ?_)))
 refine Qa rfl (QB rfl rfl rfl rfl Try.underlying35 (i := 0) rfl) ?_
 refine Qa rfl (Qg rfl rfl rfl rfl rfl (QK (a := len b) (b := (12 : Int)))) ?_
 refine nW [(1, some (.pointer (some ⟨b1, 0, none⟩))), (2, some (.pointer (some ⟨b2, 0, none⟩))), (7, some (vB (decide ((len b) < (12 : Int)))))] [some (Qd b1 35 [vb1]), some (Qd b2 88 [vU8 (0 : UInt8), vU16 (0 : UInt16), vU16 (0 : UInt16), vU16 (0 : UInt16)])] [Fact.sl u8S vb1 b] [1, 2, 7] [0, 1] [0] rfl ?_
 rcases bC (decide ((len b) < (12 : Int))) with hg1 | hg1
 ·replace h := br_t hg1 h
  refine Ql (cgb hg1) ?_
  refine Qe (Qb (Qa rfl (Zd (v := .agg #[vU8 (0 : UInt8), vU16 (0 : UInt16), vU16 (0 : UInt16), vU16 (0 : UInt16)]) rfl rfl rfl rfl (bldV (by kernel_rfl))) ?_))
  refine Qa rfl (QE (cs' := [vU8 (0 : UInt8), vU16 (0 : UInt16), vU16 (0 : UInt16), vU16 (0 : UInt16)]) rfl rfl rfl rfl tyF88 (i := 1) rfl rfl rfl (ZE rfl) rfl) ?_
  refine sAs rfl rfl rfl ?_
  refine nW [(2, some (.pointer (some ⟨b2, 0, none⟩))), (3, some (vI (4 : Int)))] [some (Qd b2 88 [vU8 (0 : UInt8), vU16 (0 : UInt16), vU16 (0 : UInt16), vU16 (0 : UInt16)])] [] [2, 3] [1] [] rfl ?_
  obtain rfl := Option.some.inj h
  exact Qn rfl rfl (resA (vs := [.agg #[vU8 (0 : UInt8), vU16 (0 : UInt16), vU16 (0 : UInt16), vU16 (0 : UInt16)], vI (4 : Int)]) rfl ⟨⟨_, 0, _, _, _, rfl, rfl, .inl ⟨tyF88, rfl, rfl⟩⟩, rfl, trivial⟩) [] [] rfl rfl rfl ⟨rfl, rfl, rfl⟩
 ·replace h := br_f hg1 h
  refine Qm (cgb hg1) ?_
  refine Qr (Qe (Qb (Qa rfl (OpT_makeFunc (vs := [.pointer (some ⟨b1, 0, none⟩)]) rfl rfl rfl rfl) ?_)))
  refine sAs rfl rfl rfl ?_
  refine nW [(1, some (.pointer (some ⟨b1, 0, none⟩))), (2, some (.pointer (some ⟨b2, 0, none⟩))), (4, some (.func (.func 68) #[] #[.pointer (some ⟨b1, 0, none⟩)]))] [some (Qd b1 35 [vb1]), some (Qd b2 88 [vU8 (0 : UInt8), vU16 (0 : UInt16), vU16 (0 : UInt16), vU16 (0 : UInt16)])] [Fact.sl u8S vb1 b] [1, 2, 4] [0, 1] [0] rfl ?_
  refine Qe (Zw (by kernel_rfl) ?_)
  refine TA_tb [0, 1, 3, 0, 8, 0, 56, 0, 248, 511, 1023, 2047] (by kernel_rfl) fun htb => ?_
  obtain ⟨y1, hx1, h⟩ := ob_e h
  obtain ⟨readhd1, hx2, h⟩ := ob_e h
  obtain ⟨readhd2, hx3, h⟩ := ob_e h
  obtain ⟨readhd3, hx4, h⟩ := ob_e h
  refine Zs (lo := 0) (hi := 9) htb rfl rfl (by kernel_rfl) (fun c L a w => ∃ (p1 : Value), Sat c ⟨[(1, some (.pointer (some ⟨b1, 0, none⟩))), (2, some (.pointer (some ⟨b2, 0, none⟩))), (4, some (.func (.func 68) #[] #[.pointer (some ⟨b1, 0, none⟩)])), (10, bif L 0 then some (vb1) else none), (11, bif L 1 then some (p1) else none), (12, bif L 2 then some (vU8 y1) else none), (13, bif L 3 then some (.func (.func 68) #[] #[.pointer (some ⟨b1, 0, none⟩)]) else none), (14, bif L 4 then some (vU16 readhd1) else none), (15, bif L 5 then some (.func (.func 68) #[] #[.pointer (some ⟨b1, 0, none⟩)]) else none), (16, bif L 6 then some (vU16 readhd2) else none), (17, bif L 7 then some (.func (.func 68) #[] #[.pointer (some ⟨b1, 0, none⟩)]) else none), (18, bif L 8 then some (vU16 readhd3) else none)], [(some (Qd b1 35 [vb1]) : Option Res), (some (Qd b2 88 [vU8 (0 : UInt8), vU16 (0 : UInt16), vU16 (0 : UInt16), vU16 (0 : UInt16)]) : Option Res)], [Fact.sl u8S vb1 b, (bif L 1 then Fact.pt u8S p1 y1 else Fact.tt)]⟩ a w) [([], [1, 2]), ([0], [2]), ([0, 1], []), ([], [4, 6, 8]), ([3], [6, 8]), ([], [6, 8]), ([3, 4, 5], [8]), ([], [8]), ([3, 4, 5, 6, 7], [])] rfl (by kernel_rfl) ?_ (Qc ?_ (Qc ?_ (Qc ?_ (Qc ?_ (Qc ?_ (Qc ?_ (Qc ?_ (Qc ?_ (Qc ?_ (QH)))))))))) ?_
  ·intro a w hs
   exact ⟨undef, hs.startF [10, 11, 12, 13, 14, 15, 16, 17, 18] [0, 1] [0, 1] rfl rfl rfl rfl⟩
  ·intro L a w hv K Q hK
   obtain ⟨p1, hs⟩ := hv
   exact wGo rfl rfl hs (Qp rfl rfl rfl rfl tyF35 (i := 0) rfl rfl) fun a w hs => hK a w ⟨p1, pF hs 3 [0, 1] [0, 1] rfl⟩
  ·intro L a w hv K Q hK
   obtain ⟨p1, hs⟩ := hv
   refine QG rfl rfl hs (QA rfl rfl rfl rfl rfl Xg (i := 0) rfl hx1) ?_
   rintro _ ⟨p1', rfl⟩ a' w' hs'
   exact hK a' w' ⟨p1', hs'.putF (i := 4) rfl [0, 1] [0, 2] rfl rfl rfl rfl⟩
  ·intro L a w hv K Q hK
   obtain ⟨p1, hs⟩ := hv
   exact wGo rfl rfl hs (QC rfl rfl rfl rfl tyF5 (i := 1) rfl rfl) fun a w hs => hK a w ⟨p1, pF hs 5 [0, 1] [0, 1] rfl⟩
  ·intro L a w hv K Q hK
   obtain ⟨p1, hs⟩ := hv
   exact wGo rfl rfl hs (Qk rfl rfl rfl rfl) fun a w hs => hK a w ⟨p1, pF hs 6 [0, 1] [0, 1] rfl⟩
  ·intro L a w hv K Q hK
   obtain ⟨p1, hs⟩ := hv
   refine QG rfl rfl hs (QW [2, 1] (w_frame_ReadHdr_1 hx2) [0] [0] rfl rfl rfl rfl rfl callee68 rfl rfl rfl rfl rfl) ?_
   rintro _ ⟨_, _, _, ⟨rfl, rfl, rfl⟩, rfl⟩ a' w' hs'
   exact hK a' w' ⟨p1, hs'.putF (i := 7) rfl [0, 1] [0, 1] rfl rfl rfl rfl⟩
  ·intro L a w hv K Q hK
   obtain ⟨p1, hs⟩ := hv
   exact wGo rfl rfl hs (Qk rfl rfl rfl rfl) fun a w hs => hK a w ⟨p1, pF hs 8 [0, 1] [0, 1] rfl⟩
  ·intro L a w hv K Q hK
   obtain ⟨p1, hs⟩ := hv
   refine QG rfl rfl hs (QW [2, 1] (w_frame_ReadHdr_1 hx3) [0] [0] rfl rfl rfl rfl rfl callee68 rfl rfl rfl rfl rfl) ?_
   rintro _ ⟨_, _, _, ⟨rfl, rfl, rfl⟩, rfl⟩ a' w' hs'
   exact hK a' w' ⟨p1, hs'.putF (i := 9) rfl [0, 1] [0, 1] rfl rfl rfl rfl⟩
  ·intro L a w hv K Q hK
   obtain ⟨p1, hs⟩ := hv
   exact wGo rfl rfl hs (Qk rfl rfl rfl rfl) fun a w hs => hK a w ⟨p1, pF hs 10 [0, 1] [0, 1] rfl⟩
  ·intro L a w hv K Q hK
   obtain ⟨p1, hs⟩ := hv
   refine QG rfl rfl hs (QW [2, 1] (w_frame_ReadHdr_1 hx4) [0] [0] rfl rfl rfl rfl rfl callee68 rfl rfl rfl rfl rfl) ?_
   rintro _ ⟨_, _, _, ⟨rfl, rfl, rfl⟩, rfl⟩ a' w' hs'
   exact hK a' w' ⟨p1, hs'.putF (i := 11) rfl [0, 1] [0, 1] rfl rfl rfl rfl⟩
  ·intro L a w hL hv
   rw [QZ hL] at hv
   obtain ⟨p1, hs⟩ := hv
   refine (show TA _ _ _ 9 ⟨[(2, some (.pointer (some ⟨b2, 0, none⟩))), (12, some (vU8 y1)), (14, some (vU16 readhd1)), (16, some (vU16 readhd2)), (18, some (vU16 readhd3))], [some (Qd b2 88 [vU8 (0 : UInt8), vU16 (0 : UInt16), vU16 (0 : UInt16), vU16 (0 : UInt16)])], []⟩ from ?_) a w (hs.wkS [2, 12, 14, 16, 18] [1] [] rfl rfl rfl rfl)
   clear hs hL
   refine QL htb (by kernel_rfl) rfl rfl (Zd (v := .agg #[vU8 y1, vU16 readhd1, vU16 readhd2, vU16 readhd3]) rfl rfl rfl rfl (bldV (by kernel_rfl))) ?_
   refine QL htb (by kernel_rfl) rfl rfl (QE (cs' := [vU8 y1, vU16 readhd1, vU16 readhd2, vU16 readhd3]) rfl rfl rfl rfl tyF88 (i := 0) rfl rfl rfl (ZE rfl) rfl) ?_
   refine QL htb (by kernel_rfl) rfl rfl (Zh rfl rfl rfl rfl) ?_
   refine ZW rfl ?_
   refine tW [(2, some (.pointer (some ⟨b2, 0, none⟩))), (3, some (vI (0 : Int)))] [some (Qd b2 88 [vU8 y1, vU16 readhd1, vU16 readhd2, vU16 readhd3])] [] [2, 3] [0] [] rfl ?_
   obtain rfl := Option.some.inj h
   exact Qn rfl rfl (resA (vs := [.agg #[vU8 y1, vU16 readhd1, vU16 readhd2, vU16 readhd3], vI (0 : Int)]) rfl ⟨⟨_, 0, _, _, _, rfl, rfl, .inl ⟨tyF88, rfl, rfl⟩⟩, rfl, trivial⟩) [] [] rfl rfl rfl ⟨rfl, rfl, rfl⟩
end Go.Proofs.Ytgcbcnpbnonnjaa
