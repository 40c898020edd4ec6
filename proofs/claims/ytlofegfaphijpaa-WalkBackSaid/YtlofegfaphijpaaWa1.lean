/- The functions do what the plain words say: each is walked once. No statement of the seat is proved here; no condition. -/
import Derived.Test.YtlofegfaphijpaaMo1
import Derived.Test.YtlofegfaphijpaaFc
namespace Go.Proofs.Ytlofegfaphijpaa
attribute [local irreducible] sub
set_option maxRecDepth 100000 in
set_option maxHeartbeats 4000000 in
theorem w_ref_Power01 {np0 : Int} {r : Bool} (h : ref_Power01 np0 = some r) :
  Ctr Try.prog 114 #[vI np0] [] []
   (fun rv own shr => rv = vB r ∧ own = [] ∧ shr = []) := by
 unfold ref_Power01 at h
 refine Ctr.mk (args := [vI np0]) Try.func114 rfl rfl (fun R0 w0 B => ?_)
 refine Qe (Qc (sAs rfl rfl rfl ?_))
 refine Qd (tZ [0] [] [] rfl rfl rfl rfl ?_)
 refine Qe (Qe (Qc (sAs rfl rfl rfl ?_)))
 refine Qd (QC (Zf (σ := Int) [0, 3] [] [] (fun s => ⟨[(0, some (vI np0)), (3, some (vI s))], [], []⟩) (fun nf1 s => ref_Power01L1 np0 nf1 s = some r) fuel (1 : Int) h rfl rfl rfl rfl rfl (fun s h => by cases h) ?_))
 rintro nf1 k1 h
 replace h : ref_Power01L1B np0 (ref_Power01L1 np0 nf1) k1 = some r := h
 unfold ref_Power01L1B at h
 refine Qe (Qe (Qc (sMv rfl rfl rfl ?_)))
 refine Qa rfl (Qf rfl rfl rfl rfl rfl (bin_leq_i (a := k1) (b := (32768 : Int)))) ?_
 refine Qd (tZ [0, 3, 5] [] [] rfl rfl rfl rfl ?_)
 rcases bC (decide (k1 ≤ (32768 : Int))) with hg1 | hg1
 ·replace h := br_t hg1 h
  refine Ql (cgb hg1) ?_
  refine Qt (Qe (QC (Qe (Qc (sMv rfl rfl rfl ?_)))))
  refine sMv rfl rfl rfl ?_
  refine Qa rfl (Qf rfl rfl rfl rfl rfl (ZG (a := k1) (b := np0))) ?_
  refine Qd (tZ [0, 3, 10] [] [] rfl rfl rfl rfl ?_)
  rcases bC (k1 == np0) with hg2 | hg2
  ·replace h := br_t hg2 h
   refine Ql (cgb hg2) ?_
   refine Qe (Qc (sAs rfl rfl rfl ?_))
   refine Qd (tZ [2] [] [] rfl rfl rfl rfl ?_)
   obtain rfl := Option.some.inj h
   exact Qn rfl rfl (resA (vs := [vB true]) rfl ⟨rfl, trivial⟩) [] [] rfl rfl rfl ⟨rfl, rfl, rfl⟩
  ·replace h := br_f hg2 h
   refine Qp (cgb hg2) ?_
   refine Qt (Zx (Qc (sMv rfl rfl rfl ?_)))
   refine Qa rfl (Qf rfl rfl rfl rfl rfl (YE (a := (2 : Int)) (b := k1))) ?_
   refine sAs rfl rfl rfl ?_
   refine Qd (tZ [0, 3] [] [] rfl rfl rfl rfl ?_)
   exact QY (wi ((2 : Int) * k1)) h [0, 3] [] [] rfl rfl rfl rfl rfl
 ·replace h := br_f hg1 h
  refine Qp (cgb hg1) ?_
  refine Zv _ rfl ?_
  refine Qe (Qc (sAs rfl rfl rfl ?_))
  refine Qd (tZ [2] [] [] rfl rfl rfl rfl ?_)
  obtain rfl := Option.some.inj h
  exact Qn rfl rfl (resA (vs := [vB false]) rfl ⟨rfl, trivial⟩) [] [] rfl rfl rfl ⟨rfl, rfl, rfl⟩

set_option maxRecDepth 100000 in
set_option maxHeartbeats 4000000 in
theorem w_ref_size04 {packed : Bool} {np1 : Int} {r : Bool} (h : ref_size04 packed np1 = some r) :
  Ctr Try.prog 89 #[vB packed, vI np1] [] []
   (fun rv own shr => rv = vB r ∧ own = [] ∧ shr = []) := by
 unfold ref_size04 at h
 refine Ctr.mk (args := [vB packed, vI np1]) Try.func89 rfl rfl (fun R0 w0 B => ?_)
 refine Qe (Qc (sAs rfl rfl rfl ?_))
 refine Qd (tZ [0, 1] [] [] rfl rfl rfl rfl ?_)
 refine Qe (Qc (sMv rfl rfl rfl ?_))
 refine Qa rfl (Qf rfl rfl rfl rfl rfl (YF (a := np1) (b := (1 : Int)))) ?_
 refine sMv rfl rfl rfl ?_
 rcases bC (decide (np1 ≥ (1 : Int))) with hg1 | hg1
 ·replace h := br_t hg1 h
  refine Qh rfl rfl (cgb hg1) (Qk rfl rfl rfl rfl) ?_
  rintro _ rfl
  refine Qh rfl rfl (cgb hg1) (Qf rfl rfl rfl rfl rfl (bin_leq_i (a := np1) (b := (32768 : Int)))) ?_
  rintro _ rfl
  refine Qa rfl (Qr rfl rfl rfl (cgb hg1) rfl) ?_
  refine sMv rfl rfl rfl ?_
  rcases bC (decide (np1 ≤ (32768 : Int))) with hg2 | hg2
  ·replace h := br_t hg2 h
   refine Qh rfl rfl (cgb hg2) (Qk rfl rfl rfl rfl) ?_
   rintro _ rfl
   refine Qh rfl rfl (cgb hg2) (Qk rfl rfl rfl rfl) ?_
   rintro _ rfl
   rcases bC (packed) with hg3 | hg3
   ·replace h := br_t hg3 h
    refine Qg rfl rfl (cgb hg3) rfl rfl ?_
    refine Qg rfl rfl (cgb hg3) rfl rfl ?_
    refine Qh rfl rfl (cgb hg2) (Qr rfl rfl rfl (cgb hg3) rfl) ?_
    rintro _ rfl
    refine Qa rfl (Qr rfl rfl rfl (cgb hg2) rfl) ?_
    refine sAs rfl rfl rfl ?_
    refine Qd (tZ [4] [] [] rfl rfl rfl rfl ?_)
    obtain rfl := Option.some.inj h
    exact Qn rfl rfl (resA (vs := [vB true]) rfl ⟨rfl, trivial⟩) [] [] rfl rfl rfl ⟨rfl, rfl, rfl⟩
   ·replace h := br_f hg3 h
    refine Qh rfl rfl (cgb hg3) (Qk rfl rfl rfl rfl) ?_
    rintro _ rfl
    obtain ⟨power1, hx1, h⟩ := ob_e h
    refine Qh rfl rfl (cgb hg3) (Qv (w_ref_Power01 hx1) [] [] rfl rfl rfl rfl rfl callee114 rfl rfl rfl rfl) ?_
    rintro _ ⟨_, _, _, ⟨rfl, rfl, rfl⟩, rfl⟩
    refine Qh rfl rfl (cgb hg2) (Qw rfl rfl rfl (cgb hg3) rfl) ?_
    rintro _ rfl
    refine Qa rfl (Qr rfl rfl rfl (cgb hg2) rfl) ?_
    refine sAs rfl rfl rfl ?_
    refine Qd (tZ [4] [] [] rfl rfl rfl rfl ?_)
    obtain rfl := Option.some.inj h
    exact Qn rfl rfl (resA (vs := [vB power1]) rfl ⟨rfl, trivial⟩) [] [] rfl rfl rfl ⟨rfl, rfl, rfl⟩
  ·replace h := br_f hg2 h
   refine Qg rfl rfl (cgb hg2) rfl rfl ?_
   refine Qg rfl rfl (cgb hg2) rfl rfl ?_
   refine QP rfl rfl rfl rfl rfl ?_
   refine QP rfl rfl rfl rfl rfl ?_
   refine Qg rfl rfl (cgb hg2) rfl rfl ?_
   refine Qa rfl (Qw rfl rfl rfl (cgb hg2) rfl) ?_
   refine sAs rfl rfl rfl ?_
   refine Qd (tZ [4] [] [] rfl rfl rfl rfl ?_)
   obtain rfl := Option.some.inj h
   exact Qn rfl rfl (resA (vs := [vB false]) rfl ⟨rfl, trivial⟩) [] [] rfl rfl rfl ⟨rfl, rfl, rfl⟩
 ·replace h := br_f hg1 h
  refine Qg rfl rfl (cgb hg1) rfl rfl ?_
  refine Qg rfl rfl (cgb hg1) rfl rfl ?_
  refine Qa rfl (Qw rfl rfl rfl (cgb hg1) rfl) ?_
  refine sMv rfl rfl rfl ?_
  refine Qg rfl rfl rfl rfl rfl ?_
  refine Qg rfl rfl rfl rfl rfl ?_
  refine QP rfl rfl rfl rfl rfl ?_
  refine QP rfl rfl rfl rfl rfl ?_
  refine Qg rfl rfl rfl rfl rfl ?_
  refine Qa rfl (Qw rfl rfl rfl rfl rfl) ?_
  refine sAs rfl rfl rfl ?_
  refine Qd (tZ [4] [] [] rfl rfl rfl rfl ?_)
  obtain rfl := Option.some.inj h
  exact Qn rfl rfl (resA (vs := [vB false]) rfl ⟨rfl, trivial⟩) [] [] rfl rfl rfl ⟨rfl, rfl, rfl⟩

set_option maxRecDepth 100000 in
set_option maxHeartbeats 4000000 in
theorem w_ref_Parts04 {rp0 : Rings} {r : (UInt64 × UInt64 × UInt64)} (h : ref_Parts04 rp0 = some r) :
  Ctr Try.prog 43 #[.agg #[vB rp0.Packed, vI rp0.Size, vU64 rp0.Desc, vU64 rp0.Driver, vU64 rp0.Device]] [] []
   (fun rv own shr => rv = .tuple #[vU64 r.1, vU64 r.2.1, vU64 r.2.2] ∧ own = [] ∧ shr = []) := by
 unfold ref_Parts04 at h
 refine Ctr.mk (args := [.agg #[vB rp0.Packed, vI rp0.Size, vU64 rp0.Desc, vU64 rp0.Driver, vU64 rp0.Device]]) Try.func43 rfl rfl (fun R0 w0 B => ?_)
 refine Qe (Qc (Qu rfl (ZA rfl rfl rfl rfl) fun b1 => ?_))
 refine sAs rfl rfl rfl ?_
 refine sAs rfl rfl rfl ?_
 refine sAs rfl rfl rfl ?_
 refine Qd (tZ [1] [0] [] rfl rfl rfl rfl ?_)
 refine Qe (Qe (Qc (Qa rfl (Qi rfl rfl rfl rfl fldF29x0) ?_)))
 refine Qa rfl (Qj rfl rfl rfl rfl tyF4 (i := 0) rfl rfl) ?_
 refine Qa rfl (Qi rfl rfl rfl rfl Jg) ?_
 refine Qa rfl (Qj rfl rfl rfl rfl tyF3 (i := 0) rfl rfl) ?_
 obtain ⟨size1, hx1, h⟩ := ob_e h
 refine Qs rfl (Qv (w_ref_size04 hx1) [] [] rfl rfl rfl rfl rfl callee89 rfl rfl rfl rfl) ?_
 rintro _ ⟨_, _, _, ⟨rfl, rfl, rfl⟩, rfl⟩
 refine Qa rfl (XO rfl rfl rfl rfl) ?_
 refine Qd (tZ [1, 11] [0] [] rfl rfl rfl rfl ?_)
 rcases bC ((!size1)) with hg1 | hg1
 ·replace h := br_t hg1 h
  refine Ql (cgb hg1) ?_
  refine Qe (Qc (sAs rfl rfl rfl ?_))
  refine sAs rfl rfl rfl ?_
  refine sAs rfl rfl rfl ?_
  refine Qd (tZ [2, 3, 4] [] [] rfl rfl rfl rfl ?_)
  obtain rfl := Option.some.inj h
  exact Qn rfl rfl (resA (vs := [vU64 (0 : UInt64), vU64 (0 : UInt64), vU64 (0 : UInt64)]) rfl ⟨rfl, rfl, rfl, trivial⟩) [] [] rfl rfl rfl ⟨rfl, rfl, rfl⟩
 ·replace h := br_f hg1 h
  refine Qp (cgb hg1) ?_
  refine Qt (Qe (Qc (Qa rfl (Qi rfl rfl rfl rfl Jg) ?_)))
  refine Qa rfl (Qj rfl rfl rfl rfl tyF3 (i := 0) rfl rfl) ?_
  refine Qa rfl (QX rfl rfl rfl rfl (Xw (n := rp0.Size) Try.underlying3 Try.underlying27)) ?_
  refine sAs rfl rfl rfl ?_
  refine Qd (tZ [1, 5] [0] [] rfl rfl rfl rfl ?_)
  refine Qe (Qe (Qc (Qa rfl (Qi rfl rfl rfl rfl fldF29x0) ?_)))
  refine Qa rfl (Qj rfl rfl rfl rfl tyF4 (i := 0) rfl rfl) ?_
  refine Qd (tZ [5, 16] [] [] rfl rfl rfl rfl ?_)
  rcases bC (rp0.Packed) with hg2 | hg2
  ·replace h := br_t hg2 h
   refine Ql (cgb hg2) ?_
   refine Qe (Qc (sMv rfl rfl rfl ?_))
   refine Qa rfl (Qf rfl rfl rfl rfl rfl (ZQ (a := (16 : UInt64)) (b := u64 rp0.Size))) ?_
   refine sAs rfl rfl rfl ?_
   refine sAs rfl rfl rfl ?_
   refine sAs rfl rfl rfl ?_
   refine Qd (tZ [2, 3, 4] [] [] rfl rfl rfl rfl ?_)
   obtain rfl := Option.some.inj h
   exact Qn rfl rfl (resA (vs := [vU64 ((16 : UInt64) * (u64 rp0.Size)), vU64 (4 : UInt64), vU64 (4 : UInt64)]) rfl ⟨rfl, rfl, rfl, trivial⟩) [] [] rfl rfl rfl ⟨rfl, rfl, rfl⟩
  ·replace h := br_f hg2 h
   refine Qp (cgb hg2) ?_
   refine Qt (Qe (Qc (sMv rfl rfl rfl ?_)))
   refine Qa rfl (Qf rfl rfl rfl rfl rfl (ZQ (a := (16 : UInt64)) (b := u64 rp0.Size))) ?_
   refine sMv rfl rfl rfl ?_
   refine Qa rfl (Qf rfl rfl rfl rfl rfl (ZQ (a := (2 : UInt64)) (b := u64 rp0.Size))) ?_
   refine Qa rfl (Qf rfl rfl rfl rfl rfl (Za (a := (6 : UInt64)) (b := (2 : UInt64) * (u64 rp0.Size)))) ?_
   refine sMv rfl rfl rfl ?_
   refine Qa rfl (Qf rfl rfl rfl rfl rfl (ZQ (a := (8 : UInt64)) (b := u64 rp0.Size))) ?_
   refine Qa rfl (Qf rfl rfl rfl rfl rfl (Za (a := (6 : UInt64)) (b := (8 : UInt64) * (u64 rp0.Size)))) ?_
   refine sAs rfl rfl rfl ?_
   refine sAs rfl rfl rfl ?_
   refine sAs rfl rfl rfl ?_
   refine Qd (tZ [2, 3, 4] [] [] rfl rfl rfl rfl ?_)
   obtain rfl := Option.some.inj h
   exact Qn rfl rfl (resA (vs := [vU64 ((16 : UInt64) * (u64 rp0.Size)), vU64 ((6 : UInt64) + ((2 : UInt64) * (u64 rp0.Size))), vU64 ((6 : UInt64) + ((8 : UInt64) * (u64 rp0.Size)))]) rfl ⟨rfl, rfl, rfl, trivial⟩) [] [] rfl rfl rfl ⟨rfl, rfl, rfl⟩

set_option maxRecDepth 100000 in
set_option maxHeartbeats 4000000 in
theorem w_ref_Align01 {np0 : UInt64} {top1 : UInt64} {r : (UInt64 × Int)} (h : ref_Align01 np0 top1 = some r) :
  Ctr Try.prog 44 #[vU64 np0, vU64 top1] [] []
   (fun rv own shr => rv = .tuple #[vU64 r.1, vI r.2] ∧ own = [] ∧ shr = []) := by
 unfold ref_Align01 at h
 refine Ctr.mk (args := [vU64 np0, vU64 top1]) Try.func44 rfl rfl (fun R0 w0 B => ?_)
 refine Qe (Qc (sAs rfl rfl rfl ?_))
 refine sAs rfl rfl rfl ?_
 refine Qd (tZ [0, 1] [] [] rfl rfl rfl rfl ?_)
 refine Qe (Qe (Qc (sMv rfl rfl rfl ?_)))
 refine Qa rfl (Qf rfl rfl rfl rfl rfl (bin_eql_u64 (a := top1) (b := (0 : UInt64)))) ?_
 refine sMv rfl rfl rfl ?_
 rcases bC (top1 == (0 : UInt64)) with hg1 | hg1
 ·replace h := br_t hg1 h
  refine Qg rfl rfl (cgb hg1) rfl rfl ?_
  refine Qg rfl rfl (cgb hg1) rfl rfl ?_
  refine Qg rfl rfl (cgb hg1) rfl rfl ?_
  refine Qg rfl rfl (cgb hg1) rfl rfl ?_
  refine Qg rfl rfl (cgb hg1) rfl rfl ?_
  refine Qa rfl (Qr rfl rfl rfl (cgb hg1) rfl) ?_
  refine Qd (tZ [0, 1, 15] [] [] rfl rfl rfl rfl ?_)
  refine Ql rfl ?_
  refine Qe (Qc (sAs rfl rfl rfl ?_))
  refine sAs rfl rfl rfl ?_
  refine Qd (tZ [4, 5] [] [] rfl rfl rfl rfl ?_)
  obtain rfl := Option.some.inj h
  exact Qn rfl rfl (resA (vs := [vU64 (0 : UInt64), vI (2 : Int)]) rfl ⟨rfl, rfl, trivial⟩) [] [] rfl rfl rfl ⟨rfl, rfl, rfl⟩
 ·replace h := br_f hg1 h
  refine Qh rfl rfl (cgb hg1) (Qk rfl rfl rfl rfl) ?_
  rintro _ rfl
  refine Qh rfl rfl (cgb hg1) (Qk rfl rfl rfl rfl) ?_
  rintro _ rfl
  refine Qh rfl rfl (cgb hg1) (Qf rfl rfl rfl rfl rfl (Zc (a := top1) (b := (1 : UInt64)))) ?_
  rintro _ rfl
  refine Qh rfl rfl (cgb hg1) (Qf rfl rfl rfl rfl rfl (bin_and_u64 (a := top1) (b := top1 - (1 : UInt64)))) ?_
  rintro _ rfl
  refine Qh rfl rfl (cgb hg1) (Qf rfl rfl rfl rfl rfl (bin_neq_u64 (a := top1 &&& (top1 - (1 : UInt64))) (b := (0 : UInt64)))) ?_
  rintro _ rfl
  refine Qa rfl (Qw rfl rfl rfl (cgb hg1) rfl) ?_
  refine Qd (tZ [0, 1, 15] [] [] rfl rfl rfl rfl ?_)
  rcases bC ((top1 &&& (top1 - (1 : UInt64))) != (0 : UInt64)) with hg2 | hg2
  ·replace h := br_t hg2 h
   refine Ql (cgb hg2) ?_
   refine Qe (Qc (sAs rfl rfl rfl ?_))
   refine sAs rfl rfl rfl ?_
   refine Qd (tZ [4, 5] [] [] rfl rfl rfl rfl ?_)
   obtain rfl := Option.some.inj h
   exact Qn rfl rfl (resA (vs := [vU64 (0 : UInt64), vI (2 : Int)]) rfl ⟨rfl, rfl, trivial⟩) [] [] rfl rfl rfl ⟨rfl, rfl, rfl⟩
  ·replace h := br_f hg2 h
   refine Qp (cgb hg2) ?_
   refine Qt (Qe (Qe (Qc (sMv rfl rfl rfl ?_))))
   refine sMv rfl rfl rfl ?_
   obtain ⟨hc1, h⟩ := ZK h
   refine Qa rfl (Qf rfl rfl rfl rfl rfl (bin_rem_u64 (a := np0) (b := top1) (not_t hc1))) ?_
   refine Qa rfl (Qf rfl rfl rfl rfl rfl (bin_eql_u64 (a := np0 % top1) (b := (0 : UInt64)))) ?_
   refine Qd (tZ [0, 1, 19] [] [] rfl rfl rfl rfl ?_)
   rcases bC ((np0 % top1) == (0 : UInt64)) with hg3 | hg3
   ·replace h := br_t hg3 h
    refine Ql (cgb hg3) ?_
    refine Qe (Qc (sMv rfl rfl rfl ?_))
    refine sAs rfl rfl rfl ?_
    refine sAs rfl rfl rfl ?_
    refine Qd (tZ [4, 5] [] [] rfl rfl rfl rfl ?_)
    obtain rfl := Option.some.inj h
    exact Qn rfl rfl (resA (vs := [vU64 np0, vI (0 : Int)]) rfl ⟨rfl, rfl, trivial⟩) [] [] rfl rfl rfl ⟨rfl, rfl, rfl⟩
   ·replace h := br_f hg3 h
    refine Qp (cgb hg3) ?_
    refine Qt (Qe (Qc (sMv rfl rfl rfl ?_)))
    refine sMv rfl rfl rfl ?_
    refine sMv rfl rfl rfl ?_
    obtain ⟨hc2, h⟩ := ZK h
    refine Qa rfl (Qf rfl rfl rfl rfl rfl (bin_rem_u64 (a := np0) (b := top1) (not_t hc2))) ?_
    refine Qa rfl (Qf rfl rfl rfl rfl rfl (Zc (a := np0) (b := np0 % top1))) ?_
    refine sMv rfl rfl rfl ?_
    refine Qa rfl (Qf rfl rfl rfl rfl rfl (Za (a := np0 - (np0 % top1)) (b := top1))) ?_
    refine sAs rfl rfl rfl ?_
    refine Qd (tZ [0, 6] [] [] rfl rfl rfl rfl ?_)
    refine Qe (Qe (Qc (sMv rfl rfl rfl ?_)))
    refine sMv rfl rfl rfl ?_
    refine Qa rfl (Qf rfl rfl rfl rfl rfl (ZD (a := (np0 - (np0 % top1)) + top1) (b := np0))) ?_
    refine Qd (tZ [6, 30] [] [] rfl rfl rfl rfl ?_)
    rcases bC (decide (((np0 - (np0 % top1)) + top1) < np0)) with hg4 | hg4
    ·replace h := br_t hg4 h
     refine Ql (cgb hg4) ?_
     refine Qe (Qc (sAs rfl rfl rfl ?_))
     refine sAs rfl rfl rfl ?_
     refine Qd (tZ [4, 5] [] [] rfl rfl rfl rfl ?_)
     obtain rfl := Option.some.inj h
     exact Qn rfl rfl (resA (vs := [vU64 (0 : UInt64), vI (2 : Int)]) rfl ⟨rfl, rfl, trivial⟩) [] [] rfl rfl rfl ⟨rfl, rfl, rfl⟩
    ·replace h := br_f hg4 h
     refine Qp (cgb hg4) ?_
     refine Qt (Qe (Qc (sMv rfl rfl rfl ?_)))
     refine sAs rfl rfl rfl ?_
     refine sAs rfl rfl rfl ?_
     refine Qd (tZ [4, 5] [] [] rfl rfl rfl rfl ?_)
     obtain rfl := Option.some.inj h
     exact Qn rfl rfl (resA (vs := [vU64 ((np0 - (np0 % top1)) + top1), vI (0 : Int)]) rfl ⟨rfl, rfl, trivial⟩) [] [] rfl rfl rfl ⟨rfl, rfl, rfl⟩

set_option maxRecDepth 100000 in
set_option maxHeartbeats 4000000 in
theorem w_ref_common04 {ap0 : UInt64} {np1 : UInt64} {b : UInt64} {m : UInt64} {r : Bool} (h : ref_common04 ap0 np1 b m = some r) :
  Ctr Try.prog 90 #[vU64 ap0, vU64 np1, vU64 b, vU64 m] [] []
   (fun rv own shr => rv = vB r ∧ own = [] ∧ shr = []) := by
 unfold ref_common04 at h
 refine Ctr.mk (args := [vU64 ap0, vU64 np1, vU64 b, vU64 m]) Try.func90 rfl rfl (fun R0 w0 B => ?_)
 refine Qe (Qc (sAs rfl rfl rfl ?_))
 refine Qd (tZ [0, 1, 2, 3] [] [] rfl rfl rfl rfl ?_)
 refine Qe (Qc (sMv rfl rfl rfl ?_))
 refine Qa rfl (Qf rfl rfl rfl rfl rfl (Xu (a := np1) (b := (0 : UInt64)))) ?_
 refine sMv rfl rfl rfl ?_
 rcases bC (decide (np1 > (0 : UInt64))) with hg1 | hg1
 ·replace h := br_t hg1 h
  refine Qh rfl rfl (cgb hg1) (Qk rfl rfl rfl rfl) ?_
  rintro _ rfl
  refine Qh rfl rfl (cgb hg1) (Qf rfl rfl rfl rfl rfl (Xu (a := m) (b := (0 : UInt64)))) ?_
  rintro _ rfl
  refine Qa rfl (Qr rfl rfl rfl (cgb hg1) rfl) ?_
  refine sMv rfl rfl rfl ?_
  rcases bC (decide (m > (0 : UInt64))) with hg2 | hg2
  ·replace h := br_t hg2 h
   refine Qh rfl rfl (cgb hg2) (Qk rfl rfl rfl rfl) ?_
   rintro _ rfl
   refine Qh rfl rfl (cgb hg2) (Qk rfl rfl rfl rfl) ?_
   rintro _ rfl
   refine Qh rfl rfl (cgb hg2) (Qf rfl rfl rfl rfl rfl (bin_leq_u64 (a := ap0) (b := b))) ?_
   rintro _ rfl
   refine Qh rfl rfl (cgb hg2) (Qk rfl rfl rfl rfl) ?_
   rintro _ rfl
   rcases bC (decide (ap0 ≤ b)) with hg3 | hg3
   ·replace h := br_t hg3 h
    refine Qh rfl rfl (cgb hg3) (Qk rfl rfl rfl rfl) ?_
    rintro _ rfl
    refine Qh rfl rfl (cgb hg3) (Qk rfl rfl rfl rfl) ?_
    rintro _ rfl
    refine Qh rfl rfl (cgb hg3) (Qf rfl rfl rfl rfl rfl (Zc (a := b) (b := ap0))) ?_
    rintro _ rfl
    refine Qh rfl rfl (cgb hg3) (Qk rfl rfl rfl rfl) ?_
    rintro _ rfl
    refine Qh rfl rfl (cgb hg3) (Qf rfl rfl rfl rfl rfl (ZD (a := b - ap0) (b := np1))) ?_
    rintro _ rfl
    refine Qh rfl rfl (cgb hg2) (Qr rfl rfl rfl (cgb hg3) rfl) ?_
    rintro _ rfl
    refine Qh rfl rfl (cgb hg2) (Qk rfl rfl rfl rfl) ?_
    rintro _ rfl
    rcases bC (decide ((b - ap0) < np1)) with hg4 | hg4
    ·replace h := br_t hg4 h
     refine Qg rfl rfl (cgb hg4) rfl rfl ?_
     refine Qg rfl rfl (cgb hg4) rfl rfl ?_
     refine Qg rfl rfl (cgb hg4) rfl rfl ?_
     refine Qg rfl rfl (cgb hg4) rfl rfl ?_
     refine QP rfl rfl rfl rfl rfl ?_
     refine QP rfl rfl rfl rfl rfl ?_
     refine QP rfl rfl rfl rfl rfl ?_
     refine QP rfl rfl rfl rfl rfl ?_
     refine QP rfl rfl rfl rfl rfl ?_
     refine Qg rfl rfl (cgb hg4) rfl rfl ?_
     refine Qh rfl rfl (cgb hg2) (Qr rfl rfl rfl (cgb hg4) rfl) ?_
     rintro _ rfl
     refine Qa rfl (Qr rfl rfl rfl (cgb hg2) rfl) ?_
     refine sAs rfl rfl rfl ?_
     refine Qd (tZ [8] [] [] rfl rfl rfl rfl ?_)
     obtain rfl := Option.some.inj h
     exact Qn rfl rfl (resA (vs := [vB true]) rfl ⟨rfl, trivial⟩) [] [] rfl rfl rfl ⟨rfl, rfl, rfl⟩
    ·replace h := br_f hg4 h
     refine Qh rfl rfl (cgb hg4) (Qk rfl rfl rfl rfl) ?_
     rintro _ rfl
     refine Qh rfl rfl (cgb hg4) (Qk rfl rfl rfl rfl) ?_
     rintro _ rfl
     refine Qh rfl rfl (cgb hg4) (Qf rfl rfl rfl rfl rfl (ZD (a := b) (b := ap0))) ?_
     rintro _ rfl
     refine Qh rfl rfl (cgb hg4) (Qk rfl rfl rfl rfl) ?_
     rintro _ rfl
     rcases bC (decide (b < ap0)) with hg5 | hg5
     ·replace h := br_t hg5 h
      refine Qh rfl rfl (cgb hg5) (Qk rfl rfl rfl rfl) ?_
      rintro _ rfl
      refine Qh rfl rfl (cgb hg5) (Qk rfl rfl rfl rfl) ?_
      rintro _ rfl
      refine Qh rfl rfl (cgb hg5) (Qf rfl rfl rfl rfl rfl (Zc (a := ap0) (b := b))) ?_
      rintro _ rfl
      refine Qh rfl rfl (cgb hg5) (Qk rfl rfl rfl rfl) ?_
      rintro _ rfl
      refine Qh rfl rfl (cgb hg5) (Qf rfl rfl rfl rfl rfl (ZD (a := ap0 - b) (b := m))) ?_
      rintro _ rfl
      refine Qh rfl rfl (cgb hg4) (Qr rfl rfl rfl (cgb hg5) rfl) ?_
      rintro _ rfl
      refine Qh rfl rfl (cgb hg2) (Qw rfl rfl rfl (cgb hg4) rfl) ?_
      rintro _ rfl
      refine Qa rfl (Qr rfl rfl rfl (cgb hg2) rfl) ?_
      refine sAs rfl rfl rfl ?_
      refine Qd (tZ [8] [] [] rfl rfl rfl rfl ?_)
      obtain rfl := Option.some.inj h
      exact Qn rfl rfl (resA (vs := [vB (decide ((ap0 - b) < m))]) rfl ⟨rfl, trivial⟩) [] [] rfl rfl rfl ⟨rfl, rfl, rfl⟩
     ·replace h := br_f hg5 h
      refine Qg rfl rfl (cgb hg5) rfl rfl ?_
      refine Qg rfl rfl (cgb hg5) rfl rfl ?_
      refine Qg rfl rfl (cgb hg5) rfl rfl ?_
      refine Qg rfl rfl (cgb hg5) rfl rfl ?_
      refine Qg rfl rfl (cgb hg5) rfl rfl ?_
      refine Qh rfl rfl (cgb hg4) (Qw rfl rfl rfl (cgb hg5) rfl) ?_
      rintro _ rfl
      refine Qh rfl rfl (cgb hg2) (Qw rfl rfl rfl (cgb hg4) rfl) ?_
      rintro _ rfl
      refine Qa rfl (Qr rfl rfl rfl (cgb hg2) rfl) ?_
      refine sAs rfl rfl rfl ?_
      refine Qd (tZ [8] [] [] rfl rfl rfl rfl ?_)
      obtain rfl := Option.some.inj h
      exact Qn rfl rfl (resA (vs := [vB false]) rfl ⟨rfl, trivial⟩) [] [] rfl rfl rfl ⟨rfl, rfl, rfl⟩
   ·replace h := br_f hg3 h
    refine Qg rfl rfl (cgb hg3) rfl rfl ?_
    refine Qg rfl rfl (cgb hg3) rfl rfl ?_
    refine Qg rfl rfl (cgb hg3) rfl rfl ?_
    refine Qg rfl rfl (cgb hg3) rfl rfl ?_
    refine Qg rfl rfl (cgb hg3) rfl rfl ?_
    refine Qh rfl rfl (cgb hg2) (Qw rfl rfl rfl (cgb hg3) rfl) ?_
    rintro _ rfl
    refine Qh rfl rfl (cgb hg2) (Qk rfl rfl rfl rfl) ?_
    rintro _ rfl
    refine Qh rfl rfl rfl (Qk rfl rfl rfl rfl) ?_
    rintro _ rfl
    refine Qh rfl rfl rfl (Qk rfl rfl rfl rfl) ?_
    rintro _ rfl
    refine Qh rfl rfl rfl (Qf rfl rfl rfl rfl rfl (ZD (a := b) (b := ap0))) ?_
    rintro _ rfl
    refine Qh rfl rfl rfl (Qk rfl rfl rfl rfl) ?_
    rintro _ rfl
    rcases bC (decide (b < ap0)) with hg6 | hg6
    ·replace h := br_t hg6 h
     refine Qh rfl rfl (cgb hg6) (Qk rfl rfl rfl rfl) ?_
     rintro _ rfl
     refine Qh rfl rfl (cgb hg6) (Qk rfl rfl rfl rfl) ?_
     rintro _ rfl
     refine Qh rfl rfl (cgb hg6) (Qf rfl rfl rfl rfl rfl (Zc (a := ap0) (b := b))) ?_
     rintro _ rfl
     refine Qh rfl rfl (cgb hg6) (Qk rfl rfl rfl rfl) ?_
     rintro _ rfl
     refine Qh rfl rfl (cgb hg6) (Qf rfl rfl rfl rfl rfl (ZD (a := ap0 - b) (b := m))) ?_
     rintro _ rfl
     refine Qh rfl rfl rfl (Qr rfl rfl rfl (cgb hg6) rfl) ?_
     rintro _ rfl
     refine Qh rfl rfl (cgb hg2) (Qw rfl rfl rfl rfl rfl) ?_
     rintro _ rfl
     refine Qa rfl (Qr rfl rfl rfl (cgb hg2) rfl) ?_
     refine sAs rfl rfl rfl ?_
     refine Qd (tZ [8] [] [] rfl rfl rfl rfl ?_)
     obtain rfl := Option.some.inj h
     exact Qn rfl rfl (resA (vs := [vB (decide ((ap0 - b) < m))]) rfl ⟨rfl, trivial⟩) [] [] rfl rfl rfl ⟨rfl, rfl, rfl⟩
    ·replace h := br_f hg6 h
     refine Qg rfl rfl (cgb hg6) rfl rfl ?_
     refine Qg rfl rfl (cgb hg6) rfl rfl ?_
     refine Qg rfl rfl (cgb hg6) rfl rfl ?_
     refine Qg rfl rfl (cgb hg6) rfl rfl ?_
     refine Qg rfl rfl (cgb hg6) rfl rfl ?_
     refine Qh rfl rfl rfl (Qw rfl rfl rfl (cgb hg6) rfl) ?_
     rintro _ rfl
     refine Qh rfl rfl (cgb hg2) (Qw rfl rfl rfl rfl rfl) ?_
     rintro _ rfl
     refine Qa rfl (Qr rfl rfl rfl (cgb hg2) rfl) ?_
     refine sAs rfl rfl rfl ?_
     refine Qd (tZ [8] [] [] rfl rfl rfl rfl ?_)
     obtain rfl := Option.some.inj h
     exact Qn rfl rfl (resA (vs := [vB false]) rfl ⟨rfl, trivial⟩) [] [] rfl rfl rfl ⟨rfl, rfl, rfl⟩
  ·replace h := br_f hg2 h
   refine Qg rfl rfl (cgb hg2) rfl rfl ?_
   refine Qg rfl rfl (cgb hg2) rfl rfl ?_
   refine Qg rfl rfl (cgb hg2) rfl rfl ?_
   refine Qg rfl rfl (cgb hg2) rfl rfl ?_
   refine QP rfl rfl rfl rfl rfl ?_
   refine QP rfl rfl rfl rfl rfl ?_
   refine QP rfl rfl rfl rfl rfl ?_
   refine QP rfl rfl rfl rfl rfl ?_
   refine QP rfl rfl rfl rfl rfl ?_
   refine Qg rfl rfl (cgb hg2) rfl rfl ?_
   refine Qg rfl rfl (cgb hg2) rfl rfl ?_
   refine QP rfl rfl rfl rfl rfl ?_
   refine QP rfl rfl rfl rfl rfl ?_
   refine QP rfl rfl rfl rfl rfl ?_
   refine QP rfl rfl rfl rfl rfl ?_
   refine QP rfl rfl rfl rfl rfl ?_
   refine QP rfl rfl rfl rfl rfl ?_
   refine QP rfl rfl rfl rfl rfl ?_
   refine QP rfl rfl rfl rfl rfl ?_
   refine QP rfl rfl rfl rfl rfl ?_
   refine QP rfl rfl rfl rfl rfl ?_
   refine Qg rfl rfl (cgb hg2) rfl rfl ?_
   refine Qa rfl (Qw rfl rfl rfl (cgb hg2) rfl) ?_
   refine sAs rfl rfl rfl ?_
   refine Qd (tZ [8] [] [] rfl rfl rfl rfl ?_)
   obtain rfl := Option.some.inj h
   exact Qn rfl rfl (resA (vs := [vB false]) rfl ⟨rfl, trivial⟩) [] [] rfl rfl rfl ⟨rfl, rfl, rfl⟩
 ·replace h := br_f hg1 h
  refine Qg rfl rfl (cgb hg1) rfl rfl ?_
  refine Qg rfl rfl (cgb hg1) rfl rfl ?_
  refine Qa rfl (Qw rfl rfl rfl (cgb hg1) rfl) ?_
  refine sMv rfl rfl rfl ?_
  refine Qg rfl rfl rfl rfl rfl ?_
  refine Qg rfl rfl rfl rfl rfl ?_
  refine Qg rfl rfl rfl rfl rfl ?_
  refine Qg rfl rfl rfl rfl rfl ?_
  refine QP rfl rfl rfl rfl rfl ?_
  refine QP rfl rfl rfl rfl rfl ?_
  refine QP rfl rfl rfl rfl rfl ?_
  refine QP rfl rfl rfl rfl rfl ?_
  refine QP rfl rfl rfl rfl rfl ?_
  refine Qg rfl rfl rfl rfl rfl ?_
  refine Qg rfl rfl rfl rfl rfl ?_
  refine QP rfl rfl rfl rfl rfl ?_
  refine QP rfl rfl rfl rfl rfl ?_
  refine QP rfl rfl rfl rfl rfl ?_
  refine QP rfl rfl rfl rfl rfl ?_
  refine QP rfl rfl rfl rfl rfl ?_
  refine QP rfl rfl rfl rfl rfl ?_
  refine QP rfl rfl rfl rfl rfl ?_
  refine QP rfl rfl rfl rfl rfl ?_
  refine QP rfl rfl rfl rfl rfl ?_
  refine QP rfl rfl rfl rfl rfl ?_
  refine Qg rfl rfl rfl rfl rfl ?_
  refine Qa rfl (Qw rfl rfl rfl rfl rfl) ?_
  refine sAs rfl rfl rfl ?_
  refine Qd (tZ [8] [] [] rfl rfl rfl rfl ?_)
  obtain rfl := Option.some.inj h
  exact Qn rfl rfl (resA (vs := [vB false]) rfl ⟨rfl, trivial⟩) [] [] rfl rfl rfl ⟨rfl, rfl, rfl⟩

set_option maxRecDepth 100000 in
set_option maxHeartbeats 4000000 in
theorem w_ref_Check04 {rp0 : Rings} {r : Int} (h : ref_Check04 rp0 = some r) :
  Ctr Try.prog 45 #[.agg #[vB rp0.Packed, vI rp0.Size, vU64 rp0.Desc, vU64 rp0.Driver, vU64 rp0.Device]] [] []
   (fun rv own shr => rv = vI r ∧ own = [] ∧ shr = []) := by
 unfold ref_Check04 at h
 refine Ctr.mk (args := [.agg #[vB rp0.Packed, vI rp0.Size, vU64 rp0.Desc, vU64 rp0.Driver, vU64 rp0.Device]]) Try.func45 rfl rfl (fun R0 w0 B => ?_)
 refine Qe (Qc (Qu rfl (ZA rfl rfl rfl rfl) fun b1 => ?_))
 refine sAs rfl rfl rfl ?_
 refine Qd (tZ [1] [0] [] rfl rfl rfl rfl ?_)
 refine Qe (Qc (Qa rfl (Qy (vs := [vB rp0.Packed, vI rp0.Size, vU64 rp0.Desc, vU64 rp0.Driver, vU64 rp0.Device]) rfl rfl rfl rfl ZX (i := 0) rfl rfl rfl) ?_))
 obtain ⟨parts1, hx1, h⟩ := ob_e h
 refine Qs rfl (Qv (w_ref_Parts04 hx1) [] [] rfl rfl rfl rfl rfl callee43 rfl rfl rfl rfl) ?_
 rintro _ ⟨_, _, _, ⟨rfl, rfl, rfl⟩, rfl⟩
 refine sMv rfl rfl rfl ?_
 refine Qa rfl (Qq rfl rfl rfl rfl rfl) ?_
 refine Qa rfl (Qq rfl rfl rfl rfl rfl) ?_
 refine Qa rfl (Qq rfl rfl rfl rfl rfl) ?_
 refine sAs rfl rfl rfl ?_
 refine sAs rfl rfl rfl ?_
 refine sAs rfl rfl rfl ?_
 refine Qd (tZ [1, 3, 4, 5] [0] [] rfl rfl rfl rfl ?_)
 refine Qe (Qe (Qc (sMv rfl rfl rfl ?_)))
 refine Qa rfl (Qf rfl rfl rfl rfl rfl (bin_eql_u64 (a := parts1.1) (b := (0 : UInt64)))) ?_
 refine Qd (tZ [1, 3, 4, 5, 18] [0] [] rfl rfl rfl rfl ?_)
 rcases bC (parts1.1 == (0 : UInt64)) with hg1 | hg1
 ·replace h := br_t hg1 h
  refine Ql (cgb hg1) ?_
  refine Qe (Qc (sAs rfl rfl rfl ?_))
  refine Qd (tZ [2] [] [] rfl rfl rfl rfl ?_)
  obtain rfl := Option.some.inj h
  exact Qn rfl rfl (resA (vs := [vI (2 : Int)]) rfl ⟨rfl, trivial⟩) [] [] rfl rfl rfl ⟨rfl, rfl, rfl⟩
 ·replace h := br_f hg1 h
  refine Qp (cgb hg1) ?_
  refine Qt (Qe (Qc (Qa rfl (Qi rfl rfl rfl rfl KC) ?_)))
  refine Qa rfl (Qj rfl rfl rfl rfl QZ (i := 0) rfl rfl) ?_
  refine Qa rfl (Qi rfl rfl rfl rfl fldF29x3) ?_
  refine Qa rfl (Qj rfl rfl rfl rfl QZ (i := 0) rfl rfl) ?_
  refine Qa rfl (Qi rfl rfl rfl rfl fldF29x4) ?_
  refine Qa rfl (Qj rfl rfl rfl rfl QZ (i := 0) rfl rfl) ?_
  refine Qu rfl (QK (S := u64S) (xs := [rp0.Desc, rp0.Driver, rp0.Device]) (css := [[vU64 rp0.Desc], [vU64 rp0.Driver], [vU64 rp0.Device]]) (cs := [vU64 rp0.Desc, vU64 rp0.Driver, vU64 rp0.Device]) (e := 27) rfl rfl rfl rfl (bldF slF165 (by decide) (by kernel_rfl)) rfl rfl rfl rfl (Zd (S := u64S) (xs := [rp0.Desc, rp0.Driver, rp0.Device]) (css := [[vU64 rp0.Desc], [vU64 rp0.Driver], [vU64 rp0.Device]]) rfl rfl)) fun v1 => ?_
  refine sMv rfl rfl rfl ?_
  refine sMv rfl rfl rfl ?_
  refine sMv rfl rfl rfl ?_
  refine Qu rfl (QK (S := u64S) (xs := [parts1.1, parts1.2.1, parts1.2.2]) (css := [[vU64 parts1.1], [vU64 parts1.2.1], [vU64 parts1.2.2]]) (cs := [vU64 parts1.1, vU64 parts1.2.1, vU64 parts1.2.2]) (e := 27) rfl rfl rfl rfl (bldF slF165 (by decide) (by kernel_rfl)) rfl rfl rfl rfl (Zd (S := u64S) (xs := [parts1.1, parts1.2.1, parts1.2.2]) (css := [[vU64 parts1.1], [vU64 parts1.2.1], [vU64 parts1.2.2]]) rfl rfl)) fun v2 => ?_
  refine sAs rfl rfl rfl ?_
  refine sAs rfl rfl rfl ?_
  refine Qd (tZ [1, 6, 7] [0, 1, 2] [] rfl rfl rfl rfl ?_)
  refine Qe (Qc (Qu rfl (QK (S := u64S) (xs := [(16 : UInt64), (2 : UInt64), (4 : UInt64)]) (css := [[vU64 (16 : UInt64)], [vU64 (2 : UInt64)], [vU64 (4 : UInt64)]]) (cs := [vU64 (16 : UInt64), vU64 (2 : UInt64), vU64 (4 : UInt64)]) (e := 27) rfl rfl rfl rfl (bldF slF165 (by decide) (by kernel_rfl)) rfl rfl rfl rfl (Zd (S := u64S) (xs := [(16 : UInt64), (2 : UInt64), (4 : UInt64)]) (css := [[vU64 (16 : UInt64)], [vU64 (2 : UInt64)], [vU64 (4 : UInt64)]]) rfl rfl)) fun v3 => ?_))
  refine sAs rfl rfl rfl ?_
  refine Qd (tZ [1, 6, 7, 8] [0, 1, 2, 3] [] rfl rfl rfl rfl ?_)
  refine Qe (Qe (Qc (Qa rfl (Qi rfl rfl rfl rfl fldF29x0) ?_)))
  refine Qa rfl (Qj rfl rfl rfl rfl tyF4 (i := 0) rfl rfl) ?_
  refine Qd (tZ [6, 7, 8, 32] [1, 2, 3] [] rfl rfl rfl rfl ?_)
  refine Tk_join (α := (List UInt64) × (List UInt64) × (List UInt64) × Value × Value × Value) (fun s => ⟨[(6, some (s.2.2.2.1)), (7, some (s.2.2.2.2.1)), (8, some (s.2.2.2.2.2))], [some (rowS u64S s.2.2.2.1 s.1), some (rowS u64S s.2.2.2.2.1 s.2.1), some (rowS u64S s.2.2.2.2.2 s.2.2.1)], []⟩) (fun s => KZ s.1 s.2.1 s.2.2.1 = some r) ?_ ?_
  ·rintro ⟨l1, l2, l3, v4, v5, v6⟩ h
   replace h : KZ l1 l2 l3 = some r := h
   unfold KZ at h
   refine Qe (Qe (Qc (sAs rfl rfl rfl ?_)))
   refine Qd (QC (Zf (σ := Int) [6, 7, 8, 9] [0, 1, 2] [] (fun s => ⟨[(6, some v4), (7, some v5), (8, some v6), (9, some (vI s))], [some (rowS u64S v4 l1), some (rowS u64S v5 l2), some (rowS u64S v6 l3)], []⟩) (fun nf2 s => Yw l1 l2 l3 nf2 s = some r) fuel (0 : Int) h rfl rfl rfl rfl rfl (fun s h => by cases h) ?_))
   rintro nf2 i1 h
   replace h : ref_Check04L2B l1 l2 l3 (Yw l1 l2 l3 nf2) i1 = some r := h
   unfold ref_Check04L2B at h
   refine Qe (Qe (Qc (sMv rfl rfl rfl ?_)))
   refine Qa rfl (Qf rfl rfl rfl rfl rfl (QI (a := i1) (b := (3 : Int)))) ?_
   refine Qd (tZ [6, 7, 8, 9, 36] [0, 1, 2] [] rfl rfl rfl rfl ?_)
   rcases bC (decide (i1 < (3 : Int))) with hg2 | hg2
   ·replace h := br_t hg2 h
    refine Ql (cgb hg2) ?_
    refine Qt (Qe (QC (Qe (Qe (QU (by kernel_rfl) ?_)))))
    refine Xn [0, 0, 3, 7, 0, 0, 48, 112, 255, 511, 1023, 2047, 2047, 8191, 16383, 2047, 2047, 100351, 231423, 493567, 1048575, 2047, 2047, 6293503, 14682111, 33554431, 67108863] (by kernel_rfl) fun htb => ?_
    refine aZ [6, 7, 8, 9] [0, 1, 2] [] rfl rfl rfl rfl ?_
    obtain ⟨y1, hx2, h⟩ := ob_e h
    obtain ⟨y2, hx3, h⟩ := ob_e h
    refine QW (lo := 0) (hi := 8) htb rfl rfl (by kernel_rfl) (fun c L a w => Sat c ⟨[(6, some v4), (7, some v5), (8, some v6), (9, some (vI i1)), (39, bif L 0 then some (v4) else none), (40, bif L 1 then some (vI i1) else none), (41, bif L 2 then some (ZW v4 (Int.toNat i1 * 1)) else none), (42, bif L 3 then some (vU64 y1) else none), (43, bif L 4 then some (v6) else none), (44, bif L 5 then some (vI i1) else none), (45, bif L 6 then some (ZW v6 (Int.toNat i1 * 1)) else none), (46, bif L 7 then some (vU64 y2) else none)], [(some (rowS u64S v4 l1) : Option Res), (some (rowS u64S v5 l2) : Option Res), (some (rowS u64S v6 l3) : Option Res)], []⟩ a w) [([], [2, 3]), ([], [2, 3]), ([0, 1], [3]), ([0, 1, 2], []), ([], [6, 7]), ([], [6, 7]), ([4, 5], [7]), ([4, 5, 6], [])] rfl (by kernel_rfl) ?_ (Qb ?_ (Qb ?_ (Qb ?_ (Qb ?_ (Qb ?_ (Qb ?_ (Qb ?_ (Qb ?_ (QB))))))))) ?_
    ·intro a w hs
     exact hs.startF [39, 40, 41, 42, 43, 44, 45, 46] [0, 1, 2] [] rfl rfl rfl rfl
    ·intro L a w hs K Q hK
     exact wGo rfl rfl hs (Qk rfl rfl rfl rfl) fun a w hs => hK a w (pF hs 4 [0, 1, 2] [] rfl)
    ·intro L a w hs K Q hK
     exact wGo rfl rfl hs (Qk rfl rfl rfl rfl) fun a w hs => hK a w (pF hs 5 [0, 1, 2] [] rfl)
    ·intro L a w hs K Q hK
     exact wGo rfl rfl hs (ZR rfl rfl rfl rfl rfl slF165 (i := 0) rfl hx2) fun a w hs => hK a w (pF hs 6 [0, 1, 2] [] rfl)
    ·intro L a w hs K Q hK
     exact wGo rfl rfl hs (XW (S := u64S) rfl rfl rfl rfl rfl QZ (i := 0) rfl hx2 rfl rfl) fun a w hs => hK a w (pF hs 7 [0, 1, 2] [] rfl)
    ·intro L a w hs K Q hK
     exact wGo rfl rfl hs (Qk rfl rfl rfl rfl) fun a w hs => hK a w (pF hs 8 [0, 1, 2] [] rfl)
    ·intro L a w hs K Q hK
     exact wGo rfl rfl hs (Qk rfl rfl rfl rfl) fun a w hs => hK a w (pF hs 9 [0, 1, 2] [] rfl)
    ·intro L a w hs K Q hK
     exact wGo rfl rfl hs (ZR rfl rfl rfl rfl rfl slF165 (i := 2) rfl hx3) fun a w hs => hK a w (pF hs 10 [0, 1, 2] [] rfl)
    ·intro L a w hs K Q hK
     exact wGo rfl rfl hs (XW (S := u64S) rfl rfl rfl rfl rfl QZ (i := 2) rfl hx3 rfl rfl) fun a w hs => hK a w (pF hs 11 [0, 1, 2] [] rfl)
    ·intro L a w hL hv
     rw [QM hL] at hv
     have hs := hv
     refine gZ hs [6, 7, 8, 9, 42, 46] [0, 1, 2] [] rfl rfl rfl rfl ?_
     clear hs hL
     obtain ⟨hc1, h⟩ := ZK h
     refine Qx htb (by kernel_rfl) rfl rfl (Qf rfl rfl rfl rfl rfl (bin_rem_u64 (a := y1) (b := y2) (not_t hc1))) ?_
     refine Qx htb (by kernel_rfl) rfl rfl (Qf rfl rfl rfl rfl rfl (bin_neq_u64 (a := y1 % y2) (b := (0 : UInt64)))) ?_
     refine Qx htb (by kernel_rfl) rfl rfl (Qk rfl rfl rfl rfl) ?_
     refine aZ [6, 7, 8, 9, 49] [0, 1, 2] [] rfl rfl rfl rfl ?_
     rcases bC ((y1 % y2) != (0 : UInt64)) with hg3 | hg3
     ·replace h := br_t hg3 h
      refine QW (lo := 11) (hi := 25) htb rfl rfl (by kernel_rfl) (fun c L a w => Sat c ⟨[(6, some v4), (7, some v5), (8, some v6), (9, some (vI i1)), (49, some (vB ((y1 % y2) != (0 : UInt64)))), (50, bif L 11 then some (undef) else none), (51, bif L 12 then some (undef) else none), (52, bif L 13 then some (undef) else none), (53, bif L 14 then some (undef) else none), (54, bif L 15 then some (undef) else none), (55, bif L 16 then some (undef) else none), (56, bif L 17 then some (undef) else none), (57, bif L 18 then some (undef) else none), (58, bif L 19 then some (undef) else none), (59, bif L 20 then some (undef) else none), (60, bif L 21 then some (undef) else none), (61, bif L 22 then some (undef) else none), (62, bif L 23 then some (undef) else none), (63, bif L 24 then some (undef) else none)], [(some (rowS u64S v4 l1) : Option Res), (some (rowS u64S v5 l2) : Option Res), (some (rowS u64S v6 l3) : Option Res)], []⟩ a w) [([], [13, 14, 20]), ([], [13, 14, 20]), ([11, 12], [14, 20]), ([11, 12, 13], [20]), ([], [17, 18, 19, 20]), ([], [17, 18, 19, 20]), ([15, 16], [18, 19, 20]), ([15, 16, 17], [19, 20]), ([15, 16, 17, 18], [20]), ([11, 12, 13, 14, 15, 16, 17, 18, 19], []), ([], [23, 24]), ([], [23, 24]), ([21, 22], [24]), ([21, 22, 23], [])] rfl (by kernel_rfl) ?_ (Qb ?_ (Qb ?_ (Qb ?_ (Qb ?_ (Qb ?_ (Qb ?_ (Qb ?_ (Qb ?_ (Qb ?_ (Qb ?_ (Qb ?_ (Qb ?_ (Qb ?_ (Qb ?_ (QB))))))))))))))) ?_
      ·intro a w hs
       exact hs.startF [50, 51, 52, 53, 54, 55, 56, 57, 58, 59, 60, 61, 62, 63] [0, 1, 2] [] rfl rfl rfl rfl
      ·intro L a w hs K Q hK
       exact QA rfl rfl rfl hs (cgb hg3) rfl rfl fun a w hs => hK a w (pF hs 5 [0, 1, 2] [] rfl)
      ·intro L a w hs K Q hK
       exact QA rfl rfl rfl hs (cgb hg3) rfl rfl fun a w hs => hK a w (pF hs 6 [0, 1, 2] [] rfl)
      ·intro L a w hs K Q hK
       exact QA rfl rfl rfl hs (cgb hg3) rfl rfl fun a w hs => hK a w (pF hs 7 [0, 1, 2] [] rfl)
      ·intro L a w hs K Q hK
       exact QA rfl rfl rfl hs (cgb hg3) rfl rfl fun a w hs => hK a w (pF hs 8 [0, 1, 2] [] rfl)
      ·intro L a w hs K Q hK
       exact QA rfl rfl rfl hs (cgb hg3) rfl rfl fun a w hs => hK a w (pF hs 9 [0, 1, 2] [] rfl)
      ·intro L a w hs K Q hK
       exact QA rfl rfl rfl hs (cgb hg3) rfl rfl fun a w hs => hK a w (pF hs 10 [0, 1, 2] [] rfl)
      ·intro L a w hs K Q hK
       exact QA rfl rfl rfl hs (cgb hg3) rfl rfl fun a w hs => hK a w (pF hs 11 [0, 1, 2] [] rfl)
      ·intro L a w hs K Q hK
       exact QA rfl rfl rfl hs (cgb hg3) rfl rfl fun a w hs => hK a w (pF hs 12 [0, 1, 2] [] rfl)
      ·intro L a w hs K Q hK
       exact QA rfl rfl rfl hs (cgb hg3) rfl rfl fun a w hs => hK a w (pF hs 13 [0, 1, 2] [] rfl)
      ·intro L a w hs K Q hK
       exact QA rfl rfl rfl hs (cgb hg3) rfl rfl fun a w hs => hK a w (pF hs 14 [0, 1, 2] [] rfl)
      ·intro L a w hs K Q hK
       exact QA rfl rfl rfl hs (cgb hg3) rfl rfl fun a w hs => hK a w (pF hs 15 [0, 1, 2] [] rfl)
      ·intro L a w hs K Q hK
       exact QA rfl rfl rfl hs (cgb hg3) rfl rfl fun a w hs => hK a w (pF hs 16 [0, 1, 2] [] rfl)
      ·intro L a w hs K Q hK
       exact QA rfl rfl rfl hs (cgb hg3) rfl rfl fun a w hs => hK a w (pF hs 17 [0, 1, 2] [] rfl)
      ·intro L a w hs K Q hK
       exact QA rfl rfl rfl hs (cgb hg3) rfl rfl fun a w hs => hK a w (pF hs 18 [0, 1, 2] [] rfl)
      ·intro L a w hL hv
       rw [QM hL] at hv
       have hs := hv
       refine gZ hs [6, 7, 8, 9, 49, 59, 63] [0, 1, 2] [] rfl rfl rfl rfl ?_
       clear hs hL
       refine KR htb (by kernel_rfl) rfl rfl rfl (cgb hg3) rfl rfl ?_
       refine Qx htb (by kernel_rfl) rfl rfl (Qr rfl rfl rfl (cgb hg3) rfl) ?_
       refine Zh rfl ?_
       refine tZ [6, 7, 8, 9, 65] [0, 1, 2] [] rfl rfl rfl rfl ?_
       refine Ql rfl ?_
       refine Qe (Qc (sAs rfl rfl rfl ?_))
       refine Qd (tZ [2] [] [] rfl rfl rfl rfl ?_)
       obtain rfl := Option.some.inj h
       exact Qn rfl rfl (resA (vs := [vI (2 : Int)]) rfl ⟨rfl, trivial⟩) [] [] rfl rfl rfl ⟨rfl, rfl, rfl⟩
     ·replace h := br_f hg3 h
      obtain ⟨y3, hx4, h⟩ := ob_e h
      obtain ⟨y4, hx5, h⟩ := ob_e h
      obtain ⟨y5, hx6, h⟩ := ob_e h
      refine QW (lo := 11) (hi := 25) htb rfl rfl (by kernel_rfl) (fun c L a w => Sat c ⟨[(6, some v4), (7, some v5), (8, some v6), (9, some (vI i1)), (49, some (vB ((y1 % y2) != (0 : UInt64)))), (50, bif L 11 then some (v4) else none), (51, bif L 12 then some (vI i1) else none), (52, bif L 13 then some (ZW v4 (Int.toNat i1 * 1)) else none), (53, bif L 14 then some (vU64 y3) else none), (54, bif L 15 then some (v5) else none), (55, bif L 16 then some (vI i1) else none), (56, bif L 17 then some (ZW v5 (Int.toNat i1 * 1)) else none), (57, bif L 18 then some (vU64 y4) else none), (58, bif L 19 then some (vU64 (y4 - (1 : UInt64))) else none), (59, bif L 20 then some (vU64 (y3 + (y4 - (1 : UInt64)))) else none), (60, bif L 21 then some (v4) else none), (61, bif L 22 then some (vI i1) else none), (62, bif L 23 then some (ZW v4 (Int.toNat i1 * 1)) else none), (63, bif L 24 then some (vU64 y5) else none)], [(some (rowS u64S v4 l1) : Option Res), (some (rowS u64S v5 l2) : Option Res), (some (rowS u64S v6 l3) : Option Res)], []⟩ a w) [([], [13, 14, 20]), ([], [13, 14, 20]), ([11, 12], [14, 20]), ([11, 12, 13], [20]), ([], [17, 18, 19, 20]), ([], [17, 18, 19, 20]), ([15, 16], [18, 19, 20]), ([15, 16, 17], [19, 20]), ([15, 16, 17, 18], [20]), ([11, 12, 13, 14, 15, 16, 17, 18, 19], []), ([], [23, 24]), ([], [23, 24]), ([21, 22], [24]), ([21, 22, 23], [])] rfl (by kernel_rfl) ?_ (Qb ?_ (Qb ?_ (Qb ?_ (Qb ?_ (Qb ?_ (Qb ?_ (Qb ?_ (Qb ?_ (Qb ?_ (Qb ?_ (Qb ?_ (Qb ?_ (Qb ?_ (Qb ?_ (QB))))))))))))))) ?_
      ·intro a w hs
       exact hs.startF [50, 51, 52, 53, 54, 55, 56, 57, 58, 59, 60, 61, 62, 63] [0, 1, 2] [] rfl rfl rfl rfl
      ·intro L a w hs K Q hK
       exact wYs rfl rfl rfl hs (cgb hg3) (Qk rfl rfl rfl rfl) fun a w hs => hK a w (pF hs 5 [0, 1, 2] [] rfl)
      ·intro L a w hs K Q hK
       exact wYs rfl rfl rfl hs (cgb hg3) (Qk rfl rfl rfl rfl) fun a w hs => hK a w (pF hs 6 [0, 1, 2] [] rfl)
      ·intro L a w hs K Q hK
       exact wYs rfl rfl rfl hs (cgb hg3) (ZR rfl rfl rfl rfl rfl slF165 (i := 0) rfl hx4) fun a w hs => hK a w (pF hs 7 [0, 1, 2] [] rfl)
      ·intro L a w hs K Q hK
       exact wYs rfl rfl rfl hs (cgb hg3) (XW (S := u64S) rfl rfl rfl rfl rfl QZ (i := 0) rfl hx4 rfl rfl) fun a w hs => hK a w (pF hs 8 [0, 1, 2] [] rfl)
      ·intro L a w hs K Q hK
       exact wYs rfl rfl rfl hs (cgb hg3) (Qk rfl rfl rfl rfl) fun a w hs => hK a w (pF hs 9 [0, 1, 2] [] rfl)
      ·intro L a w hs K Q hK
       exact wYs rfl rfl rfl hs (cgb hg3) (Qk rfl rfl rfl rfl) fun a w hs => hK a w (pF hs 10 [0, 1, 2] [] rfl)
      ·intro L a w hs K Q hK
       exact wYs rfl rfl rfl hs (cgb hg3) (ZR rfl rfl rfl rfl rfl slF165 (i := 1) rfl hx5) fun a w hs => hK a w (pF hs 11 [0, 1, 2] [] rfl)
      ·intro L a w hs K Q hK
       exact wYs rfl rfl rfl hs (cgb hg3) (XW (S := u64S) rfl rfl rfl rfl rfl QZ (i := 1) rfl hx5 rfl rfl) fun a w hs => hK a w (pF hs 12 [0, 1, 2] [] rfl)
      ·intro L a w hs K Q hK
       exact wYs rfl rfl rfl hs (cgb hg3) (Qf rfl rfl rfl rfl rfl (Zc (a := y4) (b := (1 : UInt64)))) fun a w hs => hK a w (pF hs 13 [0, 1, 2] [] rfl)
      ·intro L a w hs K Q hK
       exact wYs rfl rfl rfl hs (cgb hg3) (Qf rfl rfl rfl rfl rfl (Za (a := y3) (b := y4 - (1 : UInt64)))) fun a w hs => hK a w (pF hs 14 [0, 1, 2] [] rfl)
      ·intro L a w hs K Q hK
       exact wYs rfl rfl rfl hs (cgb hg3) (Qk rfl rfl rfl rfl) fun a w hs => hK a w (pF hs 15 [0, 1, 2] [] rfl)
      ·intro L a w hs K Q hK
       exact wYs rfl rfl rfl hs (cgb hg3) (Qk rfl rfl rfl rfl) fun a w hs => hK a w (pF hs 16 [0, 1, 2] [] rfl)
      ·intro L a w hs K Q hK
       exact wYs rfl rfl rfl hs (cgb hg3) (ZR rfl rfl rfl rfl rfl slF165 (i := 0) rfl hx6) fun a w hs => hK a w (pF hs 17 [0, 1, 2] [] rfl)
      ·intro L a w hs K Q hK
       exact wYs rfl rfl rfl hs (cgb hg3) (XW (S := u64S) rfl rfl rfl rfl rfl QZ (i := 0) rfl hx6 rfl rfl) fun a w hs => hK a w (pF hs 18 [0, 1, 2] [] rfl)
      ·intro L a w hL hv
       rw [QM hL] at hv
       have hs := hv
       refine gZ hs [6, 7, 8, 9, 49, 59, 63] [0, 1, 2] [] rfl rfl rfl rfl ?_
       clear hs hL
       refine Xx htb (by kernel_rfl) rfl rfl rfl (cgb hg3) (Qf rfl rfl rfl rfl rfl (ZD (a := y3 + (y4 - (1 : UInt64))) (b := y5))) ?_
       rintro _ rfl
       refine Qx htb (by kernel_rfl) rfl rfl (Qw rfl rfl rfl (cgb hg3) rfl) ?_
       refine Zh rfl ?_
       refine tZ [6, 7, 8, 9, 65] [0, 1, 2] [] rfl rfl rfl rfl ?_
       rcases bC (decide ((y3 + (y4 - (1 : UInt64))) < y5)) with hg4 | hg4
       ·replace h := br_t hg4 h
        refine Ql (cgb hg4) ?_
        refine Qe (Qc (sAs rfl rfl rfl ?_))
        refine Qd (tZ [2] [] [] rfl rfl rfl rfl ?_)
        obtain rfl := Option.some.inj h
        exact Qn rfl rfl (resA (vs := [vI (2 : Int)]) rfl ⟨rfl, trivial⟩) [] [] rfl rfl rfl ⟨rfl, rfl, rfl⟩
       ·replace h := br_f hg4 h
        refine Qp (cgb hg4) ?_
        refine Qt (Qe (Qc (sAs rfl rfl rfl ?_)))
        refine Qd (tZ [6, 7, 8, 9, 10] [0, 1, 2] [] rfl rfl rfl rfl ?_)
        refine QC (Zf (σ := Int) [6, 7, 8, 9, 10] [0, 1, 2] [] (fun s => ⟨[(6, some v4), (7, some v5), (8, some v6), (9, some (vI i1)), (10, some (vI s))], [some (rowS u64S v4 l1), some (rowS u64S v5 l2), some (rowS u64S v6 l3)], []⟩) (fun nf3 s => ref_Check04L3 l1 l2 i1 (Yw l1 l2 l3 nf2) nf3 s = some r) fuel (0 : Int) h rfl rfl rfl rfl rfl (fun s h => by cases h) ?_)
        rintro nf3 k1 h
        replace h : ref_Check04L3B l1 l2 i1 (Yw l1 l2 l3 nf2) (ref_Check04L3 l1 l2 i1 (Yw l1 l2 l3 nf2) nf3) k1 = some r := h
        unfold ref_Check04L3B at h
        refine Qe (Qe (Qc (sMv rfl rfl rfl ?_)))
        refine sMv rfl rfl rfl ?_
        refine Qa rfl (Qf rfl rfl rfl rfl rfl (QI (a := k1) (b := i1))) ?_
        refine Qd (tZ [6, 7, 8, 9, 10, 68] [0, 1, 2] [] rfl rfl rfl rfl ?_)
        rcases bC (decide (k1 < i1)) with hg5 | hg5
        ·replace h := br_t hg5 h
         refine Ql (cgb hg5) ?_
         refine Qt (Qe (QC (Qe (QU (by kernel_rfl) ?_))))
         refine Xn [0, 0, 3, 7, 0, 0, 48, 112, 0, 0, 768, 1792, 0, 0, 12288, 28672, 65535] (by kernel_rfl) fun htb => ?_
         refine aZ [6, 7, 8, 9, 10] [0, 1, 2] [] rfl rfl rfl rfl ?_
         obtain ⟨y6, hx7, h⟩ := ob_e h
         obtain ⟨y7, hx8, h⟩ := ob_e h
         obtain ⟨y8, hx9, h⟩ := ob_e h
         obtain ⟨y9, hx10, h⟩ := ob_e h
         refine QW (lo := 0) (hi := 16) htb rfl rfl (by kernel_rfl) (fun c L a w => Sat c ⟨[(6, some v4), (7, some v5), (8, some v6), (9, some (vI i1)), (10, some (vI k1)), (71, bif L 0 then some (v4) else none), (72, bif L 1 then some (vI i1) else none), (73, bif L 2 then some (ZW v4 (Int.toNat i1 * 1)) else none), (74, bif L 3 then some (vU64 y6) else none), (75, bif L 4 then some (v5) else none), (76, bif L 5 then some (vI i1) else none), (77, bif L 6 then some (ZW v5 (Int.toNat i1 * 1)) else none), (78, bif L 7 then some (vU64 y7) else none), (79, bif L 8 then some (v4) else none), (80, bif L 9 then some (vI k1) else none), (81, bif L 10 then some (ZW v4 (Int.toNat k1 * 1)) else none), (82, bif L 11 then some (vU64 y8) else none), (83, bif L 12 then some (v5) else none), (84, bif L 13 then some (vI k1) else none), (85, bif L 14 then some (ZW v5 (Int.toNat k1 * 1)) else none), (86, bif L 15 then some (vU64 y9) else none)], [(some (rowS u64S v4 l1) : Option Res), (some (rowS u64S v5 l2) : Option Res), (some (rowS u64S v6 l3) : Option Res)], []⟩ a w) [([], [2, 3]), ([], [2, 3]), ([0, 1], [3]), ([0, 1, 2], []), ([], [6, 7]), ([], [6, 7]), ([4, 5], [7]), ([4, 5, 6], []), ([], [10, 11]), ([], [10, 11]), ([8, 9], [11]), ([8, 9, 10], []), ([], [14, 15]), ([], [14, 15]), ([12, 13], [15]), ([12, 13, 14], [])] rfl (by kernel_rfl) ?_ (Qb ?_ (Qb ?_ (Qb ?_ (Qb ?_ (Qb ?_ (Qb ?_ (Qb ?_ (Qb ?_ (Qb ?_ (Qb ?_ (Qb ?_ (Qb ?_ (Qb ?_ (Qb ?_ (Qb ?_ (Qb ?_ (QB))))))))))))))))) ?_
         ·intro a w hs
          exact hs.startF [71, 72, 73, 74, 75, 76, 77, 78, 79, 80, 81, 82, 83, 84, 85, 86] [0, 1, 2] [] rfl rfl rfl rfl
         ·intro L a w hs K Q hK
          exact wGo rfl rfl hs (Qk rfl rfl rfl rfl) fun a w hs => hK a w (pF hs 5 [0, 1, 2] [] rfl)
         ·intro L a w hs K Q hK
          exact wGo rfl rfl hs (Qk rfl rfl rfl rfl) fun a w hs => hK a w (pF hs 6 [0, 1, 2] [] rfl)
         ·intro L a w hs K Q hK
          exact wGo rfl rfl hs (ZR rfl rfl rfl rfl rfl slF165 (i := 0) rfl hx7) fun a w hs => hK a w (pF hs 7 [0, 1, 2] [] rfl)
         ·intro L a w hs K Q hK
          exact wGo rfl rfl hs (XW (S := u64S) rfl rfl rfl rfl rfl QZ (i := 0) rfl hx7 rfl rfl) fun a w hs => hK a w (pF hs 8 [0, 1, 2] [] rfl)
         ·intro L a w hs K Q hK
          exact wGo rfl rfl hs (Qk rfl rfl rfl rfl) fun a w hs => hK a w (pF hs 9 [0, 1, 2] [] rfl)
         ·intro L a w hs K Q hK
          exact wGo rfl rfl hs (Qk rfl rfl rfl rfl) fun a w hs => hK a w (pF hs 10 [0, 1, 2] [] rfl)
         ·intro L a w hs K Q hK
          exact wGo rfl rfl hs (ZR rfl rfl rfl rfl rfl slF165 (i := 1) rfl hx8) fun a w hs => hK a w (pF hs 11 [0, 1, 2] [] rfl)
         ·intro L a w hs K Q hK
          exact wGo rfl rfl hs (XW (S := u64S) rfl rfl rfl rfl rfl QZ (i := 1) rfl hx8 rfl rfl) fun a w hs => hK a w (pF hs 12 [0, 1, 2] [] rfl)
         ·intro L a w hs K Q hK
          exact wGo rfl rfl hs (Qk rfl rfl rfl rfl) fun a w hs => hK a w (pF hs 13 [0, 1, 2] [] rfl)
         ·intro L a w hs K Q hK
          exact wGo rfl rfl hs (Qk rfl rfl rfl rfl) fun a w hs => hK a w (pF hs 14 [0, 1, 2] [] rfl)
         ·intro L a w hs K Q hK
          exact wGo rfl rfl hs (ZR rfl rfl rfl rfl rfl slF165 (i := 0) rfl hx9) fun a w hs => hK a w (pF hs 15 [0, 1, 2] [] rfl)
         ·intro L a w hs K Q hK
          exact wGo rfl rfl hs (XW (S := u64S) rfl rfl rfl rfl rfl QZ (i := 0) rfl hx9 rfl rfl) fun a w hs => hK a w (pF hs 16 [0, 1, 2] [] rfl)
         ·intro L a w hs K Q hK
          exact wGo rfl rfl hs (Qk rfl rfl rfl rfl) fun a w hs => hK a w (pF hs 17 [0, 1, 2] [] rfl)
         ·intro L a w hs K Q hK
          exact wGo rfl rfl hs (Qk rfl rfl rfl rfl) fun a w hs => hK a w (pF hs 18 [0, 1, 2] [] rfl)
         ·intro L a w hs K Q hK
          exact wGo rfl rfl hs (ZR rfl rfl rfl rfl rfl slF165 (i := 1) rfl hx10) fun a w hs => hK a w (pF hs 19 [0, 1, 2] [] rfl)
         ·intro L a w hs K Q hK
          exact wGo rfl rfl hs (XW (S := u64S) rfl rfl rfl rfl rfl QZ (i := 1) rfl hx10 rfl rfl) fun a w hs => hK a w (pF hs 20 [0, 1, 2] [] rfl)
         ·intro L a w hL hv
          rw [QM hL] at hv
          have hs := hv
          refine gZ hs [6, 7, 8, 9, 10, 74, 78, 82, 86] [0, 1, 2] [] rfl rfl rfl rfl ?_
          clear hs hL
          obtain ⟨common1, hx11, h⟩ := ob_e h
          refine Ka htb (by kernel_rfl) rfl rfl (Qv (w_ref_common04 hx11) [] [] rfl rfl rfl rfl rfl callee90 rfl rfl rfl rfl) ?_
          rintro _ ⟨_, _, _, ⟨rfl, rfl, rfl⟩, rfl⟩
          refine Zh rfl ?_
          refine tZ [6, 7, 8, 9, 10, 87] [0, 1, 2] [] rfl rfl rfl rfl ?_
          rcases bC (common1) with hg6 | hg6
          ·replace h := br_t hg6 h
           refine Ql (cgb hg6) ?_
           refine Qe (Qc (sAs rfl rfl rfl ?_))
           refine Qd (tZ [2] [] [] rfl rfl rfl rfl ?_)
           obtain rfl := Option.some.inj h
           exact Qn rfl rfl (resA (vs := [vI (2 : Int)]) rfl ⟨rfl, trivial⟩) [] [] rfl rfl rfl ⟨rfl, rfl, rfl⟩
          ·replace h := br_f hg6 h
           refine Qp (cgb hg6) ?_
           refine Qt (Zx (Qc (sMv rfl rfl rfl ?_)))
           refine Qa rfl (Qf rfl rfl rfl rfl rfl (QG (a := k1) (b := (1 : Int)))) ?_
           refine sAs rfl rfl rfl ?_
           refine Qd (tZ [6, 7, 8, 9, 10] [0, 1, 2] [] rfl rfl rfl rfl ?_)
           exact QY (wi (k1 + (1 : Int))) h [6, 7, 8, 9, 10] [0, 1, 2] [] rfl rfl rfl rfl rfl
        ·replace h := br_f hg5 h
         refine Qp (cgb hg5) ?_
         refine Zv _ rfl ?_
         refine Zx (Qc (sMv rfl rfl rfl ?_))
         refine Qa rfl (Qf rfl rfl rfl rfl rfl (QG (a := i1) (b := (1 : Int)))) ?_
         refine sAs rfl rfl rfl ?_
         refine Qd (tZ [6, 7, 8, 9] [0, 1, 2] [] rfl rfl rfl rfl ?_)
         exact QY (wi (i1 + (1 : Int))) h [6, 7, 8, 9] [0, 1, 2] [] rfl rfl rfl rfl rfl
   ·replace h := br_f hg2 h
    refine Qp (cgb hg2) ?_
    refine Zv _ rfl ?_
    refine Qe (Qc (sAs rfl rfl rfl ?_))
    refine Qd (tZ [2] [] [] rfl rfl rfl rfl ?_)
    obtain rfl := Option.some.inj h
    exact Qn rfl rfl (resA (vs := [vI (0 : Int)]) rfl ⟨rfl, trivial⟩) [] [] rfl rfl rfl ⟨rfl, rfl, rfl⟩
  ·intro HJ1
   rcases bC (rp0.Packed) with hg7 | hg7
   ·replace h := br_t hg7 h
    refine Ql (cgb hg7) ?_
    refine Qc (sMv rfl rfl rfl ?_)
    obtain ⟨y10, hx12, h⟩ := ob_e h
    refine Qa rfl (ZR rfl rfl rfl rfl rfl slF165 (i := 2) rfl hx12) ?_
    refine Qa rfl (OpT_storeO (S := u64S) (u := (4 : UInt64)) rfl rfl rfl rfl rfl QZ (i := 2) rfl hx12 rfl) ?_
    refine Qd (tZ [6, 7, 8] [0, 1, 2] [] rfl rfl rfl rfl ?_)
    exact XA (HJ1 ([rp0.Desc, rp0.Driver, rp0.Device], [parts1.1, parts1.2.1, parts1.2.2], [(16 : UInt64), (2 : UInt64), (4 : UInt64)].set (1 : Int).toNat (4 : UInt64), v1, v2, v3) h) [6, 7, 8] [0, 1, 2] [] rfl rfl rfl rfl
   ·replace h := br_f hg7 h
    refine Qp (cgb hg7) ?_
    refine Qt ?_
    exact XA (HJ1 ([rp0.Desc, rp0.Driver, rp0.Device], [parts1.1, parts1.2.1, parts1.2.2], [(16 : UInt64), (2 : UInt64), (4 : UInt64)], v1, v2, v3) h) [6, 7, 8] [0, 1, 2] [] rfl rfl rfl rfl

set_option maxRecDepth 100000 in
set_option maxHeartbeats 4000000 in
theorem w_ref_Place04 {packed : Bool} {np1 : Int} {base : UInt64} {r : (Rings × UInt64 × Int)} (h : KH packed np1 base = some r) :
  Ctr Try.prog 15 #[vB packed, vI np1, vU64 base] [] []
   (fun rv own shr => rv = .tuple #[.agg #[vB r.1.Packed, vI r.1.Size, vU64 r.1.Desc, vU64 r.1.Driver, vU64 r.1.Device], vU64 r.2.1, vI r.2.2] ∧ own = [] ∧ shr = []) := by
 unfold KH at h
 refine Ctr.mk (args := [vB packed, vI np1, vU64 base]) Try.func15 rfl rfl (fun R0 w0 B => ?_)
 refine Qe (Qc (Qu rfl (QD rfl rfl rfl tyZ29) fun b1 => ?_))
 refine sAs rfl rfl rfl ?_
 refine sAs rfl rfl rfl ?_
 refine Qd (tZ [0, 1, 2, 6] [0] [] rfl rfl rfl rfl ?_)
 refine Qe (Qc (sMv rfl rfl rfl ?_))
 refine sMv rfl rfl rfl ?_
 refine Qa rfl (QE (v := .agg #[vB packed, vI np1, vU64 (0 : UInt64), vU64 (0 : UInt64), vU64 (0 : UInt64)]) rfl rfl rfl rfl (bldV (by kernel_rfl))) ?_
 refine Qu rfl (QD rfl rfl rfl tyZ29) fun b2 => ?_
 refine Qa rfl (Qo (cs' := [vB packed, vI np1, vU64 (0 : UInt64), vU64 (0 : UInt64), vU64 (0 : UInt64)]) rfl rfl rfl rfl ZX (i := 1) rfl rfl rfl (QF rfl) rfl) ?_
 refine Qd (tZ [0, 2, 6, 9] [0, 1] [] rfl rfl rfl rfl ?_)
 refine Qe (Qc (Qa rfl (Qy (vs := [vB packed, vI np1, vU64 (0 : UInt64), vU64 (0 : UInt64), vU64 (0 : UInt64)]) rfl rfl rfl rfl ZX (i := 1) rfl rfl rfl) ?_))
 obtain ⟨parts1, hx1, h⟩ := ob_e h
 refine Qs rfl (Qv (w_ref_Parts04 hx1) [] [] rfl rfl rfl rfl rfl callee43 rfl rfl rfl rfl) ?_
 rintro _ ⟨_, _, _, ⟨rfl, rfl, rfl⟩, rfl⟩
 refine sMv rfl rfl rfl ?_
 refine Qa rfl (Qq rfl rfl rfl rfl rfl) ?_
 refine Qa rfl (Qq rfl rfl rfl rfl rfl) ?_
 refine Qa rfl (Qq rfl rfl rfl rfl rfl) ?_
 refine sAs rfl rfl rfl ?_
 refine sAs rfl rfl rfl ?_
 refine sAs rfl rfl rfl ?_
 refine Qd (tZ [0, 2, 6, 9, 10, 11, 12] [0, 1] [] rfl rfl rfl rfl ?_)
 refine Qe (Qe (Qc (sMv rfl rfl rfl ?_)))
 refine Qa rfl (Qf rfl rfl rfl rfl rfl (bin_eql_u64 (a := parts1.1) (b := (0 : UInt64)))) ?_
 refine Qd (tZ [0, 2, 6, 9, 10, 11, 12, 27] [0, 1] [] rfl rfl rfl rfl ?_)
 rcases bC (parts1.1 == (0 : UInt64)) with hg1 | hg1
 ·replace h := br_t hg1 h
  refine Ql (cgb hg1) ?_
  refine Qe (Qc (Qa rfl (QE (v := .agg #[vB false, vI (0 : Int), vU64 (0 : UInt64), vU64 (0 : UInt64), vU64 (0 : UInt64)]) rfl rfl rfl rfl (bldV (by kernel_rfl))) ?_))
  refine Qa rfl (Qo (cs' := [vB false, vI (0 : Int), vU64 (0 : UInt64), vU64 (0 : UInt64), vU64 (0 : UInt64)]) rfl rfl rfl rfl ZX (i := 0) rfl rfl rfl (QF rfl) rfl) ?_
  refine sAs rfl rfl rfl ?_
  refine sAs rfl rfl rfl ?_
  refine Qd (tZ [6, 7, 8] [0] [] rfl rfl rfl rfl ?_)
  obtain rfl := Option.some.inj h
  exact Qn rfl rfl (resA (vs := [.agg #[vB false, vI (0 : Int), vU64 (0 : UInt64), vU64 (0 : UInt64), vU64 (0 : UInt64)], vU64 (0 : UInt64), vI (2 : Int)]) rfl ⟨⟨_, 0, _, _, _, rfl, rfl, .inl ⟨ZX, rfl, rfl⟩⟩, rfl, rfl, trivial⟩) [] [] rfl rfl rfl ⟨rfl, rfl, rfl⟩
 ·replace h := br_f hg1 h
  refine Qp (cgb hg1) ?_
  refine Qt (Qe (Qc (sAs rfl rfl rfl ?_)))
  refine Qd (tZ [0, 2, 6, 9, 10, 11, 12, 13] [0, 1] [] rfl rfl rfl rfl ?_)
  refine Qe (Qe (Qc (sMv rfl rfl rfl ?_)))
  refine Qd (tZ [2, 6, 9, 10, 11, 12, 13, 29] [0, 1] [] rfl rfl rfl rfl ?_)
  refine Tk_join (α := UInt64) (fun s => ⟨[(2, some (vU64 base)), (6, some (.pointer (some ⟨b1, 0, none⟩))), (9, some (.pointer (some ⟨b2, 0, none⟩))), (10, some (vU64 parts1.1)), (11, some (vU64 parts1.2.1)), (12, some (vU64 parts1.2.2)), (13, some (vU64 s))], [some (Qm b1 29 [vB false, vI (0 : Int), vU64 (0 : UInt64), vU64 (0 : UInt64), vU64 (0 : UInt64)]), some (Qm b2 29 [vB packed, vI np1, vU64 (0 : UInt64), vU64 (0 : UInt64), vU64 (0 : UInt64)])], []⟩) (fun s => KY packed np1 base parts1 s = some r) ?_ ?_
  ·rintro to1 h
   replace h : KY packed np1 base parts1 to1 = some r := h
   unfold KY at h
   refine Qe (Qc (sAs rfl rfl rfl ?_))
   refine sAs rfl rfl rfl ?_
   refine sAs rfl rfl rfl ?_
   refine Qd (tZ [2, 6, 9, 10, 11, 12, 13] [0, 1] [] rfl rfl rfl rfl ?_)
   refine Qe (Qc (sMv rfl rfl rfl ?_))
   obtain ⟨align1, hx2, h⟩ := ob_e h
   refine Qs rfl (Qv (w_ref_Align01 hx2) [] [] rfl rfl rfl rfl rfl callee44 rfl rfl rfl rfl) ?_
   rintro _ ⟨_, _, _, ⟨rfl, rfl, rfl⟩, rfl⟩
   refine sMv rfl rfl rfl ?_
   refine Qa rfl (Qq rfl rfl rfl rfl rfl) ?_
   refine Qa rfl (Qq rfl rfl rfl rfl rfl) ?_
   refine Qa rfl (Qi rfl rfl rfl rfl KC) ?_
   refine Qa rfl (Qo (cs' := [vB packed, vI np1, vU64 align1.1, vU64 (0 : UInt64), vU64 (0 : UInt64)]) rfl rfl rfl rfl QZ (i := 1) rfl rfl rfl (QF rfl) rfl) ?_
   refine sAs rfl rfl rfl ?_
   refine Qd (tZ [2, 6, 9, 10, 11, 12, 13, 14] [0, 1] [] rfl rfl rfl rfl ?_)
   refine Qe (Qc (Qa rfl (Qi rfl rfl rfl rfl KC) ?_))
   refine Qa rfl (Qj rfl rfl rfl rfl QZ (i := 1) rfl rfl) ?_
   refine sMv rfl rfl rfl ?_
   refine Qa rfl (Qf rfl rfl rfl rfl rfl (Za (a := align1.1) (b := parts1.1))) ?_
   refine sMv rfl rfl rfl ?_
   obtain ⟨align2, hx3, h⟩ := ob_e h
   refine Qs rfl (Qv (w_ref_Align01 hx3) [] [] rfl rfl rfl rfl rfl callee44 rfl rfl rfl rfl) ?_
   rintro _ ⟨_, _, _, ⟨rfl, rfl, rfl⟩, rfl⟩
   refine sMv rfl rfl rfl ?_
   refine Qa rfl (Qq rfl rfl rfl rfl rfl) ?_
   refine Qa rfl (Qq rfl rfl rfl rfl rfl) ?_
   refine Qa rfl (Qi rfl rfl rfl rfl fldF29x3) ?_
   refine Qa rfl (Qo (cs' := [vB packed, vI np1, vU64 align1.1, vU64 align2.1, vU64 (0 : UInt64)]) rfl rfl rfl rfl QZ (i := 1) rfl rfl rfl (QF rfl) rfl) ?_
   refine sAs rfl rfl rfl ?_
   refine Qd (tZ [2, 6, 9, 10, 11, 12, 14, 15] [0, 1] [] rfl rfl rfl rfl ?_)
   refine Qe (Qc (Qa rfl (Qi rfl rfl rfl rfl fldF29x3) ?_))
   refine Qa rfl (Qj rfl rfl rfl rfl QZ (i := 1) rfl rfl) ?_
   refine sMv rfl rfl rfl ?_
   refine Qa rfl (Qf rfl rfl rfl rfl rfl (Za (a := align2.1) (b := parts1.2.1))) ?_
   obtain ⟨align3, hx4, h⟩ := ob_e h
   refine Qs rfl (Qv (w_ref_Align01 hx4) [] [] rfl rfl rfl rfl rfl callee44 rfl rfl rfl rfl) ?_
   rintro _ ⟨_, _, _, ⟨rfl, rfl, rfl⟩, rfl⟩
   refine sMv rfl rfl rfl ?_
   refine Qa rfl (Qq rfl rfl rfl rfl rfl) ?_
   refine Qa rfl (Qq rfl rfl rfl rfl rfl) ?_
   refine Qa rfl (Qi rfl rfl rfl rfl fldF29x4) ?_
   refine Qa rfl (Qo (cs' := [vB packed, vI np1, vU64 align1.1, vU64 align2.1, vU64 align3.1]) rfl rfl rfl rfl QZ (i := 1) rfl rfl rfl (QF rfl) rfl) ?_
   refine sAs rfl rfl rfl ?_
   refine Qd (tZ [2, 6, 9, 10, 11, 12, 14, 15, 16] [0, 1] [] rfl rfl rfl rfl ?_)
   refine Qe (Qe (Qc (sMv rfl rfl rfl ?_)))
   refine Qa rfl (Qf rfl rfl rfl rfl rfl (QL (a := align1.2) (b := (0 : Int)))) ?_
   refine sMv rfl rfl rfl ?_
   rcases bC (align1.2 != (0 : Int)) with hg2 | hg2
   ·replace h := br_t hg2 h
    refine Qg rfl rfl (cgb hg2) rfl rfl ?_
    refine Qg rfl rfl (cgb hg2) rfl rfl ?_
    refine Qa rfl (Qr rfl rfl rfl (cgb hg2) rfl) ?_
    refine sMv rfl rfl rfl ?_
    refine Qg rfl rfl rfl rfl rfl ?_
    refine Qg rfl rfl rfl rfl rfl ?_
    refine Qa rfl (Qr rfl rfl rfl rfl rfl) ?_
    refine sMv rfl rfl rfl ?_
    refine Qg rfl rfl rfl rfl rfl ?_
    refine Qg rfl rfl rfl rfl rfl ?_
    refine Qg rfl rfl rfl rfl rfl ?_
    refine Qg rfl rfl rfl rfl rfl ?_
    refine Qg rfl rfl rfl rfl rfl ?_
    refine Qg rfl rfl rfl rfl rfl ?_
    refine Qg rfl rfl rfl rfl rfl ?_
    refine Qa rfl (Qr rfl rfl rfl rfl rfl) ?_
    refine sMv rfl rfl rfl ?_
    refine Qg rfl rfl rfl rfl rfl ?_
    refine Qg rfl rfl rfl rfl rfl ?_
    refine Qg rfl rfl rfl rfl rfl ?_
    refine Qg rfl rfl rfl rfl rfl ?_
    refine Qg rfl rfl rfl rfl rfl ?_
    refine Qg rfl rfl rfl rfl rfl ?_
    refine Qg rfl rfl rfl rfl rfl ?_
    refine Qa rfl (Qr rfl rfl rfl rfl rfl) ?_
    refine sMv rfl rfl rfl ?_
    refine Qg rfl rfl rfl rfl rfl ?_
    refine Qg rfl rfl rfl rfl rfl ?_
    refine Qg rfl rfl rfl rfl rfl ?_
    refine Qg rfl rfl rfl rfl rfl ?_
    refine Qg rfl rfl rfl rfl rfl ?_
    refine Qg rfl rfl rfl rfl rfl ?_
    refine Qg rfl rfl rfl rfl rfl ?_
    refine Qg rfl rfl rfl rfl rfl ?_
    refine Qa rfl (Qr rfl rfl rfl rfl rfl) ?_
    refine sMv rfl rfl rfl ?_
    refine Qg rfl rfl rfl rfl rfl ?_
    refine Qg rfl rfl rfl rfl rfl ?_
    refine Qg rfl rfl rfl rfl rfl ?_
    refine Qa rfl (Qr rfl rfl rfl rfl rfl) ?_
    refine Qd (tZ [2, 6, 9, 12, 97] [0, 1] [] rfl rfl rfl rfl ?_)
    refine Ql rfl ?_
    refine Qe (Qc (Qa rfl (QE (v := .agg #[vB false, vI (0 : Int), vU64 (0 : UInt64), vU64 (0 : UInt64), vU64 (0 : UInt64)]) rfl rfl rfl rfl (bldV (by kernel_rfl))) ?_))
    refine Qa rfl (Qo (cs' := [vB false, vI (0 : Int), vU64 (0 : UInt64), vU64 (0 : UInt64), vU64 (0 : UInt64)]) rfl rfl rfl rfl ZX (i := 0) rfl rfl rfl (QF rfl) rfl) ?_
    refine sAs rfl rfl rfl ?_
    refine sAs rfl rfl rfl ?_
    refine Qd (tZ [6, 7, 8] [0] [] rfl rfl rfl rfl ?_)
    obtain rfl := Option.some.inj h
    exact Qn rfl rfl (resA (vs := [.agg #[vB false, vI (0 : Int), vU64 (0 : UInt64), vU64 (0 : UInt64), vU64 (0 : UInt64)], vU64 (0 : UInt64), vI (2 : Int)]) rfl ⟨⟨_, 0, _, _, _, rfl, rfl, .inl ⟨ZX, rfl, rfl⟩⟩, rfl, rfl, trivial⟩) [] [] rfl rfl rfl ⟨rfl, rfl, rfl⟩
   ·replace h := br_f hg2 h
    refine Qh rfl rfl (cgb hg2) (Qk rfl rfl rfl rfl) ?_
    rintro _ rfl
    refine Qh rfl rfl (cgb hg2) (Qf rfl rfl rfl rfl rfl (QL (a := align2.2) (b := (0 : Int)))) ?_
    rintro _ rfl
    refine Qa rfl (Qw rfl rfl rfl (cgb hg2) rfl) ?_
    refine sMv rfl rfl rfl ?_
    rcases bC (align2.2 != (0 : Int)) with hg3 | hg3
    ·replace h := br_t hg3 h
     refine Qg rfl rfl (cgb hg3) rfl rfl ?_
     refine Qg rfl rfl (cgb hg3) rfl rfl ?_
     refine Qa rfl (Qr rfl rfl rfl (cgb hg3) rfl) ?_
     refine sMv rfl rfl rfl ?_
     refine Qg rfl rfl rfl rfl rfl ?_
     refine Qg rfl rfl rfl rfl rfl ?_
     refine Qg rfl rfl rfl rfl rfl ?_
     refine Qg rfl rfl rfl rfl rfl ?_
     refine Qg rfl rfl rfl rfl rfl ?_
     refine Qg rfl rfl rfl rfl rfl ?_
     refine Qg rfl rfl rfl rfl rfl ?_
     refine Qa rfl (Qr rfl rfl rfl rfl rfl) ?_
     refine sMv rfl rfl rfl ?_
     refine Qg rfl rfl rfl rfl rfl ?_
     refine Qg rfl rfl rfl rfl rfl ?_
     refine Qg rfl rfl rfl rfl rfl ?_
     refine Qg rfl rfl rfl rfl rfl ?_
     refine Qg rfl rfl rfl rfl rfl ?_
     refine Qg rfl rfl rfl rfl rfl ?_
     refine Qg rfl rfl rfl rfl rfl ?_
     refine Qa rfl (Qr rfl rfl rfl rfl rfl) ?_
     refine sMv rfl rfl rfl ?_
     refine Qg rfl rfl rfl rfl rfl ?_
     refine Qg rfl rfl rfl rfl rfl ?_
     refine Qg rfl rfl rfl rfl rfl ?_
     refine Qg rfl rfl rfl rfl rfl ?_
     refine Qg rfl rfl rfl rfl rfl ?_
     refine Qg rfl rfl rfl rfl rfl ?_
     refine Qg rfl rfl rfl rfl rfl ?_
     refine Qg rfl rfl rfl rfl rfl ?_
     refine Qa rfl (Qr rfl rfl rfl rfl rfl) ?_
     refine sMv rfl rfl rfl ?_
     refine Qg rfl rfl rfl rfl rfl ?_
     refine Qg rfl rfl rfl rfl rfl ?_
     refine Qg rfl rfl rfl rfl rfl ?_
     refine Qa rfl (Qr rfl rfl rfl rfl rfl) ?_
     refine Qd (tZ [2, 6, 9, 12, 97] [0, 1] [] rfl rfl rfl rfl ?_)
     refine Ql rfl ?_
     refine Qe (Qc (Qa rfl (QE (v := .agg #[vB false, vI (0 : Int), vU64 (0 : UInt64), vU64 (0 : UInt64), vU64 (0 : UInt64)]) rfl rfl rfl rfl (bldV (by kernel_rfl))) ?_))
     refine Qa rfl (Qo (cs' := [vB false, vI (0 : Int), vU64 (0 : UInt64), vU64 (0 : UInt64), vU64 (0 : UInt64)]) rfl rfl rfl rfl ZX (i := 0) rfl rfl rfl (QF rfl) rfl) ?_
     refine sAs rfl rfl rfl ?_
     refine sAs rfl rfl rfl ?_
     refine Qd (tZ [6, 7, 8] [0] [] rfl rfl rfl rfl ?_)
     obtain rfl := Option.some.inj h
     exact Qn rfl rfl (resA (vs := [.agg #[vB false, vI (0 : Int), vU64 (0 : UInt64), vU64 (0 : UInt64), vU64 (0 : UInt64)], vU64 (0 : UInt64), vI (2 : Int)]) rfl ⟨⟨_, 0, _, _, _, rfl, rfl, .inl ⟨ZX, rfl, rfl⟩⟩, rfl, rfl, trivial⟩) [] [] rfl rfl rfl ⟨rfl, rfl, rfl⟩
    ·replace h := br_f hg3 h
     refine Qh rfl rfl (cgb hg3) (Qk rfl rfl rfl rfl) ?_
     rintro _ rfl
     refine Qh rfl rfl (cgb hg3) (Qf rfl rfl rfl rfl rfl (QL (a := align3.2) (b := (0 : Int)))) ?_
     rintro _ rfl
     refine Qa rfl (Qw rfl rfl rfl (cgb hg3) rfl) ?_
     refine sMv rfl rfl rfl ?_
     rcases bC (align3.2 != (0 : Int)) with hg4 | hg4
     ·replace h := br_t hg4 h
      refine Qg rfl rfl (cgb hg4) rfl rfl ?_
      refine Qg rfl rfl (cgb hg4) rfl rfl ?_
      refine Qg rfl rfl (cgb hg4) rfl rfl ?_
      refine Qg rfl rfl (cgb hg4) rfl rfl ?_
      refine Qg rfl rfl (cgb hg4) rfl rfl ?_
      refine Qg rfl rfl (cgb hg4) rfl rfl ?_
      refine Qg rfl rfl (cgb hg4) rfl rfl ?_
      refine Qa rfl (Qr rfl rfl rfl (cgb hg4) rfl) ?_
      refine sMv rfl rfl rfl ?_
      refine Qg rfl rfl rfl rfl rfl ?_
      refine Qg rfl rfl rfl rfl rfl ?_
      refine Qg rfl rfl rfl rfl rfl ?_
      refine Qg rfl rfl rfl rfl rfl ?_
      refine Qg rfl rfl rfl rfl rfl ?_
      refine Qg rfl rfl rfl rfl rfl ?_
      refine Qg rfl rfl rfl rfl rfl ?_
      refine Qa rfl (Qr rfl rfl rfl rfl rfl) ?_
      refine sMv rfl rfl rfl ?_
      refine Qg rfl rfl rfl rfl rfl ?_
      refine Qg rfl rfl rfl rfl rfl ?_
      refine Qg rfl rfl rfl rfl rfl ?_
      refine Qg rfl rfl rfl rfl rfl ?_
      refine Qg rfl rfl rfl rfl rfl ?_
      refine Qg rfl rfl rfl rfl rfl ?_
      refine Qg rfl rfl rfl rfl rfl ?_
      refine Qg rfl rfl rfl rfl rfl ?_
      refine Qa rfl (Qr rfl rfl rfl rfl rfl) ?_
      refine sMv rfl rfl rfl ?_
      refine Qg rfl rfl rfl rfl rfl ?_
      refine Qg rfl rfl rfl rfl rfl ?_
      refine Qg rfl rfl rfl rfl rfl ?_
      refine Qa rfl (Qr rfl rfl rfl rfl rfl) ?_
      refine Qd (tZ [2, 6, 9, 12, 97] [0, 1] [] rfl rfl rfl rfl ?_)
      refine Ql rfl ?_
      refine Qe (Qc (Qa rfl (QE (v := .agg #[vB false, vI (0 : Int), vU64 (0 : UInt64), vU64 (0 : UInt64), vU64 (0 : UInt64)]) rfl rfl rfl rfl (bldV (by kernel_rfl))) ?_))
      refine Qa rfl (Qo (cs' := [vB false, vI (0 : Int), vU64 (0 : UInt64), vU64 (0 : UInt64), vU64 (0 : UInt64)]) rfl rfl rfl rfl ZX (i := 0) rfl rfl rfl (QF rfl) rfl) ?_
      refine sAs rfl rfl rfl ?_
      refine sAs rfl rfl rfl ?_
      refine Qd (tZ [6, 7, 8] [0] [] rfl rfl rfl rfl ?_)
      obtain rfl := Option.some.inj h
      exact Qn rfl rfl (resA (vs := [.agg #[vB false, vI (0 : Int), vU64 (0 : UInt64), vU64 (0 : UInt64), vU64 (0 : UInt64)], vU64 (0 : UInt64), vI (2 : Int)]) rfl ⟨⟨_, 0, _, _, _, rfl, rfl, .inl ⟨ZX, rfl, rfl⟩⟩, rfl, rfl, trivial⟩) [] [] rfl rfl rfl ⟨rfl, rfl, rfl⟩
     ·replace h := br_f hg4 h
      refine Qh rfl rfl (cgb hg4) (Qi rfl rfl rfl rfl KC) ?_
      rintro _ rfl
      refine Qh rfl rfl (cgb hg4) (Qj rfl rfl rfl rfl QZ (i := 1) rfl rfl) ?_
      rintro _ rfl
      refine Qh rfl rfl (cgb hg4) (Qk rfl rfl rfl rfl) ?_
      rintro _ rfl
      refine Qh rfl rfl (cgb hg4) (Qf rfl rfl rfl rfl rfl (Za (a := align1.1) (b := parts1.1))) ?_
      rintro _ rfl
      refine Qh rfl rfl (cgb hg4) (Qi rfl rfl rfl rfl KC) ?_
      rintro _ rfl
      refine Qh rfl rfl (cgb hg4) (Qj rfl rfl rfl rfl QZ (i := 1) rfl rfl) ?_
      rintro _ rfl
      refine Qh rfl rfl (cgb hg4) (Qf rfl rfl rfl rfl rfl (ZD (a := align1.1 + parts1.1) (b := align1.1))) ?_
      rintro _ rfl
      refine Qa rfl (Qw rfl rfl rfl (cgb hg4) rfl) ?_
      refine sMv rfl rfl rfl ?_
      rcases bC (decide ((align1.1 + parts1.1) < align1.1)) with hg5 | hg5
      ·replace h := br_t hg5 h
       refine Qg rfl rfl (cgb hg5) rfl rfl ?_
       refine Qg rfl rfl (cgb hg5) rfl rfl ?_
       refine Qg rfl rfl (cgb hg5) rfl rfl ?_
       refine Qg rfl rfl (cgb hg5) rfl rfl ?_
       refine Qg rfl rfl (cgb hg5) rfl rfl ?_
       refine Qg rfl rfl (cgb hg5) rfl rfl ?_
       refine Qg rfl rfl (cgb hg5) rfl rfl ?_
       refine Qa rfl (Qr rfl rfl rfl (cgb hg5) rfl) ?_
       refine sMv rfl rfl rfl ?_
       refine Qg rfl rfl rfl rfl rfl ?_
       refine Qg rfl rfl rfl rfl rfl ?_
       refine Qg rfl rfl rfl rfl rfl ?_
       refine Qg rfl rfl rfl rfl rfl ?_
       refine Qg rfl rfl rfl rfl rfl ?_
       refine Qg rfl rfl rfl rfl rfl ?_
       refine Qg rfl rfl rfl rfl rfl ?_
       refine Qg rfl rfl rfl rfl rfl ?_
       refine Qa rfl (Qr rfl rfl rfl rfl rfl) ?_
       refine sMv rfl rfl rfl ?_
       refine Qg rfl rfl rfl rfl rfl ?_
       refine Qg rfl rfl rfl rfl rfl ?_
       refine Qg rfl rfl rfl rfl rfl ?_
       refine Qa rfl (Qr rfl rfl rfl rfl rfl) ?_
       refine Qd (tZ [2, 6, 9, 12, 97] [0, 1] [] rfl rfl rfl rfl ?_)
       refine Ql rfl ?_
       refine Qe (Qc (Qa rfl (QE (v := .agg #[vB false, vI (0 : Int), vU64 (0 : UInt64), vU64 (0 : UInt64), vU64 (0 : UInt64)]) rfl rfl rfl rfl (bldV (by kernel_rfl))) ?_))
       refine Qa rfl (Qo (cs' := [vB false, vI (0 : Int), vU64 (0 : UInt64), vU64 (0 : UInt64), vU64 (0 : UInt64)]) rfl rfl rfl rfl ZX (i := 0) rfl rfl rfl (QF rfl) rfl) ?_
       refine sAs rfl rfl rfl ?_
       refine sAs rfl rfl rfl ?_
       refine Qd (tZ [6, 7, 8] [0] [] rfl rfl rfl rfl ?_)
       obtain rfl := Option.some.inj h
       exact Qn rfl rfl (resA (vs := [.agg #[vB false, vI (0 : Int), vU64 (0 : UInt64), vU64 (0 : UInt64), vU64 (0 : UInt64)], vU64 (0 : UInt64), vI (2 : Int)]) rfl ⟨⟨_, 0, _, _, _, rfl, rfl, .inl ⟨ZX, rfl, rfl⟩⟩, rfl, rfl, trivial⟩) [] [] rfl rfl rfl ⟨rfl, rfl, rfl⟩
      ·replace h := br_f hg5 h
       refine Qh rfl rfl (cgb hg5) (Qi rfl rfl rfl rfl fldF29x3) ?_
       rintro _ rfl
       refine Qh rfl rfl (cgb hg5) (Qj rfl rfl rfl rfl QZ (i := 1) rfl rfl) ?_
       rintro _ rfl
       refine Qh rfl rfl (cgb hg5) (Qk rfl rfl rfl rfl) ?_
       rintro _ rfl
       refine Qh rfl rfl (cgb hg5) (Qf rfl rfl rfl rfl rfl (Za (a := align2.1) (b := parts1.2.1))) ?_
       rintro _ rfl
       refine Qh rfl rfl (cgb hg5) (Qi rfl rfl rfl rfl fldF29x3) ?_
       rintro _ rfl
       refine Qh rfl rfl (cgb hg5) (Qj rfl rfl rfl rfl QZ (i := 1) rfl rfl) ?_
       rintro _ rfl
       refine Qh rfl rfl (cgb hg5) (Qf rfl rfl rfl rfl rfl (ZD (a := align2.1 + parts1.2.1) (b := align2.1))) ?_
       rintro _ rfl
       refine Qa rfl (Qw rfl rfl rfl (cgb hg5) rfl) ?_
       refine sMv rfl rfl rfl ?_
       rcases bC (decide ((align2.1 + parts1.2.1) < align2.1)) with hg6 | hg6
       ·replace h := br_t hg6 h
        refine Qg rfl rfl (cgb hg6) rfl rfl ?_
        refine Qg rfl rfl (cgb hg6) rfl rfl ?_
        refine Qg rfl rfl (cgb hg6) rfl rfl ?_
        refine Qg rfl rfl (cgb hg6) rfl rfl ?_
        refine Qg rfl rfl (cgb hg6) rfl rfl ?_
        refine Qg rfl rfl (cgb hg6) rfl rfl ?_
        refine Qg rfl rfl (cgb hg6) rfl rfl ?_
        refine Qg rfl rfl (cgb hg6) rfl rfl ?_
        refine Qa rfl (Qr rfl rfl rfl (cgb hg6) rfl) ?_
        refine sMv rfl rfl rfl ?_
        refine Qg rfl rfl rfl rfl rfl ?_
        refine Qg rfl rfl rfl rfl rfl ?_
        refine Qg rfl rfl rfl rfl rfl ?_
        refine Qa rfl (Qr rfl rfl rfl rfl rfl) ?_
        refine Qd (tZ [2, 6, 9, 12, 97] [0, 1] [] rfl rfl rfl rfl ?_)
        refine Ql rfl ?_
        refine Qe (Qc (Qa rfl (QE (v := .agg #[vB false, vI (0 : Int), vU64 (0 : UInt64), vU64 (0 : UInt64), vU64 (0 : UInt64)]) rfl rfl rfl rfl (bldV (by kernel_rfl))) ?_))
        refine Qa rfl (Qo (cs' := [vB false, vI (0 : Int), vU64 (0 : UInt64), vU64 (0 : UInt64), vU64 (0 : UInt64)]) rfl rfl rfl rfl ZX (i := 0) rfl rfl rfl (QF rfl) rfl) ?_
        refine sAs rfl rfl rfl ?_
        refine sAs rfl rfl rfl ?_
        refine Qd (tZ [6, 7, 8] [0] [] rfl rfl rfl rfl ?_)
        obtain rfl := Option.some.inj h
        exact Qn rfl rfl (resA (vs := [.agg #[vB false, vI (0 : Int), vU64 (0 : UInt64), vU64 (0 : UInt64), vU64 (0 : UInt64)], vU64 (0 : UInt64), vI (2 : Int)]) rfl ⟨⟨_, 0, _, _, _, rfl, rfl, .inl ⟨ZX, rfl, rfl⟩⟩, rfl, rfl, trivial⟩) [] [] rfl rfl rfl ⟨rfl, rfl, rfl⟩
       ·replace h := br_f hg6 h
        refine Qh rfl rfl (cgb hg6) (Qi rfl rfl rfl rfl fldF29x4) ?_
        rintro _ rfl
        refine Qh rfl rfl (cgb hg6) (Qj rfl rfl rfl rfl QZ (i := 1) rfl rfl) ?_
        rintro _ rfl
        refine Qh rfl rfl (cgb hg6) (Qk rfl rfl rfl rfl) ?_
        rintro _ rfl
        refine Qh rfl rfl (cgb hg6) (Qf rfl rfl rfl rfl rfl (Zc (a := parts1.2.2) (b := (1 : UInt64)))) ?_
        rintro _ rfl
        refine Qh rfl rfl (cgb hg6) (Qf rfl rfl rfl rfl rfl (Za (a := align3.1) (b := parts1.2.2 - (1 : UInt64)))) ?_
        rintro _ rfl
        refine Qh rfl rfl (cgb hg6) (Qi rfl rfl rfl rfl fldF29x4) ?_
        rintro _ rfl
        refine Qh rfl rfl (cgb hg6) (Qj rfl rfl rfl rfl QZ (i := 1) rfl rfl) ?_
        rintro _ rfl
        refine Qh rfl rfl (cgb hg6) (Qf rfl rfl rfl rfl rfl (ZD (a := align3.1 + (parts1.2.2 - (1 : UInt64))) (b := align3.1))) ?_
        rintro _ rfl
        refine Qa rfl (Qw rfl rfl rfl (cgb hg6) rfl) ?_
        refine sMv rfl rfl rfl ?_
        rcases bC (decide ((align3.1 + (parts1.2.2 - (1 : UInt64))) < align3.1)) with hg7 | hg7
        ·replace h := br_t hg7 h
         refine Qg rfl rfl (cgb hg7) rfl rfl ?_
         refine Qg rfl rfl (cgb hg7) rfl rfl ?_
         refine Qg rfl rfl (cgb hg7) rfl rfl ?_
         refine Qa rfl (Qr rfl rfl rfl (cgb hg7) rfl) ?_
         refine Qd (tZ [2, 6, 9, 12, 97] [0, 1] [] rfl rfl rfl rfl ?_)
         refine Ql rfl ?_
         refine Qe (Qc (Qa rfl (QE (v := .agg #[vB false, vI (0 : Int), vU64 (0 : UInt64), vU64 (0 : UInt64), vU64 (0 : UInt64)]) rfl rfl rfl rfl (bldV (by kernel_rfl))) ?_))
         refine Qa rfl (Qo (cs' := [vB false, vI (0 : Int), vU64 (0 : UInt64), vU64 (0 : UInt64), vU64 (0 : UInt64)]) rfl rfl rfl rfl ZX (i := 0) rfl rfl rfl (QF rfl) rfl) ?_
         refine sAs rfl rfl rfl ?_
         refine sAs rfl rfl rfl ?_
         refine Qd (tZ [6, 7, 8] [0] [] rfl rfl rfl rfl ?_)
         obtain rfl := Option.some.inj h
         exact Qn rfl rfl (resA (vs := [.agg #[vB false, vI (0 : Int), vU64 (0 : UInt64), vU64 (0 : UInt64), vU64 (0 : UInt64)], vU64 (0 : UInt64), vI (2 : Int)]) rfl ⟨⟨_, 0, _, _, _, rfl, rfl, .inl ⟨ZX, rfl, rfl⟩⟩, rfl, rfl, trivial⟩) [] [] rfl rfl rfl ⟨rfl, rfl, rfl⟩
        ·replace h := br_f hg7 h
         refine Qh rfl rfl (cgb hg7) (Qy (vs := [vB packed, vI np1, vU64 align1.1, vU64 align2.1, vU64 align3.1]) rfl rfl rfl rfl ZX (i := 1) rfl rfl rfl) ?_
         rintro _ rfl
         obtain ⟨check1, hx5, h⟩ := ob_e h
         refine Qh rfl rfl (cgb hg7) (Qv (w_ref_Check04 hx5) [] [] rfl rfl rfl rfl rfl callee45 rfl rfl rfl rfl) ?_
         rintro _ ⟨_, _, _, ⟨rfl, rfl, rfl⟩, rfl⟩
         refine Qh rfl rfl (cgb hg7) (Qf rfl rfl rfl rfl rfl (QL (a := check1) (b := (0 : Int)))) ?_
         rintro _ rfl
         refine Qa rfl (Qw rfl rfl rfl (cgb hg7) rfl) ?_
         refine Qd (tZ [2, 6, 9, 12, 97] [0, 1] [] rfl rfl rfl rfl ?_)
         rcases bC (check1 != (0 : Int)) with hg8 | hg8
         ·replace h := br_t hg8 h
          refine Ql (cgb hg8) ?_
          refine Qe (Qc (Qa rfl (QE (v := .agg #[vB false, vI (0 : Int), vU64 (0 : UInt64), vU64 (0 : UInt64), vU64 (0 : UInt64)]) rfl rfl rfl rfl (bldV (by kernel_rfl))) ?_))
          refine Qa rfl (Qo (cs' := [vB false, vI (0 : Int), vU64 (0 : UInt64), vU64 (0 : UInt64), vU64 (0 : UInt64)]) rfl rfl rfl rfl ZX (i := 0) rfl rfl rfl (QF rfl) rfl) ?_
          refine sAs rfl rfl rfl ?_
          refine sAs rfl rfl rfl ?_
          refine Qd (tZ [6, 7, 8] [0] [] rfl rfl rfl rfl ?_)
          obtain rfl := Option.some.inj h
          exact Qn rfl rfl (resA (vs := [.agg #[vB false, vI (0 : Int), vU64 (0 : UInt64), vU64 (0 : UInt64), vU64 (0 : UInt64)], vU64 (0 : UInt64), vI (2 : Int)]) rfl ⟨⟨_, 0, _, _, _, rfl, rfl, .inl ⟨ZX, rfl, rfl⟩⟩, rfl, rfl, trivial⟩) [] [] rfl rfl rfl ⟨rfl, rfl, rfl⟩
         ·replace h := br_f hg8 h
          refine Qp (cgb hg8) ?_
          refine Qt (Qe (QU (by kernel_rfl) ?_))
          refine Xn [0, 0, 2, 0, 14, 0, 62, 1, 255, 511] (by kernel_rfl) fun htb => ?_
          refine aZ [2, 6, 9, 12] [0, 1] [] rfl rfl rfl rfl ?_
          refine QW (lo := 0) (hi := 8) htb rfl rfl (by kernel_rfl) (fun c L a w => Sat c ⟨[(2, some (vU64 base)), (6, some (.pointer (some ⟨b1, 0, none⟩))), (9, some (.pointer (some ⟨b2, 0, none⟩))), (12, some (vU64 parts1.2.2)), (99, bif L 0 then some (.agg #[vB packed, vI np1, vU64 align1.1, vU64 align2.1, vU64 align3.1]) else none), (100, bif L 1 then some (.pointer (some ⟨b2, 4, none⟩)) else none), (101, bif L 2 then some (vU64 align3.1) else none), (102, bif L 3 then some (vU64 parts1.2.2) else none), (103, bif L 4 then some (vU64 (align3.1 + parts1.2.2)) else none), (104, bif L 5 then some (vU64 base) else none), (105, bif L 6 then some (vU64 ((align3.1 + parts1.2.2) - base)) else none)], [(bif L 7 then some (Qm b1 29 [vB packed, vI np1, vU64 align1.1, vU64 align2.1, vU64 align3.1]) else some (Qm b1 29 [vB false, vI (0 : Int), vU64 (0 : UInt64), vU64 (0 : UInt64), vU64 (0 : UInt64)]) : Option Res), (some (Qm b2 29 [vB packed, vI np1, vU64 align1.1, vU64 align2.1, vU64 align3.1]) : Option Res)], []⟩ a w) [([], [7]), ([], [2, 4, 6]), ([1], [4, 6]), ([], [4, 6]), ([1, 2, 3], [6]), ([], [6]), ([1, 2, 3, 4, 5], []), ([0], [])] rfl (by kernel_rfl) ?_ (Qb ?_ (Qb ?_ (Qb ?_ (Qb ?_ (Qb ?_ (Qb ?_ (Qb ?_ (Qb ?_ (QB))))))))) ?_
          ·intro a w hs
           exact hs.startF [99, 100, 101, 102, 103, 104, 105] [0, 1] [] rfl rfl rfl rfl
          ·intro L a w hs K Q hK
           exact wGo rfl rfl hs (Qy (vs := [vB packed, vI np1, vU64 align1.1, vU64 align2.1, vU64 align3.1]) rfl rfl rfl rfl ZX (i := 1) rfl rfl rfl) fun a w hs => hK a w (pF hs 4 [0, 1] [] rfl)
          ·intro L a w hs K Q hK
           exact wGo rfl rfl hs (Qi rfl rfl rfl rfl fldF29x4) fun a w hs => hK a w (pF hs 5 [0, 1] [] rfl)
          ·intro L a w hs K Q hK
           exact wGo rfl rfl hs (Qj rfl rfl rfl rfl QZ (i := 1) rfl rfl) fun a w hs => hK a w (pF hs 6 [0, 1] [] rfl)
          ·intro L a w hs K Q hK
           exact wGo rfl rfl hs (Qk rfl rfl rfl rfl) fun a w hs => hK a w (pF hs 7 [0, 1] [] rfl)
          ·intro L a w hs K Q hK
           exact wGo rfl rfl hs (Qf rfl rfl rfl rfl rfl (Za (a := align3.1) (b := parts1.2.2))) fun a w hs => hK a w (pF hs 8 [0, 1] [] rfl)
          ·intro L a w hs K Q hK
           exact wGo rfl rfl hs (Qk rfl rfl rfl rfl) fun a w hs => hK a w (pF hs 9 [0, 1] [] rfl)
          ·intro L a w hs K Q hK
           exact wGo rfl rfl hs (Qf rfl rfl rfl rfl rfl (Zc (a := align3.1 + parts1.2.2) (b := base))) fun a w hs => hK a w (pF hs 10 [0, 1] [] rfl)
          ·intro L a w hs K Q hK
           exact wGo rfl rfl hs (Qo (cs' := [vB packed, vI np1, vU64 align1.1, vU64 align2.1, vU64 align3.1]) rfl rfl rfl rfl ZX (i := 0) rfl rfl rfl (QF rfl) rfl) fun a w hs => hK a w (hs.sameF [0, 1] [] rfl rfl rfl rfl)
          ·intro L a w hL hv
           rw [QM hL] at hv
           have hs := hv
           refine gZ hs [6, 105] [0] [] rfl rfl rfl rfl ?_
           clear hs hL
           refine Qx htb (by kernel_rfl) rfl rfl (QN rfl rfl rfl rfl) ?_
           refine Qx htb (by kernel_rfl) rfl rfl (QN rfl rfl rfl rfl) ?_
           refine Zh rfl ?_
           refine tZ [6, 7, 8] [0] [] rfl rfl rfl rfl ?_
           obtain rfl := Option.some.inj h
           exact Qn rfl rfl (resA (vs := [.agg #[vB packed, vI np1, vU64 align1.1, vU64 align2.1, vU64 align3.1], vU64 ((align3.1 + parts1.2.2) - base), vI (0 : Int)]) rfl ⟨⟨_, 0, _, _, _, rfl, rfl, .inl ⟨ZX, rfl, rfl⟩⟩, rfl, rfl, trivial⟩) [] [] rfl rfl rfl ⟨rfl, rfl, rfl⟩
  ·intro HJ1
   rcases bC (packed) with hg9 | hg9
   ·replace h := br_t hg9 h
    refine Ql (cgb hg9) ?_
    refine Qc (sAs rfl rfl rfl ?_)
    refine Qd (tZ [2, 6, 9, 10, 11, 12, 13] [0, 1] [] rfl rfl rfl rfl ?_)
    exact XA (HJ1 (4 : UInt64) h) [2, 6, 9, 10, 11, 12, 13] [0, 1] [] rfl rfl rfl rfl
   ·replace h := br_f hg9 h
    refine Qp (cgb hg9) ?_
    refine Qt ?_
    exact XA (HJ1 (2 : UInt64) h) [2, 6, 9, 10, 11, 12, 13] [0, 1] [] rfl rfl rfl rfl

set_option maxRecDepth 100000 in
set_option maxHeartbeats 4000000 in
theorem w_gmem_Check {l : List Region} {vl1 : Value} {r : Int} (h : gmem_Check l = some r) :
  Ctr Try.prog 46 #[vl1] [] [Fact.sl Qz vl1 l]
   (fun rv own shr => rv = vI r ∧ own = [] ∧ shr = []) := by
 unfold gmem_Check at h
 refine Ctr.mk (args := [vl1]) Try.func46 rfl rfl (fun R0 w0 B => ?_)
 refine Qe (Qc (sAs rfl rfl rfl ?_))
 refine Qd (tZ [0] [] [0] rfl rfl rfl rfl ?_)
 refine Qe (Qe (Qc (sMv rfl rfl rfl ?_)))
 refine Qa rfl (QT rfl rfl rfl rfl Try.underlying54 (i := 0) rfl) ?_
 refine Qa rfl (Qf rfl rfl rfl rfl rfl (Kz (a := len l) (b := (16 : Int)))) ?_
 refine Qd (tZ [0, 9] [] [0] rfl rfl rfl rfl ?_)
 rcases bC (decide ((len l) > (16 : Int))) with hg1 | hg1
 ·replace h := br_t hg1 h
  refine Ql (cgb hg1) ?_
  refine Qe (Qc (sAs rfl rfl rfl ?_))
  refine Qd (tZ [2] [] [] rfl rfl rfl rfl ?_)
  obtain rfl := Option.some.inj h
  exact Qn rfl rfl (resA (vs := [vI (2 : Int)]) rfl ⟨rfl, trivial⟩) [] [] rfl rfl rfl ⟨rfl, rfl, rfl⟩
 ·replace h := br_f hg1 h
  refine Qp (cgb hg1) ?_
  refine Qt (Qe (Qc (sAs rfl rfl rfl ?_)))
  refine Qd (tZ [0, 3] [] [0] rfl rfl rfl rfl ?_)
  refine Qe (Qe (Qc (sMv rfl rfl rfl ?_)))
  refine Qa rfl (QT rfl rfl rfl rfl Try.underlying54 (i := 0) rfl) ?_
  refine sMv rfl rfl rfl ?_
  refine Qd (QC (Zf (σ := UInt64 × Int) [0, 3, 10, 11, 12] [] [0] (fun s => ⟨[(0, some vl1), (3, some (vU64 s.1)), (10, some vl1), (11, some (vI (len l))), (12, some (vI s.2))], [], [Fact.sl Qz vl1 l]⟩) (fun nf1 s => KO l nf1 s.1 s.2 = some r) fuel ((1048576 : UInt64), (0 : Int)) h rfl rfl rfl rfl rfl (fun s h => by cases h) ?_))
  rintro nf1 ⟨room1, x1⟩ h
  replace h : gmem_CheckL1B l (KO l nf1) room1 x1 = some r := h
  unfold gmem_CheckL1B at h
  refine Qe (Qc (Qa rfl (Qf rfl rfl rfl rfl rfl (QI (a := x1) (b := len l))) ?_))
  refine Qd (Qe ?_)
  rcases bC (decide (x1 < (len l))) with hg2 | hg2
  ·replace h := br_t hg2 h
   refine Ql (cgb hg2) ?_
   refine Qt (Qe (QC (Qe (Qc (sMv rfl rfl rfl ?_)))))
   obtain ⟨r1, hx1, h⟩ := ob_e h
   refine Qu rfl (Zb rfl rfl rfl rfl rfl slF54 (i := 0) rfl hx1) fun p1 => ?_
   refine Qa rfl (Xs (vs := [vU64 r1.At, vU64 r1.Len]) rfl rfl rfl rfl tyF53 (i := 1) rfl rfl) ?_
   refine Qu rfl (QD rfl rfl rfl tyZ53) fun b1 => ?_
   refine sAs rfl rfl rfl ?_
   refine Qa rfl (Qo (cs' := [vU64 r1.At, vU64 r1.Len]) rfl rfl rfl rfl tyF53 (i := 0) rfl rfl rfl (QF rfl) rfl) ?_
   refine Qd (tZ [0, 3, 10, 11, 12, 5, 4] [0] [0] rfl rfl rfl rfl ?_)
   refine Qe (Qe (Qc (Qa rfl (Qi rfl rfl rfl rfl Yd) ?_)))
   refine Qa rfl (Qj rfl rfl rfl rfl QZ (i := 0) rfl rfl) ?_
   refine Qa rfl (Qf rfl rfl rfl rfl rfl (ZD (a := r1.Len) (b := (1 : UInt64)))) ?_
   refine sMv rfl rfl rfl ?_
   rcases bC (decide (r1.Len < (1 : UInt64))) with hg3 | hg3
   ·replace h := br_t hg3 h
    refine Qg rfl rfl (cgb hg3) rfl rfl ?_
    refine Qg rfl rfl (cgb hg3) rfl rfl ?_
    refine Qg rfl rfl (cgb hg3) rfl rfl ?_
    refine Qg rfl rfl (cgb hg3) rfl rfl ?_
    refine Qa rfl (Qr rfl rfl rfl (cgb hg3) rfl) ?_
    refine sMv rfl rfl rfl ?_
    refine Qg rfl rfl rfl rfl rfl ?_
    refine Qg rfl rfl rfl rfl rfl ?_
    refine Qg rfl rfl rfl rfl rfl ?_
    refine Qg rfl rfl rfl rfl rfl ?_
    refine Qg rfl rfl rfl rfl rfl ?_
    refine Qg rfl rfl rfl rfl rfl ?_
    refine Qg rfl rfl rfl rfl rfl ?_
    refine Qa rfl (Qr rfl rfl rfl rfl rfl) ?_
    refine Qd (tZ [0, 3, 10, 11, 12, 5, 4, 34] [0] [0] rfl rfl rfl rfl ?_)
    refine Ql rfl ?_
    refine Qe (Qc (sAs rfl rfl rfl ?_))
    refine Qd (tZ [2] [] [] rfl rfl rfl rfl ?_)
    obtain rfl := Option.some.inj h
    exact Qn rfl rfl (resA (vs := [vI (2 : Int)]) rfl ⟨rfl, trivial⟩) [] [] rfl rfl rfl ⟨rfl, rfl, rfl⟩
   ·replace h := br_f hg3 h
    refine Qh rfl rfl (cgb hg3) (Qi rfl rfl rfl rfl Yd) ?_
    rintro _ rfl
    refine Qh rfl rfl (cgb hg3) (Qj rfl rfl rfl rfl QZ (i := 0) rfl rfl) ?_
    rintro _ rfl
    refine Qh rfl rfl (cgb hg3) (Qk rfl rfl rfl rfl) ?_
    rintro _ rfl
    refine Qh rfl rfl (cgb hg3) (Qf rfl rfl rfl rfl rfl (Xu (a := r1.Len) (b := room1))) ?_
    rintro _ rfl
    refine Qa rfl (Qw rfl rfl rfl (cgb hg3) rfl) ?_
    refine sMv rfl rfl rfl ?_
    rcases bC (decide (r1.Len > room1)) with hg4 | hg4
    ·replace h := br_t hg4 h
     refine Qg rfl rfl (cgb hg4) rfl rfl ?_
     refine Qg rfl rfl (cgb hg4) rfl rfl ?_
     refine Qg rfl rfl (cgb hg4) rfl rfl ?_
     refine Qg rfl rfl (cgb hg4) rfl rfl ?_
     refine Qg rfl rfl (cgb hg4) rfl rfl ?_
     refine Qg rfl rfl (cgb hg4) rfl rfl ?_
     refine Qg rfl rfl (cgb hg4) rfl rfl ?_
     refine Qa rfl (Qr rfl rfl rfl (cgb hg4) rfl) ?_
     refine Qd (tZ [0, 3, 10, 11, 12, 5, 4, 34] [0] [0] rfl rfl rfl rfl ?_)
     refine Ql rfl ?_
     refine Qe (Qc (sAs rfl rfl rfl ?_))
     refine Qd (tZ [2] [] [] rfl rfl rfl rfl ?_)
     obtain rfl := Option.some.inj h
     exact Qn rfl rfl (resA (vs := [vI (2 : Int)]) rfl ⟨rfl, trivial⟩) [] [] rfl rfl rfl ⟨rfl, rfl, rfl⟩
    ·replace h := br_f hg4 h
     refine Qh rfl rfl (cgb hg4) (Qi rfl rfl rfl rfl Yd) ?_
     rintro _ rfl
     refine Qh rfl rfl (cgb hg4) (Qj rfl rfl rfl rfl QZ (i := 0) rfl rfl) ?_
     rintro _ rfl
     refine Qh rfl rfl (cgb hg4) (Qf rfl rfl rfl rfl rfl (Zc (a := r1.Len) (b := (1 : UInt64)))) ?_
     rintro _ rfl
     refine Qh rfl rfl (cgb hg4) (Qi rfl rfl rfl rfl Yy) ?_
     rintro _ rfl
     refine Qh rfl rfl (cgb hg4) (Qj rfl rfl rfl rfl QZ (i := 0) rfl rfl) ?_
     rintro _ rfl
     refine Qh rfl rfl (cgb hg4) (Qf rfl rfl rfl rfl rfl (Zc (a := (18446744073709551615 : UInt64)) (b := r1.At))) ?_
     rintro _ rfl
     refine Qh rfl rfl (cgb hg4) (Qf rfl rfl rfl rfl rfl (Xu (a := r1.Len - (1 : UInt64)) (b := (18446744073709551615 : UInt64) - r1.At))) ?_
     rintro _ rfl
     refine Qa rfl (Qw rfl rfl rfl (cgb hg4) rfl) ?_
     refine Qd (tZ [0, 3, 10, 11, 12, 5, 4, 34] [0] [0] rfl rfl rfl rfl ?_)
     rcases bC (decide ((r1.Len - (1 : UInt64)) > ((18446744073709551615 : UInt64) - r1.At))) with hg5 | hg5
     ·replace h := br_t hg5 h
      refine Ql (cgb hg5) ?_
      refine Qe (Qc (sAs rfl rfl rfl ?_))
      refine Qd (tZ [2] [] [] rfl rfl rfl rfl ?_)
      obtain rfl := Option.some.inj h
      exact Qn rfl rfl (resA (vs := [vI (2 : Int)]) rfl ⟨rfl, trivial⟩) [] [] rfl rfl rfl ⟨rfl, rfl, rfl⟩
     ·replace h := br_f hg5 h
      refine Qp (cgb hg5) ?_
      refine Qt (Qe (Qc (sMv rfl rfl rfl ?_)))
      refine Qa rfl (Qi rfl rfl rfl rfl Yd) ?_
      refine Qa rfl (Qj rfl rfl rfl rfl QZ (i := 0) rfl rfl) ?_
      refine Qa rfl (Qf rfl rfl rfl rfl rfl (Zc (a := room1) (b := r1.Len))) ?_
      refine sAs rfl rfl rfl ?_
      refine Qd (tZ [0, 3, 10, 11, 12, 5, 4] [0] [0] rfl rfl rfl rfl ?_)
      refine Qe (Qc (sMv rfl rfl rfl ?_))
      refine Qa rfl (Qf rfl rfl rfl rfl rfl (Kz (a := x1) (b := (0 : Int)))) ?_
      refine Qd (tZ [0, 3, 10, 11, 12, 5, 4, 40] [0] [0] rfl rfl rfl rfl ?_)
      rcases bC (decide (x1 > (0 : Int))) with hg6 | hg6
      ·replace h := br_t hg6 h
       refine Ql (cgb hg6) ?_
       refine Qe (Qc (sMv rfl rfl rfl ?_))
       refine sMv rfl rfl rfl ?_
       refine Qa rfl (Qf rfl rfl rfl rfl rfl (bin_sub_i (a := x1) (b := (1 : Int)))) ?_
       obtain ⟨r2, hx2, h⟩ := ob_e h
       refine Qu rfl (Zb rfl rfl rfl rfl rfl slF54 (i := 0) rfl hx2) fun p2 => ?_
       refine Qa rfl (Xs (vs := [vU64 r2.At, vU64 r2.Len]) rfl rfl rfl rfl tyF53 (i := 1) rfl rfl) ?_
       refine Qu rfl (QD rfl rfl rfl tyZ53) fun b2 => ?_
       refine Qa rfl (Qo (cs' := [vU64 r2.At, vU64 r2.Len]) rfl rfl rfl rfl tyF53 (i := 1) rfl rfl rfl (QF rfl) rfl) ?_
       refine Qd (tZ [0, 3, 10, 11, 12, 5, 6] [0, 1] [0] rfl rfl rfl rfl ?_)
       refine Qe (Qc (Qa rfl (Qi rfl rfl rfl rfl Yy) ?_))
       refine Qa rfl (Qj rfl rfl rfl rfl QZ (i := 0) rfl rfl) ?_
       refine Qa rfl (Qi rfl rfl rfl rfl Yy) ?_
       refine Qa rfl (Qj rfl rfl rfl rfl QZ (i := 1) rfl rfl) ?_
       refine Qa rfl (Qf rfl rfl rfl rfl rfl (bin_leq_u64 (a := r1.At) (b := r2.At))) ?_
       refine sMv rfl rfl rfl ?_
       rcases bC (decide (r1.At ≤ r2.At)) with hg7 | hg7
       ·replace h := br_t hg7 h
        refine Qg rfl rfl (cgb hg7) rfl rfl ?_
        refine Qg rfl rfl (cgb hg7) rfl rfl ?_
        refine Qg rfl rfl (cgb hg7) rfl rfl ?_
        refine Qg rfl rfl (cgb hg7) rfl rfl ?_
        refine Qg rfl rfl (cgb hg7) rfl rfl ?_
        refine Qg rfl rfl (cgb hg7) rfl rfl ?_
        refine Qg rfl rfl (cgb hg7) rfl rfl ?_
        refine Qg rfl rfl (cgb hg7) rfl rfl ?_
        refine Qa rfl (Qr rfl rfl rfl (cgb hg7) rfl) ?_
        refine Qd (tZ [0, 3, 10, 11, 12, 60] [] [0] rfl rfl rfl rfl ?_)
        refine Ql rfl ?_
        refine Qe (Qc (sAs rfl rfl rfl ?_))
        refine Qd (tZ [2] [] [] rfl rfl rfl rfl ?_)
        obtain rfl := Option.some.inj h
        exact Qn rfl rfl (resA (vs := [vI (2 : Int)]) rfl ⟨rfl, trivial⟩) [] [] rfl rfl rfl ⟨rfl, rfl, rfl⟩
       ·replace h := br_f hg7 h
        refine Qh rfl rfl (cgb hg7) (Qi rfl rfl rfl rfl Yy) ?_
        rintro _ rfl
        refine Qh rfl rfl (cgb hg7) (Qj rfl rfl rfl rfl QZ (i := 0) rfl rfl) ?_
        rintro _ rfl
        refine Qh rfl rfl (cgb hg7) (Qi rfl rfl rfl rfl Yy) ?_
        rintro _ rfl
        refine Qh rfl rfl (cgb hg7) (Qj rfl rfl rfl rfl QZ (i := 1) rfl rfl) ?_
        rintro _ rfl
        refine Qh rfl rfl (cgb hg7) (Qf rfl rfl rfl rfl rfl (Zc (a := r1.At) (b := r2.At))) ?_
        rintro _ rfl
        refine Qh rfl rfl (cgb hg7) (Qi rfl rfl rfl rfl Yd) ?_
        rintro _ rfl
        refine Qh rfl rfl (cgb hg7) (Qj rfl rfl rfl rfl QZ (i := 1) rfl rfl) ?_
        rintro _ rfl
        refine Qh rfl rfl (cgb hg7) (Qf rfl rfl rfl rfl rfl (ZD (a := r1.At - r2.At) (b := r2.Len))) ?_
        rintro _ rfl
        refine Qa rfl (Qw rfl rfl rfl (cgb hg7) rfl) ?_
        refine Qd (tZ [0, 3, 10, 11, 12, 60] [] [0] rfl rfl rfl rfl ?_)
        rcases bC (decide ((r1.At - r2.At) < r2.Len)) with hg8 | hg8
        ·replace h := br_t hg8 h
         refine Ql (cgb hg8) ?_
         refine Qe (Qc (sAs rfl rfl rfl ?_))
         refine Qd (tZ [2] [] [] rfl rfl rfl rfl ?_)
         obtain rfl := Option.some.inj h
         exact Qn rfl rfl (resA (vs := [vI (2 : Int)]) rfl ⟨rfl, trivial⟩) [] [] rfl rfl rfl ⟨rfl, rfl, rfl⟩
        ·replace h := br_f hg8 h
         refine Qp (cgb hg8) ?_
         refine Qt (Zx (Qc (Qa rfl (Qf rfl rfl rfl rfl rfl (QG (a := x1) (b := (1 : Int)))) ?_)))
         refine sMv rfl rfl rfl ?_
         refine Qd (tZ [0, 3, 10, 11, 12] [] [0] rfl rfl rfl rfl ?_)
         exact QY (room1 - r1.Len, wi (x1 + (1 : Int))) h [0, 3, 10, 11, 12] [] [0] rfl rfl rfl rfl rfl
      ·replace h := br_f hg6 h
       refine Qp (cgb hg6) ?_
       refine Qt (Zx (Qc (Qa rfl (Qf rfl rfl rfl rfl rfl (QG (a := x1) (b := (1 : Int)))) ?_)))
       refine sMv rfl rfl rfl ?_
       refine Qd (tZ [0, 3, 10, 11, 12] [] [0] rfl rfl rfl rfl ?_)
       exact QY (room1 - r1.Len, wi (x1 + (1 : Int))) h [0, 3, 10, 11, 12] [] [0] rfl rfl rfl rfl rfl
  ·replace h := br_f hg2 h
   refine Qp (cgb hg2) ?_
   refine Zv _ rfl ?_
   refine Qe (Qc (sAs rfl rfl rfl ?_))
   refine Qd (tZ [2] [] [] rfl rfl rfl rfl ?_)
   obtain rfl := Option.some.inj h
   exact Qn rfl rfl (resA (vs := [vI (0 : Int)]) rfl ⟨rfl, trivial⟩) [] [] rfl rfl rfl ⟨rfl, rfl, rfl⟩

set_option maxRecDepth 100000 in
set_option maxHeartbeats 4000000 in
theorem KU {sp0 : List Region} {vsp01 : Value} {r : (List Region)} (h : Zk sp0 = some r) :
  Ctr Try.prog 47 #[vsp01] [] [Fact.sl Qz vsp01 sp0]
   (fun rv own shr => ∃ (w1 : Value), rv = w1 ∧ own = [(rowS Qz w1 r)] ∧ shr = []) := by
 unfold Zk at h
 refine Ctr.mk (args := [vsp01]) Try.func47 rfl rfl (fun R0 w0 B => ?_)
 refine Qe (Qc (sAs rfl rfl rfl ?_))
 refine Qd (tZ [0] [] [0] rfl rfl rfl rfl ?_)
 refine Qe (Qe (Qc (sMv rfl rfl rfl ?_)))
 refine Qs rfl (OpT_eqNil rfl rfl rfl (.inl rfl) rfl rfl Try.underlying54 (i := 0) rfl) ?_
 rintro _ ⟨q1, hq1, rfl⟩
 refine Qd (tZ [0, 4] [] [0] rfl rfl rfl rfl ?_)
 rcases bC q1 with hg1 | hg1
 ·obtain rfl := hq1 hg1
  replace h : some ([] : List Region) = some r := h
  refine Ql (cgb hg1) ?_
  refine Qe (Qc (sAs rfl rfl rfl ?_))
  refine Qd (tZ [2] [] [] rfl rfl rfl rfl ?_)
  refine Zr Qz ?_
  obtain rfl := Option.some.inj h
  exact Qn rfl rfl (resA (vs := [.slice none 0 0]) rfl ⟨rfl, trivial⟩) [0] [] rfl rfl rfl ⟨(.slice none 0 0), rfl, rfl, rfl⟩
 ·refine Qp (cgb hg1) ?_
  refine Qt (Qe (Qc (Qu rfl (QK (S := Qz) (xs := ([] : List Region)) (css := []) (cs := []) (e := 53) rfl rfl rfl rfl (bldF slF54 (by decide) (by kernel_rfl)) rfl rfl rfl rfl (Zd (S := Qz) (xs := ([] : List Region)) (css := []) rfl rfl)) fun v1 => ?_)))
  refine sMv rfl rfl rfl ?_
  obtain ⟨hc1, h⟩ := ZK h
  refine Qu rfl (OpT_append rfl rfl rfl rfl rfl slF54 (i := 0) (j := 0) rfl rfl hc1) fun v2 => ?_
  refine sAs rfl rfl rfl ?_
  refine Qd (tZ [2] [0] [] rfl rfl rfl rfl ?_)
  obtain rfl := Option.some.inj h
  exact Qn rfl rfl (resA (vs := [v2]) rfl ⟨rfl, trivial⟩) [0] [] rfl rfl rfl ⟨v2, rfl, rfl, rfl⟩

theorem KQ {sp0 : List Region} {vsp01 : Value} {r : (List Region)} (h : Zk sp0 = some r) :
  Ctr Try.prog 47 #[vsp01] [] [Fact.sl Qz vsp01 sp0]
   (fun rv own shr => ∃ (w1 : Value), rv = w1 ∧ own = [] ∧ shr = [Fact.sl Qz w1 r]) :=
 Ctr.sh (KU h) (by rintro w1 _ _ ⟨_, rfl, rfl, rfl⟩; exact ⟨[], _, _, _, _, rfl, w1, rfl, rfl, rfl⟩)

set_option maxRecDepth 100000 in
set_option maxHeartbeats 4000000 in
theorem w_gmem_New {l : List Region} {vl1 : Value} {r : ((Option gmem_Mem) × Int)} (h : gmem_New l = some r) :
  Ctr Try.prog 16 #[vl1] [] [Fact.sl Qz vl1 l]
   (fun rv own shr => ∃ (w1 : Value), rv = .tuple #[w1, vI r.2] ∧ own = [(optR 113 Qz u8S true gmem_Mem.l gmem_Mem.b w1 r.1)] ∧ shr = []) := by
 unfold gmem_New at h
 refine Ctr.mk (args := [vl1]) Try.func16 rfl rfl (fun R0 w0 B => ?_)
 refine Qe (Qc (sAs rfl rfl rfl ?_))
 refine sAs rfl rfl rfl ?_
 refine Qd (tZ [0] [] [0] rfl rfl rfl rfl ?_)
 refine Qe (Qe (Qc (sMv rfl rfl rfl ?_)))
 obtain ⟨check1, hx1, h⟩ := ob_e h
 refine Qs rfl (Qv (w_gmem_Check hx1) [] [0] rfl rfl rfl rfl rfl callee46 rfl rfl rfl rfl) ?_
 rintro _ ⟨_, _, _, ⟨rfl, rfl, rfl⟩, rfl⟩
 refine sAs rfl rfl rfl ?_
 refine Qd (tZ [0, 4] [] [0] rfl rfl rfl rfl ?_)
 refine Qe (Qc (sMv rfl rfl rfl ?_))
 refine Qa rfl (Qf rfl rfl rfl rfl rfl (QL (a := check1) (b := (0 : Int)))) ?_
 refine Qd (tZ [0, 4, 11] [] [0] rfl rfl rfl rfl ?_)
 rcases bC (check1 != (0 : Int)) with hg1 | hg1
 ·replace h := br_t hg1 h
  refine Ql (cgb hg1) ?_
  refine Qe (Qc (sMv rfl rfl rfl ?_))
  refine sAs rfl rfl rfl ?_
  refine sAs rfl rfl rfl ?_
  refine Qd (tZ [2, 3] [] [] rfl rfl rfl rfl ?_)
  refine Tk_nilopt 113 Qz u8S true gmem_Mem.l gmem_Mem.b ?_
  obtain rfl := Option.some.inj h
  exact Qn rfl rfl (resA (vs := [.pointer none, vI check1]) rfl ⟨rfl, rfl, trivial⟩) [0] [] rfl rfl rfl ⟨(.pointer none), rfl, rfl, rfl⟩
 ·replace h := br_f hg1 h
  refine Qp (cgb hg1) ?_
  refine Qt (Qe (QU (by kernel_rfl) ?_))
  refine Xn [0, 1, 0, 4, 0, 16, 48, 124, 255, 511, 1023] (by kernel_rfl) fun htb => ?_
  refine aZ [0] [] [0] rfl rfl rfl rfl ?_
  obtain ⟨region1, hx2, h⟩ := ob_e h
  obtain ⟨hc1, h⟩ := ZK h
  refine QW (lo := 0) (hi := 8) htb rfl rfl (by kernel_rfl) (fun c L a w => ∃ (v1 : Value), ∃ (v2 : Value), ∃ (vs1 : List Value), Sat c ⟨[(0, some vl1), (13, bif L 0 then some (vl1) else none), (14, bif L 1 then some (v1) else none), (15, bif L 2 then some (vl1) else none), (16, bif L 3 then some (vI (len l)) else none), (17, bif L 4 then some (vl1) else none), (18, bif L 5 then some (vI (len l)) else none), (19, bif L 6 then some (vI (wi ((len l) + (1 : Int)))) else none), (20, bif L 7 then some (v2) else none)], [(bif L 7 then some (QV u8S true v2 vs1 (List.replicate (Int.toNat (len l)) [] : List (List UInt8)) none) else none : Option Res)], [Fact.sl Qz vl1 l, (bif L 1 then Fact.sl Qz v1 region1 else Fact.tt)]⟩ a w) [([], [1]), ([0], []), ([], [3, 7]), ([2], [7]), ([], [5, 6, 7]), ([4], [6, 7]), ([4, 5], [7]), ([2, 3, 4, 5, 6], [])] rfl (by kernel_rfl) ?_ (Qb ?_ (Qb ?_ (Qb ?_ (Qb ?_ (Qb ?_ (Qb ?_ (Qb ?_ (Qb ?_ (QB))))))))) ?_
  ·intro a w hs
   exact ⟨undef, undef, [], hs.startF [13, 14, 15, 16, 17, 18, 19, 20] [0] [0, 1] rfl rfl rfl rfl⟩
  ·intro L a w hv K Q hK
   obtain ⟨v1, v2, vs1, hs⟩ := hv
   exact wGo rfl rfl hs (Qk rfl rfl rfl rfl) fun a w hs => hK a w ⟨v1, v2, vs1, pF hs 1 [0] [0, 1] rfl⟩
  ·intro L a w hv K Q hK
   obtain ⟨v1, v2, vs1, hs⟩ := hv
   refine QO rfl rfl hs (Qv (KQ hx2) [] [0] rfl rfl rfl rfl rfl callee47 rfl rfl rfl rfl) ?_
   rintro _ ⟨v1', _, _, ⟨_, rfl, rfl, rfl⟩, rfl⟩ a' w' hs'
   exact hK a' w' ⟨v1', v2, vs1, hs'.putF (i := 2) rfl [0] [0, 2] rfl rfl rfl rfl⟩
  ·intro L a w hv K Q hK
   obtain ⟨v1, v2, vs1, hs⟩ := hv
   exact wGo rfl rfl hs (Qk rfl rfl rfl rfl) fun a w hs => hK a w ⟨v1, v2, vs1, pF hs 3 [0] [0, 1] rfl⟩
  ·intro L a w hv K Q hK
   obtain ⟨v1, v2, vs1, hs⟩ := hv
   exact wGo rfl rfl hs (QT rfl rfl rfl rfl Try.underlying54 (i := 0) rfl) fun a w hs => hK a w ⟨v1, v2, vs1, pF hs 4 [0] [0, 1] rfl⟩
  ·intro L a w hv K Q hK
   obtain ⟨v1, v2, vs1, hs⟩ := hv
   exact wGo rfl rfl hs (Qk rfl rfl rfl rfl) fun a w hs => hK a w ⟨v1, v2, vs1, pF hs 5 [0] [0, 1] rfl⟩
  ·intro L a w hv K Q hK
   obtain ⟨v1, v2, vs1, hs⟩ := hv
   exact wGo rfl rfl hs (QT rfl rfl rfl rfl Try.underlying54 (i := 0) rfl) fun a w hs => hK a w ⟨v1, v2, vs1, pF hs 6 [0] [0, 1] rfl⟩
  ·intro L a w hv K Q hK
   obtain ⟨v1, v2, vs1, hs⟩ := hv
   exact wGo rfl rfl hs (Qf rfl rfl rfl rfl rfl (QG (a := len l) (b := (1 : Int)))) fun a w hs => hK a w ⟨v1, v2, vs1, pF hs 7 [0] [0, 1] rfl⟩
  ·intro L a w hv K Q hK
   obtain ⟨v1, v2, vs1, hs⟩ := hv
   refine QO rfl rfl hs (OpT_makeRows u8S rfl rfl rfl rfl rfl slF111 hc1) ?_
   rintro _ ⟨v2', vs1', rfl⟩ a' w' hs'
   exact hK a' w' ⟨v1, v2', vs1', hs'.putF (i := 8) rfl [1] [0, 1] rfl rfl rfl rfl⟩
  ·intro L a w hL hv
   rw [QM hL] at hv
   obtain ⟨v1, v2, vs1, hs⟩ := hv
   refine gZ hs [0, 14, 20] [0] [0, 1] rfl rfl rfl rfl ?_
   clear hs hL
   refine Qx htb (by kernel_rfl) rfl rfl (OpT_build2 (fun z0 z1 => [(0, z0), (1, z1)]) (fun z0 z1 => [z0, z1]) rfl rfl rfl rfl (is_sl (i := 1) rfl) (is_rows (i := 0) rfl) (by intros; kernel_rfl)) ?_
   refine TA_ex htb (by kernel_rfl) rfl rfl (ZA rfl rfl rfl rfl) fun b1 => ?_
   refine Qx htb (by kernel_rfl) rfl rfl (QN rfl rfl rfl rfl) ?_
   refine Zh rfl ?_
   refine tZ [0, 5] [0, 1] [0, 1] rfl rfl rfl rfl ?_
   refine Qe (Qe (Qc (sMv rfl rfl rfl ?_)))
   refine Qa rfl (QT rfl rfl rfl rfl Try.underlying54 (i := 0) rfl) ?_
   refine sMv rfl rfl rfl ?_
   refine Qd (tZ [5, 23, 24, 25] [0, 1] [0, 1] rfl rfl rfl rfl ?_)
   refine QC (Zf (σ := (List (List UInt8)) × Int × Value × (List Value)) [5, 23, 24, 25] [1, 0] [1, 0] (fun s => ⟨[(5, some (.pointer (some ⟨b1, 0, none⟩))), (23, some vl1), (24, some (vI (len l))), (25, some (vI s.2.1))], [some (Qm b1 113 [v1, s.2.2.1]), some (QV u8S true s.2.2.1 s.2.2.2 s.1 none)], [Fact.sl Qz v1 region1, Fact.sl Qz vl1 l]⟩) (fun nf1 s => gmem_NewL1 l region1 nf1 s.1 s.2.1 = some r) fuel ((List.replicate (Int.toNat (len l)) [] : List (List UInt8)), (0 : Int), v2, vs1) h rfl rfl rfl rfl rfl (fun s h => by cases h) ?_)
   rintro nf1 ⟨rows1, x1, v3, vs2⟩ h
   replace h : gmem_NewL1B l region1 (gmem_NewL1 l region1 nf1) rows1 x1 = some r := h
   unfold gmem_NewL1B at h
   refine Qe (Qc (Qa rfl (Qf rfl rfl rfl rfl rfl (QI (a := x1) (b := len l))) ?_))
   refine Qd (Qe ?_)
   rcases bC (decide (x1 < (len l))) with hg2 | hg2
   ·replace h := br_t hg2 h
    refine Ql (cgb hg2) ?_
    refine Qt (Qe (QC (Qe (Qc (sMv rfl rfl rfl ?_)))))
    obtain ⟨r1, hx3, h⟩ := ob_e h
    refine Qu rfl (Zb rfl rfl rfl rfl rfl slF54 (i := 1) rfl hx3) fun p1 => ?_
    refine Qa rfl (Xs (vs := [vU64 r1.At, vU64 r1.Len]) rfl rfl rfl rfl tyF53 (i := 2) rfl rfl) ?_
    refine Qu rfl (QD rfl rfl rfl tyZ53) fun b2 => ?_
    refine sAs rfl rfl rfl ?_
    refine Qa rfl (Qo (cs' := [vU64 r1.At, vU64 r1.Len]) rfl rfl rfl rfl tyF53 (i := 2) rfl rfl rfl (QF rfl) rfl) ?_
    refine Qd (tZ [5, 23, 24, 25, 7, 6] [0, 1, 2] [0, 1] rfl rfl rfl rfl ?_)
    refine QU (by kernel_rfl) ?_
    refine Xn [0, 1, 3, 7, 0, 0, 32, 96, 255, 511] (by kernel_rfl) fun htb => ?_
    obtain ⟨hc2, h⟩ := ZK h
    refine QW (lo := 0) (hi := 8) htb rfl rfl (by kernel_rfl) (fun c L a w => ∃ (v4 : Value), Sat c ⟨[(5, some (.pointer (some ⟨b1, 0, none⟩))), (23, some vl1), (24, some (vI (len l))), (25, some (vI x1)), (7, some (.pointer (some ⟨b2, 0, none⟩))), (6, some (vI x1)), (30, bif L 0 then some (.pointer (some ⟨b1, 0, none⟩)) else none), (31, bif L 1 then some (.pointer (some ⟨b1, 0, none⟩)) else none), (32, bif L 2 then some (.pointer (some ⟨b1, 1, none⟩)) else none), (33, bif L 3 then some (v3) else none), (34, bif L 4 then some (vI x1) else none), (35, bif L 5 then some (.pointer (some ⟨b2, 1, none⟩)) else none), (36, bif L 6 then some (vU64 r1.Len) else none), (37, bif L 7 then some (v4) else none)], [(some (Qm b1 113 [v1, v3]) : Option Res), (some (QV u8S true v3 vs2 rows1 none) : Option Res), (some (Qm b2 53 [vU64 r1.At, vU64 r1.Len]) : Option Res), (bif L 7 then some (rowS u8S v4 (List.replicate (Int.toNat (r1.Len.toNat : Int)) (0 : UInt8))) else none : Option Res)], [Fact.sl Qz v1 region1, Fact.sl Qz vl1 l]⟩ a w) [([], [1, 2, 3]), ([0], [2, 3]), ([0, 1], [3]), ([0, 1, 2], []), ([], []), ([], [6, 7]), ([5], [7]), ([5, 6], [])] rfl (by kernel_rfl) ?_ (Qb ?_ (Qb ?_ (Qb ?_ (Qb ?_ (Qb ?_ (Qb ?_ (Qb ?_ (Qb ?_ (QB))))))))) ?_
    ·intro a w hs
     exact ⟨undef, hs.startF [30, 31, 32, 33, 34, 35, 36, 37] [0, 1, 2, 3] [0, 1] rfl rfl rfl rfl⟩
    ·intro L a w hv K Q hK
     obtain ⟨v4, hs⟩ := hv
     exact wGo rfl rfl hs (Qk rfl rfl rfl rfl) fun a w hs => hK a w ⟨v4, pF hs 6 [0, 1, 2, 3] [0, 1] rfl⟩
    ·intro L a w hv K Q hK
     obtain ⟨v4, hs⟩ := hv
     exact wGo rfl rfl hs (Zt rfl rfl rfl rfl) fun a w hs => hK a w ⟨v4, pF hs 7 [0, 1, 2, 3] [0, 1] rfl⟩
    ·intro L a w hv K Q hK
     obtain ⟨v4, hs⟩ := hv
     exact wGo rfl rfl hs (Qi rfl rfl rfl rfl fldF113x1) fun a w hs => hK a w ⟨v4, pF hs 8 [0, 1, 2, 3] [0, 1] rfl⟩
    ·intro L a w hv K Q hK
     obtain ⟨v4, hs⟩ := hv
     exact wGo rfl rfl hs (Qj rfl rfl rfl rfl tyF111 (i := 0) rfl rfl) fun a w hs => hK a w ⟨v4, pF hs 9 [0, 1, 2, 3] [0, 1] rfl⟩
    ·intro L a w hv K Q hK
     obtain ⟨v4, hs⟩ := hv
     exact wGo rfl rfl hs (Qk rfl rfl rfl rfl) fun a w hs => hK a w ⟨v4, pF hs 10 [0, 1, 2, 3] [0, 1] rfl⟩
    ·intro L a w hv K Q hK
     obtain ⟨v4, hs⟩ := hv
     exact wGo rfl rfl hs (Qi rfl rfl rfl rfl Yd) fun a w hs => hK a w ⟨v4, pF hs 11 [0, 1, 2, 3] [0, 1] rfl⟩
    ·intro L a w hv K Q hK
     obtain ⟨v4, hs⟩ := hv
     exact wGo rfl rfl hs (Qj rfl rfl rfl rfl QZ (i := 2) rfl rfl) fun a w hs => hK a w ⟨v4, pF hs 12 [0, 1, 2, 3] [0, 1] rfl⟩
    ·intro L a w hv K Q hK
     obtain ⟨v4, hs⟩ := hv
     refine QO rfl rfl hs (OpT_makeK u8S rfl (u := (0 : UInt8)) rfl rfl rfl rfl rfl slF39 rfl hc2) ?_
     rintro _ ⟨v4', rfl⟩ a' w' hs'
     exact hK a' w' ⟨v4', hs'.putF (i := 13) rfl [0, 1, 2, 4] [0, 1] rfl rfl rfl rfl⟩
    ·intro L a w hL hv
     rw [QM hL] at hv
     obtain ⟨v4, hs⟩ := hv
     refine gZ hs [5, 23, 24, 25, 33, 34, 37] [0, 1, 3] [0, 1] rfl rfl rfl rfl ?_
     clear hs hL
     obtain ⟨row1, hx4, h⟩ := ob_e h
     refine Qx htb (by kernel_rfl) rfl rfl (OpT_idxRows rfl rfl rfl rfl rfl slF111 (i := 1) rfl hx4) ?_
     refine TA_ex htb (by kernel_rfl) rfl rfl (OpT_storeRow (m := x1) rfl rfl rfl rfl tyF39 (i := 1) (q := 2) rfl rfl rfl hx4) fun vs3 => ?_
     refine Zh rfl ?_
     refine tZ [5, 23, 24, 25] [0, 1] [0, 1] rfl rfl rfl rfl ?_
     refine Zx (Qc (Qa rfl (Qf rfl rfl rfl rfl rfl (QG (a := x1) (b := (1 : Int)))) ?_))
     refine sMv rfl rfl rfl ?_
     refine Qd (tZ [5, 23, 24, 25] [0, 1] [0, 1] rfl rfl rfl rfl ?_)
     exact QY (rows1.set (Int.toNat x1) (List.replicate (Int.toNat (r1.Len.toNat : Int)) (0 : UInt8)), wi (x1 + (1 : Int)), v3, vs3) h [5, 23, 24, 25] [0, 1] [0, 1] rfl rfl rfl rfl rfl
   ·replace h := br_f hg2 h
    refine Qp (cgb hg2) ?_
    refine Zv _ rfl ?_
    refine Qe (Qc (sMv rfl rfl rfl ?_))
    refine sAs rfl rfl rfl ?_
    refine sAs rfl rfl rfl ?_
    refine Qd (tZ [2, 3] [0, 1] [0] rfl rfl rfl rfl ?_)
    refine Tk_vs (vs_fold (fl := gmem_Mem.l) (fb := gmem_Mem.b) (gmem_Mem.mk region1 rows1) (i := 0) (j := 1) rfl rfl rfl (q := 0) rfl rfl rfl) ?_
    obtain rfl := Option.some.inj h
    exact Qn rfl rfl (resA (vs := [.pointer (some ⟨b1, 0, none⟩), vI (0 : Int)]) rfl ⟨rfl, rfl, trivial⟩) [0] [] rfl rfl rfl ⟨(.pointer (some ⟨b1, 0, none⟩)), rfl, rfl, rfl⟩

set_option maxRecDepth 100000 in
set_option maxHeartbeats 4000000 in
theorem YS {b : List UInt8} {vp1 : UInt64} {np2 : Int} {v_b : Value} {r : (List UInt8)} (h : Ku b vp1 np2 = some r) :
  Ctr Try.prog 39 #[v_b, vU64 vp1, vI np2] [(rowS u8S v_b b)] []
   (fun rv own shr => ∃ (w1 : Value), rv = w1 ∧ own = [(rowS u8S w1 r)] ∧ shr = []) := by
 unfold Ku at h
 refine Ctr.mk (args := [v_b, vU64 vp1, vI np2]) Try.func39 rfl rfl (fun R0 w0 B => ?_)
 refine Qe (Qc (sAs rfl rfl rfl ?_))
 refine Qd (tZ [0, 1, 2] [0] [] rfl rfl rfl rfl ?_)
 refine Qe (Qe (Qc (sAs rfl rfl rfl ?_)))
 refine Qd (QC (Zf (σ := (List UInt8) × Int × Value) [0, 1, 2, 7] [0] [] (fun s => ⟨[(0, some (s.2.2)), (1, some (vU64 vp1)), (2, some (vI np2)), (7, some (vI s.2.1))], [some (rowS u8S s.2.2 s.1)], []⟩) (fun nf1 s => ref_put03L1 vp1 np2 nf1 s.1 s.2.1 = some r) fuel (b, (0 : Int), v_b) h rfl rfl rfl rfl rfl (fun s h => by cases h) ?_))
 rintro nf1 ⟨b1, i1, v1⟩ h
 replace h : ref_put03L1B vp1 np2 (ref_put03L1 vp1 np2 nf1) b1 i1 = some r := h
 unfold ref_put03L1B at h
 refine Qe (Qe (Qc (sMv rfl rfl rfl ?_)))
 refine sMv rfl rfl rfl ?_
 refine Qa rfl (Qf rfl rfl rfl rfl rfl (QI (a := i1) (b := np2))) ?_
 refine Qd (tZ [0, 1, 2, 7, 10] [0] [] rfl rfl rfl rfl ?_)
 rcases bC (decide (i1 < np2)) with hg1 | hg1
 ·replace h := br_t hg1 h
  refine Ql (cgb hg1) ?_
  refine Qt (Qe (QC (Qc (sMv rfl rfl rfl ?_))))
  refine sMv rfl rfl rfl ?_
  refine sMv rfl rfl rfl ?_
  refine Qa rfl (Qf rfl rfl rfl rfl rfl (YE (a := (8 : Int)) (b := i1))) ?_
  refine Qa rfl (QX rfl rfl rfl rfl (Xw (n := wi ((8 : Int) * i1)) Try.underlying3 Try.underlying23)) ?_
  refine Qa rfl (Qf rfl rfl rfl rfl rfl (bin_shr_u64_u64 (a := vp1) (n := u64 (wi ((8 : Int) * i1))))) ?_
  refine Qa rfl (QX rfl rfl rfl rfl (cnv_u64_u8 (n := Kb vp1 ((u64 (wi ((8 : Int) * i1))).toNat)) Try.underlying27 Try.underlying5)) ?_
  refine Qu rfl (QK (S := u8S) (xs := [(Kb vp1 ((u64 (wi ((8 : Int) * i1))).toNat)).toUInt8]) (css := [[vU8 ((Kb vp1 ((u64 (wi ((8 : Int) * i1))).toNat)).toUInt8)]]) (cs := [vU8 ((Kb vp1 ((u64 (wi ((8 : Int) * i1))).toNat)).toUInt8)]) (e := 5) rfl rfl rfl rfl (bldF slF39 (by decide) (by kernel_rfl)) rfl rfl rfl rfl (Zd (S := u8S) (xs := [(Kb vp1 ((u64 (wi ((8 : Int) * i1))).toNat)).toUInt8]) (css := [[vU8 ((Kb vp1 ((u64 (wi ((8 : Int) * i1))).toNat)).toUInt8)]]) rfl rfl)) fun v2 => ?_
  obtain ⟨hc1, h⟩ := ZK h
  refine Qu rfl (Zw (S := u8S) rfl rfl rfl rfl rfl rfl slF39 (i := 0) (j := 1) rfl rfl hc1) fun v3 => ?_
  refine sAs rfl rfl rfl ?_
  refine Qd (tZ [0, 1, 2, 7] [0] [] rfl rfl rfl rfl ?_)
  refine Zx (Qc (sMv rfl rfl rfl ?_))
  refine Qa rfl (Qf rfl rfl rfl rfl rfl (QG (a := i1) (b := (1 : Int)))) ?_
  refine sAs rfl rfl rfl ?_
  refine Qd (tZ [0, 1, 2, 7] [0] [] rfl rfl rfl rfl ?_)
  exact QY (b1 ++ [(Kb vp1 ((u64 (wi ((8 : Int) * i1))).toNat)).toUInt8], wi (i1 + (1 : Int)), v3) h [0, 1, 2, 7] [0] [] rfl rfl rfl rfl rfl
 ·replace h := br_f hg1 h
  refine Qp (cgb hg1) ?_
  refine Zv _ rfl ?_
  refine Qe (Qc (sMv rfl rfl rfl ?_))
  refine sAs rfl rfl rfl ?_
  refine Qd (tZ [6] [0] [] rfl rfl rfl rfl ?_)
  obtain rfl := Option.some.inj h
  exact Qn rfl rfl (resA (vs := [v1]) rfl ⟨rfl, trivial⟩) [0] [] rfl rfl rfl ⟨v1, rfl, rfl, rfl⟩

set_option maxRecDepth 100000 in
set_option maxHeartbeats 4000000 in
theorem KV {dp0 : Desc} {r : (List UInt8)} (h : XX dp0 = some r) :
  Ctr Try.prog 12 #[.agg #[vU64 dp0.Addr, vU32 dp0.Len, vU16 dp0.Flags, vU16 dp0.Next]] [] []
   (fun rv own shr => ∃ (w1 : Value), rv = w1 ∧ own = [(rowS u8S w1 r)] ∧ shr = []) := by
 unfold XX at h
 refine Ctr.mk (args := [.agg #[vU64 dp0.Addr, vU32 dp0.Len, vU16 dp0.Flags, vU16 dp0.Next]]) Try.func12 rfl rfl (fun R0 w0 B => ?_)
 refine Qe (Qc (Qu rfl (ZA rfl rfl rfl rfl) fun b1 => ?_))
 refine sAs rfl rfl rfl ?_
 refine Qd (tZ [1] [0] [] rfl rfl rfl rfl ?_)
 refine Qe (QU (by kernel_rfl) ?_)
 refine Xn [0, 1, 3, 0, 8, 24, 63, 0, 128, 384, 1023, 0, 2048, 6144, 16383, 32767] (by kernel_rfl) fun htb => ?_
 refine TA_nilrow u8S ?_
 obtain ⟨put1, hx1, h⟩ := ob_e h
 obtain ⟨put2, hx2, h⟩ := ob_e h
 obtain ⟨put3, hx3, h⟩ := ob_e h
 refine QW (lo := 0) (hi := 14) htb rfl rfl (by kernel_rfl) (fun c L a w => ∃ (v1 : Value), ∃ (v2 : Value), ∃ (v3 : Value), Sat c ⟨[(1, some (.pointer (some ⟨b1, 0, none⟩))), (3, bif L 0 then some (.pointer (some ⟨b1, 0, none⟩)) else none), (4, bif L 1 then some (vU64 dp0.Addr) else none), (5, bif L 2 then some (v1) else none), (6, bif L 3 then some (.pointer (some ⟨b1, 1, none⟩)) else none), (7, bif L 4 then some (vU32 dp0.Len) else none), (8, bif L 5 then some (vU64 dp0.Len.toUInt64) else none), (9, bif L 6 then some (v2) else none), (10, bif L 7 then some (.pointer (some ⟨b1, 2, none⟩)) else none), (11, bif L 8 then some (vU16 dp0.Flags) else none), (12, bif L 9 then some (vU64 dp0.Flags.toUInt64) else none), (13, bif L 10 then some (v3) else none), (14, bif L 11 then some (.pointer (some ⟨b1, 3, none⟩)) else none), (15, bif L 12 then some (vU16 dp0.Next) else none), (16, bif L 13 then some (vU64 dp0.Next.toUInt64) else none)], [(some (Qm b1 36 [vU64 dp0.Addr, vU32 dp0.Len, vU16 dp0.Flags, vU16 dp0.Next]) : Option Res), (bif L 2 then none else some (rowS u8S (.slice none 0 0) ([] : List UInt8)) : Option Res), (bif L 6 then none else bif L 2 then some (rowS u8S v1 put1) else none : Option Res), (bif L 10 then none else bif L 6 then some (rowS u8S v2 put2) else none : Option Res), (bif L 10 then some (rowS u8S v3 put3) else none : Option Res)], []⟩ a w) [([], [1, 2, 6, 10]), ([0], [2, 6, 10]), ([0, 1], [6, 10]), ([], [4, 5, 6, 10]), ([3], [5, 6, 10]), ([3, 4], [6, 10]), ([0, 1, 2, 3, 4, 5], [10]), ([], [8, 9, 10]), ([7], [9, 10]), ([7, 8], [10]), ([0, 1, 2, 3, 4, 5, 6, 7, 8, 9], []), ([], [12, 13]), ([11], [13]), ([11, 12], [])] rfl (by kernel_rfl) ?_ (Qb ?_ (Qb ?_ (Qb ?_ (Qb ?_ (Qb ?_ (Qb ?_ (Qb ?_ (Qb ?_ (Qb ?_ (Qb ?_ (Qb ?_ (Qb ?_ (Qb ?_ (Qb ?_ (QB))))))))))))))) ?_
 ·intro a w hs
  exact ⟨undef, undef, undef, hs.startF [3, 4, 5, 6, 7, 8, 9, 10, 11, 12, 13, 14, 15, 16] [0, 1, 2, 3, 4] [] rfl rfl rfl rfl⟩
 ·intro L a w hv K Q hK
  obtain ⟨v1, v2, v3, hs⟩ := hv
  exact wGo rfl rfl hs (Qi rfl rfl rfl rfl fldF36x0) fun a w hs => hK a w ⟨v1, v2, v3, pF hs 1 [0, 1, 2, 3, 4] [] rfl⟩
 ·intro L a w hv K Q hK
  obtain ⟨v1, v2, v3, hs⟩ := hv
  exact wGo rfl rfl hs (Qj rfl rfl rfl rfl QZ (i := 0) rfl rfl) fun a w hs => hK a w ⟨v1, v2, v3, pF hs 2 [0, 1, 2, 3, 4] [] rfl⟩
 ·intro L a w hv K Q hK
  obtain ⟨v1, v2, v3, hs⟩ := hv
  refine QO rfl rfl hs (Qv (YS hx1) [1] [] rfl rfl rfl rfl rfl callee39 rfl rfl rfl rfl) ?_
  rintro _ ⟨v1', _, _, ⟨_, rfl, rfl, rfl⟩, rfl⟩ a' w' hs'
  exact hK a' w' ⟨v1', v2, v3, hs'.putF (i := 3) rfl [0, 1, 5, 3, 4] [] rfl rfl rfl rfl⟩
 ·intro L a w hv K Q hK
  obtain ⟨v1, v2, v3, hs⟩ := hv
  exact wGo rfl rfl hs (Qi rfl rfl rfl rfl fldF36x1) fun a w hs => hK a w ⟨v1, v2, v3, pF hs 4 [0, 1, 2, 3, 4] [] rfl⟩
 ·intro L a w hv K Q hK
  obtain ⟨v1, v2, v3, hs⟩ := hv
  exact wGo rfl rfl hs (Qj rfl rfl rfl rfl tyF33 (i := 0) rfl rfl) fun a w hs => hK a w ⟨v1, v2, v3, pF hs 5 [0, 1, 2, 3, 4] [] rfl⟩
 ·intro L a w hv K Q hK
  obtain ⟨v1, v2, v3, hs⟩ := hv
  exact wGo rfl rfl hs (QX rfl rfl rfl rfl (XM (n := dp0.Len) Try.underlying33 Try.underlying27)) fun a w hs => hK a w ⟨v1, v2, v3, pF hs 6 [0, 1, 2, 3, 4] [] rfl⟩
 ·intro L a w hv K Q hK
  obtain ⟨v1, v2, v3, hs⟩ := hv
  refine QO rfl rfl hs (Qv (YS hx2) [2] [] rfl rfl rfl rfl rfl callee39 rfl rfl rfl rfl) ?_
  rintro _ ⟨v2', _, _, ⟨_, rfl, rfl, rfl⟩, rfl⟩ a' w' hs'
  exact hK a' w' ⟨v1, v2', v3, hs'.putF (i := 7) rfl [0, 1, 2, 5, 4] [] rfl rfl rfl rfl⟩
 ·intro L a w hv K Q hK
  obtain ⟨v1, v2, v3, hs⟩ := hv
  exact wGo rfl rfl hs (Qi rfl rfl rfl rfl Ki) fun a w hs => hK a w ⟨v1, v2, v3, pF hs 8 [0, 1, 2, 3, 4] [] rfl⟩
 ·intro L a w hv K Q hK
  obtain ⟨v1, v2, v3, hs⟩ := hv
  exact wGo rfl rfl hs (Qj rfl rfl rfl rfl YP (i := 0) rfl rfl) fun a w hs => hK a w ⟨v1, v2, v3, pF hs 9 [0, 1, 2, 3, 4] [] rfl⟩
 ·intro L a w hv K Q hK
  obtain ⟨v1, v2, v3, hs⟩ := hv
  exact wGo rfl rfl hs (QX rfl rfl rfl rfl (YX (n := dp0.Flags) Try.underlying34 Try.underlying27)) fun a w hs => hK a w ⟨v1, v2, v3, pF hs 10 [0, 1, 2, 3, 4] [] rfl⟩
 ·intro L a w hv K Q hK
  obtain ⟨v1, v2, v3, hs⟩ := hv
  refine QO rfl rfl hs (Qv (YS hx3) [3] [] rfl rfl rfl rfl rfl callee39 rfl rfl rfl rfl) ?_
  rintro _ ⟨v3', _, _, ⟨_, rfl, rfl, rfl⟩, rfl⟩ a' w' hs'
  exact hK a' w' ⟨v1, v2, v3', hs'.putF (i := 11) rfl [0, 1, 2, 3, 5] [] rfl rfl rfl rfl⟩
 ·intro L a w hv K Q hK
  obtain ⟨v1, v2, v3, hs⟩ := hv
  exact wGo rfl rfl hs (Qi rfl rfl rfl rfl fldF36x3) fun a w hs => hK a w ⟨v1, v2, v3, pF hs 12 [0, 1, 2, 3, 4] [] rfl⟩
 ·intro L a w hv K Q hK
  obtain ⟨v1, v2, v3, hs⟩ := hv
  exact wGo rfl rfl hs (Qj rfl rfl rfl rfl YP (i := 0) rfl rfl) fun a w hs => hK a w ⟨v1, v2, v3, pF hs 13 [0, 1, 2, 3, 4] [] rfl⟩
 ·intro L a w hv K Q hK
  obtain ⟨v1, v2, v3, hs⟩ := hv
  exact wGo rfl rfl hs (QX rfl rfl rfl rfl (YX (n := dp0.Next) Try.underlying34 Try.underlying27)) fun a w hs => hK a w ⟨v1, v2, v3, pF hs 14 [0, 1, 2, 3, 4] [] rfl⟩
 ·intro L a w hL hv
  rw [QM hL] at hv
  obtain ⟨v1, v2, v3, hs⟩ := hv
  refine gZ hs [13, 16] [4] [] rfl rfl rfl rfl ?_
  clear hs hL
  obtain ⟨put4, hx4, h⟩ := ob_e h
  refine Ka htb (by kernel_rfl) rfl rfl (Qv (YS hx4) [0] [] rfl rfl rfl rfl rfl callee39 rfl rfl rfl rfl) ?_
  rintro _ ⟨v4, _, _, ⟨_, rfl, rfl, rfl⟩, rfl⟩
  refine Qx htb (by kernel_rfl) rfl rfl (QN rfl rfl rfl rfl) ?_
  refine Zh rfl ?_
  refine tZ [2] [1] [] rfl rfl rfl rfl ?_
  obtain rfl := Option.some.inj h
  exact Qn rfl rfl (resA (vs := [v4]) rfl ⟨rfl, trivial⟩) [0] [] rfl rfl rfl ⟨v4, rfl, rfl, rfl⟩

set_option maxRecDepth 100000 in
set_option maxHeartbeats 4000000 in
theorem w_gmem_Mem_made {m : gmem_Mem} {b_m : Nat} {vm1 : Value} {vm2 : Value} {vsm1 : List Value} {r : Bool} (h : XU m = some r) :
  Ctr Try.prog 37 #[.pointer (some ⟨b_m, 0, none⟩)] [(Qm b_m 113 [vm1, vm2]), (QV u8S true vm2 vsm1 m.b none)] [Fact.sl Qz vm1 m.l]
   (fun rv own shr => rv = vB r ∧ own = [(Qm b_m 113 [vm1, vm2]), (QV u8S true vm2 vsm1 m.b none)] ∧ shr = []) := by
 unfold XU at h
 refine Ctr.mk (args := [.pointer (some ⟨b_m, 0, none⟩)]) Try.func37 rfl rfl (fun R0 w0 B => ?_)
 refine Qe (Qc (sAs rfl rfl rfl ?_))
 refine Qd (tZ [0] [0, 1] [0] rfl rfl rfl rfl ?_)
 refine Qe (Qc (sMv rfl rfl rfl ?_))
 refine Qa rfl (OpT_ptrNil rfl rfl rfl (.inr rfl) rfl rfl ptrF25) ?_
 refine sMv rfl rfl rfl ?_
 refine Qh rfl rfl rfl (Qk rfl rfl rfl rfl) ?_
 rintro _ rfl
 refine Qh rfl rfl rfl (Zt rfl rfl rfl rfl) ?_
 rintro _ rfl
 refine Qh rfl rfl rfl (Qi rfl rfl rfl rfl fldF113x1) ?_
 rintro _ rfl
 refine Qh rfl rfl rfl (Qj rfl rfl rfl rfl tyF111 (i := 0) rfl rfl) ?_
 rintro _ rfl
 refine Qh rfl rfl rfl (OpT_eqRows rfl rfl rfl (.inr rfl) rfl rfl Try.underlying111 (i := 1) rfl) ?_
 rintro _ rfl
 refine Qa rfl (Qr rfl rfl rfl rfl rfl) ?_
 refine sAs rfl rfl rfl ?_
 refine Qd (tZ [2] [0, 1] [0] rfl rfl rfl rfl ?_)
 obtain rfl := Option.some.inj h
 exact Qn rfl rfl (resA (vs := [vB true]) rfl ⟨rfl, trivial⟩) [0, 1] [] rfl rfl rfl ⟨rfl, rfl, rfl⟩

set_option maxRecDepth 100000 in
set_option maxHeartbeats 4000000 in
theorem w_gmem_Mem_bytes_1 {ip0 : Int} {arg1 : gmem_Mem} {arg2 : UInt64} {b_arg1 : Nat} {varg11 : Value} {varg12 : Value} {vsarg11 : List Value} {bb_arg1 : Nat} {b_arg2 : Nat} {r : Bool} (h : YB ip0 arg1 arg2 = some r) :
  Ctr Try.prog 81 #[vI ip0, .pointer (some ⟨bb_arg1, 0, none⟩), .pointer (some ⟨b_arg2, 0, none⟩)] [(Qm bb_arg1 25 [.pointer (some ⟨b_arg1, 0, none⟩)]), (Qm b_arg1 113 [varg11, varg12]), (QV u8S true varg12 vsarg11 arg1.b none), (Qm b_arg2 27 [vU64 arg2])] [Fact.sl Qz varg11 arg1.l]
   (fun rv own shr => rv = vB r ∧ own = [(Qm bb_arg1 25 [.pointer (some ⟨b_arg1, 0, none⟩)]), (Qm b_arg1 113 [varg11, varg12]), (QV u8S true varg12 vsarg11 arg1.b none), (Qm b_arg2 27 [vU64 arg2])] ∧ shr = []) := by
 unfold YB at h
 refine Ctr.mk (args := [vI ip0, .pointer (some ⟨bb_arg1, 0, none⟩), .pointer (some ⟨b_arg2, 0, none⟩)]) Try.func81 rfl rfl (fun R0 w0 B => ?_)
 refine Qe (Qc (sAs rfl rfl rfl ?_))
 refine Qd (tZ [0, 1, 2] [0, 1, 2, 3] [0] rfl rfl rfl rfl ?_)
 refine Qe (QU (by kernel_rfl) ?_)
 refine Xn [0, 1, 3, 7, 0, 31, 63, 127, 255, 0, 512, 1536, 3584, 0, 15872, 32256, 65024, 131071, 0, 524287, 1048575] (by kernel_rfl) fun htb => ?_
 obtain ⟨r1, hx1, h⟩ := ob_e h
 obtain ⟨r2, hx2, h⟩ := ob_e h
 refine QW (lo := 0) (hi := 19) htb rfl rfl (by kernel_rfl) (fun c L a w => ∃ (p1 : Value), ∃ (p2 : Value), ∃ (p3 : Value), ∃ (p4 : Value), Sat c ⟨[(0, some (vI ip0)), (1, some (.pointer (some ⟨bb_arg1, 0, none⟩))), (2, some (.pointer (some ⟨b_arg2, 0, none⟩))), (5, bif L 0 then some (.pointer (some ⟨b_arg1, 0, none⟩)) else none), (6, bif L 1 then some (.pointer (some ⟨b_arg1, 0, none⟩)) else none), (7, bif L 2 then some (.pointer (some ⟨b_arg1, 0, none⟩)) else none), (8, bif L 3 then some (varg11) else none), (9, bif L 4 then some (vI ip0) else none), (10, bif L 5 then some (p1) else none), (11, bif L 6 then some (p2) else none), (12, bif L 7 then some (vU64 r1.Len) else none), (13, bif L 8 then some (vU64 (r1.Len - (1 : UInt64))) else none), (14, bif L 9 then some (.pointer (some ⟨b_arg1, 0, none⟩)) else none), (15, bif L 10 then some (.pointer (some ⟨b_arg1, 0, none⟩)) else none), (16, bif L 11 then some (.pointer (some ⟨b_arg1, 0, none⟩)) else none), (17, bif L 12 then some (varg11) else none), (18, bif L 13 then some (vI ip0) else none), (19, bif L 14 then some (p3) else none), (20, bif L 15 then some (p4) else none), (21, bif L 16 then some (vU64 r2.At) else none), (22, bif L 17 then some (vU64 ((r1.Len - (1 : UInt64)) + r2.At)) else none), (23, bif L 18 then some (vU64 arg2) else none)], [(some (Qm bb_arg1 25 [.pointer (some ⟨b_arg1, 0, none⟩)]) : Option Res), (some (Qm b_arg1 113 [varg11, varg12]) : Option Res), (some (QV u8S true varg12 vsarg11 arg1.b none) : Option Res), (some (Qm b_arg2 27 [vU64 arg2]) : Option Res)], [Fact.sl Qz varg11 arg1.l, (bif L 5 then Fact.pt Qz p1 r1 else Fact.tt), (bif L 6 then Fact.pt u64S p2 r1.Len else Fact.tt), (bif L 14 then Fact.pt Qz p3 r2 else Fact.tt), (bif L 15 then Fact.pt u64S p4 r2.At else Fact.tt)]⟩ a w) [([], [1, 2, 3, 5, 6, 7, 8, 17]), ([0], [2, 3, 5, 6, 7, 8, 17]), ([0, 1], [3, 5, 6, 7, 8, 17]), ([0, 1, 2], [5, 6, 7, 8, 17]), ([], [5, 6, 7, 8, 17]), ([0, 1, 2, 3, 4], [6, 7, 8, 17]), ([0, 1, 2, 3, 4, 5], [7, 8, 17]), ([0, 1, 2, 3, 4, 5, 6], [8, 17]), ([0, 1, 2, 3, 4, 5, 6, 7], [17]), ([], [10, 11, 12, 14, 15, 16, 17]), ([9], [11, 12, 14, 15, 16, 17]), ([9, 10], [12, 14, 15, 16, 17]), ([9, 10, 11], [14, 15, 16, 17]), ([], [14, 15, 16, 17]), ([9, 10, 11, 12, 13], [15, 16, 17]), ([9, 10, 11, 12, 13, 14], [16, 17]), ([9, 10, 11, 12, 13, 14, 15], [17]), ([0, 1, 2, 3, 4, 5, 6, 7, 8, 9, 10, 11, 12, 13, 14, 15, 16], []), ([], [])] rfl (by kernel_rfl) ?_ (Qb ?_ (Qb ?_ (Qb ?_ (Qb ?_ (Qb ?_ (Qb ?_ (Qb ?_ (Qb ?_ (Qb ?_ (Qb ?_ (Qb ?_ (Qb ?_ (Qb ?_ (Qb ?_ (Qb ?_ (Qb ?_ (Qb ?_ (Qb ?_ (Qb ?_ (QB)))))))))))))))))))) ?_
 ·intro a w hs
  exact ⟨undef, undef, undef, undef, hs.startF [5, 6, 7, 8, 9, 10, 11, 12, 13, 14, 15, 16, 17, 18, 19, 20, 21, 22, 23] [0, 1, 2, 3] [0, 1, 2, 3, 4] rfl rfl rfl rfl⟩
 ·intro L a w hv K Q hK
  obtain ⟨p1, p2, p3, p4, hs⟩ := hv
  exact wGo rfl rfl hs (Qj rfl rfl rfl rfl tyF25 (i := 0) rfl rfl) fun a w hs => hK a w ⟨p1, p2, p3, p4, pF hs 3 [0, 1, 2, 3] [0, 1, 2, 3, 4] rfl⟩
 ·intro L a w hv K Q hK
  obtain ⟨p1, p2, p3, p4, hs⟩ := hv
  exact wGo rfl rfl hs (Zt rfl rfl rfl rfl) fun a w hs => hK a w ⟨p1, p2, p3, p4, pF hs 4 [0, 1, 2, 3] [0, 1, 2, 3, 4] rfl⟩
 ·intro L a w hv K Q hK
  obtain ⟨p1, p2, p3, p4, hs⟩ := hv
  exact wGo rfl rfl hs (Qi rfl rfl rfl rfl fldF113x0) fun a w hs => hK a w ⟨p1, p2, p3, p4, pF hs 5 [0, 1, 2, 3] [0, 1, 2, 3, 4] rfl⟩
 ·intro L a w hv K Q hK
  obtain ⟨p1, p2, p3, p4, hs⟩ := hv
  exact wGo rfl rfl hs (Qj rfl rfl rfl rfl tyF54 (i := 1) rfl rfl) fun a w hs => hK a w ⟨p1, p2, p3, p4, pF hs 6 [0, 1, 2, 3] [0, 1, 2, 3, 4] rfl⟩
 ·intro L a w hv K Q hK
  obtain ⟨p1, p2, p3, p4, hs⟩ := hv
  exact wGo rfl rfl hs (Qk rfl rfl rfl rfl) fun a w hs => hK a w ⟨p1, p2, p3, p4, pF hs 7 [0, 1, 2, 3] [0, 1, 2, 3, 4] rfl⟩
 ·intro L a w hv K Q hK
  obtain ⟨p1, p2, p3, p4, hs⟩ := hv
  refine QO rfl rfl hs (Zb rfl rfl rfl rfl rfl slF54 (i := 0) rfl hx1) ?_
  rintro _ ⟨p1', rfl⟩ a' w' hs'
  exact hK a' w' ⟨p1', p2, p3, p4, hs'.putF (i := 8) rfl [0, 1, 2, 3] [0, 5, 2, 3, 4] rfl rfl rfl rfl⟩
 ·intro L a w hv K Q hK
  obtain ⟨p1, p2, p3, p4, hs⟩ := hv
  refine QO rfl rfl hs (Zg (S' := u64S) (y := r1.Len) rfl rfl rfl rfl Yd (i := 1) rfl (by intro h cs hr; subst hr; rfl)) ?_
  rintro _ ⟨p2', rfl⟩ a' w' hs'
  exact hK a' w' ⟨p1, p2', p3, p4, hs'.putF (i := 9) rfl [0, 1, 2, 3] [0, 1, 5, 3, 4] rfl rfl rfl rfl⟩
 ·intro L a w hv K Q hK
  obtain ⟨p1, p2, p3, p4, hs⟩ := hv
  exact wGo rfl rfl hs (Zj rfl rfl rfl rfl QZ (i := 2) rfl rfl) fun a w hs => hK a w ⟨p1, p2, p3, p4, pF hs 10 [0, 1, 2, 3] [0, 1, 2, 3, 4] rfl⟩
 ·intro L a w hv K Q hK
  obtain ⟨p1, p2, p3, p4, hs⟩ := hv
  exact wGo rfl rfl hs (Qf rfl rfl rfl rfl rfl (Zc (a := r1.Len) (b := (1 : UInt64)))) fun a w hs => hK a w ⟨p1, p2, p3, p4, pF hs 11 [0, 1, 2, 3] [0, 1, 2, 3, 4] rfl⟩
 ·intro L a w hv K Q hK
  obtain ⟨p1, p2, p3, p4, hs⟩ := hv
  exact wGo rfl rfl hs (Qj rfl rfl rfl rfl tyF25 (i := 0) rfl rfl) fun a w hs => hK a w ⟨p1, p2, p3, p4, pF hs 12 [0, 1, 2, 3] [0, 1, 2, 3, 4] rfl⟩
 ·intro L a w hv K Q hK
  obtain ⟨p1, p2, p3, p4, hs⟩ := hv
  exact wGo rfl rfl hs (Zt rfl rfl rfl rfl) fun a w hs => hK a w ⟨p1, p2, p3, p4, pF hs 13 [0, 1, 2, 3] [0, 1, 2, 3, 4] rfl⟩
 ·intro L a w hv K Q hK
  obtain ⟨p1, p2, p3, p4, hs⟩ := hv
  exact wGo rfl rfl hs (Qi rfl rfl rfl rfl fldF113x0) fun a w hs => hK a w ⟨p1, p2, p3, p4, pF hs 14 [0, 1, 2, 3] [0, 1, 2, 3, 4] rfl⟩
 ·intro L a w hv K Q hK
  obtain ⟨p1, p2, p3, p4, hs⟩ := hv
  exact wGo rfl rfl hs (Qj rfl rfl rfl rfl tyF54 (i := 1) rfl rfl) fun a w hs => hK a w ⟨p1, p2, p3, p4, pF hs 15 [0, 1, 2, 3] [0, 1, 2, 3, 4] rfl⟩
 ·intro L a w hv K Q hK
  obtain ⟨p1, p2, p3, p4, hs⟩ := hv
  exact wGo rfl rfl hs (Qk rfl rfl rfl rfl) fun a w hs => hK a w ⟨p1, p2, p3, p4, pF hs 16 [0, 1, 2, 3] [0, 1, 2, 3, 4] rfl⟩
 ·intro L a w hv K Q hK
  obtain ⟨p1, p2, p3, p4, hs⟩ := hv
  refine QO rfl rfl hs (Zb rfl rfl rfl rfl rfl slF54 (i := 0) rfl hx2) ?_
  rintro _ ⟨p3', rfl⟩ a' w' hs'
  exact hK a' w' ⟨p1, p2, p3', p4, hs'.putF (i := 17) rfl [0, 1, 2, 3] [0, 1, 2, 5, 4] rfl rfl rfl rfl⟩
 ·intro L a w hv K Q hK
  obtain ⟨p1, p2, p3, p4, hs⟩ := hv
  refine QO rfl rfl hs (Zg (S' := u64S) (y := r2.At) rfl rfl rfl rfl Yy (i := 3) rfl (by intro h cs hr; subst hr; rfl)) ?_
  rintro _ ⟨p4', rfl⟩ a' w' hs'
  exact hK a' w' ⟨p1, p2, p3, p4', hs'.putF (i := 18) rfl [0, 1, 2, 3] [0, 1, 2, 3, 5] rfl rfl rfl rfl⟩
 ·intro L a w hv K Q hK
  obtain ⟨p1, p2, p3, p4, hs⟩ := hv
  exact wGo rfl rfl hs (Zj rfl rfl rfl rfl QZ (i := 4) rfl rfl) fun a w hs => hK a w ⟨p1, p2, p3, p4, pF hs 19 [0, 1, 2, 3] [0, 1, 2, 3, 4] rfl⟩
 ·intro L a w hv K Q hK
  obtain ⟨p1, p2, p3, p4, hs⟩ := hv
  exact wGo rfl rfl hs (Qf rfl rfl rfl rfl rfl (Za (a := r1.Len - (1 : UInt64)) (b := r2.At))) fun a w hs => hK a w ⟨p1, p2, p3, p4, pF hs 20 [0, 1, 2, 3] [0, 1, 2, 3, 4] rfl⟩
 ·intro L a w hv K Q hK
  obtain ⟨p1, p2, p3, p4, hs⟩ := hv
  exact wGo rfl rfl hs (Qj rfl rfl rfl rfl QZ (i := 3) rfl rfl) fun a w hs => hK a w ⟨p1, p2, p3, p4, pF hs 21 [0, 1, 2, 3] [0, 1, 2, 3, 4] rfl⟩
 ·intro L a w hL hv
  rw [QM hL] at hv
  obtain ⟨p1, p2, p3, p4, hs⟩ := hv
  refine gZ hs [22, 23] [0, 1, 2, 3] [0] rfl rfl rfl rfl ?_
  clear hs hL
  refine Qx htb (by kernel_rfl) rfl rfl (Qf rfl rfl rfl rfl rfl (bin_geq_u64 (a := (r1.Len - (1 : UInt64)) + r2.At) (b := arg2))) ?_
  refine Qx htb (by kernel_rfl) rfl rfl (QN rfl rfl rfl rfl) ?_
  refine Zh rfl ?_
  refine tZ [4] [0, 1, 2, 3] [0] rfl rfl rfl rfl ?_
  obtain rfl := Option.some.inj h
  exact Qn rfl rfl (resA (vs := [vB (decide (((r1.Len - (1 : UInt64)) + r2.At) ≥ arg2))]) rfl ⟨rfl, trivial⟩) [0, 1, 2, 3] [] rfl rfl rfl ⟨rfl, rfl, rfl⟩

set_option maxRecDepth 100000 in
set_option maxHeartbeats 4000000 in
theorem w_sort_SearchFgmem_Mem_bytes_1 {np0 : Int} {fc0 : gmem_Mem} {fc1 : UInt64} {b_fc0 : Nat} {vfc01 : Value} {vfc02 : Value} {vsfc01 : List Value} {bb_fc0 : Nat} {b_fc1 : Nat} {r : Int} (h : ZF np0 fc0 fc1 = some r) :
  Ctr Try.prog 80 #[vI np0, .func (.func 81) #[] #[.pointer (some ⟨bb_fc0, 0, none⟩), .pointer (some ⟨b_fc1, 0, none⟩)]] [(Qm bb_fc0 25 [.pointer (some ⟨b_fc0, 0, none⟩)]), (Qm b_fc0 113 [vfc01, vfc02]), (QV u8S true vfc02 vsfc01 fc0.b none), (Qm b_fc1 27 [vU64 fc1])] [Fact.sl Qz vfc01 fc0.l]
   (fun rv own shr => rv = vI r ∧ own = [(Qm bb_fc0 25 [.pointer (some ⟨b_fc0, 0, none⟩)]), (Qm b_fc0 113 [vfc01, vfc02]), (QV u8S true vfc02 vsfc01 fc0.b none), (Qm b_fc1 27 [vU64 fc1])] ∧ shr = []) := by
 unfold ZF at h
 refine Ctr.mk (args := [vI np0, .func (.func 81) #[] #[.pointer (some ⟨bb_fc0, 0, none⟩), .pointer (some ⟨b_fc1, 0, none⟩)]]) Try.func80 rfl rfl (fun R0 w0 B => ?_)
 refine Qe (Qc (sAs rfl rfl rfl ?_))
 refine Qd (tZ [0, 1] [0, 1, 2, 3] [0] rfl rfl rfl rfl ?_)
 refine Qe (Qc (sMv rfl rfl rfl ?_))
 refine sAs rfl rfl rfl ?_
 refine sAs rfl rfl rfl ?_
 refine Qd (tZ [1, 5, 6] [0, 1, 2, 3] [0] rfl rfl rfl rfl ?_)
 refine Qe (QC (Zf (σ := Int × Int) [1, 5, 6] [0, 1, 2, 3] [0] (fun s => ⟨[(1, some (.func (.func 81) #[] #[.pointer (some ⟨bb_fc0, 0, none⟩), .pointer (some ⟨b_fc1, 0, none⟩)])), (5, some (vI s.1)), (6, some (vI s.2))], [some (Qm bb_fc0 25 [.pointer (some ⟨b_fc0, 0, none⟩)]), some (Qm b_fc0 113 [vfc01, vfc02]), some (QV u8S true vfc02 vsfc01 fc0.b none), some (Qm b_fc1 27 [vU64 fc1])], [Fact.sl Qz vfc01 fc0.l]⟩) (fun nf1 s => Zo fc0 fc1 nf1 s.1 s.2 = some r) fuel ((0 : Int), np0) h rfl rfl rfl rfl rfl (fun s h => by cases h) ?_))
 rintro nf1 ⟨i1, j1⟩ h
 replace h : ZO fc0 fc1 (Zo fc0 fc1 nf1) i1 j1 = some r := h
 unfold ZO at h
 refine Qe (Qe (Qc (sMv rfl rfl rfl ?_)))
 refine sMv rfl rfl rfl ?_
 refine Qa rfl (Qf rfl rfl rfl rfl rfl (QI (a := i1) (b := j1))) ?_
 refine Qd (tZ [1, 5, 6, 11] [0, 1, 2, 3] [0] rfl rfl rfl rfl ?_)
 rcases bC (decide (i1 < j1)) with hg1 | hg1
 ·replace h := br_t hg1 h
  refine Ql (cgb hg1) ?_
  refine Qt (QC (Qe (Qc (sMv rfl rfl rfl ?_))))
  refine sMv rfl rfl rfl ?_
  refine Qa rfl (Qf rfl rfl rfl rfl rfl (QG (a := i1) (b := j1))) ?_
  refine Qa rfl (QX rfl rfl rfl rfl (Xw (n := wi (i1 + j1)) Try.underlying3 Try.underlying23)) ?_
  refine Qa rfl (Qf rfl rfl rfl rfl rfl (bin_shr_u64_u64 (a := u64 (wi (i1 + j1))) (n := (1 : UInt64)))) ?_
  refine Qa rfl (QX rfl rfl rfl rfl (cnv_u64_i (n := Kb (u64 (wi (i1 + j1))) ((1 : UInt64).toNat)) Try.underlying23 Try.underlying3)) ?_
  refine sAs rfl rfl rfl ?_
  refine Qd (tZ [1, 5, 6, 7] [0, 1, 2, 3] [0] rfl rfl rfl rfl ?_)
  refine Qe (Qc (sMv rfl rfl rfl ?_))
  refine sMv rfl rfl rfl ?_
  obtain ⟨bytes1, hx1, h⟩ := ob_e h
  refine Qs rfl (QJ [4, 5, 6, 7] (w_gmem_Mem_bytes_1 hx1) [0, 1, 2, 3] [0] rfl rfl rfl rfl rfl callee81 rfl rfl rfl rfl rfl) ?_
  rintro _ ⟨_, _, _, ⟨rfl, rfl, rfl⟩, rfl⟩
  refine Qa rfl (XO rfl rfl rfl rfl) ?_
  refine Qd (tZ [1, 5, 6, 7, 21] [0, 1, 2, 3] [0] rfl rfl rfl rfl ?_)
  rcases bC ((!bytes1)) with hg2 | hg2
  ·replace h := br_t hg2 h
   refine Ql (cgb hg2) ?_
   refine Qc (sMv rfl rfl rfl ?_)
   refine Qa rfl (Qf rfl rfl rfl rfl rfl (QG (a := i64 (Kb (u64 (wi (i1 + j1))) ((1 : UInt64).toNat))) (b := (1 : Int)))) ?_
   refine sAs rfl rfl rfl ?_
   refine Qd (tZ [1, 5, 6] [0, 1, 2, 3] [0] rfl rfl rfl rfl ?_)
   refine Zx ?_
   exact QY (wi ((i64 (Kb (u64 (wi (i1 + j1))) ((1 : UInt64).toNat))) + (1 : Int)), j1) h [1, 5, 6] [0, 1, 2, 3] [0] rfl rfl rfl rfl rfl
  ·replace h := br_f hg2 h
   refine Qp (cgb hg2) ?_
   refine Qc (sMv rfl rfl rfl ?_)
   refine sAs rfl rfl rfl ?_
   refine Qd (tZ [1, 5, 6] [0, 1, 2, 3] [0] rfl rfl rfl rfl ?_)
   refine Zx ?_
   exact QY (i1, i64 (Kb (u64 (wi (i1 + j1))) ((1 : UInt64).toNat))) h [1, 5, 6] [0, 1, 2, 3] [0] rfl rfl rfl rfl rfl
 ·replace h := br_f hg1 h
  refine Qp (cgb hg1) ?_
  refine Zv _ rfl ?_
  refine Qe (Qc (sMv rfl rfl rfl ?_))
  refine sAs rfl rfl rfl ?_
  refine Qd (tZ [4] [0, 1, 2, 3] [0] rfl rfl rfl rfl ?_)
  obtain rfl := Option.some.inj h
  exact Qn rfl rfl (resA (vs := [vI i1]) rfl ⟨rfl, trivial⟩) [0, 1, 2, 3] [] rfl rfl rfl ⟨rfl, rfl, rfl⟩

set_option maxRecDepth 100000 in
set_option maxHeartbeats 4000000 in
theorem w_gmem_Mem_bytes {m : gmem_Mem} {atp1 : UInt64} {np2 : UInt64} {b_m : Nat} {vm1 : Value} {vm2 : Value} {vsm1 : List Value} {r : (Option (Int × Int × Int))} (h : XY m atp1 np2 = some r) :
  Ctr Try.prog 38 #[.pointer (some ⟨b_m, 0, none⟩), vU64 atp1, vU64 np2] [(Qm b_m 113 [vm1, vm2]), (QV u8S true vm2 vsm1 m.b none)] [Fact.sl Qz vm1 m.l]
   (fun rv own shr => rv = winV 1 vsm1 r ∧ own = [(Qm b_m 113 [vm1, vm2]), (QV u8S true vm2 vsm1 m.b none)] ∧ shr = []) := by
 unfold XY at h
 refine Ctr.mk (args := [.pointer (some ⟨b_m, 0, none⟩), vU64 atp1, vU64 np2]) Try.func38 rfl rfl (fun R0 w0 B => ?_)
 refine Qe (Qc (Qu rfl (ZA rfl rfl rfl rfl) fun b1 => ?_))
 refine Qu rfl (ZA rfl rfl rfl rfl) fun b2 => ?_
 refine sAs rfl rfl rfl ?_
 refine Qd (tZ [2, 3, 4] [0, 1, 2, 3] [0] rfl rfl rfl rfl ?_)
 refine Qe (Qe (Qc (sMv rfl rfl rfl ?_)))
 refine Qa rfl (Qf rfl rfl rfl rfl rfl (ZD (a := np2) (b := (1 : UInt64)))) ?_
 refine Qd (tZ [2, 3, 4, 10] [0, 1, 2, 3] [0] rfl rfl rfl rfl ?_)
 rcases bC (decide (np2 < (1 : UInt64))) with hg1 | hg1
 ·replace h := br_t hg1 h
  refine Ql (cgb hg1) ?_
  refine Qe (Qc (sAs rfl rfl rfl ?_))
  refine Qd (tZ [6] [0, 1] [0] rfl rfl rfl rfl ?_)
  obtain rfl := Option.some.inj h
  exact Qn rfl rfl (resA (vs := [.slice none 0 0]) rfl ⟨rfl, trivial⟩) [0, 1] [] rfl rfl rfl ⟨rfl, rfl, rfl⟩
 ·replace h := br_f hg1 h
  refine Qp (cgb hg1) ?_
  refine Qt (Qe (Qc (Qa rfl (Qj rfl rfl rfl rfl tyF25 (i := 2) rfl rfl) ?_)))
  refine Qa rfl (Zt rfl rfl rfl rfl) ?_
  refine Qa rfl (Qi rfl rfl rfl rfl fldF113x0) ?_
  refine Qa rfl (Qj rfl rfl rfl rfl tyF54 (i := 0) rfl rfl) ?_
  refine Qa rfl (QT rfl rfl rfl rfl Try.underlying54 (i := 0) rfl) ?_
  refine Qa rfl (Xm (vs := [.pointer (some ⟨b1, 0, none⟩), .pointer (some ⟨b2, 0, none⟩)]) rfl rfl rfl rfl) ?_
  obtain ⟨search1, hx1, h⟩ := ob_e h
  refine Qs rfl (QJ [5, 6, 4, 7] (w_sort_SearchFgmem_Mem_bytes_1 hx1) [2, 0, 1, 3] [0] rfl rfl rfl rfl rfl callee80 rfl rfl rfl rfl rfl) ?_
  rintro _ ⟨_, _, _, ⟨rfl, rfl, rfl⟩, rfl⟩
  refine sAs rfl rfl rfl ?_
  refine Qd (tZ [2, 3, 4, 7] [0, 1, 2, 3] [0] rfl rfl rfl rfl ?_)
  refine Qe (Qe (QU (by kernel_rfl) ?_))
  refine Xn [0, 0, 2, 6, 14, 30, 63, 127, 255, 255, 767, 1791, 3839, 255, 16127, 32511, 65279, 131071, 262143] (by kernel_rfl) fun htb => ?_
  refine QW (lo := 0) (hi := 6) htb rfl rfl (by kernel_rfl) (fun c L a w => Sat c ⟨[(2, some (vU64 np2)), (3, some (.pointer (some ⟨b1, 0, none⟩))), (4, some (.pointer (some ⟨b2, 0, none⟩))), (7, some (vI search1)), (18, bif L 0 then some (vI search1) else none), (19, bif L 1 then some (.pointer (some ⟨b_m, 0, none⟩)) else none), (20, bif L 2 then some (.pointer (some ⟨b_m, 0, none⟩)) else none), (21, bif L 3 then some (.pointer (some ⟨b_m, 0, none⟩)) else none), (22, bif L 4 then some (vm1) else none), (23, bif L 5 then some (vI (len m.l)) else none)], [(some (Qm b_m 113 [vm1, vm2]) : Option Res), (some (QV u8S true vm2 vsm1 m.b none) : Option Res), (some (Qm b1 25 [.pointer (some ⟨b_m, 0, none⟩)]) : Option Res), (some (Qm b2 27 [vU64 atp1]) : Option Res)], [Fact.sl Qz vm1 m.l]⟩ a w) [([], []), ([], [2, 3, 4, 5]), ([1], [3, 4, 5]), ([1, 2], [4, 5]), ([1, 2, 3], [5]), ([1, 2, 3, 4], [])] rfl (by kernel_rfl) ?_ (Qb ?_ (Qb ?_ (Qb ?_ (Qb ?_ (Qb ?_ (Qb ?_ (QB))))))) ?_
  ·intro a w hs
   exact hs.startF [18, 19, 20, 21, 22, 23] [0, 1, 2, 3] [0] rfl rfl rfl rfl
  ·intro L a w hs K Q hK
   exact wGo rfl rfl hs (Qk rfl rfl rfl rfl) fun a w hs => hK a w (pF hs 4 [0, 1, 2, 3] [0] rfl)
  ·intro L a w hs K Q hK
   exact wGo rfl rfl hs (Qj rfl rfl rfl rfl tyF25 (i := 2) rfl rfl) fun a w hs => hK a w (pF hs 5 [0, 1, 2, 3] [0] rfl)
  ·intro L a w hs K Q hK
   exact wGo rfl rfl hs (Zt rfl rfl rfl rfl) fun a w hs => hK a w (pF hs 6 [0, 1, 2, 3] [0] rfl)
  ·intro L a w hs K Q hK
   exact wGo rfl rfl hs (Qi rfl rfl rfl rfl fldF113x0) fun a w hs => hK a w (pF hs 7 [0, 1, 2, 3] [0] rfl)
  ·intro L a w hs K Q hK
   exact wGo rfl rfl hs (Qj rfl rfl rfl rfl tyF54 (i := 0) rfl rfl) fun a w hs => hK a w (pF hs 8 [0, 1, 2, 3] [0] rfl)
  ·intro L a w hs K Q hK
   exact wGo rfl rfl hs (QT rfl rfl rfl rfl Try.underlying54 (i := 0) rfl) fun a w hs => hK a w (pF hs 9 [0, 1, 2, 3] [0] rfl)
  ·intro L a w hL hv
   rw [QM hL] at hv
   have hs := hv
   refine gZ hs [2, 3, 4, 7, 18, 23] [0, 1, 2, 3] [0] rfl rfl rfl rfl ?_
   clear hs hL
   refine Qx htb (by kernel_rfl) rfl rfl (Qf rfl rfl rfl rfl rfl (ZG (a := search1) (b := len m.l))) ?_
   refine Qx htb (by kernel_rfl) rfl rfl (Qk rfl rfl rfl rfl) ?_
   refine aZ [2, 3, 4, 7, 25] [0, 1, 2, 3] [0] rfl rfl rfl rfl ?_
   rcases bC (search1 == (len m.l)) with hg2 | hg2
   ·replace h := br_t hg2 h
    refine QW (lo := 8) (hi := 17) htb rfl rfl (by kernel_rfl) (fun c L a w => Sat c ⟨[(2, some (vU64 np2)), (3, some (.pointer (some ⟨b1, 0, none⟩))), (4, some (.pointer (some ⟨b2, 0, none⟩))), (7, some (vI search1)), (25, some (vB (search1 == (len m.l)))), (26, bif L 8 then some (undef) else none), (27, bif L 9 then some (undef) else none), (28, bif L 10 then some (undef) else none), (29, bif L 11 then some (undef) else none), (30, bif L 12 then some (undef) else none), (31, bif L 13 then some (undef) else none), (32, bif L 14 then some (undef) else none), (33, bif L 15 then some (undef) else none), (34, bif L 16 then some (undef) else none)], [(some (Qm b_m 113 [vm1, vm2]) : Option Res), (some (QV u8S true vm2 vsm1 m.b none) : Option Res), (some (Qm b1 25 [.pointer (some ⟨b_m, 0, none⟩)]) : Option Res), (some (Qm b2 27 [vU64 atp1]) : Option Res)], [Fact.sl Qz vm1 m.l]⟩ a w) [([], []), ([], [10, 11, 12, 14, 15, 16]), ([9], [11, 12, 14, 15, 16]), ([9, 10], [12, 14, 15, 16]), ([9, 10, 11], [14, 15, 16]), ([], [14, 15, 16]), ([9, 10, 11, 12, 13], [15, 16]), ([9, 10, 11, 12, 13, 14], [16]), ([9, 10, 11, 12, 13, 14, 15], [])] rfl (by kernel_rfl) ?_ (Qb ?_ (Qb ?_ (Qb ?_ (Qb ?_ (Qb ?_ (Qb ?_ (Qb ?_ (Qb ?_ (Qb ?_ (QB)))))))))) ?_
    ·intro a w hs
     exact hs.startF [26, 27, 28, 29, 30, 31, 32, 33, 34] [0, 1, 2, 3] [0] rfl rfl rfl rfl
    ·intro L a w hs K Q hK
     exact QA rfl rfl rfl hs (cgb hg2) rfl rfl fun a w hs => hK a w (pF hs 5 [0, 1, 2, 3] [0] rfl)
    ·intro L a w hs K Q hK
     exact QA rfl rfl rfl hs (cgb hg2) rfl rfl fun a w hs => hK a w (pF hs 6 [0, 1, 2, 3] [0] rfl)
    ·intro L a w hs K Q hK
     exact QA rfl rfl rfl hs (cgb hg2) rfl rfl fun a w hs => hK a w (pF hs 7 [0, 1, 2, 3] [0] rfl)
    ·intro L a w hs K Q hK
     exact QA rfl rfl rfl hs (cgb hg2) rfl rfl fun a w hs => hK a w (pF hs 8 [0, 1, 2, 3] [0] rfl)
    ·intro L a w hs K Q hK
     exact QA rfl rfl rfl hs (cgb hg2) rfl rfl fun a w hs => hK a w (pF hs 9 [0, 1, 2, 3] [0] rfl)
    ·intro L a w hs K Q hK
     exact QA rfl rfl rfl hs (cgb hg2) rfl rfl fun a w hs => hK a w (pF hs 10 [0, 1, 2, 3] [0] rfl)
    ·intro L a w hs K Q hK
     exact QA rfl rfl rfl hs (cgb hg2) rfl rfl fun a w hs => hK a w (pF hs 11 [0, 1, 2, 3] [0] rfl)
    ·intro L a w hs K Q hK
     exact QA rfl rfl rfl hs (cgb hg2) rfl rfl fun a w hs => hK a w (pF hs 12 [0, 1, 2, 3] [0] rfl)
    ·intro L a w hs K Q hK
     exact QA rfl rfl rfl hs (cgb hg2) rfl rfl fun a w hs => hK a w (pF hs 13 [0, 1, 2, 3] [0] rfl)
    ·intro L a w hL hv
     rw [QM hL] at hv
     have hs := hv
     refine gZ hs [2, 3, 4, 7, 25, 26, 34] [0, 1, 2, 3] [0] rfl rfl rfl rfl ?_
     clear hs hL
     refine KR htb (by kernel_rfl) rfl rfl rfl (cgb hg2) rfl rfl ?_
     refine Qx htb (by kernel_rfl) rfl rfl (Qr rfl rfl rfl (cgb hg2) rfl) ?_
     refine Zh rfl ?_
     refine tZ [2, 3, 4, 7, 36] [0, 1, 2, 3] [0] rfl rfl rfl rfl ?_
     refine Ql rfl ?_
     refine Qe (Qc (sAs rfl rfl rfl ?_))
     refine Qd (tZ [6] [0, 1] [0] rfl rfl rfl rfl ?_)
     obtain rfl := Option.some.inj h
     exact Qn rfl rfl (resA (vs := [.slice none 0 0]) rfl ⟨rfl, trivial⟩) [0, 1] [] rfl rfl rfl ⟨rfl, rfl, rfl⟩
   ·replace h := br_f hg2 h
    obtain ⟨r1, hx2, h⟩ := ob_e h
    refine QW (lo := 8) (hi := 17) htb rfl rfl (by kernel_rfl) (fun c L a w => ∃ (p1 : Value), ∃ (p2 : Value), Sat c ⟨[(2, some (vU64 np2)), (3, some (.pointer (some ⟨b1, 0, none⟩))), (4, some (.pointer (some ⟨b2, 0, none⟩))), (7, some (vI search1)), (25, some (vB (search1 == (len m.l)))), (26, bif L 8 then some (vU64 atp1) else none), (27, bif L 9 then some (.pointer (some ⟨b_m, 0, none⟩)) else none), (28, bif L 10 then some (.pointer (some ⟨b_m, 0, none⟩)) else none), (29, bif L 11 then some (.pointer (some ⟨b_m, 0, none⟩)) else none), (30, bif L 12 then some (vm1) else none), (31, bif L 13 then some (vI search1) else none), (32, bif L 14 then some (p1) else none), (33, bif L 15 then some (p2) else none), (34, bif L 16 then some (vU64 r1.At) else none)], [(some (Qm b_m 113 [vm1, vm2]) : Option Res), (some (QV u8S true vm2 vsm1 m.b none) : Option Res), (some (Qm b1 25 [.pointer (some ⟨b_m, 0, none⟩)]) : Option Res), (some (Qm b2 27 [vU64 atp1]) : Option Res)], [Fact.sl Qz vm1 m.l, (bif L 14 then Fact.pt Qz p1 r1 else Fact.tt), (bif L 15 then Fact.pt u64S p2 r1.At else Fact.tt)]⟩ a w) [([], []), ([], [10, 11, 12, 14, 15, 16]), ([9], [11, 12, 14, 15, 16]), ([9, 10], [12, 14, 15, 16]), ([9, 10, 11], [14, 15, 16]), ([], [14, 15, 16]), ([9, 10, 11, 12, 13], [15, 16]), ([9, 10, 11, 12, 13, 14], [16]), ([9, 10, 11, 12, 13, 14, 15], [])] rfl (by kernel_rfl) ?_ (Qb ?_ (Qb ?_ (Qb ?_ (Qb ?_ (Qb ?_ (Qb ?_ (Qb ?_ (Qb ?_ (Qb ?_ (QB)))))))))) ?_
    ·intro a w hs
     exact ⟨undef, undef, hs.startF [26, 27, 28, 29, 30, 31, 32, 33, 34] [0, 1, 2, 3] [0, 1, 2] rfl rfl rfl rfl⟩
    ·intro L a w hv K Q hK
     obtain ⟨p1, p2, hs⟩ := hv
     exact wYs rfl rfl rfl hs (cgb hg2) (Qj rfl rfl rfl rfl QZ (i := 3) rfl rfl) fun a w hs => hK a w ⟨p1, p2, pF hs 5 [0, 1, 2, 3] [0, 1, 2] rfl⟩
    ·intro L a w hv K Q hK
     obtain ⟨p1, p2, hs⟩ := hv
     exact wYs rfl rfl rfl hs (cgb hg2) (Qj rfl rfl rfl rfl tyF25 (i := 2) rfl rfl) fun a w hs => hK a w ⟨p1, p2, pF hs 6 [0, 1, 2, 3] [0, 1, 2] rfl⟩
    ·intro L a w hv K Q hK
     obtain ⟨p1, p2, hs⟩ := hv
     exact wYs rfl rfl rfl hs (cgb hg2) (Zt rfl rfl rfl rfl) fun a w hs => hK a w ⟨p1, p2, pF hs 7 [0, 1, 2, 3] [0, 1, 2] rfl⟩
    ·intro L a w hv K Q hK
     obtain ⟨p1, p2, hs⟩ := hv
     exact wYs rfl rfl rfl hs (cgb hg2) (Qi rfl rfl rfl rfl fldF113x0) fun a w hs => hK a w ⟨p1, p2, pF hs 8 [0, 1, 2, 3] [0, 1, 2] rfl⟩
    ·intro L a w hv K Q hK
     obtain ⟨p1, p2, hs⟩ := hv
     exact wYs rfl rfl rfl hs (cgb hg2) (Qj rfl rfl rfl rfl tyF54 (i := 0) rfl rfl) fun a w hs => hK a w ⟨p1, p2, pF hs 9 [0, 1, 2, 3] [0, 1, 2] rfl⟩
    ·intro L a w hv K Q hK
     obtain ⟨p1, p2, hs⟩ := hv
     exact wYs rfl rfl rfl hs (cgb hg2) (Qk rfl rfl rfl rfl) fun a w hs => hK a w ⟨p1, p2, pF hs 10 [0, 1, 2, 3] [0, 1, 2] rfl⟩
    ·intro L a w hv K Q hK
     obtain ⟨p1, p2, hs⟩ := hv
     refine Xg rfl rfl rfl hs (cgb hg2) (Zb rfl rfl rfl rfl rfl slF54 (i := 0) rfl hx2) ?_
     rintro _ ⟨p1', rfl⟩ a' w' hs'
     exact hK a' w' ⟨p1', p2, hs'.putF (i := 11) rfl [0, 1, 2, 3] [0, 3, 2] rfl rfl rfl rfl⟩
    ·intro L a w hv K Q hK
     obtain ⟨p1, p2, hs⟩ := hv
     refine Xg rfl rfl rfl hs (cgb hg2) (Zg (S' := u64S) (y := r1.At) rfl rfl rfl rfl Yy (i := 1) rfl (by intro h cs hr; subst hr; rfl)) ?_
     rintro _ ⟨p2', rfl⟩ a' w' hs'
     exact hK a' w' ⟨p1, p2', hs'.putF (i := 12) rfl [0, 1, 2, 3] [0, 1, 3] rfl rfl rfl rfl⟩
    ·intro L a w hv K Q hK
     obtain ⟨p1, p2, hs⟩ := hv
     exact wYs rfl rfl rfl hs (cgb hg2) (Zj rfl rfl rfl rfl QZ (i := 2) rfl rfl) fun a w hs => hK a w ⟨p1, p2, pF hs 13 [0, 1, 2, 3] [0, 1, 2] rfl⟩
    ·intro L a w hL hv
     rw [QM hL] at hv
     obtain ⟨p1, p2, hs⟩ := hv
     refine gZ hs [2, 3, 4, 7, 25, 26, 34] [0, 1, 2, 3] [0] rfl rfl rfl rfl ?_
     clear hs hL
     refine Xx htb (by kernel_rfl) rfl rfl rfl (cgb hg2) (Qf rfl rfl rfl rfl rfl (ZD (a := atp1) (b := r1.At))) ?_
     rintro _ rfl
     refine Qx htb (by kernel_rfl) rfl rfl (Qw rfl rfl rfl (cgb hg2) rfl) ?_
     refine Zh rfl ?_
     refine tZ [2, 3, 4, 7, 36] [0, 1, 2, 3] [0] rfl rfl rfl rfl ?_
     rcases bC (decide (atp1 < r1.At)) with hg3 | hg3
     ·replace h := br_t hg3 h
      refine Ql (cgb hg3) ?_
      refine Qe (Qc (sAs rfl rfl rfl ?_))
      refine Qd (tZ [6] [0, 1] [0] rfl rfl rfl rfl ?_)
      obtain rfl := Option.some.inj h
      exact Qn rfl rfl (resA (vs := [.slice none 0 0]) rfl ⟨rfl, trivial⟩) [0, 1] [] rfl rfl rfl ⟨rfl, rfl, rfl⟩
     ·replace h := br_f hg3 h
      refine Qp (cgb hg3) ?_
      refine Qt (Qe (QU (by kernel_rfl) ?_))
      refine Xn [0, 0, 2, 6, 14, 0, 62, 126, 254, 511, 1023] (by kernel_rfl) fun htb => ?_
      refine aZ [2, 3, 4, 7] [0, 1, 2, 3] [0] rfl rfl rfl rfl ?_
      obtain ⟨r2, hx3, h⟩ := ob_e h
      refine QW (lo := 0) (hi := 9) htb rfl rfl (by kernel_rfl) (fun c L a w => ∃ (p3 : Value), ∃ (p4 : Value), Sat c ⟨[(2, some (vU64 np2)), (3, some (.pointer (some ⟨b1, 0, none⟩))), (4, some (.pointer (some ⟨b2, 0, none⟩))), (7, some (vI search1)), (37, bif L 0 then some (vU64 atp1) else none), (38, bif L 1 then some (.pointer (some ⟨b_m, 0, none⟩)) else none), (39, bif L 2 then some (.pointer (some ⟨b_m, 0, none⟩)) else none), (40, bif L 3 then some (.pointer (some ⟨b_m, 0, none⟩)) else none), (41, bif L 4 then some (vm1) else none), (42, bif L 5 then some (vI search1) else none), (43, bif L 6 then some (p3) else none), (44, bif L 7 then some (p4) else none), (45, bif L 8 then some (vU64 r2.At) else none)], [(some (Qm b_m 113 [vm1, vm2]) : Option Res), (some (QV u8S true vm2 vsm1 m.b none) : Option Res), (some (Qm b1 25 [.pointer (some ⟨b_m, 0, none⟩)]) : Option Res), (some (Qm b2 27 [vU64 atp1]) : Option Res)], [Fact.sl Qz vm1 m.l, (bif L 6 then Fact.pt Qz p3 r2 else Fact.tt), (bif L 7 then Fact.pt u64S p4 r2.At else Fact.tt)]⟩ a w) [([], []), ([], [2, 3, 4, 6, 7, 8]), ([1], [3, 4, 6, 7, 8]), ([1, 2], [4, 6, 7, 8]), ([1, 2, 3], [6, 7, 8]), ([], [6, 7, 8]), ([1, 2, 3, 4, 5], [7, 8]), ([1, 2, 3, 4, 5, 6], [8]), ([1, 2, 3, 4, 5, 6, 7], [])] rfl (by kernel_rfl) ?_ (Qb ?_ (Qb ?_ (Qb ?_ (Qb ?_ (Qb ?_ (Qb ?_ (Qb ?_ (Qb ?_ (Qb ?_ (QB)))))))))) ?_
      ·intro a w hs
       exact ⟨undef, undef, hs.startF [37, 38, 39, 40, 41, 42, 43, 44, 45] [0, 1, 2, 3] [0, 1, 2] rfl rfl rfl rfl⟩
      ·intro L a w hv K Q hK
       obtain ⟨p3, p4, hs⟩ := hv
       exact wGo rfl rfl hs (Qj rfl rfl rfl rfl QZ (i := 3) rfl rfl) fun a w hs => hK a w ⟨p3, p4, pF hs 4 [0, 1, 2, 3] [0, 1, 2] rfl⟩
      ·intro L a w hv K Q hK
       obtain ⟨p3, p4, hs⟩ := hv
       exact wGo rfl rfl hs (Qj rfl rfl rfl rfl tyF25 (i := 2) rfl rfl) fun a w hs => hK a w ⟨p3, p4, pF hs 5 [0, 1, 2, 3] [0, 1, 2] rfl⟩
      ·intro L a w hv K Q hK
       obtain ⟨p3, p4, hs⟩ := hv
       exact wGo rfl rfl hs (Zt rfl rfl rfl rfl) fun a w hs => hK a w ⟨p3, p4, pF hs 6 [0, 1, 2, 3] [0, 1, 2] rfl⟩
      ·intro L a w hv K Q hK
       obtain ⟨p3, p4, hs⟩ := hv
       exact wGo rfl rfl hs (Qi rfl rfl rfl rfl fldF113x0) fun a w hs => hK a w ⟨p3, p4, pF hs 7 [0, 1, 2, 3] [0, 1, 2] rfl⟩
      ·intro L a w hv K Q hK
       obtain ⟨p3, p4, hs⟩ := hv
       exact wGo rfl rfl hs (Qj rfl rfl rfl rfl tyF54 (i := 0) rfl rfl) fun a w hs => hK a w ⟨p3, p4, pF hs 8 [0, 1, 2, 3] [0, 1, 2] rfl⟩
      ·intro L a w hv K Q hK
       obtain ⟨p3, p4, hs⟩ := hv
       exact wGo rfl rfl hs (Qk rfl rfl rfl rfl) fun a w hs => hK a w ⟨p3, p4, pF hs 9 [0, 1, 2, 3] [0, 1, 2] rfl⟩
      ·intro L a w hv K Q hK
       obtain ⟨p3, p4, hs⟩ := hv
       refine QO rfl rfl hs (Zb rfl rfl rfl rfl rfl slF54 (i := 0) rfl hx3) ?_
       rintro _ ⟨p3', rfl⟩ a' w' hs'
       exact hK a' w' ⟨p3', p4, hs'.putF (i := 10) rfl [0, 1, 2, 3] [0, 3, 2] rfl rfl rfl rfl⟩
      ·intro L a w hv K Q hK
       obtain ⟨p3, p4, hs⟩ := hv
       refine QO rfl rfl hs (Zg (S' := u64S) (y := r2.At) rfl rfl rfl rfl Yy (i := 1) rfl (by intro h cs hr; subst hr; rfl)) ?_
       rintro _ ⟨p4', rfl⟩ a' w' hs'
       exact hK a' w' ⟨p3, p4', hs'.putF (i := 11) rfl [0, 1, 2, 3] [0, 1, 3] rfl rfl rfl rfl⟩
      ·intro L a w hv K Q hK
       obtain ⟨p3, p4, hs⟩ := hv
       exact wGo rfl rfl hs (Zj rfl rfl rfl rfl QZ (i := 2) rfl rfl) fun a w hs => hK a w ⟨p3, p4, pF hs 12 [0, 1, 2, 3] [0, 1, 2] rfl⟩
      ·intro L a w hL hv
       rw [QM hL] at hv
       obtain ⟨p3, p4, hs⟩ := hv
       refine gZ hs [2, 3, 7, 37, 45] [0, 1, 2] [0] rfl rfl rfl rfl ?_
       clear hs hL
       refine Qx htb (by kernel_rfl) rfl rfl (Qf rfl rfl rfl rfl rfl (Zc (a := atp1) (b := r2.At))) ?_
       refine Qx htb (by kernel_rfl) rfl rfl (QN rfl rfl rfl rfl) ?_
       refine Zh rfl ?_
       refine tZ [2, 3, 7, 8] [0, 1, 2] [0] rfl rfl rfl rfl ?_
       refine Qe (Qe (Qc (sMv rfl rfl rfl ?_)))
       refine Qa rfl (Qj rfl rfl rfl rfl tyF25 (i := 2) rfl rfl) ?_
       refine Qa rfl (Zt rfl rfl rfl rfl) ?_
       refine Qa rfl (Qi rfl rfl rfl rfl fldF113x0) ?_
       refine Qa rfl (Qj rfl rfl rfl rfl tyF54 (i := 0) rfl rfl) ?_
       refine sMv rfl rfl rfl ?_
       obtain ⟨r3, hx4, h⟩ := ob_e h
       refine Qu rfl (Zb rfl rfl rfl rfl rfl slF54 (i := 0) rfl hx4) fun p5 => ?_
       refine Qu rfl (Zg (S' := u64S) (y := r3.Len) rfl rfl rfl rfl Yd (i := 1) rfl (by intro h cs hr; subst hr; rfl)) fun p6 => ?_
       refine Qa rfl (Zj rfl rfl rfl rfl QZ (i := 2) rfl rfl) ?_
       refine sMv rfl rfl rfl ?_
       refine Qa rfl (Qf rfl rfl rfl rfl rfl (Zc (a := r3.Len) (b := atp1 - r2.At))) ?_
       refine Qa rfl (Qf rfl rfl rfl rfl rfl (Xu (a := np2) (b := r3.Len - (atp1 - r2.At)))) ?_
       refine Qd (tZ [2, 3, 7, 8, 58] [0, 1, 2] [0] rfl rfl rfl rfl ?_)
       rcases bC (decide (np2 > (r3.Len - (atp1 - r2.At)))) with hg4 | hg4
       ·replace h := br_t hg4 h
        refine Ql (cgb hg4) ?_
        refine Qe (Qc (sAs rfl rfl rfl ?_))
        refine Qd (tZ [6] [0, 1] [0] rfl rfl rfl rfl ?_)
        obtain rfl := Option.some.inj h
        exact Qn rfl rfl (resA (vs := [.slice none 0 0]) rfl ⟨rfl, trivial⟩) [0, 1] [] rfl rfl rfl ⟨rfl, rfl, rfl⟩
       ·replace h := br_f hg4 h
        refine Qp (cgb hg4) ?_
        refine Qt (Qe (Qc (Qa rfl (Qj rfl rfl rfl rfl tyF25 (i := 2) rfl rfl) ?_)))
        refine Qa rfl (Zt rfl rfl rfl rfl) ?_
        refine Qa rfl (Qi rfl rfl rfl rfl fldF113x1) ?_
        refine Qa rfl (Qj rfl rfl rfl rfl tyF111 (i := 0) rfl rfl) ?_
        refine sMv rfl rfl rfl ?_
        obtain ⟨row1, hx5, h⟩ := ob_e h
        refine Qa rfl (OpT_idxRows rfl rfl rfl rfl rfl slF111 (i := 1) rfl hx5) ?_
        refine Yb (vs_focus (i := 1) (j := search1) rfl hx5) ?_
        refine Qa rfl (OpT_loadRow (m := search1) rfl rfl rfl rfl tyF39 (i := 1) rfl) ?_
        refine sMv rfl rfl rfl ?_
        refine sMv rfl rfl rfl ?_
        refine sMv rfl rfl rfl ?_
        refine Qa rfl (Qf rfl rfl rfl rfl rfl (Za (a := atp1 - r2.At) (b := np2))) ?_
        obtain ⟨hc1, h⟩ := ZK h
        refine Qa rfl (OpT_subLH (S := u8S) (l := ((atp1 - r2.At).toNat : Int)) (m := (((atp1 - r2.At) + np2).toNat : Int)) rfl rfl rfl rfl rfl rfl slF39 (i := 3) rfl hc1) ?_
        refine sAs rfl rfl rfl ?_
        refine Qd (tZ [6] [0, 1, 3] [0] rfl rfl rfl rfl ?_)
        refine Tk_vs (vs_unfocus0 (i := 1) (q := 2) rfl rfl rfl hx5) ?_
        obtain rfl := Option.some.inj h
        exact Qn rfl rfl (resA (vs := [subV (vsAt vsm1 (Int.toNat search1)) 1 (Int.toNat ((atp1 - r2.At).toNat : Int)) (Int.toNat (((atp1 - r2.At) + np2).toNat : Int))]) rfl ⟨rfl, trivial⟩) [0, 1] [] rfl rfl rfl ⟨rfl, rfl, rfl⟩
end Go.Proofs.Ytlofegfaphijpaa
