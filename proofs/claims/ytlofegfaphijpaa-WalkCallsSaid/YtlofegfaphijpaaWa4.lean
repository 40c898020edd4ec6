/- The functions do what the plain words say: each is walked once. No statement of the seat is proved here; no condition. -/
import Derived.Test.YtlofegfaphijpaaWa3
namespace Go.Proofs.Ytlofegfaphijpaa
attribute [local irreducible] sub
set_option maxRecDepth 100000 in
set_option maxHeartbeats 4000000 in
theorem w_walk_Reads {m : gmem_Mem} {rp1 : Rings} {head : Int} {table : Bool} {b_m : Nat} {vm1 : Value} {vm2 : Value} {vsm1 : List Value} {r : Int} (h : walk_Reads m rp1 head table = some r) :
  Ctr Try.prog 14 #[.pointer (some ⟨b_m, 0, none⟩), .agg #[vB rp1.Packed, vI rp1.Size, vU64 rp1.Desc, vU64 rp1.Driver, vU64 rp1.Device], vI head, vB table] [(Ql b_m 113 [vm1, vm2]), (QI u8S true vm2 vsm1 m.b none)] [Fact.sl Qv vm1 m.l]
   (fun rv own shr => rv = vI r ∧ own = [(Ql b_m 113 [vm1, vm2]), (QI u8S true vm2 vsm1 m.b none)] ∧ shr = []) := by
 unfold walk_Reads at h
 refine Ctr.mk (args := [.pointer (some ⟨b_m, 0, none⟩), .agg #[vB rp1.Packed, vI rp1.Size, vU64 rp1.Desc, vU64 rp1.Driver, vU64 rp1.Device], vI head, vB table]) Try.func14 rfl rfl (fun R0 w0 B => ?_)
 refine Qe (Qb (Qx rfl (Zr rfl rfl rfl rfl) fun b1 => ?_))
 refine sAs rfl rfl rfl ?_
 refine Qc (tZ [0, 2, 3, 5] [0, 1, 2] [0] rfl rfl rfl rfl ?_)
 refine Qe (Qe (Qb (sMv rfl rfl rfl ?_)))
 refine Qa rfl (QA (vs := [vB rp1.Packed, vI rp1.Size, vU64 rp1.Desc, vU64 rp1.Driver, vU64 rp1.Device]) rfl rfl rfl rfl ZK (i := 2) rfl rfl rfl) ?_
 obtain ⟨refuse1, hx1, h⟩ := ob_e h
 refine Qr rfl (Qw [3, 4, 2] (w_walk_refuse hx1) [0, 1] [0] rfl rfl rfl rfl rfl callee40 rfl rfl rfl rfl rfl) ?_
 rintro _ ⟨_, _, _, ⟨rfl, rfl, rfl⟩, rfl⟩
 refine Qa rfl (Qg rfl rfl rfl rfl rfl (QN (a := refuse1) (b := (0 : Int)))) ?_
 refine Qc (tZ [0, 2, 3, 5, 15] [0, 1, 2] [0] rfl rfl rfl rfl ?_)
 rcases bC (refuse1 != (0 : Int)) with hg1 | hg1
 ·replace h := br_t hg1 h
  refine Qk (cgb hg1) ?_
  refine Qe (Qb (sAs rfl rfl rfl ?_))
  refine Qc (tZ [8] [0, 1] [0] rfl rfl rfl rfl ?_)
  obtain rfl := Option.some.inj h
  exact Qm rfl rfl (resA (vs := [vI (0 : Int)]) rfl ⟨rfl, trivial⟩) [0, 1] [] rfl rfl rfl ⟨rfl, rfl, rfl⟩
 ·replace h := br_f hg1 h
  refine Qo (cgb hg1) ?_
  refine Qs (Qe (Qb (sMv rfl rfl rfl ?_)))
  refine Qa rfl (QA (vs := [vB rp1.Packed, vI rp1.Size, vU64 rp1.Desc, vU64 rp1.Driver, vU64 rp1.Device]) rfl rfl rfl rfl ZK (i := 2) rfl rfl rfl) ?_
  refine sMv rfl rfl rfl ?_
  refine sMv rfl rfl rfl ?_
  obtain ⟨split1, hx2, h⟩ := ob_e h
  refine Qr rfl (Qw [3, 4, 2, 5] (w_walk_split hx2) [0, 1] [0] rfl rfl rfl rfl rfl callee41 rfl rfl rfl rfl rfl) ?_
  rintro _ ⟨_, _, _, ⟨v1, rfl, rfl, rfl⟩, rfl⟩
  refine sMv rfl rfl rfl ?_
  refine Qa rfl (Qp rfl rfl rfl rfl rfl) ?_
  refine Qa rfl (Qp rfl rfl rfl rfl rfl) ?_
  refine Qa rfl (Qp rfl rfl rfl rfl rfl) ?_
  refine sAs rfl rfl rfl ?_
  refine sAs rfl rfl rfl ?_
  refine sAs rfl rfl rfl ?_
  refine Qc (tZ [10] [0, 1] [0] rfl rfl rfl rfl ?_)
  refine Qe (Qb (sMv rfl rfl rfl ?_))
  refine sAs rfl rfl rfl ?_
  refine Qc (tZ [8] [0, 1] [0] rfl rfl rfl rfl ?_)
  obtain rfl := Option.some.inj h
  exact Qm rfl rfl (resA (vs := [vI split1.2.1]) rfl ⟨rfl, trivial⟩) [0, 1] [] rfl rfl rfl ⟨rfl, rfl, rfl⟩

set_option maxRecDepth 100000 in
set_option maxHeartbeats 4000000 in
theorem w_serial_Check {pp0 : Pos} {size : Int} {r : Int} (h : Yr pp0 size = some r) :
  Ctr Try.prog 48 #[.agg #[vI pp0.At, vB pp0.Wrap], vI size] [] []
   (fun rv own shr => rv = vI r ∧ own = [] ∧ shr = []) := by
 unfold Yr at h
 refine Ctr.mk (args := [.agg #[vI pp0.At, vB pp0.Wrap], vI size]) Try.func48 rfl rfl (fun R0 w0 B => ?_)
 refine Qe (Qb (Qx rfl (Zr rfl rfl rfl rfl) fun b1 => ?_))
 refine sAs rfl rfl rfl ?_
 refine Qc (tZ [1, 2] [0] [] rfl rfl rfl rfl ?_)
 refine Qe (Qe (Qb (sMv rfl rfl rfl ?_)))
 obtain ⟨issize1, hx1, h⟩ := ob_e h
 refine Qr rfl (QD (w_serial_isSize hx1) [] [] rfl rfl rfl rfl rfl callee91 rfl rfl rfl rfl) ?_
 rintro _ ⟨_, _, _, ⟨rfl, rfl, rfl⟩, rfl⟩
 refine Qa rfl (Xd rfl rfl rfl rfl) ?_
 refine sMv rfl rfl rfl ?_
 rcases bC ((!issize1)) with hg1 | hg1
 ·replace h := br_t hg1 h
  refine Qf rfl rfl (cgb hg1) rfl rfl ?_
  refine Qf rfl rfl (cgb hg1) rfl rfl ?_
  refine Qf rfl rfl (cgb hg1) rfl rfl ?_
  refine Qa rfl (Qt rfl rfl rfl (cgb hg1) rfl) ?_
  refine sMv rfl rfl rfl ?_
  refine Qf rfl rfl rfl rfl rfl ?_
  refine Qf rfl rfl rfl rfl rfl ?_
  refine Qf rfl rfl rfl rfl rfl ?_
  refine Qf rfl rfl rfl rfl rfl ?_
  refine Qa rfl (Qt rfl rfl rfl rfl rfl) ?_
  refine Qc (tZ [18] [] [] rfl rfl rfl rfl ?_)
  refine Qk rfl ?_
  refine Qe (Qb (sAs rfl rfl rfl ?_))
  refine Qc (tZ [4] [] [] rfl rfl rfl rfl ?_)
  obtain rfl := Option.some.inj h
  exact Qm rfl rfl (resA (vs := [vI (2 : Int)]) rfl ⟨rfl, trivial⟩) [] [] rfl rfl rfl ⟨rfl, rfl, rfl⟩
 ·replace h := br_f hg1 h
  refine Qh rfl rfl (cgb hg1) (Qi rfl rfl rfl rfl YW) ?_
  rintro _ rfl
  refine Qh rfl rfl (cgb hg1) (Qj rfl rfl rfl rfl tyF3 (i := 0) rfl rfl) ?_
  rintro _ rfl
  refine Qh rfl rfl (cgb hg1) (Qg rfl rfl rfl rfl rfl (QP (a := pp0.At) (b := (0 : Int)))) ?_
  rintro _ rfl
  refine Qa rfl (Qu rfl rfl rfl (cgb hg1) rfl) ?_
  refine sMv rfl rfl rfl ?_
  rcases bC (decide (pp0.At < (0 : Int))) with hg2 | hg2
  ·replace h := br_t hg2 h
   refine Qf rfl rfl (cgb hg2) rfl rfl ?_
   refine Qf rfl rfl (cgb hg2) rfl rfl ?_
   refine Qf rfl rfl (cgb hg2) rfl rfl ?_
   refine Qf rfl rfl (cgb hg2) rfl rfl ?_
   refine Qa rfl (Qt rfl rfl rfl (cgb hg2) rfl) ?_
   refine Qc (tZ [18] [] [] rfl rfl rfl rfl ?_)
   refine Qk rfl ?_
   refine Qe (Qb (sAs rfl rfl rfl ?_))
   refine Qc (tZ [4] [] [] rfl rfl rfl rfl ?_)
   obtain rfl := Option.some.inj h
   exact Qm rfl rfl (resA (vs := [vI (2 : Int)]) rfl ⟨rfl, trivial⟩) [] [] rfl rfl rfl ⟨rfl, rfl, rfl⟩
  ·replace h := br_f hg2 h
   refine Qh rfl rfl (cgb hg2) (Qi rfl rfl rfl rfl YW) ?_
   rintro _ rfl
   refine Qh rfl rfl (cgb hg2) (Qj rfl rfl rfl rfl tyF3 (i := 0) rfl rfl) ?_
   rintro _ rfl
   refine Qh rfl rfl (cgb hg2) (Qn rfl rfl rfl rfl) ?_
   rintro _ rfl
   refine Qh rfl rfl (cgb hg2) (Qg rfl rfl rfl rfl rfl (Xl (a := pp0.At) (b := size))) ?_
   rintro _ rfl
   refine Qa rfl (Qu rfl rfl rfl (cgb hg2) rfl) ?_
   refine Qc (tZ [18] [] [] rfl rfl rfl rfl ?_)
   rcases bC (decide (pp0.At ≥ size)) with hg3 | hg3
   ·replace h := br_t hg3 h
    refine Qk (cgb hg3) ?_
    refine Qe (Qb (sAs rfl rfl rfl ?_))
    refine Qc (tZ [4] [] [] rfl rfl rfl rfl ?_)
    obtain rfl := Option.some.inj h
    exact Qm rfl rfl (resA (vs := [vI (2 : Int)]) rfl ⟨rfl, trivial⟩) [] [] rfl rfl rfl ⟨rfl, rfl, rfl⟩
   ·replace h := br_f hg3 h
    refine Qo (cgb hg3) ?_
    refine Qs (Qe (Qb (sAs rfl rfl rfl ?_)))
    refine Qc (tZ [4] [] [] rfl rfl rfl rfl ?_)
    obtain rfl := Option.some.inj h
    exact Qm rfl rfl (resA (vs := [vI (0 : Int)]) rfl ⟨rfl, trivial⟩) [] [] rfl rfl rfl ⟨rfl, rfl, rfl⟩

set_option maxRecDepth 100000 in
set_option maxHeartbeats 4000000 in
theorem w_desc_ReadPacked {b : List UInt8} {vb1 : Value} {r : (Packed × Int)} (h : Xw b = some r) :
  Ctr Try.prog 92 #[vb1] [] [Fact.sl u8S vb1 b]
   (fun rv own shr => rv = .tuple #[.agg #[vU64 r.1.Addr, vU32 r.1.Len, vU16 r.1.ID, vU16 r.1.Flags], vI r.2] ∧ own = [] ∧ shr = []) := by
 unfold Xw at h
 refine Ctr.mk (args := [vb1]) Try.func92 rfl rfl (fun R0 w0 B => ?_)
 refine Qe (Qb (Qx rfl (QK rfl rfl rfl tyZ87) fun b1 => ?_))
 refine sAs rfl rfl rfl ?_
 refine Qc (tZ [0, 2] [0] [0] rfl rfl rfl rfl ?_)
 refine Qe (Qe (Qb (sMv rfl rfl rfl ?_)))
 refine Qa rfl (Zq rfl rfl rfl rfl Try.underlying39 (i := 0) rfl) ?_
 refine Qa rfl (Qg rfl rfl rfl rfl rfl (QN (a := len b) (b := (16 : Int)))) ?_
 refine Qc (tZ [0, 2, 7] [0] [0] rfl rfl rfl rfl ?_)
 rcases bC ((len b) != (16 : Int)) with hg1 | hg1
 ·replace h := br_t hg1 h
  refine Qk (cgb hg1) ?_
  refine Qe (Qb (Qa rfl (QL (v := .agg #[vU64 (0 : UInt64), vU32 (0 : UInt32), vU16 (0 : UInt16), vU16 (0 : UInt16)]) rfl rfl rfl rfl (bldV (by kernel_rfl))) ?_))
  refine Qa rfl (Qq (cs' := [vU64 (0 : UInt64), vU32 (0 : UInt32), vU16 (0 : UInt16), vU16 (0 : UInt16)]) rfl rfl rfl rfl tyF87 (i := 0) rfl rfl rfl (QF rfl) rfl) ?_
  refine sAs rfl rfl rfl ?_
  refine Qc (tZ [2, 3] [0] [] rfl rfl rfl rfl ?_)
  obtain rfl := Option.some.inj h
  exact Qm rfl rfl (resA (vs := [.agg #[vU64 (0 : UInt64), vU32 (0 : UInt32), vU16 (0 : UInt16), vU16 (0 : UInt16)], vI (4 : Int)]) rfl ⟨⟨_, 0, _, _, _, rfl, rfl, .inl ⟨tyF87, rfl, rfl⟩⟩, rfl, trivial⟩) [] [] rfl rfl rfl ⟨rfl, rfl, rfl⟩
 ·replace h := br_f hg1 h
  refine Qo (cgb hg1) ?_
  refine Qs (Qe (Qb (sMv rfl rfl rfl ?_)))
  obtain ⟨hc1, h⟩ := Xy h
  refine Qx rfl (OpT_toArr rfl rfl rfl rfl arrF180 (i := 0) rfl hc1 rfl) fun p1 => ?_
  refine Qa rfl (OpT_loadArrD u8S rfl (f := vU8) (fun _ => rfl) rfl rfl rfl rfl tyF180 (i := 1) rfl rfl) ?_
  refine Qx rfl (QK rfl rfl rfl tyZ180) fun b2 => ?_
  obtain ⟨hc2, h⟩ := Xy h
  refine Qa rfl (OpT_storeLAA (f := vU8) (xs := b.take 16) rfl rfl rfl rfl tyF180 (i := 1) rfl hc2 rfl (fun _ => rfl)) ?_
  refine Qc (tZ [2, 4] [0, 1] [] rfl rfl rfl rfl ?_)
  refine Qe (Qb ?_)
  obtain ⟨get1, hx1, h⟩ := ob_e h
  refine Qr rfl (Qw [0, 2] (Xm hx1) [1] [] rfl rfl rfl rfl rfl callee113 rfl rfl rfl rfl rfl) ?_
  rintro _ ⟨_, _, _, ⟨rfl, rfl, rfl⟩, rfl⟩
  obtain ⟨get2, hx2, h⟩ := ob_e h
  refine Qr rfl (Qw [0, 2] (Xm hx2) [1] [] rfl rfl rfl rfl rfl callee113 rfl rfl rfl rfl rfl) ?_
  rintro _ ⟨_, _, _, ⟨rfl, rfl, rfl⟩, rfl⟩
  refine Qa rfl (QU rfl rfl rfl rfl (cnv_u64_u32 (n := get2) Try.underlying27 Try.underlying33)) ?_
  obtain ⟨get3, hx3, h⟩ := ob_e h
  refine Qr rfl (Qw [0, 2] (Xm hx3) [1] [] rfl rfl rfl rfl rfl callee113 rfl rfl rfl rfl rfl) ?_
  rintro _ ⟨_, _, _, ⟨rfl, rfl, rfl⟩, rfl⟩
  refine Qa rfl (QU rfl rfl rfl rfl (Yx (n := get3) Try.underlying27 Try.underlying34)) ?_
  obtain ⟨get4, hx4, h⟩ := ob_e h
  refine Qr rfl (Qw [0, 2] (Xm hx4) [1] [] rfl rfl rfl rfl rfl callee113 rfl rfl rfl rfl rfl) ?_
  rintro _ ⟨_, _, _, ⟨rfl, rfl, rfl⟩, rfl⟩
  refine Qa rfl (QU rfl rfl rfl rfl (Yx (n := get4) Try.underlying27 Try.underlying34)) ?_
  refine Qa rfl (QL (v := .agg #[vU64 get1, vU32 get2.toUInt32, vU16 get3.toUInt16, vU16 get4.toUInt16]) rfl rfl rfl rfl (bldV (by kernel_rfl))) ?_
  refine Qa rfl (Qq (cs' := [vU64 get1, vU32 get2.toUInt32, vU16 get3.toUInt16, vU16 get4.toUInt16]) rfl rfl rfl rfl tyF87 (i := 0) rfl rfl rfl (QF rfl) rfl) ?_
  refine sAs rfl rfl rfl ?_
  refine Qc (tZ [2, 3] [0] [] rfl rfl rfl rfl ?_)
  obtain rfl := Option.some.inj h
  exact Qm rfl rfl (resA (vs := [.agg #[vU64 get1, vU32 get2.toUInt32, vU16 get3.toUInt16, vU16 get4.toUInt16], vI (0 : Int)]) rfl ⟨⟨_, 0, _, _, _, rfl, rfl, .inl ⟨tyF87, rfl, rfl⟩⟩, rfl, trivial⟩) [] [] rfl rfl rfl ⟨rfl, rfl, rfl⟩

set_option maxRecDepth 100000 in
set_option maxHeartbeats 4000000 in
theorem w_serial_Go {pp0 : Pos} {byp1 : Int} {size : Int} {r : (Pos × Int)} (h : serial_Go pp0 byp1 size = some r) :
  Ctr Try.prog 73 #[.agg #[vI pp0.At, vB pp0.Wrap], vI byp1, vI size] [] []
   (fun rv own shr => rv = .tuple #[.agg #[vI r.1.At, vB r.1.Wrap], vI r.2] ∧ own = [] ∧ shr = []) := by
 unfold serial_Go at h
 refine Ctr.mk (args := [.agg #[vI pp0.At, vB pp0.Wrap], vI byp1, vI size]) Try.func73 rfl rfl (fun R0 w0 B => ?_)
 refine Qe (Qb (Qx rfl (Zr rfl rfl rfl rfl) fun b1 => ?_))
 refine Qx rfl (QK rfl rfl rfl tyZ60) fun b2 => ?_
 refine sAs rfl rfl rfl ?_
 refine Qc (tZ [1, 2, 3, 6] [0, 1] [] rfl rfl rfl rfl ?_)
 refine Qe (Qe (Qb (Qa rfl (QA (vs := [vI pp0.At, vB pp0.Wrap]) rfl rfl rfl rfl YK (i := 0) rfl rfl rfl) ?_)))
 refine sMv rfl rfl rfl ?_
 obtain ⟨check1, hx1, h⟩ := ob_e h
 refine Qr rfl (QD (w_serial_Check hx1) [] [] rfl rfl rfl rfl rfl callee48 rfl rfl rfl rfl) ?_
 rintro _ ⟨_, _, _, ⟨rfl, rfl, rfl⟩, rfl⟩
 refine Qa rfl (Qg rfl rfl rfl rfl rfl (QN (a := check1) (b := (0 : Int)))) ?_
 refine sMv rfl rfl rfl ?_
 rcases bC (check1 != (0 : Int)) with hg1 | hg1
 ·replace h := br_t hg1 h
  refine Qf rfl rfl (cgb hg1) rfl rfl ?_
  refine Qf rfl rfl (cgb hg1) rfl rfl ?_
  refine Qa rfl (Qt rfl rfl rfl (cgb hg1) rfl) ?_
  refine sMv rfl rfl rfl ?_
  refine Qf rfl rfl rfl rfl rfl ?_
  refine Qf rfl rfl rfl rfl rfl ?_
  refine Qf rfl rfl rfl rfl rfl ?_
  refine Qa rfl (Qt rfl rfl rfl rfl rfl) ?_
  refine Qc (tZ [1, 2, 3, 6, 20] [0, 1] [] rfl rfl rfl rfl ?_)
  refine Qk rfl ?_
  refine Qe (Qb (Qa rfl (QL (v := .agg #[vI (0 : Int), vB false]) rfl rfl rfl rfl (bldV (by kernel_rfl))) ?_))
  refine Qa rfl (Qq (cs' := [vI (0 : Int), vB false]) rfl rfl rfl rfl YK (i := 1) rfl rfl rfl (QF rfl) rfl) ?_
  refine sAs rfl rfl rfl ?_
  refine Qc (tZ [6, 7] [1] [] rfl rfl rfl rfl ?_)
  obtain rfl := Option.some.inj h
  exact Qm rfl rfl (resA (vs := [.agg #[vI (0 : Int), vB false], vI (2 : Int)]) rfl ⟨⟨_, 0, _, _, _, rfl, rfl, .inl ⟨YK, rfl, rfl⟩⟩, rfl, trivial⟩) [] [] rfl rfl rfl ⟨rfl, rfl, rfl⟩
 ·replace h := br_f hg1 h
  refine Qh rfl rfl (cgb hg1) (Qn rfl rfl rfl rfl) ?_
  rintro _ rfl
  refine Qh rfl rfl (cgb hg1) (Qg rfl rfl rfl rfl rfl (QP (a := byp1) (b := (0 : Int)))) ?_
  rintro _ rfl
  refine Qa rfl (Qu rfl rfl rfl (cgb hg1) rfl) ?_
  refine sMv rfl rfl rfl ?_
  rcases bC (decide (byp1 < (0 : Int))) with hg2 | hg2
  ·replace h := br_t hg2 h
   refine Qf rfl rfl (cgb hg2) rfl rfl ?_
   refine Qf rfl rfl (cgb hg2) rfl rfl ?_
   refine Qf rfl rfl (cgb hg2) rfl rfl ?_
   refine Qa rfl (Qt rfl rfl rfl (cgb hg2) rfl) ?_
   refine Qc (tZ [1, 2, 3, 6, 20] [0, 1] [] rfl rfl rfl rfl ?_)
   refine Qk rfl ?_
   refine Qe (Qb (Qa rfl (QL (v := .agg #[vI (0 : Int), vB false]) rfl rfl rfl rfl (bldV (by kernel_rfl))) ?_))
   refine Qa rfl (Qq (cs' := [vI (0 : Int), vB false]) rfl rfl rfl rfl YK (i := 1) rfl rfl rfl (QF rfl) rfl) ?_
   refine sAs rfl rfl rfl ?_
   refine Qc (tZ [6, 7] [1] [] rfl rfl rfl rfl ?_)
   obtain rfl := Option.some.inj h
   exact Qm rfl rfl (resA (vs := [.agg #[vI (0 : Int), vB false], vI (2 : Int)]) rfl ⟨⟨_, 0, _, _, _, rfl, rfl, .inl ⟨YK, rfl, rfl⟩⟩, rfl, trivial⟩) [] [] rfl rfl rfl ⟨rfl, rfl, rfl⟩
  ·replace h := br_f hg2 h
   refine Qh rfl rfl (cgb hg2) (Qn rfl rfl rfl rfl) ?_
   rintro _ rfl
   refine Qh rfl rfl (cgb hg2) (Qn rfl rfl rfl rfl) ?_
   rintro _ rfl
   refine Qh rfl rfl (cgb hg2) (Qg rfl rfl rfl rfl rfl (XR (a := byp1) (b := size))) ?_
   rintro _ rfl
   refine Qa rfl (Qu rfl rfl rfl (cgb hg2) rfl) ?_
   refine Qc (tZ [1, 2, 3, 6, 20] [0, 1] [] rfl rfl rfl rfl ?_)
   rcases bC (decide (byp1 > size)) with hg3 | hg3
   ·replace h := br_t hg3 h
    refine Qk (cgb hg3) ?_
    refine Qe (Qb (Qa rfl (QL (v := .agg #[vI (0 : Int), vB false]) rfl rfl rfl rfl (bldV (by kernel_rfl))) ?_))
    refine Qa rfl (Qq (cs' := [vI (0 : Int), vB false]) rfl rfl rfl rfl YK (i := 1) rfl rfl rfl (QF rfl) rfl) ?_
    refine sAs rfl rfl rfl ?_
    refine Qc (tZ [6, 7] [1] [] rfl rfl rfl rfl ?_)
    obtain rfl := Option.some.inj h
    exact Qm rfl rfl (resA (vs := [.agg #[vI (0 : Int), vB false], vI (2 : Int)]) rfl ⟨⟨_, 0, _, _, _, rfl, rfl, .inl ⟨YK, rfl, rfl⟩⟩, rfl, trivial⟩) [] [] rfl rfl rfl ⟨rfl, rfl, rfl⟩
   ·replace h := br_f hg3 h
    refine Qo (cgb hg3) ?_
    refine Qs (Qe (Qb (Qa rfl (Qi rfl rfl rfl rfl YW) ?_)))
    refine Qa rfl (Qj rfl rfl rfl rfl tyF3 (i := 0) rfl rfl) ?_
    refine sMv rfl rfl rfl ?_
    refine Qa rfl (Qg rfl rfl rfl rfl rfl (QO (a := pp0.At) (b := byp1))) ?_
    refine Qa rfl (Qi rfl rfl rfl rfl YW) ?_
    refine Qa rfl (Qq (cs' := [vI (wi (pp0.At + byp1)), vB pp0.Wrap]) rfl rfl rfl rfl tyF3 (i := 0) rfl rfl rfl (QF rfl) rfl) ?_
    refine Qc (tZ [2, 3, 6] [0, 1] [] rfl rfl rfl rfl ?_)
    refine Qe (Qe (Qb (Qa rfl (Qi rfl rfl rfl rfl YW) ?_)))
    refine Qa rfl (Qj rfl rfl rfl rfl tyF3 (i := 0) rfl rfl) ?_
    refine sMv rfl rfl rfl ?_
    refine Qa rfl (Qg rfl rfl rfl rfl rfl (Xl (a := wi (pp0.At + byp1)) (b := size))) ?_
    refine Qc (tZ [2, 3, 6, 30] [0, 1] [] rfl rfl rfl rfl ?_)
    rcases bC (decide ((wi (pp0.At + byp1)) ≥ size)) with hg4 | hg4
    ·replace h := br_t hg4 h
     refine Qk (cgb hg4) ?_
     refine Qe (Qb (Qa rfl (Qi rfl rfl rfl rfl YW) ?_))
     refine Qa rfl (Qj rfl rfl rfl rfl tyF3 (i := 0) rfl rfl) ?_
     refine sMv rfl rfl rfl ?_
     refine Qa rfl (Qg rfl rfl rfl rfl rfl (Yy (a := wi (pp0.At + byp1)) (b := size))) ?_
     refine Qa rfl (Qi rfl rfl rfl rfl YW) ?_
     refine Qa rfl (Qq (cs' := [vI (wi ((wi (pp0.At + byp1)) - size)), vB pp0.Wrap]) rfl rfl rfl rfl tyF3 (i := 0) rfl rfl rfl (QF rfl) rfl) ?_
     refine Qc (tZ [3, 6] [0, 1] [] rfl rfl rfl rfl ?_)
     refine Qb (Qa rfl (Qi rfl rfl rfl rfl fldF60x1) ?_)
     refine Qa rfl (Qj rfl rfl rfl rfl tyF4 (i := 0) rfl rfl) ?_
     refine Qa rfl (Xd rfl rfl rfl rfl) ?_
     refine Qa rfl (Qi rfl rfl rfl rfl fldF60x1) ?_
     refine Qa rfl (Qq (cs' := [vI (wi ((wi (pp0.At + byp1)) - size)), vB (!pp0.Wrap)]) rfl rfl rfl rfl tyF4 (i := 0) rfl rfl rfl (QF rfl) rfl) ?_
     refine Qc (tZ [3, 6] [0, 1] [] rfl rfl rfl rfl ?_)
     refine Qe (Qb (Qa rfl (QA (vs := [vI (wi ((wi (pp0.At + byp1)) - size)), vB (!pp0.Wrap)]) rfl rfl rfl rfl YK (i := 0) rfl rfl rfl) ?_))
     refine Qa rfl (Qq (cs' := [vI (wi ((wi (pp0.At + byp1)) - size)), vB (!pp0.Wrap)]) rfl rfl rfl rfl YK (i := 1) rfl rfl rfl (QF rfl) rfl) ?_
     refine sAs rfl rfl rfl ?_
     refine Qc (tZ [6, 7] [1] [] rfl rfl rfl rfl ?_)
     obtain rfl := Option.some.inj h
     exact Qm rfl rfl (resA (vs := [.agg #[vI (wi ((wi (pp0.At + byp1)) - size)), vB (!pp0.Wrap)], vI (0 : Int)]) rfl ⟨⟨_, 0, _, _, _, rfl, rfl, .inl ⟨YK, rfl, rfl⟩⟩, rfl, trivial⟩) [] [] rfl rfl rfl ⟨rfl, rfl, rfl⟩
    ·replace h := br_f hg4 h
     refine Qo (cgb hg4) ?_
     refine Qs (Qe (Qb (Qa rfl (QA (vs := [vI (wi (pp0.At + byp1)), vB pp0.Wrap]) rfl rfl rfl rfl YK (i := 0) rfl rfl rfl) ?_)))
     refine Qa rfl (Qq (cs' := [vI (wi (pp0.At + byp1)), vB pp0.Wrap]) rfl rfl rfl rfl YK (i := 1) rfl rfl rfl (QF rfl) rfl) ?_
     refine sAs rfl rfl rfl ?_
     refine Qc (tZ [6, 7] [1] [] rfl rfl rfl rfl ?_)
     obtain rfl := Option.some.inj h
     exact Qm rfl rfl (resA (vs := [.agg #[vI (wi (pp0.At + byp1)), vB pp0.Wrap], vI (0 : Int)]) rfl ⟨⟨_, 0, _, _, _, rfl, rfl, .inl ⟨YK, rfl, rfl⟩⟩, rfl, trivial⟩) [] [] rfl rfl rfl ⟨rfl, rfl, rfl⟩

set_option maxRecDepth 100000 in
set_option maxHeartbeats 4000000 in
theorem w_walk_within {m : gmem_Mem} {atp1 : UInt64} {np2 : UInt32} {b_m : Nat} {vm1 : Value} {vm2 : Value} {vsm1 : List Value} {r : ((List Seg) × Int)} (h : walk_within m atp1 np2 = some r) :
  Ctr Try.prog 93 #[.pointer (some ⟨b_m, 0, none⟩), vU64 atp1, vU32 np2] [(Ql b_m 113 [vm1, vm2]), (QI u8S true vm2 vsm1 m.b none)] [Fact.sl Qv vm1 m.l]
   (fun rv own shr => ∃ (w1 : Value), rv = .tuple #[w1, vI r.2] ∧ own = [(Ql b_m 113 [vm1, vm2]), (QI u8S true vm2 vsm1 m.b none), (rowS SegS w1 r.1)] ∧ shr = []) := by
 unfold walk_within at h
 refine Ctr.mk (args := [.pointer (some ⟨b_m, 0, none⟩), vU64 atp1, vU32 np2]) Try.func93 rfl rfl (fun R0 w0 B => ?_)
 refine Qe (Qb (sAs rfl rfl rfl ?_))
 refine sAs rfl rfl rfl ?_
 refine Qc (tZ [0, 1, 2, 6] [0, 1] [0] rfl rfl rfl rfl ?_)
 refine Qe (Qb (sMv rfl rfl rfl ?_))
 refine sMv rfl rfl rfl ?_
 refine sMv rfl rfl rfl ?_
 obtain ⟨entrie1, hx1, h⟩ := ob_e h
 refine Qr rfl (Qw [2, 3] (w_walk_entries hx1) [0, 1] [0] rfl rfl rfl rfl rfl callee86 rfl rfl rfl rfl rfl) ?_
 rintro _ ⟨_, _, _, ⟨rfl, rfl, rfl⟩, rfl⟩
 refine sMv rfl rfl rfl ?_
 refine Qa rfl (Qp rfl rfl rfl rfl rfl) ?_
 refine Qa rfl (Qp rfl rfl rfl rfl rfl) ?_
 refine sAs rfl rfl rfl ?_
 refine sAs rfl rfl rfl ?_
 refine Qc (tZ [0, 1, 6, 8, 7] [0, 1] [0] rfl rfl rfl rfl ?_)
 refine Qe (Qe (Qb (sMv rfl rfl rfl ?_)))
 refine sMv rfl rfl rfl ?_
 refine Qc (tZ [0, 1, 6, 7, 21, 22] [0, 1] [0] rfl rfl rfl rfl ?_)
 refine QJ (ZH SegS ?_)
 refine Zx (σ := (List Seg) × Int × Int × Value) [0, 1, 6, 7, 21, 22] [0, 1, 2] [0] (fun s => ⟨[(0, some (.pointer (some ⟨b_m, 0, none⟩))), (1, some (vU64 atp1)), (6, some (s.2.2.2)), (7, some (vI s.2.1)), (21, some (vI entrie1.1)), (22, some (vI s.2.2.1))], [some (Ql b_m 113 [vm1, vm2]), some (QI u8S true vm2 vsm1 m.b none), some (rowS SegS s.2.2.2 s.1)], [Fact.sl Qv vm1 m.l]⟩) (fun nf1 s => XT m atp1 entrie1 nf1 s.1 s.2.1 s.2.2.1 = some r) fuel ([], entrie1.2, (0 : Int), (.slice none 0 0)) h rfl rfl rfl rfl rfl (fun s h => by cases h) ?_
 rintro nf1 ⟨l1, e1, x1, v1⟩ h
 replace h : YN m atp1 entrie1 (XT m atp1 entrie1 nf1) l1 e1 x1 = some r := h
 unfold YN at h
 refine Qe (Qb (Qa rfl (Qg rfl rfl rfl rfl rfl (QP (a := x1) (b := entrie1.1))) ?_))
 refine Qc (Qe ?_)
 rcases bC (decide (x1 < entrie1.1)) with hg1 | hg1
 ·replace h := br_t hg1 h
  refine Qk (cgb hg1) ?_
  refine Qs (Qe (QJ (Qe (Qb (sMv rfl rfl rfl ?_)))))
  refine sAs rfl rfl rfl ?_
  refine Qc (tZ [0, 1, 6, 7, 21, 22, 9] [0, 1, 2] [0] rfl rfl rfl rfl ?_)
  refine Qe (Qb (sMv rfl rfl rfl ?_))
  refine sMv rfl rfl rfl ?_
  refine sMv rfl rfl rfl ?_
  refine Qa rfl (QU rfl rfl rfl rfl (ZY (n := x1) Try.underlying3 Try.underlying27)) ?_
  refine Qa rfl (Qg rfl rfl rfl rfl rfl (Zz (a := (16 : UInt64)) (b := u64 x1))) ?_
  refine Qa rfl (Qg rfl rfl rfl rfl rfl (QQ (a := atp1) (b := (16 : UInt64) * (u64 x1)))) ?_
  obtain ⟨Xe, hx2, h⟩ := ob_e h
  refine Qr rfl (Qw [3, 4, 2, 5] (XP hx2) [0, 1] [0] rfl rfl rfl rfl rfl callee82 rfl rfl rfl rfl rfl) ?_
  rintro _ ⟨_, _, _, ⟨v2, rfl, rfl, rfl⟩, rfl⟩
  refine sMv rfl rfl rfl ?_
  refine Qa rfl (Qp rfl rfl rfl rfl rfl) ?_
  refine Qa rfl (Qp rfl rfl rfl rfl rfl) ?_
  refine sAs rfl rfl rfl ?_
  refine sAs rfl rfl rfl ?_
  refine Qc (tZ [0, 1, 6, 7, 21, 22, 10] [0, 1, 2, 3] [0] rfl rfl rfl rfl ?_)
  refine Qe (Qb (sMv rfl rfl rfl ?_))
  obtain ⟨readpa1, hx3, h⟩ := ob_e h
  refine Qr rfl (ZU [3] [0, 1, 2, 3] (w_desc_ReadPacked hx3) [] rfl rfl rfl rfl rfl callee92 rfl rfl rfl rfl rfl rfl (Zu (Yj 3 rfl rfl) Ye) (by rintro _ _ _ ⟨rfl, rfl, rfl⟩; exact ⟨rfl, Ko⟩)) ?_
  rintro _ ⟨_, _, _, ⟨rfl, rfl, rfl⟩, rfl⟩
  refine sMv rfl rfl rfl ?_
  refine Qa rfl (Qp rfl rfl rfl rfl rfl) ?_
  refine Qa rfl (Qp rfl rfl rfl rfl rfl) ?_
  refine Qx rfl (QK rfl rfl rfl tyZ87) fun b1 => ?_
  refine Qa rfl (Qq (cs' := [vU64 readpa1.1.Addr, vU32 readpa1.1.Len, vU16 readpa1.1.ID, vU16 readpa1.1.Flags]) rfl rfl rfl rfl tyF87 (i := 4) rfl rfl rfl (QF rfl) rfl) ?_
  refine sAs rfl rfl rfl ?_
  refine Qc (tZ [0, 1, 6, 7, 21, 22, 12] [0, 1, 2, 4] [0] rfl rfl rfl rfl ?_)
  refine Qe (Qe (Qb (Qa rfl (Qi rfl rfl rfl rfl YI) ?_)))
  refine Qa rfl (Qj rfl rfl rfl rfl Yn (i := 3) rfl rfl) ?_
  refine Qa rfl (Qg rfl rfl rfl rfl rfl (Zp (a := readpa1.1.Flags) (b := (4 : UInt16)))) ?_
  refine Qa rfl (Qg rfl rfl rfl rfl rfl (ZS (a := readpa1.1.Flags &&& (4 : UInt16)) (b := (0 : UInt16)))) ?_
  refine Qc (tZ [0, 1, 6, 7, 21, 22, 12, 43] [0, 1, 2, 3] [0] rfl rfl rfl rfl ?_)
  rcases bC ((readpa1.1.Flags &&& (4 : UInt16)) != (0 : UInt16)) with hg2 | hg2
  ·replace h := br_t hg2 h
   refine Qk (cgb hg2) ?_
   refine Qe (Qb (sAs rfl rfl rfl ?_))
   refine sAs rfl rfl rfl ?_
   refine Qc (tZ [6, 7] [0, 1] [0] rfl rfl rfl rfl ?_)
   refine ZH SegS ?_
   obtain rfl := Option.some.inj h
   exact Qm rfl rfl (resA (vs := [.slice none 0 0, vI (4 : Int)]) rfl ⟨rfl, rfl, trivial⟩) [0, 1, 2] [] rfl rfl rfl ⟨(.slice none 0 0), rfl, rfl, rfl⟩
  ·replace h := br_f hg2 h
   refine Qo (cgb hg2) ?_
   refine Qs (Qb (sMv rfl rfl rfl ?_))
   refine Qa rfl (Qi rfl rfl rfl rfl fldF87x0) ?_
   refine Qa rfl (Qj rfl rfl rfl rfl QV (i := 3) rfl rfl) ?_
   refine Qa rfl (Qi rfl rfl rfl rfl fldF87x1) ?_
   refine Qa rfl (Qj rfl rfl rfl rfl tyF33 (i := 3) rfl rfl) ?_
   refine Qa rfl (Qi rfl rfl rfl rfl YI) ?_
   refine Qa rfl (Qj rfl rfl rfl rfl Yn (i := 3) rfl rfl) ?_
   obtain ⟨made1, hx4, h⟩ := ob_e h
   refine Qr rfl (QD (w_walk_made hx4) [] [] rfl rfl rfl rfl rfl callee87 rfl rfl rfl rfl) ?_
   rintro _ ⟨_, _, _, ⟨rfl, rfl, rfl⟩, rfl⟩
   refine Qx rfl (QW (S := SegS) (xs := [made1]) (css := [[vU64 made1.At, vU32 made1.Len, vB made1.Write]]) (cs := [vU64 made1.At, vU32 made1.Len, vB made1.Write]) (e := 46) rfl rfl rfl rfl (bldF slF41 (by decide) (by kernel_rfl)) rfl rfl rfl rfl (ZF (S := SegS) (xs := [made1]) (css := [[vU64 made1.At, vU32 made1.Len, vB made1.Write]]) rfl rfl)) fun v3 => ?_
   obtain ⟨hc1, h⟩ := Xy h
   refine Qx rfl (YB (S := SegS) rfl rfl rfl rfl rfl rfl slF41 (i := 2) (j := 4) rfl rfl hc1) fun v4 => ?_
   refine sAs rfl rfl rfl ?_
   refine Qc (tZ [0, 1, 6, 7, 21, 22] [0, 1, 2] [0] rfl rfl rfl rfl ?_)
   refine ZD (Qb (Qa rfl (Qg rfl rfl rfl rfl rfl (QO (a := x1) (b := (1 : Int)))) ?_))
   refine sMv rfl rfl rfl ?_
   refine Qc (tZ [0, 1, 6, 7, 21, 22] [0, 1, 2] [0] rfl rfl rfl rfl ?_)
   exact Ze (l1 ++ [made1], e1, wi (x1 + (1 : Int)), v4) h [0, 1, 6, 7, 21, 22] [0, 1, 2] [0] rfl rfl rfl rfl rfl
 ·replace h := br_f hg1 h
  refine Qo (cgb hg1) ?_
  refine ZA _ rfl ?_
  refine Qe (Qb (sMv rfl rfl rfl ?_))
  refine sMv rfl rfl rfl ?_
  refine sAs rfl rfl rfl ?_
  refine sAs rfl rfl rfl ?_
  refine Qc (tZ [6, 7] [0, 1, 2] [0] rfl rfl rfl rfl ?_)
  obtain rfl := Option.some.inj h
  exact Qm rfl rfl (resA (vs := [v1, vI e1]) rfl ⟨rfl, rfl, trivial⟩) [0, 1, 2] [] rfl rfl rfl ⟨v1, rfl, rfl, rfl⟩

set_option maxRecDepth 100000 in
set_option maxHeartbeats 4000000 in
theorem w_walk_packed {m : gmem_Mem} {rp1 : Rings} {pp2 : Pos} {table : Bool} {b_m : Nat} {vm1 : Value} {vm2 : Value} {vsm1 : List Value} {r : (Taken × Int)} (h : walk_packed m rp1 pp2 table = some r) :
  Ctr Try.prog 49 #[.pointer (some ⟨b_m, 0, none⟩), .agg #[vB rp1.Packed, vI rp1.Size, vU64 rp1.Desc, vU64 rp1.Driver, vU64 rp1.Device], .agg #[vI pp2.At, vB pp2.Wrap], vB table] [(Ql b_m 113 [vm1, vm2]), (QI u8S true vm2 vsm1 m.b none)] [Fact.sl Qv vm1 m.l]
   (fun rv own shr => ∃ (w1 : Value), rv = .tuple #[.agg #[vI r.1.ID, vI r.1.Count, w1], vI r.2] ∧ own = [(Ql b_m 113 [vm1, vm2]), (QI u8S true vm2 vsm1 m.b none)] ∧ shr = [Fact.sl SegS w1 r.1.Segs]) := by
 unfold walk_packed at h
 refine Ctr.mk (args := [.pointer (some ⟨b_m, 0, none⟩), .agg #[vB rp1.Packed, vI rp1.Size, vU64 rp1.Desc, vU64 rp1.Driver, vU64 rp1.Device], .agg #[vI pp2.At, vB pp2.Wrap], vB table]) Try.func49 rfl rfl (fun R0 w0 B => ?_)
 refine Qe (Qb (Qx rfl (Zr rfl rfl rfl rfl) fun b1 => ?_))
 refine Qx rfl (Zr rfl rfl rfl rfl) fun b2 => ?_
 refine Qx rfl (QK rfl rfl rfl tyZ56) fun b3 => ?_
 refine sAs rfl rfl rfl ?_
 refine Qc (tZ [0, 3, 5, 6, 8] [0, 1, 2, 3, 4] [0] rfl rfl rfl rfl ?_)
 refine Qe (QJ (ZH SegS ?_))
 refine Zx (σ := Rings × Pos × Int × Int × (List Seg) × Value) [0, 3, 5, 6, 8] [0, 1, 2, 3, 4, 5] [0] (fun s => ⟨[(0, some (.pointer (some ⟨b_m, 0, none⟩))), (3, some (vB table)), (5, some (.pointer (some ⟨b1, 0, none⟩))), (6, some (.pointer (some ⟨b2, 0, none⟩))), (8, some (.pointer (some ⟨b3, 0, none⟩)))], [some (Ql b_m 113 [vm1, vm2]), some (QI u8S true vm2 vsm1 m.b none), some (Ql b1 29 [vB s.1.Packed, vI s.1.Size, vU64 s.1.Desc, vU64 s.1.Driver, vU64 s.1.Device]), some (Ql b2 60 [vI s.2.1.At, vB s.2.1.Wrap]), some (Ql b3 56 [vI s.2.2.1, vI s.2.2.2.1, s.2.2.2.2.2]), some (rowS SegS s.2.2.2.2.2 s.2.2.2.2.1)], [Fact.sl Qv vm1 m.l]⟩) (fun nf1 s => XU m table nf1 s.1 s.2.1 s.2.2.1 s.2.2.2.1 s.2.2.2.2.1 = some r) fuel (rp1, pp2, (0 : Int), (0 : Int), ([] : List Seg), .slice none 0 0) h rfl rfl rfl rfl rfl (fun s h => by cases h) ?_
 rintro nf1 ⟨m1, m2, ID1, Count1, Segs1, v1⟩ h
 replace h : YO m table (XU m table nf1) m1 m2 ID1 Count1 Segs1 = some r := h
 unfold YO at h
 refine Qe (Qe (Qb (Qa rfl (Qi rfl rfl rfl rfl fldF56x1) ?_)))
 refine Qa rfl (Qj rfl rfl rfl rfl tyF3 (i := 4) rfl rfl) ?_
 refine Qa rfl (Qi rfl rfl rfl rfl XH) ?_
 refine Qa rfl (Qj rfl rfl rfl rfl tyF3 (i := 2) rfl rfl) ?_
 refine Qa rfl (Qg rfl rfl rfl rfl rfl (QP (a := Count1) (b := m1.Size))) ?_
 refine Qc (tZ [0, 3, 5, 6, 8, 18] [0, 1, 2, 3, 4, 5] [0] rfl rfl rfl rfl ?_)
 rcases bC (decide (Count1 < m1.Size)) with hg1 | hg1
 ·replace h := br_t hg1 h
  refine Qk (cgb hg1) ?_
  refine Qs (QJ (Qe (Qb (sMv rfl rfl rfl ?_))))
  refine Qa rfl (Qi rfl rfl rfl rfl Ky) ?_
  refine Qa rfl (Qj rfl rfl rfl rfl QV (i := 2) rfl rfl) ?_
  refine Qa rfl (Qi rfl rfl rfl rfl YW) ?_
  refine Qa rfl (Qj rfl rfl rfl rfl tyF3 (i := 3) rfl rfl) ?_
  refine Qa rfl (QU rfl rfl rfl rfl (ZY (n := m2.At) Try.underlying3 Try.underlying27)) ?_
  refine Qa rfl (Qg rfl rfl rfl rfl rfl (Zz (a := (16 : UInt64)) (b := u64 m2.At))) ?_
  refine Qa rfl (Qg rfl rfl rfl rfl rfl (QQ (a := m1.Desc) (b := (16 : UInt64) * (u64 m2.At)))) ?_
  obtain ⟨Xe, hx1, h⟩ := ob_e h
  refine Qr rfl (Qw [6, 7, 2, 3, 4, 5, 8] (XP hx1) [0, 1] [0] rfl rfl rfl rfl rfl callee82 rfl rfl rfl rfl rfl) ?_
  rintro _ ⟨_, _, _, ⟨v2, rfl, rfl, rfl⟩, rfl⟩
  refine sMv rfl rfl rfl ?_
  refine Qa rfl (Qp rfl rfl rfl rfl rfl) ?_
  refine Qa rfl (Qp rfl rfl rfl rfl rfl) ?_
  refine sAs rfl rfl rfl ?_
  refine sAs rfl rfl rfl ?_
  refine Qc (tZ [0, 3, 5, 6, 8, 10, 11] [0, 1, 2, 3, 4, 5, 6] [0] rfl rfl rfl rfl ?_)
  refine Qe (Qe (Qb (sMv rfl rfl rfl ?_)))
  refine Qa rfl (Qg rfl rfl rfl rfl rfl (QN (a := Xe.2) (b := (0 : Int)))) ?_
  refine Qc (tZ [0, 3, 5, 6, 8, 10, 32] [0, 1, 2, 3, 4, 5, 6] [0] rfl rfl rfl rfl ?_)
  rcases bC (Xe.2 != (0 : Int)) with hg2 | hg2
  ·replace h := br_t hg2 h
   refine Qk (cgb hg2) ?_
   refine Qe (Qb (Qa rfl (QA (vs := [vI ID1, vI Count1, v1]) rfl rfl rfl rfl Xx (i := 4) rfl rfl rfl) ?_))
   refine Qa rfl (Xj (fun z0 => [vI ID1, vI Count1, z0]) (cs' := [vI ID1, vI Count1, v1]) rfl rfl rfl rfl Xx (i := 4) rfl (Kx (i := 5) rfl) (fun _ _ _ => rfl) rfl rfl rfl) ?_
   refine sAs rfl rfl rfl ?_
   refine Qc (tZ [8, 9] [0, 1, 4, 5] [0] rfl rfl rfl rfl ?_)
   refine Tk_retire (i := 3) rfl ?_
   obtain rfl := Option.some.inj h
   exact Qm rfl rfl (resA (vs := [.agg #[vI ID1, vI Count1, v1], vI (5 : Int)]) rfl ⟨⟨_, 2, _, _, _, rfl, rfl, .inl ⟨Xx, rfl, rfl⟩⟩, rfl, trivial⟩) [0, 1] [1] rfl rfl rfl ⟨v1, rfl, rfl, rfl⟩
  ·replace h := br_f hg2 h
   refine Qo (cgb hg2) ?_
   refine Qs (Qe (Qb (sMv rfl rfl rfl ?_)))
   obtain ⟨readpa1, hx2, h⟩ := ob_e h
   refine Qr rfl (ZU [6] [0, 1, 2, 3, 4, 5, 6] (w_desc_ReadPacked hx2) [] rfl rfl rfl rfl rfl callee92 rfl rfl rfl rfl rfl rfl (Zu (Yj 6 rfl rfl) Ye) (by rintro _ _ _ ⟨rfl, rfl, rfl⟩; exact ⟨rfl, Ko⟩)) ?_
   rintro _ ⟨_, _, _, ⟨rfl, rfl, rfl⟩, rfl⟩
   refine sMv rfl rfl rfl ?_
   refine Qa rfl (Qp rfl rfl rfl rfl rfl) ?_
   refine Qa rfl (Qp rfl rfl rfl rfl rfl) ?_
   refine Qx rfl (QK rfl rfl rfl tyZ87) fun b4 => ?_
   refine Qa rfl (Qq (cs' := [vU64 readpa1.1.Addr, vU32 readpa1.1.Len, vU16 readpa1.1.ID, vU16 readpa1.1.Flags]) rfl rfl rfl rfl tyF87 (i := 7) rfl rfl rfl (QF rfl) rfl) ?_
   refine sAs rfl rfl rfl ?_
   refine Qc (tZ [0, 3, 5, 6, 8, 12] [0, 1, 2, 3, 4, 5, 7] [0] rfl rfl rfl rfl ?_)
   refine Qe (Qb (Qa rfl (Qi rfl rfl rfl rfl fldF87x2) ?_))
   refine Qa rfl (Qj rfl rfl rfl rfl Yn (i := 6) rfl rfl) ?_
   refine Qa rfl (QU rfl rfl rfl rfl (cnv_u16_i (n := readpa1.1.ID) Try.underlying34 Try.underlying3)) ?_
   refine Qa rfl (Qi rfl rfl rfl rfl fldF56x0) ?_
   refine Qa rfl (Qq (cs' := [vI (i16 readpa1.1.ID), vI Count1, v1]) rfl rfl rfl rfl tyF3 (i := 4) rfl rfl rfl (QF rfl) rfl) ?_
   refine Qc (tZ [0, 3, 5, 6, 8, 12] [0, 1, 2, 3, 4, 5, 6] [0] rfl rfl rfl rfl ?_)
   refine Qe (Qb (Qa rfl (Qi rfl rfl rfl rfl fldF56x1) ?_))
   refine Qa rfl (Qj rfl rfl rfl rfl tyF3 (i := 4) rfl rfl) ?_
   refine Qa rfl (Qg rfl rfl rfl rfl rfl (QO (a := Count1) (b := (1 : Int)))) ?_
   refine Qa rfl (Qi rfl rfl rfl rfl fldF56x1) ?_
   refine Qa rfl (Qq (cs' := [vI (i16 readpa1.1.ID), vI (wi (Count1 + (1 : Int))), v1]) rfl rfl rfl rfl tyF3 (i := 4) rfl rfl rfl (QF rfl) rfl) ?_
   refine Qc (tZ [0, 3, 5, 6, 8, 12] [0, 1, 2, 3, 4, 5, 6] [0] rfl rfl rfl rfl ?_)
   refine Qe (Qb (Qa rfl (QA (vs := [vI m2.At, vB m2.Wrap]) rfl rfl rfl rfl YK (i := 3) rfl rfl rfl) ?_))
   refine Qa rfl (Qi rfl rfl rfl rfl XH) ?_
   refine Qa rfl (Qj rfl rfl rfl rfl tyF3 (i := 2) rfl rfl) ?_
   obtain ⟨go1, hx3, h⟩ := ob_e h
   refine Qr rfl (QD (w_serial_Go hx3) [] [] rfl rfl rfl rfl rfl callee73 rfl rfl rfl rfl) ?_
   rintro _ ⟨_, _, _, ⟨rfl, rfl, rfl⟩, rfl⟩
   refine sMv rfl rfl rfl ?_
   refine Qa rfl (Qp rfl rfl rfl rfl rfl) ?_
   refine Qa rfl (Qp rfl rfl rfl rfl rfl) ?_
   refine Qa rfl (Qq (cs' := [vI go1.1.At, vB go1.1.Wrap]) rfl rfl rfl rfl YK (i := 3) rfl rfl rfl (QF rfl) rfl) ?_
   refine Qc (tZ [0, 3, 5, 6, 8, 12] [0, 1, 2, 3, 4, 5, 6] [0] rfl rfl rfl rfl ?_)
   refine Qe (Qe (Qb (Qa rfl (Qi rfl rfl rfl rfl YI) ?_)))
   refine Qa rfl (Qj rfl rfl rfl rfl Yn (i := 6) rfl rfl) ?_
   refine Qa rfl (Qg rfl rfl rfl rfl rfl (Zp (a := readpa1.1.Flags) (b := (4 : UInt16)))) ?_
   refine Qa rfl (Qg rfl rfl rfl rfl rfl (ZS (a := readpa1.1.Flags &&& (4 : UInt16)) (b := (0 : UInt16)))) ?_
   refine Qc (tZ [0, 3, 5, 6, 8, 12, 57] [0, 1, 2, 3, 4, 5, 6] [0] rfl rfl rfl rfl ?_)
   rcases bC ((readpa1.1.Flags &&& (4 : UInt16)) != (0 : UInt16)) with hg3 | hg3
   ·replace h := br_t hg3 h
    refine Qk (cgb hg3) ?_
    refine Qe (Qe (Qb (sMv rfl rfl rfl ?_)))
    refine Qa rfl (Xd rfl rfl rfl rfl) ?_
    refine sMv rfl rfl rfl ?_
    rcases bC ((!table)) with hg4 | hg4
    ·replace h := br_t hg4 h
     refine Qf rfl rfl (cgb hg4) rfl rfl ?_
     refine Qf rfl rfl (cgb hg4) rfl rfl ?_
     refine Qf rfl rfl (cgb hg4) rfl rfl ?_
     refine Qa rfl (Qt rfl rfl rfl (cgb hg4) rfl) ?_
     refine sMv rfl rfl rfl ?_
     refine Qf rfl rfl rfl rfl rfl ?_
     refine Qf rfl rfl rfl rfl rfl ?_
     refine Qf rfl rfl rfl rfl rfl ?_
     refine Qf rfl rfl rfl rfl rfl ?_
     refine Qa rfl (Qt rfl rfl rfl rfl rfl) ?_
     refine Qc (tZ [0, 8, 12, 70] [0, 1, 4, 5, 6] [0] rfl rfl rfl rfl ?_)
     refine Qk rfl ?_
     refine Qe (Qb (Qa rfl (QA (vs := [vI (i16 readpa1.1.ID), vI (wi (Count1 + (1 : Int))), v1]) rfl rfl rfl rfl Xx (i := 2) rfl rfl rfl) ?_))
     refine Qa rfl (Xj (fun z0 => [vI (i16 readpa1.1.ID), vI (wi (Count1 + (1 : Int))), z0]) (cs' := [vI (i16 readpa1.1.ID), vI (wi (Count1 + (1 : Int))), v1]) rfl rfl rfl rfl Xx (i := 2) rfl (Kx (i := 3) rfl) (fun _ _ _ => rfl) rfl rfl rfl) ?_
     refine sAs rfl rfl rfl ?_
     refine Qc (tZ [8, 9] [0, 1, 2, 3] [0] rfl rfl rfl rfl ?_)
     refine Tk_retire (i := 3) rfl ?_
     obtain rfl := Option.some.inj h
     exact Qm rfl rfl (resA (vs := [.agg #[vI (i16 readpa1.1.ID), vI (wi (Count1 + (1 : Int))), v1], vI (4 : Int)]) rfl ⟨⟨_, 2, _, _, _, rfl, rfl, .inl ⟨Xx, rfl, rfl⟩⟩, rfl, trivial⟩) [0, 1] [1] rfl rfl rfl ⟨v1, rfl, rfl, rfl⟩
    ·replace h := br_f hg4 h
     refine Qh rfl rfl (cgb hg4) (Qi rfl rfl rfl rfl fldF56x1) ?_
     rintro _ rfl
     refine Qh rfl rfl (cgb hg4) (Qj rfl rfl rfl rfl tyF3 (i := 4) rfl rfl) ?_
     rintro _ rfl
     refine Qh rfl rfl (cgb hg4) (Qg rfl rfl rfl rfl rfl (XR (a := wi (Count1 + (1 : Int))) (b := (1 : Int)))) ?_
     rintro _ rfl
     refine Qa rfl (Qu rfl rfl rfl (cgb hg4) rfl) ?_
     refine sMv rfl rfl rfl ?_
     rcases bC (decide ((wi (Count1 + (1 : Int))) > (1 : Int))) with hg5 | hg5
     ·replace h := br_t hg5 h
      refine Qf rfl rfl (cgb hg5) rfl rfl ?_
      refine Qf rfl rfl (cgb hg5) rfl rfl ?_
      refine Qf rfl rfl (cgb hg5) rfl rfl ?_
      refine Qf rfl rfl (cgb hg5) rfl rfl ?_
      refine Qa rfl (Qt rfl rfl rfl (cgb hg5) rfl) ?_
      refine Qc (tZ [0, 8, 12, 70] [0, 1, 4, 5, 6] [0] rfl rfl rfl rfl ?_)
      refine Qk rfl ?_
      refine Qe (Qb (Qa rfl (QA (vs := [vI (i16 readpa1.1.ID), vI (wi (Count1 + (1 : Int))), v1]) rfl rfl rfl rfl Xx (i := 2) rfl rfl rfl) ?_))
      refine Qa rfl (Xj (fun z0 => [vI (i16 readpa1.1.ID), vI (wi (Count1 + (1 : Int))), z0]) (cs' := [vI (i16 readpa1.1.ID), vI (wi (Count1 + (1 : Int))), v1]) rfl rfl rfl rfl Xx (i := 2) rfl (Kx (i := 3) rfl) (fun _ _ _ => rfl) rfl rfl rfl) ?_
      refine sAs rfl rfl rfl ?_
      refine Qc (tZ [8, 9] [0, 1, 2, 3] [0] rfl rfl rfl rfl ?_)
      refine Tk_retire (i := 3) rfl ?_
      obtain rfl := Option.some.inj h
      exact Qm rfl rfl (resA (vs := [.agg #[vI (i16 readpa1.1.ID), vI (wi (Count1 + (1 : Int))), v1], vI (4 : Int)]) rfl ⟨⟨_, 2, _, _, _, rfl, rfl, .inl ⟨Xx, rfl, rfl⟩⟩, rfl, trivial⟩) [0, 1] [1] rfl rfl rfl ⟨v1, rfl, rfl, rfl⟩
     ·replace h := br_f hg5 h
      refine Qh rfl rfl (cgb hg5) (Qi rfl rfl rfl rfl YI) ?_
      rintro _ rfl
      refine Qh rfl rfl (cgb hg5) (Qj rfl rfl rfl rfl Yn (i := 6) rfl rfl) ?_
      rintro _ rfl
      refine Qh rfl rfl (cgb hg5) (Qg rfl rfl rfl rfl rfl (Zp (a := readpa1.1.Flags) (b := (1 : UInt16)))) ?_
      rintro _ rfl
      refine Qh rfl rfl (cgb hg5) (Qg rfl rfl rfl rfl rfl (ZS (a := readpa1.1.Flags &&& (1 : UInt16)) (b := (0 : UInt16)))) ?_
      rintro _ rfl
      refine Qa rfl (Qu rfl rfl rfl (cgb hg5) rfl) ?_
      refine Qc (tZ [0, 8, 12, 70] [0, 1, 4, 5, 6] [0] rfl rfl rfl rfl ?_)
      rcases bC ((readpa1.1.Flags &&& (1 : UInt16)) != (0 : UInt16)) with hg6 | hg6
      ·replace h := br_t hg6 h
       refine Qk (cgb hg6) ?_
       refine Qe (Qb (Qa rfl (QA (vs := [vI (i16 readpa1.1.ID), vI (wi (Count1 + (1 : Int))), v1]) rfl rfl rfl rfl Xx (i := 2) rfl rfl rfl) ?_))
       refine Qa rfl (Xj (fun z0 => [vI (i16 readpa1.1.ID), vI (wi (Count1 + (1 : Int))), z0]) (cs' := [vI (i16 readpa1.1.ID), vI (wi (Count1 + (1 : Int))), v1]) rfl rfl rfl rfl Xx (i := 2) rfl (Kx (i := 3) rfl) (fun _ _ _ => rfl) rfl rfl rfl) ?_
       refine sAs rfl rfl rfl ?_
       refine Qc (tZ [8, 9] [0, 1, 2, 3] [0] rfl rfl rfl rfl ?_)
       refine Tk_retire (i := 3) rfl ?_
       obtain rfl := Option.some.inj h
       exact Qm rfl rfl (resA (vs := [.agg #[vI (i16 readpa1.1.ID), vI (wi (Count1 + (1 : Int))), v1], vI (4 : Int)]) rfl ⟨⟨_, 2, _, _, _, rfl, rfl, .inl ⟨Xx, rfl, rfl⟩⟩, rfl, trivial⟩) [0, 1] [1] rfl rfl rfl ⟨v1, rfl, rfl, rfl⟩
      ·replace h := br_f hg6 h
       refine Qo (cgb hg6) ?_
       refine Qs (Qe (Qb (sMv rfl rfl rfl ?_)))
       refine Qa rfl (Qi rfl rfl rfl rfl fldF87x0) ?_
       refine Qa rfl (Qj rfl rfl rfl rfl QV (i := 4) rfl rfl) ?_
       refine Qa rfl (Qi rfl rfl rfl rfl fldF87x1) ?_
       refine Qa rfl (Qj rfl rfl rfl rfl tyF33 (i := 4) rfl rfl) ?_
       obtain ⟨within1, hx4, h⟩ := ob_e h
       refine Qr rfl (Qw [5, 6, 2, 3, 4, 7] (w_walk_within hx4) [0, 1] [0] rfl rfl rfl rfl rfl callee93 rfl rfl rfl rfl rfl) ?_
       rintro _ ⟨_, _, _, ⟨v3, rfl, rfl, rfl⟩, rfl⟩
       refine sMv rfl rfl rfl ?_
       refine Qa rfl (Qp rfl rfl rfl rfl rfl) ?_
       refine Qa rfl (Qp rfl rfl rfl rfl rfl) ?_
       refine Qa rfl (Qi rfl rfl rfl rfl fldF56x2) ?_
       refine Qa rfl (YJ (cs' := [vI (i16 readpa1.1.ID), vI (wi (Count1 + (1 : Int))), v3]) rfl rfl rfl rfl tyF41 (i := 2) rfl (Kx (i := 5) rfl) rfl rfl) ?_
       refine sAs rfl rfl rfl ?_
       refine Qc (tZ [8, 9] [0, 1, 2, 5] [0] rfl rfl rfl rfl ?_)
       refine Qe (Qb (Qa rfl (QA (vs := [vI (i16 readpa1.1.ID), vI (wi (Count1 + (1 : Int))), v3]) rfl rfl rfl rfl Xx (i := 2) rfl rfl rfl) ?_))
       refine sMv rfl rfl rfl ?_
       refine Qa rfl (Xj (fun z0 => [vI (i16 readpa1.1.ID), vI (wi (Count1 + (1 : Int))), z0]) (cs' := [vI (i16 readpa1.1.ID), vI (wi (Count1 + (1 : Int))), v3]) rfl rfl rfl rfl Xx (i := 2) rfl (Kx (i := 3) rfl) (fun _ _ _ => rfl) rfl rfl rfl) ?_
       refine sAs rfl rfl rfl ?_
       refine Qc (tZ [8, 9] [0, 1, 2, 3] [0] rfl rfl rfl rfl ?_)
       refine Tk_retire (i := 3) rfl ?_
       obtain rfl := Option.some.inj h
       exact Qm rfl rfl (resA (vs := [.agg #[vI (i16 readpa1.1.ID), vI (wi (Count1 + (1 : Int))), v3], vI within1.2]) rfl ⟨⟨_, 2, _, _, _, rfl, rfl, .inl ⟨Xx, rfl, rfl⟩⟩, rfl, trivial⟩) [0, 1] [1] rfl rfl rfl ⟨v3, rfl, rfl, rfl⟩
   ·replace h := br_f hg3 h
    refine Qo (cgb hg3) ?_
    refine Qs (Qe (Zm (by kernel_rfl) ?_))
    refine Yz [0, 1, 0, 4, 0, 16, 0, 64, 252, 508, 1023, 2047, 4095] (by kernel_rfl) fun htb => ?_
    refine aZ [0, 3, 5, 6, 8, 12] [0, 1, 2, 3, 4, 5, 6] [0] rfl rfl rfl rfl ?_
    obtain ⟨made1, hx5, h⟩ := ob_e h
    refine Zi (lo := 0) (hi := 10) htb rfl rfl (by kernel_rfl) (fun c L a w => ∃ (v4 : Value), Sat c ⟨[(0, some (.pointer (some ⟨b_m, 0, none⟩))), (3, some (vB table)), (5, some (.pointer (some ⟨b1, 0, none⟩))), (6, some (.pointer (some ⟨b2, 0, none⟩))), (8, some (.pointer (some ⟨b3, 0, none⟩))), (12, some (.pointer (some ⟨b4, 0, none⟩))), (84, bif L 0 then some (.pointer (some ⟨b3, 2, none⟩)) else none), (85, bif L 1 then some (v1) else none), (86, bif L 2 then some (.pointer (some ⟨b4, 0, none⟩)) else none), (87, bif L 3 then some (vU64 readpa1.1.Addr) else none), (88, bif L 4 then some (.pointer (some ⟨b4, 1, none⟩)) else none), (89, bif L 5 then some (vU32 readpa1.1.Len) else none), (90, bif L 6 then some (.pointer (some ⟨b4, 3, none⟩)) else none), (91, bif L 7 then some (vU16 readpa1.1.Flags) else none), (92, bif L 8 then some (.agg #[vU64 made1.At, vU32 made1.Len, vB made1.Write]) else none), (93, bif L 9 then some (v4) else none)], [(some (Ql b_m 113 [vm1, vm2]) : Option Res), (some (QI u8S true vm2 vsm1 m.b none) : Option Res), (some (Ql b1 29 [vB m1.Packed, vI m1.Size, vU64 m1.Desc, vU64 m1.Driver, vU64 m1.Device]) : Option Res), (some (Ql b2 60 [vI go1.1.At, vB go1.1.Wrap]) : Option Res), (some (Ql b3 56 [vI (i16 readpa1.1.ID), vI (wi (Count1 + (1 : Int))), v1]) : Option Res), (some (rowS SegS v1 Segs1) : Option Res), (some (Ql b4 87 [vU64 readpa1.1.Addr, vU32 readpa1.1.Len, vU16 readpa1.1.ID, vU16 readpa1.1.Flags]) : Option Res), (bif L 9 then some (rowS SegS v4 [made1]) else none : Option Res)], [Fact.sl Qv vm1 m.l]⟩ a w) [([], [1]), ([0], []), ([], [3, 8, 9]), ([2], [8, 9]), ([], [5, 8, 9]), ([4], [8, 9]), ([], [7, 8, 9]), ([6], [8, 9]), ([2, 3, 4, 5, 6, 7], [9]), ([2, 3, 4, 5, 6, 7, 8], [])] rfl (by kernel_rfl) ?_ (Qd ?_ (Qd ?_ (Qd ?_ (Qd ?_ (Qd ?_ (Qd ?_ (Qd ?_ (Qd ?_ (Qd ?_ (Qd ?_ (QC))))))))))) ?_
    ·intro a w hs
     exact ⟨undef, hs.startF [84, 85, 86, 87, 88, 89, 90, 91, 92, 93] [0, 1, 2, 3, 4, 5, 6, 7] [0] rfl rfl rfl rfl⟩
    ·intro L a w hv K Q hK
     obtain ⟨v4, hs⟩ := hv
     exact wGo rfl rfl hs (Qi rfl rfl rfl rfl fldF56x2) fun a w hs => hK a w ⟨v4, pF hs 6 [0, 1, 2, 3, 4, 5, 6, 7] [0] rfl⟩
    ·intro L a w hv K Q hK
     obtain ⟨v4, hs⟩ := hv
     exact wGo rfl rfl hs (Qj rfl rfl rfl rfl tyF41 (i := 4) rfl rfl) fun a w hs => hK a w ⟨v4, pF hs 7 [0, 1, 2, 3, 4, 5, 6, 7] [0] rfl⟩
    ·intro L a w hv K Q hK
     obtain ⟨v4, hs⟩ := hv
     exact wGo rfl rfl hs (Qi rfl rfl rfl rfl fldF87x0) fun a w hs => hK a w ⟨v4, pF hs 8 [0, 1, 2, 3, 4, 5, 6, 7] [0] rfl⟩
    ·intro L a w hv K Q hK
     obtain ⟨v4, hs⟩ := hv
     exact wGo rfl rfl hs (Qj rfl rfl rfl rfl QV (i := 6) rfl rfl) fun a w hs => hK a w ⟨v4, pF hs 9 [0, 1, 2, 3, 4, 5, 6, 7] [0] rfl⟩
    ·intro L a w hv K Q hK
     obtain ⟨v4, hs⟩ := hv
     exact wGo rfl rfl hs (Qi rfl rfl rfl rfl fldF87x1) fun a w hs => hK a w ⟨v4, pF hs 10 [0, 1, 2, 3, 4, 5, 6, 7] [0] rfl⟩
    ·intro L a w hv K Q hK
     obtain ⟨v4, hs⟩ := hv
     exact wGo rfl rfl hs (Qj rfl rfl rfl rfl tyF33 (i := 6) rfl rfl) fun a w hs => hK a w ⟨v4, pF hs 11 [0, 1, 2, 3, 4, 5, 6, 7] [0] rfl⟩
    ·intro L a w hv K Q hK
     obtain ⟨v4, hs⟩ := hv
     exact wGo rfl rfl hs (Qi rfl rfl rfl rfl YI) fun a w hs => hK a w ⟨v4, pF hs 12 [0, 1, 2, 3, 4, 5, 6, 7] [0] rfl⟩
    ·intro L a w hv K Q hK
     obtain ⟨v4, hs⟩ := hv
     exact wGo rfl rfl hs (Qj rfl rfl rfl rfl Yn (i := 6) rfl rfl) fun a w hs => hK a w ⟨v4, pF hs 13 [0, 1, 2, 3, 4, 5, 6, 7] [0] rfl⟩
    ·intro L a w hv K Q hK
     obtain ⟨v4, hs⟩ := hv
     refine Zo rfl rfl hs (QD (w_walk_made hx5) [] [] rfl rfl rfl rfl rfl callee87 rfl rfl rfl rfl) ?_
     rintro _ ⟨_, _, _, ⟨rfl, rfl, rfl⟩, rfl⟩ a' w' hs'
     exact hK a' w' ⟨v4, hs'.putF (i := 14) rfl [0, 1, 2, 3, 4, 5, 6, 7] [0] rfl rfl rfl rfl⟩
    ·intro L a w hv K Q hK
     obtain ⟨v4, hs⟩ := hv
     refine Zo rfl rfl hs (QW (S := SegS) (xs := [made1]) (css := [[vU64 made1.At, vU32 made1.Len, vB made1.Write]]) (cs := [vU64 made1.At, vU32 made1.Len, vB made1.Write]) (e := 46) rfl rfl rfl rfl (bldF slF41 (by decide) (by kernel_rfl)) rfl rfl rfl rfl (ZF (S := SegS) (xs := [made1]) (css := [[vU64 made1.At, vU32 made1.Len, vB made1.Write]]) rfl rfl)) ?_
     rintro _ ⟨v4', rfl⟩ a' w' hs'
     exact hK a' w' ⟨v4', hs'.putF (i := 15) rfl [0, 1, 2, 3, 4, 5, 6, 8] [0] rfl rfl rfl rfl⟩
    ·intro L a w hL hv
     rw [QT hL] at hv
     obtain ⟨v4, hs⟩ := hv
     refine gZ hs [0, 3, 5, 6, 8, 12, 85, 93] [0, 1, 2, 3, 4, 5, 6, 7] [0] rfl rfl rfl rfl ?_
     clear hs hL
     obtain ⟨hc1, h⟩ := Xy h
     refine TA_ex htb (by kernel_rfl) rfl rfl (YB (S := SegS) rfl rfl rfl rfl rfl rfl slF41 (i := 5) (j := 7) rfl rfl hc1) fun v5 => ?_
     refine QB htb (by kernel_rfl) rfl rfl (Qi rfl rfl rfl rfl fldF56x2) ?_
     refine QB htb (by kernel_rfl) rfl rfl (YJ (cs' := [vI (i16 readpa1.1.ID), vI (wi (Count1 + (1 : Int))), v5]) rfl rfl rfl rfl tyF41 (i := 4) rfl (Kx (i := 5) rfl) rfl rfl) ?_
     refine ZB rfl ?_
     refine tZ [0, 3, 5, 6, 8, 12] [0, 1, 2, 3, 4, 5, 6] [0] rfl rfl rfl rfl ?_
     refine Qe (Qb (Qa rfl (Qi rfl rfl rfl rfl YI) ?_))
     refine Qa rfl (Qj rfl rfl rfl rfl Yn (i := 6) rfl rfl) ?_
     refine Qa rfl (Qg rfl rfl rfl rfl rfl (Zp (a := readpa1.1.Flags) (b := (1 : UInt16)))) ?_
     refine Qa rfl (Qg rfl rfl rfl rfl rfl (bin_eql_u16 (a := readpa1.1.Flags &&& (1 : UInt16)) (b := (0 : UInt16)))) ?_
     refine Qc (tZ [0, 3, 5, 6, 8, 99] [0, 1, 2, 3, 4, 5] [0] rfl rfl rfl rfl ?_)
     rcases bC ((readpa1.1.Flags &&& (1 : UInt16)) == (0 : UInt16)) with hg7 | hg7
     ·replace h := br_t hg7 h
      refine Qk (cgb hg7) ?_
      refine Qe (Qb (Qa rfl (QA (vs := [vI (i16 readpa1.1.ID), vI (wi (Count1 + (1 : Int))), v5]) rfl rfl rfl rfl Xx (i := 4) rfl rfl rfl) ?_))
      refine Qa rfl (Xj (fun z0 => [vI (i16 readpa1.1.ID), vI (wi (Count1 + (1 : Int))), z0]) (cs' := [vI (i16 readpa1.1.ID), vI (wi (Count1 + (1 : Int))), v5]) rfl rfl rfl rfl Xx (i := 4) rfl (Kx (i := 5) rfl) (fun _ _ _ => rfl) rfl rfl rfl) ?_
      refine sAs rfl rfl rfl ?_
      refine Qc (tZ [8, 9] [0, 1, 4, 5] [0] rfl rfl rfl rfl ?_)
      refine Tk_retire (i := 3) rfl ?_
      obtain rfl := Option.some.inj h
      exact Qm rfl rfl (resA (vs := [.agg #[vI (i16 readpa1.1.ID), vI (wi (Count1 + (1 : Int))), v5], vI (0 : Int)]) rfl ⟨⟨_, 2, _, _, _, rfl, rfl, .inl ⟨Xx, rfl, rfl⟩⟩, rfl, trivial⟩) [0, 1] [1] rfl rfl rfl ⟨v5, rfl, rfl, rfl⟩
     ·replace h := br_f hg7 h
      refine Qo (cgb hg7) ?_
      refine Qs (ZD ?_)
      exact Ze (m1, go1.1, i16 readpa1.1.ID, wi (Count1 + (1 : Int)), Segs1 ++ [made1], v5) h [0, 3, 5, 6, 8] [0, 1, 2, 3, 4, 5] [0] rfl rfl rfl rfl rfl
 ·replace h := br_f hg1 h
  refine Qo (cgb hg1) ?_
  refine ZA _ rfl ?_
  refine Qe (Qb (Qa rfl (QA (vs := [vI ID1, vI Count1, v1]) rfl rfl rfl rfl Xx (i := 4) rfl rfl rfl) ?_))
  refine Qa rfl (Xj (fun z0 => [vI ID1, vI Count1, z0]) (cs' := [vI ID1, vI Count1, v1]) rfl rfl rfl rfl Xx (i := 4) rfl (Kx (i := 5) rfl) (fun _ _ _ => rfl) rfl rfl rfl) ?_
  refine sAs rfl rfl rfl ?_
  refine Qc (tZ [8, 9] [0, 1, 4, 5] [0] rfl rfl rfl rfl ?_)
  refine Tk_retire (i := 3) rfl ?_
  obtain rfl := Option.some.inj h
  exact Qm rfl rfl (resA (vs := [.agg #[vI ID1, vI Count1, v1], vI (4 : Int)]) rfl ⟨⟨_, 2, _, _, _, rfl, rfl, .inl ⟨Xx, rfl, rfl⟩⟩, rfl, trivial⟩) [0, 1] [1] rfl rfl rfl ⟨v1, rfl, rfl, rfl⟩

set_option maxRecDepth 100000 in
set_option maxHeartbeats 4000000 in
theorem w_walk_Packed {m : gmem_Mem} {rp1 : Rings} {pp2 : Pos} {table : Bool} {b_m : Nat} {vm1 : Value} {vm2 : Value} {vsm1 : List Value} {r : (Taken × Int)} (h : walk_Packed m rp1 pp2 table = some r) :
  Ctr Try.prog 17 #[.pointer (some ⟨b_m, 0, none⟩), .agg #[vB rp1.Packed, vI rp1.Size, vU64 rp1.Desc, vU64 rp1.Driver, vU64 rp1.Device], .agg #[vI pp2.At, vB pp2.Wrap], vB table] [(Ql b_m 113 [vm1, vm2]), (QI u8S true vm2 vsm1 m.b none)] [Fact.sl Qv vm1 m.l]
   (fun rv own shr => ∃ (w1 : Value), rv = .tuple #[.agg #[vI r.1.ID, vI r.1.Count, w1], vI r.2] ∧ own = [(Ql b_m 113 [vm1, vm2]), (QI u8S true vm2 vsm1 m.b none)] ∧ shr = [Fact.sl SegS w1 r.1.Segs]) := by
 unfold walk_Packed at h
 refine Ctr.mk (args := [.pointer (some ⟨b_m, 0, none⟩), .agg #[vB rp1.Packed, vI rp1.Size, vU64 rp1.Desc, vU64 rp1.Driver, vU64 rp1.Device], .agg #[vI pp2.At, vB pp2.Wrap], vB table]) Try.func17 rfl rfl (fun R0 w0 B => ?_)
 refine Qe (Qb (Qx rfl (Zr rfl rfl rfl rfl) fun b1 => ?_))
 refine Qx rfl (Zr rfl rfl rfl rfl) fun b2 => ?_
 refine Qx rfl (QK rfl rfl rfl tyZ56) fun b3 => ?_
 refine sAs rfl rfl rfl ?_
 refine Qc (tZ [0, 3, 5, 6, 8] [0, 1, 2, 3, 4] [0] rfl rfl rfl rfl ?_)
 refine Qe (Qb (sMv rfl rfl rfl ?_))
 refine Qa rfl (QA (vs := [vB rp1.Packed, vI rp1.Size, vU64 rp1.Desc, vU64 rp1.Driver, vU64 rp1.Device]) rfl rfl rfl rfl ZK (i := 2) rfl rfl rfl) ?_
 obtain ⟨refuse1, hx1, h⟩ := ob_e h
 refine Qr rfl (Qw [5, 6, 2, 3, 4] (w_walk_refuse hx1) [0, 1] [0] rfl rfl rfl rfl rfl callee40 rfl rfl rfl rfl rfl) ?_
 rintro _ ⟨_, _, _, ⟨rfl, rfl, rfl⟩, rfl⟩
 refine sAs rfl rfl rfl ?_
 refine Qc (tZ [0, 3, 5, 6, 8, 10] [0, 1, 2, 3, 4] [0] rfl rfl rfl rfl ?_)
 refine Qe (Qe (Qb (sMv rfl rfl rfl ?_)))
 refine Qa rfl (Qg rfl rfl rfl rfl rfl (Zg (a := refuse1) (b := (0 : Int)))) ?_
 refine sMv rfl rfl rfl ?_
 rcases bC (refuse1 == (0 : Int)) with hg1 | hg1
 ·replace h := br_t hg1 h
  refine Qh rfl rfl (cgb hg1) (QA (vs := [vI pp2.At, vB pp2.Wrap]) rfl rfl rfl rfl YK (i := 3) rfl rfl rfl) ?_
  rintro _ rfl
  refine Qh rfl rfl (cgb hg1) (Qi rfl rfl rfl rfl XH) ?_
  rintro _ rfl
  refine Qh rfl rfl (cgb hg1) (Qj rfl rfl rfl rfl tyF3 (i := 2) rfl rfl) ?_
  rintro _ rfl
  obtain ⟨check1, hx2, h⟩ := ob_e h
  refine Qh rfl rfl (cgb hg1) (QD (w_serial_Check hx2) [] [] rfl rfl rfl rfl rfl callee48 rfl rfl rfl rfl) ?_
  rintro _ ⟨_, _, _, ⟨rfl, rfl, rfl⟩, rfl⟩
  refine Qh rfl rfl (cgb hg1) (Qg rfl rfl rfl rfl rfl (QN (a := check1) (b := (0 : Int)))) ?_
  rintro _ rfl
  refine Qa rfl (Qt rfl rfl rfl (cgb hg1) rfl) ?_
  refine Qc (tZ [0, 3, 5, 6, 8, 10, 23] [0, 1, 2, 3, 4] [0] rfl rfl rfl rfl ?_)
  refine KA (α := Int) (fun s => ⟨[(0, some (.pointer (some ⟨b_m, 0, none⟩))), (3, some (vB table)), (5, some (.pointer (some ⟨b1, 0, none⟩))), (6, some (.pointer (some ⟨b2, 0, none⟩))), (8, some (.pointer (some ⟨b3, 0, none⟩))), (10, some (vI s))], [some (Ql b_m 113 [vm1, vm2]), some (QI u8S true vm2 vsm1 m.b none), some (Ql b1 29 [vB rp1.Packed, vI rp1.Size, vU64 rp1.Desc, vU64 rp1.Driver, vU64 rp1.Device]), some (Ql b2 60 [vI pp2.At, vB pp2.Wrap]), some (Ql b3 56 [vI (0 : Int), vI (0 : Int), .slice none 0 0])], [Fact.sl Qv vm1 m.l]⟩) (fun s => XX m rp1 pp2 table s = some r) ?_ ?_
  ·rintro e1 h
   replace h : XX m rp1 pp2 table e1 = some r := h
   unfold XX at h
   refine Qe (Qe (Qb (sMv rfl rfl rfl ?_)))
   refine Qa rfl (Qg rfl rfl rfl rfl rfl (QN (a := e1) (b := (0 : Int)))) ?_
   refine Qc (tZ [0, 3, 5, 6, 8, 10, 25] [0, 1, 2, 3, 4] [0] rfl rfl rfl rfl ?_)
   rcases bC (e1 != (0 : Int)) with hg2 | hg2
   ·replace h := br_t hg2 h
    refine Qk (cgb hg2) ?_
    refine Qe (Qb (Qa rfl (QL (v := .agg #[vI (0 : Int), vI (0 : Int), .slice none 0 0]) rfl rfl rfl rfl (bldV (by kernel_rfl))) ?_))
    refine sMv rfl rfl rfl ?_
    refine Qa rfl (Qq (cs' := [vI (0 : Int), vI (0 : Int), .slice none 0 0]) rfl rfl rfl rfl Xx (i := 4) rfl rfl rfl (QF rfl) rfl) ?_
    refine sAs rfl rfl rfl ?_
    refine Qc (tZ [8, 9] [0, 1, 4] [0] rfl rfl rfl rfl ?_)
    refine Xu SegS ?_
    obtain rfl := Option.some.inj h
    exact Qm rfl rfl (resA (vs := [.agg #[vI (0 : Int), vI (0 : Int), .slice none 0 0], vI e1]) rfl ⟨⟨_, 2, _, _, _, rfl, rfl, .inl ⟨Xx, rfl, rfl⟩⟩, rfl, trivial⟩) [0, 1] [1] rfl rfl rfl ⟨(.slice none 0 0), rfl, rfl, rfl⟩
   ·replace h := br_f hg2 h
    refine Qo (cgb hg2) ?_
    refine Qs (Qe (Qb (sMv rfl rfl rfl ?_)))
    refine Qa rfl (QA (vs := [vB rp1.Packed, vI rp1.Size, vU64 rp1.Desc, vU64 rp1.Driver, vU64 rp1.Device]) rfl rfl rfl rfl ZK (i := 2) rfl rfl rfl) ?_
    refine Qa rfl (QA (vs := [vI pp2.At, vB pp2.Wrap]) rfl rfl rfl rfl YK (i := 3) rfl rfl rfl) ?_
    refine sMv rfl rfl rfl ?_
    obtain ⟨packed1, hx3, h⟩ := ob_e h
    refine Qr rfl (Qw [5, 6, 2, 3, 4] (w_walk_packed hx3) [0, 1] [0] rfl rfl rfl rfl rfl callee49 rfl rfl rfl rfl rfl) ?_
    rintro _ ⟨_, _, _, ⟨v1, rfl, rfl, rfl⟩, rfl⟩
    refine sMv rfl rfl rfl ?_
    refine Qa rfl (Qp rfl rfl rfl rfl rfl) ?_
    refine Qa rfl (Qp rfl rfl rfl rfl rfl) ?_
    refine Qx rfl (QK rfl rfl rfl tyZ56) fun b4 => ?_
    refine Qa rfl (Xj (fun z0 => [vI packed1.1.ID, vI packed1.1.Count, z0]) (cs' := [vI packed1.1.ID, vI packed1.1.Count, v1]) rfl rfl rfl rfl Xx (i := 5) rfl (is_sl (i := 1) rfl) (fun _ _ _ => rfl) rfl rfl rfl) ?_
    refine sAs rfl rfl rfl ?_
    refine Qc (tZ [0, 5, 8, 10, 11] [0, 1, 2, 4, 5] [0, 1] rfl rfl rfl rfl ?_)
    refine Qe (Qe (Qb (sMv rfl rfl rfl ?_)))
    refine Qa rfl (Qg rfl rfl rfl rfl rfl (Zg (a := packed1.2) (b := (0 : Int)))) ?_
    refine sMv rfl rfl rfl ?_
    rcases bC (packed1.2 == (0 : Int)) with hg3 | hg3
    ·replace h := br_t hg3 h
     refine Qh rfl rfl (cgb hg3) (Qi rfl rfl rfl rfl fldF56x0) ?_
     rintro _ rfl
     refine Qh rfl rfl (cgb hg3) (Qj rfl rfl rfl rfl tyF3 (i := 4) rfl rfl) ?_
     rintro _ rfl
     refine Qh rfl rfl (cgb hg3) (Qi rfl rfl rfl rfl XH) ?_
     rintro _ rfl
     refine Qh rfl rfl (cgb hg3) (Qj rfl rfl rfl rfl tyF3 (i := 2) rfl rfl) ?_
     rintro _ rfl
     refine Qh rfl rfl (cgb hg3) (Qg rfl rfl rfl rfl rfl (Xl (a := packed1.1.ID) (b := rp1.Size))) ?_
     rintro _ rfl
     refine Qa rfl (Qt rfl rfl rfl (cgb hg3) rfl) ?_
     refine Qc (tZ [0, 8, 10, 11, 44] [0, 1, 3, 4] [0, 1] rfl rfl rfl rfl ?_)
     refine KA (α := Int) (fun s => ⟨[(0, some (.pointer (some ⟨b_m, 0, none⟩))), (8, some (.pointer (some ⟨b3, 0, none⟩))), (10, some (vI s)), (11, some (.pointer (some ⟨b4, 0, none⟩)))], [some (Ql b_m 113 [vm1, vm2]), some (QI u8S true vm2 vsm1 m.b none), some (Ql b3 56 [vI (0 : Int), vI (0 : Int), .slice none 0 0]), some (Ql b4 56 [vI packed1.1.ID, vI packed1.1.Count, v1])], [Fact.sl Qv vm1 m.l, Fact.sl SegS v1 packed1.1.Segs]⟩) (fun s => XW m packed1 s = some r) ?_ ?_
     ·rintro e2 h
      replace h : XW m packed1 e2 = some r := h
      unfold XW at h
      refine Qe (Qe (Qb (sMv rfl rfl rfl ?_)))
      refine Qa rfl (Qg rfl rfl rfl rfl rfl (Zg (a := e2) (b := (0 : Int)))) ?_
      refine Qc (tZ [0, 8, 10, 11, 46] [0, 1, 2, 3] [0, 1] rfl rfl rfl rfl ?_)
      refine KA (α := Int × Int × (List Seg) × Int × Int × Int × (List Seg) × Value × Value) (fun s => ⟨[(8, some (.pointer (some ⟨b3, 0, none⟩))), (10, some (vI s.2.2.2.1)), (11, some (.pointer (some ⟨b4, 0, none⟩)))], [some (Ql b3 56 [vI s.1, vI s.2.1, s.2.2.2.2.2.2.2.1]), some (Ql b4 56 [vI s.2.2.2.2.1, vI s.2.2.2.2.2.1, s.2.2.2.2.2.2.2.2]), some (Ql b_m 113 [vm1, vm2]), some (QI u8S true vm2 vsm1 m.b none)], [Fact.sl SegS s.2.2.2.2.2.2.2.1 s.2.2.1, Fact.sl SegS s.2.2.2.2.2.2.2.2 s.2.2.2.2.2.2.1, Fact.sl Qv vm1 m.l]⟩) (fun s => XV s.1 s.2.1 s.2.2.1 s.2.2.2.1 s.2.2.2.2.1 s.2.2.2.2.2.1 s.2.2.2.2.2.2.1 = some r) ?_ ?_
      ·rintro ⟨ID1, Count1, Segs1, e3, ID2, Count2, Segs2, v2, v3⟩ h
       replace h : XV ID1 Count1 Segs1 e3 ID2 Count2 Segs2 = some r := h
       unfold XV at h
       refine Qe (Qe (Qb (sMv rfl rfl rfl ?_)))
       refine Qa rfl (Qg rfl rfl rfl rfl rfl (QN (a := e3) (b := (0 : Int)))) ?_
       refine Qc (tZ [8, 10, 11, 56] [0, 1, 2, 3] [0, 1, 2] rfl rfl rfl rfl ?_)
       rcases bC (e3 != (0 : Int)) with hg4 | hg4
       ·replace h := br_t hg4 h
        refine Qk (cgb hg4) ?_
        refine Qe (Qb (Qa rfl (QL (v := .agg #[vI (0 : Int), vI (0 : Int), .slice none 0 0]) rfl rfl rfl rfl (bldV (by kernel_rfl))) ?_))
        refine sMv rfl rfl rfl ?_
        refine Qa rfl (Qq (cs' := [vI (0 : Int), vI (0 : Int), .slice none 0 0]) rfl rfl rfl rfl Xx (i := 0) rfl rfl rfl (QF rfl) rfl) ?_
        refine sAs rfl rfl rfl ?_
        refine Qc (tZ [8, 9] [0, 2, 3] [2] rfl rfl rfl rfl ?_)
        refine Xu SegS ?_
        obtain rfl := Option.some.inj h
        exact Qm rfl rfl (resA (vs := [.agg #[vI (0 : Int), vI (0 : Int), .slice none 0 0], vI e3]) rfl ⟨⟨_, 0, _, _, _, rfl, rfl, .inl ⟨Xx, rfl, rfl⟩⟩, rfl, trivial⟩) [1, 2] [1] rfl rfl rfl ⟨(.slice none 0 0), rfl, rfl, rfl⟩
       ·replace h := br_f hg4 h
        refine Qo (cgb hg4) ?_
        refine Qs (Qe (Qb (Qa rfl (QA (vs := [vI ID2, vI Count2, v3]) rfl rfl rfl rfl Xx (i := 1) rfl rfl rfl) ?_)))
        refine Qa rfl (Xj (fun z0 => [vI ID2, vI Count2, z0]) (cs' := [vI ID2, vI Count2, v3]) rfl rfl rfl rfl Xx (i := 0) rfl (is_sl (i := 1) rfl) (fun _ _ _ => rfl) rfl rfl rfl) ?_
        refine sAs rfl rfl rfl ?_
        refine Qc (tZ [8, 9] [0, 2, 3] [1, 2] rfl rfl rfl rfl ?_)
        obtain rfl := Option.some.inj h
        exact Qm rfl rfl (resA (vs := [.agg #[vI ID2, vI Count2, v3], vI (0 : Int)]) rfl ⟨⟨_, 0, _, _, _, rfl, rfl, .inl ⟨Xx, rfl, rfl⟩⟩, rfl, trivial⟩) [1, 2] [0] rfl rfl rfl ⟨v3, rfl, rfl, rfl⟩
      ·intro HJ1
       rcases bC (e2 == (0 : Int)) with hg5 | hg5
       ·replace h := br_t hg5 h
        refine Qk (cgb hg5) ?_
        refine Qb (sMv rfl rfl rfl ?_)
        refine Qa rfl (Qi rfl rfl rfl rfl fldF56x2) ?_
        refine Qa rfl (Qj rfl rfl rfl rfl tyF41 (i := 3) rfl rfl) ?_
        obtain ⟨looked1, hx4, h⟩ := ob_e h
        refine Qr rfl (Qw [4, 5, 2, 3] (w_walk_looked hx4) [0, 1] [0, 1] rfl rfl rfl rfl rfl callee42 rfl rfl rfl rfl rfl) ?_
        rintro _ ⟨_, _, _, ⟨v4, rfl, rfl, rfl⟩, rfl⟩
        refine sMv rfl rfl rfl ?_
        refine Qa rfl (Qp rfl rfl rfl rfl rfl) ?_
        refine Qa rfl (Qp rfl rfl rfl rfl rfl) ?_
        refine Qa rfl (Qi rfl rfl rfl rfl fldF56x2) ?_
        refine Qa rfl (YJ (cs' := [vI packed1.1.ID, vI packed1.1.Count, v4]) rfl rfl rfl rfl tyF41 (i := 3) rfl (is_sl (i := 2) rfl) rfl rfl) ?_
        refine sAs rfl rfl rfl ?_
        refine Qc (tZ [8, 10, 11] [0, 1, 2, 3] [0, 2] rfl rfl rfl rfl ?_)
        refine Xu SegS ?_
        exact ZI (HJ1 ((0 : Int), (0 : Int), ([] : List Seg), looked1.2, packed1.1.ID, packed1.1.Count, looked1.1, .slice none 0 0, v4) h) [8, 10, 11] [2, 3, 0, 1] [2, 1, 0] rfl rfl rfl rfl
       ·replace h := br_f hg5 h
        refine Qo (cgb hg5) ?_
        refine Qs (Xu SegS ?_)
        exact ZI (HJ1 ((0 : Int), (0 : Int), ([] : List Seg), e2, packed1.1.ID, packed1.1.Count, packed1.1.Segs, .slice none 0 0, v1) h) [8, 10, 11] [2, 3, 0, 1] [2, 1, 0] rfl rfl rfl rfl
     ·intro HJ2
      rcases bC (decide (packed1.1.ID ≥ rp1.Size)) with hg6 | hg6
      ·replace h := br_t hg6 h
       refine Qk (cgb hg6) ?_
       refine Qb (sAs rfl rfl rfl ?_)
       refine Qc (tZ [0, 8, 10, 11] [0, 1, 2, 3] [0, 1] rfl rfl rfl rfl ?_)
       exact ZI (HJ2 (4 : Int) h) [0, 8, 10, 11] [0, 1, 2, 3] [0, 1] rfl rfl rfl rfl
      ·replace h := br_f hg6 h
       refine Qo (cgb hg6) ?_
       refine Qs ?_
       exact ZI (HJ2 packed1.2 h) [0, 8, 10, 11] [0, 1, 2, 3] [0, 1] rfl rfl rfl rfl
    ·replace h := br_f hg3 h
     refine Qf rfl rfl (cgb hg3) rfl rfl ?_
     refine Qf rfl rfl (cgb hg3) rfl rfl ?_
     refine Qf rfl rfl (cgb hg3) rfl rfl ?_
     refine Qf rfl rfl (cgb hg3) rfl rfl ?_
     refine Qf rfl rfl (cgb hg3) rfl rfl ?_
     refine Qa rfl (Qu rfl rfl rfl (cgb hg3) rfl) ?_
     refine Qc (tZ [0, 8, 10, 11, 44] [0, 1, 3, 4] [0, 1] rfl rfl rfl rfl ?_)
     refine Qo rfl ?_
     refine Qs (Qe (Qe (Qb (sMv rfl rfl rfl ?_))))
     refine Qa rfl (Qg rfl rfl rfl rfl rfl (Zg (a := packed1.2) (b := (0 : Int)))) ?_
     refine Qc (tZ [0, 8, 10, 11, 46] [0, 1, 2, 3] [0, 1] rfl rfl rfl rfl ?_)
     refine Qo (cgb hg3) ?_
     refine Qs (Qe (Qe (Qb (sMv rfl rfl rfl ?_))))
     refine Qa rfl (Qg rfl rfl rfl rfl rfl (QN (a := packed1.2) (b := (0 : Int)))) ?_
     refine Qc (tZ [8, 10, 11, 56] [0, 1, 2, 3] [0, 1] rfl rfl rfl rfl ?_)
     refine Qk (congrArg (fun b => some (Value.bool (!b))) hg3) ?_
     refine Qe (Qb (Qa rfl (QL (v := .agg #[vI (0 : Int), vI (0 : Int), .slice none 0 0]) rfl rfl rfl rfl (bldV (by kernel_rfl))) ?_))
     refine sMv rfl rfl rfl ?_
     refine Qa rfl (Qq (cs' := [vI (0 : Int), vI (0 : Int), .slice none 0 0]) rfl rfl rfl rfl Xx (i := 2) rfl rfl rfl (QF rfl) rfl) ?_
     refine sAs rfl rfl rfl ?_
     refine Qc (tZ [8, 9] [0, 1, 2] [0] rfl rfl rfl rfl ?_)
     refine Xu SegS ?_
     obtain rfl := Option.some.inj h
     exact Qm rfl rfl (resA (vs := [.agg #[vI (0 : Int), vI (0 : Int), .slice none 0 0], vI packed1.2]) rfl ⟨⟨_, 2, _, _, _, rfl, rfl, .inl ⟨Xx, rfl, rfl⟩⟩, rfl, trivial⟩) [0, 1] [1] rfl rfl rfl ⟨(.slice none 0 0), rfl, rfl, rfl⟩
  ·intro HJ3
   rcases bC (check1 != (0 : Int)) with hg7 | hg7
   ·replace h := br_t hg7 h
    refine Qk (cgb hg7) ?_
    refine Qb (sAs rfl rfl rfl ?_)
    refine Qc (tZ [0, 3, 5, 6, 8, 10] [0, 1, 2, 3, 4] [0] rfl rfl rfl rfl ?_)
    exact ZI (HJ3 (2 : Int) h) [0, 3, 5, 6, 8, 10] [0, 1, 2, 3, 4] [0] rfl rfl rfl rfl
   ·replace h := br_f hg7 h
    refine Qo (cgb hg7) ?_
    refine Qs ?_
    exact ZI (HJ3 refuse1 h) [0, 3, 5, 6, 8, 10] [0, 1, 2, 3, 4] [0] rfl rfl rfl rfl
 ·replace h := br_f hg1 h
  refine Qf rfl rfl (cgb hg1) rfl rfl ?_
  refine Qf rfl rfl (cgb hg1) rfl rfl ?_
  refine Qf rfl rfl (cgb hg1) rfl rfl ?_
  refine Qf rfl rfl (cgb hg1) rfl rfl ?_
  refine Qf rfl rfl (cgb hg1) rfl rfl ?_
  refine Qa rfl (Qu rfl rfl rfl (cgb hg1) rfl) ?_
  refine Qc (tZ [0, 3, 5, 6, 8, 10, 23] [0, 1, 2, 3, 4] [0] rfl rfl rfl rfl ?_)
  refine Qo rfl ?_
  refine Qs (Qe (Qe (Qb (sMv rfl rfl rfl ?_))))
  refine Qa rfl (Qg rfl rfl rfl rfl rfl (QN (a := refuse1) (b := (0 : Int)))) ?_
  refine Qc (tZ [0, 3, 5, 6, 8, 10, 25] [0, 1, 2, 3, 4] [0] rfl rfl rfl rfl ?_)
  refine Qk (congrArg (fun b => some (Value.bool (!b))) hg1) ?_
  refine Qe (Qb (Qa rfl (QL (v := .agg #[vI (0 : Int), vI (0 : Int), .slice none 0 0]) rfl rfl rfl rfl (bldV (by kernel_rfl))) ?_))
  refine sMv rfl rfl rfl ?_
  refine Qa rfl (Qq (cs' := [vI (0 : Int), vI (0 : Int), .slice none 0 0]) rfl rfl rfl rfl Xx (i := 4) rfl rfl rfl (QF rfl) rfl) ?_
  refine sAs rfl rfl rfl ?_
  refine Qc (tZ [8, 9] [0, 1, 4] [0] rfl rfl rfl rfl ?_)
  refine Xu SegS ?_
  obtain rfl := Option.some.inj h
  exact Qm rfl rfl (resA (vs := [.agg #[vI (0 : Int), vI (0 : Int), .slice none 0 0], vI refuse1]) rfl ⟨⟨_, 2, _, _, _, rfl, rfl, .inl ⟨Xx, rfl, rfl⟩⟩, rfl, trivial⟩) [0, 1] [1] rfl rfl rfl ⟨(.slice none 0 0), rfl, rfl, rfl⟩

set_option maxRecDepth 100000 in
set_option maxHeartbeats 4000000 in
theorem w_ref_refuse10 {m : dumbwaiterref02_Mem} {rp1 : Rings} {packed : Bool} {b_m : Nat} {vm1 : Value} {vm2 : Value} {vsm1 : List Value} {r : Int} (h : Yt m rp1 packed = some r) :
  Ctr Try.prog 50 #[.pointer (some ⟨b_m, 0, none⟩), .agg #[vB rp1.Packed, vI rp1.Size, vU64 rp1.Desc, vU64 rp1.Driver, vU64 rp1.Device], vB packed] [(Ql b_m 152 [vm1, vm2]), (QI u8S false vm2 vsm1 m.B none)] [Fact.sl Qv vm1 m.L]
   (fun rv own shr => rv = vI r ∧ own = [(Ql b_m 152 [vm1, vm2]), (QI u8S false vm2 vsm1 m.B none)] ∧ shr = []) := by
 unfold Yt at h
 refine Ctr.mk (args := [.pointer (some ⟨b_m, 0, none⟩), .agg #[vB rp1.Packed, vI rp1.Size, vU64 rp1.Desc, vU64 rp1.Driver, vU64 rp1.Device], vB packed]) Try.func50 rfl rfl (fun R0 w0 B => ?_)
 refine Qe (Qb (Qx rfl (Zr rfl rfl rfl rfl) fun b1 => ?_))
 refine sAs rfl rfl rfl ?_
 refine Qc (tZ [0, 2, 4] [0, 1, 2] [0] rfl rfl rfl rfl ?_)
 refine Qe (Qe (Qb (sMv rfl rfl rfl ?_)))
 refine Qa rfl (OpT_ptrNil rfl rfl rfl (.inl rfl) rfl rfl ptrF26) ?_
 refine Qc (tZ [2, 4, 9] [0, 1, 2] [0] rfl rfl rfl rfl ?_)
 refine Qo rfl ?_
 refine Qs (Qe (Qb (Qa rfl (QA (vs := [vB rp1.Packed, vI rp1.Size, vU64 rp1.Desc, vU64 rp1.Driver, vU64 rp1.Device]) rfl rfl rfl rfl ZK (i := 2) rfl rfl rfl) ?_)))
 obtain ⟨check1, hx1, h⟩ := ob_e h
 refine Qr rfl (QD (w_ref_Check04 hx1) [] [] rfl rfl rfl rfl rfl callee45 rfl rfl rfl rfl) ?_
 rintro _ ⟨_, _, _, ⟨rfl, rfl, rfl⟩, rfl⟩
 refine sAs rfl rfl rfl ?_
 refine Qc (tZ [2, 4, 7] [0, 1, 2] [0] rfl rfl rfl rfl ?_)
 refine Qe (Qe (Qb (sMv rfl rfl rfl ?_)))
 refine Qa rfl (Qg rfl rfl rfl rfl rfl (Zg (a := check1) (b := (0 : Int)))) ?_
 refine sMv rfl rfl rfl ?_
 rcases bC (check1 == (0 : Int)) with hg1 | hg1
 ·replace h := br_t hg1 h
  refine Qh rfl rfl (cgb hg1) (Qi rfl rfl rfl rfl fldF29x0) ?_
  rintro _ rfl
  refine Qh rfl rfl (cgb hg1) (Qj rfl rfl rfl rfl tyF4 (i := 2) rfl rfl) ?_
  rintro _ rfl
  refine Qh rfl rfl (cgb hg1) (Qn rfl rfl rfl rfl) ?_
  rintro _ rfl
  refine Qh rfl rfl (cgb hg1) (Qg rfl rfl rfl rfl rfl (bin_neq_b (a := rp1.Packed) (b := packed) Try.underlying4)) ?_
  rintro _ rfl
  refine Qa rfl (Qt rfl rfl rfl (cgb hg1) rfl) ?_
  refine Qc (tZ [7, 19] [0, 1] [0] rfl rfl rfl rfl ?_)
  rcases bC (rp1.Packed != packed) with hg2 | hg2
  ·replace h := br_t hg2 h
   refine Qk (cgb hg2) ?_
   refine Qb (sAs rfl rfl rfl ?_)
   refine Qc (tZ [7] [0, 1] [0] rfl rfl rfl rfl ?_)
   refine Qe (Qb (sMv rfl rfl rfl ?_))
   refine sAs rfl rfl rfl ?_
   refine Qc (tZ [6] [0, 1] [0] rfl rfl rfl rfl ?_)
   obtain rfl := Option.some.inj h
   exact Qm rfl rfl (resA (vs := [vI (2 : Int)]) rfl ⟨rfl, trivial⟩) [0, 1] [] rfl rfl rfl ⟨rfl, rfl, rfl⟩
  ·replace h := br_f hg2 h
   refine Qo (cgb hg2) ?_
   refine Qs (Qe (Qb (sMv rfl rfl rfl ?_)))
   refine sAs rfl rfl rfl ?_
   refine Qc (tZ [6] [0, 1] [0] rfl rfl rfl rfl ?_)
   obtain rfl := Option.some.inj h
   exact Qm rfl rfl (resA (vs := [vI check1]) rfl ⟨rfl, trivial⟩) [0, 1] [] rfl rfl rfl ⟨rfl, rfl, rfl⟩
 ·replace h := br_f hg1 h
  refine Qf rfl rfl (cgb hg1) rfl rfl ?_
  refine Qf rfl rfl (cgb hg1) rfl rfl ?_
  refine Qf rfl rfl (cgb hg1) rfl rfl ?_
  refine Qf rfl rfl (cgb hg1) rfl rfl ?_
  refine Qa rfl (Qu rfl rfl rfl (cgb hg1) rfl) ?_
  refine Qc (tZ [7, 19] [0, 1] [0] rfl rfl rfl rfl ?_)
  refine Qo rfl ?_
  refine Qs (Qe (Qb (sMv rfl rfl rfl ?_)))
  refine sAs rfl rfl rfl ?_
  refine Qc (tZ [6] [0, 1] [0] rfl rfl rfl rfl ?_)
  obtain rfl := Option.some.inj h
  exact Qm rfl rfl (resA (vs := [vI check1]) rfl ⟨rfl, trivial⟩) [0, 1] [] rfl rfl rfl ⟨rfl, rfl, rfl⟩

set_option maxRecDepth 100000 in
set_option maxHeartbeats 4000000 in
theorem QG {arg0 : dumbwaiterref10_reader} {arg0_m : dumbwaiterref02_Mem} {ep1 : Int} {b_arg0 : Nat} {b_arg0_m : Nat} {varg0m1 : Value} {varg0m2 : Value} {vsarg0m1 : List Value} {varg01 : Value} {r : dumbwaiterref10_reader} (h : QE arg0 arg0_m ep1 = some r) :
  Ctr Try.prog 54 #[.pointer (some ⟨b_arg0, 0, none⟩), vI ep1] [(Ql b_arg0 118 [.pointer (some ⟨b_arg0_m, 0, none⟩), varg01, vI arg0.n, vI arg0.e]), (rowS SegS varg01 arg0.segs), (Ql b_arg0_m 152 [varg0m1, varg0m2]), (QI u8S false varg0m2 vsarg0m1 arg0_m.B none)] [Fact.sl Qv varg0m1 arg0_m.L]
   (fun rv own shr => ∃ (w1 : Value), rv = .tuple #[] ∧ own = [(Ql b_arg0 118 [.pointer (some ⟨b_arg0_m, 0, none⟩), w1, vI r.n, vI r.e]), (rowS SegS w1 r.segs), (Ql b_arg0_m 152 [varg0m1, varg0m2]), (QI u8S false varg0m2 vsarg0m1 arg0_m.B none)] ∧ shr = []) := by
 unfold QE at h
 refine Ctr.mk (args := [.pointer (some ⟨b_arg0, 0, none⟩), vI ep1]) Try.func54 rfl rfl (fun R0 w0 B => ?_)
 refine Qe (Qb (sMv rfl rfl rfl ?_))
 refine Qa rfl (Qy rfl rfl rfl rfl) ?_
 refine Qa rfl (Qi rfl rfl rfl rfl Xk) ?_
 refine Qa rfl (Qj rfl rfl rfl rfl XC (i := 0) rfl rfl) ?_
 refine Qa rfl (Qg rfl rfl rfl rfl rfl (Zg (a := arg0.e) (b := (0 : Int)))) ?_
 refine Qc (tZ [0, 1, 8] [0, 1, 2, 3] [0] rfl rfl rfl rfl ?_)
 rcases bC (arg0.e == (0 : Int)) with hg1 | hg1
 ·replace h := br_t hg1 h
  refine Qk (cgb hg1) ?_
  refine Qb (sMv rfl rfl rfl ?_)
  refine sMv rfl rfl rfl ?_
  refine Qa rfl (Qy rfl rfl rfl rfl) ?_
  refine Qa rfl (Qi rfl rfl rfl rfl Xk) ?_
  refine Qa rfl (Qq (cs' := [.pointer (some ⟨b_arg0_m, 0, none⟩), varg01, vI arg0.n, vI ep1]) rfl rfl rfl rfl XC (i := 0) rfl rfl rfl (QF rfl) rfl) ?_
  refine Qc ?_
  obtain rfl := Option.some.inj h
  exact Tk_endV rfl rfl (resA (vs := []) rfl trivial) [0, 1, 2, 3] [] rfl rfl rfl ⟨varg01, rfl, rfl, rfl⟩
 ·replace h := br_f hg1 h
  refine Qo (cgb hg1) ?_
  refine Qs ?_
  obtain rfl := Option.some.inj h
  exact Tk_endV rfl rfl (resA (vs := []) rfl trivial) [0, 1, 2, 3] [] rfl rfl rfl ⟨varg01, rfl, rfl, rfl⟩

set_option maxRecDepth 100000 in
set_option maxHeartbeats 4000000 in
theorem w_ref_Mem_Read02 {m : dumbwaiterref02_Mem} {atp1 : UInt64} {np2 : Int} {b_m : Nat} {vm1 : Value} {vm2 : Value} {vsm1 : List Value} {r : ((List UInt8) × Int)} (h : Xn m atp1 np2 = some r) :
  Ctr Try.prog 55 #[.pointer (some ⟨b_m, 0, none⟩), vU64 atp1, vI np2] [(Ql b_m 152 [vm1, vm2]), (QI u8S false vm2 vsm1 m.B none)] [Fact.sl Qv vm1 m.L]
   (fun rv own shr => ∃ (w1 : Value), rv = .tuple #[w1, vI r.2] ∧ own = [(Ql b_m 152 [vm1, vm2]), (QI u8S false vm2 vsm1 m.B none), (rowS u8S w1 r.1)] ∧ shr = []) := by
 unfold Xn at h
 refine Ctr.mk (args := [.pointer (some ⟨b_m, 0, none⟩), vU64 atp1, vI np2]) Try.func55 rfl rfl (fun R0 w0 B => ?_)
 refine Qe (Qb (sAs rfl rfl rfl ?_))
 refine sAs rfl rfl rfl ?_
 refine Qc (tZ [0, 1, 2] [0, 1] [0] rfl rfl rfl rfl ?_)
 refine Qe (Qe (Qb (sMv rfl rfl rfl ?_)))
 refine Qa rfl (Qg rfl rfl rfl rfl rfl (QP (a := np2) (b := (0 : Int)))) ?_
 refine Qc (tZ [0, 1, 2, 11] [0, 1] [0] rfl rfl rfl rfl ?_)
 rcases bC (decide (np2 < (0 : Int))) with hg1 | hg1
 ·replace h := br_t hg1 h
  refine Qk (cgb hg1) ?_
  refine Qe (Qb (sAs rfl rfl rfl ?_))
  refine sAs rfl rfl rfl ?_
  refine Qc (tZ [6, 7] [0, 1] [0] rfl rfl rfl rfl ?_)
  refine ZH u8S ?_
  obtain rfl := Option.some.inj h
  exact Qm rfl rfl (resA (vs := [.slice none 0 0, vI (2 : Int)]) rfl ⟨rfl, rfl, trivial⟩) [0, 1, 2] [] rfl rfl rfl ⟨(.slice none 0 0), rfl, rfl, rfl⟩
 ·replace h := br_f hg1 h
  refine Qo (cgb hg1) ?_
  refine Qs (Qe (Qe (Qb (sMv rfl rfl rfl ?_))))
  refine Qa rfl (Qg rfl rfl rfl rfl rfl (Zg (a := np2) (b := (0 : Int)))) ?_
  refine Qc (tZ [0, 1, 2, 13] [0, 1] [0] rfl rfl rfl rfl ?_)
  rcases bC (np2 == (0 : Int)) with hg2 | hg2
  ·replace h := br_t hg2 h
   refine Qk (cgb hg2) ?_
   refine Qe (Qb (sAs rfl rfl rfl ?_))
   refine sAs rfl rfl rfl ?_
   refine Qc (tZ [6, 7] [0, 1] [0] rfl rfl rfl rfl ?_)
   refine ZH u8S ?_
   obtain rfl := Option.some.inj h
   exact Qm rfl rfl (resA (vs := [.slice none 0 0, vI (0 : Int)]) rfl ⟨rfl, rfl, trivial⟩) [0, 1, 2] [] rfl rfl rfl ⟨(.slice none 0 0), rfl, rfl, rfl⟩
  ·replace h := br_f hg2 h
   refine Qo (cgb hg2) ?_
   refine Qs (Qe (Qb (sMv rfl rfl rfl ?_)))
   refine sMv rfl rfl rfl ?_
   refine sMv rfl rfl rfl ?_
   refine Qa rfl (QU rfl rfl rfl rfl (ZY (n := np2) Try.underlying3 Try.underlying27)) ?_
   obtain ⟨Xz, hx1, h⟩ := ob_e h
   refine Qr rfl (Qw [2, 3] (w_ref_Mem_find02 hx1) [0, 1] [0] rfl rfl rfl rfl rfl callee79 rfl rfl rfl rfl rfl) ?_
   rintro _ ⟨_, _, _, ⟨rfl, rfl, rfl⟩, rfl⟩
   refine sMv rfl rfl rfl ?_
   refine Qa rfl (Qp rfl rfl rfl rfl rfl) ?_
   refine Qa rfl (Qp rfl rfl rfl rfl rfl) ?_
   refine sAs rfl rfl rfl ?_
   refine sAs rfl rfl rfl ?_
   refine Qc (tZ [0, 2, 8, 9] [0, 1] [0] rfl rfl rfl rfl ?_)
   refine Qe (Qe (Qb (sMv rfl rfl rfl ?_)))
   refine Qa rfl (Qg rfl rfl rfl rfl rfl (QP (a := Xz.1) (b := (0 : Int)))) ?_
   refine Qc (tZ [0, 2, 8, 9, 23] [0, 1] [0] rfl rfl rfl rfl ?_)
   rcases bC (decide (Xz.1 < (0 : Int))) with hg3 | hg3
   ·replace h := br_t hg3 h
    refine Qk (cgb hg3) ?_
    refine Qe (Qb (sAs rfl rfl rfl ?_))
    refine sAs rfl rfl rfl ?_
    refine Qc (tZ [6, 7] [0, 1] [0] rfl rfl rfl rfl ?_)
    refine ZH u8S ?_
    obtain rfl := Option.some.inj h
    exact Qm rfl rfl (resA (vs := [.slice none 0 0, vI (5 : Int)]) rfl ⟨rfl, rfl, trivial⟩) [0, 1, 2] [] rfl rfl rfl ⟨(.slice none 0 0), rfl, rfl, rfl⟩
   ·replace h := br_f hg3 h
    refine Qo (cgb hg3) ?_
    refine Qs (Qe (Qb (Qx rfl (QW (S := u8S) (xs := ([] : List UInt8)) (css := []) (cs := []) (e := 5) rfl rfl rfl rfl (bldF slF39 (by decide) (by kernel_rfl)) rfl rfl rfl rfl (ZF (S := u8S) (xs := ([] : List UInt8)) (css := []) rfl rfl)) fun v1 => ?_)))
    refine sMv rfl rfl rfl ?_
    refine Qa rfl (Qy rfl rfl rfl rfl) ?_
    refine Qa rfl (Qi rfl rfl rfl rfl fldF152x1) ?_
    refine Qa rfl (Qj rfl rfl rfl rfl tyF111 (i := 0) rfl rfl) ?_
    refine sMv rfl rfl rfl ?_
    obtain ⟨row1, hx2, h⟩ := ob_e h
    refine Qa rfl (OpT_idxRows rfl rfl rfl rfl rfl slF111 (i := 1) rfl hx2) ?_
    refine Tops_vs (vs_focus (i := 1) (j := Xz.1) rfl hx2) ?_
    refine Qa rfl (OpT_loadRow (m := Xz.1) rfl rfl rfl rfl tyF39 (i := 1) rfl) ?_
    refine sMv rfl rfl rfl ?_
    refine sMv rfl rfl rfl ?_
    refine sMv rfl rfl rfl ?_
    refine Qa rfl (Qg rfl rfl rfl rfl rfl (QO (a := Xz.2) (b := np2))) ?_
    obtain ⟨hc1, h⟩ := Xy h
    refine Qa rfl (OpT_subLH (S := u8S) (l := Xz.2) (m := wi (Xz.2 + np2)) rfl rfl rfl rfl rfl rfl slF39 (i := 3) rfl hc1) ?_
    obtain ⟨hc2, h⟩ := Xy h
    refine Qx rfl (OpT_appendBs (S := u8S) (l := Xz.2) (m := (wi (Xz.2 + np2))) rfl rfl rfl rfl rfl rfl slF39 (i := 2) (j := 3) rfl rfl hc1 hc2) fun v2 => ?_
    refine sAs rfl rfl rfl ?_
    refine sAs rfl rfl rfl ?_
    refine Qc (tZ [6, 7] [0, 1, 2, 3] [0] rfl rfl rfl rfl ?_)
    refine Tk_vs (vs_unfocus0 (i := 1) (q := 3) rfl rfl rfl hx2) ?_
    obtain rfl := Option.some.inj h
    exact Qm rfl rfl (resA (vs := [v2, vI (0 : Int)]) rfl ⟨rfl, rfl, trivial⟩) [0, 1, 2] [] rfl rfl rfl ⟨v2, rfl, rfl, rfl⟩

set_option maxRecDepth 100000 in
set_option maxHeartbeats 4000000 in
theorem Yq {b : List UInt8} {atp1 : Int} {np2 : Int} {vb1 : Value} {r : UInt64} (h : YS b atp1 np2 = some r) :
  Ctr Try.prog 99 #[vb1, vI atp1, vI np2] [] [Fact.sl u8S vb1 b]
   (fun rv own shr => rv = vU64 r ∧ own = [] ∧ shr = []) := by
 unfold YS at h
 refine Ctr.mk (args := [vb1, vI atp1, vI np2]) Try.func99 rfl rfl (fun R0 w0 B => ?_)
 refine Qe (Qb (sAs rfl rfl rfl ?_))
 refine Qc (tZ [0, 1, 2] [] [0] rfl rfl rfl rfl ?_)
 refine Qe (Qb (sAs rfl rfl rfl ?_))
 refine Qc (Qe (Qe (Qb (sMv rfl rfl rfl ?_))))
 refine Qa rfl (Qg rfl rfl rfl rfl rfl (Yy (a := np2) (b := (1 : Int)))) ?_
 refine sAs rfl rfl rfl ?_
 refine Qc (tZ [0, 1, 7, 8] [] [0] rfl rfl rfl rfl ?_)
 refine QJ (Zx (σ := UInt64 × Int) [0, 1, 7, 8] [] [0] (fun s => ⟨[(0, some vb1), (1, some (vI atp1)), (7, some (vU64 s.1)), (8, some (vI s.2))], [], [Fact.sl u8S vb1 b]⟩) (fun nf1 s => ref_get03L1 b atp1 nf1 s.1 s.2 = some r) fuel ((0 : UInt64), wi (np2 - (1 : Int))) h rfl rfl rfl rfl rfl (fun s h => by cases h) ?_)
 rintro nf1 ⟨v1, i1⟩ h
 replace h : ref_get03L1B b atp1 (ref_get03L1 b atp1 nf1) v1 i1 = some r := h
 unfold ref_get03L1B at h
 refine Qe (Qe (Qb (sMv rfl rfl rfl ?_)))
 refine Qa rfl (Qg rfl rfl rfl rfl rfl (Xl (a := i1) (b := (0 : Int)))) ?_
 refine Qc (tZ [0, 1, 7, 8, 12] [] [0] rfl rfl rfl rfl ?_)
 rcases bC (decide (i1 ≥ (0 : Int))) with hg1 | hg1
 ·replace h := br_t hg1 h
  refine Qk (cgb hg1) ?_
  refine Qs (Qe (QJ (Qb (sMv rfl rfl rfl ?_))))
  refine Qa rfl (Qg rfl rfl rfl rfl rfl (Zz (a := (256 : UInt64)) (b := v1))) ?_
  refine sMv rfl rfl rfl ?_
  refine sMv rfl rfl rfl ?_
  refine sMv rfl rfl rfl ?_
  refine Qa rfl (Qg rfl rfl rfl rfl rfl (QO (a := atp1) (b := i1))) ?_
  obtain ⟨y1, hx1, h⟩ := ob_e h
  refine Qx rfl (Zf rfl rfl rfl rfl rfl slF39 (i := 0) rfl hx1) fun p1 => ?_
  refine Qa rfl (Zn rfl rfl rfl rfl tyF5 (i := 1) rfl rfl) ?_
  refine Qa rfl (QU rfl rfl rfl rfl (cnv_u8_u64 (n := y1) Try.underlying5 Try.underlying27)) ?_
  refine Qa rfl (Qg rfl rfl rfl rfl rfl (QQ (a := (256 : UInt64) * v1) (b := y1.toUInt64))) ?_
  refine sAs rfl rfl rfl ?_
  refine Qc (tZ [0, 1, 7, 8] [] [0] rfl rfl rfl rfl ?_)
  refine ZD (Qb (sMv rfl rfl rfl ?_))
  refine Qa rfl (Qg rfl rfl rfl rfl rfl (Yy (a := i1) (b := (1 : Int)))) ?_
  refine sAs rfl rfl rfl ?_
  refine Qc (tZ [0, 1, 7, 8] [] [0] rfl rfl rfl rfl ?_)
  exact Ze (((256 : UInt64) * v1) + y1.toUInt64, wi (i1 - (1 : Int))) h [0, 1, 7, 8] [] [0] rfl rfl rfl rfl rfl
 ·replace h := br_f hg1 h
  refine Qo (cgb hg1) ?_
  refine ZA _ rfl ?_
  refine Qe (Qb (sMv rfl rfl rfl ?_))
  refine sAs rfl rfl rfl ?_
  refine Qc (tZ [6] [] [] rfl rfl rfl rfl ?_)
  obtain rfl := Option.some.inj h
  exact Qm rfl rfl (resA (vs := [vU64 v1]) rfl ⟨rfl, trivial⟩) [] [] rfl rfl rfl ⟨rfl, rfl, rfl⟩

set_option maxRecDepth 100000 in
set_option maxHeartbeats 4000000 in
theorem w_ref_Read03 {b : List UInt8} {vb1 : Value} {r : (Desc × Int)} (h : ref_Read03 b = some r) :
  Ctr Try.prog 115 #[vb1] [] [Fact.sl u8S vb1 b]
   (fun rv own shr => rv = .tuple #[.agg #[vU64 r.1.Addr, vU32 r.1.Len, vU16 r.1.Flags, vU16 r.1.Next], vI r.2] ∧ own = [] ∧ shr = []) := by
 unfold ref_Read03 at h
 refine Ctr.mk (args := [vb1]) Try.func115 rfl rfl (fun R0 w0 B => ?_)
 refine Qe (Qb (Qx rfl (QK rfl rfl rfl tyZ36) fun b1 => ?_))
 refine sAs rfl rfl rfl ?_
 refine Qc (tZ [0, 2] [0] [0] rfl rfl rfl rfl ?_)
 refine Qe (Qe (Qb (sMv rfl rfl rfl ?_)))
 refine Qa rfl (Zq rfl rfl rfl rfl Try.underlying39 (i := 0) rfl) ?_
 refine Qa rfl (Qg rfl rfl rfl rfl rfl (QN (a := len b) (b := (16 : Int)))) ?_
 refine Qc (tZ [0, 2, 6] [0] [0] rfl rfl rfl rfl ?_)
 rcases bC ((len b) != (16 : Int)) with hg1 | hg1
 ·replace h := br_t hg1 h
  refine Qk (cgb hg1) ?_
  refine Qe (Qb (Qa rfl (QL (v := .agg #[vU64 (0 : UInt64), vU32 (0 : UInt32), vU16 (0 : UInt16), vU16 (0 : UInt16)]) rfl rfl rfl rfl (bldV (by kernel_rfl))) ?_))
  refine Qa rfl (Qq (cs' := [vU64 (0 : UInt64), vU32 (0 : UInt32), vU16 (0 : UInt16), vU16 (0 : UInt16)]) rfl rfl rfl rfl tyF36 (i := 0) rfl rfl rfl (QF rfl) rfl) ?_
  refine sAs rfl rfl rfl ?_
  refine Qc (tZ [2, 3] [0] [] rfl rfl rfl rfl ?_)
  obtain rfl := Option.some.inj h
  exact Qm rfl rfl (resA (vs := [.agg #[vU64 (0 : UInt64), vU32 (0 : UInt32), vU16 (0 : UInt16), vU16 (0 : UInt16)], vI (4 : Int)]) rfl ⟨⟨_, 0, _, _, _, rfl, rfl, .inl ⟨tyF36, rfl, rfl⟩⟩, rfl, trivial⟩) [] [] rfl rfl rfl ⟨rfl, rfl, rfl⟩
 ·replace h := br_f hg1 h
  refine Qo (cgb hg1) ?_
  refine Qs (Qe (Qb (sMv rfl rfl rfl ?_)))
  obtain ⟨get1, hx1, h⟩ := ob_e h
  refine Qr rfl (QD (Yq hx1) [] [0] rfl rfl rfl rfl rfl callee99 rfl rfl rfl rfl) ?_
  rintro _ ⟨_, _, _, ⟨rfl, rfl, rfl⟩, rfl⟩
  refine sMv rfl rfl rfl ?_
  obtain ⟨get2, hx2, h⟩ := ob_e h
  refine Qr rfl (QD (Yq hx2) [] [0] rfl rfl rfl rfl rfl callee99 rfl rfl rfl rfl) ?_
  rintro _ ⟨_, _, _, ⟨rfl, rfl, rfl⟩, rfl⟩
  refine Qa rfl (QU rfl rfl rfl rfl (cnv_u64_u32 (n := get2) Try.underlying27 Try.underlying33)) ?_
  refine sMv rfl rfl rfl ?_
  obtain ⟨get3, hx3, h⟩ := ob_e h
  refine Qr rfl (QD (Yq hx3) [] [0] rfl rfl rfl rfl rfl callee99 rfl rfl rfl rfl) ?_
  rintro _ ⟨_, _, _, ⟨rfl, rfl, rfl⟩, rfl⟩
  refine Qa rfl (QU rfl rfl rfl rfl (Yx (n := get3) Try.underlying27 Try.underlying34)) ?_
  refine sMv rfl rfl rfl ?_
  obtain ⟨get4, hx4, h⟩ := ob_e h
  refine Qr rfl (QD (Yq hx4) [] [0] rfl rfl rfl rfl rfl callee99 rfl rfl rfl rfl) ?_
  rintro _ ⟨_, _, _, ⟨rfl, rfl, rfl⟩, rfl⟩
  refine Qa rfl (QU rfl rfl rfl rfl (Yx (n := get4) Try.underlying27 Try.underlying34)) ?_
  refine Qa rfl (QL (v := .agg #[vU64 get1, vU32 get2.toUInt32, vU16 get3.toUInt16, vU16 get4.toUInt16]) rfl rfl rfl rfl (bldV (by kernel_rfl))) ?_
  refine Qa rfl (Qq (cs' := [vU64 get1, vU32 get2.toUInt32, vU16 get3.toUInt16, vU16 get4.toUInt16]) rfl rfl rfl rfl tyF36 (i := 0) rfl rfl rfl (QF rfl) rfl) ?_
  refine sAs rfl rfl rfl ?_
  refine Qc (tZ [2, 3] [0] [] rfl rfl rfl rfl ?_)
  obtain rfl := Option.some.inj h
  exact Qm rfl rfl (resA (vs := [.agg #[vU64 get1, vU32 get2.toUInt32, vU16 get3.toUInt16, vU16 get4.toUInt16], vI (0 : Int)]) rfl ⟨⟨_, 0, _, _, _, rfl, rfl, .inl ⟨tyF36, rfl, rfl⟩⟩, rfl, trivial⟩) [] [] rfl rfl rfl ⟨rfl, rfl, rfl⟩

set_option maxRecDepth 100000 in
set_option maxHeartbeats 4000000 in
theorem w_ref_reader_desc10 {arg0 : dumbwaiterref10_reader} {arg0_m : dumbwaiterref02_Mem} {atp1 : UInt64} {b_arg0 : Nat} {b_arg0_m : Nat} {varg0m1 : Value} {varg0m2 : Value} {vsarg0m1 : List Value} {varg01 : Value} {r : (Desc × Bool × dumbwaiterref10_reader)} (h : Xt arg0 arg0_m atp1 = some r) :
  Ctr Try.prog 94 #[.pointer (some ⟨b_arg0, 0, none⟩), vU64 atp1] [(Ql b_arg0 118 [.pointer (some ⟨b_arg0_m, 0, none⟩), varg01, vI arg0.n, vI arg0.e]), (rowS SegS varg01 arg0.segs), (Ql b_arg0_m 152 [varg0m1, varg0m2]), (QI u8S false varg0m2 vsarg0m1 arg0_m.B none)] [Fact.sl Qv varg0m1 arg0_m.L]
   (fun rv own shr => ∃ (w1 : Value), rv = .tuple #[.agg #[vU64 r.1.Addr, vU32 r.1.Len, vU16 r.1.Flags, vU16 r.1.Next], vB r.2.1] ∧ own = [(Ql b_arg0 118 [.pointer (some ⟨b_arg0_m, 0, none⟩), w1, vI r.2.2.n, vI r.2.2.e]), (rowS SegS w1 r.2.2.segs), (Ql b_arg0_m 152 [varg0m1, varg0m2]), (QI u8S false varg0m2 vsarg0m1 arg0_m.B none)] ∧ shr = []) := by
 unfold Xt at h
 refine Ctr.mk (args := [.pointer (some ⟨b_arg0, 0, none⟩), vU64 atp1]) Try.func94 rfl rfl (fun R0 w0 B => ?_)
 refine Qe (Qb (Qx rfl (QK rfl rfl rfl tyZ36) fun b1 => ?_))
 refine sAs rfl rfl rfl ?_
 refine Qc (tZ [0, 1, 4] [0, 1, 2, 3, 4] [0] rfl rfl rfl rfl ?_)
 refine Qe (Qb (sMv rfl rfl rfl ?_))
 refine Qa rfl (Qy rfl rfl rfl rfl) ?_
 refine Qa rfl (Qi rfl rfl rfl rfl fldF118x0) ?_
 refine Qa rfl (Qj rfl rfl rfl rfl tyF26 (i := 0) rfl rfl) ?_
 refine sMv rfl rfl rfl ?_
 obtain ⟨Xe, hx1, h⟩ := ob_e h
 refine Qr rfl (Qw [0, 1, 5, 6, 4, 7] (w_ref_Mem_Read02 hx1) [2, 3] [0] rfl rfl rfl rfl rfl callee55 rfl rfl rfl rfl rfl) ?_
 rintro _ ⟨_, _, _, ⟨v1, rfl, rfl, rfl⟩, rfl⟩
 refine sMv rfl rfl rfl ?_
 refine Qa rfl (Qp rfl rfl rfl rfl rfl) ?_
 refine Qa rfl (Qp rfl rfl rfl rfl rfl) ?_
 refine sAs rfl rfl rfl ?_
 refine sAs rfl rfl rfl ?_
 refine Qc (tZ [0, 4, 6, 7] [0, 1, 2, 3, 4, 5] [0] rfl rfl rfl rfl ?_)
 refine Qe (Qe (Qb (sMv rfl rfl rfl ?_)))
 refine Qa rfl (Qg rfl rfl rfl rfl rfl (QN (a := Xe.2) (b := (0 : Int)))) ?_
 refine Qc (tZ [0, 4, 6, 20] [0, 1, 2, 3, 4, 5] [0] rfl rfl rfl rfl ?_)
 rcases bC (Xe.2 != (0 : Int)) with hg1 | hg1
 ·replace h := br_t hg1 h
  refine Qk (cgb hg1) ?_
  refine Qe (Qb (sMv rfl rfl rfl ?_))
  obtain ⟨stop1, hx2, h⟩ := ob_e h
  refine Qr rfl (Qw [6, 7, 8, 9, 4, 5] (QG hx2) [0, 1, 2, 3] [0] rfl rfl rfl rfl rfl Xa rfl rfl rfl rfl rfl) ?_
  rintro _ ⟨_, _, _, ⟨v2, rfl, rfl, rfl⟩, rfl⟩
  refine Qc (tZ [4] [0, 1, 2, 3, 4] [0] rfl rfl rfl rfl ?_)
  refine Qe (Qb (Qa rfl (QL (v := .agg #[vU64 (0 : UInt64), vU32 (0 : UInt32), vU16 (0 : UInt16), vU16 (0 : UInt16)]) rfl rfl rfl rfl (bldV (by kernel_rfl))) ?_))
  refine Qa rfl (Qq (cs' := [vU64 (0 : UInt64), vU32 (0 : UInt32), vU16 (0 : UInt16), vU16 (0 : UInt16)]) rfl rfl rfl rfl tyF36 (i := 4) rfl rfl rfl (QF rfl) rfl) ?_
  refine sAs rfl rfl rfl ?_
  refine Qc (tZ [4, 5] [0, 1, 2, 3, 4] [0] rfl rfl rfl rfl ?_)
  obtain rfl := Option.some.inj h
  exact Qm rfl rfl (resA (vs := [.agg #[vU64 (0 : UInt64), vU32 (0 : UInt32), vU16 (0 : UInt16), vU16 (0 : UInt16)], vB false]) rfl ⟨⟨_, 4, _, _, _, rfl, rfl, .inl ⟨tyF36, rfl, rfl⟩⟩, rfl, trivial⟩) [0, 1, 2, 3] [] rfl rfl rfl ⟨v2, rfl, rfl, rfl⟩
 ·replace h := br_f hg1 h
  refine Qo (cgb hg1) ?_
  refine Qs (Qe (Qb (sMv rfl rfl rfl ?_)))
  refine Qa rfl (Qy rfl rfl rfl rfl) ?_
  refine Qa rfl (Qi rfl rfl rfl rfl fldF118x2) ?_
  refine Qa rfl (Qj rfl rfl rfl rfl tyF3 (i := 0) rfl rfl) ?_
  refine Qa rfl (Qg rfl rfl rfl rfl rfl (QO (a := arg0.n) (b := (1 : Int)))) ?_
  refine Qa rfl (Qy rfl rfl rfl rfl) ?_
  refine Qa rfl (Qi rfl rfl rfl rfl fldF118x2) ?_
  refine Qa rfl (Qq (cs' := [.pointer (some ⟨b_arg0_m, 0, none⟩), varg01, vI (wi (arg0.n + (1 : Int))), vI arg0.e]) rfl rfl rfl rfl tyF3 (i := 0) rfl rfl rfl (QF rfl) rfl) ?_
  refine Qc (tZ [4, 6] [0, 1, 2, 3, 4, 5] [0] rfl rfl rfl rfl ?_)
  refine Qe (Qb (sMv rfl rfl rfl ?_))
  obtain ⟨read2, hx3, h⟩ := ob_e h
  refine Qr rfl (ZU [5] [0, 1, 2, 3, 4, 5] (w_ref_Read03 hx3) [] rfl rfl rfl rfl rfl callee115 rfl rfl rfl rfl rfl rfl (Zu (Yj 5 rfl rfl) Ye) (by rintro _ _ _ ⟨rfl, rfl, rfl⟩; exact ⟨rfl, Ko⟩)) ?_
  rintro _ ⟨_, _, _, ⟨rfl, rfl, rfl⟩, rfl⟩
  refine sMv rfl rfl rfl ?_
  refine Qa rfl (Qp rfl rfl rfl rfl rfl) ?_
  refine Qa rfl (Qp rfl rfl rfl rfl rfl) ?_
  refine Qx rfl (QK rfl rfl rfl tyZ36) fun b2 => ?_
  refine Qa rfl (Qq (cs' := [vU64 read2.1.Addr, vU32 read2.1.Len, vU16 read2.1.Flags, vU16 read2.1.Next]) rfl rfl rfl rfl tyF36 (i := 6) rfl rfl rfl (QF rfl) rfl) ?_
  refine sAs rfl rfl rfl ?_
  refine Qc (tZ [4, 8] [0, 1, 2, 3, 4, 6] [0] rfl rfl rfl rfl ?_)
  refine Qe (Qb (Qa rfl (QA (vs := [vU64 read2.1.Addr, vU32 read2.1.Len, vU16 read2.1.Flags, vU16 read2.1.Next]) rfl rfl rfl rfl tyF36 (i := 5) rfl rfl rfl) ?_))
  refine Qa rfl (Qq (cs' := [vU64 read2.1.Addr, vU32 read2.1.Len, vU16 read2.1.Flags, vU16 read2.1.Next]) rfl rfl rfl rfl tyF36 (i := 4) rfl rfl rfl (QF rfl) rfl) ?_
  refine sAs rfl rfl rfl ?_
  refine Qc (tZ [4, 5] [0, 1, 2, 3, 4] [0] rfl rfl rfl rfl ?_)
  obtain rfl := Option.some.inj h
  exact Qm rfl rfl (resA (vs := [.agg #[vU64 read2.1.Addr, vU32 read2.1.Len, vU16 read2.1.Flags, vU16 read2.1.Next], vB true]) rfl ⟨⟨_, 4, _, _, _, rfl, rfl, .inl ⟨tyF36, rfl, rfl⟩⟩, rfl, trivial⟩) [0, 1, 2, 3] [] rfl rfl rfl ⟨varg01, rfl, rfl, rfl⟩

set_option maxRecDepth 100000 in
set_option maxHeartbeats 4000000 in
theorem w_ref_Mem_Has02 {m : dumbwaiterref02_Mem} {atp1 : UInt64} {np2 : UInt64} {b_m : Nat} {vm1 : Value} {vm2 : Value} {vsm1 : List Value} {r : Bool} (h : YF m atp1 np2 = some r) :
  Ctr Try.prog 116 #[.pointer (some ⟨b_m, 0, none⟩), vU64 atp1, vU64 np2] [(Ql b_m 152 [vm1, vm2]), (QI u8S false vm2 vsm1 m.B none)] [Fact.sl Qv vm1 m.L]
   (fun rv own shr => rv = vB r ∧ own = [(Ql b_m 152 [vm1, vm2]), (QI u8S false vm2 vsm1 m.B none)] ∧ shr = []) := by
 unfold YF at h
 refine Ctr.mk (args := [.pointer (some ⟨b_m, 0, none⟩), vU64 atp1, vU64 np2]) Try.func116 rfl rfl (fun R0 w0 B => ?_)
 refine Qe (Qb (sAs rfl rfl rfl ?_))
 refine Qc (tZ [0, 1, 2] [0, 1] [0] rfl rfl rfl rfl ?_)
 refine Qe (Qb (sMv rfl rfl rfl ?_))
 refine sMv rfl rfl rfl ?_
 refine sMv rfl rfl rfl ?_
 obtain ⟨Xz, hx1, h⟩ := ob_e h
 refine Qr rfl (Qw [2, 3] (w_ref_Mem_find02 hx1) [0, 1] [0] rfl rfl rfl rfl rfl callee79 rfl rfl rfl rfl rfl) ?_
 rintro _ ⟨_, _, _, ⟨rfl, rfl, rfl⟩, rfl⟩
 refine sMv rfl rfl rfl ?_
 refine Qa rfl (Qp rfl rfl rfl rfl rfl) ?_
 refine Qa rfl (Qp rfl rfl rfl rfl rfl) ?_
 refine sAs rfl rfl rfl ?_
 refine sAs rfl rfl rfl ?_
 refine Qc (tZ [7] [0, 1] [0] rfl rfl rfl rfl ?_)
 refine Qe (Qb (sMv rfl rfl rfl ?_))
 refine Qa rfl (Qg rfl rfl rfl rfl rfl (Xl (a := Xz.1) (b := (0 : Int)))) ?_
 refine sAs rfl rfl rfl ?_
 refine Qc (tZ [6] [0, 1] [0] rfl rfl rfl rfl ?_)
 obtain rfl := Option.some.inj h
 exact Qm rfl rfl (resA (vs := [vB (decide (Xz.1 ≥ (0 : Int)))]) rfl ⟨rfl, trivial⟩) [0, 1] [] rfl rfl rfl ⟨rfl, rfl, rfl⟩

set_option maxRecDepth 100000 in
set_option maxHeartbeats 4000000 in
theorem w_ref_reader_entries10 {arg0 : dumbwaiterref10_reader} {arg0_m : dumbwaiterref02_Mem} {atp1 : UInt64} {np2 : UInt32} {b_arg0 : Nat} {b_arg0_m : Nat} {varg0m1 : Value} {varg0m2 : Value} {vsarg0m1 : List Value} {varg01 : Value} {r : (Int × Bool × dumbwaiterref10_reader)} (h : ZV arg0 arg0_m atp1 np2 = some r) :
  Ctr Try.prog 100 #[.pointer (some ⟨b_arg0, 0, none⟩), vU64 atp1, vU32 np2] [(Ql b_arg0 118 [.pointer (some ⟨b_arg0_m, 0, none⟩), varg01, vI arg0.n, vI arg0.e]), (rowS SegS varg01 arg0.segs), (Ql b_arg0_m 152 [varg0m1, varg0m2]), (QI u8S false varg0m2 vsarg0m1 arg0_m.B none)] [Fact.sl Qv varg0m1 arg0_m.L]
   (fun rv own shr => ∃ (w1 : Value), rv = .tuple #[vI r.1, vB r.2.1] ∧ own = [(Ql b_arg0 118 [.pointer (some ⟨b_arg0_m, 0, none⟩), w1, vI r.2.2.n, vI r.2.2.e]), (rowS SegS w1 r.2.2.segs), (Ql b_arg0_m 152 [varg0m1, varg0m2]), (QI u8S false varg0m2 vsarg0m1 arg0_m.B none)] ∧ shr = []) := by
 unfold ZV at h
 refine Ctr.mk (args := [.pointer (some ⟨b_arg0, 0, none⟩), vU64 atp1, vU32 np2]) Try.func100 rfl rfl (fun R0 w0 B => ?_)
 refine Qe (Qb (sAs rfl rfl rfl ?_))
 refine sAs rfl rfl rfl ?_
 refine Qc (tZ [0, 1, 2] [0, 1, 2, 3] [0] rfl rfl rfl rfl ?_)
 refine Qe (Qe (Qb (sMv rfl rfl rfl ?_)))
 refine Qa rfl (Qg rfl rfl rfl rfl rfl (bin_eql_u32 (a := np2) (b := (0 : UInt32)))) ?_
 refine sMv rfl rfl rfl ?_
 rcases bC (np2 == (0 : UInt32)) with hg1 | hg1
 ·replace h := br_t hg1 h
  refine Qf rfl rfl (cgb hg1) rfl rfl ?_
  refine Qf rfl rfl (cgb hg1) rfl rfl ?_
  refine Qf rfl rfl (cgb hg1) rfl rfl ?_
  refine Qa rfl (Qt rfl rfl rfl (cgb hg1) rfl) ?_
  refine sMv rfl rfl rfl ?_
  refine Qf rfl rfl rfl rfl rfl ?_
  refine Qf rfl rfl rfl rfl rfl ?_
  refine Qf rfl rfl rfl rfl rfl ?_
  refine Qa rfl (Qt rfl rfl rfl rfl rfl) ?_
  refine Qc (tZ [0, 1, 2, 19] [0, 1, 2, 3] [0] rfl rfl rfl rfl ?_)
  refine Qk rfl ?_
  refine Qe (Qb (sMv rfl rfl rfl ?_))
  obtain ⟨stop1, hx1, h⟩ := ob_e h
  refine Qr rfl (Qw [4, 5, 6, 7] (QG hx1) [0, 1, 2, 3] [0] rfl rfl rfl rfl rfl Xa rfl rfl rfl rfl rfl) ?_
  rintro _ ⟨_, _, _, ⟨v1, rfl, rfl, rfl⟩, rfl⟩
  refine Qc (tZ [] [0, 1, 2, 3] [0] rfl rfl rfl rfl ?_)
  refine Qe (Qb (sAs rfl rfl rfl ?_))
  refine sAs rfl rfl rfl ?_
  refine Qc ?_
  obtain rfl := Option.some.inj h
  exact Qm rfl rfl (resA (vs := [vI (0 : Int), vB false]) rfl ⟨rfl, rfl, trivial⟩) [0, 1, 2, 3] [] rfl rfl rfl ⟨v1, rfl, rfl, rfl⟩
 ·replace h := br_f hg1 h
  refine Qh rfl rfl (cgb hg1) (Qn rfl rfl rfl rfl) ?_
  rintro _ rfl
  refine Qh rfl rfl (cgb hg1) (Qg rfl rfl rfl rfl rfl (bin_rem_u32 (a := np2) (b := (16 : UInt32)) rfl)) ?_
  rintro _ rfl
  refine Qh rfl rfl (cgb hg1) (Qg rfl rfl rfl rfl rfl (bin_neq_u32 (a := np2 % (16 : UInt32)) (b := (0 : UInt32)))) ?_
  rintro _ rfl
  refine Qa rfl (Qu rfl rfl rfl (cgb hg1) rfl) ?_
  refine sMv rfl rfl rfl ?_
  rcases bC ((np2 % (16 : UInt32)) != (0 : UInt32)) with hg2 | hg2
  ·replace h := br_t hg2 h
   refine Qf rfl rfl (cgb hg2) rfl rfl ?_
   refine Qf rfl rfl (cgb hg2) rfl rfl ?_
   refine Qf rfl rfl (cgb hg2) rfl rfl ?_
   refine Qa rfl (Qt rfl rfl rfl (cgb hg2) rfl) ?_
   refine Qc (tZ [0, 1, 2, 19] [0, 1, 2, 3] [0] rfl rfl rfl rfl ?_)
   refine Qk rfl ?_
   refine Qe (Qb (sMv rfl rfl rfl ?_))
   obtain ⟨stop2, hx2, h⟩ := ob_e h
   refine Qr rfl (Qw [4, 5, 6, 7] (QG hx2) [0, 1, 2, 3] [0] rfl rfl rfl rfl rfl Xa rfl rfl rfl rfl rfl) ?_
   rintro _ ⟨_, _, _, ⟨v2, rfl, rfl, rfl⟩, rfl⟩
   refine Qc (tZ [] [0, 1, 2, 3] [0] rfl rfl rfl rfl ?_)
   refine Qe (Qb (sAs rfl rfl rfl ?_))
   refine sAs rfl rfl rfl ?_
   refine Qc ?_
   obtain rfl := Option.some.inj h
   exact Qm rfl rfl (resA (vs := [vI (0 : Int), vB false]) rfl ⟨rfl, rfl, trivial⟩) [0, 1, 2, 3] [] rfl rfl rfl ⟨v2, rfl, rfl, rfl⟩
  ·replace h := br_f hg2 h
   refine Qh rfl rfl (cgb hg2) (Qn rfl rfl rfl rfl) ?_
   rintro _ rfl
   refine Qh rfl rfl (cgb hg2) (Qg rfl rfl rfl rfl rfl (bin_quo_u32 (a := np2) (b := (16 : UInt32)) rfl)) ?_
   rintro _ rfl
   refine Qh rfl rfl (cgb hg2) (Qg rfl rfl rfl rfl rfl (bin_gtr_u32 (a := np2 / (16 : UInt32)) (b := (64 : UInt32)))) ?_
   rintro _ rfl
   refine Qa rfl (Qu rfl rfl rfl (cgb hg2) rfl) ?_
   refine Qc (tZ [0, 1, 2, 19] [0, 1, 2, 3] [0] rfl rfl rfl rfl ?_)
   rcases bC (decide ((np2 / (16 : UInt32)) > (64 : UInt32))) with hg3 | hg3
   ·replace h := br_t hg3 h
    refine Qk (cgb hg3) ?_
    refine Qe (Qb (sMv rfl rfl rfl ?_))
    obtain ⟨stop3, hx3, h⟩ := ob_e h
    refine Qr rfl (Qw [4, 5, 6, 7] (QG hx3) [0, 1, 2, 3] [0] rfl rfl rfl rfl rfl Xa rfl rfl rfl rfl rfl) ?_
    rintro _ ⟨_, _, _, ⟨v3, rfl, rfl, rfl⟩, rfl⟩
    refine Qc (tZ [] [0, 1, 2, 3] [0] rfl rfl rfl rfl ?_)
    refine Qe (Qb (sAs rfl rfl rfl ?_))
    refine sAs rfl rfl rfl ?_
    refine Qc ?_
    obtain rfl := Option.some.inj h
    exact Qm rfl rfl (resA (vs := [vI (0 : Int), vB false]) rfl ⟨rfl, rfl, trivial⟩) [0, 1, 2, 3] [] rfl rfl rfl ⟨v3, rfl, rfl, rfl⟩
   ·replace h := br_f hg3 h
    refine Qo (cgb hg3) ?_
    refine Qs (Qe (Qe (Qb (sMv rfl rfl rfl ?_))))
    refine Qa rfl (Qy rfl rfl rfl rfl) ?_
    refine Qa rfl (Qi rfl rfl rfl rfl fldF118x0) ?_
    refine Qa rfl (Qj rfl rfl rfl rfl tyF26 (i := 0) rfl rfl) ?_
    refine sMv rfl rfl rfl ?_
    refine sMv rfl rfl rfl ?_
    refine Qa rfl (QU rfl rfl rfl rfl (ZR (n := np2) Try.underlying33 Try.underlying27)) ?_
    obtain ⟨has1, hx4, h⟩ := ob_e h
    refine Qr rfl (Qw [0, 1, 4, 5] (w_ref_Mem_Has02 hx4) [2, 3] [0] rfl rfl rfl rfl rfl callee116 rfl rfl rfl rfl rfl) ?_
    rintro _ ⟨_, _, _, ⟨rfl, rfl, rfl⟩, rfl⟩
    refine Qa rfl (Xd rfl rfl rfl rfl) ?_
    refine Qc (tZ [0, 2, 30] [0, 1, 2, 3] [0] rfl rfl rfl rfl ?_)
    rcases bC ((!has1)) with hg4 | hg4
    ·replace h := br_t hg4 h
     refine Qk (cgb hg4) ?_
     refine Qe (Qb (sMv rfl rfl rfl ?_))
     obtain ⟨stop4, hx5, h⟩ := ob_e h
     refine Qr rfl (Qw [4, 5, 6, 7] (QG hx5) [0, 1, 2, 3] [0] rfl rfl rfl rfl rfl Xa rfl rfl rfl rfl rfl) ?_
     rintro _ ⟨_, _, _, ⟨v4, rfl, rfl, rfl⟩, rfl⟩
     refine Qc (tZ [] [0, 1, 2, 3] [0] rfl rfl rfl rfl ?_)
     refine Qe (Qb (sAs rfl rfl rfl ?_))
     refine sAs rfl rfl rfl ?_
     refine Qc ?_
     obtain rfl := Option.some.inj h
     exact Qm rfl rfl (resA (vs := [vI (0 : Int), vB false]) rfl ⟨rfl, rfl, trivial⟩) [0, 1, 2, 3] [] rfl rfl rfl ⟨v4, rfl, rfl, rfl⟩
    ·replace h := br_f hg4 h
     refine Qo (cgb hg4) ?_
     refine Qs (Qe (Qb (sMv rfl rfl rfl ?_)))
     refine Qa rfl (Qg rfl rfl rfl rfl rfl (bin_quo_u32 (a := np2) (b := (16 : UInt32)) rfl)) ?_
     refine Qa rfl (QU rfl rfl rfl rfl (cnv_u32_i (n := np2 / (16 : UInt32)) Try.underlying33 Try.underlying3)) ?_
     refine sAs rfl rfl rfl ?_
     refine sAs rfl rfl rfl ?_
     refine Qc (tZ [6, 7] [0, 1, 2, 3] [0] rfl rfl rfl rfl ?_)
     obtain rfl := Option.some.inj h
     exact Qm rfl rfl (resA (vs := [vI (i32 (np2 / (16 : UInt32))), vB true]) rfl ⟨rfl, rfl, trivial⟩) [0, 1, 2, 3] [] rfl rfl rfl ⟨varg01, rfl, rfl, rfl⟩

set_option maxRecDepth 100000 in
set_option maxHeartbeats 4000000 in
theorem Ym {arg0 : dumbwaiterref10_reader} {arg0_m : dumbwaiterref02_Mem} {atp1 : UInt64} {np2 : UInt32} {flags : UInt16} {b_arg0 : Nat} {b_arg0_m : Nat} {varg0m1 : Value} {varg0m2 : Value} {vsarg0m1 : List Value} {varg01 : Value} {r : dumbwaiterref10_reader} (h : ZC arg0 arg0_m atp1 np2 flags = some r) :
  Ctr Try.prog 59 #[.pointer (some ⟨b_arg0, 0, none⟩), vU64 atp1, vU32 np2, vU16 flags] [(Ql b_arg0 118 [.pointer (some ⟨b_arg0_m, 0, none⟩), varg01, vI arg0.n, vI arg0.e]), (rowS SegS varg01 arg0.segs), (Ql b_arg0_m 152 [varg0m1, varg0m2]), (QI u8S false varg0m2 vsarg0m1 arg0_m.B none)] [Fact.sl Qv varg0m1 arg0_m.L]
   (fun rv own shr => ∃ (w1 : Value), rv = .tuple #[] ∧ own = [(Ql b_arg0 118 [.pointer (some ⟨b_arg0_m, 0, none⟩), w1, vI r.n, vI r.e]), (rowS SegS w1 r.segs), (Ql b_arg0_m 152 [varg0m1, varg0m2]), (QI u8S false varg0m2 vsarg0m1 arg0_m.B none)] ∧ shr = []) := by
 unfold ZC at h
 refine Ctr.mk (args := [.pointer (some ⟨b_arg0, 0, none⟩), vU64 atp1, vU32 np2, vU16 flags]) Try.func59 rfl rfl (fun R0 w0 B => ?_)
 refine Qb (sMv rfl rfl rfl ?_)
 refine sMv rfl rfl rfl ?_
 refine Qa rfl (Qy rfl rfl rfl rfl) ?_
 refine Qa rfl (Qi rfl rfl rfl rfl fldF118x1) ?_
 refine Qa rfl (Qj rfl rfl rfl rfl tyF41 (i := 0) rfl rfl) ?_
 refine sMv rfl rfl rfl ?_
 refine sMv rfl rfl rfl ?_
 refine sMv rfl rfl rfl ?_
 refine Qa rfl (Qg rfl rfl rfl rfl rfl (Zp (a := flags) (b := (2 : UInt16)))) ?_
 refine Qa rfl (Qg rfl rfl rfl rfl rfl (ZS (a := flags &&& (2 : UInt16)) (b := (0 : UInt16)))) ?_
 refine Qa rfl (QL (v := .agg #[vU64 atp1, vU32 np2, vB ((flags &&& (2 : UInt16)) != (0 : UInt16))]) rfl rfl rfl rfl (bldV (by kernel_rfl))) ?_
 refine Qx rfl (QW (S := SegS) (xs := [(Seg.mk atp1 np2 ((flags &&& (2 : UInt16)) != (0 : UInt16)))]) (css := [[vU64 atp1, vU32 np2, vB ((flags &&& (2 : UInt16)) != (0 : UInt16))]]) (cs := [vU64 atp1, vU32 np2, vB ((flags &&& (2 : UInt16)) != (0 : UInt16))]) (e := 46) rfl rfl rfl rfl (bldF slF41 (by decide) (by kernel_rfl)) rfl rfl rfl rfl (ZF (S := SegS) (xs := [(Seg.mk atp1 np2 ((flags &&& (2 : UInt16)) != (0 : UInt16)))]) (css := [[vU64 atp1, vU32 np2, vB ((flags &&& (2 : UInt16)) != (0 : UInt16))]]) rfl rfl)) fun v1 => ?_
 obtain ⟨hc1, h⟩ := Xy h
 refine Qx rfl (YB (S := SegS) rfl rfl rfl rfl rfl rfl slF41 (i := 1) (j := 4) rfl rfl hc1) fun v2 => ?_
 refine Qa rfl (Qy rfl rfl rfl rfl) ?_
 refine Qa rfl (Qi rfl rfl rfl rfl fldF118x1) ?_
 refine Qa rfl (YJ (cs' := [.pointer (some ⟨b_arg0_m, 0, none⟩), v2, vI arg0.n, vI arg0.e]) rfl rfl rfl rfl tyF41 (i := 0) rfl (Kx (i := 1) rfl) rfl rfl) ?_
 refine Qc ?_
 obtain rfl := Option.some.inj h
 exact Tk_endV rfl rfl (resA (vs := []) rfl trivial) [0, 1, 2, 3] [] rfl rfl rfl ⟨v2, rfl, rfl, rfl⟩

set_option maxRecDepth 100000 in
set_option maxHeartbeats 4000000 in
theorem w_ref_reader_chain10ct4 {arg0 : dumbwaiterref10_reader} {arg0_m : dumbwaiterref02_Mem} {atp1 : UInt64} {size : Int} {head : Int} {table : Bool} {b_arg0 : Nat} {b_arg0_m : Nat} {varg0m1 : Value} {varg0m2 : Value} {vsarg0m1 : List Value} {varg01 : Value} {r : dumbwaiterref10_reader} (h : XE arg0 arg0_m atp1 size head table = some r) :
  Ctr Try.prog 51 #[.pointer (some ⟨b_arg0, 0, none⟩), vU64 atp1, vI size, vI head, vB true, vB table] [(Ql b_arg0 118 [.pointer (some ⟨b_arg0_m, 0, none⟩), varg01, vI arg0.n, vI arg0.e]), (rowS SegS varg01 arg0.segs), (Ql b_arg0_m 152 [varg0m1, varg0m2]), (QI u8S false varg0m2 vsarg0m1 arg0_m.B none)] [Fact.sl Qv varg0m1 arg0_m.L]
   (fun rv own shr => ∃ (w1 : Value), rv = .tuple #[] ∧ own = [(Ql b_arg0 118 [.pointer (some ⟨b_arg0_m, 0, none⟩), w1, vI r.n, vI r.e]), (rowS SegS w1 r.segs), (Ql b_arg0_m 152 [varg0m1, varg0m2]), (QI u8S false varg0m2 vsarg0m1 arg0_m.B none)] ∧ shr = []) := by
 unfold XE at h
 refine Ctr.mk (args := [.pointer (some ⟨b_arg0, 0, none⟩), vU64 atp1, vI size, vI head, vB true, vB table]) Try.func51 rfl rfl (fun R0 w0 B => ?_)
 refine Qe (Qb (sAs rfl rfl rfl ?_))
 refine Qc (Qe (Qb (sMv rfl rfl rfl ?_)))
 refine sAs rfl rfl rfl ?_
 refine Qc (tZ [0, 1, 2, 4, 5, 12, 13] [0, 1, 2, 3] [0] rfl rfl rfl rfl ?_)
 refine QJ (ZH iS ?_)
 refine Zx (σ := (List Seg) × Int × Int × (List Int) × Int × Value × Value) [0, 1, 2, 4, 5, 12, 13] [0, 2, 3, 1, 4] [0] (fun s => ⟨[(0, some (.pointer (some ⟨b_arg0, 0, none⟩))), (1, some (vU64 atp1)), (2, some (vI size)), (4, some (vB true)), (5, some (vB table)), (12, some (s.2.2.2.2.2.2)), (13, some (vI s.2.2.2.2.1))], [some (Ql b_arg0 118 [.pointer (some ⟨b_arg0_m, 0, none⟩), s.2.2.2.2.2.1, vI s.2.1, vI s.2.2.1]), some (Ql b_arg0_m 152 [varg0m1, varg0m2]), some (QI u8S false varg0m2 vsarg0m1 arg0_m.B none), some (rowS SegS s.2.2.2.2.2.1 s.1), some (rowS iS s.2.2.2.2.2.2 s.2.2.2.1)], [Fact.sl Qv varg0m1 arg0_m.L]⟩) (fun nf1 s => QY arg0_m atp1 size nf1 s.1 s.2.1 s.2.2.1 s.2.2.2.1 s.2.2.2.2.1 = some r) fuel (arg0.segs, arg0.n, arg0.e, [], head, varg01, (.slice none 0 0)) h rfl rfl rfl rfl rfl (fun s h => by cases h) ?_
 rintro nf1 ⟨l1, n1, e1, seen1, k1, v1, v2⟩ h
 replace h : Xg arg0_m atp1 size (QY arg0_m atp1 size nf1) l1 n1 e1 seen1 k1 = some r := h
 unfold Xg at h
 refine QJ (Qe (Qe (Qb (sAs rfl rfl rfl ?_))))
 refine Qc (QJ (Zx (σ := (List Seg) × Int × Int × (List Int) × Int × Value × Value) [0, 1, 2, 4, 5, 12, 13, 14] [0, 1, 2, 3, 4] [0] (fun s => ⟨[(0, some (.pointer (some ⟨b_arg0, 0, none⟩))), (1, some (vU64 atp1)), (2, some (vI size)), (4, some (vB true)), (5, some (vB table)), (12, some (s.2.2.2.2.2.2)), (13, some (vI k1)), (14, some (vI s.2.2.2.2.1))], [some (Ql b_arg0 118 [.pointer (some ⟨b_arg0_m, 0, none⟩), s.2.2.2.2.2.1, vI s.2.1, vI s.2.2.1]), some (Ql b_arg0_m 152 [varg0m1, varg0m2]), some (QI u8S false varg0m2 vsarg0m1 arg0_m.B none), some (rowS SegS s.2.2.2.2.2.1 s.1), some (rowS iS s.2.2.2.2.2.2 s.2.2.2.1)], [Fact.sl Qv varg0m1 arg0_m.L]⟩) (fun nf2 s => Zc arg0_m atp1 size k1 (QY arg0_m atp1 size nf1) nf2 s.1 s.2.1 s.2.2.1 s.2.2.2.1 s.2.2.2.2.1 = some r) fuel (l1, n1, e1, seen1, (0 : Int), v1, v2) h rfl rfl rfl rfl rfl (fun s h => by cases h) ?_))
 rintro nf2 ⟨l2, n2, e2, l3, i1, v3, v4⟩ h
 replace h : Zv arg0_m atp1 size k1 (QY arg0_m atp1 size nf1) (Zc arg0_m atp1 size k1 (QY arg0_m atp1 size nf1) nf2) l2 n2 e2 l3 i1 = some r := h
 unfold Zv at h
 refine Qe (Qe (Qb (sMv rfl rfl rfl ?_)))
 refine sMv rfl rfl rfl ?_
 refine Qa rfl (OpT_lenO rfl rfl rfl rfl Try.underlying32 (i := 4) rfl) ?_
 refine Qa rfl (Qg rfl rfl rfl rfl rfl (QP (a := i1) (b := len l3))) ?_
 refine Qc (tZ [0, 1, 2, 4, 5, 12, 13, 14, 21] [0, 1, 2, 3, 4] [0] rfl rfl rfl rfl ?_)
 rcases bC (decide (i1 < (len l3))) with hg1 | hg1
 ·replace h := br_t hg1 h
  refine Qk (cgb hg1) ?_
  refine Qs (Qe (QJ (Qe (Qb (sMv rfl rfl rfl ?_)))))
  refine sMv rfl rfl rfl ?_
  obtain ⟨y1, hx1, h⟩ := ob_e h
  refine Qa rfl (YY rfl rfl rfl rfl rfl slF32 (i := 4) rfl hx1) ?_
  refine Qa rfl (YA (S := iS) rfl rfl rfl rfl rfl tyF3 (i := 4) rfl hx1 rfl rfl) ?_
  refine sMv rfl rfl rfl ?_
  refine Qa rfl (Qg rfl rfl rfl rfl rfl (Zg (a := y1) (b := k1))) ?_
  refine Qc (tZ [0, 1, 2, 4, 5, 12, 13, 14, 29] [0, 1, 2, 3, 4] [0] rfl rfl rfl rfl ?_)
  rcases bC (y1 == k1) with hg2 | hg2
  ·replace h := br_t hg2 h
   refine Qk (cgb hg2) ?_
   refine Qe (Qb (sMv rfl rfl rfl ?_))
   obtain ⟨stop1, hx2, h⟩ := ob_e h
   refine Qr rfl (Qw [5, 7, 8, 6, 4] (QG hx2) [0, 3, 1, 2] [0] rfl rfl rfl rfl rfl Xa rfl rfl rfl rfl rfl) ?_
   rintro _ ⟨_, _, _, ⟨v5, rfl, rfl, rfl⟩, rfl⟩
   refine Qc (tZ [] [0, 1, 2, 3] [0] rfl rfl rfl rfl ?_)
   obtain rfl := Option.some.inj h
   exact Qm rfl rfl (resA (vs := []) rfl trivial) [0, 3, 1, 2] [] rfl rfl rfl ⟨v5, rfl, rfl, rfl⟩
  ·replace h := br_f hg2 h
   refine Qo (cgb hg2) ?_
   refine Qs (ZD (Qb (sMv rfl rfl rfl ?_)))
   refine Qa rfl (Qg rfl rfl rfl rfl rfl (QO (a := i1) (b := (1 : Int)))) ?_
   refine sAs rfl rfl rfl ?_
   refine Qc (tZ [0, 1, 2, 4, 5, 12, 13, 14] [0, 1, 2, 3, 4] [0] rfl rfl rfl rfl ?_)
   exact Ze (l2, n2, e2, l3, wi (i1 + (1 : Int)), v3, v4) h [0, 1, 2, 4, 5, 12, 13, 14] [0, 1, 2, 3, 4] [0] rfl rfl rfl rfl rfl
 ·replace h := br_f hg1 h
  refine Qo (cgb hg1) ?_
  refine ZA _ rfl ?_
  refine Qe (Qe (Qb (sMv rfl rfl rfl ?_)))
  refine Qa rfl (Qg rfl rfl rfl rfl rfl (QP (a := k1) (b := (0 : Int)))) ?_
  refine sMv rfl rfl rfl ?_
  rcases bC (decide (k1 < (0 : Int))) with hg3 | hg3
  ·replace h := br_t hg3 h
   refine Qf rfl rfl (cgb hg3) rfl rfl ?_
   refine Qf rfl rfl (cgb hg3) rfl rfl ?_
   refine Qf rfl rfl (cgb hg3) rfl rfl ?_
   refine Qa rfl (Qt rfl rfl rfl (cgb hg3) rfl) ?_
   refine Qc (tZ [0, 1, 2, 4, 5, 12, 13, 38] [0, 1, 2, 3, 4] [0] rfl rfl rfl rfl ?_)
   refine Qk rfl ?_
   refine Qe (Qb (sMv rfl rfl rfl ?_))
   obtain ⟨stop2, hx3, h⟩ := ob_e h
   refine Qr rfl (Qw [5, 7, 8, 6, 4] (QG hx3) [0, 3, 1, 2] [0] rfl rfl rfl rfl rfl Xa rfl rfl rfl rfl rfl) ?_
   rintro _ ⟨_, _, _, ⟨v6, rfl, rfl, rfl⟩, rfl⟩
   refine Qc (tZ [] [0, 1, 2, 3] [0] rfl rfl rfl rfl ?_)
   obtain rfl := Option.some.inj h
   exact Qm rfl rfl (resA (vs := []) rfl trivial) [0, 3, 1, 2] [] rfl rfl rfl ⟨v6, rfl, rfl, rfl⟩
  ·replace h := br_f hg3 h
   refine Qh rfl rfl (cgb hg3) (Qn rfl rfl rfl rfl) ?_
   rintro _ rfl
   refine Qh rfl rfl (cgb hg3) (Qn rfl rfl rfl rfl) ?_
   rintro _ rfl
   refine Qh rfl rfl (cgb hg3) (Qg rfl rfl rfl rfl rfl (Xl (a := k1) (b := size))) ?_
   rintro _ rfl
   refine Qa rfl (Qu rfl rfl rfl (cgb hg3) rfl) ?_
   refine Qc (tZ [0, 1, 2, 4, 5, 12, 13, 38] [0, 1, 2, 3, 4] [0] rfl rfl rfl rfl ?_)
   rcases bC (decide (k1 ≥ size)) with hg4 | hg4
   ·replace h := br_t hg4 h
    refine Qk (cgb hg4) ?_
    refine Qe (Qb (sMv rfl rfl rfl ?_))
    obtain ⟨stop3, hx4, h⟩ := ob_e h
    refine Qr rfl (Qw [5, 7, 8, 6, 4] (QG hx4) [0, 3, 1, 2] [0] rfl rfl rfl rfl rfl Xa rfl rfl rfl rfl rfl) ?_
    rintro _ ⟨_, _, _, ⟨v7, rfl, rfl, rfl⟩, rfl⟩
    refine Qc (tZ [] [0, 1, 2, 3] [0] rfl rfl rfl rfl ?_)
    obtain rfl := Option.some.inj h
    exact Qm rfl rfl (resA (vs := []) rfl trivial) [0, 3, 1, 2] [] rfl rfl rfl ⟨v7, rfl, rfl, rfl⟩
   ·replace h := br_f hg4 h
    refine Qo (cgb hg4) ?_
    refine Qs (Qe (Qb (sMv rfl rfl rfl ?_)))
    refine sMv rfl rfl rfl ?_
    refine Qx rfl (QW (S := iS) (xs := [k1]) (css := [[vI k1]]) (cs := [vI k1]) (e := 3) rfl rfl rfl rfl (bldF slF32 (by decide) (by kernel_rfl)) rfl rfl rfl rfl (ZF (S := iS) (xs := [k1]) (css := [[vI k1]]) rfl rfl)) fun v8 => ?_
    obtain ⟨hc1, h⟩ := Xy h
    refine Qx rfl (YB (S := iS) rfl rfl rfl rfl rfl rfl slF32 (i := 4) (j := 5) rfl rfl hc1) fun v9 => ?_
    refine sAs rfl rfl rfl ?_
    refine Qc (tZ [0, 1, 2, 4, 5, 12, 13] [0, 1, 2, 3, 4] [0] rfl rfl rfl rfl ?_)
    refine Qe (Qb (sMv rfl rfl rfl ?_))
    refine sMv rfl rfl rfl ?_
    refine sMv rfl rfl rfl ?_
    refine Qa rfl (QU rfl rfl rfl rfl (ZY (n := k1) Try.underlying3 Try.underlying27)) ?_
    refine Qa rfl (Qg rfl rfl rfl rfl rfl (Zz (a := (16 : UInt64)) (b := u64 k1))) ?_
    refine Qa rfl (Qg rfl rfl rfl rfl rfl (QQ (a := atp1) (b := (16 : UInt64) * (u64 k1)))) ?_
    obtain ⟨desc1, hx5, h⟩ := ob_e h
    refine Qr rfl (Qw [5, 7, 8, 6, 4] (w_ref_reader_desc10 hx5) [0, 3, 1, 2] [0] rfl rfl rfl rfl rfl callee94 rfl rfl rfl rfl rfl) ?_
    rintro _ ⟨_, _, _, ⟨v10, rfl, rfl, rfl⟩, rfl⟩
    refine sMv rfl rfl rfl ?_
    refine Qa rfl (Qp rfl rfl rfl rfl rfl) ?_
    refine Qa rfl (Qp rfl rfl rfl rfl rfl) ?_
    refine Qx rfl (QK rfl rfl rfl tyZ36) fun b1 => ?_
    refine Qa rfl (Qq (cs' := [vU64 desc1.1.Addr, vU32 desc1.1.Len, vU16 desc1.1.Flags, vU16 desc1.1.Next]) rfl rfl rfl rfl tyF36 (i := 5) rfl rfl rfl (QF rfl) rfl) ?_
    refine sAs rfl rfl rfl ?_
    refine Qc (tZ [0, 1, 2, 4, 5, 12, 15, 16] [0, 1, 2, 3, 4, 5] [0] rfl rfl rfl rfl ?_)
    refine Qe (Qe (Qb (sMv rfl rfl rfl ?_)))
    refine Qa rfl (Xd rfl rfl rfl rfl) ?_
    refine Qc (tZ [0, 1, 2, 4, 5, 12, 15, 56] [0, 1, 2, 3, 4, 5] [0] rfl rfl rfl rfl ?_)
    rcases bC ((!desc1.2.1)) with hg5 | hg5
    ·replace h := br_t hg5 h
     refine Qk (cgb hg5) ?_
     obtain rfl := Option.some.inj h
     exact Qm rfl rfl (resA (vs := []) rfl trivial) [0, 3, 1, 2] [] rfl rfl rfl ⟨v10, rfl, rfl, rfl⟩
    ·replace h := br_f hg5 h
     refine Qo (cgb hg5) ?_
     refine Qs (Qe (Qe (Qb (Qa rfl (Qi rfl rfl rfl rfl Yb) ?_))))
     refine Qa rfl (Qj rfl rfl rfl rfl Yn (i := 5) rfl rfl) ?_
     refine Qa rfl (Qg rfl rfl rfl rfl rfl (Zp (a := desc1.1.Flags) (b := (4 : UInt16)))) ?_
     refine Qa rfl (Qg rfl rfl rfl rfl rfl (ZS (a := desc1.1.Flags &&& (4 : UInt16)) (b := (0 : UInt16)))) ?_
     refine Qc (tZ [0, 1, 2, 4, 5, 12, 15, 60] [0, 1, 2, 3, 4, 5] [0] rfl rfl rfl rfl ?_)
     rcases bC ((desc1.1.Flags &&& (4 : UInt16)) != (0 : UInt16)) with hg6 | hg6
     ·replace h := br_t hg6 h
      refine Qk (cgb hg6) ?_
      refine Qe (Qe (Qb (sMv rfl rfl rfl ?_)))
      refine sMv rfl rfl rfl ?_
      refine Qf rfl rfl rfl rfl rfl ?_
      refine Qf rfl rfl rfl rfl rfl ?_
      refine Qa rfl (Qt rfl rfl rfl rfl rfl) ?_
      refine sMv rfl rfl rfl ?_
      refine Qf rfl rfl rfl rfl rfl ?_
      refine Qf rfl rfl rfl rfl rfl ?_
      refine Qf rfl rfl rfl rfl rfl ?_
      refine Qf rfl rfl rfl rfl rfl ?_
      refine Qa rfl (Qt rfl rfl rfl rfl rfl) ?_
      refine Qc (tZ [0, 15, 71] [0, 1, 2, 3, 5] [0] rfl rfl rfl rfl ?_)
      refine Qk rfl ?_
      refine Qe (Qb (sMv rfl rfl rfl ?_))
      obtain ⟨stop4, hx6, h⟩ := ob_e h
      refine Qr rfl (Qw [5, 7, 8, 6, 4] (QG hx6) [0, 3, 1, 2] [0] rfl rfl rfl rfl rfl Xa rfl rfl rfl rfl rfl) ?_
      rintro _ ⟨_, _, _, ⟨v11, rfl, rfl, rfl⟩, rfl⟩
      refine Qc (tZ [] [0, 1, 2, 3] [0] rfl rfl rfl rfl ?_)
      obtain rfl := Option.some.inj h
      exact Qm rfl rfl (resA (vs := []) rfl trivial) [0, 3, 1, 2] [] rfl rfl rfl ⟨v11, rfl, rfl, rfl⟩
     ·replace h := br_f hg6 h
      refine Qo (cgb hg6) ?_
      refine Qs (Qe (Qb (sMv rfl rfl rfl ?_)))
      refine Qa rfl (Qi rfl rfl rfl rfl fldF36x0) ?_
      refine Qa rfl (Qj rfl rfl rfl rfl QV (i := 5) rfl rfl) ?_
      refine Qa rfl (Qi rfl rfl rfl rfl fldF36x1) ?_
      refine Qa rfl (Qj rfl rfl rfl rfl tyF33 (i := 5) rfl rfl) ?_
      refine Qa rfl (Qi rfl rfl rfl rfl Yb) ?_
      refine Qa rfl (Qj rfl rfl rfl rfl Yn (i := 5) rfl rfl) ?_
      obtain ⟨seg1, hx7, h⟩ := ob_e h
      refine Qr rfl (Qw [6, 8, 9, 7, 4, 5] (Ym hx7) [0, 3, 1, 2] [0] rfl rfl rfl rfl rfl callee59 rfl rfl rfl rfl rfl) ?_
      rintro _ ⟨_, _, _, ⟨v12, rfl, rfl, rfl⟩, rfl⟩
      refine Qc (tZ [0, 1, 2, 4, 5, 12, 15] [0, 1, 2, 3, 4, 5] [0] rfl rfl rfl rfl ?_)
      refine Qe (Qe (Qb (Qa rfl (Qi rfl rfl rfl rfl Yb) ?_)))
      refine Qa rfl (Qj rfl rfl rfl rfl Yn (i := 5) rfl rfl) ?_
      refine Qa rfl (Qg rfl rfl rfl rfl rfl (Zp (a := desc1.1.Flags) (b := (1 : UInt16)))) ?_
      refine Qa rfl (Qg rfl rfl rfl rfl rfl (bin_eql_u16 (a := desc1.1.Flags &&& (1 : UInt16)) (b := (0 : UInt16)))) ?_
      refine Qc (tZ [0, 1, 2, 4, 5, 12, 15, 91] [0, 1, 2, 3, 4, 5] [0] rfl rfl rfl rfl ?_)
      rcases bC ((desc1.1.Flags &&& (1 : UInt16)) == (0 : UInt16)) with hg7 | hg7
      ·replace h := br_t hg7 h
       refine Qk (cgb hg7) ?_
       obtain rfl := Option.some.inj h
       exact Qm rfl rfl (resA (vs := []) rfl trivial) [0, 3, 1, 2] [] rfl rfl rfl ⟨v12, rfl, rfl, rfl⟩
      ·replace h := br_f hg7 h
       refine Qo (cgb hg7) ?_
       refine Qs (Qb (Qa rfl (Qi rfl rfl rfl rfl fldF36x3) ?_))
       refine Qa rfl (Qj rfl rfl rfl rfl Yn (i := 5) rfl rfl) ?_
       refine Qa rfl (QU rfl rfl rfl rfl (cnv_u16_i (n := desc1.1.Next) Try.underlying34 Try.underlying3)) ?_
       refine sAs rfl rfl rfl ?_
       refine Qc (tZ [0, 1, 2, 4, 5, 12, 13] [0, 1, 2, 3, 4] [0] rfl rfl rfl rfl ?_)
       refine ZD ?_
       exact Ze (seg1.segs, seg1.n, seg1.e, l3 ++ [k1], i16 desc1.1.Next, v12, v9) h [0, 1, 2, 4, 5, 12, 13] [0, 1, 2, 3, 4] [0] rfl rfl rfl rfl rfl

set_option maxRecDepth 100000 in
set_option maxHeartbeats 4000000 in
theorem w_ref_reader_table10 {arg0 : dumbwaiterref10_reader} {arg0_m : dumbwaiterref02_Mem} {atp1 : UInt64} {np2 : UInt32} {b_arg0 : Nat} {b_arg0_m : Nat} {varg0m1 : Value} {varg0m2 : Value} {vsarg0m1 : List Value} {varg01 : Value} {r : dumbwaiterref10_reader} (h : XD arg0 arg0_m atp1 np2 = some r) :
  Ctr Try.prog 95 #[.pointer (some ⟨b_arg0, 0, none⟩), vU64 atp1, vU32 np2] [(Ql b_arg0 118 [.pointer (some ⟨b_arg0_m, 0, none⟩), varg01, vI arg0.n, vI arg0.e]), (rowS SegS varg01 arg0.segs), (Ql b_arg0_m 152 [varg0m1, varg0m2]), (QI u8S false varg0m2 vsarg0m1 arg0_m.B none)] [Fact.sl Qv varg0m1 arg0_m.L]
   (fun rv own shr => ∃ (w1 : Value), rv = .tuple #[] ∧ own = [(Ql b_arg0 118 [.pointer (some ⟨b_arg0_m, 0, none⟩), w1, vI r.n, vI r.e]), (rowS SegS w1 r.segs), (Ql b_arg0_m 152 [varg0m1, varg0m2]), (QI u8S false varg0m2 vsarg0m1 arg0_m.B none)] ∧ shr = []) := by
 unfold XD at h
 refine Ctr.mk (args := [.pointer (some ⟨b_arg0, 0, none⟩), vU64 atp1, vU32 np2]) Try.func95 rfl rfl (fun R0 w0 B => ?_)
 refine Qe (Qb (sMv rfl rfl rfl ?_))
 refine sMv rfl rfl rfl ?_
 refine sMv rfl rfl rfl ?_
 obtain ⟨entrie1, hx1, h⟩ := ob_e h
 refine Qr rfl (Qw [4, 5, 6, 7] (w_ref_reader_entries10 hx1) [0, 1, 2, 3] [0] rfl rfl rfl rfl rfl callee100 rfl rfl rfl rfl rfl) ?_
 rintro _ ⟨_, _, _, ⟨v1, rfl, rfl, rfl⟩, rfl⟩
 refine sMv rfl rfl rfl ?_
 refine Qa rfl (Qp rfl rfl rfl rfl rfl) ?_
 refine Qa rfl (Qp rfl rfl rfl rfl rfl) ?_
 refine sAs rfl rfl rfl ?_
 refine sAs rfl rfl rfl ?_
 refine Qc (tZ [0, 1, 6, 7] [0, 1, 2, 3] [0] rfl rfl rfl rfl ?_)
 refine Qe (Qb (sMv rfl rfl rfl ?_))
 refine Qc (tZ [0, 1, 6, 15] [0, 1, 2, 3] [0] rfl rfl rfl rfl ?_)
 rcases bC (entrie1.2.1) with hg1 | hg1
 ·replace h := br_t hg1 h
  refine Qk (cgb hg1) ?_
  refine Qb (sMv rfl rfl rfl ?_)
  refine sMv rfl rfl rfl ?_
  refine sMv rfl rfl rfl ?_
  obtain ⟨chain1, hx2, h⟩ := ob_e h
  refine Qr rfl (Qw [4, 5, 6, 7] (w_ref_reader_chain10ct4 hx2) [0, 1, 2, 3] [0] rfl rfl rfl rfl rfl callee51 rfl rfl rfl rfl rfl) ?_
  rintro _ ⟨_, _, _, ⟨v2, rfl, rfl, rfl⟩, rfl⟩
  refine Qc ?_
  obtain rfl := Option.some.inj h
  exact Tk_endV rfl rfl (resA (vs := []) rfl trivial) [0, 1, 2, 3] [] rfl rfl rfl ⟨v2, rfl, rfl, rfl⟩
 ·replace h := br_f hg1 h
  refine Qo (cgb hg1) ?_
  refine Qs ?_
  obtain rfl := Option.some.inj h
  exact Tk_endV rfl rfl (resA (vs := []) rfl trivial) [0, 1, 2, 3] [] rfl rfl rfl ⟨v1, rfl, rfl, rfl⟩

set_option maxRecDepth 100000 in
set_option maxHeartbeats 4000000 in
theorem Kn {arg0 : dumbwaiterref10_reader} {arg0_m : dumbwaiterref02_Mem} {atp1 : UInt64} {size : Int} {head : Int} {table : Bool} {b_arg0 : Nat} {b_arg0_m : Nat} {varg0m1 : Value} {varg0m2 : Value} {vsarg0m1 : List Value} {varg01 : Value} {r : dumbwaiterref10_reader} (h : ZN arg0 arg0_m atp1 size head table = some r) :
  Ctr Try.prog 51 #[.pointer (some ⟨b_arg0, 0, none⟩), vU64 atp1, vI size, vI head, vB false, vB table] [(Ql b_arg0 118 [.pointer (some ⟨b_arg0_m, 0, none⟩), varg01, vI arg0.n, vI arg0.e]), (rowS SegS varg01 arg0.segs), (Ql b_arg0_m 152 [varg0m1, varg0m2]), (QI u8S false varg0m2 vsarg0m1 arg0_m.B none)] [Fact.sl Qv varg0m1 arg0_m.L]
   (fun rv own shr => ∃ (w1 : Value), rv = .tuple #[] ∧ own = [(Ql b_arg0 118 [.pointer (some ⟨b_arg0_m, 0, none⟩), w1, vI r.n, vI r.e]), (rowS SegS w1 r.segs), (Ql b_arg0_m 152 [varg0m1, varg0m2]), (QI u8S false varg0m2 vsarg0m1 arg0_m.B none)] ∧ shr = []) := by
 unfold ZN at h
 refine Ctr.mk (args := [.pointer (some ⟨b_arg0, 0, none⟩), vU64 atp1, vI size, vI head, vB false, vB table]) Try.func51 rfl rfl (fun R0 w0 B => ?_)
 refine Qe (Qb (sAs rfl rfl rfl ?_))
 refine Qc (Qe (Qb (sMv rfl rfl rfl ?_)))
 refine sAs rfl rfl rfl ?_
 refine Qc (tZ [0, 1, 2, 4, 5, 12, 13] [0, 1, 2, 3] [0] rfl rfl rfl rfl ?_)
 refine QJ (ZH iS ?_)
 refine Zx (σ := (List Seg) × Int × Int × (List Int) × Int × Value × Value) [0, 1, 2, 4, 5, 12, 13] [0, 2, 3, 1, 4] [0] (fun s => ⟨[(0, some (.pointer (some ⟨b_arg0, 0, none⟩))), (1, some (vU64 atp1)), (2, some (vI size)), (4, some (vB false)), (5, some (vB table)), (12, some (s.2.2.2.2.2.2)), (13, some (vI s.2.2.2.2.1))], [some (Ql b_arg0 118 [.pointer (some ⟨b_arg0_m, 0, none⟩), s.2.2.2.2.2.1, vI s.2.1, vI s.2.2.1]), some (Ql b_arg0_m 152 [varg0m1, varg0m2]), some (QI u8S false varg0m2 vsarg0m1 arg0_m.B none), some (rowS SegS s.2.2.2.2.2.1 s.1), some (rowS iS s.2.2.2.2.2.2 s.2.2.2.1)], [Fact.sl Qv varg0m1 arg0_m.L]⟩) (fun nf1 s => QZ arg0_m atp1 size table nf1 s.1 s.2.1 s.2.2.1 s.2.2.2.1 s.2.2.2.2.1 = some r) fuel (arg0.segs, arg0.n, arg0.e, [], head, varg01, (.slice none 0 0)) h rfl rfl rfl rfl rfl (fun s h => by cases h) ?_
 rintro nf1 ⟨l1, n1, e1, seen1, k1, v1, v2⟩ h
 replace h : Xh arg0_m atp1 size table (QZ arg0_m atp1 size table nf1) l1 n1 e1 seen1 k1 = some r := h
 unfold Xh at h
 refine QJ (Qe (Qe (Qb (sAs rfl rfl rfl ?_))))
 refine Qc (QJ (Zx (σ := (List Seg) × Int × Int × (List Int) × Int × Value × Value) [0, 1, 2, 4, 5, 12, 13, 14] [0, 1, 2, 3, 4] [0] (fun s => ⟨[(0, some (.pointer (some ⟨b_arg0, 0, none⟩))), (1, some (vU64 atp1)), (2, some (vI size)), (4, some (vB false)), (5, some (vB table)), (12, some (s.2.2.2.2.2.2)), (13, some (vI k1)), (14, some (vI s.2.2.2.2.1))], [some (Ql b_arg0 118 [.pointer (some ⟨b_arg0_m, 0, none⟩), s.2.2.2.2.2.1, vI s.2.1, vI s.2.2.1]), some (Ql b_arg0_m 152 [varg0m1, varg0m2]), some (QI u8S false varg0m2 vsarg0m1 arg0_m.B none), some (rowS SegS s.2.2.2.2.2.1 s.1), some (rowS iS s.2.2.2.2.2.2 s.2.2.2.1)], [Fact.sl Qv varg0m1 arg0_m.L]⟩) (fun nf2 s => Zd arg0_m atp1 size table k1 (QZ arg0_m atp1 size table nf1) nf2 s.1 s.2.1 s.2.2.1 s.2.2.2.1 s.2.2.2.2.1 = some r) fuel (l1, n1, e1, seen1, (0 : Int), v1, v2) h rfl rfl rfl rfl rfl (fun s h => by cases h) ?_))
 rintro nf2 ⟨l2, n2, e2, l3, i1, v3, v4⟩ h
 replace h : Zw arg0_m atp1 size table k1 (QZ arg0_m atp1 size table nf1) (Zd arg0_m atp1 size table k1 (QZ arg0_m atp1 size table nf1) nf2) l2 n2 e2 l3 i1 = some r := h
 unfold Zw at h
 refine Qe (Qe (Qb (sMv rfl rfl rfl ?_)))
 refine sMv rfl rfl rfl ?_
 refine Qa rfl (OpT_lenO rfl rfl rfl rfl Try.underlying32 (i := 4) rfl) ?_
 refine Qa rfl (Qg rfl rfl rfl rfl rfl (QP (a := i1) (b := len l3))) ?_
 refine Qc (tZ [0, 1, 2, 4, 5, 12, 13, 14, 21] [0, 1, 2, 3, 4] [0] rfl rfl rfl rfl ?_)
 rcases bC (decide (i1 < (len l3))) with hg1 | hg1
 ·replace h := br_t hg1 h
  refine Qk (cgb hg1) ?_
  refine Qs (Qe (QJ (Qe (Qb (sMv rfl rfl rfl ?_)))))
  refine sMv rfl rfl rfl ?_
  obtain ⟨y1, hx1, h⟩ := ob_e h
  refine Qa rfl (YY rfl rfl rfl rfl rfl slF32 (i := 4) rfl hx1) ?_
  refine Qa rfl (YA (S := iS) rfl rfl rfl rfl rfl tyF3 (i := 4) rfl hx1 rfl rfl) ?_
  refine sMv rfl rfl rfl ?_
  refine Qa rfl (Qg rfl rfl rfl rfl rfl (Zg (a := y1) (b := k1))) ?_
  refine Qc (tZ [0, 1, 2, 4, 5, 12, 13, 14, 29] [0, 1, 2, 3, 4] [0] rfl rfl rfl rfl ?_)
  rcases bC (y1 == k1) with hg2 | hg2
  ·replace h := br_t hg2 h
   refine Qk (cgb hg2) ?_
   refine Qe (Qb (sMv rfl rfl rfl ?_))
   obtain ⟨stop1, hx2, h⟩ := ob_e h
   refine Qr rfl (Qw [5, 7, 8, 6, 4] (QG hx2) [0, 3, 1, 2] [0] rfl rfl rfl rfl rfl Xa rfl rfl rfl rfl rfl) ?_
   rintro _ ⟨_, _, _, ⟨v5, rfl, rfl, rfl⟩, rfl⟩
   refine Qc (tZ [] [0, 1, 2, 3] [0] rfl rfl rfl rfl ?_)
   obtain rfl := Option.some.inj h
   exact Qm rfl rfl (resA (vs := []) rfl trivial) [0, 3, 1, 2] [] rfl rfl rfl ⟨v5, rfl, rfl, rfl⟩
  ·replace h := br_f hg2 h
   refine Qo (cgb hg2) ?_
   refine Qs (ZD (Qb (sMv rfl rfl rfl ?_)))
   refine Qa rfl (Qg rfl rfl rfl rfl rfl (QO (a := i1) (b := (1 : Int)))) ?_
   refine sAs rfl rfl rfl ?_
   refine Qc (tZ [0, 1, 2, 4, 5, 12, 13, 14] [0, 1, 2, 3, 4] [0] rfl rfl rfl rfl ?_)
   exact Ze (l2, n2, e2, l3, wi (i1 + (1 : Int)), v3, v4) h [0, 1, 2, 4, 5, 12, 13, 14] [0, 1, 2, 3, 4] [0] rfl rfl rfl rfl rfl
 ·replace h := br_f hg1 h
  refine Qo (cgb hg1) ?_
  refine ZA _ rfl ?_
  refine Qe (Qe (Qb (sMv rfl rfl rfl ?_)))
  refine Qa rfl (Qg rfl rfl rfl rfl rfl (QP (a := k1) (b := (0 : Int)))) ?_
  refine sMv rfl rfl rfl ?_
  rcases bC (decide (k1 < (0 : Int))) with hg3 | hg3
  ·replace h := br_t hg3 h
   refine Qf rfl rfl (cgb hg3) rfl rfl ?_
   refine Qf rfl rfl (cgb hg3) rfl rfl ?_
   refine Qf rfl rfl (cgb hg3) rfl rfl ?_
   refine Qa rfl (Qt rfl rfl rfl (cgb hg3) rfl) ?_
   refine Qc (tZ [0, 1, 2, 4, 5, 12, 13, 38] [0, 1, 2, 3, 4] [0] rfl rfl rfl rfl ?_)
   refine Qk rfl ?_
   refine Qe (Qb (sMv rfl rfl rfl ?_))
   obtain ⟨stop2, hx3, h⟩ := ob_e h
   refine Qr rfl (Qw [5, 7, 8, 6, 4] (QG hx3) [0, 3, 1, 2] [0] rfl rfl rfl rfl rfl Xa rfl rfl rfl rfl rfl) ?_
   rintro _ ⟨_, _, _, ⟨v6, rfl, rfl, rfl⟩, rfl⟩
   refine Qc (tZ [] [0, 1, 2, 3] [0] rfl rfl rfl rfl ?_)
   obtain rfl := Option.some.inj h
   exact Qm rfl rfl (resA (vs := []) rfl trivial) [0, 3, 1, 2] [] rfl rfl rfl ⟨v6, rfl, rfl, rfl⟩
  ·replace h := br_f hg3 h
   refine Qh rfl rfl (cgb hg3) (Qn rfl rfl rfl rfl) ?_
   rintro _ rfl
   refine Qh rfl rfl (cgb hg3) (Qn rfl rfl rfl rfl) ?_
   rintro _ rfl
   refine Qh rfl rfl (cgb hg3) (Qg rfl rfl rfl rfl rfl (Xl (a := k1) (b := size))) ?_
   rintro _ rfl
   refine Qa rfl (Qu rfl rfl rfl (cgb hg3) rfl) ?_
   refine Qc (tZ [0, 1, 2, 4, 5, 12, 13, 38] [0, 1, 2, 3, 4] [0] rfl rfl rfl rfl ?_)
   rcases bC (decide (k1 ≥ size)) with hg4 | hg4
   ·replace h := br_t hg4 h
    refine Qk (cgb hg4) ?_
    refine Qe (Qb (sMv rfl rfl rfl ?_))
    obtain ⟨stop3, hx4, h⟩ := ob_e h
    refine Qr rfl (Qw [5, 7, 8, 6, 4] (QG hx4) [0, 3, 1, 2] [0] rfl rfl rfl rfl rfl Xa rfl rfl rfl rfl rfl) ?_
    rintro _ ⟨_, _, _, ⟨v7, rfl, rfl, rfl⟩, rfl⟩
    refine Qc (tZ [] [0, 1, 2, 3] [0] rfl rfl rfl rfl ?_)
    obtain rfl := Option.some.inj h
    exact Qm rfl rfl (resA (vs := []) rfl trivial) [0, 3, 1, 2] [] rfl rfl rfl ⟨v7, rfl, rfl, rfl⟩
   ·replace h := br_f hg4 h
    refine Qo (cgb hg4) ?_
    refine Qs (Qe (Qb (sMv rfl rfl rfl ?_)))
    refine sMv rfl rfl rfl ?_
    refine Qx rfl (QW (S := iS) (xs := [k1]) (css := [[vI k1]]) (cs := [vI k1]) (e := 3) rfl rfl rfl rfl (bldF slF32 (by decide) (by kernel_rfl)) rfl rfl rfl rfl (ZF (S := iS) (xs := [k1]) (css := [[vI k1]]) rfl rfl)) fun v8 => ?_
    obtain ⟨hc1, h⟩ := Xy h
    refine Qx rfl (YB (S := iS) rfl rfl rfl rfl rfl rfl slF32 (i := 4) (j := 5) rfl rfl hc1) fun v9 => ?_
    refine sAs rfl rfl rfl ?_
    refine Qc (tZ [0, 1, 2, 4, 5, 12, 13] [0, 1, 2, 3, 4] [0] rfl rfl rfl rfl ?_)
    refine Qe (Qb (sMv rfl rfl rfl ?_))
    refine sMv rfl rfl rfl ?_
    refine sMv rfl rfl rfl ?_
    refine Qa rfl (QU rfl rfl rfl rfl (ZY (n := k1) Try.underlying3 Try.underlying27)) ?_
    refine Qa rfl (Qg rfl rfl rfl rfl rfl (Zz (a := (16 : UInt64)) (b := u64 k1))) ?_
    refine Qa rfl (Qg rfl rfl rfl rfl rfl (QQ (a := atp1) (b := (16 : UInt64) * (u64 k1)))) ?_
    obtain ⟨desc1, hx5, h⟩ := ob_e h
    refine Qr rfl (Qw [5, 7, 8, 6, 4] (w_ref_reader_desc10 hx5) [0, 3, 1, 2] [0] rfl rfl rfl rfl rfl callee94 rfl rfl rfl rfl rfl) ?_
    rintro _ ⟨_, _, _, ⟨v10, rfl, rfl, rfl⟩, rfl⟩
    refine sMv rfl rfl rfl ?_
    refine Qa rfl (Qp rfl rfl rfl rfl rfl) ?_
    refine Qa rfl (Qp rfl rfl rfl rfl rfl) ?_
    refine Qx rfl (QK rfl rfl rfl tyZ36) fun b1 => ?_
    refine Qa rfl (Qq (cs' := [vU64 desc1.1.Addr, vU32 desc1.1.Len, vU16 desc1.1.Flags, vU16 desc1.1.Next]) rfl rfl rfl rfl tyF36 (i := 5) rfl rfl rfl (QF rfl) rfl) ?_
    refine sAs rfl rfl rfl ?_
    refine Qc (tZ [0, 1, 2, 4, 5, 12, 15, 16] [0, 1, 2, 3, 4, 5] [0] rfl rfl rfl rfl ?_)
    refine Qe (Qe (Qb (sMv rfl rfl rfl ?_)))
    refine Qa rfl (Xd rfl rfl rfl rfl) ?_
    refine Qc (tZ [0, 1, 2, 4, 5, 12, 15, 56] [0, 1, 2, 3, 4, 5] [0] rfl rfl rfl rfl ?_)
    rcases bC ((!desc1.2.1)) with hg5 | hg5
    ·replace h := br_t hg5 h
     refine Qk (cgb hg5) ?_
     obtain rfl := Option.some.inj h
     exact Qm rfl rfl (resA (vs := []) rfl trivial) [0, 3, 1, 2] [] rfl rfl rfl ⟨v10, rfl, rfl, rfl⟩
    ·replace h := br_f hg5 h
     refine Qo (cgb hg5) ?_
     refine Qs (Qe (Qe (Qb (Qa rfl (Qi rfl rfl rfl rfl Yb) ?_))))
     refine Qa rfl (Qj rfl rfl rfl rfl Yn (i := 5) rfl rfl) ?_
     refine Qa rfl (Qg rfl rfl rfl rfl rfl (Zp (a := desc1.1.Flags) (b := (4 : UInt16)))) ?_
     refine Qa rfl (Qg rfl rfl rfl rfl rfl (ZS (a := desc1.1.Flags &&& (4 : UInt16)) (b := (0 : UInt16)))) ?_
     refine Qc (tZ [0, 1, 2, 4, 5, 12, 15, 60] [0, 1, 2, 3, 4, 5] [0] rfl rfl rfl rfl ?_)
     rcases bC ((desc1.1.Flags &&& (4 : UInt16)) != (0 : UInt16)) with hg6 | hg6
     ·replace h := br_t hg6 h
      refine Qk (cgb hg6) ?_
      refine Qe (Qe (Qb (sMv rfl rfl rfl ?_)))
      refine sMv rfl rfl rfl ?_
      refine Qh rfl rfl rfl (Qn rfl rfl rfl rfl) ?_
      rintro _ rfl
      refine Qh rfl rfl rfl (Xd rfl rfl rfl rfl) ?_
      rintro _ rfl
      refine Qa rfl (Qu rfl rfl rfl rfl rfl) ?_
      refine sMv rfl rfl rfl ?_
      rcases bC ((!table)) with hg7 | hg7
      ·replace h := br_t hg7 h
       refine Qf rfl rfl (cgb hg7) rfl rfl ?_
       refine Qf rfl rfl (cgb hg7) rfl rfl ?_
       refine Qf rfl rfl (cgb hg7) rfl rfl ?_
       refine Qf rfl rfl (cgb hg7) rfl rfl ?_
       refine Qa rfl (Qt rfl rfl rfl (cgb hg7) rfl) ?_
       refine Qc (tZ [0, 15, 71] [0, 1, 2, 3, 5] [0] rfl rfl rfl rfl ?_)
       refine Qk rfl ?_
       refine Qe (Qb (sMv rfl rfl rfl ?_))
       obtain ⟨stop4, hx6, h⟩ := ob_e h
       refine Qr rfl (Qw [5, 7, 8, 6, 4] (QG hx6) [0, 3, 1, 2] [0] rfl rfl rfl rfl rfl Xa rfl rfl rfl rfl rfl) ?_
       rintro _ ⟨_, _, _, ⟨v11, rfl, rfl, rfl⟩, rfl⟩
       refine Qc (tZ [] [0, 1, 2, 3] [0] rfl rfl rfl rfl ?_)
       obtain rfl := Option.some.inj h
       exact Qm rfl rfl (resA (vs := []) rfl trivial) [0, 3, 1, 2] [] rfl rfl rfl ⟨v11, rfl, rfl, rfl⟩
      ·replace h := br_f hg7 h
       refine Qh rfl rfl (cgb hg7) (Qi rfl rfl rfl rfl Yb) ?_
       rintro _ rfl
       refine Qh rfl rfl (cgb hg7) (Qj rfl rfl rfl rfl Yn (i := 5) rfl rfl) ?_
       rintro _ rfl
       refine Qh rfl rfl (cgb hg7) (Qg rfl rfl rfl rfl rfl (Zp (a := desc1.1.Flags) (b := (1 : UInt16)))) ?_
       rintro _ rfl
       refine Qh rfl rfl (cgb hg7) (Qg rfl rfl rfl rfl rfl (ZS (a := desc1.1.Flags &&& (1 : UInt16)) (b := (0 : UInt16)))) ?_
       rintro _ rfl
       refine Qa rfl (Qu rfl rfl rfl (cgb hg7) rfl) ?_
       refine Qc (tZ [0, 15, 71] [0, 1, 2, 3, 5] [0] rfl rfl rfl rfl ?_)
       rcases bC ((desc1.1.Flags &&& (1 : UInt16)) != (0 : UInt16)) with hg8 | hg8
       ·replace h := br_t hg8 h
        refine Qk (cgb hg8) ?_
        refine Qe (Qb (sMv rfl rfl rfl ?_))
        obtain ⟨stop5, hx7, h⟩ := ob_e h
        refine Qr rfl (Qw [5, 7, 8, 6, 4] (QG hx7) [0, 3, 1, 2] [0] rfl rfl rfl rfl rfl Xa rfl rfl rfl rfl rfl) ?_
        rintro _ ⟨_, _, _, ⟨v12, rfl, rfl, rfl⟩, rfl⟩
        refine Qc (tZ [] [0, 1, 2, 3] [0] rfl rfl rfl rfl ?_)
        obtain rfl := Option.some.inj h
        exact Qm rfl rfl (resA (vs := []) rfl trivial) [0, 3, 1, 2] [] rfl rfl rfl ⟨v12, rfl, rfl, rfl⟩
       ·replace h := br_f hg8 h
        refine Qo (cgb hg8) ?_
        refine Qs (Qe (Qb (sMv rfl rfl rfl ?_)))
        refine Qa rfl (Qi rfl rfl rfl rfl fldF36x0) ?_
        refine Qa rfl (Qj rfl rfl rfl rfl QV (i := 4) rfl rfl) ?_
        refine Qa rfl (Qi rfl rfl rfl rfl fldF36x1) ?_
        refine Qa rfl (Qj rfl rfl rfl rfl tyF33 (i := 4) rfl rfl) ?_
        obtain ⟨table1, hx8, h⟩ := ob_e h
        refine Qr rfl (Qw [5, 7, 8, 6, 4] (w_ref_reader_table10 hx8) [0, 3, 1, 2] [0] rfl rfl rfl rfl rfl callee95 rfl rfl rfl rfl rfl) ?_
        rintro _ ⟨_, _, _, ⟨v13, rfl, rfl, rfl⟩, rfl⟩
        refine Qc (tZ [] [0, 1, 2, 3] [0] rfl rfl rfl rfl ?_)
        obtain rfl := Option.some.inj h
        exact Qm rfl rfl (resA (vs := []) rfl trivial) [0, 3, 1, 2] [] rfl rfl rfl ⟨v13, rfl, rfl, rfl⟩
     ·replace h := br_f hg6 h
      refine Qo (cgb hg6) ?_
      refine Qs (Qe (Qb (sMv rfl rfl rfl ?_)))
      refine Qa rfl (Qi rfl rfl rfl rfl fldF36x0) ?_
      refine Qa rfl (Qj rfl rfl rfl rfl QV (i := 5) rfl rfl) ?_
      refine Qa rfl (Qi rfl rfl rfl rfl fldF36x1) ?_
      refine Qa rfl (Qj rfl rfl rfl rfl tyF33 (i := 5) rfl rfl) ?_
      refine Qa rfl (Qi rfl rfl rfl rfl Yb) ?_
      refine Qa rfl (Qj rfl rfl rfl rfl Yn (i := 5) rfl rfl) ?_
      obtain ⟨seg1, hx9, h⟩ := ob_e h
      refine Qr rfl (Qw [6, 8, 9, 7, 4, 5] (Ym hx9) [0, 3, 1, 2] [0] rfl rfl rfl rfl rfl callee59 rfl rfl rfl rfl rfl) ?_
      rintro _ ⟨_, _, _, ⟨v14, rfl, rfl, rfl⟩, rfl⟩
      refine Qc (tZ [0, 1, 2, 4, 5, 12, 15] [0, 1, 2, 3, 4, 5] [0] rfl rfl rfl rfl ?_)
      refine Qe (Qe (Qb (Qa rfl (Qi rfl rfl rfl rfl Yb) ?_)))
      refine Qa rfl (Qj rfl rfl rfl rfl Yn (i := 5) rfl rfl) ?_
      refine Qa rfl (Qg rfl rfl rfl rfl rfl (Zp (a := desc1.1.Flags) (b := (1 : UInt16)))) ?_
      refine Qa rfl (Qg rfl rfl rfl rfl rfl (bin_eql_u16 (a := desc1.1.Flags &&& (1 : UInt16)) (b := (0 : UInt16)))) ?_
      refine Qc (tZ [0, 1, 2, 4, 5, 12, 15, 91] [0, 1, 2, 3, 4, 5] [0] rfl rfl rfl rfl ?_)
      rcases bC ((desc1.1.Flags &&& (1 : UInt16)) == (0 : UInt16)) with hg9 | hg9
      ·replace h := br_t hg9 h
       refine Qk (cgb hg9) ?_
       obtain rfl := Option.some.inj h
       exact Qm rfl rfl (resA (vs := []) rfl trivial) [0, 3, 1, 2] [] rfl rfl rfl ⟨v14, rfl, rfl, rfl⟩
      ·replace h := br_f hg9 h
       refine Qo (cgb hg9) ?_
       refine Qs (Qb (Qa rfl (Qi rfl rfl rfl rfl fldF36x3) ?_))
       refine Qa rfl (Qj rfl rfl rfl rfl Yn (i := 5) rfl rfl) ?_
       refine Qa rfl (QU rfl rfl rfl rfl (cnv_u16_i (n := desc1.1.Next) Try.underlying34 Try.underlying3)) ?_
       refine sAs rfl rfl rfl ?_
       refine Qc (tZ [0, 1, 2, 4, 5, 12, 13] [0, 1, 2, 3, 4] [0] rfl rfl rfl rfl ?_)
       refine ZD ?_
       exact Ze (seg1.segs, seg1.n, seg1.e, l3 ++ [k1], i16 desc1.1.Next, v14, v9) h [0, 1, 2, 4, 5, 12, 13] [0, 1, 2, 3, 4] [0] rfl rfl rfl rfl rfl
end Go.Proofs.Ytlofegfaphijpaa
