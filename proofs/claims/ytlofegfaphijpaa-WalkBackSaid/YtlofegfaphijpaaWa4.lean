/- The functions do what the plain words say: each is walked once. No statement of the seat is proved here; no condition. -/
import Derived.Test.YtlofegfaphijpaaWa3
namespace Go.Proofs.Ytlofegfaphijpaa
attribute [local irreducible] sub
theorem ws_ref_Bytes03 {dp0 : Desc} {r : (List UInt8)} (h : XX dp0 = some r) :
  Ctr Try.prog 12 #[.agg #[vU64 dp0.Addr, vU32 dp0.Len, vU16 dp0.Flags, vU16 dp0.Next]] [] []
   (fun rv own shr => ∃ (w1 : Value), rv = w1 ∧ own = [] ∧ shr = [Fact.sl u8S w1 r]) :=
 Ctr.sh (KV h) (by rintro w1 _ _ ⟨_, rfl, rfl, rfl⟩; exact ⟨[], _, _, _, _, rfl, w1, rfl, rfl, rfl⟩)

set_option maxRecDepth 100000 in
set_option maxHeartbeats 4000000 in
theorem w_walk_Reads {m : gmem_Mem} {rp1 : Rings} {head : Int} {table : Bool} {b_m : Nat} {vm1 : Value} {vm2 : Value} {vsm1 : List Value} {r : Int} (h : walk_Reads m rp1 head table = some r) :
  Ctr Try.prog 14 #[.pointer (some ⟨b_m, 0, none⟩), .agg #[vB rp1.Packed, vI rp1.Size, vU64 rp1.Desc, vU64 rp1.Driver, vU64 rp1.Device], vI head, vB table] [(Qm b_m 113 [vm1, vm2]), (QV u8S true vm2 vsm1 m.b none)] [Fact.sl Qz vm1 m.l]
   (fun rv own shr => rv = vI r ∧ own = [(Qm b_m 113 [vm1, vm2]), (QV u8S true vm2 vsm1 m.b none)] ∧ shr = []) := by
 unfold walk_Reads at h
 refine Ctr.mk (args := [.pointer (some ⟨b_m, 0, none⟩), .agg #[vB rp1.Packed, vI rp1.Size, vU64 rp1.Desc, vU64 rp1.Driver, vU64 rp1.Device], vI head, vB table]) Try.func14 rfl rfl (fun R0 w0 B => ?_)
 refine Qe (Qc (Qu rfl (ZA rfl rfl rfl rfl) fun b1 => ?_))
 refine sAs rfl rfl rfl ?_
 refine Qd (tZ [0, 2, 3, 5] [0, 1, 2] [0] rfl rfl rfl rfl ?_)
 refine Qe (Qe (Qc (sMv rfl rfl rfl ?_)))
 refine Qa rfl (Qy (vs := [vB rp1.Packed, vI rp1.Size, vU64 rp1.Desc, vU64 rp1.Driver, vU64 rp1.Device]) rfl rfl rfl rfl ZX (i := 2) rfl rfl rfl) ?_
 obtain ⟨refuse1, hx1, h⟩ := ob_e h
 refine Qs rfl (QJ [3, 4, 2] (w_walk_refuse hx1) [0, 1] [0] rfl rfl rfl rfl rfl callee40 rfl rfl rfl rfl rfl) ?_
 rintro _ ⟨_, _, _, ⟨rfl, rfl, rfl⟩, rfl⟩
 refine Qa rfl (Qf rfl rfl rfl rfl rfl (QL (a := refuse1) (b := (0 : Int)))) ?_
 refine Qd (tZ [0, 2, 3, 5, 15] [0, 1, 2] [0] rfl rfl rfl rfl ?_)
 rcases bC (refuse1 != (0 : Int)) with hg1 | hg1
 ·replace h := br_t hg1 h
  refine Ql (cgb hg1) ?_
  refine Qe (Qc (sAs rfl rfl rfl ?_))
  refine Qd (tZ [8] [0, 1] [0] rfl rfl rfl rfl ?_)
  obtain rfl := Option.some.inj h
  exact Qn rfl rfl (resA (vs := [vI (0 : Int)]) rfl ⟨rfl, trivial⟩) [0, 1] [] rfl rfl rfl ⟨rfl, rfl, rfl⟩
 ·replace h := br_f hg1 h
  refine Qp (cgb hg1) ?_
  refine Qt (Qe (Qc (sMv rfl rfl rfl ?_)))
  refine Qa rfl (Qy (vs := [vB rp1.Packed, vI rp1.Size, vU64 rp1.Desc, vU64 rp1.Driver, vU64 rp1.Device]) rfl rfl rfl rfl ZX (i := 2) rfl rfl rfl) ?_
  refine sMv rfl rfl rfl ?_
  refine sMv rfl rfl rfl ?_
  obtain ⟨split1, hx2, h⟩ := ob_e h
  refine Qs rfl (QJ [3, 4, 2, 5] (w_walk_split hx2) [0, 1] [0] rfl rfl rfl rfl rfl callee41 rfl rfl rfl rfl rfl) ?_
  rintro _ ⟨_, _, _, ⟨v1, rfl, rfl, rfl⟩, rfl⟩
  refine sMv rfl rfl rfl ?_
  refine Qa rfl (Qq rfl rfl rfl rfl rfl) ?_
  refine Qa rfl (Qq rfl rfl rfl rfl rfl) ?_
  refine Qa rfl (Qq rfl rfl rfl rfl rfl) ?_
  refine sAs rfl rfl rfl ?_
  refine sAs rfl rfl rfl ?_
  refine sAs rfl rfl rfl ?_
  refine Qd (tZ [10] [0, 1] [0] rfl rfl rfl rfl ?_)
  refine Qe (Qc (sMv rfl rfl rfl ?_))
  refine sAs rfl rfl rfl ?_
  refine Qd (tZ [8] [0, 1] [0] rfl rfl rfl rfl ?_)
  obtain rfl := Option.some.inj h
  exact Qn rfl rfl (resA (vs := [vI split1.2.1]) rfl ⟨rfl, trivial⟩) [0, 1] [] rfl rfl rfl ⟨rfl, rfl, rfl⟩

set_option maxRecDepth 100000 in
set_option maxHeartbeats 4000000 in
theorem w_serial_Check {pp0 : Pos} {size : Int} {r : Int} (h : Yo pp0 size = some r) :
  Ctr Try.prog 48 #[.agg #[vI pp0.At, vB pp0.Wrap], vI size] [] []
   (fun rv own shr => rv = vI r ∧ own = [] ∧ shr = []) := by
 unfold Yo at h
 refine Ctr.mk (args := [.agg #[vI pp0.At, vB pp0.Wrap], vI size]) Try.func48 rfl rfl (fun R0 w0 B => ?_)
 refine Qe (Qc (Qu rfl (ZA rfl rfl rfl rfl) fun b1 => ?_))
 refine sAs rfl rfl rfl ?_
 refine Qd (tZ [1, 2] [0] [] rfl rfl rfl rfl ?_)
 refine Qe (Qe (Qc (sMv rfl rfl rfl ?_)))
 obtain ⟨issize1, hx1, h⟩ := ob_e h
 refine Qs rfl (Qv (w_serial_isSize hx1) [] [] rfl rfl rfl rfl rfl callee91 rfl rfl rfl rfl) ?_
 rintro _ ⟨_, _, _, ⟨rfl, rfl, rfl⟩, rfl⟩
 refine Qa rfl (XO rfl rfl rfl rfl) ?_
 refine sMv rfl rfl rfl ?_
 rcases bC ((!issize1)) with hg1 | hg1
 ·replace h := br_t hg1 h
  refine Qg rfl rfl (cgb hg1) rfl rfl ?_
  refine Qg rfl rfl (cgb hg1) rfl rfl ?_
  refine Qg rfl rfl (cgb hg1) rfl rfl ?_
  refine Qa rfl (Qr rfl rfl rfl (cgb hg1) rfl) ?_
  refine sMv rfl rfl rfl ?_
  refine Qg rfl rfl rfl rfl rfl ?_
  refine Qg rfl rfl rfl rfl rfl ?_
  refine Qg rfl rfl rfl rfl rfl ?_
  refine Qg rfl rfl rfl rfl rfl ?_
  refine Qa rfl (Qr rfl rfl rfl rfl rfl) ?_
  refine Qd (tZ [18] [] [] rfl rfl rfl rfl ?_)
  refine Ql rfl ?_
  refine Qe (Qc (sAs rfl rfl rfl ?_))
  refine Qd (tZ [4] [] [] rfl rfl rfl rfl ?_)
  obtain rfl := Option.some.inj h
  exact Qn rfl rfl (resA (vs := [vI (2 : Int)]) rfl ⟨rfl, trivial⟩) [] [] rfl rfl rfl ⟨rfl, rfl, rfl⟩
 ·replace h := br_f hg1 h
  refine Qh rfl rfl (cgb hg1) (Qi rfl rfl rfl rfl Yc) ?_
  rintro _ rfl
  refine Qh rfl rfl (cgb hg1) (Qj rfl rfl rfl rfl tyF3 (i := 0) rfl rfl) ?_
  rintro _ rfl
  refine Qh rfl rfl (cgb hg1) (Qf rfl rfl rfl rfl rfl (QI (a := pp0.At) (b := (0 : Int)))) ?_
  rintro _ rfl
  refine Qa rfl (Qw rfl rfl rfl (cgb hg1) rfl) ?_
  refine sMv rfl rfl rfl ?_
  rcases bC (decide (pp0.At < (0 : Int))) with hg2 | hg2
  ·replace h := br_t hg2 h
   refine Qg rfl rfl (cgb hg2) rfl rfl ?_
   refine Qg rfl rfl (cgb hg2) rfl rfl ?_
   refine Qg rfl rfl (cgb hg2) rfl rfl ?_
   refine Qg rfl rfl (cgb hg2) rfl rfl ?_
   refine Qa rfl (Qr rfl rfl rfl (cgb hg2) rfl) ?_
   refine Qd (tZ [18] [] [] rfl rfl rfl rfl ?_)
   refine Ql rfl ?_
   refine Qe (Qc (sAs rfl rfl rfl ?_))
   refine Qd (tZ [4] [] [] rfl rfl rfl rfl ?_)
   obtain rfl := Option.some.inj h
   exact Qn rfl rfl (resA (vs := [vI (2 : Int)]) rfl ⟨rfl, trivial⟩) [] [] rfl rfl rfl ⟨rfl, rfl, rfl⟩
  ·replace h := br_f hg2 h
   refine Qh rfl rfl (cgb hg2) (Qi rfl rfl rfl rfl Yc) ?_
   rintro _ rfl
   refine Qh rfl rfl (cgb hg2) (Qj rfl rfl rfl rfl tyF3 (i := 0) rfl rfl) ?_
   rintro _ rfl
   refine Qh rfl rfl (cgb hg2) (Qk rfl rfl rfl rfl) ?_
   rintro _ rfl
   refine Qh rfl rfl (cgb hg2) (Qf rfl rfl rfl rfl rfl (YF (a := pp0.At) (b := size))) ?_
   rintro _ rfl
   refine Qa rfl (Qw rfl rfl rfl (cgb hg2) rfl) ?_
   refine Qd (tZ [18] [] [] rfl rfl rfl rfl ?_)
   rcases bC (decide (pp0.At ≥ size)) with hg3 | hg3
   ·replace h := br_t hg3 h
    refine Ql (cgb hg3) ?_
    refine Qe (Qc (sAs rfl rfl rfl ?_))
    refine Qd (tZ [4] [] [] rfl rfl rfl rfl ?_)
    obtain rfl := Option.some.inj h
    exact Qn rfl rfl (resA (vs := [vI (2 : Int)]) rfl ⟨rfl, trivial⟩) [] [] rfl rfl rfl ⟨rfl, rfl, rfl⟩
   ·replace h := br_f hg3 h
    refine Qp (cgb hg3) ?_
    refine Qt (Qe (Qc (sAs rfl rfl rfl ?_)))
    refine Qd (tZ [4] [] [] rfl rfl rfl rfl ?_)
    obtain rfl := Option.some.inj h
    exact Qn rfl rfl (resA (vs := [vI (0 : Int)]) rfl ⟨rfl, trivial⟩) [] [] rfl rfl rfl ⟨rfl, rfl, rfl⟩

set_option maxRecDepth 100000 in
set_option maxHeartbeats 4000000 in
theorem w_desc_ReadPacked {b : List UInt8} {vb1 : Value} {r : (Packed × Int)} (h : Xl b = some r) :
  Ctr Try.prog 92 #[vb1] [] [Fact.sl u8S vb1 b]
   (fun rv own shr => rv = .tuple #[.agg #[vU64 r.1.Addr, vU32 r.1.Len, vU16 r.1.ID, vU16 r.1.Flags], vI r.2] ∧ own = [] ∧ shr = []) := by
 unfold Xl at h
 refine Ctr.mk (args := [vb1]) Try.func92 rfl rfl (fun R0 w0 B => ?_)
 refine Qe (Qc (Qu rfl (QD rfl rfl rfl tyZ87) fun b1 => ?_))
 refine sAs rfl rfl rfl ?_
 refine Qd (tZ [0, 2] [0] [0] rfl rfl rfl rfl ?_)
 refine Qe (Qe (Qc (sMv rfl rfl rfl ?_)))
 refine Qa rfl (QT rfl rfl rfl rfl Try.underlying39 (i := 0) rfl) ?_
 refine Qa rfl (Qf rfl rfl rfl rfl rfl (QL (a := len b) (b := (16 : Int)))) ?_
 refine Qd (tZ [0, 2, 7] [0] [0] rfl rfl rfl rfl ?_)
 rcases bC ((len b) != (16 : Int)) with hg1 | hg1
 ·replace h := br_t hg1 h
  refine Ql (cgb hg1) ?_
  refine Qe (Qc (Qa rfl (QE (v := .agg #[vU64 (0 : UInt64), vU32 (0 : UInt32), vU16 (0 : UInt16), vU16 (0 : UInt16)]) rfl rfl rfl rfl (bldV (by kernel_rfl))) ?_))
  refine Qa rfl (Qo (cs' := [vU64 (0 : UInt64), vU32 (0 : UInt32), vU16 (0 : UInt16), vU16 (0 : UInt16)]) rfl rfl rfl rfl tyF87 (i := 0) rfl rfl rfl (QF rfl) rfl) ?_
  refine sAs rfl rfl rfl ?_
  refine Qd (tZ [2, 3] [0] [] rfl rfl rfl rfl ?_)
  obtain rfl := Option.some.inj h
  exact Qn rfl rfl (resA (vs := [.agg #[vU64 (0 : UInt64), vU32 (0 : UInt32), vU16 (0 : UInt16), vU16 (0 : UInt16)], vI (4 : Int)]) rfl ⟨⟨_, 0, _, _, _, rfl, rfl, .inl ⟨tyF87, rfl, rfl⟩⟩, rfl, trivial⟩) [] [] rfl rfl rfl ⟨rfl, rfl, rfl⟩
 ·replace h := br_f hg1 h
  refine Qp (cgb hg1) ?_
  refine Qt (Qe (Qc (sMv rfl rfl rfl ?_)))
  obtain ⟨hc1, h⟩ := ZK h
  refine Qu rfl (OpT_toArr rfl rfl rfl rfl arrF180 (i := 0) rfl hc1 rfl) fun p1 => ?_
  refine Qa rfl (OpT_loadArrD u8S rfl (f := vU8) (fun _ => rfl) rfl rfl rfl rfl tyF180 (i := 1) rfl rfl) ?_
  refine Qu rfl (QD rfl rfl rfl tyZ180) fun b2 => ?_
  obtain ⟨hc2, h⟩ := ZK h
  refine Qa rfl (OpT_storeLAA (f := vU8) (xs := b.take 16) rfl rfl rfl rfl tyF180 (i := 1) rfl hc2 rfl (fun _ => rfl)) ?_
  refine Qd (tZ [2, 4] [0, 1] [] rfl rfl rfl rfl ?_)
  refine Qe (Qc ?_)
  obtain ⟨get1, hx1, h⟩ := ob_e h
  refine Qs rfl (QJ [0, 2] (XC hx1) [1] [] rfl rfl rfl rfl rfl callee113 rfl rfl rfl rfl rfl) ?_
  rintro _ ⟨_, _, _, ⟨rfl, rfl, rfl⟩, rfl⟩
  obtain ⟨get2, hx2, h⟩ := ob_e h
  refine Qs rfl (QJ [0, 2] (XC hx2) [1] [] rfl rfl rfl rfl rfl callee113 rfl rfl rfl rfl rfl) ?_
  rintro _ ⟨_, _, _, ⟨rfl, rfl, rfl⟩, rfl⟩
  refine Qa rfl (QX rfl rfl rfl rfl (cnv_u64_u32 (n := get2) Try.underlying27 Try.underlying33)) ?_
  obtain ⟨get3, hx3, h⟩ := ob_e h
  refine Qs rfl (QJ [0, 2] (XC hx3) [1] [] rfl rfl rfl rfl rfl callee113 rfl rfl rfl rfl rfl) ?_
  rintro _ ⟨_, _, _, ⟨rfl, rfl, rfl⟩, rfl⟩
  refine Qa rfl (QX rfl rfl rfl rfl (cnv_u64_u16 (n := get3) Try.underlying27 Try.underlying34)) ?_
  obtain ⟨get4, hx4, h⟩ := ob_e h
  refine Qs rfl (QJ [0, 2] (XC hx4) [1] [] rfl rfl rfl rfl rfl callee113 rfl rfl rfl rfl rfl) ?_
  rintro _ ⟨_, _, _, ⟨rfl, rfl, rfl⟩, rfl⟩
  refine Qa rfl (QX rfl rfl rfl rfl (cnv_u64_u16 (n := get4) Try.underlying27 Try.underlying34)) ?_
  refine Qa rfl (QE (v := .agg #[vU64 get1, vU32 get2.toUInt32, vU16 get3.toUInt16, vU16 get4.toUInt16]) rfl rfl rfl rfl (bldV (by kernel_rfl))) ?_
  refine Qa rfl (Qo (cs' := [vU64 get1, vU32 get2.toUInt32, vU16 get3.toUInt16, vU16 get4.toUInt16]) rfl rfl rfl rfl tyF87 (i := 0) rfl rfl rfl (QF rfl) rfl) ?_
  refine sAs rfl rfl rfl ?_
  refine Qd (tZ [2, 3] [0] [] rfl rfl rfl rfl ?_)
  obtain rfl := Option.some.inj h
  exact Qn rfl rfl (resA (vs := [.agg #[vU64 get1, vU32 get2.toUInt32, vU16 get3.toUInt16, vU16 get4.toUInt16], vI (0 : Int)]) rfl ⟨⟨_, 0, _, _, _, rfl, rfl, .inl ⟨tyF87, rfl, rfl⟩⟩, rfl, trivial⟩) [] [] rfl rfl rfl ⟨rfl, rfl, rfl⟩

set_option maxRecDepth 100000 in
set_option maxHeartbeats 4000000 in
theorem w_serial_Go {pp0 : Pos} {byp1 : Int} {size : Int} {r : (Pos × Int)} (h : KW pp0 byp1 size = some r) :
  Ctr Try.prog 73 #[.agg #[vI pp0.At, vB pp0.Wrap], vI byp1, vI size] [] []
   (fun rv own shr => rv = .tuple #[.agg #[vI r.1.At, vB r.1.Wrap], vI r.2] ∧ own = [] ∧ shr = []) := by
 unfold KW at h
 refine Ctr.mk (args := [.agg #[vI pp0.At, vB pp0.Wrap], vI byp1, vI size]) Try.func73 rfl rfl (fun R0 w0 B => ?_)
 refine Qe (Qc (Qu rfl (ZA rfl rfl rfl rfl) fun b1 => ?_))
 refine Qu rfl (QD rfl rfl rfl tyZ60) fun b2 => ?_
 refine sAs rfl rfl rfl ?_
 refine Qd (tZ [1, 2, 3, 6] [0, 1] [] rfl rfl rfl rfl ?_)
 refine Qe (Qe (Qc (Qa rfl (Qy (vs := [vI pp0.At, vB pp0.Wrap]) rfl rfl rfl rfl YK (i := 0) rfl rfl rfl) ?_)))
 refine sMv rfl rfl rfl ?_
 obtain ⟨check1, hx1, h⟩ := ob_e h
 refine Qs rfl (Qv (w_serial_Check hx1) [] [] rfl rfl rfl rfl rfl callee48 rfl rfl rfl rfl) ?_
 rintro _ ⟨_, _, _, ⟨rfl, rfl, rfl⟩, rfl⟩
 refine Qa rfl (Qf rfl rfl rfl rfl rfl (QL (a := check1) (b := (0 : Int)))) ?_
 refine sMv rfl rfl rfl ?_
 rcases bC (check1 != (0 : Int)) with hg1 | hg1
 ·replace h := br_t hg1 h
  refine Qg rfl rfl (cgb hg1) rfl rfl ?_
  refine Qg rfl rfl (cgb hg1) rfl rfl ?_
  refine Qa rfl (Qr rfl rfl rfl (cgb hg1) rfl) ?_
  refine sMv rfl rfl rfl ?_
  refine Qg rfl rfl rfl rfl rfl ?_
  refine Qg rfl rfl rfl rfl rfl ?_
  refine Qg rfl rfl rfl rfl rfl ?_
  refine Qa rfl (Qr rfl rfl rfl rfl rfl) ?_
  refine Qd (tZ [1, 2, 3, 6, 20] [0, 1] [] rfl rfl rfl rfl ?_)
  refine Ql rfl ?_
  refine Qe (Qc (Qa rfl (QE (v := .agg #[vI (0 : Int), vB false]) rfl rfl rfl rfl (bldV (by kernel_rfl))) ?_))
  refine Qa rfl (Qo (cs' := [vI (0 : Int), vB false]) rfl rfl rfl rfl YK (i := 1) rfl rfl rfl (QF rfl) rfl) ?_
  refine sAs rfl rfl rfl ?_
  refine Qd (tZ [6, 7] [1] [] rfl rfl rfl rfl ?_)
  obtain rfl := Option.some.inj h
  exact Qn rfl rfl (resA (vs := [.agg #[vI (0 : Int), vB false], vI (2 : Int)]) rfl ⟨⟨_, 0, _, _, _, rfl, rfl, .inl ⟨YK, rfl, rfl⟩⟩, rfl, trivial⟩) [] [] rfl rfl rfl ⟨rfl, rfl, rfl⟩
 ·replace h := br_f hg1 h
  refine Qh rfl rfl (cgb hg1) (Qk rfl rfl rfl rfl) ?_
  rintro _ rfl
  refine Qh rfl rfl (cgb hg1) (Qf rfl rfl rfl rfl rfl (QI (a := byp1) (b := (0 : Int)))) ?_
  rintro _ rfl
  refine Qa rfl (Qw rfl rfl rfl (cgb hg1) rfl) ?_
  refine sMv rfl rfl rfl ?_
  rcases bC (decide (byp1 < (0 : Int))) with hg2 | hg2
  ·replace h := br_t hg2 h
   refine Qg rfl rfl (cgb hg2) rfl rfl ?_
   refine Qg rfl rfl (cgb hg2) rfl rfl ?_
   refine Qg rfl rfl (cgb hg2) rfl rfl ?_
   refine Qa rfl (Qr rfl rfl rfl (cgb hg2) rfl) ?_
   refine Qd (tZ [1, 2, 3, 6, 20] [0, 1] [] rfl rfl rfl rfl ?_)
   refine Ql rfl ?_
   refine Qe (Qc (Qa rfl (QE (v := .agg #[vI (0 : Int), vB false]) rfl rfl rfl rfl (bldV (by kernel_rfl))) ?_))
   refine Qa rfl (Qo (cs' := [vI (0 : Int), vB false]) rfl rfl rfl rfl YK (i := 1) rfl rfl rfl (QF rfl) rfl) ?_
   refine sAs rfl rfl rfl ?_
   refine Qd (tZ [6, 7] [1] [] rfl rfl rfl rfl ?_)
   obtain rfl := Option.some.inj h
   exact Qn rfl rfl (resA (vs := [.agg #[vI (0 : Int), vB false], vI (2 : Int)]) rfl ⟨⟨_, 0, _, _, _, rfl, rfl, .inl ⟨YK, rfl, rfl⟩⟩, rfl, trivial⟩) [] [] rfl rfl rfl ⟨rfl, rfl, rfl⟩
  ·replace h := br_f hg2 h
   refine Qh rfl rfl (cgb hg2) (Qk rfl rfl rfl rfl) ?_
   rintro _ rfl
   refine Qh rfl rfl (cgb hg2) (Qk rfl rfl rfl rfl) ?_
   rintro _ rfl
   refine Qh rfl rfl (cgb hg2) (Qf rfl rfl rfl rfl rfl (Kz (a := byp1) (b := size))) ?_
   rintro _ rfl
   refine Qa rfl (Qw rfl rfl rfl (cgb hg2) rfl) ?_
   refine Qd (tZ [1, 2, 3, 6, 20] [0, 1] [] rfl rfl rfl rfl ?_)
   rcases bC (decide (byp1 > size)) with hg3 | hg3
   ·replace h := br_t hg3 h
    refine Ql (cgb hg3) ?_
    refine Qe (Qc (Qa rfl (QE (v := .agg #[vI (0 : Int), vB false]) rfl rfl rfl rfl (bldV (by kernel_rfl))) ?_))
    refine Qa rfl (Qo (cs' := [vI (0 : Int), vB false]) rfl rfl rfl rfl YK (i := 1) rfl rfl rfl (QF rfl) rfl) ?_
    refine sAs rfl rfl rfl ?_
    refine Qd (tZ [6, 7] [1] [] rfl rfl rfl rfl ?_)
    obtain rfl := Option.some.inj h
    exact Qn rfl rfl (resA (vs := [.agg #[vI (0 : Int), vB false], vI (2 : Int)]) rfl ⟨⟨_, 0, _, _, _, rfl, rfl, .inl ⟨YK, rfl, rfl⟩⟩, rfl, trivial⟩) [] [] rfl rfl rfl ⟨rfl, rfl, rfl⟩
   ·replace h := br_f hg3 h
    refine Qp (cgb hg3) ?_
    refine Qt (Qe (Qc (Qa rfl (Qi rfl rfl rfl rfl Yc) ?_)))
    refine Qa rfl (Qj rfl rfl rfl rfl tyF3 (i := 0) rfl rfl) ?_
    refine sMv rfl rfl rfl ?_
    refine Qa rfl (Qf rfl rfl rfl rfl rfl (QG (a := pp0.At) (b := byp1))) ?_
    refine Qa rfl (Qi rfl rfl rfl rfl Yc) ?_
    refine Qa rfl (Qo (cs' := [vI (wi (pp0.At + byp1)), vB pp0.Wrap]) rfl rfl rfl rfl tyF3 (i := 0) rfl rfl rfl (QF rfl) rfl) ?_
    refine Qd (tZ [2, 3, 6] [0, 1] [] rfl rfl rfl rfl ?_)
    refine Qe (Qe (Qc (Qa rfl (Qi rfl rfl rfl rfl Yc) ?_)))
    refine Qa rfl (Qj rfl rfl rfl rfl tyF3 (i := 0) rfl rfl) ?_
    refine sMv rfl rfl rfl ?_
    refine Qa rfl (Qf rfl rfl rfl rfl rfl (YF (a := wi (pp0.At + byp1)) (b := size))) ?_
    refine Qd (tZ [2, 3, 6, 30] [0, 1] [] rfl rfl rfl rfl ?_)
    rcases bC (decide ((wi (pp0.At + byp1)) ≥ size)) with hg4 | hg4
    ·replace h := br_t hg4 h
     refine Ql (cgb hg4) ?_
     refine Qe (Qc (Qa rfl (Qi rfl rfl rfl rfl Yc) ?_))
     refine Qa rfl (Qj rfl rfl rfl rfl tyF3 (i := 0) rfl rfl) ?_
     refine sMv rfl rfl rfl ?_
     refine Qa rfl (Qf rfl rfl rfl rfl rfl (bin_sub_i (a := wi (pp0.At + byp1)) (b := size))) ?_
     refine Qa rfl (Qi rfl rfl rfl rfl Yc) ?_
     refine Qa rfl (Qo (cs' := [vI (wi ((wi (pp0.At + byp1)) - size)), vB pp0.Wrap]) rfl rfl rfl rfl tyF3 (i := 0) rfl rfl rfl (QF rfl) rfl) ?_
     refine Qd (tZ [3, 6] [0, 1] [] rfl rfl rfl rfl ?_)
     refine Qc (Qa rfl (Qi rfl rfl rfl rfl fldF60x1) ?_)
     refine Qa rfl (Qj rfl rfl rfl rfl tyF4 (i := 0) rfl rfl) ?_
     refine Qa rfl (XO rfl rfl rfl rfl) ?_
     refine Qa rfl (Qi rfl rfl rfl rfl fldF60x1) ?_
     refine Qa rfl (Qo (cs' := [vI (wi ((wi (pp0.At + byp1)) - size)), vB (!pp0.Wrap)]) rfl rfl rfl rfl tyF4 (i := 0) rfl rfl rfl (QF rfl) rfl) ?_
     refine Qd (tZ [3, 6] [0, 1] [] rfl rfl rfl rfl ?_)
     refine Qe (Qc (Qa rfl (Qy (vs := [vI (wi ((wi (pp0.At + byp1)) - size)), vB (!pp0.Wrap)]) rfl rfl rfl rfl YK (i := 0) rfl rfl rfl) ?_))
     refine Qa rfl (Qo (cs' := [vI (wi ((wi (pp0.At + byp1)) - size)), vB (!pp0.Wrap)]) rfl rfl rfl rfl YK (i := 1) rfl rfl rfl (QF rfl) rfl) ?_
     refine sAs rfl rfl rfl ?_
     refine Qd (tZ [6, 7] [1] [] rfl rfl rfl rfl ?_)
     obtain rfl := Option.some.inj h
     exact Qn rfl rfl (resA (vs := [.agg #[vI (wi ((wi (pp0.At + byp1)) - size)), vB (!pp0.Wrap)], vI (0 : Int)]) rfl ⟨⟨_, 0, _, _, _, rfl, rfl, .inl ⟨YK, rfl, rfl⟩⟩, rfl, trivial⟩) [] [] rfl rfl rfl ⟨rfl, rfl, rfl⟩
    ·replace h := br_f hg4 h
     refine Qp (cgb hg4) ?_
     refine Qt (Qe (Qc (Qa rfl (Qy (vs := [vI (wi (pp0.At + byp1)), vB pp0.Wrap]) rfl rfl rfl rfl YK (i := 0) rfl rfl rfl) ?_)))
     refine Qa rfl (Qo (cs' := [vI (wi (pp0.At + byp1)), vB pp0.Wrap]) rfl rfl rfl rfl YK (i := 1) rfl rfl rfl (QF rfl) rfl) ?_
     refine sAs rfl rfl rfl ?_
     refine Qd (tZ [6, 7] [1] [] rfl rfl rfl rfl ?_)
     obtain rfl := Option.some.inj h
     exact Qn rfl rfl (resA (vs := [.agg #[vI (wi (pp0.At + byp1)), vB pp0.Wrap], vI (0 : Int)]) rfl ⟨⟨_, 0, _, _, _, rfl, rfl, .inl ⟨YK, rfl, rfl⟩⟩, rfl, trivial⟩) [] [] rfl rfl rfl ⟨rfl, rfl, rfl⟩

set_option maxRecDepth 100000 in
set_option maxHeartbeats 4000000 in
theorem w_walk_within {m : gmem_Mem} {atp1 : UInt64} {np2 : UInt32} {b_m : Nat} {vm1 : Value} {vm2 : Value} {vsm1 : List Value} {r : ((List Seg) × Int)} (h : walk_within m atp1 np2 = some r) :
  Ctr Try.prog 93 #[.pointer (some ⟨b_m, 0, none⟩), vU64 atp1, vU32 np2] [(Qm b_m 113 [vm1, vm2]), (QV u8S true vm2 vsm1 m.b none)] [Fact.sl Qz vm1 m.l]
   (fun rv own shr => ∃ (w1 : Value), rv = .tuple #[w1, vI r.2] ∧ own = [(Qm b_m 113 [vm1, vm2]), (QV u8S true vm2 vsm1 m.b none), (rowS SegS w1 r.1)] ∧ shr = []) := by
 unfold walk_within at h
 refine Ctr.mk (args := [.pointer (some ⟨b_m, 0, none⟩), vU64 atp1, vU32 np2]) Try.func93 rfl rfl (fun R0 w0 B => ?_)
 refine Qe (Qc (sAs rfl rfl rfl ?_))
 refine sAs rfl rfl rfl ?_
 refine Qd (tZ [0, 1, 2, 6] [0, 1] [0] rfl rfl rfl rfl ?_)
 refine Qe (Qc (sMv rfl rfl rfl ?_))
 refine sMv rfl rfl rfl ?_
 refine sMv rfl rfl rfl ?_
 obtain ⟨entrie1, hx1, h⟩ := ob_e h
 refine Qs rfl (QJ [2, 3] (w_walk_entries hx1) [0, 1] [0] rfl rfl rfl rfl rfl callee86 rfl rfl rfl rfl rfl) ?_
 rintro _ ⟨_, _, _, ⟨rfl, rfl, rfl⟩, rfl⟩
 refine sMv rfl rfl rfl ?_
 refine Qa rfl (Qq rfl rfl rfl rfl rfl) ?_
 refine Qa rfl (Qq rfl rfl rfl rfl rfl) ?_
 refine sAs rfl rfl rfl ?_
 refine sAs rfl rfl rfl ?_
 refine Qd (tZ [0, 1, 6, 8, 7] [0, 1] [0] rfl rfl rfl rfl ?_)
 refine Qe (Qe (Qc (sMv rfl rfl rfl ?_)))
 refine sMv rfl rfl rfl ?_
 refine Qd (tZ [0, 1, 6, 7, 21, 22] [0, 1] [0] rfl rfl rfl rfl ?_)
 refine QC (Zr SegS ?_)
 refine Zf (σ := (List Seg) × Int × Int × Value) [0, 1, 6, 7, 21, 22] [0, 1, 2] [0] (fun s => ⟨[(0, some (.pointer (some ⟨b_m, 0, none⟩))), (1, some (vU64 atp1)), (6, some (s.2.2.2)), (7, some (vI s.2.1)), (21, some (vI entrie1.1)), (22, some (vI s.2.2.1))], [some (Qm b_m 113 [vm1, vm2]), some (QV u8S true vm2 vsm1 m.b none), some (rowS SegS s.2.2.2 s.1)], [Fact.sl Qz vm1 m.l]⟩) (fun nf1 s => Yr m atp1 entrie1 nf1 s.1 s.2.1 s.2.2.1 = some r) fuel ([], entrie1.2, (0 : Int), (.slice none 0 0)) h rfl rfl rfl rfl rfl (fun s h => by cases h) ?_
 rintro nf1 ⟨l1, e1, x1, v1⟩ h
 replace h : Kp m atp1 entrie1 (Yr m atp1 entrie1 nf1) l1 e1 x1 = some r := h
 unfold Kp at h
 refine Qe (Qc (Qa rfl (Qf rfl rfl rfl rfl rfl (QI (a := x1) (b := entrie1.1))) ?_))
 refine Qd (Qe ?_)
 rcases bC (decide (x1 < entrie1.1)) with hg1 | hg1
 ·replace h := br_t hg1 h
  refine Ql (cgb hg1) ?_
  refine Qt (Qe (QC (Qe (Qc (sMv rfl rfl rfl ?_)))))
  refine sAs rfl rfl rfl ?_
  refine Qd (tZ [0, 1, 6, 7, 21, 22, 9] [0, 1, 2] [0] rfl rfl rfl rfl ?_)
  refine Qe (Qc (sMv rfl rfl rfl ?_))
  refine sMv rfl rfl rfl ?_
  refine sMv rfl rfl rfl ?_
  refine Qa rfl (QX rfl rfl rfl rfl (Xw (n := x1) Try.underlying3 Try.underlying27)) ?_
  refine Qa rfl (Qf rfl rfl rfl rfl rfl (ZQ (a := (16 : UInt64)) (b := u64 x1))) ?_
  refine Qa rfl (Qf rfl rfl rfl rfl rfl (Za (a := atp1) (b := (16 : UInt64) * (u64 x1)))) ?_
  obtain ⟨YQ, hx2, h⟩ := ob_e h
  refine Qs rfl (QJ [3, 4, 2, 5] (Yg hx2) [0, 1] [0] rfl rfl rfl rfl rfl callee82 rfl rfl rfl rfl rfl) ?_
  rintro _ ⟨_, _, _, ⟨v2, rfl, rfl, rfl⟩, rfl⟩
  refine sMv rfl rfl rfl ?_
  refine Qa rfl (Qq rfl rfl rfl rfl rfl) ?_
  refine Qa rfl (Qq rfl rfl rfl rfl rfl) ?_
  refine sAs rfl rfl rfl ?_
  refine sAs rfl rfl rfl ?_
  refine Qd (tZ [0, 1, 6, 7, 21, 22, 10] [0, 1, 2, 3] [0] rfl rfl rfl rfl ?_)
  refine Qe (Qc (sMv rfl rfl rfl ?_))
  obtain ⟨readpa1, hx3, h⟩ := ob_e h
  refine Qs rfl (Zu [3] [0, 1, 2, 3] (w_desc_ReadPacked hx3) [] rfl rfl rfl rfl rfl callee92 rfl rfl rfl rfl rfl rfl (Zl (Xa 3 rfl rfl) ZZ) (by rintro _ _ _ ⟨rfl, rfl, rfl⟩; exact ⟨rfl, XS⟩)) ?_
  rintro _ ⟨_, _, _, ⟨rfl, rfl, rfl⟩, rfl⟩
  refine sMv rfl rfl rfl ?_
  refine Qa rfl (Qq rfl rfl rfl rfl rfl) ?_
  refine Qa rfl (Qq rfl rfl rfl rfl rfl) ?_
  refine Qu rfl (QD rfl rfl rfl tyZ87) fun b1 => ?_
  refine Qa rfl (Qo (cs' := [vU64 readpa1.1.Addr, vU32 readpa1.1.Len, vU16 readpa1.1.ID, vU16 readpa1.1.Flags]) rfl rfl rfl rfl tyF87 (i := 4) rfl rfl rfl (QF rfl) rfl) ?_
  refine sAs rfl rfl rfl ?_
  refine Qd (tZ [0, 1, 6, 7, 21, 22, 12] [0, 1, 2, 4] [0] rfl rfl rfl rfl ?_)
  refine Qe (Qe (Qc (Qa rfl (Qi rfl rfl rfl rfl Yx) ?_)))
  refine Qa rfl (Qj rfl rfl rfl rfl YP (i := 3) rfl rfl) ?_
  refine Qa rfl (Qf rfl rfl rfl rfl rfl (XZ (a := readpa1.1.Flags) (b := (4 : UInt16)))) ?_
  refine Qa rfl (Qf rfl rfl rfl rfl rfl (KI (a := readpa1.1.Flags &&& (4 : UInt16)) (b := (0 : UInt16)))) ?_
  refine Qd (tZ [0, 1, 6, 7, 21, 22, 12, 43] [0, 1, 2, 3] [0] rfl rfl rfl rfl ?_)
  rcases bC ((readpa1.1.Flags &&& (4 : UInt16)) != (0 : UInt16)) with hg2 | hg2
  ·replace h := br_t hg2 h
   refine Ql (cgb hg2) ?_
   refine Qe (Qc (sAs rfl rfl rfl ?_))
   refine sAs rfl rfl rfl ?_
   refine Qd (tZ [6, 7] [0, 1] [0] rfl rfl rfl rfl ?_)
   refine Zr SegS ?_
   obtain rfl := Option.some.inj h
   exact Qn rfl rfl (resA (vs := [.slice none 0 0, vI (4 : Int)]) rfl ⟨rfl, rfl, trivial⟩) [0, 1, 2] [] rfl rfl rfl ⟨(.slice none 0 0), rfl, rfl, rfl⟩
  ·replace h := br_f hg2 h
   refine Qp (cgb hg2) ?_
   refine Qt (Qc (sMv rfl rfl rfl ?_))
   refine Qa rfl (Qi rfl rfl rfl rfl fldF87x0) ?_
   refine Qa rfl (Qj rfl rfl rfl rfl QZ (i := 3) rfl rfl) ?_
   refine Qa rfl (Qi rfl rfl rfl rfl fldF87x1) ?_
   refine Qa rfl (Qj rfl rfl rfl rfl tyF33 (i := 3) rfl rfl) ?_
   refine Qa rfl (Qi rfl rfl rfl rfl Yx) ?_
   refine Qa rfl (Qj rfl rfl rfl rfl YP (i := 3) rfl rfl) ?_
   obtain ⟨made1, hx4, h⟩ := ob_e h
   refine Qs rfl (Qv (w_walk_made hx4) [] [] rfl rfl rfl rfl rfl callee87 rfl rfl rfl rfl) ?_
   rintro _ ⟨_, _, _, ⟨rfl, rfl, rfl⟩, rfl⟩
   refine Qu rfl (QK (S := SegS) (xs := [made1]) (css := [[vU64 made1.At, vU32 made1.Len, vB made1.Write]]) (cs := [vU64 made1.At, vU32 made1.Len, vB made1.Write]) (e := 46) rfl rfl rfl rfl (bldF slF41 (by decide) (by kernel_rfl)) rfl rfl rfl rfl (Zd (S := SegS) (xs := [made1]) (css := [[vU64 made1.At, vU32 made1.Len, vB made1.Write]]) rfl rfl)) fun v3 => ?_
   obtain ⟨hc1, h⟩ := ZK h
   refine Qu rfl (Zw (S := SegS) rfl rfl rfl rfl rfl rfl slF41 (i := 2) (j := 4) rfl rfl hc1) fun v4 => ?_
   refine sAs rfl rfl rfl ?_
   refine Qd (tZ [0, 1, 6, 7, 21, 22] [0, 1, 2] [0] rfl rfl rfl rfl ?_)
   refine Zx (Qc (Qa rfl (Qf rfl rfl rfl rfl rfl (QG (a := x1) (b := (1 : Int)))) ?_))
   refine sMv rfl rfl rfl ?_
   refine Qd (tZ [0, 1, 6, 7, 21, 22] [0, 1, 2] [0] rfl rfl rfl rfl ?_)
   exact QY (l1 ++ [made1], e1, wi (x1 + (1 : Int)), v4) h [0, 1, 6, 7, 21, 22] [0, 1, 2] [0] rfl rfl rfl rfl rfl
 ·replace h := br_f hg1 h
  refine Qp (cgb hg1) ?_
  refine Zv _ rfl ?_
  refine Qe (Qc (sMv rfl rfl rfl ?_))
  refine sMv rfl rfl rfl ?_
  refine sAs rfl rfl rfl ?_
  refine sAs rfl rfl rfl ?_
  refine Qd (tZ [6, 7] [0, 1, 2] [0] rfl rfl rfl rfl ?_)
  obtain rfl := Option.some.inj h
  exact Qn rfl rfl (resA (vs := [v1, vI e1]) rfl ⟨rfl, rfl, trivial⟩) [0, 1, 2] [] rfl rfl rfl ⟨v1, rfl, rfl, rfl⟩

set_option maxRecDepth 100000 in
set_option maxHeartbeats 4000000 in
theorem w_walk_packed {m : gmem_Mem} {rp1 : Rings} {pp2 : Pos} {table : Bool} {b_m : Nat} {vm1 : Value} {vm2 : Value} {vsm1 : List Value} {r : (Taken × Int)} (h : walk_packed m rp1 pp2 table = some r) :
  Ctr Try.prog 49 #[.pointer (some ⟨b_m, 0, none⟩), .agg #[vB rp1.Packed, vI rp1.Size, vU64 rp1.Desc, vU64 rp1.Driver, vU64 rp1.Device], .agg #[vI pp2.At, vB pp2.Wrap], vB table] [(Qm b_m 113 [vm1, vm2]), (QV u8S true vm2 vsm1 m.b none)] [Fact.sl Qz vm1 m.l]
   (fun rv own shr => ∃ (w1 : Value), rv = .tuple #[.agg #[vI r.1.ID, vI r.1.Count, w1], vI r.2] ∧ own = [(Qm b_m 113 [vm1, vm2]), (QV u8S true vm2 vsm1 m.b none)] ∧ shr = [Fact.sl SegS w1 r.1.Segs]) := by
 unfold walk_packed at h
 refine Ctr.mk (args := [.pointer (some ⟨b_m, 0, none⟩), .agg #[vB rp1.Packed, vI rp1.Size, vU64 rp1.Desc, vU64 rp1.Driver, vU64 rp1.Device], .agg #[vI pp2.At, vB pp2.Wrap], vB table]) Try.func49 rfl rfl (fun R0 w0 B => ?_)
 refine Qe (Qc (Qu rfl (ZA rfl rfl rfl rfl) fun b1 => ?_))
 refine Qu rfl (ZA rfl rfl rfl rfl) fun b2 => ?_
 refine Qu rfl (QD rfl rfl rfl tyZ56) fun b3 => ?_
 refine sAs rfl rfl rfl ?_
 refine Qd (tZ [0, 3, 5, 6, 8] [0, 1, 2, 3, 4] [0] rfl rfl rfl rfl ?_)
 refine Qe (QC (Zr SegS ?_))
 refine Zf (σ := Rings × Pos × Int × Int × (List Seg) × Value) [0, 3, 5, 6, 8] [0, 1, 2, 3, 4, 5] [0] (fun s => ⟨[(0, some (.pointer (some ⟨b_m, 0, none⟩))), (3, some (vB table)), (5, some (.pointer (some ⟨b1, 0, none⟩))), (6, some (.pointer (some ⟨b2, 0, none⟩))), (8, some (.pointer (some ⟨b3, 0, none⟩)))], [some (Qm b_m 113 [vm1, vm2]), some (QV u8S true vm2 vsm1 m.b none), some (Qm b1 29 [vB s.1.Packed, vI s.1.Size, vU64 s.1.Desc, vU64 s.1.Driver, vU64 s.1.Device]), some (Qm b2 60 [vI s.2.1.At, vB s.2.1.Wrap]), some (Qm b3 56 [vI s.2.2.1, vI s.2.2.2.1, s.2.2.2.2.2]), some (rowS SegS s.2.2.2.2.2 s.2.2.2.2.1)], [Fact.sl Qz vm1 m.l]⟩) (fun nf1 s => Ys m table nf1 s.1 s.2.1 s.2.2.1 s.2.2.2.1 s.2.2.2.2.1 = some r) fuel (rp1, pp2, (0 : Int), (0 : Int), ([] : List Seg), .slice none 0 0) h rfl rfl rfl rfl rfl (fun s h => by cases h) ?_
 rintro nf1 ⟨m1, m2, ID1, Count1, Segs1, v1⟩ h
 replace h : Kq m table (Ys m table nf1) m1 m2 ID1 Count1 Segs1 = some r := h
 unfold Kq at h
 refine Qe (Qe (Qc (Qa rfl (Qi rfl rfl rfl rfl fldF56x1) ?_)))
 refine Qa rfl (Qj rfl rfl rfl rfl tyF3 (i := 4) rfl rfl) ?_
 refine Qa rfl (Qi rfl rfl rfl rfl Jg) ?_
 refine Qa rfl (Qj rfl rfl rfl rfl tyF3 (i := 2) rfl rfl) ?_
 refine Qa rfl (Qf rfl rfl rfl rfl rfl (QI (a := Count1) (b := m1.Size))) ?_
 refine Qd (tZ [0, 3, 5, 6, 8, 18] [0, 1, 2, 3, 4, 5] [0] rfl rfl rfl rfl ?_)
 rcases bC (decide (Count1 < m1.Size)) with hg1 | hg1
 ·replace h := br_t hg1 h
  refine Ql (cgb hg1) ?_
  refine Qt (QC (Qe (Qc (sMv rfl rfl rfl ?_))))
  refine Qa rfl (Qi rfl rfl rfl rfl KC) ?_
  refine Qa rfl (Qj rfl rfl rfl rfl QZ (i := 2) rfl rfl) ?_
  refine Qa rfl (Qi rfl rfl rfl rfl Yc) ?_
  refine Qa rfl (Qj rfl rfl rfl rfl tyF3 (i := 3) rfl rfl) ?_
  refine Qa rfl (QX rfl rfl rfl rfl (Xw (n := m2.At) Try.underlying3 Try.underlying27)) ?_
  refine Qa rfl (Qf rfl rfl rfl rfl rfl (ZQ (a := (16 : UInt64)) (b := u64 m2.At))) ?_
  refine Qa rfl (Qf rfl rfl rfl rfl rfl (Za (a := m1.Desc) (b := (16 : UInt64) * (u64 m2.At)))) ?_
  obtain ⟨YQ, hx1, h⟩ := ob_e h
  refine Qs rfl (QJ [6, 7, 2, 3, 4, 5, 8] (Yg hx1) [0, 1] [0] rfl rfl rfl rfl rfl callee82 rfl rfl rfl rfl rfl) ?_
  rintro _ ⟨_, _, _, ⟨v2, rfl, rfl, rfl⟩, rfl⟩
  refine sMv rfl rfl rfl ?_
  refine Qa rfl (Qq rfl rfl rfl rfl rfl) ?_
  refine Qa rfl (Qq rfl rfl rfl rfl rfl) ?_
  refine sAs rfl rfl rfl ?_
  refine sAs rfl rfl rfl ?_
  refine Qd (tZ [0, 3, 5, 6, 8, 10, 11] [0, 1, 2, 3, 4, 5, 6] [0] rfl rfl rfl rfl ?_)
  refine Qe (Qe (Qc (sMv rfl rfl rfl ?_)))
  refine Qa rfl (Qf rfl rfl rfl rfl rfl (QL (a := YQ.2) (b := (0 : Int)))) ?_
  refine Qd (tZ [0, 3, 5, 6, 8, 10, 32] [0, 1, 2, 3, 4, 5, 6] [0] rfl rfl rfl rfl ?_)
  rcases bC (YQ.2 != (0 : Int)) with hg2 | hg2
  ·replace h := br_t hg2 h
   refine Ql (cgb hg2) ?_
   refine Qe (Qc (Qa rfl (Qy (vs := [vI ID1, vI Count1, v1]) rfl rfl rfl rfl YL (i := 4) rfl rfl rfl) ?_))
   refine Qa rfl (XN (fun z0 => [vI ID1, vI Count1, z0]) (cs' := [vI ID1, vI Count1, v1]) rfl rfl rfl rfl YL (i := 4) rfl (Jf (i := 5) rfl) (fun _ _ _ => rfl) rfl rfl rfl) ?_
   refine sAs rfl rfl rfl ?_
   refine Qd (tZ [8, 9] [0, 1, 4, 5] [0] rfl rfl rfl rfl ?_)
   refine Tk_retire (i := 3) rfl ?_
   obtain rfl := Option.some.inj h
   exact Qn rfl rfl (resA (vs := [.agg #[vI ID1, vI Count1, v1], vI (5 : Int)]) rfl ⟨⟨_, 2, _, _, _, rfl, rfl, .inl ⟨YL, rfl, rfl⟩⟩, rfl, trivial⟩) [0, 1] [1] rfl rfl rfl ⟨v1, rfl, rfl, rfl⟩
  ·replace h := br_f hg2 h
   refine Qp (cgb hg2) ?_
   refine Qt (Qe (Qc (sMv rfl rfl rfl ?_)))
   obtain ⟨readpa1, hx2, h⟩ := ob_e h
   refine Qs rfl (Zu [6] [0, 1, 2, 3, 4, 5, 6] (w_desc_ReadPacked hx2) [] rfl rfl rfl rfl rfl callee92 rfl rfl rfl rfl rfl rfl (Zl (Xa 6 rfl rfl) ZZ) (by rintro _ _ _ ⟨rfl, rfl, rfl⟩; exact ⟨rfl, XS⟩)) ?_
   rintro _ ⟨_, _, _, ⟨rfl, rfl, rfl⟩, rfl⟩
   refine sMv rfl rfl rfl ?_
   refine Qa rfl (Qq rfl rfl rfl rfl rfl) ?_
   refine Qa rfl (Qq rfl rfl rfl rfl rfl) ?_
   refine Qu rfl (QD rfl rfl rfl tyZ87) fun b4 => ?_
   refine Qa rfl (Qo (cs' := [vU64 readpa1.1.Addr, vU32 readpa1.1.Len, vU16 readpa1.1.ID, vU16 readpa1.1.Flags]) rfl rfl rfl rfl tyF87 (i := 7) rfl rfl rfl (QF rfl) rfl) ?_
   refine sAs rfl rfl rfl ?_
   refine Qd (tZ [0, 3, 5, 6, 8, 12] [0, 1, 2, 3, 4, 5, 7] [0] rfl rfl rfl rfl ?_)
   refine Qe (Qc (Qa rfl (Qi rfl rfl rfl rfl fldF87x2) ?_))
   refine Qa rfl (Qj rfl rfl rfl rfl YP (i := 6) rfl rfl) ?_
   refine Qa rfl (QX rfl rfl rfl rfl (cnv_u16_i (n := readpa1.1.ID) Try.underlying34 Try.underlying3)) ?_
   refine Qa rfl (Qi rfl rfl rfl rfl fldF56x0) ?_
   refine Qa rfl (Qo (cs' := [vI (i16 readpa1.1.ID), vI Count1, v1]) rfl rfl rfl rfl tyF3 (i := 4) rfl rfl rfl (QF rfl) rfl) ?_
   refine Qd (tZ [0, 3, 5, 6, 8, 12] [0, 1, 2, 3, 4, 5, 6] [0] rfl rfl rfl rfl ?_)
   refine Qe (Qc (Qa rfl (Qi rfl rfl rfl rfl fldF56x1) ?_))
   refine Qa rfl (Qj rfl rfl rfl rfl tyF3 (i := 4) rfl rfl) ?_
   refine Qa rfl (Qf rfl rfl rfl rfl rfl (QG (a := Count1) (b := (1 : Int)))) ?_
   refine Qa rfl (Qi rfl rfl rfl rfl fldF56x1) ?_
   refine Qa rfl (Qo (cs' := [vI (i16 readpa1.1.ID), vI (wi (Count1 + (1 : Int))), v1]) rfl rfl rfl rfl tyF3 (i := 4) rfl rfl rfl (QF rfl) rfl) ?_
   refine Qd (tZ [0, 3, 5, 6, 8, 12] [0, 1, 2, 3, 4, 5, 6] [0] rfl rfl rfl rfl ?_)
   refine Qe (Qc (Qa rfl (Qy (vs := [vI m2.At, vB m2.Wrap]) rfl rfl rfl rfl YK (i := 3) rfl rfl rfl) ?_))
   refine Qa rfl (Qi rfl rfl rfl rfl Jg) ?_
   refine Qa rfl (Qj rfl rfl rfl rfl tyF3 (i := 2) rfl rfl) ?_
   obtain ⟨go1, hx3, h⟩ := ob_e h
   refine Qs rfl (Qv (w_serial_Go hx3) [] [] rfl rfl rfl rfl rfl callee73 rfl rfl rfl rfl) ?_
   rintro _ ⟨_, _, _, ⟨rfl, rfl, rfl⟩, rfl⟩
   refine sMv rfl rfl rfl ?_
   refine Qa rfl (Qq rfl rfl rfl rfl rfl) ?_
   refine Qa rfl (Qq rfl rfl rfl rfl rfl) ?_
   refine Qa rfl (Qo (cs' := [vI go1.1.At, vB go1.1.Wrap]) rfl rfl rfl rfl YK (i := 3) rfl rfl rfl (QF rfl) rfl) ?_
   refine Qd (tZ [0, 3, 5, 6, 8, 12] [0, 1, 2, 3, 4, 5, 6] [0] rfl rfl rfl rfl ?_)
   refine Qe (Qe (Qc (Qa rfl (Qi rfl rfl rfl rfl Yx) ?_)))
   refine Qa rfl (Qj rfl rfl rfl rfl YP (i := 6) rfl rfl) ?_
   refine Qa rfl (Qf rfl rfl rfl rfl rfl (XZ (a := readpa1.1.Flags) (b := (4 : UInt16)))) ?_
   refine Qa rfl (Qf rfl rfl rfl rfl rfl (KI (a := readpa1.1.Flags &&& (4 : UInt16)) (b := (0 : UInt16)))) ?_
   refine Qd (tZ [0, 3, 5, 6, 8, 12, 57] [0, 1, 2, 3, 4, 5, 6] [0] rfl rfl rfl rfl ?_)
   rcases bC ((readpa1.1.Flags &&& (4 : UInt16)) != (0 : UInt16)) with hg3 | hg3
   ·replace h := br_t hg3 h
    refine Ql (cgb hg3) ?_
    refine Qe (Qe (Qc (sMv rfl rfl rfl ?_)))
    refine Qa rfl (XO rfl rfl rfl rfl) ?_
    refine sMv rfl rfl rfl ?_
    rcases bC ((!table)) with hg4 | hg4
    ·replace h := br_t hg4 h
     refine Qg rfl rfl (cgb hg4) rfl rfl ?_
     refine Qg rfl rfl (cgb hg4) rfl rfl ?_
     refine Qg rfl rfl (cgb hg4) rfl rfl ?_
     refine Qa rfl (Qr rfl rfl rfl (cgb hg4) rfl) ?_
     refine sMv rfl rfl rfl ?_
     refine Qg rfl rfl rfl rfl rfl ?_
     refine Qg rfl rfl rfl rfl rfl ?_
     refine Qg rfl rfl rfl rfl rfl ?_
     refine Qg rfl rfl rfl rfl rfl ?_
     refine Qa rfl (Qr rfl rfl rfl rfl rfl) ?_
     refine Qd (tZ [0, 8, 12, 70] [0, 1, 4, 5, 6] [0] rfl rfl rfl rfl ?_)
     refine Ql rfl ?_
     refine Qe (Qc (Qa rfl (Qy (vs := [vI (i16 readpa1.1.ID), vI (wi (Count1 + (1 : Int))), v1]) rfl rfl rfl rfl YL (i := 2) rfl rfl rfl) ?_))
     refine Qa rfl (XN (fun z0 => [vI (i16 readpa1.1.ID), vI (wi (Count1 + (1 : Int))), z0]) (cs' := [vI (i16 readpa1.1.ID), vI (wi (Count1 + (1 : Int))), v1]) rfl rfl rfl rfl YL (i := 2) rfl (Jf (i := 3) rfl) (fun _ _ _ => rfl) rfl rfl rfl) ?_
     refine sAs rfl rfl rfl ?_
     refine Qd (tZ [8, 9] [0, 1, 2, 3] [0] rfl rfl rfl rfl ?_)
     refine Tk_retire (i := 3) rfl ?_
     obtain rfl := Option.some.inj h
     exact Qn rfl rfl (resA (vs := [.agg #[vI (i16 readpa1.1.ID), vI (wi (Count1 + (1 : Int))), v1], vI (4 : Int)]) rfl ⟨⟨_, 2, _, _, _, rfl, rfl, .inl ⟨YL, rfl, rfl⟩⟩, rfl, trivial⟩) [0, 1] [1] rfl rfl rfl ⟨v1, rfl, rfl, rfl⟩
    ·replace h := br_f hg4 h
     refine Qh rfl rfl (cgb hg4) (Qi rfl rfl rfl rfl fldF56x1) ?_
     rintro _ rfl
     refine Qh rfl rfl (cgb hg4) (Qj rfl rfl rfl rfl tyF3 (i := 4) rfl rfl) ?_
     rintro _ rfl
     refine Qh rfl rfl (cgb hg4) (Qf rfl rfl rfl rfl rfl (Kz (a := wi (Count1 + (1 : Int))) (b := (1 : Int)))) ?_
     rintro _ rfl
     refine Qa rfl (Qw rfl rfl rfl (cgb hg4) rfl) ?_
     refine sMv rfl rfl rfl ?_
     rcases bC (decide ((wi (Count1 + (1 : Int))) > (1 : Int))) with hg5 | hg5
     ·replace h := br_t hg5 h
      refine Qg rfl rfl (cgb hg5) rfl rfl ?_
      refine Qg rfl rfl (cgb hg5) rfl rfl ?_
      refine Qg rfl rfl (cgb hg5) rfl rfl ?_
      refine Qg rfl rfl (cgb hg5) rfl rfl ?_
      refine Qa rfl (Qr rfl rfl rfl (cgb hg5) rfl) ?_
      refine Qd (tZ [0, 8, 12, 70] [0, 1, 4, 5, 6] [0] rfl rfl rfl rfl ?_)
      refine Ql rfl ?_
      refine Qe (Qc (Qa rfl (Qy (vs := [vI (i16 readpa1.1.ID), vI (wi (Count1 + (1 : Int))), v1]) rfl rfl rfl rfl YL (i := 2) rfl rfl rfl) ?_))
      refine Qa rfl (XN (fun z0 => [vI (i16 readpa1.1.ID), vI (wi (Count1 + (1 : Int))), z0]) (cs' := [vI (i16 readpa1.1.ID), vI (wi (Count1 + (1 : Int))), v1]) rfl rfl rfl rfl YL (i := 2) rfl (Jf (i := 3) rfl) (fun _ _ _ => rfl) rfl rfl rfl) ?_
      refine sAs rfl rfl rfl ?_
      refine Qd (tZ [8, 9] [0, 1, 2, 3] [0] rfl rfl rfl rfl ?_)
      refine Tk_retire (i := 3) rfl ?_
      obtain rfl := Option.some.inj h
      exact Qn rfl rfl (resA (vs := [.agg #[vI (i16 readpa1.1.ID), vI (wi (Count1 + (1 : Int))), v1], vI (4 : Int)]) rfl ⟨⟨_, 2, _, _, _, rfl, rfl, .inl ⟨YL, rfl, rfl⟩⟩, rfl, trivial⟩) [0, 1] [1] rfl rfl rfl ⟨v1, rfl, rfl, rfl⟩
     ·replace h := br_f hg5 h
      refine Qh rfl rfl (cgb hg5) (Qi rfl rfl rfl rfl Yx) ?_
      rintro _ rfl
      refine Qh rfl rfl (cgb hg5) (Qj rfl rfl rfl rfl YP (i := 6) rfl rfl) ?_
      rintro _ rfl
      refine Qh rfl rfl (cgb hg5) (Qf rfl rfl rfl rfl rfl (XZ (a := readpa1.1.Flags) (b := (1 : UInt16)))) ?_
      rintro _ rfl
      refine Qh rfl rfl (cgb hg5) (Qf rfl rfl rfl rfl rfl (KI (a := readpa1.1.Flags &&& (1 : UInt16)) (b := (0 : UInt16)))) ?_
      rintro _ rfl
      refine Qa rfl (Qw rfl rfl rfl (cgb hg5) rfl) ?_
      refine Qd (tZ [0, 8, 12, 70] [0, 1, 4, 5, 6] [0] rfl rfl rfl rfl ?_)
      rcases bC ((readpa1.1.Flags &&& (1 : UInt16)) != (0 : UInt16)) with hg6 | hg6
      ·replace h := br_t hg6 h
       refine Ql (cgb hg6) ?_
       refine Qe (Qc (Qa rfl (Qy (vs := [vI (i16 readpa1.1.ID), vI (wi (Count1 + (1 : Int))), v1]) rfl rfl rfl rfl YL (i := 2) rfl rfl rfl) ?_))
       refine Qa rfl (XN (fun z0 => [vI (i16 readpa1.1.ID), vI (wi (Count1 + (1 : Int))), z0]) (cs' := [vI (i16 readpa1.1.ID), vI (wi (Count1 + (1 : Int))), v1]) rfl rfl rfl rfl YL (i := 2) rfl (Jf (i := 3) rfl) (fun _ _ _ => rfl) rfl rfl rfl) ?_
       refine sAs rfl rfl rfl ?_
       refine Qd (tZ [8, 9] [0, 1, 2, 3] [0] rfl rfl rfl rfl ?_)
       refine Tk_retire (i := 3) rfl ?_
       obtain rfl := Option.some.inj h
       exact Qn rfl rfl (resA (vs := [.agg #[vI (i16 readpa1.1.ID), vI (wi (Count1 + (1 : Int))), v1], vI (4 : Int)]) rfl ⟨⟨_, 2, _, _, _, rfl, rfl, .inl ⟨YL, rfl, rfl⟩⟩, rfl, trivial⟩) [0, 1] [1] rfl rfl rfl ⟨v1, rfl, rfl, rfl⟩
      ·replace h := br_f hg6 h
       refine Qp (cgb hg6) ?_
       refine Qt (Qe (Qc (sMv rfl rfl rfl ?_)))
       refine Qa rfl (Qi rfl rfl rfl rfl fldF87x0) ?_
       refine Qa rfl (Qj rfl rfl rfl rfl QZ (i := 4) rfl rfl) ?_
       refine Qa rfl (Qi rfl rfl rfl rfl fldF87x1) ?_
       refine Qa rfl (Qj rfl rfl rfl rfl tyF33 (i := 4) rfl rfl) ?_
       obtain ⟨within1, hx4, h⟩ := ob_e h
       refine Qs rfl (QJ [5, 6, 2, 3, 4, 7] (w_walk_within hx4) [0, 1] [0] rfl rfl rfl rfl rfl callee93 rfl rfl rfl rfl rfl) ?_
       rintro _ ⟨_, _, _, ⟨v3, rfl, rfl, rfl⟩, rfl⟩
       refine sMv rfl rfl rfl ?_
       refine Qa rfl (Qq rfl rfl rfl rfl rfl) ?_
       refine Qa rfl (Qq rfl rfl rfl rfl rfl) ?_
       refine Qa rfl (Qi rfl rfl rfl rfl fldF56x2) ?_
       refine Qa rfl (Ym (cs' := [vI (i16 readpa1.1.ID), vI (wi (Count1 + (1 : Int))), v3]) rfl rfl rfl rfl tyF41 (i := 2) rfl (Jf (i := 5) rfl) rfl rfl) ?_
       refine sAs rfl rfl rfl ?_
       refine Qd (tZ [8, 9] [0, 1, 2, 5] [0] rfl rfl rfl rfl ?_)
       refine Qe (Qc (Qa rfl (Qy (vs := [vI (i16 readpa1.1.ID), vI (wi (Count1 + (1 : Int))), v3]) rfl rfl rfl rfl YL (i := 2) rfl rfl rfl) ?_))
       refine sMv rfl rfl rfl ?_
       refine Qa rfl (XN (fun z0 => [vI (i16 readpa1.1.ID), vI (wi (Count1 + (1 : Int))), z0]) (cs' := [vI (i16 readpa1.1.ID), vI (wi (Count1 + (1 : Int))), v3]) rfl rfl rfl rfl YL (i := 2) rfl (Jf (i := 3) rfl) (fun _ _ _ => rfl) rfl rfl rfl) ?_
       refine sAs rfl rfl rfl ?_
       refine Qd (tZ [8, 9] [0, 1, 2, 3] [0] rfl rfl rfl rfl ?_)
       refine Tk_retire (i := 3) rfl ?_
       obtain rfl := Option.some.inj h
       exact Qn rfl rfl (resA (vs := [.agg #[vI (i16 readpa1.1.ID), vI (wi (Count1 + (1 : Int))), v3], vI within1.2]) rfl ⟨⟨_, 2, _, _, _, rfl, rfl, .inl ⟨YL, rfl, rfl⟩⟩, rfl, trivial⟩) [0, 1] [1] rfl rfl rfl ⟨v3, rfl, rfl, rfl⟩
   ·replace h := br_f hg3 h
    refine Qp (cgb hg3) ?_
    refine Qt (Qe (QU (by kernel_rfl) ?_))
    refine Xn [0, 1, 0, 4, 0, 16, 0, 64, 252, 508, 1023, 2047, 4095] (by kernel_rfl) fun htb => ?_
    refine aZ [0, 3, 5, 6, 8, 12] [0, 1, 2, 3, 4, 5, 6] [0] rfl rfl rfl rfl ?_
    obtain ⟨made1, hx5, h⟩ := ob_e h
    refine QW (lo := 0) (hi := 10) htb rfl rfl (by kernel_rfl) (fun c L a w => ∃ (v4 : Value), Sat c ⟨[(0, some (.pointer (some ⟨b_m, 0, none⟩))), (3, some (vB table)), (5, some (.pointer (some ⟨b1, 0, none⟩))), (6, some (.pointer (some ⟨b2, 0, none⟩))), (8, some (.pointer (some ⟨b3, 0, none⟩))), (12, some (.pointer (some ⟨b4, 0, none⟩))), (84, bif L 0 then some (.pointer (some ⟨b3, 2, none⟩)) else none), (85, bif L 1 then some (v1) else none), (86, bif L 2 then some (.pointer (some ⟨b4, 0, none⟩)) else none), (87, bif L 3 then some (vU64 readpa1.1.Addr) else none), (88, bif L 4 then some (.pointer (some ⟨b4, 1, none⟩)) else none), (89, bif L 5 then some (vU32 readpa1.1.Len) else none), (90, bif L 6 then some (.pointer (some ⟨b4, 3, none⟩)) else none), (91, bif L 7 then some (vU16 readpa1.1.Flags) else none), (92, bif L 8 then some (.agg #[vU64 made1.At, vU32 made1.Len, vB made1.Write]) else none), (93, bif L 9 then some (v4) else none)], [(some (Qm b_m 113 [vm1, vm2]) : Option Res), (some (QV u8S true vm2 vsm1 m.b none) : Option Res), (some (Qm b1 29 [vB m1.Packed, vI m1.Size, vU64 m1.Desc, vU64 m1.Driver, vU64 m1.Device]) : Option Res), (some (Qm b2 60 [vI go1.1.At, vB go1.1.Wrap]) : Option Res), (some (Qm b3 56 [vI (i16 readpa1.1.ID), vI (wi (Count1 + (1 : Int))), v1]) : Option Res), (some (rowS SegS v1 Segs1) : Option Res), (some (Qm b4 87 [vU64 readpa1.1.Addr, vU32 readpa1.1.Len, vU16 readpa1.1.ID, vU16 readpa1.1.Flags]) : Option Res), (bif L 9 then some (rowS SegS v4 [made1]) else none : Option Res)], [Fact.sl Qz vm1 m.l]⟩ a w) [([], [1]), ([0], []), ([], [3, 8, 9]), ([2], [8, 9]), ([], [5, 8, 9]), ([4], [8, 9]), ([], [7, 8, 9]), ([6], [8, 9]), ([2, 3, 4, 5, 6, 7], [9]), ([2, 3, 4, 5, 6, 7, 8], [])] rfl (by kernel_rfl) ?_ (Qb ?_ (Qb ?_ (Qb ?_ (Qb ?_ (Qb ?_ (Qb ?_ (Qb ?_ (Qb ?_ (Qb ?_ (Qb ?_ (QB))))))))))) ?_
    ·intro a w hs
     exact ⟨undef, hs.startF [84, 85, 86, 87, 88, 89, 90, 91, 92, 93] [0, 1, 2, 3, 4, 5, 6, 7] [0] rfl rfl rfl rfl⟩
    ·intro L a w hv K Q hK
     obtain ⟨v4, hs⟩ := hv
     exact wGo rfl rfl hs (Qi rfl rfl rfl rfl fldF56x2) fun a w hs => hK a w ⟨v4, pF hs 6 [0, 1, 2, 3, 4, 5, 6, 7] [0] rfl⟩
    ·intro L a w hv K Q hK
     obtain ⟨v4, hs⟩ := hv
     exact wGo rfl rfl hs (Qj rfl rfl rfl rfl tyF41 (i := 4) rfl rfl) fun a w hs => hK a w ⟨v4, pF hs 7 [0, 1, 2, 3, 4, 5, 6, 7] [0] rfl⟩
    ·intro L a w hv K Q hK
     obtain ⟨v4, hs⟩ := hv
     exact wGo rfl rfl hs (Qi rfl rfl rfl rfl fldF87x0) fun a w hs => hK a w ⟨v4, pF hs 8 [0, 1, 2, 3, 4, 5, 6, 7] [0] rfl⟩
    ·intro L a w hv K Q hK
     obtain ⟨v4, hs⟩ := hv
     exact wGo rfl rfl hs (Qj rfl rfl rfl rfl QZ (i := 6) rfl rfl) fun a w hs => hK a w ⟨v4, pF hs 9 [0, 1, 2, 3, 4, 5, 6, 7] [0] rfl⟩
    ·intro L a w hv K Q hK
     obtain ⟨v4, hs⟩ := hv
     exact wGo rfl rfl hs (Qi rfl rfl rfl rfl fldF87x1) fun a w hs => hK a w ⟨v4, pF hs 10 [0, 1, 2, 3, 4, 5, 6, 7] [0] rfl⟩
    ·intro L a w hv K Q hK
     obtain ⟨v4, hs⟩ := hv
     exact wGo rfl rfl hs (Qj rfl rfl rfl rfl tyF33 (i := 6) rfl rfl) fun a w hs => hK a w ⟨v4, pF hs 11 [0, 1, 2, 3, 4, 5, 6, 7] [0] rfl⟩
    ·intro L a w hv K Q hK
     obtain ⟨v4, hs⟩ := hv
     exact wGo rfl rfl hs (Qi rfl rfl rfl rfl Yx) fun a w hs => hK a w ⟨v4, pF hs 12 [0, 1, 2, 3, 4, 5, 6, 7] [0] rfl⟩
    ·intro L a w hv K Q hK
     obtain ⟨v4, hs⟩ := hv
     exact wGo rfl rfl hs (Qj rfl rfl rfl rfl YP (i := 6) rfl rfl) fun a w hs => hK a w ⟨v4, pF hs 13 [0, 1, 2, 3, 4, 5, 6, 7] [0] rfl⟩
    ·intro L a w hv K Q hK
     obtain ⟨v4, hs⟩ := hv
     refine QO rfl rfl hs (Qv (w_walk_made hx5) [] [] rfl rfl rfl rfl rfl callee87 rfl rfl rfl rfl) ?_
     rintro _ ⟨_, _, _, ⟨rfl, rfl, rfl⟩, rfl⟩ a' w' hs'
     exact hK a' w' ⟨v4, hs'.putF (i := 14) rfl [0, 1, 2, 3, 4, 5, 6, 7] [0] rfl rfl rfl rfl⟩
    ·intro L a w hv K Q hK
     obtain ⟨v4, hs⟩ := hv
     refine QO rfl rfl hs (QK (S := SegS) (xs := [made1]) (css := [[vU64 made1.At, vU32 made1.Len, vB made1.Write]]) (cs := [vU64 made1.At, vU32 made1.Len, vB made1.Write]) (e := 46) rfl rfl rfl rfl (bldF slF41 (by decide) (by kernel_rfl)) rfl rfl rfl rfl (Zd (S := SegS) (xs := [made1]) (css := [[vU64 made1.At, vU32 made1.Len, vB made1.Write]]) rfl rfl)) ?_
     rintro _ ⟨v4', rfl⟩ a' w' hs'
     exact hK a' w' ⟨v4', hs'.putF (i := 15) rfl [0, 1, 2, 3, 4, 5, 6, 8] [0] rfl rfl rfl rfl⟩
    ·intro L a w hL hv
     rw [QM hL] at hv
     obtain ⟨v4, hs⟩ := hv
     refine gZ hs [0, 3, 5, 6, 8, 12, 85, 93] [0, 1, 2, 3, 4, 5, 6, 7] [0] rfl rfl rfl rfl ?_
     clear hs hL
     obtain ⟨hc1, h⟩ := ZK h
     refine TA_ex htb (by kernel_rfl) rfl rfl (Zw (S := SegS) rfl rfl rfl rfl rfl rfl slF41 (i := 5) (j := 7) rfl rfl hc1) fun v5 => ?_
     refine Qx htb (by kernel_rfl) rfl rfl (Qi rfl rfl rfl rfl fldF56x2) ?_
     refine Qx htb (by kernel_rfl) rfl rfl (Ym (cs' := [vI (i16 readpa1.1.ID), vI (wi (Count1 + (1 : Int))), v5]) rfl rfl rfl rfl tyF41 (i := 4) rfl (Jf (i := 5) rfl) rfl rfl) ?_
     refine Zh rfl ?_
     refine tZ [0, 3, 5, 6, 8, 12] [0, 1, 2, 3, 4, 5, 6] [0] rfl rfl rfl rfl ?_
     refine Qe (Qc (Qa rfl (Qi rfl rfl rfl rfl Yx) ?_))
     refine Qa rfl (Qj rfl rfl rfl rfl YP (i := 6) rfl rfl) ?_
     refine Qa rfl (Qf rfl rfl rfl rfl rfl (XZ (a := readpa1.1.Flags) (b := (1 : UInt16)))) ?_
     refine Qa rfl (Qf rfl rfl rfl rfl rfl (bin_eql_u16 (a := readpa1.1.Flags &&& (1 : UInt16)) (b := (0 : UInt16)))) ?_
     refine Qd (tZ [0, 3, 5, 6, 8, 99] [0, 1, 2, 3, 4, 5] [0] rfl rfl rfl rfl ?_)
     rcases bC ((readpa1.1.Flags &&& (1 : UInt16)) == (0 : UInt16)) with hg7 | hg7
     ·replace h := br_t hg7 h
      refine Ql (cgb hg7) ?_
      refine Qe (Qc (Qa rfl (Qy (vs := [vI (i16 readpa1.1.ID), vI (wi (Count1 + (1 : Int))), v5]) rfl rfl rfl rfl YL (i := 4) rfl rfl rfl) ?_))
      refine Qa rfl (XN (fun z0 => [vI (i16 readpa1.1.ID), vI (wi (Count1 + (1 : Int))), z0]) (cs' := [vI (i16 readpa1.1.ID), vI (wi (Count1 + (1 : Int))), v5]) rfl rfl rfl rfl YL (i := 4) rfl (Jf (i := 5) rfl) (fun _ _ _ => rfl) rfl rfl rfl) ?_
      refine sAs rfl rfl rfl ?_
      refine Qd (tZ [8, 9] [0, 1, 4, 5] [0] rfl rfl rfl rfl ?_)
      refine Tk_retire (i := 3) rfl ?_
      obtain rfl := Option.some.inj h
      exact Qn rfl rfl (resA (vs := [.agg #[vI (i16 readpa1.1.ID), vI (wi (Count1 + (1 : Int))), v5], vI (0 : Int)]) rfl ⟨⟨_, 2, _, _, _, rfl, rfl, .inl ⟨YL, rfl, rfl⟩⟩, rfl, trivial⟩) [0, 1] [1] rfl rfl rfl ⟨v5, rfl, rfl, rfl⟩
     ·replace h := br_f hg7 h
      refine Qp (cgb hg7) ?_
      refine Qt (Zx ?_)
      exact QY (m1, go1.1, i16 readpa1.1.ID, wi (Count1 + (1 : Int)), Segs1 ++ [made1], v5) h [0, 3, 5, 6, 8] [0, 1, 2, 3, 4, 5] [0] rfl rfl rfl rfl rfl
 ·replace h := br_f hg1 h
  refine Qp (cgb hg1) ?_
  refine Zv _ rfl ?_
  refine Qe (Qc (Qa rfl (Qy (vs := [vI ID1, vI Count1, v1]) rfl rfl rfl rfl YL (i := 4) rfl rfl rfl) ?_))
  refine Qa rfl (XN (fun z0 => [vI ID1, vI Count1, z0]) (cs' := [vI ID1, vI Count1, v1]) rfl rfl rfl rfl YL (i := 4) rfl (Jf (i := 5) rfl) (fun _ _ _ => rfl) rfl rfl rfl) ?_
  refine sAs rfl rfl rfl ?_
  refine Qd (tZ [8, 9] [0, 1, 4, 5] [0] rfl rfl rfl rfl ?_)
  refine Tk_retire (i := 3) rfl ?_
  obtain rfl := Option.some.inj h
  exact Qn rfl rfl (resA (vs := [.agg #[vI ID1, vI Count1, v1], vI (4 : Int)]) rfl ⟨⟨_, 2, _, _, _, rfl, rfl, .inl ⟨YL, rfl, rfl⟩⟩, rfl, trivial⟩) [0, 1] [1] rfl rfl rfl ⟨v1, rfl, rfl, rfl⟩

set_option maxRecDepth 100000 in
set_option maxHeartbeats 4000000 in
theorem w_walk_Packed {m : gmem_Mem} {rp1 : Rings} {pp2 : Pos} {table : Bool} {b_m : Nat} {vm1 : Value} {vm2 : Value} {vsm1 : List Value} {r : (Taken × Int)} (h : YR m rp1 pp2 table = some r) :
  Ctr Try.prog 17 #[.pointer (some ⟨b_m, 0, none⟩), .agg #[vB rp1.Packed, vI rp1.Size, vU64 rp1.Desc, vU64 rp1.Driver, vU64 rp1.Device], .agg #[vI pp2.At, vB pp2.Wrap], vB table] [(Qm b_m 113 [vm1, vm2]), (QV u8S true vm2 vsm1 m.b none)] [Fact.sl Qz vm1 m.l]
   (fun rv own shr => ∃ (w1 : Value), rv = .tuple #[.agg #[vI r.1.ID, vI r.1.Count, w1], vI r.2] ∧ own = [(Qm b_m 113 [vm1, vm2]), (QV u8S true vm2 vsm1 m.b none)] ∧ shr = [Fact.sl SegS w1 r.1.Segs]) := by
 unfold YR at h
 refine Ctr.mk (args := [.pointer (some ⟨b_m, 0, none⟩), .agg #[vB rp1.Packed, vI rp1.Size, vU64 rp1.Desc, vU64 rp1.Driver, vU64 rp1.Device], .agg #[vI pp2.At, vB pp2.Wrap], vB table]) Try.func17 rfl rfl (fun R0 w0 B => ?_)
 refine Qe (Qc (Qu rfl (ZA rfl rfl rfl rfl) fun b1 => ?_))
 refine Qu rfl (ZA rfl rfl rfl rfl) fun b2 => ?_
 refine Qu rfl (QD rfl rfl rfl tyZ56) fun b3 => ?_
 refine sAs rfl rfl rfl ?_
 refine Qd (tZ [0, 3, 5, 6, 8] [0, 1, 2, 3, 4] [0] rfl rfl rfl rfl ?_)
 refine Qe (Qc (sMv rfl rfl rfl ?_))
 refine Qa rfl (Qy (vs := [vB rp1.Packed, vI rp1.Size, vU64 rp1.Desc, vU64 rp1.Driver, vU64 rp1.Device]) rfl rfl rfl rfl ZX (i := 2) rfl rfl rfl) ?_
 obtain ⟨refuse1, hx1, h⟩ := ob_e h
 refine Qs rfl (QJ [5, 6, 2, 3, 4] (w_walk_refuse hx1) [0, 1] [0] rfl rfl rfl rfl rfl callee40 rfl rfl rfl rfl rfl) ?_
 rintro _ ⟨_, _, _, ⟨rfl, rfl, rfl⟩, rfl⟩
 refine sAs rfl rfl rfl ?_
 refine Qd (tZ [0, 3, 5, 6, 8, 10] [0, 1, 2, 3, 4] [0] rfl rfl rfl rfl ?_)
 refine Qe (Qe (Qc (sMv rfl rfl rfl ?_)))
 refine Qa rfl (Qf rfl rfl rfl rfl rfl (ZG (a := refuse1) (b := (0 : Int)))) ?_
 refine sMv rfl rfl rfl ?_
 rcases bC (refuse1 == (0 : Int)) with hg1 | hg1
 ·replace h := br_t hg1 h
  refine Qh rfl rfl (cgb hg1) (Qy (vs := [vI pp2.At, vB pp2.Wrap]) rfl rfl rfl rfl YK (i := 3) rfl rfl rfl) ?_
  rintro _ rfl
  refine Qh rfl rfl (cgb hg1) (Qi rfl rfl rfl rfl Jg) ?_
  rintro _ rfl
  refine Qh rfl rfl (cgb hg1) (Qj rfl rfl rfl rfl tyF3 (i := 2) rfl rfl) ?_
  rintro _ rfl
  obtain ⟨check1, hx2, h⟩ := ob_e h
  refine Qh rfl rfl (cgb hg1) (Qv (w_serial_Check hx2) [] [] rfl rfl rfl rfl rfl callee48 rfl rfl rfl rfl) ?_
  rintro _ ⟨_, _, _, ⟨rfl, rfl, rfl⟩, rfl⟩
  refine Qh rfl rfl (cgb hg1) (Qf rfl rfl rfl rfl rfl (QL (a := check1) (b := (0 : Int)))) ?_
  rintro _ rfl
  refine Qa rfl (Qr rfl rfl rfl (cgb hg1) rfl) ?_
  refine Qd (tZ [0, 3, 5, 6, 8, 10, 23] [0, 1, 2, 3, 4] [0] rfl rfl rfl rfl ?_)
  refine Tk_join (α := Int) (fun s => ⟨[(0, some (.pointer (some ⟨b_m, 0, none⟩))), (3, some (vB table)), (5, some (.pointer (some ⟨b1, 0, none⟩))), (6, some (.pointer (some ⟨b2, 0, none⟩))), (8, some (.pointer (some ⟨b3, 0, none⟩))), (10, some (vI s))], [some (Qm b_m 113 [vm1, vm2]), some (QV u8S true vm2 vsm1 m.b none), some (Qm b1 29 [vB rp1.Packed, vI rp1.Size, vU64 rp1.Desc, vU64 rp1.Driver, vU64 rp1.Device]), some (Qm b2 60 [vI pp2.At, vB pp2.Wrap]), some (Qm b3 56 [vI (0 : Int), vI (0 : Int), .slice none 0 0])], [Fact.sl Qz vm1 m.l]⟩) (fun s => Yv m rp1 pp2 table s = some r) ?_ ?_
  ·rintro e1 h
   replace h : Yv m rp1 pp2 table e1 = some r := h
   unfold Yv at h
   refine Qe (Qe (Qc (sMv rfl rfl rfl ?_)))
   refine Qa rfl (Qf rfl rfl rfl rfl rfl (QL (a := e1) (b := (0 : Int)))) ?_
   refine Qd (tZ [0, 3, 5, 6, 8, 10, 25] [0, 1, 2, 3, 4] [0] rfl rfl rfl rfl ?_)
   rcases bC (e1 != (0 : Int)) with hg2 | hg2
   ·replace h := br_t hg2 h
    refine Ql (cgb hg2) ?_
    refine Qe (Qc (Qa rfl (QE (v := .agg #[vI (0 : Int), vI (0 : Int), .slice none 0 0]) rfl rfl rfl rfl (bldV (by kernel_rfl))) ?_))
    refine sMv rfl rfl rfl ?_
    refine Qa rfl (Qo (cs' := [vI (0 : Int), vI (0 : Int), .slice none 0 0]) rfl rfl rfl rfl YL (i := 4) rfl rfl rfl (QF rfl) rfl) ?_
    refine sAs rfl rfl rfl ?_
    refine Qd (tZ [8, 9] [0, 1, 4] [0] rfl rfl rfl rfl ?_)
    refine Yl SegS ?_
    obtain rfl := Option.some.inj h
    exact Qn rfl rfl (resA (vs := [.agg #[vI (0 : Int), vI (0 : Int), .slice none 0 0], vI e1]) rfl ⟨⟨_, 2, _, _, _, rfl, rfl, .inl ⟨YL, rfl, rfl⟩⟩, rfl, trivial⟩) [0, 1] [1] rfl rfl rfl ⟨(.slice none 0 0), rfl, rfl, rfl⟩
   ·replace h := br_f hg2 h
    refine Qp (cgb hg2) ?_
    refine Qt (Qe (Qc (sMv rfl rfl rfl ?_)))
    refine Qa rfl (Qy (vs := [vB rp1.Packed, vI rp1.Size, vU64 rp1.Desc, vU64 rp1.Driver, vU64 rp1.Device]) rfl rfl rfl rfl ZX (i := 2) rfl rfl rfl) ?_
    refine Qa rfl (Qy (vs := [vI pp2.At, vB pp2.Wrap]) rfl rfl rfl rfl YK (i := 3) rfl rfl rfl) ?_
    refine sMv rfl rfl rfl ?_
    obtain ⟨packed1, hx3, h⟩ := ob_e h
    refine Qs rfl (QJ [5, 6, 2, 3, 4] (w_walk_packed hx3) [0, 1] [0] rfl rfl rfl rfl rfl callee49 rfl rfl rfl rfl rfl) ?_
    rintro _ ⟨_, _, _, ⟨v1, rfl, rfl, rfl⟩, rfl⟩
    refine sMv rfl rfl rfl ?_
    refine Qa rfl (Qq rfl rfl rfl rfl rfl) ?_
    refine Qa rfl (Qq rfl rfl rfl rfl rfl) ?_
    refine Qu rfl (QD rfl rfl rfl tyZ56) fun b4 => ?_
    refine Qa rfl (XN (fun z0 => [vI packed1.1.ID, vI packed1.1.Count, z0]) (cs' := [vI packed1.1.ID, vI packed1.1.Count, v1]) rfl rfl rfl rfl YL (i := 5) rfl (is_sl (i := 1) rfl) (fun _ _ _ => rfl) rfl rfl rfl) ?_
    refine sAs rfl rfl rfl ?_
    refine Qd (tZ [0, 5, 8, 10, 11] [0, 1, 2, 4, 5] [0, 1] rfl rfl rfl rfl ?_)
    refine Qe (Qe (Qc (sMv rfl rfl rfl ?_)))
    refine Qa rfl (Qf rfl rfl rfl rfl rfl (ZG (a := packed1.2) (b := (0 : Int)))) ?_
    refine sMv rfl rfl rfl ?_
    rcases bC (packed1.2 == (0 : Int)) with hg3 | hg3
    ·replace h := br_t hg3 h
     refine Qh rfl rfl (cgb hg3) (Qi rfl rfl rfl rfl fldF56x0) ?_
     rintro _ rfl
     refine Qh rfl rfl (cgb hg3) (Qj rfl rfl rfl rfl tyF3 (i := 4) rfl rfl) ?_
     rintro _ rfl
     refine Qh rfl rfl (cgb hg3) (Qi rfl rfl rfl rfl Jg) ?_
     rintro _ rfl
     refine Qh rfl rfl (cgb hg3) (Qj rfl rfl rfl rfl tyF3 (i := 2) rfl rfl) ?_
     rintro _ rfl
     refine Qh rfl rfl (cgb hg3) (Qf rfl rfl rfl rfl rfl (YF (a := packed1.1.ID) (b := rp1.Size))) ?_
     rintro _ rfl
     refine Qa rfl (Qr rfl rfl rfl (cgb hg3) rfl) ?_
     refine Qd (tZ [0, 8, 10, 11, 44] [0, 1, 3, 4] [0, 1] rfl rfl rfl rfl ?_)
     refine Tk_join (α := Int) (fun s => ⟨[(0, some (.pointer (some ⟨b_m, 0, none⟩))), (8, some (.pointer (some ⟨b3, 0, none⟩))), (10, some (vI s)), (11, some (.pointer (some ⟨b4, 0, none⟩)))], [some (Qm b_m 113 [vm1, vm2]), some (QV u8S true vm2 vsm1 m.b none), some (Qm b3 56 [vI (0 : Int), vI (0 : Int), .slice none 0 0]), some (Qm b4 56 [vI packed1.1.ID, vI packed1.1.Count, v1])], [Fact.sl Qz vm1 m.l, Fact.sl SegS v1 packed1.1.Segs]⟩) (fun s => Yu m packed1 s = some r) ?_ ?_
     ·rintro e2 h
      replace h : Yu m packed1 e2 = some r := h
      unfold Yu at h
      refine Qe (Qe (Qc (sMv rfl rfl rfl ?_)))
      refine Qa rfl (Qf rfl rfl rfl rfl rfl (ZG (a := e2) (b := (0 : Int)))) ?_
      refine Qd (tZ [0, 8, 10, 11, 46] [0, 1, 2, 3] [0, 1] rfl rfl rfl rfl ?_)
      refine Tk_join (α := Int × Int × (List Seg) × Int × Int × Int × (List Seg) × Value × Value) (fun s => ⟨[(8, some (.pointer (some ⟨b3, 0, none⟩))), (10, some (vI s.2.2.2.1)), (11, some (.pointer (some ⟨b4, 0, none⟩)))], [some (Qm b3 56 [vI s.1, vI s.2.1, s.2.2.2.2.2.2.2.1]), some (Qm b4 56 [vI s.2.2.2.2.1, vI s.2.2.2.2.2.1, s.2.2.2.2.2.2.2.2]), some (Qm b_m 113 [vm1, vm2]), some (QV u8S true vm2 vsm1 m.b none)], [Fact.sl SegS s.2.2.2.2.2.2.2.1 s.2.2.1, Fact.sl SegS s.2.2.2.2.2.2.2.2 s.2.2.2.2.2.2.1, Fact.sl Qz vm1 m.l]⟩) (fun s => Yt s.1 s.2.1 s.2.2.1 s.2.2.2.1 s.2.2.2.2.1 s.2.2.2.2.2.1 s.2.2.2.2.2.2.1 = some r) ?_ ?_
      ·rintro ⟨ID1, Count1, Segs1, e3, ID2, Count2, Segs2, v2, v3⟩ h
       replace h : Yt ID1 Count1 Segs1 e3 ID2 Count2 Segs2 = some r := h
       unfold Yt at h
       refine Qe (Qe (Qc (sMv rfl rfl rfl ?_)))
       refine Qa rfl (Qf rfl rfl rfl rfl rfl (QL (a := e3) (b := (0 : Int)))) ?_
       refine Qd (tZ [8, 10, 11, 56] [0, 1, 2, 3] [0, 1, 2] rfl rfl rfl rfl ?_)
       rcases bC (e3 != (0 : Int)) with hg4 | hg4
       ·replace h := br_t hg4 h
        refine Ql (cgb hg4) ?_
        refine Qe (Qc (Qa rfl (QE (v := .agg #[vI (0 : Int), vI (0 : Int), .slice none 0 0]) rfl rfl rfl rfl (bldV (by kernel_rfl))) ?_))
        refine sMv rfl rfl rfl ?_
        refine Qa rfl (Qo (cs' := [vI (0 : Int), vI (0 : Int), .slice none 0 0]) rfl rfl rfl rfl YL (i := 0) rfl rfl rfl (QF rfl) rfl) ?_
        refine sAs rfl rfl rfl ?_
        refine Qd (tZ [8, 9] [0, 2, 3] [2] rfl rfl rfl rfl ?_)
        refine Yl SegS ?_
        obtain rfl := Option.some.inj h
        exact Qn rfl rfl (resA (vs := [.agg #[vI (0 : Int), vI (0 : Int), .slice none 0 0], vI e3]) rfl ⟨⟨_, 0, _, _, _, rfl, rfl, .inl ⟨YL, rfl, rfl⟩⟩, rfl, trivial⟩) [1, 2] [1] rfl rfl rfl ⟨(.slice none 0 0), rfl, rfl, rfl⟩
       ·replace h := br_f hg4 h
        refine Qp (cgb hg4) ?_
        refine Qt (Qe (Qc (Qa rfl (Qy (vs := [vI ID2, vI Count2, v3]) rfl rfl rfl rfl YL (i := 1) rfl rfl rfl) ?_)))
        refine Qa rfl (XN (fun z0 => [vI ID2, vI Count2, z0]) (cs' := [vI ID2, vI Count2, v3]) rfl rfl rfl rfl YL (i := 0) rfl (is_sl (i := 1) rfl) (fun _ _ _ => rfl) rfl rfl rfl) ?_
        refine sAs rfl rfl rfl ?_
        refine Qd (tZ [8, 9] [0, 2, 3] [1, 2] rfl rfl rfl rfl ?_)
        obtain rfl := Option.some.inj h
        exact Qn rfl rfl (resA (vs := [.agg #[vI ID2, vI Count2, v3], vI (0 : Int)]) rfl ⟨⟨_, 0, _, _, _, rfl, rfl, .inl ⟨YL, rfl, rfl⟩⟩, rfl, trivial⟩) [1, 2] [0] rfl rfl rfl ⟨v3, rfl, rfl, rfl⟩
      ·intro HJ1
       rcases bC (e2 == (0 : Int)) with hg5 | hg5
       ·replace h := br_t hg5 h
        refine Ql (cgb hg5) ?_
        refine Qc (sMv rfl rfl rfl ?_)
        refine Qa rfl (Qi rfl rfl rfl rfl fldF56x2) ?_
        refine Qa rfl (Qj rfl rfl rfl rfl tyF41 (i := 3) rfl rfl) ?_
        obtain ⟨looked1, hx4, h⟩ := ob_e h
        refine Qs rfl (QJ [4, 5, 2, 3] (w_walk_looked hx4) [0, 1] [0, 1] rfl rfl rfl rfl rfl callee42 rfl rfl rfl rfl rfl) ?_
        rintro _ ⟨_, _, _, ⟨v4, rfl, rfl, rfl⟩, rfl⟩
        refine sMv rfl rfl rfl ?_
        refine Qa rfl (Qq rfl rfl rfl rfl rfl) ?_
        refine Qa rfl (Qq rfl rfl rfl rfl rfl) ?_
        refine Qa rfl (Qi rfl rfl rfl rfl fldF56x2) ?_
        refine Qa rfl (Ym (cs' := [vI packed1.1.ID, vI packed1.1.Count, v4]) rfl rfl rfl rfl tyF41 (i := 3) rfl (is_sl (i := 2) rfl) rfl rfl) ?_
        refine sAs rfl rfl rfl ?_
        refine Qd (tZ [8, 10, 11] [0, 1, 2, 3] [0, 2] rfl rfl rfl rfl ?_)
        refine Yl SegS ?_
        exact XA (HJ1 ((0 : Int), (0 : Int), ([] : List Seg), looked1.2, packed1.1.ID, packed1.1.Count, looked1.1, .slice none 0 0, v4) h) [8, 10, 11] [2, 3, 0, 1] [2, 1, 0] rfl rfl rfl rfl
       ·replace h := br_f hg5 h
        refine Qp (cgb hg5) ?_
        refine Qt (Yl SegS ?_)
        exact XA (HJ1 ((0 : Int), (0 : Int), ([] : List Seg), e2, packed1.1.ID, packed1.1.Count, packed1.1.Segs, .slice none 0 0, v1) h) [8, 10, 11] [2, 3, 0, 1] [2, 1, 0] rfl rfl rfl rfl
     ·intro HJ2
      rcases bC (decide (packed1.1.ID ≥ rp1.Size)) with hg6 | hg6
      ·replace h := br_t hg6 h
       refine Ql (cgb hg6) ?_
       refine Qc (sAs rfl rfl rfl ?_)
       refine Qd (tZ [0, 8, 10, 11] [0, 1, 2, 3] [0, 1] rfl rfl rfl rfl ?_)
       exact XA (HJ2 (4 : Int) h) [0, 8, 10, 11] [0, 1, 2, 3] [0, 1] rfl rfl rfl rfl
      ·replace h := br_f hg6 h
       refine Qp (cgb hg6) ?_
       refine Qt ?_
       exact XA (HJ2 packed1.2 h) [0, 8, 10, 11] [0, 1, 2, 3] [0, 1] rfl rfl rfl rfl
    ·replace h := br_f hg3 h
     refine Qg rfl rfl (cgb hg3) rfl rfl ?_
     refine Qg rfl rfl (cgb hg3) rfl rfl ?_
     refine Qg rfl rfl (cgb hg3) rfl rfl ?_
     refine Qg rfl rfl (cgb hg3) rfl rfl ?_
     refine Qg rfl rfl (cgb hg3) rfl rfl ?_
     refine Qa rfl (Qw rfl rfl rfl (cgb hg3) rfl) ?_
     refine Qd (tZ [0, 8, 10, 11, 44] [0, 1, 3, 4] [0, 1] rfl rfl rfl rfl ?_)
     refine Qp rfl ?_
     refine Qt (Qe (Qe (Qc (sMv rfl rfl rfl ?_))))
     refine Qa rfl (Qf rfl rfl rfl rfl rfl (ZG (a := packed1.2) (b := (0 : Int)))) ?_
     refine Qd (tZ [0, 8, 10, 11, 46] [0, 1, 2, 3] [0, 1] rfl rfl rfl rfl ?_)
     refine Qp (cgb hg3) ?_
     refine Qt (Qe (Qe (Qc (sMv rfl rfl rfl ?_))))
     refine Qa rfl (Qf rfl rfl rfl rfl rfl (QL (a := packed1.2) (b := (0 : Int)))) ?_
     refine Qd (tZ [8, 10, 11, 56] [0, 1, 2, 3] [0, 1] rfl rfl rfl rfl ?_)
     refine Ql (congrArg (fun b => some (Value.bool (!b))) hg3) ?_
     refine Qe (Qc (Qa rfl (QE (v := .agg #[vI (0 : Int), vI (0 : Int), .slice none 0 0]) rfl rfl rfl rfl (bldV (by kernel_rfl))) ?_))
     refine sMv rfl rfl rfl ?_
     refine Qa rfl (Qo (cs' := [vI (0 : Int), vI (0 : Int), .slice none 0 0]) rfl rfl rfl rfl YL (i := 2) rfl rfl rfl (QF rfl) rfl) ?_
     refine sAs rfl rfl rfl ?_
     refine Qd (tZ [8, 9] [0, 1, 2] [0] rfl rfl rfl rfl ?_)
     refine Yl SegS ?_
     obtain rfl := Option.some.inj h
     exact Qn rfl rfl (resA (vs := [.agg #[vI (0 : Int), vI (0 : Int), .slice none 0 0], vI packed1.2]) rfl ⟨⟨_, 2, _, _, _, rfl, rfl, .inl ⟨YL, rfl, rfl⟩⟩, rfl, trivial⟩) [0, 1] [1] rfl rfl rfl ⟨(.slice none 0 0), rfl, rfl, rfl⟩
  ·intro HJ3
   rcases bC (check1 != (0 : Int)) with hg7 | hg7
   ·replace h := br_t hg7 h
    refine Ql (cgb hg7) ?_
    refine Qc (sAs rfl rfl rfl ?_)
    refine Qd (tZ [0, 3, 5, 6, 8, 10] [0, 1, 2, 3, 4] [0] rfl rfl rfl rfl ?_)
    exact XA (HJ3 (2 : Int) h) [0, 3, 5, 6, 8, 10] [0, 1, 2, 3, 4] [0] rfl rfl rfl rfl
   ·replace h := br_f hg7 h
    refine Qp (cgb hg7) ?_
    refine Qt ?_
    exact XA (HJ3 refuse1 h) [0, 3, 5, 6, 8, 10] [0, 1, 2, 3, 4] [0] rfl rfl rfl rfl
 ·replace h := br_f hg1 h
  refine Qg rfl rfl (cgb hg1) rfl rfl ?_
  refine Qg rfl rfl (cgb hg1) rfl rfl ?_
  refine Qg rfl rfl (cgb hg1) rfl rfl ?_
  refine Qg rfl rfl (cgb hg1) rfl rfl ?_
  refine Qg rfl rfl (cgb hg1) rfl rfl ?_
  refine Qa rfl (Qw rfl rfl rfl (cgb hg1) rfl) ?_
  refine Qd (tZ [0, 3, 5, 6, 8, 10, 23] [0, 1, 2, 3, 4] [0] rfl rfl rfl rfl ?_)
  refine Qp rfl ?_
  refine Qt (Qe (Qe (Qc (sMv rfl rfl rfl ?_))))
  refine Qa rfl (Qf rfl rfl rfl rfl rfl (QL (a := refuse1) (b := (0 : Int)))) ?_
  refine Qd (tZ [0, 3, 5, 6, 8, 10, 25] [0, 1, 2, 3, 4] [0] rfl rfl rfl rfl ?_)
  refine Ql (congrArg (fun b => some (Value.bool (!b))) hg1) ?_
  refine Qe (Qc (Qa rfl (QE (v := .agg #[vI (0 : Int), vI (0 : Int), .slice none 0 0]) rfl rfl rfl rfl (bldV (by kernel_rfl))) ?_))
  refine sMv rfl rfl rfl ?_
  refine Qa rfl (Qo (cs' := [vI (0 : Int), vI (0 : Int), .slice none 0 0]) rfl rfl rfl rfl YL (i := 4) rfl rfl rfl (QF rfl) rfl) ?_
  refine sAs rfl rfl rfl ?_
  refine Qd (tZ [8, 9] [0, 1, 4] [0] rfl rfl rfl rfl ?_)
  refine Yl SegS ?_
  obtain rfl := Option.some.inj h
  exact Qn rfl rfl (resA (vs := [.agg #[vI (0 : Int), vI (0 : Int), .slice none 0 0], vI refuse1]) rfl ⟨⟨_, 2, _, _, _, rfl, rfl, .inl ⟨YL, rfl, rfl⟩⟩, rfl, trivial⟩) [0, 1] [1] rfl rfl rfl ⟨(.slice none 0 0), rfl, rfl, rfl⟩

end Go.Proofs.Ytlofegfaphijpaa
