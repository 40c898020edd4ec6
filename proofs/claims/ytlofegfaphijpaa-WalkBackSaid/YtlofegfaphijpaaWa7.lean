/- The functions do what the plain words say: each is walked once. No statement of the seat is proved here; no condition. -/
import Derived.Test.YtlofegfaphijpaaWa6
namespace Go.Proofs.Ytlofegfaphijpaa
attribute [local irreducible] sub
set_option maxRecDepth 100000 in
set_option maxHeartbeats 4000000 in
theorem w_desc_PackedBytes {dp0 : Packed} {r : (List UInt8)} (h : KE dp0 = some r) :
  Ctr Try.prog 76 #[.agg #[vU64 dp0.Addr, vU32 dp0.Len, vU16 dp0.ID, vU16 dp0.Flags]] [] []
   (fun rv own shr => ∃ (w1 : Value), rv = w1 ∧ own = [(rowS u8S w1 r)] ∧ shr = []) := by
 unfold KE at h
 refine Ctr.mk (args := [.agg #[vU64 dp0.Addr, vU32 dp0.Len, vU16 dp0.ID, vU16 dp0.Flags]]) Try.func76 rfl rfl (fun R0 w0 B => ?_)
 refine Qe (Qc (Qu rfl (ZA rfl rfl rfl rfl) fun b1 => ?_))
 refine sAs rfl rfl rfl ?_
 refine Qd (tZ [1] [0] [] rfl rfl rfl rfl ?_)
 refine Qe (Qc (Qu rfl (QD rfl rfl rfl tyZ180) fun b2 => ?_))
 refine Qd (Qe (Qc (Qa rfl (Qi rfl rfl rfl rfl fldF87x0) ?_)))
 refine Qa rfl (Qj rfl rfl rfl rfl QZ (i := 0) rfl rfl) ?_
 obtain ⟨put1, hx1, h⟩ := ob_e h
 refine Qs rfl (QJ [0, 2] (XB hx1) [1] [] rfl rfl rfl rfl rfl callee106 rfl rfl rfl rfl rfl) ?_
 rintro _ ⟨_, _, _, ⟨rfl, rfl, rfl⟩, rfl⟩
 refine Qd (tZ [1, 3] [0, 1] [] rfl rfl rfl rfl ?_)
 refine Qe (Qc (Qa rfl (Qi rfl rfl rfl rfl fldF87x1) ?_))
 refine Qa rfl (Qj rfl rfl rfl rfl tyF33 (i := 0) rfl rfl) ?_
 refine Qa rfl (QX rfl rfl rfl rfl (XM (n := dp0.Len) Try.underlying33 Try.underlying27)) ?_
 obtain ⟨put2, hx2, h⟩ := ob_e h
 refine Qs rfl (QJ [0, 2] (XB hx2) [1] [] rfl rfl rfl rfl rfl callee106 rfl rfl rfl rfl rfl) ?_
 rintro _ ⟨_, _, _, ⟨rfl, rfl, rfl⟩, rfl⟩
 refine Qd (tZ [1, 3] [0, 1] [] rfl rfl rfl rfl ?_)
 refine Qe (Qc (Qa rfl (Qi rfl rfl rfl rfl fldF87x2) ?_))
 refine Qa rfl (Qj rfl rfl rfl rfl YP (i := 0) rfl rfl) ?_
 refine Qa rfl (QX rfl rfl rfl rfl (YX (n := dp0.ID) Try.underlying34 Try.underlying27)) ?_
 obtain ⟨put3, hx3, h⟩ := ob_e h
 refine Qs rfl (QJ [0, 2] (XB hx3) [1] [] rfl rfl rfl rfl rfl callee106 rfl rfl rfl rfl rfl) ?_
 rintro _ ⟨_, _, _, ⟨rfl, rfl, rfl⟩, rfl⟩
 refine Qd (tZ [1, 3] [0, 1] [] rfl rfl rfl rfl ?_)
 refine Qe (Qc (Qa rfl (Qi rfl rfl rfl rfl Yx) ?_))
 refine Qa rfl (Qj rfl rfl rfl rfl YP (i := 0) rfl rfl) ?_
 refine Qa rfl (QX rfl rfl rfl rfl (YX (n := dp0.Flags) Try.underlying34 Try.underlying27)) ?_
 obtain ⟨put4, hx4, h⟩ := ob_e h
 refine Qs rfl (QJ [0, 2] (XB hx4) [1] [] rfl rfl rfl rfl rfl callee106 rfl rfl rfl rfl rfl) ?_
 rintro _ ⟨_, _, _, ⟨rfl, rfl, rfl⟩, rfl⟩
 refine Qd (tZ [3] [1] [] rfl rfl rfl rfl ?_)
 refine Qe (Qc (Qa rfl (OpT_sliceArr rfl rfl rfl rfl arrF180) ?_))
 refine sAs rfl rfl rfl ?_
 refine Qd (tZ [2] [0] [] rfl rfl rfl rfl ?_)
 obtain ⟨hc1, h⟩ := ZK h
 refine Tk_rowD u8S rfl (i := 0) (xs := put4) rfl (flat_one _) (len_of hc1) rfl ?_
 obtain rfl := Option.some.inj h
 exact Qn rfl rfl (resA (vs := [.slice (some ⟨b2, 0, none⟩) 16 16]) rfl ⟨rfl, trivial⟩) [0] [] rfl rfl rfl ⟨(.slice (some ⟨b2, 0, none⟩) 16 16), rfl, rfl, rfl⟩

set_option maxRecDepth 100000 in
set_option maxHeartbeats 4000000 in
theorem w_build_PackedTable {l : List Seg} {vl1 : Value} {r : ((List UInt8) × Int)} (h : Yk l = some r) :
  Ctr Try.prog 33 #[vl1] [] [Fact.sl SegS vl1 l]
   (fun rv own shr => ∃ (w1 : Value), rv = .tuple #[w1, vI r.2] ∧ own = [(rowS u8S w1 r.1)] ∧ shr = []) := by
 unfold Yk at h
 refine Ctr.mk (args := [vl1]) Try.func33 rfl rfl (fun R0 w0 B => ?_)
 refine Qe (Qc (sAs rfl rfl rfl ?_))
 refine sAs rfl rfl rfl ?_
 refine Qd (tZ [0] [] [0] rfl rfl rfl rfl ?_)
 refine Qe (Qe (Qc (sMv rfl rfl rfl ?_)))
 obtain ⟨buffer1, hx1, h⟩ := ob_e h
 refine Qs rfl (Qv (w_build_buffer hx1) [] [0] rfl rfl rfl rfl rfl callee64 rfl rfl rfl rfl) ?_
 rintro _ ⟨v1, _, _, ⟨_, rfl, rfl, rfl⟩, rfl⟩
 refine Qu rfl (ZS fnS132 (vs := [v1]) (xs := [buffer1]) rfl rfl rfl rfl rfl slF175 rfl rfl rfl (Xo (KL (i := 1) rfl) (KX rfl))) fun v2 => ?_
 obtain ⟨first1, hx2, h⟩ := ob_e h
 refine Qs rfl (Zu [0] [0] (ZE hx2) [] rfl rfl rfl rfl rfl YO rfl rfl rfl rfl rfl rfl (Zl (Xa 0 rfl rfl) ZZ) (by rintro _ _ _ ⟨rfl, rfl, rfl⟩; exact ⟨rfl, XS⟩)) ?_
 rintro _ ⟨_, _, _, ⟨rfl, rfl, rfl⟩, rfl⟩
 refine sAs rfl rfl rfl ?_
 refine Qd (tZ [0, 4] [] [0] rfl rfl rfl rfl ?_)
 refine Qe (Qc (sMv rfl rfl rfl ?_))
 refine Qa rfl (Qf rfl rfl rfl rfl rfl (QL (a := first1) (b := (0 : Int)))) ?_
 refine Qd (tZ [0, 4, 14] [] [0] rfl rfl rfl rfl ?_)
 rcases bC (first1 != (0 : Int)) with hg1 | hg1
 ·replace h := br_t hg1 h
  refine Ql (cgb hg1) ?_
  refine Qe (Qc (sMv rfl rfl rfl ?_))
  refine sAs rfl rfl rfl ?_
  refine sAs rfl rfl rfl ?_
  refine Qd (tZ [2, 3] [] [] rfl rfl rfl rfl ?_)
  refine Zr u8S ?_
  obtain rfl := Option.some.inj h
  exact Qn rfl rfl (resA (vs := [.slice none 0 0, vI first1]) rfl ⟨rfl, rfl, trivial⟩) [0] [] rfl rfl rfl ⟨(.slice none 0 0), rfl, rfl, rfl⟩
 ·replace h := br_f hg1 h
  refine Qp (cgb hg1) ?_
  refine Qt (Qe (Qc (sAs rfl rfl rfl ?_)))
  refine Qd (tZ [0, 5] [] [0] rfl rfl rfl rfl ?_)
  refine Qe (Qe (Qc (sMv rfl rfl rfl ?_)))
  refine Qa rfl (QT rfl rfl rfl rfl Try.underlying41 (i := 0) rfl) ?_
  refine sMv rfl rfl rfl ?_
  refine Qd (tZ [5, 16, 17, 18] [] [0] rfl rfl rfl rfl ?_)
  refine QC (Zr u8S ?_)
  refine Zf (σ := (List UInt8) × Int × Value) [5, 16, 17, 18] [0] [0] (fun s => ⟨[(5, some (s.2.2)), (16, some vl1), (17, some (vI (len l))), (18, some (vI s.2.1))], [some (rowS u8S s.2.2 s.1)], [Fact.sl SegS vl1 l]⟩) (fun nf1 s => Zm l nf1 s.1 s.2.1 = some r) fuel ([], (0 : Int), (.slice none 0 0)) h rfl rfl rfl rfl rfl (fun s h => by cases h) ?_
  rintro nf1 ⟨b1, x1, v3⟩ h
  replace h : Ye l (Zm l nf1) b1 x1 = some r := h
  unfold Ye at h
  refine Qe (Qc (Qa rfl (Qf rfl rfl rfl rfl rfl (QI (a := x1) (b := len l))) ?_))
  refine Qd (Qe ?_)
  rcases bC (decide (x1 < (len l))) with hg2 | hg2
  ·replace h := br_t hg2 h
   refine Ql (cgb hg2) ?_
   refine Qt (Qe (QC (Qe (Qc ?_))))
   obtain ⟨s1, hx3, h⟩ := ob_e h
   refine Qu rfl (Zb rfl rfl rfl rfl rfl slF41 (i := 0) rfl hx3) fun p1 => ?_
   refine Qa rfl (Xs (vs := [vU64 s1.At, vU32 s1.Len, vB s1.Write]) rfl rfl rfl rfl tyF46 (i := 1) rfl rfl) ?_
   refine Qu rfl (QD rfl rfl rfl tyZ46) fun b2 => ?_
   refine Qa rfl (Qo (cs' := [vU64 s1.At, vU32 s1.Len, vB s1.Write]) rfl rfl rfl rfl tyF46 (i := 1) rfl rfl rfl (QF rfl) rfl) ?_
   refine Qd (tZ [5, 16, 17, 18, 7] [0, 1] [0] rfl rfl rfl rfl ?_)
   refine Qe (Qc (Qa rfl (Qi rfl rfl rfl rfl fldF46x0) ?_))
   refine Qa rfl (Qj rfl rfl rfl rfl QZ (i := 1) rfl rfl) ?_
   refine Qa rfl (Qi rfl rfl rfl rfl fldF46x1) ?_
   refine Qa rfl (Qj rfl rfl rfl rfl tyF33 (i := 1) rfl rfl) ?_
   refine Qa rfl (QE (v := .agg #[vU64 s1.At, vU32 s1.Len, vU16 (0 : UInt16), vU16 (0 : UInt16)]) rfl rfl rfl rfl (bldV (by kernel_rfl))) ?_
   refine Qu rfl (QD rfl rfl rfl tyZ87) fun b3 => ?_
   refine Qa rfl (Qo (cs' := [vU64 s1.At, vU32 s1.Len, vU16 (0 : UInt16), vU16 (0 : UInt16)]) rfl rfl rfl rfl tyF87 (i := 2) rfl rfl rfl (QF rfl) rfl) ?_
   refine Qd (tZ [5, 16, 17, 18, 7, 8] [0, 1, 2] [0] rfl rfl rfl rfl ?_)
   refine Qe (Qe (Qc (Qa rfl (Qi rfl rfl rfl rfl fldF46x2) ?_)))
   refine Qa rfl (Qj rfl rfl rfl rfl tyF4 (i := 1) rfl rfl) ?_
   refine Qd (tZ [5, 16, 17, 18, 8, 28] [0, 2] [0] rfl rfl rfl rfl ?_)
   refine Tk_join (α := (List UInt8) × Packed × Value) (fun s => ⟨[(5, some (s.2.2)), (16, some vl1), (17, some (vI (len l))), (18, some (vI x1)), (8, some (.pointer (some ⟨b3, 0, none⟩)))], [some (rowS u8S s.2.2 s.1), some (Qm b3 87 [vU64 s.2.1.Addr, vU32 s.2.1.Len, vU16 s.2.1.ID, vU16 s.2.1.Flags])], [Fact.sl SegS vl1 l]⟩) (fun s => Zz x1 (Zm l nf1) s.1 s.2.1 = some r) ?_ ?_
   ·rintro ⟨l1, m1, v4⟩ h
    replace h : Zz x1 (Zm l nf1) l1 m1 = some r := h
    unfold Zz at h
    refine Qc (sMv rfl rfl rfl ?_)
    refine Qa rfl (Qy (vs := [vU64 m1.Addr, vU32 m1.Len, vU16 m1.ID, vU16 m1.Flags]) rfl rfl rfl rfl tyF87 (i := 1) rfl rfl rfl) ?_
    obtain ⟨packed1, hx4, h⟩ := ob_e h
    refine Qs rfl (Qv (w_desc_PackedBytes hx4) [] [] rfl rfl rfl rfl rfl callee76 rfl rfl rfl rfl) ?_
    rintro _ ⟨v5, _, _, ⟨_, rfl, rfl, rfl⟩, rfl⟩
    obtain ⟨hc1, h⟩ := ZK h
    refine Qu rfl (Zw (S := u8S) rfl rfl rfl rfl rfl rfl slF39 (i := 0) (j := 2) rfl rfl hc1) fun v6 => ?_
    refine sAs rfl rfl rfl ?_
    refine Qd (tZ [5, 16, 17, 18] [0] [0] rfl rfl rfl rfl ?_)
    refine Zx (Qc (Qa rfl (Qf rfl rfl rfl rfl rfl (QG (a := x1) (b := (1 : Int)))) ?_))
    refine sMv rfl rfl rfl ?_
    refine Qd (tZ [5, 16, 17, 18] [0] [0] rfl rfl rfl rfl ?_)
    exact QY (l1 ++ packed1, wi (x1 + (1 : Int)), v6) h [5, 16, 17, 18] [0] [0] rfl rfl rfl rfl rfl
   ·intro HJ1
    rcases bC (s1.Write) with hg3 | hg3
    ·replace h := br_t hg3 h
     refine Ql (cgb hg3) ?_
     refine Qc (Qa rfl (Qi rfl rfl rfl rfl Yx) ?_)
     refine Qa rfl (Qo (cs' := [vU64 s1.At, vU32 s1.Len, vU16 (0 : UInt16), vU16 (2 : UInt16)]) rfl rfl rfl rfl YP (i := 1) rfl rfl rfl (QF rfl) rfl) ?_
     refine Qd (tZ [5, 16, 17, 18, 8] [0, 1] [0] rfl rfl rfl rfl ?_)
     exact XA (HJ1 (b1, (Packed.mk s1.At s1.Len (0 : UInt16) (2 : UInt16)), v3) h) [5, 16, 17, 18, 8] [0, 1] [0] rfl rfl rfl rfl
    ·replace h := br_f hg3 h
     refine Qp (cgb hg3) ?_
     refine Qt ?_
     exact XA (HJ1 (b1, (Packed.mk s1.At s1.Len (0 : UInt16) (0 : UInt16)), v3) h) [5, 16, 17, 18, 8] [0, 1] [0] rfl rfl rfl rfl
  ·replace h := br_f hg2 h
   refine Qp (cgb hg2) ?_
   refine Zv _ rfl ?_
   refine Qe (Qc (sMv rfl rfl rfl ?_))
   refine sAs rfl rfl rfl ?_
   refine sAs rfl rfl rfl ?_
   refine Qd (tZ [2, 3] [0] [] rfl rfl rfl rfl ?_)
   obtain rfl := Option.some.inj h
   exact Qn rfl rfl (resA (vs := [v3, vI (0 : Int)]) rfl ⟨rfl, rfl, trivial⟩) [0] [] rfl rfl rfl ⟨v3, rfl, rfl, rfl⟩

set_option maxRecDepth 100000 in
set_option maxHeartbeats 4000000 in
theorem w_build_many {np0 : Int} {r : Bool} (h : build_many np0 = some r) :
  Ctr Try.prog 72 #[vI np0] [] []
   (fun rv own shr => rv = vB r ∧ own = [] ∧ shr = []) := by
 unfold build_many at h
 refine Ctr.mk (args := [vI np0]) Try.func72 rfl rfl (fun R0 w0 B => ?_)
 refine Qe (Qc (sAs rfl rfl rfl ?_))
 refine Qd (tZ [0] [] [] rfl rfl rfl rfl ?_)
 refine Qe (Qc (sMv rfl rfl rfl ?_))
 refine Qa rfl (Qf rfl rfl rfl rfl rfl (YF (a := np0) (b := (1 : Int)))) ?_
 refine sMv rfl rfl rfl ?_
 rcases bC (decide (np0 ≥ (1 : Int))) with hg1 | hg1
 ·replace h := br_t hg1 h
  refine Qh rfl rfl (cgb hg1) (Qk rfl rfl rfl rfl) ?_
  rintro _ rfl
  refine Qh rfl rfl (cgb hg1) (Qf rfl rfl rfl rfl rfl (bin_leq_i (a := np0) (b := (64 : Int)))) ?_
  rintro _ rfl
  refine Qa rfl (Qr rfl rfl rfl (cgb hg1) rfl) ?_
  refine sAs rfl rfl rfl ?_
  refine Qd (tZ [2] [] [] rfl rfl rfl rfl ?_)
  obtain rfl := Option.some.inj h
  exact Qn rfl rfl (resA (vs := [vB (decide (np0 ≤ (64 : Int)))]) rfl ⟨rfl, trivial⟩) [] [] rfl rfl rfl ⟨rfl, rfl, rfl⟩
 ·replace h := br_f hg1 h
  refine Qg rfl rfl (cgb hg1) rfl rfl ?_
  refine Qg rfl rfl (cgb hg1) rfl rfl ?_
  refine Qa rfl (Qw rfl rfl rfl (cgb hg1) rfl) ?_
  refine sAs rfl rfl rfl ?_
  refine Qd (tZ [2] [] [] rfl rfl rfl rfl ?_)
  obtain rfl := Option.some.inj h
  exact Qn rfl rfl (resA (vs := [vB false]) rfl ⟨rfl, trivial⟩) [] [] rfl rfl rfl ⟨rfl, rfl, rfl⟩

set_option maxRecDepth 100000 in
set_option maxHeartbeats 4000000 in
theorem w_build_SplitOne {id : Int} {atp1 : UInt64} {np2 : Int} {r : (Put × Int)} (h : Kx id atp1 np2 = some r) :
  Ctr Try.prog 30 #[vI id, vU64 atp1, vI np2] [] []
   (fun rv own shr => rv = .tuple #[.agg #[vI r.1.At, vU64 r.1.Desc.Addr, vU32 r.1.Desc.Len, vU16 r.1.Desc.Flags, vU16 r.1.Desc.Next], vI r.2] ∧ own = [] ∧ shr = []) := by
 unfold Kx at h
 refine Ctr.mk (args := [vI id, vU64 atp1, vI np2]) Try.func30 rfl rfl (fun R0 w0 B => ?_)
 refine Qe (Qc (Qu rfl (QD rfl rfl rfl tyZ78) fun b1 => ?_))
 refine sAs rfl rfl rfl ?_
 refine Qd (tZ [0, 1, 2, 6] [0] [] rfl rfl rfl rfl ?_)
 refine Qe (Qe (Qc (sMv rfl rfl rfl ?_)))
 obtain ⟨isid1, hx1, h⟩ := ob_e h
 refine Qs rfl (Qv (w_build_isID hx1) [] [] rfl rfl rfl rfl rfl callee71 rfl rfl rfl rfl) ?_
 rintro _ ⟨_, _, _, ⟨rfl, rfl, rfl⟩, rfl⟩
 refine Qa rfl (XO rfl rfl rfl rfl) ?_
 refine sMv rfl rfl rfl ?_
 rcases bC ((!isid1)) with hg1 | hg1
 ·replace h := br_t hg1 h
  refine Qg rfl rfl (cgb hg1) rfl rfl ?_
  refine Qg rfl rfl (cgb hg1) rfl rfl ?_
  refine Qg rfl rfl (cgb hg1) rfl rfl ?_
  refine Qa rfl (Qr rfl rfl rfl (cgb hg1) rfl) ?_
  obtain ⟨wrong1, hx2, h⟩ := ob_e h
  refine Qs rfl (Qv (ZN hx2) [] [] rfl rfl rfl rfl rfl Kj rfl rfl rfl rfl) ?_
  rintro _ ⟨v1, _, _, ⟨_, rfl, rfl, rfl⟩, rfl⟩
  refine Qu rfl (ZS fnS132 (vs := [v1]) (xs := [wrong1]) rfl rfl rfl rfl rfl slF175 rfl rfl rfl (Xo (KL (i := 0) rfl) (KX rfl))) fun v2 => ?_
  obtain ⟨first1, hx3, h⟩ := ob_e h
  refine Qs rfl (Zu [1] [0, 1] (ZE hx3) [] rfl rfl rfl rfl rfl YO rfl rfl rfl rfl rfl rfl (Zl (Xa 1 rfl rfl) ZZ) (by rintro _ _ _ ⟨rfl, rfl, rfl⟩; exact ⟨rfl, XS⟩)) ?_
  rintro _ ⟨_, _, _, ⟨rfl, rfl, rfl⟩, rfl⟩
  refine sAs rfl rfl rfl ?_
  refine Qd (tZ [0, 1, 2, 6, 8] [0] [] rfl rfl rfl rfl ?_)
  refine Qe (Qc (sMv rfl rfl rfl ?_))
  refine Qa rfl (Qf rfl rfl rfl rfl rfl (QL (a := first1) (b := (0 : Int)))) ?_
  refine Qd (tZ [0, 1, 2, 6, 8, 21] [0] [] rfl rfl rfl rfl ?_)
  rcases bC (first1 != (0 : Int)) with hg2 | hg2
  ·replace h := br_t hg2 h
   refine Ql (cgb hg2) ?_
   refine Qe (Qc (Qa rfl (QE (v := .agg #[vI (0 : Int), vU64 (0 : UInt64), vU32 (0 : UInt32), vU16 (0 : UInt16), vU16 (0 : UInt16)]) rfl rfl rfl rfl (bldV (by kernel_rfl))) ?_))
   refine sMv rfl rfl rfl ?_
   refine Qa rfl (Qo (cs' := [vI (0 : Int), vU64 (0 : UInt64), vU32 (0 : UInt32), vU16 (0 : UInt16), vU16 (0 : UInt16)]) rfl rfl rfl rfl tyF78 (i := 0) rfl rfl rfl (QF rfl) rfl) ?_
   refine sAs rfl rfl rfl ?_
   refine Qd (tZ [6, 7] [0] [] rfl rfl rfl rfl ?_)
   obtain rfl := Option.some.inj h
   exact Qn rfl rfl (resA (vs := [.agg #[vI (0 : Int), vU64 (0 : UInt64), vU32 (0 : UInt32), vU16 (0 : UInt16), vU16 (0 : UInt16)], vI first1]) rfl ⟨⟨_, 0, _, _, _, rfl, rfl, .inl ⟨tyF78, rfl, rfl⟩⟩, rfl, trivial⟩) [] [] rfl rfl rfl ⟨rfl, rfl, rfl⟩
  ·replace h := br_f hg2 h
   refine Qp (cgb hg2) ?_
   refine Qt (Qe (Qc (sMv rfl rfl rfl ?_)))
   refine sMv rfl rfl rfl ?_
   refine sMv rfl rfl rfl ?_
   refine Qa rfl (Qf rfl rfl rfl rfl rfl (YE (a := (16 : Int)) (b := np2))) ?_
   refine Qa rfl (QX rfl rfl rfl rfl (cnv_i_u32 (n := wi ((16 : Int) * np2)) Try.underlying3 Try.underlying33)) ?_
   refine Qa rfl (QE (v := .agg #[vU64 atp1, vU32 (u32 (wi ((16 : Int) * np2))), vU16 (4 : UInt16), vU16 (0 : UInt16)]) rfl rfl rfl rfl (bldV (by kernel_rfl))) ?_
   refine Qa rfl (QE (v := .agg #[vI id, vU64 atp1, vU32 (u32 (wi ((16 : Int) * np2))), vU16 (4 : UInt16), vU16 (0 : UInt16)]) rfl rfl rfl rfl (bldV (by kernel_rfl))) ?_
   refine Qa rfl (Qo (cs' := [vI id, vU64 atp1, vU32 (u32 (wi ((16 : Int) * np2))), vU16 (4 : UInt16), vU16 (0 : UInt16)]) rfl rfl rfl rfl tyF78 (i := 0) rfl rfl rfl (QF rfl) rfl) ?_
   refine sAs rfl rfl rfl ?_
   refine Qd (tZ [6, 7] [0] [] rfl rfl rfl rfl ?_)
   obtain rfl := Option.some.inj h
   exact Qn rfl rfl (resA (vs := [.agg #[vI id, vU64 atp1, vU32 (u32 (wi ((16 : Int) * np2))), vU16 (4 : UInt16), vU16 (0 : UInt16)], vI (0 : Int)]) rfl ⟨⟨_, 0, _, _, _, rfl, rfl, .inl ⟨tyF78, rfl, rfl⟩⟩, rfl, trivial⟩) [] [] rfl rfl rfl ⟨rfl, rfl, rfl⟩
 ·replace h := br_f hg1 h
  refine Qh rfl rfl (cgb hg1) (Qk rfl rfl rfl rfl) ?_
  rintro _ rfl
  obtain ⟨many1, hx4, h⟩ := ob_e h
  refine Qh rfl rfl (cgb hg1) (Qv (w_build_many hx4) [] [] rfl rfl rfl rfl rfl callee72 rfl rfl rfl rfl) ?_
  rintro _ ⟨_, _, _, ⟨rfl, rfl, rfl⟩, rfl⟩
  refine Qh rfl rfl (cgb hg1) (XO rfl rfl rfl rfl) ?_
  rintro _ rfl
  refine Qa rfl (Qw rfl rfl rfl (cgb hg1) rfl) ?_
  obtain ⟨wrong2, hx5, h⟩ := ob_e h
  refine Qs rfl (Qv (ZN hx5) [] [] rfl rfl rfl rfl rfl Kj rfl rfl rfl rfl) ?_
  rintro _ ⟨v3, _, _, ⟨_, rfl, rfl, rfl⟩, rfl⟩
  refine Qu rfl (ZS fnS132 (vs := [v3]) (xs := [wrong2]) rfl rfl rfl rfl rfl slF175 rfl rfl rfl (Xo (KL (i := 0) rfl) (KX rfl))) fun v4 => ?_
  obtain ⟨first2, hx6, h⟩ := ob_e h
  refine Qs rfl (Zu [1] [0, 1] (ZE hx6) [] rfl rfl rfl rfl rfl YO rfl rfl rfl rfl rfl rfl (Zl (Xa 1 rfl rfl) ZZ) (by rintro _ _ _ ⟨rfl, rfl, rfl⟩; exact ⟨rfl, XS⟩)) ?_
  rintro _ ⟨_, _, _, ⟨rfl, rfl, rfl⟩, rfl⟩
  refine sAs rfl rfl rfl ?_
  refine Qd (tZ [0, 1, 2, 6, 8] [0] [] rfl rfl rfl rfl ?_)
  refine Qe (Qc (sMv rfl rfl rfl ?_))
  refine Qa rfl (Qf rfl rfl rfl rfl rfl (QL (a := first2) (b := (0 : Int)))) ?_
  refine Qd (tZ [0, 1, 2, 6, 8, 21] [0] [] rfl rfl rfl rfl ?_)
  rcases bC (first2 != (0 : Int)) with hg3 | hg3
  ·replace h := br_t hg3 h
   refine Ql (cgb hg3) ?_
   refine Qe (Qc (Qa rfl (QE (v := .agg #[vI (0 : Int), vU64 (0 : UInt64), vU32 (0 : UInt32), vU16 (0 : UInt16), vU16 (0 : UInt16)]) rfl rfl rfl rfl (bldV (by kernel_rfl))) ?_))
   refine sMv rfl rfl rfl ?_
   refine Qa rfl (Qo (cs' := [vI (0 : Int), vU64 (0 : UInt64), vU32 (0 : UInt32), vU16 (0 : UInt16), vU16 (0 : UInt16)]) rfl rfl rfl rfl tyF78 (i := 0) rfl rfl rfl (QF rfl) rfl) ?_
   refine sAs rfl rfl rfl ?_
   refine Qd (tZ [6, 7] [0] [] rfl rfl rfl rfl ?_)
   obtain rfl := Option.some.inj h
   exact Qn rfl rfl (resA (vs := [.agg #[vI (0 : Int), vU64 (0 : UInt64), vU32 (0 : UInt32), vU16 (0 : UInt16), vU16 (0 : UInt16)], vI first2]) rfl ⟨⟨_, 0, _, _, _, rfl, rfl, .inl ⟨tyF78, rfl, rfl⟩⟩, rfl, trivial⟩) [] [] rfl rfl rfl ⟨rfl, rfl, rfl⟩
  ·replace h := br_f hg3 h
   refine Qp (cgb hg3) ?_
   refine Qt (Qe (Qc (sMv rfl rfl rfl ?_)))
   refine sMv rfl rfl rfl ?_
   refine sMv rfl rfl rfl ?_
   refine Qa rfl (Qf rfl rfl rfl rfl rfl (YE (a := (16 : Int)) (b := np2))) ?_
   refine Qa rfl (QX rfl rfl rfl rfl (cnv_i_u32 (n := wi ((16 : Int) * np2)) Try.underlying3 Try.underlying33)) ?_
   refine Qa rfl (QE (v := .agg #[vU64 atp1, vU32 (u32 (wi ((16 : Int) * np2))), vU16 (4 : UInt16), vU16 (0 : UInt16)]) rfl rfl rfl rfl (bldV (by kernel_rfl))) ?_
   refine Qa rfl (QE (v := .agg #[vI id, vU64 atp1, vU32 (u32 (wi ((16 : Int) * np2))), vU16 (4 : UInt16), vU16 (0 : UInt16)]) rfl rfl rfl rfl (bldV (by kernel_rfl))) ?_
   refine Qa rfl (Qo (cs' := [vI id, vU64 atp1, vU32 (u32 (wi ((16 : Int) * np2))), vU16 (4 : UInt16), vU16 (0 : UInt16)]) rfl rfl rfl rfl tyF78 (i := 0) rfl rfl rfl (QF rfl) rfl) ?_
   refine sAs rfl rfl rfl ?_
   refine Qd (tZ [6, 7] [0] [] rfl rfl rfl rfl ?_)
   obtain rfl := Option.some.inj h
   exact Qn rfl rfl (resA (vs := [.agg #[vI id, vU64 atp1, vU32 (u32 (wi ((16 : Int) * np2))), vU16 (4 : UInt16), vU16 (0 : UInt16)], vI (0 : Int)]) rfl ⟨⟨_, 0, _, _, _, rfl, rfl, .inl ⟨tyF78, rfl, rfl⟩⟩, rfl, trivial⟩) [] [] rfl rfl rfl ⟨rfl, rfl, rfl⟩

theorem ws_ref_PackedBytes03 {dp0 : Packed} {r : (List UInt8)} (h : Xc dp0 = some r) :
  Ctr Try.prog 32 #[.agg #[vU64 dp0.Addr, vU32 dp0.Len, vU16 dp0.ID, vU16 dp0.Flags]] [] []
   (fun rv own shr => ∃ (w1 : Value), rv = w1 ∧ own = [] ∧ shr = [Fact.sl u8S w1 r]) :=
 Ctr.sh (w_ref_PackedBytes03 h) (by rintro w1 _ _ ⟨_, rfl, rfl, rfl⟩; exact ⟨[], _, _, _, _, rfl, w1, rfl, rfl, rfl⟩)

set_option maxRecDepth 100000 in
set_option maxHeartbeats 4000000 in
theorem w_build_PackedOne {pp0 : Pos} {size : Int} {id : Int} {atp3 : UInt64} {np4 : Int} {r : (PutPacked × Int)} (h : YY pp0 size id atp3 np4 = some r) :
  Ctr Try.prog 34 #[.agg #[vI pp0.At, vB pp0.Wrap], vI size, vI id, vU64 atp3, vI np4] [] []
   (fun rv own shr => rv = .tuple #[.agg #[vI r.1.At, vU64 r.1.Desc.Addr, vU32 r.1.Desc.Len, vU16 r.1.Desc.ID, vU16 r.1.Desc.Flags], vI r.2] ∧ own = [] ∧ shr = []) := by
 unfold YY at h
 refine Ctr.mk (args := [.agg #[vI pp0.At, vB pp0.Wrap], vI size, vI id, vU64 atp3, vI np4]) Try.func34 rfl rfl (fun R0 w0 B => ?_)
 refine Qe (Qc (Qu rfl (ZA rfl rfl rfl rfl) fun b1 => ?_))
 refine Qu rfl (QD rfl rfl rfl tyZ89) fun b2 => ?_
 refine sAs rfl rfl rfl ?_
 refine Qd (tZ [1, 2, 3, 4, 5, 10] [0, 1] [] rfl rfl rfl rfl ?_)
 refine Qe (Qe (Qc (Qa rfl (Qy (vs := [vI pp0.At, vB pp0.Wrap]) rfl rfl rfl rfl YK (i := 0) rfl rfl rfl) ?_)))
 refine sMv rfl rfl rfl ?_
 obtain ⟨check1, hx1, h⟩ := ob_e h
 refine Qs rfl (Qv (w_serial_Check hx1) [] [] rfl rfl rfl rfl rfl callee48 rfl rfl rfl rfl) ?_
 rintro _ ⟨_, _, _, ⟨rfl, rfl, rfl⟩, rfl⟩
 refine Qa rfl (Qf rfl rfl rfl rfl rfl (QL (a := check1) (b := (0 : Int)))) ?_
 refine sMv rfl rfl rfl ?_
 rcases bC (check1 != (0 : Int)) with hg1 | hg1
 ·replace h := br_t hg1 h
  refine Qg rfl rfl (cgb hg1) rfl rfl ?_
  refine Qg rfl rfl (cgb hg1) rfl rfl ?_
  refine Qa rfl (Qr rfl rfl rfl (cgb hg1) rfl) ?_
  refine sMv rfl rfl rfl ?_
  refine Qg rfl rfl rfl rfl rfl ?_
  refine Qg rfl rfl rfl rfl rfl ?_
  refine Qg rfl rfl rfl rfl rfl ?_
  refine Qa rfl (Qr rfl rfl rfl rfl rfl) ?_
  refine sMv rfl rfl rfl ?_
  refine Qg rfl rfl rfl rfl rfl ?_
  refine Qg rfl rfl rfl rfl rfl ?_
  refine Qg rfl rfl rfl rfl rfl ?_
  refine Qa rfl (Qr rfl rfl rfl rfl rfl) ?_
  obtain ⟨wrong1, hx2, h⟩ := ob_e h
  refine Qs rfl (Qv (ZN hx2) [] [] rfl rfl rfl rfl rfl Kj rfl rfl rfl rfl) ?_
  rintro _ ⟨v1, _, _, ⟨_, rfl, rfl, rfl⟩, rfl⟩
  refine Qu rfl (ZS fnS132 (vs := [v1]) (xs := [wrong1]) rfl rfl rfl rfl rfl slF175 rfl rfl rfl (Xo (KL (i := 0) rfl) (KX rfl))) fun v2 => ?_
  obtain ⟨first1, hx3, h⟩ := ob_e h
  refine Qs rfl (Zu [2] [0, 1, 2] (ZE hx3) [] rfl rfl rfl rfl rfl YO rfl rfl rfl rfl rfl rfl (Zl (Xa 2 rfl rfl) ZZ) (by rintro _ _ _ ⟨rfl, rfl, rfl⟩; exact ⟨rfl, XS⟩)) ?_
  rintro _ ⟨_, _, _, ⟨rfl, rfl, rfl⟩, rfl⟩
  refine sAs rfl rfl rfl ?_
  refine Qd (tZ [2, 3, 4, 5, 10, 12] [0, 1] [] rfl rfl rfl rfl ?_)
  refine Qe (Qc (sMv rfl rfl rfl ?_))
  refine Qa rfl (Qf rfl rfl rfl rfl rfl (QL (a := first1) (b := (0 : Int)))) ?_
  refine Qd (tZ [2, 3, 4, 5, 10, 12, 35] [0, 1] [] rfl rfl rfl rfl ?_)
  rcases bC (first1 != (0 : Int)) with hg2 | hg2
  ·replace h := br_t hg2 h
   refine Ql (cgb hg2) ?_
   refine Qe (Qc (Qa rfl (QE (v := .agg #[vI (0 : Int), vU64 (0 : UInt64), vU32 (0 : UInt32), vU16 (0 : UInt16), vU16 (0 : UInt16)]) rfl rfl rfl rfl (bldV (by kernel_rfl))) ?_))
   refine sMv rfl rfl rfl ?_
   refine Qa rfl (Qo (cs' := [vI (0 : Int), vU64 (0 : UInt64), vU32 (0 : UInt32), vU16 (0 : UInt16), vU16 (0 : UInt16)]) rfl rfl rfl rfl tyF89 (i := 1) rfl rfl rfl (QF rfl) rfl) ?_
   refine sAs rfl rfl rfl ?_
   refine Qd (tZ [10, 11] [1] [] rfl rfl rfl rfl ?_)
   obtain rfl := Option.some.inj h
   exact Qn rfl rfl (resA (vs := [.agg #[vI (0 : Int), vU64 (0 : UInt64), vU32 (0 : UInt32), vU16 (0 : UInt16), vU16 (0 : UInt16)], vI first1]) rfl ⟨⟨_, 0, _, _, _, rfl, rfl, .inl ⟨tyF89, rfl, rfl⟩⟩, rfl, trivial⟩) [] [] rfl rfl rfl ⟨rfl, rfl, rfl⟩
  ·replace h := br_f hg2 h
   refine Qp (cgb hg2) ?_
   refine Qt (Qe (QU (by kernel_rfl) ?_))
   refine Xn [0, 1, 0, 0, 8, 24, 0, 64, 0, 256, 768, 2044, 4095, 8191, 16383] (by kernel_rfl) fun htb => ?_
   refine aZ [2, 3, 4, 5, 10] [0, 1] [] rfl rfl rfl rfl ?_
   obtain ⟨mark1, hx4, h⟩ := ob_e h
   refine QW (lo := 0) (hi := 12) htb rfl rfl (by kernel_rfl) (fun c L a w => Sat c ⟨[(2, some (vI id)), (3, some (vU64 atp3)), (4, some (vI np4)), (5, some (.pointer (some ⟨b1, 0, none⟩))), (10, some (.pointer (some ⟨b2, 0, none⟩))), (38, bif L 0 then some (.pointer (some ⟨b1, 0, none⟩)) else none), (39, bif L 1 then some (vI pp0.At) else none), (40, bif L 2 then some (vU64 atp3) else none), (41, bif L 3 then some (vI np4) else none), (42, bif L 4 then some (vI (wi ((16 : Int) * np4))) else none), (43, bif L 5 then some (vU32 (u32 (wi ((16 : Int) * np4)))) else none), (44, bif L 6 then some (vI id) else none), (45, bif L 7 then some (vU16 (u16 id)) else none), (46, bif L 8 then some (.pointer (some ⟨b1, 1, none⟩)) else none), (47, bif L 9 then some (vB pp0.Wrap) else none), (48, bif L 10 then some (vU16 mark1) else none), (49, bif L 11 then some (.agg #[vU64 atp3, vU32 (u32 (wi ((16 : Int) * np4))), vU16 (u16 id), vU16 mark1]) else none)], [(some (Qm b1 60 [vI pp0.At, vB pp0.Wrap]) : Option Res), (some (Qm b2 89 [vI (0 : Int), vU64 (0 : UInt64), vU32 (0 : UInt32), vU16 (0 : UInt16), vU16 (0 : UInt16)]) : Option Res)], []⟩ a w) [([], [1]), ([0], []), ([], [11]), ([], [4, 5, 11]), ([3], [5, 11]), ([3, 4], [11]), ([], [7, 11]), ([6], [11]), ([], [9, 10, 11]), ([8], [10, 11]), ([8, 9], [11]), ([2, 3, 4, 5, 6, 7, 8, 9, 10], [])] rfl (by kernel_rfl) ?_ (Qb ?_ (Qb ?_ (Qb ?_ (Qb ?_ (Qb ?_ (Qb ?_ (Qb ?_ (Qb ?_ (Qb ?_ (Qb ?_ (Qb ?_ (Qb ?_ (QB))))))))))))) ?_
   ·intro a w hs
    exact hs.startF [38, 39, 40, 41, 42, 43, 44, 45, 46, 47, 48, 49] [0, 1] [] rfl rfl rfl rfl
   ·intro L a w hs K Q hK
    exact wGo rfl rfl hs (Qi rfl rfl rfl rfl Yc) fun a w hs => hK a w (pF hs 5 [0, 1] [] rfl)
   ·intro L a w hs K Q hK
    exact wGo rfl rfl hs (Qj rfl rfl rfl rfl tyF3 (i := 0) rfl rfl) fun a w hs => hK a w (pF hs 6 [0, 1] [] rfl)
   ·intro L a w hs K Q hK
    exact wGo rfl rfl hs (Qk rfl rfl rfl rfl) fun a w hs => hK a w (pF hs 7 [0, 1] [] rfl)
   ·intro L a w hs K Q hK
    exact wGo rfl rfl hs (Qk rfl rfl rfl rfl) fun a w hs => hK a w (pF hs 8 [0, 1] [] rfl)
   ·intro L a w hs K Q hK
    exact wGo rfl rfl hs (Qf rfl rfl rfl rfl rfl (YE (a := (16 : Int)) (b := np4))) fun a w hs => hK a w (pF hs 9 [0, 1] [] rfl)
   ·intro L a w hs K Q hK
    exact wGo rfl rfl hs (QX rfl rfl rfl rfl (cnv_i_u32 (n := wi ((16 : Int) * np4)) Try.underlying3 Try.underlying33)) fun a w hs => hK a w (pF hs 10 [0, 1] [] rfl)
   ·intro L a w hs K Q hK
    exact wGo rfl rfl hs (Qk rfl rfl rfl rfl) fun a w hs => hK a w (pF hs 11 [0, 1] [] rfl)
   ·intro L a w hs K Q hK
    exact wGo rfl rfl hs (QX rfl rfl rfl rfl (cnv_i_u16 (n := id) Try.underlying3 Try.underlying34)) fun a w hs => hK a w (pF hs 12 [0, 1] [] rfl)
   ·intro L a w hs K Q hK
    exact wGo rfl rfl hs (Qi rfl rfl rfl rfl fldF60x1) fun a w hs => hK a w (pF hs 13 [0, 1] [] rfl)
   ·intro L a w hs K Q hK
    exact wGo rfl rfl hs (Qj rfl rfl rfl rfl tyF4 (i := 0) rfl rfl) fun a w hs => hK a w (pF hs 14 [0, 1] [] rfl)
   ·intro L a w hs K Q hK
    refine QO rfl rfl hs (Qv (w_desc_Mark hx4) [] [] rfl rfl rfl rfl rfl callee77 rfl rfl rfl rfl) ?_
    rintro _ ⟨_, _, _, ⟨rfl, rfl, rfl⟩, rfl⟩ a' w' hs'
    exact hK a' w' (hs'.putF (i := 15) rfl [0, 1] [] rfl rfl rfl rfl)
   ·intro L a w hs K Q hK
    exact wGo rfl rfl hs (QE (v := .agg #[vU64 atp3, vU32 (u32 (wi ((16 : Int) * np4))), vU16 (u16 id), vU16 mark1]) rfl rfl rfl rfl (bldV (by kernel_rfl))) fun a w hs => hK a w (pF hs 16 [0, 1] [] rfl)
   ·intro L a w hL hv
    rw [QM hL] at hv
    have hs := hv
    refine gZ hs [10, 39, 49] [1] [] rfl rfl rfl rfl ?_
    clear hs hL
    refine Qx htb (by kernel_rfl) rfl rfl (QE (v := .agg #[vI pp0.At, vU64 atp3, vU32 (u32 (wi ((16 : Int) * np4))), vU16 (u16 id), vU16 mark1]) rfl rfl rfl rfl (bldV (by kernel_rfl))) ?_
    refine Qx htb (by kernel_rfl) rfl rfl (Qo (cs' := [vI pp0.At, vU64 atp3, vU32 (u32 (wi ((16 : Int) * np4))), vU16 (u16 id), vU16 mark1]) rfl rfl rfl rfl tyF89 (i := 0) rfl rfl rfl (QF rfl) rfl) ?_
    refine Qx htb (by kernel_rfl) rfl rfl (QN rfl rfl rfl rfl) ?_
    refine Zh rfl ?_
    refine tZ [10, 11] [0] [] rfl rfl rfl rfl ?_
    obtain rfl := Option.some.inj h
    exact Qn rfl rfl (resA (vs := [.agg #[vI pp0.At, vU64 atp3, vU32 (u32 (wi ((16 : Int) * np4))), vU16 (u16 id), vU16 mark1], vI (0 : Int)]) rfl ⟨⟨_, 0, _, _, _, rfl, rfl, .inl ⟨tyF89, rfl, rfl⟩⟩, rfl, trivial⟩) [] [] rfl rfl rfl ⟨rfl, rfl, rfl⟩
 ·replace h := br_f hg1 h
  refine Qh rfl rfl (cgb hg1) (Qk rfl rfl rfl rfl) ?_
  rintro _ rfl
  refine Qh rfl rfl (cgb hg1) (Qf rfl rfl rfl rfl rfl (QI (a := id) (b := (0 : Int)))) ?_
  rintro _ rfl
  refine Qa rfl (Qw rfl rfl rfl (cgb hg1) rfl) ?_
  refine sMv rfl rfl rfl ?_
  rcases bC (decide (id < (0 : Int))) with hg3 | hg3
  ·replace h := br_t hg3 h
   refine Qg rfl rfl (cgb hg3) rfl rfl ?_
   refine Qg rfl rfl (cgb hg3) rfl rfl ?_
   refine Qg rfl rfl (cgb hg3) rfl rfl ?_
   refine Qa rfl (Qr rfl rfl rfl (cgb hg3) rfl) ?_
   refine sMv rfl rfl rfl ?_
   refine Qg rfl rfl rfl rfl rfl ?_
   refine Qg rfl rfl rfl rfl rfl ?_
   refine Qg rfl rfl rfl rfl rfl ?_
   refine Qa rfl (Qr rfl rfl rfl rfl rfl) ?_
   obtain ⟨wrong2, hx5, h⟩ := ob_e h
   refine Qs rfl (Qv (ZN hx5) [] [] rfl rfl rfl rfl rfl Kj rfl rfl rfl rfl) ?_
   rintro _ ⟨v3, _, _, ⟨_, rfl, rfl, rfl⟩, rfl⟩
   refine Qu rfl (ZS fnS132 (vs := [v3]) (xs := [wrong2]) rfl rfl rfl rfl rfl slF175 rfl rfl rfl (Xo (KL (i := 0) rfl) (KX rfl))) fun v4 => ?_
   obtain ⟨first2, hx6, h⟩ := ob_e h
   refine Qs rfl (Zu [2] [0, 1, 2] (ZE hx6) [] rfl rfl rfl rfl rfl YO rfl rfl rfl rfl rfl rfl (Zl (Xa 2 rfl rfl) ZZ) (by rintro _ _ _ ⟨rfl, rfl, rfl⟩; exact ⟨rfl, XS⟩)) ?_
   rintro _ ⟨_, _, _, ⟨rfl, rfl, rfl⟩, rfl⟩
   refine sAs rfl rfl rfl ?_
   refine Qd (tZ [2, 3, 4, 5, 10, 12] [0, 1] [] rfl rfl rfl rfl ?_)
   refine Qe (Qc (sMv rfl rfl rfl ?_))
   refine Qa rfl (Qf rfl rfl rfl rfl rfl (QL (a := first2) (b := (0 : Int)))) ?_
   refine Qd (tZ [2, 3, 4, 5, 10, 12, 35] [0, 1] [] rfl rfl rfl rfl ?_)
   rcases bC (first2 != (0 : Int)) with hg4 | hg4
   ·replace h := br_t hg4 h
    refine Ql (cgb hg4) ?_
    refine Qe (Qc (Qa rfl (QE (v := .agg #[vI (0 : Int), vU64 (0 : UInt64), vU32 (0 : UInt32), vU16 (0 : UInt16), vU16 (0 : UInt16)]) rfl rfl rfl rfl (bldV (by kernel_rfl))) ?_))
    refine sMv rfl rfl rfl ?_
    refine Qa rfl (Qo (cs' := [vI (0 : Int), vU64 (0 : UInt64), vU32 (0 : UInt32), vU16 (0 : UInt16), vU16 (0 : UInt16)]) rfl rfl rfl rfl tyF89 (i := 1) rfl rfl rfl (QF rfl) rfl) ?_
    refine sAs rfl rfl rfl ?_
    refine Qd (tZ [10, 11] [1] [] rfl rfl rfl rfl ?_)
    obtain rfl := Option.some.inj h
    exact Qn rfl rfl (resA (vs := [.agg #[vI (0 : Int), vU64 (0 : UInt64), vU32 (0 : UInt32), vU16 (0 : UInt16), vU16 (0 : UInt16)], vI first2]) rfl ⟨⟨_, 0, _, _, _, rfl, rfl, .inl ⟨tyF89, rfl, rfl⟩⟩, rfl, trivial⟩) [] [] rfl rfl rfl ⟨rfl, rfl, rfl⟩
   ·replace h := br_f hg4 h
    refine Qp (cgb hg4) ?_
    refine Qt (Qe (QU (by kernel_rfl) ?_))
    refine Xn [0, 1, 0, 0, 8, 24, 0, 64, 0, 256, 768, 2044, 4095, 8191, 16383] (by kernel_rfl) fun htb => ?_
    refine aZ [2, 3, 4, 5, 10] [0, 1] [] rfl rfl rfl rfl ?_
    obtain ⟨mark2, hx7, h⟩ := ob_e h
    refine QW (lo := 0) (hi := 12) htb rfl rfl (by kernel_rfl) (fun c L a w => Sat c ⟨[(2, some (vI id)), (3, some (vU64 atp3)), (4, some (vI np4)), (5, some (.pointer (some ⟨b1, 0, none⟩))), (10, some (.pointer (some ⟨b2, 0, none⟩))), (38, bif L 0 then some (.pointer (some ⟨b1, 0, none⟩)) else none), (39, bif L 1 then some (vI pp0.At) else none), (40, bif L 2 then some (vU64 atp3) else none), (41, bif L 3 then some (vI np4) else none), (42, bif L 4 then some (vI (wi ((16 : Int) * np4))) else none), (43, bif L 5 then some (vU32 (u32 (wi ((16 : Int) * np4)))) else none), (44, bif L 6 then some (vI id) else none), (45, bif L 7 then some (vU16 (u16 id)) else none), (46, bif L 8 then some (.pointer (some ⟨b1, 1, none⟩)) else none), (47, bif L 9 then some (vB pp0.Wrap) else none), (48, bif L 10 then some (vU16 mark2) else none), (49, bif L 11 then some (.agg #[vU64 atp3, vU32 (u32 (wi ((16 : Int) * np4))), vU16 (u16 id), vU16 mark2]) else none)], [(some (Qm b1 60 [vI pp0.At, vB pp0.Wrap]) : Option Res), (some (Qm b2 89 [vI (0 : Int), vU64 (0 : UInt64), vU32 (0 : UInt32), vU16 (0 : UInt16), vU16 (0 : UInt16)]) : Option Res)], []⟩ a w) [([], [1]), ([0], []), ([], [11]), ([], [4, 5, 11]), ([3], [5, 11]), ([3, 4], [11]), ([], [7, 11]), ([6], [11]), ([], [9, 10, 11]), ([8], [10, 11]), ([8, 9], [11]), ([2, 3, 4, 5, 6, 7, 8, 9, 10], [])] rfl (by kernel_rfl) ?_ (Qb ?_ (Qb ?_ (Qb ?_ (Qb ?_ (Qb ?_ (Qb ?_ (Qb ?_ (Qb ?_ (Qb ?_ (Qb ?_ (Qb ?_ (Qb ?_ (QB))))))))))))) ?_
    ·intro a w hs
     exact hs.startF [38, 39, 40, 41, 42, 43, 44, 45, 46, 47, 48, 49] [0, 1] [] rfl rfl rfl rfl
    ·intro L a w hs K Q hK
     exact wGo rfl rfl hs (Qi rfl rfl rfl rfl Yc) fun a w hs => hK a w (pF hs 5 [0, 1] [] rfl)
    ·intro L a w hs K Q hK
     exact wGo rfl rfl hs (Qj rfl rfl rfl rfl tyF3 (i := 0) rfl rfl) fun a w hs => hK a w (pF hs 6 [0, 1] [] rfl)
    ·intro L a w hs K Q hK
     exact wGo rfl rfl hs (Qk rfl rfl rfl rfl) fun a w hs => hK a w (pF hs 7 [0, 1] [] rfl)
    ·intro L a w hs K Q hK
     exact wGo rfl rfl hs (Qk rfl rfl rfl rfl) fun a w hs => hK a w (pF hs 8 [0, 1] [] rfl)
    ·intro L a w hs K Q hK
     exact wGo rfl rfl hs (Qf rfl rfl rfl rfl rfl (YE (a := (16 : Int)) (b := np4))) fun a w hs => hK a w (pF hs 9 [0, 1] [] rfl)
    ·intro L a w hs K Q hK
     exact wGo rfl rfl hs (QX rfl rfl rfl rfl (cnv_i_u32 (n := wi ((16 : Int) * np4)) Try.underlying3 Try.underlying33)) fun a w hs => hK a w (pF hs 10 [0, 1] [] rfl)
    ·intro L a w hs K Q hK
     exact wGo rfl rfl hs (Qk rfl rfl rfl rfl) fun a w hs => hK a w (pF hs 11 [0, 1] [] rfl)
    ·intro L a w hs K Q hK
     exact wGo rfl rfl hs (QX rfl rfl rfl rfl (cnv_i_u16 (n := id) Try.underlying3 Try.underlying34)) fun a w hs => hK a w (pF hs 12 [0, 1] [] rfl)
    ·intro L a w hs K Q hK
     exact wGo rfl rfl hs (Qi rfl rfl rfl rfl fldF60x1) fun a w hs => hK a w (pF hs 13 [0, 1] [] rfl)
    ·intro L a w hs K Q hK
     exact wGo rfl rfl hs (Qj rfl rfl rfl rfl tyF4 (i := 0) rfl rfl) fun a w hs => hK a w (pF hs 14 [0, 1] [] rfl)
    ·intro L a w hs K Q hK
     refine QO rfl rfl hs (Qv (w_desc_Mark hx7) [] [] rfl rfl rfl rfl rfl callee77 rfl rfl rfl rfl) ?_
     rintro _ ⟨_, _, _, ⟨rfl, rfl, rfl⟩, rfl⟩ a' w' hs'
     exact hK a' w' (hs'.putF (i := 15) rfl [0, 1] [] rfl rfl rfl rfl)
    ·intro L a w hs K Q hK
     exact wGo rfl rfl hs (QE (v := .agg #[vU64 atp3, vU32 (u32 (wi ((16 : Int) * np4))), vU16 (u16 id), vU16 mark2]) rfl rfl rfl rfl (bldV (by kernel_rfl))) fun a w hs => hK a w (pF hs 16 [0, 1] [] rfl)
    ·intro L a w hL hv
     rw [QM hL] at hv
     have hs := hv
     refine gZ hs [10, 39, 49] [1] [] rfl rfl rfl rfl ?_
     clear hs hL
     refine Qx htb (by kernel_rfl) rfl rfl (QE (v := .agg #[vI pp0.At, vU64 atp3, vU32 (u32 (wi ((16 : Int) * np4))), vU16 (u16 id), vU16 mark2]) rfl rfl rfl rfl (bldV (by kernel_rfl))) ?_
     refine Qx htb (by kernel_rfl) rfl rfl (Qo (cs' := [vI pp0.At, vU64 atp3, vU32 (u32 (wi ((16 : Int) * np4))), vU16 (u16 id), vU16 mark2]) rfl rfl rfl rfl tyF89 (i := 0) rfl rfl rfl (QF rfl) rfl) ?_
     refine Qx htb (by kernel_rfl) rfl rfl (QN rfl rfl rfl rfl) ?_
     refine Zh rfl ?_
     refine tZ [10, 11] [0] [] rfl rfl rfl rfl ?_
     obtain rfl := Option.some.inj h
     exact Qn rfl rfl (resA (vs := [.agg #[vI pp0.At, vU64 atp3, vU32 (u32 (wi ((16 : Int) * np4))), vU16 (u16 id), vU16 mark2], vI (0 : Int)]) rfl ⟨⟨_, 0, _, _, _, rfl, rfl, .inl ⟨tyF89, rfl, rfl⟩⟩, rfl, trivial⟩) [] [] rfl rfl rfl ⟨rfl, rfl, rfl⟩
  ·replace h := br_f hg3 h
   refine Qh rfl rfl (cgb hg3) (Qk rfl rfl rfl rfl) ?_
   rintro _ rfl
   refine Qh rfl rfl (cgb hg3) (Qk rfl rfl rfl rfl) ?_
   rintro _ rfl
   refine Qh rfl rfl (cgb hg3) (Qf rfl rfl rfl rfl rfl (YF (a := id) (b := size))) ?_
   rintro _ rfl
   refine Qa rfl (Qw rfl rfl rfl (cgb hg3) rfl) ?_
   refine sMv rfl rfl rfl ?_
   rcases bC (decide (id ≥ size)) with hg5 | hg5
   ·replace h := br_t hg5 h
    refine Qg rfl rfl (cgb hg5) rfl rfl ?_
    refine Qg rfl rfl (cgb hg5) rfl rfl ?_
    refine Qg rfl rfl (cgb hg5) rfl rfl ?_
    refine Qa rfl (Qr rfl rfl rfl (cgb hg5) rfl) ?_
    obtain ⟨wrong3, hx8, h⟩ := ob_e h
    refine Qs rfl (Qv (ZN hx8) [] [] rfl rfl rfl rfl rfl Kj rfl rfl rfl rfl) ?_
    rintro _ ⟨v5, _, _, ⟨_, rfl, rfl, rfl⟩, rfl⟩
    refine Qu rfl (ZS fnS132 (vs := [v5]) (xs := [wrong3]) rfl rfl rfl rfl rfl slF175 rfl rfl rfl (Xo (KL (i := 0) rfl) (KX rfl))) fun v6 => ?_
    obtain ⟨first3, hx9, h⟩ := ob_e h
    refine Qs rfl (Zu [2] [0, 1, 2] (ZE hx9) [] rfl rfl rfl rfl rfl YO rfl rfl rfl rfl rfl rfl (Zl (Xa 2 rfl rfl) ZZ) (by rintro _ _ _ ⟨rfl, rfl, rfl⟩; exact ⟨rfl, XS⟩)) ?_
    rintro _ ⟨_, _, _, ⟨rfl, rfl, rfl⟩, rfl⟩
    refine sAs rfl rfl rfl ?_
    refine Qd (tZ [2, 3, 4, 5, 10, 12] [0, 1] [] rfl rfl rfl rfl ?_)
    refine Qe (Qc (sMv rfl rfl rfl ?_))
    refine Qa rfl (Qf rfl rfl rfl rfl rfl (QL (a := first3) (b := (0 : Int)))) ?_
    refine Qd (tZ [2, 3, 4, 5, 10, 12, 35] [0, 1] [] rfl rfl rfl rfl ?_)
    rcases bC (first3 != (0 : Int)) with hg6 | hg6
    ·replace h := br_t hg6 h
     refine Ql (cgb hg6) ?_
     refine Qe (Qc (Qa rfl (QE (v := .agg #[vI (0 : Int), vU64 (0 : UInt64), vU32 (0 : UInt32), vU16 (0 : UInt16), vU16 (0 : UInt16)]) rfl rfl rfl rfl (bldV (by kernel_rfl))) ?_))
     refine sMv rfl rfl rfl ?_
     refine Qa rfl (Qo (cs' := [vI (0 : Int), vU64 (0 : UInt64), vU32 (0 : UInt32), vU16 (0 : UInt16), vU16 (0 : UInt16)]) rfl rfl rfl rfl tyF89 (i := 1) rfl rfl rfl (QF rfl) rfl) ?_
     refine sAs rfl rfl rfl ?_
     refine Qd (tZ [10, 11] [1] [] rfl rfl rfl rfl ?_)
     obtain rfl := Option.some.inj h
     exact Qn rfl rfl (resA (vs := [.agg #[vI (0 : Int), vU64 (0 : UInt64), vU32 (0 : UInt32), vU16 (0 : UInt16), vU16 (0 : UInt16)], vI first3]) rfl ⟨⟨_, 0, _, _, _, rfl, rfl, .inl ⟨tyF89, rfl, rfl⟩⟩, rfl, trivial⟩) [] [] rfl rfl rfl ⟨rfl, rfl, rfl⟩
    ·replace h := br_f hg6 h
     refine Qp (cgb hg6) ?_
     refine Qt (Qe (QU (by kernel_rfl) ?_))
     refine Xn [0, 1, 0, 0, 8, 24, 0, 64, 0, 256, 768, 2044, 4095, 8191, 16383] (by kernel_rfl) fun htb => ?_
     refine aZ [2, 3, 4, 5, 10] [0, 1] [] rfl rfl rfl rfl ?_
     obtain ⟨mark3, hx10, h⟩ := ob_e h
     refine QW (lo := 0) (hi := 12) htb rfl rfl (by kernel_rfl) (fun c L a w => Sat c ⟨[(2, some (vI id)), (3, some (vU64 atp3)), (4, some (vI np4)), (5, some (.pointer (some ⟨b1, 0, none⟩))), (10, some (.pointer (some ⟨b2, 0, none⟩))), (38, bif L 0 then some (.pointer (some ⟨b1, 0, none⟩)) else none), (39, bif L 1 then some (vI pp0.At) else none), (40, bif L 2 then some (vU64 atp3) else none), (41, bif L 3 then some (vI np4) else none), (42, bif L 4 then some (vI (wi ((16 : Int) * np4))) else none), (43, bif L 5 then some (vU32 (u32 (wi ((16 : Int) * np4)))) else none), (44, bif L 6 then some (vI id) else none), (45, bif L 7 then some (vU16 (u16 id)) else none), (46, bif L 8 then some (.pointer (some ⟨b1, 1, none⟩)) else none), (47, bif L 9 then some (vB pp0.Wrap) else none), (48, bif L 10 then some (vU16 mark3) else none), (49, bif L 11 then some (.agg #[vU64 atp3, vU32 (u32 (wi ((16 : Int) * np4))), vU16 (u16 id), vU16 mark3]) else none)], [(some (Qm b1 60 [vI pp0.At, vB pp0.Wrap]) : Option Res), (some (Qm b2 89 [vI (0 : Int), vU64 (0 : UInt64), vU32 (0 : UInt32), vU16 (0 : UInt16), vU16 (0 : UInt16)]) : Option Res)], []⟩ a w) [([], [1]), ([0], []), ([], [11]), ([], [4, 5, 11]), ([3], [5, 11]), ([3, 4], [11]), ([], [7, 11]), ([6], [11]), ([], [9, 10, 11]), ([8], [10, 11]), ([8, 9], [11]), ([2, 3, 4, 5, 6, 7, 8, 9, 10], [])] rfl (by kernel_rfl) ?_ (Qb ?_ (Qb ?_ (Qb ?_ (Qb ?_ (Qb ?_ (Qb ?_ (Qb ?_ (Qb ?_ (Qb ?_ (Qb ?_ (Qb ?_ (Qb ?_ (QB))))))))))))) ?_
     ·intro a w hs
      exact hs.startF [38, 39, 40, 41, 42, 43, 44, 45, 46, 47, 48, 49] [0, 1] [] rfl rfl rfl rfl
     ·intro L a w hs K Q hK
      exact wGo rfl rfl hs (Qi rfl rfl rfl rfl Yc) fun a w hs => hK a w (pF hs 5 [0, 1] [] rfl)
     ·intro L a w hs K Q hK
      exact wGo rfl rfl hs (Qj rfl rfl rfl rfl tyF3 (i := 0) rfl rfl) fun a w hs => hK a w (pF hs 6 [0, 1] [] rfl)
     ·intro L a w hs K Q hK
      exact wGo rfl rfl hs (Qk rfl rfl rfl rfl) fun a w hs => hK a w (pF hs 7 [0, 1] [] rfl)
     ·intro L a w hs K Q hK
      exact wGo rfl rfl hs (Qk rfl rfl rfl rfl) fun a w hs => hK a w (pF hs 8 [0, 1] [] rfl)
     ·intro L a w hs K Q hK
      exact wGo rfl rfl hs (Qf rfl rfl rfl rfl rfl (YE (a := (16 : Int)) (b := np4))) fun a w hs => hK a w (pF hs 9 [0, 1] [] rfl)
     ·intro L a w hs K Q hK
      exact wGo rfl rfl hs (QX rfl rfl rfl rfl (cnv_i_u32 (n := wi ((16 : Int) * np4)) Try.underlying3 Try.underlying33)) fun a w hs => hK a w (pF hs 10 [0, 1] [] rfl)
     ·intro L a w hs K Q hK
      exact wGo rfl rfl hs (Qk rfl rfl rfl rfl) fun a w hs => hK a w (pF hs 11 [0, 1] [] rfl)
     ·intro L a w hs K Q hK
      exact wGo rfl rfl hs (QX rfl rfl rfl rfl (cnv_i_u16 (n := id) Try.underlying3 Try.underlying34)) fun a w hs => hK a w (pF hs 12 [0, 1] [] rfl)
     ·intro L a w hs K Q hK
      exact wGo rfl rfl hs (Qi rfl rfl rfl rfl fldF60x1) fun a w hs => hK a w (pF hs 13 [0, 1] [] rfl)
     ·intro L a w hs K Q hK
      exact wGo rfl rfl hs (Qj rfl rfl rfl rfl tyF4 (i := 0) rfl rfl) fun a w hs => hK a w (pF hs 14 [0, 1] [] rfl)
     ·intro L a w hs K Q hK
      refine QO rfl rfl hs (Qv (w_desc_Mark hx10) [] [] rfl rfl rfl rfl rfl callee77 rfl rfl rfl rfl) ?_
      rintro _ ⟨_, _, _, ⟨rfl, rfl, rfl⟩, rfl⟩ a' w' hs'
      exact hK a' w' (hs'.putF (i := 15) rfl [0, 1] [] rfl rfl rfl rfl)
     ·intro L a w hs K Q hK
      exact wGo rfl rfl hs (QE (v := .agg #[vU64 atp3, vU32 (u32 (wi ((16 : Int) * np4))), vU16 (u16 id), vU16 mark3]) rfl rfl rfl rfl (bldV (by kernel_rfl))) fun a w hs => hK a w (pF hs 16 [0, 1] [] rfl)
     ·intro L a w hL hv
      rw [QM hL] at hv
      have hs := hv
      refine gZ hs [10, 39, 49] [1] [] rfl rfl rfl rfl ?_
      clear hs hL
      refine Qx htb (by kernel_rfl) rfl rfl (QE (v := .agg #[vI pp0.At, vU64 atp3, vU32 (u32 (wi ((16 : Int) * np4))), vU16 (u16 id), vU16 mark3]) rfl rfl rfl rfl (bldV (by kernel_rfl))) ?_
      refine Qx htb (by kernel_rfl) rfl rfl (Qo (cs' := [vI pp0.At, vU64 atp3, vU32 (u32 (wi ((16 : Int) * np4))), vU16 (u16 id), vU16 mark3]) rfl rfl rfl rfl tyF89 (i := 0) rfl rfl rfl (QF rfl) rfl) ?_
      refine Qx htb (by kernel_rfl) rfl rfl (QN rfl rfl rfl rfl) ?_
      refine Zh rfl ?_
      refine tZ [10, 11] [0] [] rfl rfl rfl rfl ?_
      obtain rfl := Option.some.inj h
      exact Qn rfl rfl (resA (vs := [.agg #[vI pp0.At, vU64 atp3, vU32 (u32 (wi ((16 : Int) * np4))), vU16 (u16 id), vU16 mark3], vI (0 : Int)]) rfl ⟨⟨_, 0, _, _, _, rfl, rfl, .inl ⟨tyF89, rfl, rfl⟩⟩, rfl, trivial⟩) [] [] rfl rfl rfl ⟨rfl, rfl, rfl⟩
   ·replace h := br_f hg5 h
    refine Qh rfl rfl (cgb hg5) (Qk rfl rfl rfl rfl) ?_
    rintro _ rfl
    obtain ⟨many1, hx11, h⟩ := ob_e h
    refine Qh rfl rfl (cgb hg5) (Qv (w_build_many hx11) [] [] rfl rfl rfl rfl rfl callee72 rfl rfl rfl rfl) ?_
    rintro _ ⟨_, _, _, ⟨rfl, rfl, rfl⟩, rfl⟩
    refine Qh rfl rfl (cgb hg5) (XO rfl rfl rfl rfl) ?_
    rintro _ rfl
    refine Qa rfl (Qw rfl rfl rfl (cgb hg5) rfl) ?_
    obtain ⟨wrong4, hx12, h⟩ := ob_e h
    refine Qs rfl (Qv (ZN hx12) [] [] rfl rfl rfl rfl rfl Kj rfl rfl rfl rfl) ?_
    rintro _ ⟨v7, _, _, ⟨_, rfl, rfl, rfl⟩, rfl⟩
    refine Qu rfl (ZS fnS132 (vs := [v7]) (xs := [wrong4]) rfl rfl rfl rfl rfl slF175 rfl rfl rfl (Xo (KL (i := 0) rfl) (KX rfl))) fun v8 => ?_
    obtain ⟨first4, hx13, h⟩ := ob_e h
    refine Qs rfl (Zu [2] [0, 1, 2] (ZE hx13) [] rfl rfl rfl rfl rfl YO rfl rfl rfl rfl rfl rfl (Zl (Xa 2 rfl rfl) ZZ) (by rintro _ _ _ ⟨rfl, rfl, rfl⟩; exact ⟨rfl, XS⟩)) ?_
    rintro _ ⟨_, _, _, ⟨rfl, rfl, rfl⟩, rfl⟩
    refine sAs rfl rfl rfl ?_
    refine Qd (tZ [2, 3, 4, 5, 10, 12] [0, 1] [] rfl rfl rfl rfl ?_)
    refine Qe (Qc (sMv rfl rfl rfl ?_))
    refine Qa rfl (Qf rfl rfl rfl rfl rfl (QL (a := first4) (b := (0 : Int)))) ?_
    refine Qd (tZ [2, 3, 4, 5, 10, 12, 35] [0, 1] [] rfl rfl rfl rfl ?_)
    rcases bC (first4 != (0 : Int)) with hg7 | hg7
    ·replace h := br_t hg7 h
     refine Ql (cgb hg7) ?_
     refine Qe (Qc (Qa rfl (QE (v := .agg #[vI (0 : Int), vU64 (0 : UInt64), vU32 (0 : UInt32), vU16 (0 : UInt16), vU16 (0 : UInt16)]) rfl rfl rfl rfl (bldV (by kernel_rfl))) ?_))
     refine sMv rfl rfl rfl ?_
     refine Qa rfl (Qo (cs' := [vI (0 : Int), vU64 (0 : UInt64), vU32 (0 : UInt32), vU16 (0 : UInt16), vU16 (0 : UInt16)]) rfl rfl rfl rfl tyF89 (i := 1) rfl rfl rfl (QF rfl) rfl) ?_
     refine sAs rfl rfl rfl ?_
     refine Qd (tZ [10, 11] [1] [] rfl rfl rfl rfl ?_)
     obtain rfl := Option.some.inj h
     exact Qn rfl rfl (resA (vs := [.agg #[vI (0 : Int), vU64 (0 : UInt64), vU32 (0 : UInt32), vU16 (0 : UInt16), vU16 (0 : UInt16)], vI first4]) rfl ⟨⟨_, 0, _, _, _, rfl, rfl, .inl ⟨tyF89, rfl, rfl⟩⟩, rfl, trivial⟩) [] [] rfl rfl rfl ⟨rfl, rfl, rfl⟩
    ·replace h := br_f hg7 h
     refine Qp (cgb hg7) ?_
     refine Qt (Qe (QU (by kernel_rfl) ?_))
     refine Xn [0, 1, 0, 0, 8, 24, 0, 64, 0, 256, 768, 2044, 4095, 8191, 16383] (by kernel_rfl) fun htb => ?_
     refine aZ [2, 3, 4, 5, 10] [0, 1] [] rfl rfl rfl rfl ?_
     obtain ⟨mark4, hx14, h⟩ := ob_e h
     refine QW (lo := 0) (hi := 12) htb rfl rfl (by kernel_rfl) (fun c L a w => Sat c ⟨[(2, some (vI id)), (3, some (vU64 atp3)), (4, some (vI np4)), (5, some (.pointer (some ⟨b1, 0, none⟩))), (10, some (.pointer (some ⟨b2, 0, none⟩))), (38, bif L 0 then some (.pointer (some ⟨b1, 0, none⟩)) else none), (39, bif L 1 then some (vI pp0.At) else none), (40, bif L 2 then some (vU64 atp3) else none), (41, bif L 3 then some (vI np4) else none), (42, bif L 4 then some (vI (wi ((16 : Int) * np4))) else none), (43, bif L 5 then some (vU32 (u32 (wi ((16 : Int) * np4)))) else none), (44, bif L 6 then some (vI id) else none), (45, bif L 7 then some (vU16 (u16 id)) else none), (46, bif L 8 then some (.pointer (some ⟨b1, 1, none⟩)) else none), (47, bif L 9 then some (vB pp0.Wrap) else none), (48, bif L 10 then some (vU16 mark4) else none), (49, bif L 11 then some (.agg #[vU64 atp3, vU32 (u32 (wi ((16 : Int) * np4))), vU16 (u16 id), vU16 mark4]) else none)], [(some (Qm b1 60 [vI pp0.At, vB pp0.Wrap]) : Option Res), (some (Qm b2 89 [vI (0 : Int), vU64 (0 : UInt64), vU32 (0 : UInt32), vU16 (0 : UInt16), vU16 (0 : UInt16)]) : Option Res)], []⟩ a w) [([], [1]), ([0], []), ([], [11]), ([], [4, 5, 11]), ([3], [5, 11]), ([3, 4], [11]), ([], [7, 11]), ([6], [11]), ([], [9, 10, 11]), ([8], [10, 11]), ([8, 9], [11]), ([2, 3, 4, 5, 6, 7, 8, 9, 10], [])] rfl (by kernel_rfl) ?_ (Qb ?_ (Qb ?_ (Qb ?_ (Qb ?_ (Qb ?_ (Qb ?_ (Qb ?_ (Qb ?_ (Qb ?_ (Qb ?_ (Qb ?_ (Qb ?_ (QB))))))))))))) ?_
     ·intro a w hs
      exact hs.startF [38, 39, 40, 41, 42, 43, 44, 45, 46, 47, 48, 49] [0, 1] [] rfl rfl rfl rfl
     ·intro L a w hs K Q hK
      exact wGo rfl rfl hs (Qi rfl rfl rfl rfl Yc) fun a w hs => hK a w (pF hs 5 [0, 1] [] rfl)
     ·intro L a w hs K Q hK
      exact wGo rfl rfl hs (Qj rfl rfl rfl rfl tyF3 (i := 0) rfl rfl) fun a w hs => hK a w (pF hs 6 [0, 1] [] rfl)
     ·intro L a w hs K Q hK
      exact wGo rfl rfl hs (Qk rfl rfl rfl rfl) fun a w hs => hK a w (pF hs 7 [0, 1] [] rfl)
     ·intro L a w hs K Q hK
      exact wGo rfl rfl hs (Qk rfl rfl rfl rfl) fun a w hs => hK a w (pF hs 8 [0, 1] [] rfl)
     ·intro L a w hs K Q hK
      exact wGo rfl rfl hs (Qf rfl rfl rfl rfl rfl (YE (a := (16 : Int)) (b := np4))) fun a w hs => hK a w (pF hs 9 [0, 1] [] rfl)
     ·intro L a w hs K Q hK
      exact wGo rfl rfl hs (QX rfl rfl rfl rfl (cnv_i_u32 (n := wi ((16 : Int) * np4)) Try.underlying3 Try.underlying33)) fun a w hs => hK a w (pF hs 10 [0, 1] [] rfl)
     ·intro L a w hs K Q hK
      exact wGo rfl rfl hs (Qk rfl rfl rfl rfl) fun a w hs => hK a w (pF hs 11 [0, 1] [] rfl)
     ·intro L a w hs K Q hK
      exact wGo rfl rfl hs (QX rfl rfl rfl rfl (cnv_i_u16 (n := id) Try.underlying3 Try.underlying34)) fun a w hs => hK a w (pF hs 12 [0, 1] [] rfl)
     ·intro L a w hs K Q hK
      exact wGo rfl rfl hs (Qi rfl rfl rfl rfl fldF60x1) fun a w hs => hK a w (pF hs 13 [0, 1] [] rfl)
     ·intro L a w hs K Q hK
      exact wGo rfl rfl hs (Qj rfl rfl rfl rfl tyF4 (i := 0) rfl rfl) fun a w hs => hK a w (pF hs 14 [0, 1] [] rfl)
     ·intro L a w hs K Q hK
      refine QO rfl rfl hs (Qv (w_desc_Mark hx14) [] [] rfl rfl rfl rfl rfl callee77 rfl rfl rfl rfl) ?_
      rintro _ ⟨_, _, _, ⟨rfl, rfl, rfl⟩, rfl⟩ a' w' hs'
      exact hK a' w' (hs'.putF (i := 15) rfl [0, 1] [] rfl rfl rfl rfl)
     ·intro L a w hs K Q hK
      exact wGo rfl rfl hs (QE (v := .agg #[vU64 atp3, vU32 (u32 (wi ((16 : Int) * np4))), vU16 (u16 id), vU16 mark4]) rfl rfl rfl rfl (bldV (by kernel_rfl))) fun a w hs => hK a w (pF hs 16 [0, 1] [] rfl)
     ·intro L a w hL hv
      rw [QM hL] at hv
      have hs := hv
      refine gZ hs [10, 39, 49] [1] [] rfl rfl rfl rfl ?_
      clear hs hL
      refine Qx htb (by kernel_rfl) rfl rfl (QE (v := .agg #[vI pp0.At, vU64 atp3, vU32 (u32 (wi ((16 : Int) * np4))), vU16 (u16 id), vU16 mark4]) rfl rfl rfl rfl (bldV (by kernel_rfl))) ?_
      refine Qx htb (by kernel_rfl) rfl rfl (Qo (cs' := [vI pp0.At, vU64 atp3, vU32 (u32 (wi ((16 : Int) * np4))), vU16 (u16 id), vU16 mark4]) rfl rfl rfl rfl tyF89 (i := 0) rfl rfl rfl (QF rfl) rfl) ?_
      refine Qx htb (by kernel_rfl) rfl rfl (QN rfl rfl rfl rfl) ?_
      refine Zh rfl ?_
      refine tZ [10, 11] [0] [] rfl rfl rfl rfl ?_
      obtain rfl := Option.some.inj h
      exact Qn rfl rfl (resA (vs := [.agg #[vI pp0.At, vU64 atp3, vU32 (u32 (wi ((16 : Int) * np4))), vU16 (u16 id), vU16 mark4], vI (0 : Int)]) rfl ⟨⟨_, 0, _, _, _, rfl, rfl, .inl ⟨tyF89, rfl, rfl⟩⟩, rfl, trivial⟩) [] [] rfl rfl rfl ⟨rfl, rfl, rfl⟩
end Go.Proofs.Ytlofegfaphijpaa
