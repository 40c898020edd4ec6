/- The functions do what the plain words say: each is walked once. No statement of the seat is proved here; no condition. -/
import Derived.Test.YtgcbcnpbnonnjaaWa5
namespace Go.Proofs.Ytgcbcnpbnonnjaa
attribute [local irreducible] sub
set_option maxRecDepth 100000 in
set_option maxHeartbeats 4000000 in
theorem w_law26zmemory  {r : (List Region)} (h : law26zmemory = some r) :
  Ctr Try.prog 12 #[] [] []
   (fun rv own shr => ∃ (w1 : Value), rv = w1 ∧ own = [(rowS Qf w1 r)] ∧ shr = []) := by
 unfold law26zmemory at h
 refine Ctr.mk (args := []) Try.func12 rfl rfl (fun R0 w0 B => ?_)
 refine Qe (Qb (sAs rfl rfl rfl ?_))
 refine nW [] [] [] [] [] [] rfl ?_
 refine Qe (Qb (Qa rfl (Zd (v := .agg #[vU64 (0 : UInt64), vU64 (32768 : UInt64)]) rfl rfl rfl rfl (bldV (by kernel_rfl))) ?_))
 refine Qq rfl (QF (S := Qf) (xs := [(Region.mk (0 : UInt64) (32768 : UInt64))]) (css := [[vU64 (0 : UInt64), vU64 (32768 : UInt64)]]) (cs := [vU64 (0 : UInt64), vU64 (32768 : UInt64)]) (e := 75) rfl rfl rfl rfl (bldF slF42 (by decide) (by kernel_rfl)) rfl rfl rfl rfl (Ze (S := Qf) (xs := [(Region.mk (0 : UInt64) (32768 : UInt64))]) (css := [[vU64 (0 : UInt64), vU64 (32768 : UInt64)]]) rfl rfl)) fun v1 => ?_
 refine sAs rfl rfl rfl ?_
 refine nW [(0, some v1)] [some (rowS Qf v1 [(Region.mk (0 : UInt64) (32768 : UInt64))])] [] [0] [0] [] rfl ?_
 obtain rfl := Option.some.inj h
 exact Qn rfl rfl (resA (vs := [v1]) rfl ⟨rfl, trivial⟩) [0] [] rfl rfl rfl ⟨v1, rfl, rfl, rfl⟩

set_option maxRecDepth 100000 in
set_option maxHeartbeats 4000000 in
theorem w_kit_Pick {np0 : Int} {m : Int} {r : Int} (h : kit_Pick np0 m = some r) :
  Ctr Try.prog 14 #[vI np0, vI m] [] []
   (fun rv own shr => rv = vI r ∧ own = [] ∧ shr = []) := by
 unfold kit_Pick at h
 refine Ctr.mk (args := [vI np0, vI m]) Try.func14 rfl rfl (fun R0 w0 B => ?_)
 refine Qe (Qb (sAs rfl rfl rfl ?_))
 refine nW [(0, some (vI np0)), (1, some (vI m))] [] [] [0, 1] [] [] rfl ?_
 refine Qe (Qe (Qb (sMv rfl rfl rfl ?_)))
 refine Qa rfl (Qg rfl rfl rfl rfl rfl (QK (a := m) (b := (1 : Int)))) ?_
 refine nW [(0, some (vI np0)), (1, some (vI m)), (6, some (vB (decide (m < (1 : Int)))))] [] [] [0, 1, 6] [] [] rfl ?_
 rcases bC (decide (m < (1 : Int))) with hg1 | hg1
 ·replace h := br_t hg1 h
  refine Ql (cgb hg1) ?_
  refine Qe (Qb (sAs rfl rfl rfl ?_))
  refine nW [(4, some (vI (0 : Int)))] [] [] [4] [] [] rfl ?_
  obtain rfl := Option.some.inj h
  exact Qn rfl rfl (resA (vs := [vI (0 : Int)]) rfl ⟨rfl, trivial⟩) [] [] rfl rfl rfl ⟨rfl, rfl, rfl⟩
 ·replace h := br_f hg1 h
  refine Qm (cgb hg1) ?_
  refine Qr (Qe (Qb (sMv rfl rfl rfl ?_)))
  refine sMv rfl rfl rfl ?_
  obtain ⟨hc1, h⟩ := Zi h
  refine Qa rfl (Qg rfl rfl rfl rfl rfl (bin_rem_i (a := np0) (b := m) (not_t hc1))) ?_
  refine sAs rfl rfl rfl ?_
  refine nW [(0, some (vI (remi np0 m))), (1, some (vI m))] [] [] [0, 1] [] [] rfl ?_
  refine Qe (Qe (Qb (sMv rfl rfl rfl ?_)))
  refine Qa rfl (Qg rfl rfl rfl rfl rfl (QK (a := remi np0 m) (b := (0 : Int)))) ?_
  refine nW [(0, some (vI (remi np0 m))), (1, some (vI m)), (11, some (vB (decide ((remi np0 m) < (0 : Int)))))] [] [] [0, 1, 11] [] [] rfl ?_
  rcases bC (decide ((remi np0 m) < (0 : Int))) with hg2 | hg2
  ·replace h := br_t hg2 h
   refine Ql (cgb hg2) ?_
   refine Qb (sMv rfl rfl rfl ?_)
   refine sMv rfl rfl rfl ?_
   refine Qa rfl (Qg rfl rfl rfl rfl rfl (Qx (a := remi np0 m) (b := m))) ?_
   refine sAs rfl rfl rfl ?_
   refine nW [(0, some (vI (wi ((remi np0 m) + m))))] [] [] [0] [] [] rfl ?_
   refine Qe (Qb (sMv rfl rfl rfl ?_))
   refine sAs rfl rfl rfl ?_
   refine nW [(4, some (vI (wi ((remi np0 m) + m))))] [] [] [4] [] [] rfl ?_
   obtain rfl := Option.some.inj h
   exact Qn rfl rfl (resA (vs := [vI (wi ((remi np0 m) + m))]) rfl ⟨rfl, trivial⟩) [] [] rfl rfl rfl ⟨rfl, rfl, rfl⟩
  ·replace h := br_f hg2 h
   refine Qm (cgb hg2) ?_
   refine Qr (Qe (Qb (sMv rfl rfl rfl ?_)))
   refine sAs rfl rfl rfl ?_
   refine nW [(4, some (vI (remi np0 m)))] [] [] [4] [] [] rfl ?_
   obtain rfl := Option.some.inj h
   exact Qn rfl rfl (resA (vs := [vI (remi np0 m)]) rfl ⟨rfl, trivial⟩) [] [] rfl rfl rfl ⟨rfl, rfl, rfl⟩

set_option maxRecDepth 100000 in
set_option maxHeartbeats 4000000 in
theorem w_kit_Segs {l : List Seg} {vl1 : Value} {r : (List Seg)} (h : kit_Segs l = some r) :
  Ctr Try.prog 52 #[vl1] [] [Fact.sl SegS vl1 l]
   (fun rv own shr => ∃ (w1 : Value), rv = w1 ∧ own = [(rowS SegS w1 r)] ∧ shr = []) := by
 unfold kit_Segs at h
 refine Ctr.mk (args := [vl1]) Try.func52 rfl rfl (fun R0 w0 B => ?_)
 refine Qe (Qb (sAs rfl rfl rfl ?_))
 refine nW [(0, some vl1)] [] [Fact.sl SegS vl1 l] [0] [] [0] rfl ?_
 refine Qe (Qb (Qq rfl (QF (S := SegS) (xs := ([] : List Seg)) (css := []) (cs := []) (e := 29) rfl rfl rfl rfl (bldF XS (by decide) (by kernel_rfl)) rfl rfl rfl rfl (Ze (S := SegS) (xs := ([] : List Seg)) (css := []) rfl rfl)) fun v1 => ?_))
 refine sMv rfl rfl rfl ?_
 obtain ⟨hc1, h⟩ := Zi h
 refine Qq rfl (ZS rfl rfl rfl rfl rfl XS (i := 0) (j := 0) rfl rfl hc1) fun v2 => ?_
 refine sAs rfl rfl rfl ?_
 refine nW [(2, some v2)] [some (rowS SegS v2 l)] [] [2] [0] [] rfl ?_
 obtain rfl := Option.some.inj h
 exact Qn rfl rfl (resA (vs := [v2]) rfl ⟨rfl, trivial⟩) [0] [] rfl rfl rfl ⟨v2, rfl, rfl, rfl⟩

set_option maxRecDepth 100000 in
set_option maxHeartbeats 4000000 in
theorem w_kit_Bufs {l : List (List Seg)} {vl1 : Value} {r : (List (List Seg))} (h : kit_Bufs l = some r) :
  Ctr Try.prog 27 #[vl1] [] [Fact.sl (Shape.slice SegS) vl1 l]
   (fun rv own shr => ∃ (w1 : Value), rv = w1 ∧ own = [(rowS (Shape.slice SegS) w1 r)] ∧ shr = []) := by
 unfold kit_Bufs at h
 refine Ctr.mk (args := [vl1]) Try.func27 rfl rfl (fun R0 w0 B => ?_)
 refine Qe (Qb (sAs rfl rfl rfl ?_))
 refine nW [(0, some vl1)] [] [Fact.sl (Shape.slice SegS) vl1 l] [0] [] [0] rfl ?_
 refine Qe (Qb (sAs rfl rfl rfl ?_))
 refine QT (Qe (Qe (Qb (sAs rfl rfl rfl ?_))))
 refine QT (Qz (QI (Shape.slice SegS) ?_))
 refine Zc (σ := (List (List Seg)) × Int × Value) [0, 3, 4] [0] [0] (fun s => ⟨[(0, some vl1), (3, some (s.2.2)), (4, some (vI s.2.1))], [some (rowS (Shape.slice SegS) s.2.2 s.1)], [Fact.sl (Shape.slice SegS) vl1 l]⟩) (fun nf1 s => kit_BufsL1 l nf1 s.1 s.2.1 = some r) fuel ([], (0 : Int), (.slice none 0 0)) h rfl rfl rfl rfl rfl (fun s h => by cases h) ?_
 rintro nf1 ⟨out1, i1, v1⟩ h
 replace h : kit_BufsL1B l (kit_BufsL1 l nf1) out1 i1 = some r := h
 unfold kit_BufsL1B at h
 refine Qe (Qe (Qb (sMv rfl rfl rfl ?_)))
 refine sMv rfl rfl rfl ?_
 refine Qa rfl (QB rfl rfl rfl rfl Try.underlying59 (i := 0) rfl) ?_
 refine Qa rfl (Qg rfl rfl rfl rfl rfl (QK (a := i1) (b := len l))) ?_
 refine nW [(0, some vl1), (3, some v1), (4, some (vI i1)), (8, some (vB (decide (i1 < (len l)))))] [some (rowS (Shape.slice SegS) v1 out1)] [Fact.sl (Shape.slice SegS) vl1 l] [0, 3, 4, 8] [0] [0] rfl ?_
 rcases bC (decide (i1 < (len l))) with hg1 | hg1
 ·replace h := br_t hg1 h
  refine Ql (cgb hg1) ?_
  refine Qr (Qe (Qz (Qb (sMv rfl rfl rfl ?_))))
  refine sMv rfl rfl rfl ?_
  refine sMv rfl rfl rfl ?_
  obtain ⟨y1, hx1, h⟩ := ob_e h
  refine Qq rfl (QA rfl rfl rfl rfl rfl slF59 (i := 0) rfl hx1) fun p1 => ?_
  refine Qq rfl (Xn rfl rfl rfl rfl tyF25 (i := 1) rfl) fun v2 => ?_
  obtain ⟨segs1, hx2, h⟩ := ob_e h
  refine Qt rfl (QO (w_kit_Segs hx2) [] [2] rfl rfl rfl rfl rfl callee52 rfl rfl rfl rfl) ?_
  rintro _ ⟨v3, _, _, ⟨_, rfl, rfl, rfl⟩, rfl⟩
  refine Zn (i := 1) rfl ?_
  refine Qq rfl (YV (Shape.slice SegS) (vs := [v3]) (xs := [segs1]) rfl rfl rfl rfl rfl slF59 (isl_cons (is_sl (i := 3) rfl) isl_nil) rfl rfl rfl (rel_cons (rel_sl (i := 3) rfl) (rel_nil rfl))) fun v4 => ?_
  refine Zn (i := 2) rfl ?_
  obtain ⟨hc1, h⟩ := Zi h
  refine Qq rfl (ZS rfl rfl rfl rfl rfl slF59 (i := 0) (j := 4) rfl rfl hc1) fun v5 => ?_
  refine sAs rfl rfl rfl ?_
  refine nW [(0, some vl1), (3, some v5), (4, some (vI i1))] [some (rowS (Shape.slice SegS) v5 (out1 ++ [segs1]))] [Fact.sl (Shape.slice SegS) vl1 l] [0, 3, 4] [0] [0] rfl ?_
  refine Zk (Qb (sMv rfl rfl rfl ?_))
  refine Qa rfl (Qg rfl rfl rfl rfl rfl (Qx (a := i1) (b := (1 : Int)))) ?_
  refine sAs rfl rfl rfl ?_
  refine nW [(0, some vl1), (3, some v5), (4, some (vI (wi (i1 + (1 : Int)))))] [some (rowS (Shape.slice SegS) v5 (out1 ++ [segs1]))] [Fact.sl (Shape.slice SegS) vl1 l] [0, 3, 4] [0] [0] rfl ?_
  exact QN (out1 ++ [segs1], wi (i1 + (1 : Int)), v5) h [0, 3, 4] [0] [0] rfl rfl rfl rfl rfl
 ·replace h := br_f hg1 h
  refine Qm (cgb hg1) ?_
  refine Zf _ rfl ?_
  refine Qe (Qb (sMv rfl rfl rfl ?_))
  refine sAs rfl rfl rfl ?_
  refine nW [(2, some v1)] [some (rowS (Shape.slice SegS) v1 out1)] [] [2] [0] [] rfl ?_
  obtain rfl := Option.some.inj h
  exact Qn rfl rfl (resA (vs := [v1]) rfl ⟨rfl, trivial⟩) [0] [] rfl rfl rfl ⟨v1, rfl, rfl, rfl⟩

set_option maxRecDepth 100000 in
set_option maxHeartbeats 4000000 in
theorem w_netdrv_Collect {m : gmem_Mem} {feats : UInt64} {bufs : List (List Seg)} {written : List UInt32} {b_m : Nat} {vm1 : Value} {vm2 : Value} {vsm1 : List Value} {vbufs1 : Value} {vwritten1 : Value} {r : ((List Frame) × Int × Int)} (h : YJ m feats bufs written = some r) :
  Ctr Try.prog 26 #[.pointer (some ⟨b_m, 0, none⟩), vU64 feats, vbufs1, vwritten1] [(Qd b_m 82 [vm1, vm2]), (Qj u8S true vm2 vsm1 m.b none)] [Fact.sl Qf vm1 m.l, Fact.sl (Shape.slice SegS) vbufs1 bufs, Fact.sl u32S vwritten1 written]
   (fun rv own shr => ∃ (w1 : Value), rv = .tuple #[w1, vI r.2.1, vI r.2.2] ∧ own = [(Qd b_m 82 [vm1, vm2]), (Qj u8S true vm2 vsm1 m.b none), (rowS QD w1 r.1)] ∧ shr = []) := by
 unfold YJ at h
 refine Ctr.mk (args := [.pointer (some ⟨b_m, 0, none⟩), vU64 feats, vbufs1, vwritten1]) Try.func26 rfl rfl (fun R0 w0 B => ?_)
 refine Qe (Qb (sAs rfl rfl rfl ?_))
 refine sAs rfl rfl rfl ?_
 refine sAs rfl rfl rfl ?_
 refine nW [(0, some (.pointer (some ⟨b_m, 0, none⟩))), (1, some (vU64 feats)), (2, some vbufs1), (3, some vwritten1)] [some (Qd b_m 82 [vm1, vm2]), some (Qj u8S true vm2 vsm1 m.b none)] [Fact.sl Qf vm1 m.l, Fact.sl (Shape.slice SegS) vbufs1 bufs, Fact.sl u32S vwritten1 written] [0, 1, 2, 3] [0, 1] [0, 1, 2] rfl ?_
 refine Qe (Qz (Qe (Qb (sMv rfl rfl rfl ?_))))
 refine Qa rfl (OpT_ptrNil rfl rfl rfl (.inl rfl) rfl rfl ptrF39) ?_
 refine sAs rfl rfl rfl ?_
 refine nW [(0, some (.pointer (some ⟨b_m, 0, none⟩))), (1, some (vU64 feats)), (2, some vbufs1), (3, some vwritten1), (16, some (vB false))] [some (Qd b_m 82 [vm1, vm2]), some (Qj u8S true vm2 vsm1 m.b none)] [Fact.sl Qf vm1 m.l, Fact.sl (Shape.slice SegS) vbufs1 bufs, Fact.sl u32S vwritten1 written] [0, 1, 2, 3, 16] [0, 1] [0, 1, 2] rfl ?_
 refine Qm rfl ?_
 refine Qe (Qb (sMv rfl rfl rfl ?_))
 refine Qa rfl (QB rfl rfl rfl rfl Try.underlying59 (i := 1) rfl) ?_
 refine sMv rfl rfl rfl ?_
 refine Qa rfl (QB rfl rfl rfl rfl Try.underlying62 (i := 2) rfl) ?_
 refine Qa rfl (Qg rfl rfl rfl rfl rfl (QU (a := len bufs) (b := len written))) ?_
 refine sAs rfl rfl rfl ?_
 refine nW [(0, some (.pointer (some ⟨b_m, 0, none⟩))), (1, some (vU64 feats)), (2, some vbufs1), (3, some vwritten1), (19, some (vB ((len bufs) != (len written))))] [some (Qd b_m 82 [vm1, vm2]), some (Qj u8S true vm2 vsm1 m.b none)] [Fact.sl Qf vm1 m.l, Fact.sl (Shape.slice SegS) vbufs1 bufs, Fact.sl u32S vwritten1 written] [0, 1, 2, 3, 19] [0, 1] [0, 1, 2] rfl ?_
 rcases bC ((len bufs) != (len written)) with hg1 | hg1
 ·replace h := br_t hg1 h
  refine Ql (cgb hg1) ?_
  refine Qe (Qb (sAs rfl rfl rfl ?_))
  refine sAs rfl rfl rfl ?_
  refine sAs rfl rfl rfl ?_
  refine nW [(8, some (.slice none 0 0)), (9, some (vI (0 : Int))), (10, some (vI (2 : Int)))] [some (Qd b_m 82 [vm1, vm2]), some (Qj u8S true vm2 vsm1 m.b none)] [Fact.sl Qf vm1 m.l] [8, 9, 10] [0, 1] [0] rfl ?_
  refine QI QD ?_
  obtain rfl := Option.some.inj h
  exact Qn rfl rfl (resA (vs := [.slice none 0 0, vI (0 : Int), vI (2 : Int)]) rfl ⟨rfl, rfl, rfl, trivial⟩) [0, 1, 2] [] rfl rfl rfl ⟨(.slice none 0 0), rfl, rfl, rfl⟩
 ·replace h := br_f hg1 h
  refine Qm (cgb hg1) ?_
  refine Qr (Zk (Qe (Qb (sAs rfl rfl rfl ?_))))
  refine nW [(0, some (.pointer (some ⟨b_m, 0, none⟩))), (1, some (vU64 feats)), (2, some vbufs1), (3, some vwritten1), (11, some (.slice none 0 0))] [some (Qd b_m 82 [vm1, vm2]), some (Qj u8S true vm2 vsm1 m.b none)] [Fact.sl Qf vm1 m.l, Fact.sl (Shape.slice SegS) vbufs1 bufs, Fact.sl u32S vwritten1 written] [0, 1, 2, 3, 11] [0, 1] [0, 1, 2] rfl ?_
  refine Qe (Qb (sAs rfl rfl rfl ?_))
  refine QT (Qe (Qz (QI QD ?_)))
  refine Zc (σ := (List (List Seg)) × (List UInt32) × (List Frame) × Int × Value × Value × Value) [0, 1, 2, 3, 11, 12] [0, 1, 2] [0, 1, 2] (fun s => ⟨[(0, some (.pointer (some ⟨b_m, 0, none⟩))), (1, some (vU64 feats)), (2, some (s.2.2.2.2.1)), (3, some (s.2.2.2.2.2.1)), (11, some (s.2.2.2.2.2.2)), (12, some (vI s.2.2.2.1))], [some (Qd b_m 82 [vm1, vm2]), some (Qj u8S true vm2 vsm1 m.b none), some (rowS QD s.2.2.2.2.2.2 s.2.2.1)], [Fact.sl Qf vm1 m.l, Fact.sl (Shape.slice SegS) s.2.2.2.2.1 s.1, Fact.sl u32S s.2.2.2.2.2.1 s.2.1]⟩) (fun nf1 s => Xz m feats nf1 s.1 s.2.1 s.2.2.1 s.2.2.2.1 = some r) fuel (bufs, written, [], (0 : Int), vbufs1, vwritten1, (.slice none 0 0)) h rfl rfl rfl rfl rfl (fun s h => by cases h) ?_
  rintro nf1 ⟨bufs1, written1, out1, n1, v1, v2, v3⟩ h
  replace h : YC m feats (Xz m feats nf1) bufs1 written1 out1 n1 = some r := h
  unfold YC at h
  refine Qe (Qe (Qb (sMv rfl rfl rfl ?_)))
  refine Qa rfl (QB rfl rfl rfl rfl Try.underlying59 (i := 1) rfl) ?_
  refine Qa rfl (Qg rfl rfl rfl rfl rfl (ZD (a := len bufs1) (b := (0 : Int)))) ?_
  refine nW [(0, some (.pointer (some ⟨b_m, 0, none⟩))), (1, some (vU64 feats)), (2, some v1), (3, some v2), (11, some v3), (12, some (vI n1)), (27, some (vB (decide ((len bufs1) > (0 : Int)))))] [some (Qd b_m 82 [vm1, vm2]), some (Qj u8S true vm2 vsm1 m.b none), some (rowS QD v3 out1)] [Fact.sl Qf vm1 m.l, Fact.sl (Shape.slice SegS) v1 bufs1, Fact.sl u32S v2 written1] [0, 1, 2, 3, 11, 12, 27] [0, 1, 2] [0, 1, 2] rfl ?_
  rcases bC (decide ((len bufs1) > (0 : Int))) with hg2 | hg2
  ·replace h := br_t hg2 h
   refine Ql (cgb hg2) ?_
   refine Qr (Qz (Qe (Qb (sMv rfl rfl rfl ?_))))
   refine sMv rfl rfl rfl ?_
   refine sMv rfl rfl rfl ?_
   refine sMv rfl rfl rfl ?_
   obtain ⟨one1, hx1, h⟩ := ob_e h
   refine Qt rfl (QW [3, 4, 2, 5] (w_netdrv_One hx1) [0, 1] [0, 1, 2] rfl rfl rfl rfl rfl callee30 rfl rfl rfl rfl rfl) ?_
   rintro _ ⟨_, _, _, ⟨v4, rfl, rfl, rfl⟩, rfl⟩
   refine sMv rfl rfl rfl ?_
   refine Qa rfl (Qs rfl rfl rfl rfl rfl) ?_
   refine Qa rfl (Qs rfl rfl rfl rfl rfl) ?_
   refine Qa rfl (Qs rfl rfl rfl rfl rfl) ?_
   refine Qq rfl (Zq rfl rfl rfl tyZ37) fun b1 => ?_
   refine Qa rfl (OpT_storeA1 (fun z0 => [vU8 one1.1.Dst.a0, vU8 one1.1.Dst.a1, vU8 one1.1.Dst.a2, vU8 one1.1.Dst.a3, vU8 one1.1.Dst.a4, vU8 one1.1.Dst.a5, vU8 one1.1.Src.a0, vU8 one1.1.Src.a1, vU8 one1.1.Src.a2, vU8 one1.1.Src.a3, vU8 one1.1.Src.a4, vU8 one1.1.Src.a5, vI one1.1.Vlan, vU16 one1.1.Type_, z0]) (cs' := [vU8 one1.1.Dst.a0, vU8 one1.1.Dst.a1, vU8 one1.1.Dst.a2, vU8 one1.1.Dst.a3, vU8 one1.1.Dst.a4, vU8 one1.1.Dst.a5, vU8 one1.1.Src.a0, vU8 one1.1.Src.a1, vU8 one1.1.Src.a2, vU8 one1.1.Src.a3, vU8 one1.1.Src.a4, vU8 one1.1.Src.a5, vI one1.1.Vlan, vU16 one1.1.Type_, v4]) rfl rfl rfl rfl Xo (i := 4) rfl (is_row (i := 3) rfl) (fun _ _ _ => rfl) rfl rfl rfl) ?_
   refine sAs rfl rfl rfl ?_
   refine sAs rfl rfl rfl ?_
   refine nW [(0, some (.pointer (some ⟨b_m, 0, none⟩))), (1, some (vU64 feats)), (2, some v1), (3, some v2), (11, some v3), (12, some (vI n1)), (13, some (.pointer (some ⟨b1, 0, none⟩))), (14, some (vI one1.2.1)), (15, some (vI one1.2.2))] [some (Qd b_m 82 [vm1, vm2]), some (Qj u8S true vm2 vsm1 m.b none), some (rowS QD v3 out1), some (rowS u8S v4 one1.1.Data), some (Qd b1 37 [vU8 one1.1.Dst.a0, vU8 one1.1.Dst.a1, vU8 one1.1.Dst.a2, vU8 one1.1.Dst.a3, vU8 one1.1.Dst.a4, vU8 one1.1.Dst.a5, vU8 one1.1.Src.a0, vU8 one1.1.Src.a1, vU8 one1.1.Src.a2, vU8 one1.1.Src.a3, vU8 one1.1.Src.a4, vU8 one1.1.Src.a5, vI one1.1.Vlan, vU16 one1.1.Type_, v4])] [Fact.sl Qf vm1 m.l, Fact.sl (Shape.slice SegS) v1 bufs1, Fact.sl u32S v2 written1] [0, 1, 2, 3, 11, 12, 13, 14, 15] [0, 1, 2, 3, 4] [0, 1, 2] rfl ?_
   refine Qe (Qe (Qb (sMv rfl rfl rfl ?_)))
   refine Qa rfl (Qg rfl rfl rfl rfl rfl (QU (a := one1.2.2) (b := (0 : Int)))) ?_
   refine nW [(0, some (.pointer (some ⟨b_m, 0, none⟩))), (1, some (vU64 feats)), (2, some v1), (3, some v2), (11, some v3), (12, some (vI n1)), (13, some (.pointer (some ⟨b1, 0, none⟩))), (14, some (vI one1.2.1)), (15, some (vI one1.2.2)), (38, some (vB (one1.2.2 != (0 : Int))))] [some (Qd b_m 82 [vm1, vm2]), some (Qj u8S true vm2 vsm1 m.b none), some (rowS QD v3 out1), some (rowS u8S v4 one1.1.Data), some (Qd b1 37 [vU8 one1.1.Dst.a0, vU8 one1.1.Dst.a1, vU8 one1.1.Dst.a2, vU8 one1.1.Dst.a3, vU8 one1.1.Dst.a4, vU8 one1.1.Dst.a5, vU8 one1.1.Src.a0, vU8 one1.1.Src.a1, vU8 one1.1.Src.a2, vU8 one1.1.Src.a3, vU8 one1.1.Src.a4, vU8 one1.1.Src.a5, vI one1.1.Vlan, vU16 one1.1.Type_, v4])] [Fact.sl Qf vm1 m.l, Fact.sl (Shape.slice SegS) v1 bufs1, Fact.sl u32S v2 written1] [0, 1, 2, 3, 11, 12, 13, 14, 15, 38] [0, 1, 2, 3, 4] [0, 1, 2] rfl ?_
   rcases bC (one1.2.2 != (0 : Int)) with hg3 | hg3
   ·replace h := br_t hg3 h
    refine Ql (cgb hg3) ?_
    refine Qe (Qb (sMv rfl rfl rfl ?_))
    refine sMv rfl rfl rfl ?_
    refine sMv rfl rfl rfl ?_
    refine sAs rfl rfl rfl ?_
    refine sAs rfl rfl rfl ?_
    refine sAs rfl rfl rfl ?_
    refine nW [(8, some v3), (9, some (vI n1)), (10, some (vI one1.2.2))] [some (Qd b_m 82 [vm1, vm2]), some (Qj u8S true vm2 vsm1 m.b none), some (rowS QD v3 out1)] [Fact.sl Qf vm1 m.l] [8, 9, 10] [0, 1, 2] [0] rfl ?_
    obtain rfl := Option.some.inj h
    exact Qn rfl rfl (resA (vs := [v3, vI n1, vI one1.2.2]) rfl ⟨rfl, rfl, rfl, trivial⟩) [0, 1, 2] [] rfl rfl rfl ⟨v3, rfl, rfl, rfl⟩
   ·replace h := br_f hg3 h
    refine Qm (cgb hg3) ?_
    refine Qr (Qe (Qb (sMv rfl rfl rfl ?_)))
    refine Qa rfl (Zx (vs := [vU8 one1.1.Dst.a0, vU8 one1.1.Dst.a1, vU8 one1.1.Dst.a2, vU8 one1.1.Dst.a3, vU8 one1.1.Dst.a4, vU8 one1.1.Dst.a5, vU8 one1.1.Src.a0, vU8 one1.1.Src.a1, vU8 one1.1.Src.a2, vU8 one1.1.Src.a3, vU8 one1.1.Src.a4, vU8 one1.1.Src.a5, vI one1.1.Vlan, vU16 one1.1.Type_, v4]) rfl rfl rfl rfl Xo (i := 4) rfl rfl rfl) ?_
    refine Zn (i := 3) rfl ?_
    refine Qq rfl (QF (S := QD) (xs := [one1.1]) (css := [[vU8 one1.1.Dst.a0, vU8 one1.1.Dst.a1, vU8 one1.1.Dst.a2, vU8 one1.1.Dst.a3, vU8 one1.1.Dst.a4, vU8 one1.1.Dst.a5, vU8 one1.1.Src.a0, vU8 one1.1.Src.a1, vU8 one1.1.Src.a2, vU8 one1.1.Src.a3, vU8 one1.1.Src.a4, vU8 one1.1.Src.a5, vI one1.1.Vlan, vU16 one1.1.Type_, v4]]) (cs := [vU8 one1.1.Dst.a0, vU8 one1.1.Dst.a1, vU8 one1.1.Dst.a2, vU8 one1.1.Dst.a3, vU8 one1.1.Dst.a4, vU8 one1.1.Dst.a5, vU8 one1.1.Src.a0, vU8 one1.1.Src.a1, vU8 one1.1.Src.a2, vU8 one1.1.Src.a3, vU8 one1.1.Src.a4, vU8 one1.1.Src.a5, vI one1.1.Vlan, vU16 one1.1.Type_, v4]) (e := 37) rfl rfl rfl rfl (bldF slF58 (by decide) (by kernel_rfl)) rfl rfl rfl rfl (rel_cons (rel_s1 (i := 3) rfl rfl rfl) (rel_nil rfl))) fun v5 => ?_
    refine Zn (i := 5) rfl ?_
    obtain ⟨hc1, h⟩ := Zi h
    refine Qq rfl (ZS rfl rfl rfl rfl rfl slF58 (i := 2) (j := 4) rfl rfl hc1) fun v6 => ?_
    refine sMv rfl rfl rfl ?_
    refine sMv rfl rfl rfl ?_
    refine Qa rfl (Qg rfl rfl rfl rfl rfl (Qx (a := n1) (b := one1.2.1))) ?_
    refine sAs rfl rfl rfl ?_
    refine sAs rfl rfl rfl ?_
    refine nW [(0, some (.pointer (some ⟨b_m, 0, none⟩))), (1, some (vU64 feats)), (2, some v1), (3, some v2), (11, some v6), (12, some (vI (wi (n1 + one1.2.1)))), (14, some (vI one1.2.1))] [some (Qd b_m 82 [vm1, vm2]), some (Qj u8S true vm2 vsm1 m.b none), some (rowS QD v6 (out1 ++ [one1.1]))] [Fact.sl Qf vm1 m.l, Fact.sl (Shape.slice SegS) v1 bufs1, Fact.sl u32S v2 written1] [0, 1, 2, 3, 11, 12, 14] [0, 1, 2] [0, 1, 2] rfl ?_
    refine Zw (by kernel_rfl) ?_
    refine TA_tb [0, 0, 3, 0, 0, 24, 7, 127] (by kernel_rfl) fun htb => ?_
    obtain ⟨hc2, h⟩ := Zi h
    obtain ⟨hc3, h⟩ := Zi h
    refine Zs (lo := 0) (hi := 7) htb rfl rfl (by kernel_rfl) (fun c L a w => ∃ (v7 : Value), ∃ (v8 : Value), Sat c ⟨[(0, some (.pointer (some ⟨b_m, 0, none⟩))), (1, some (vU64 feats)), (2, bif L 6 then some (v7) else some (v1)), (3, some v2), (11, some v6), (12, some (vI (wi (n1 + one1.2.1)))), (14, some (vI one1.2.1)), (49, bif L 0 then some (v1) else none), (50, bif L 1 then some (vI one1.2.1) else none), (51, bif L 2 then some (v7) else none), (52, bif L 3 then some (v2) else none), (53, bif L 4 then some (vI one1.2.1) else none), (54, bif L 5 then some (v8) else none)], [(some (Qd b_m 82 [vm1, vm2]) : Option Res), (some (Qj u8S true vm2 vsm1 m.b none) : Option Res), (some (rowS QD v6 (out1 ++ [one1.1])) : Option Res)], [Fact.sl Qf vm1 m.l, Fact.sl (Shape.slice SegS) v1 bufs1, Fact.sl u32S v2 written1, (bif L 2 then Fact.sl (Shape.slice SegS) v7 (sub bufs1 one1.2.1 (len bufs1)) else Fact.tt), (bif L 5 then Fact.sl u32S v8 (sub written1 one1.2.1 (len written1)) else Fact.tt)]⟩ a w) [([], [2, 6]), ([], [2, 6]), ([0, 1], [6]), ([], [5]), ([], [5]), ([3, 4], []), ([0, 1, 2], [])] rfl (by kernel_rfl) ?_ (Qc ?_ (Qc ?_ (Qc ?_ (Qc ?_ (Qc ?_ (Qc ?_ (Qc ?_ (QH)))))))) ?_
    ·intro a w hs
     exact ⟨undef, undef, hs.startF [49, 50, 51, 52, 53, 54] [0, 1, 2] [0, 1, 2, 3, 4] rfl rfl rfl rfl⟩
    ·intro L a w hv K Q hK
     obtain ⟨v7, v8, hs⟩ := hv
     exact wGo rfl rfl hs (Qk rfl rfl rfl rfl) fun a w hs => hK a w ⟨v7, v8, pF hs 7 [0, 1, 2] [0, 1, 2, 3, 4] rfl⟩
    ·intro L a w hv K Q hK
     obtain ⟨v7, v8, hs⟩ := hv
     exact wGo rfl rfl hs (Qk rfl rfl rfl rfl) fun a w hs => hK a w ⟨v7, v8, pF hs 8 [0, 1, 2] [0, 1, 2, 3, 4] rfl⟩
    ·intro L a w hv K Q hK
     obtain ⟨v7, v8, hs⟩ := hv
     refine QG rfl rfl hs (XQ (l := one1.2.1) rfl rfl rfl rfl rfl slF59 (i := 1) rfl hc2) ?_
     rintro _ ⟨v7', rfl⟩ a' w' hs'
     exact hK a' w' ⟨v7', v8, hs'.putF (i := 9) rfl [0, 1, 2] [0, 1, 2, 5, 4] rfl rfl rfl rfl⟩
    ·intro L a w hv K Q hK
     obtain ⟨v7, v8, hs⟩ := hv
     exact wGo rfl rfl hs (Qk rfl rfl rfl rfl) fun a w hs => hK a w ⟨v7, v8, pF hs 10 [0, 1, 2] [0, 1, 2, 3, 4] rfl⟩
    ·intro L a w hv K Q hK
     obtain ⟨v7, v8, hs⟩ := hv
     exact wGo rfl rfl hs (Qk rfl rfl rfl rfl) fun a w hs => hK a w ⟨v7, v8, pF hs 11 [0, 1, 2] [0, 1, 2, 3, 4] rfl⟩
    ·intro L a w hv K Q hK
     obtain ⟨v7, v8, hs⟩ := hv
     refine QG rfl rfl hs (XQ (l := one1.2.1) rfl rfl rfl rfl rfl slF62 (i := 2) rfl hc3) ?_
     rintro _ ⟨v8', rfl⟩ a' w' hs'
     exact hK a' w' ⟨v7, v8', hs'.putF (i := 12) rfl [0, 1, 2] [0, 1, 2, 3, 5] rfl rfl rfl rfl⟩
    ·intro L a w hv K Q hK
     obtain ⟨v7, v8, hs⟩ := hv
     exact wGo rfl rfl hs (Zh rfl rfl rfl rfl) fun a w hs => hK a w ⟨v7, v8, pF hs 2 [0, 1, 2] [0, 1, 2, 3, 4] rfl⟩
    ·intro L a w hL hv
     rw [QZ hL] at hv
     obtain ⟨v7, v8, hs⟩ := hv
     refine (show TA _ _ _ 7 ⟨[(0, some (.pointer (some ⟨b_m, 0, none⟩))), (1, some (vU64 feats)), (2, some v7), (11, some v6), (12, some (vI (wi (n1 + one1.2.1)))), (54, some v8)], [some (Qd b_m 82 [vm1, vm2]), some (Qj u8S true vm2 vsm1 m.b none), some (rowS QD v6 (out1 ++ [one1.1]))], [Fact.sl Qf vm1 m.l, Fact.sl (Shape.slice SegS) v7 (sub bufs1 one1.2.1 (len bufs1)), Fact.sl u32S v8 (sub written1 one1.2.1 (len written1))]⟩ from ?_) a w (hs.wkS [0, 1, 2, 11, 12, 54] [0, 1, 2] [0, 3, 4] rfl rfl rfl rfl)
     clear hs hL
     refine QL htb (by kernel_rfl) rfl rfl (Zh rfl rfl rfl rfl) ?_
     refine ZW rfl ?_
     refine tW [(0, some (.pointer (some ⟨b_m, 0, none⟩))), (1, some (vU64 feats)), (2, some v7), (11, some v6), (12, some (vI (wi (n1 + one1.2.1)))), (3, some v8)] [some (Qd b_m 82 [vm1, vm2]), some (Qj u8S true vm2 vsm1 m.b none), some (rowS QD v6 (out1 ++ [one1.1]))] [Fact.sl Qf vm1 m.l, Fact.sl (Shape.slice SegS) v7 (sub bufs1 one1.2.1 (len bufs1)), Fact.sl u32S v8 (sub written1 one1.2.1 (len written1))] [0, 1, 2, 11, 12, 3] [0, 1, 2] [0, 1, 2] rfl ?_
     refine Zk ?_
     exact QN (sub bufs1 one1.2.1 (len bufs1), sub written1 one1.2.1 (len written1), out1 ++ [one1.1], wi (n1 + one1.2.1), v7, v8, v6) h [0, 1, 2, 3, 11, 12] [0, 1, 2] [0, 1, 2] rfl rfl rfl rfl rfl
  ·replace h := br_f hg2 h
   refine Qm (cgb hg2) ?_
   refine Zf _ rfl ?_
   refine Qe (Qb (sMv rfl rfl rfl ?_))
   refine sMv rfl rfl rfl ?_
   refine sAs rfl rfl rfl ?_
   refine sAs rfl rfl rfl ?_
   refine sAs rfl rfl rfl ?_
   refine nW [(8, some v3), (9, some (vI n1)), (10, some (vI (0 : Int)))] [some (Qd b_m 82 [vm1, vm2]), some (Qj u8S true vm2 vsm1 m.b none), some (rowS QD v3 out1)] [Fact.sl Qf vm1 m.l] [8, 9, 10] [0, 1, 2] [0] rfl ?_
   obtain rfl := Option.some.inj h
   exact Qn rfl rfl (resA (vs := [v3, vI n1, vI (0 : Int)]) rfl ⟨rfl, rfl, rfl, trivial⟩) [0, 1, 2] [] rfl rfl rfl ⟨v3, rfl, rfl, rfl⟩

set_option maxRecDepth 100000 in
set_option maxHeartbeats 4000000 in
theorem w_kit_SameFrames {ap0 : List Frame} {b : List Frame} {vap01 : Value} {vb1 : Value} {r : Bool} (h : YK ap0 b = some r) :
  Ctr Try.prog 28 #[vap01, vb1] [] [Fact.sl QD vap01 ap0, Fact.sl QD vb1 b]
   (fun rv own shr => rv = vB r ∧ own = [] ∧ shr = []) := by
 unfold YK at h
 refine Ctr.mk (args := [vap01, vb1]) Try.func28 rfl rfl (fun R0 w0 B => ?_)
 refine Qe (Qb (sAs rfl rfl rfl ?_))
 refine nW [(0, some vap01), (1, some vb1)] [] [Fact.sl QD vap01 ap0, Fact.sl QD vb1 b] [0, 1] [] [0, 1] rfl ?_
 refine Qe (Qe (Qb (sMv rfl rfl rfl ?_)))
 refine Qa rfl (QB rfl rfl rfl rfl Try.underlying58 (i := 0) rfl) ?_
 refine sMv rfl rfl rfl ?_
 refine Qa rfl (QB rfl rfl rfl rfl Try.underlying58 (i := 1) rfl) ?_
 refine Qa rfl (Qg rfl rfl rfl rfl rfl (QU (a := len ap0) (b := len b))) ?_
 refine nW [(0, some vap01), (1, some vb1), (10, some (vB ((len ap0) != (len b))))] [] [Fact.sl QD vap01 ap0, Fact.sl QD vb1 b] [0, 1, 10] [] [0, 1] rfl ?_
 rcases bC ((len ap0) != (len b)) with hg1 | hg1
 ·replace h := br_t hg1 h
  refine Ql (cgb hg1) ?_
  refine Qe (Qb (sAs rfl rfl rfl ?_))
  refine nW [(4, some (vB false))] [] [] [4] [] [] rfl ?_
  obtain rfl := Option.some.inj h
  exact Qn rfl rfl (resA (vs := [vB false]) rfl ⟨rfl, trivial⟩) [] [] rfl rfl rfl ⟨rfl, rfl, rfl⟩
 ·replace h := br_f hg1 h
  refine Qm (cgb hg1) ?_
  refine Qr (Qe (Qe (Qb (sAs rfl rfl rfl ?_))))
  refine nW [(0, some vap01), (1, some vb1), (5, some (vI (0 : Int)))] [] [Fact.sl QD vap01 ap0, Fact.sl QD vb1 b] [0, 1, 5] [] [0, 1] rfl ?_
  refine Qz (Zc (σ := Int) [0, 1, 5] [] [0, 1] (fun s => ⟨[(0, some vap01), (1, some vb1), (5, some (vI s))], [], [Fact.sl QD vap01 ap0, Fact.sl QD vb1 b]⟩) (fun nf1 s => XA ap0 b nf1 s = some r) fuel (0 : Int) h rfl rfl rfl rfl rfl (fun s h => by cases h) ?_)
  rintro nf1 i1 h
  replace h : YD ap0 b (XA ap0 b nf1) i1 = some r := h
  unfold YD at h
  refine Qe (Qe (Qb (sMv rfl rfl rfl ?_)))
  refine sMv rfl rfl rfl ?_
  refine Qa rfl (QB rfl rfl rfl rfl Try.underlying58 (i := 0) rfl) ?_
  refine Qa rfl (Qg rfl rfl rfl rfl rfl (QK (a := i1) (b := len ap0))) ?_
  refine nW [(0, some vap01), (1, some vb1), (5, some (vI i1)), (14, some (vB (decide (i1 < (len ap0)))))] [] [Fact.sl QD vap01 ap0, Fact.sl QD vb1 b] [0, 1, 5, 14] [] [0, 1] rfl ?_
  rcases bC (decide (i1 < (len ap0))) with hg2 | hg2
  ·replace h := br_t hg2 h
   refine Ql (cgb hg2) ?_
   refine Qr (Qe (Qz (Qe (Zw (by kernel_rfl) ?_))))
   refine TA_tb [0, 0, 3, 7, 0, 0, 48, 112, 255, 511] (by kernel_rfl) fun htb => ?_
   refine Xy (fr' := [(0, some vap01), (1, some vb1), (5, some (vI i1))]) (own' := []) (shr' := [Fact.sl QD vap01 ap0, Fact.sl QD vb1 b]) [0, 1, 5] [] [0, 1] rfl rfl rfl rfl ?_
   obtain ⟨f1, hx1, h⟩ := ob_e h
   obtain ⟨f2, hx2, h⟩ := ob_e h
   refine Zs (lo := 0) (hi := 8) htb rfl rfl (by kernel_rfl) (fun c L a w => ∃ (p1 : Value), ∃ (v1 : Value), ∃ (p2 : Value), ∃ (v2 : Value), Sat c ⟨[(0, some vap01), (1, some vb1), (5, some (vI i1)), (17, bif L 0 then some (vap01) else none), (18, bif L 1 then some (vI i1) else none), (19, bif L 2 then some (p1) else none), (20, bif L 3 then some (.agg #[vU8 f1.Dst.a0, vU8 f1.Dst.a1, vU8 f1.Dst.a2, vU8 f1.Dst.a3, vU8 f1.Dst.a4, vU8 f1.Dst.a5, vU8 f1.Src.a0, vU8 f1.Src.a1, vU8 f1.Src.a2, vU8 f1.Src.a3, vU8 f1.Src.a4, vU8 f1.Src.a5, vI f1.Vlan, vU16 f1.Type_, v1]) else none), (21, bif L 4 then some (vb1) else none), (22, bif L 5 then some (vI i1) else none), (23, bif L 6 then some (p2) else none), (24, bif L 7 then some (.agg #[vU8 f2.Dst.a0, vU8 f2.Dst.a1, vU8 f2.Dst.a2, vU8 f2.Dst.a3, vU8 f2.Dst.a4, vU8 f2.Dst.a5, vU8 f2.Src.a0, vU8 f2.Src.a1, vU8 f2.Src.a2, vU8 f2.Src.a3, vU8 f2.Src.a4, vU8 f2.Src.a5, vI f2.Vlan, vU16 f2.Type_, v2]) else none)], [], [Fact.sl QD vap01 ap0, Fact.sl QD vb1 b, (bif L 2 then Fact.pt QD p1 f1 else Fact.tt), (bif L 3 then Fact.sl u8S v1 f1.Data else Fact.tt), (bif L 6 then Fact.pt QD p2 f2 else Fact.tt), (bif L 7 then Fact.sl u8S v2 f2.Data else Fact.tt)]⟩ a w) [([], [2, 3]), ([], [2, 3]), ([0, 1], [3]), ([0, 1, 2], []), ([], [6, 7]), ([], [6, 7]), ([4, 5], [7]), ([4, 5, 6], [])] rfl (by kernel_rfl) ?_ (Qc ?_ (Qc ?_ (Qc ?_ (Qc ?_ (Qc ?_ (Qc ?_ (Qc ?_ (Qc ?_ (QH))))))))) ?_
   ·intro a w hs
    exact ⟨undef, undef, undef, undef, hs.startF [17, 18, 19, 20, 21, 22, 23, 24] [] [0, 1, 2, 3, 4, 5] rfl rfl rfl rfl⟩
   ·intro L a w hv K Q hK
    obtain ⟨p1, v1, p2, v2, hs⟩ := hv
    exact wGo rfl rfl hs (Qk rfl rfl rfl rfl) fun a w hs => hK a w ⟨p1, v1, p2, v2, pF hs 3 [] [0, 1, 2, 3, 4, 5] rfl⟩
   ·intro L a w hv K Q hK
    obtain ⟨p1, v1, p2, v2, hs⟩ := hv
    exact wGo rfl rfl hs (Qk rfl rfl rfl rfl) fun a w hs => hK a w ⟨p1, v1, p2, v2, pF hs 4 [] [0, 1, 2, 3, 4, 5] rfl⟩
   ·intro L a w hv K Q hK
    obtain ⟨p1, v1, p2, v2, hs⟩ := hv
    refine QG rfl rfl hs (QA rfl rfl rfl rfl rfl slF58 (i := 0) rfl hx1) ?_
    rintro _ ⟨p1', rfl⟩ a' w' hs'
    exact hK a' w' ⟨p1', v1, p2, v2, hs'.putF (i := 5) rfl [] [0, 1, 6, 3, 4, 5] rfl rfl rfl rfl⟩
   ·intro L a w hv K Q hK
    obtain ⟨p1, v1, p2, v2, hs⟩ := hv
    refine QG rfl rfl hs (OpT_loadP1 rfl rfl rfl rfl Xo (i := 2) rfl) ?_
    rintro _ ⟨v1', rfl⟩ a' w' hs'
    exact hK a' w' ⟨p1, v1', p2, v2, hs'.putF (i := 6) rfl [] [0, 1, 2, 6, 4, 5] rfl rfl rfl rfl⟩
   ·intro L a w hv K Q hK
    obtain ⟨p1, v1, p2, v2, hs⟩ := hv
    exact wGo rfl rfl hs (Qk rfl rfl rfl rfl) fun a w hs => hK a w ⟨p1, v1, p2, v2, pF hs 7 [] [0, 1, 2, 3, 4, 5] rfl⟩
   ·intro L a w hv K Q hK
    obtain ⟨p1, v1, p2, v2, hs⟩ := hv
    exact wGo rfl rfl hs (Qk rfl rfl rfl rfl) fun a w hs => hK a w ⟨p1, v1, p2, v2, pF hs 8 [] [0, 1, 2, 3, 4, 5] rfl⟩
   ·intro L a w hv K Q hK
    obtain ⟨p1, v1, p2, v2, hs⟩ := hv
    refine QG rfl rfl hs (QA rfl rfl rfl rfl rfl slF58 (i := 1) rfl hx2) ?_
    rintro _ ⟨p2', rfl⟩ a' w' hs'
    exact hK a' w' ⟨p1, v1, p2', v2, hs'.putF (i := 9) rfl [] [0, 1, 2, 3, 6, 5] rfl rfl rfl rfl⟩
   ·intro L a w hv K Q hK
    obtain ⟨p1, v1, p2, v2, hs⟩ := hv
    refine QG rfl rfl hs (OpT_loadP1 rfl rfl rfl rfl Xo (i := 4) rfl) ?_
    rintro _ ⟨v2', rfl⟩ a' w' hs'
    exact hK a' w' ⟨p1, v1, p2, v2', hs'.putF (i := 10) rfl [] [0, 1, 2, 3, 4, 6] rfl rfl rfl rfl⟩
   ·intro L a w hL hv
    rw [QZ hL] at hv
    obtain ⟨p1, v1, p2, v2, hs⟩ := hv
    refine (show TA _ _ _ 8 ⟨[(0, some vap01), (1, some vb1), (5, some (vI i1)), (20, some (.agg #[vU8 f1.Dst.a0, vU8 f1.Dst.a1, vU8 f1.Dst.a2, vU8 f1.Dst.a3, vU8 f1.Dst.a4, vU8 f1.Dst.a5, vU8 f1.Src.a0, vU8 f1.Src.a1, vU8 f1.Src.a2, vU8 f1.Src.a3, vU8 f1.Src.a4, vU8 f1.Src.a5, vI f1.Vlan, vU16 f1.Type_, v1])), (24, some (.agg #[vU8 f2.Dst.a0, vU8 f2.Dst.a1, vU8 f2.Dst.a2, vU8 f2.Dst.a3, vU8 f2.Dst.a4, vU8 f2.Dst.a5, vU8 f2.Src.a0, vU8 f2.Src.a1, vU8 f2.Src.a2, vU8 f2.Src.a3, vU8 f2.Src.a4, vU8 f2.Src.a5, vI f2.Vlan, vU16 f2.Type_, v2]))], [], [Fact.sl QD vap01 ap0, Fact.sl QD vb1 b, Fact.sl u8S v1 f1.Data, Fact.sl u8S v2 f2.Data]⟩ from ?_) a w (hs.wkS [0, 1, 5, 20, 24] [] [0, 1, 3, 5] rfl rfl rfl rfl)
    clear hs hL
    obtain ⟨frame1, hx3, h⟩ := ob_e h
    refine TA_exP htb (by kernel_rfl) rfl rfl (QO (w_kit_Frame hx3) [] [2, 3] rfl rfl rfl rfl rfl callee19 rfl rfl rfl rfl) ?_
    rintro _ ⟨_, _, _, ⟨rfl, rfl, rfl⟩, rfl⟩
    refine QL htb (by kernel_rfl) rfl rfl (OpT_not rfl rfl rfl rfl) ?_
    refine ZW rfl ?_
    refine tW [(0, some vap01), (1, some vb1), (5, some (vI i1)), (26, some (vB (!frame1)))] [] [Fact.sl QD vap01 ap0, Fact.sl QD vb1 b] [0, 1, 5, 26] [] [0, 1] rfl ?_
    rcases bC ((!frame1)) with hg3 | hg3
    ·replace h := br_t hg3 h
     refine Ql (cgb hg3) ?_
     refine Qe (Qb (sAs rfl rfl rfl ?_))
     refine nW [(4, some (vB false))] [] [] [4] [] [] rfl ?_
     obtain rfl := Option.some.inj h
     exact Qn rfl rfl (resA (vs := [vB false]) rfl ⟨rfl, trivial⟩) [] [] rfl rfl rfl ⟨rfl, rfl, rfl⟩
    ·replace h := br_f hg3 h
     refine Qm (cgb hg3) ?_
     refine Qr (Zk (Qb (sMv rfl rfl rfl ?_)))
     refine Qa rfl (Qg rfl rfl rfl rfl rfl (Qx (a := i1) (b := (1 : Int)))) ?_
     refine sAs rfl rfl rfl ?_
     refine nW [(0, some vap01), (1, some vb1), (5, some (vI (wi (i1 + (1 : Int)))))] [] [Fact.sl QD vap01 ap0, Fact.sl QD vb1 b] [0, 1, 5] [] [0, 1] rfl ?_
     exact QN (wi (i1 + (1 : Int))) h [0, 1, 5] [] [0, 1] rfl rfl rfl rfl rfl
  ·replace h := br_f hg2 h
   refine Qm (cgb hg2) ?_
   refine Zf _ rfl ?_
   refine Qe (Qb (sAs rfl rfl rfl ?_))
   refine nW [(4, some (vB true))] [] [] [4] [] [] rfl ?_
   obtain rfl := Option.some.inj h
   exact Qn rfl rfl (resA (vs := [vB true]) rfl ⟨rfl, trivial⟩) [] [] rfl rfl rfl ⟨rfl, rfl, rfl⟩

end Go.Proofs.Ytgcbcnpbnonnjaa
