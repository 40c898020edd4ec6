/- The law NetdrvBack is walked: it returns what its plain words say. No condition. -/
import Derived.Test.YtgcbcnpbnonnjaaWa6
namespace Go.Proofs.Ytgcbcnpbnonnjaa
attribute [local irreducible] sub

set_option maxRecDepth 100000 in
set_option maxHeartbeats 4000000 in
theorem w_law26zNetdrvBack {l : List Frame} {sizes : List Int} {cuts : List Int} {feats : UInt64} {vl1 : Value} {vsizes1 : Value} {vcuts1 : Value}  (h : YR l sizes cuts feats = some true) :
  Ctr Try.prog 5 #[vl1, vsizes1, vcuts1, vU64 feats] [] [Fact.sl QD vl1 l, Fact.sl iS vsizes1 sizes, Fact.sl iS vcuts1 cuts]
   (fun rv own shr => rv = .bool true ∧ own = [] ∧ shr = []) := by
 unfold YR at h
 refine Ctr.mk (args := [vl1, vsizes1, vcuts1, vU64 feats]) Try.func5 rfl rfl (fun R0 w0 B => ?_)
 refine Qe (Qb (sAs rfl rfl rfl ?_))
 refine nW [(0, some vl1), (1, some vsizes1), (2, some vcuts1), (3, some (vU64 feats))] [] [Fact.sl QD vl1 l, Fact.sl iS vsizes1 sizes, Fact.sl iS vcuts1 cuts] [0, 1, 2, 3] [] [0, 1, 2] rfl ?_
 refine Qe (Qe (Qb ?_))
 obtain ⟨lives1, hx1, h⟩ := ob_e h
 refine Qt rfl (QO (w_law26zlives hx1) [] [] rfl rfl rfl rfl rfl callee7 rfl rfl rfl rfl) ?_
 rintro _ ⟨_, _, _, ⟨rfl, rfl, rfl⟩, rfl⟩
 refine Qa rfl (OpT_not rfl rfl rfl rfl) ?_
 refine nW [(0, some vl1), (1, some vsizes1), (2, some vcuts1), (3, some (vU64 feats)), (28, some (vB (!lives1)))] [] [Fact.sl QD vl1 l, Fact.sl iS vsizes1 sizes, Fact.sl iS vcuts1 cuts] [0, 1, 2, 3, 28] [] [0, 1, 2] rfl ?_
 obtain ⟨hg1, h⟩ := Zi h
 replace hg1 := not_t hg1
 refine Qm (cgb hg1) ?_
 refine Qr (Qe (Qe (Qb (sMv rfl rfl rfl ?_))))
 refine Qa rfl (QB rfl rfl rfl rfl Try.underlying58 (i := 0) rfl) ?_
 refine Qa rfl (Qg rfl rfl rfl rfl rfl (ZD (a := len l) (b := (20 : Int)))) ?_
 refine sMv rfl rfl rfl ?_
 rcases bC (decide ((len l) > (20 : Int))) with hg2 | hg2
 ·replace h := br_t hg2 h
  refine Qh rfl rfl (cgb hg2) rfl rfl ?_
  refine Qh rfl rfl (cgb hg2) rfl rfl ?_
  refine Qh rfl rfl (cgb hg2) rfl rfl ?_
  refine Qa rfl (Qw rfl rfl rfl (cgb hg2) rfl) ?_
  refine sMv rfl rfl rfl ?_
  refine Qh rfl rfl rfl rfl rfl ?_
  refine Qh rfl rfl rfl rfl rfl ?_
  refine Qh rfl rfl rfl rfl rfl ?_
  refine Qa rfl (Qw rfl rfl rfl rfl rfl) ?_
  refine nW [(0, some vl1), (1, some vsizes1), (2, some vcuts1), (3, some (vU64 feats)), (41, some (vB true))] [] [Fact.sl QD vl1 l, Fact.sl iS vsizes1 sizes, Fact.sl iS vcuts1 cuts] [0, 1, 2, 3, 41] [] [0, 1, 2] rfl ?_
  refine Ql rfl ?_
  refine Qe (Qb (sAs rfl rfl rfl ?_))
  refine nW [(8, some (vB true))] [] [] [8] [] [] rfl ?_
  exact Qn rfl rfl (resA (vs := [.bool true]) rfl ⟨rfl, trivial⟩) [] [] rfl rfl rfl ⟨rfl, rfl, rfl⟩
 ·replace h := br_f hg2 h
  refine Qi rfl rfl (cgb hg2) (Qk rfl rfl rfl rfl) ?_
  rintro _ rfl
  refine Qi rfl rfl (cgb hg2) (QB rfl rfl rfl rfl Try.underlying23 (i := 1) rfl) ?_
  rintro _ rfl
  refine Qi rfl rfl (cgb hg2) (Qg rfl rfl rfl rfl rfl (ZD (a := len sizes) (b := (20 : Int)))) ?_
  rintro _ rfl
  refine Qa rfl (Qu rfl rfl rfl (cgb hg2) rfl) ?_
  refine sMv rfl rfl rfl ?_
  rcases bC (decide ((len sizes) > (20 : Int))) with hg3 | hg3
  ·replace h := br_t hg3 h
   refine Qh rfl rfl (cgb hg3) rfl rfl ?_
   refine Qh rfl rfl (cgb hg3) rfl rfl ?_
   refine Qh rfl rfl (cgb hg3) rfl rfl ?_
   refine Qa rfl (Qw rfl rfl rfl (cgb hg3) rfl) ?_
   refine nW [(0, some vl1), (1, some vsizes1), (2, some vcuts1), (3, some (vU64 feats)), (41, some (vB true))] [] [Fact.sl QD vl1 l, Fact.sl iS vsizes1 sizes, Fact.sl iS vcuts1 cuts] [0, 1, 2, 3, 41] [] [0, 1, 2] rfl ?_
   refine Ql rfl ?_
   refine Qe (Qb (sAs rfl rfl rfl ?_))
   refine nW [(8, some (vB true))] [] [] [8] [] [] rfl ?_
   exact Qn rfl rfl (resA (vs := [.bool true]) rfl ⟨rfl, trivial⟩) [] [] rfl rfl rfl ⟨rfl, rfl, rfl⟩
  ·replace h := br_f hg3 h
   refine Qi rfl rfl (cgb hg3) (Qk rfl rfl rfl rfl) ?_
   rintro _ rfl
   refine Qi rfl rfl (cgb hg3) (QB rfl rfl rfl rfl Try.underlying23 (i := 2) rfl) ?_
   rintro _ rfl
   refine Qi rfl rfl (cgb hg3) (Qg rfl rfl rfl rfl rfl (ZD (a := len cuts) (b := (40 : Int)))) ?_
   rintro _ rfl
   refine Qa rfl (Qu rfl rfl rfl (cgb hg3) rfl) ?_
   refine nW [(0, some vl1), (1, some vsizes1), (2, some vcuts1), (3, some (vU64 feats)), (41, some (vB (decide ((len cuts) > (40 : Int)))))] [] [Fact.sl QD vl1 l, Fact.sl iS vsizes1 sizes, Fact.sl iS vcuts1 cuts] [0, 1, 2, 3, 41] [] [0, 1, 2] rfl ?_
   rcases bC (decide ((len cuts) > (40 : Int))) with hg4 | hg4
   ·replace h := br_t hg4 h
    refine Ql (cgb hg4) ?_
    refine Qe (Qb (sAs rfl rfl rfl ?_))
    refine nW [(8, some (vB true))] [] [] [8] [] [] rfl ?_
    exact Qn rfl rfl (resA (vs := [.bool true]) rfl ⟨rfl, trivial⟩) [] [] rfl rfl rfl ⟨rfl, rfl, rfl⟩
   ·replace h := br_f hg4 h
    refine Qm (cgb hg4) ?_
    refine Qr (Qe (Qb ?_))
    obtain ⟨memory1, hx2, h⟩ := ob_e h
    refine Qt rfl (QO (w_law26zmemory hx2) [] [] rfl rfl rfl rfl rfl callee12 rfl rfl rfl rfl) ?_
    rintro _ ⟨v1, _, _, ⟨_, rfl, rfl, rfl⟩, rfl⟩
    refine Zn (i := 0) rfl ?_
    obtain ⟨new1, hx3, h⟩ := ob_e h
    refine Qt rfl (QO (w_ref_New02 hx3) [] [3] rfl rfl rfl rfl rfl callee13 rfl rfl rfl rfl) ?_
    rintro _ ⟨_, _, _, ⟨v2, rfl, rfl, rfl⟩, rfl⟩
    refine sMv rfl rfl rfl ?_
    refine Qa rfl (Qs rfl rfl rfl rfl rfl) ?_
    refine Qa rfl (Qs rfl rfl rfl rfl rfl) ?_
    refine sAs rfl rfl rfl ?_
    refine sAs rfl rfl rfl ?_
    refine nW [(0, some vl1), (1, some vsizes1), (2, some vcuts1), (3, some (vU64 feats)), (9, some v2), (10, some (vI new1.2))] [some (optR 84 Qf u8S false dumbwaiterref02_Mem.L dumbwaiterref02_Mem.B v2 new1.1)] [Fact.sl QD vl1 l, Fact.sl iS vsizes1 sizes, Fact.sl iS vcuts1 cuts] [0, 1, 2, 3, 9, 10] [1] [0, 1, 2] rfl ?_
    rcases onO_cases h with ⟨ho1, h⟩ | ⟨mem1, ho1, h⟩
    ·cases h
    ·refine Tk_optS (i := 0) rfl ho1 ?_
     rintro b1 v3 v4 vs1 rfl
     refine Qe (Qb ?_)
     obtain ⟨memory2, hx4, h⟩ := ob_e h
     refine Qt rfl (QO (w_law26zmemory hx4) [] [] rfl rfl rfl rfl rfl callee12 rfl rfl rfl rfl) ?_
     rintro _ ⟨v5, _, _, ⟨_, rfl, rfl, rfl⟩, rfl⟩
     refine Zn (i := 2) rfl ?_
     obtain ⟨new2, hx5, h⟩ := ob_e h
     refine Qt rfl (QO (w_gmem_New hx5) [] [4] rfl rfl rfl rfl rfl callee11 rfl rfl rfl rfl) ?_
     rintro _ ⟨_, _, _, ⟨v6, rfl, rfl, rfl⟩, rfl⟩
     refine sMv rfl rfl rfl ?_
     refine Qa rfl (Qs rfl rfl rfl rfl rfl) ?_
     refine Qa rfl (Qs rfl rfl rfl rfl rfl) ?_
     refine sAs rfl rfl rfl ?_
     refine sAs rfl rfl rfl ?_
     refine nW [(0, some vl1), (1, some vsizes1), (2, some vcuts1), (3, some (vU64 feats)), (9, some (.pointer (some ⟨b1, 0, none⟩))), (10, some (vI new1.2)), (11, some v6), (12, some (vI new2.2))] [some (Qd b1 84 [v3, v4]), some (Qj u8S false v4 vs1 mem1.B none), some (optR 82 Qf u8S true gmem_Mem.l gmem_Mem.b v6 new2.1)] [Fact.sl QD vl1 l, Fact.sl iS vsizes1 sizes, Fact.sl iS vcuts1 cuts, Fact.sl Qf v3 mem1.L] [0, 1, 2, 3, 9, 10, 11, 12] [0, 1, 3] [0, 1, 2, 3] rfl ?_
     rcases onO_cases h with ⟨ho2, h⟩ | ⟨mem2, ho2, h⟩
     ·cases h
     ·refine Tk_optS (i := 2) rfl ho2 ?_
      rintro b2 v7 v8 vs2 rfl
      refine Qe (Qe (Qb (sMv rfl rfl rfl ?_)))
      refine Qa rfl (Qg rfl rfl rfl rfl rfl (QU (a := new1.2) (b := (0 : Int)))) ?_
      refine sMv rfl rfl rfl ?_
      obtain ⟨hg5, h⟩ := Zi h
      replace hg5 := not_t hg5
      refine Qi rfl rfl (cgb hg5) (Qk rfl rfl rfl rfl) ?_
      rintro _ rfl
      refine Qi rfl rfl (cgb hg5) (Qg rfl rfl rfl rfl rfl (QU (a := new2.2) (b := (0 : Int)))) ?_
      rintro _ rfl
      refine Qa rfl (Qu rfl rfl rfl (cgb hg5) rfl) ?_
      refine nW [(0, some vl1), (1, some vsizes1), (2, some vcuts1), (3, some (vU64 feats)), (9, some (.pointer (some ⟨b1, 0, none⟩))), (11, some (.pointer (some ⟨b2, 0, none⟩))), (57, some (vB (new2.2 != (0 : Int))))] [some (Qd b1 84 [v3, v4]), some (Qj u8S false v4 vs1 mem1.B none), some (Qd b2 82 [v7, v8]), some (Qj u8S true v8 vs2 mem2.b none)] [Fact.sl QD vl1 l, Fact.sl iS vsizes1 sizes, Fact.sl iS vcuts1 cuts, Fact.sl Qf v3 mem1.L, Fact.sl Qf v7 mem2.l] [0, 1, 2, 3, 9, 11, 57] [0, 1, 2, 3] [0, 1, 2, 3, 4] rfl ?_
      obtain ⟨hg6, h⟩ := Zi h
      replace hg6 := not_t hg6
      refine Qm (cgb hg6) ?_
      refine Qr (Qe (Qb (sAs rfl rfl rfl ?_)))
      refine nW [(0, some vl1), (1, some vsizes1), (2, some vcuts1), (3, some (vU64 feats)), (9, some (.pointer (some ⟨b1, 0, none⟩))), (11, some (.pointer (some ⟨b2, 0, none⟩))), (13, some (.slice none 0 0))] [some (Qd b1 84 [v3, v4]), some (Qj u8S false v4 vs1 mem1.B none), some (Qd b2 82 [v7, v8]), some (Qj u8S true v8 vs2 mem2.b none)] [Fact.sl QD vl1 l, Fact.sl iS vsizes1 sizes, Fact.sl iS vcuts1 cuts, Fact.sl Qf v3 mem1.L, Fact.sl Qf v7 mem2.l] [0, 1, 2, 3, 9, 11, 13] [0, 1, 2, 3] [0, 1, 2, 3, 4] rfl ?_
      refine Qe (Qb (sAs rfl rfl rfl ?_))
      refine QT (Qe (Qe (Qb (sAs rfl rfl rfl ?_))))
      refine QT (Qz (QI (Shape.slice SegS) ?_))
      refine Zc (σ := (List (List Seg)) × UInt64 × Int × Value) [0, 1, 2, 3, 9, 11, 13, 14, 15] [0, 1, 2, 3, 4] [0, 1, 2, 3, 4] (fun s => ⟨[(0, some vl1), (1, some vsizes1), (2, some vcuts1), (3, some (vU64 feats)), (9, some (.pointer (some ⟨b1, 0, none⟩))), (11, some (.pointer (some ⟨b2, 0, none⟩))), (13, some (s.2.2.2)), (14, some (vU64 s.2.1)), (15, some (vI s.2.2.1))], [some (Qd b1 84 [v3, v4]), some (Qj u8S false v4 vs1 mem1.B none), some (Qd b2 82 [v7, v8]), some (Qj u8S true v8 vs2 mem2.b none), some (rowS (Shape.slice SegS) s.2.2.2 s.1)], [Fact.sl QD vl1 l, Fact.sl iS vsizes1 sizes, Fact.sl iS vcuts1 cuts, Fact.sl Qf v3 mem1.L, Fact.sl Qf v7 mem2.l]⟩) (fun nf1 s => ZZ l sizes cuts feats mem1 mem2 nf1 s.1 s.2.1 s.2.2.1 = some true) fuel ([], (0 : UInt64), (0 : Int), (.slice none 0 0)) h rfl rfl rfl rfl rfl (fun s h => by cases h) ?_
      rintro nf1 ⟨posted1, at1, i1, v9⟩ h
      replace h : XY l sizes cuts feats mem1 mem2 (ZZ l sizes cuts feats mem1 mem2 nf1) posted1 at1 i1 = some true := h
      unfold XY at h
      refine Qe (Qe (Qb (sMv rfl rfl rfl ?_)))
      refine sMv rfl rfl rfl ?_
      refine Qa rfl (QB rfl rfl rfl rfl Try.underlying23 (i := 1) rfl) ?_
      refine Qa rfl (Qg rfl rfl rfl rfl rfl (QK (a := i1) (b := len sizes))) ?_
      refine nW [(0, some vl1), (1, some vsizes1), (2, some vcuts1), (3, some (vU64 feats)), (9, some (.pointer (some ⟨b1, 0, none⟩))), (11, some (.pointer (some ⟨b2, 0, none⟩))), (13, some v9), (14, some (vU64 at1)), (15, some (vI i1)), (61, some (vB (decide (i1 < (len sizes)))))] [some (Qd b1 84 [v3, v4]), some (Qj u8S false v4 vs1 mem1.B none), some (Qd b2 82 [v7, v8]), some (Qj u8S true v8 vs2 mem2.b none), some (rowS (Shape.slice SegS) v9 posted1)] [Fact.sl QD vl1 l, Fact.sl iS vsizes1 sizes, Fact.sl iS vcuts1 cuts, Fact.sl Qf v3 mem1.L, Fact.sl Qf v7 mem2.l] [0, 1, 2, 3, 9, 11, 13, 14, 15, 61] [0, 1, 2, 3, 4] [0, 1, 2, 3, 4] rfl ?_
      rcases bC (decide (i1 < (len sizes))) with hg7 | hg7
      ·replace h := br_t hg7 h
       refine Ql (cgb hg7) ?_
       refine Qr (Qe (Qz (Qe (Qb (sMv rfl rfl rfl ?_)))))
       refine sMv rfl rfl rfl ?_
       obtain ⟨y1, hx6, h⟩ := ob_e h
       refine Qq rfl (QA rfl rfl rfl rfl rfl slF23 (i := 1) rfl hx6) fun p1 => ?_
       refine Qa rfl (QC rfl rfl rfl rfl tyF3 (i := 5) rfl rfl) ?_
       obtain ⟨pick1, hx7, h⟩ := ob_e h
       refine Qt rfl (QO (w_kit_Pick hx7) [] [] rfl rfl rfl rfl rfl callee14 rfl rfl rfl rfl) ?_
       rintro _ ⟨_, _, _, ⟨rfl, rfl, rfl⟩, rfl⟩
       refine Qa rfl (Qg rfl rfl rfl rfl rfl (Qx (a := (1 : Int)) (b := pick1))) ?_
       refine sAs rfl rfl rfl ?_
       refine nW [(0, some vl1), (1, some vsizes1), (2, some vcuts1), (3, some (vU64 feats)), (9, some (.pointer (some ⟨b1, 0, none⟩))), (11, some (.pointer (some ⟨b2, 0, none⟩))), (13, some v9), (14, some (vU64 at1)), (15, some (vI i1)), (16, some (vI (wi ((1 : Int) + pick1))))] [some (Qd b1 84 [v3, v4]), some (Qj u8S false v4 vs1 mem1.B none), some (Qd b2 82 [v7, v8]), some (Qj u8S true v8 vs2 mem2.b none), some (rowS (Shape.slice SegS) v9 posted1)] [Fact.sl QD vl1 l, Fact.sl iS vsizes1 sizes, Fact.sl iS vcuts1 cuts, Fact.sl Qf v3 mem1.L, Fact.sl Qf v7 mem2.l] [0, 1, 2, 3, 9, 11, 13, 14, 15, 16] [0, 1, 2, 3, 4] [0, 1, 2, 3, 4] rfl ?_
       refine Qe (Qb (sMv rfl rfl rfl ?_))
       refine sMv rfl rfl rfl ?_
       refine sMv rfl rfl rfl ?_
       obtain ⟨post1, hx8, h⟩ := ob_e h
       refine Qt rfl (QO (w_netdrv_Post hx8) [] [2] rfl rfl rfl rfl rfl callee8 rfl rfl rfl rfl) ?_
       rintro _ ⟨v10, _, _, ⟨_, rfl, rfl, rfl⟩, rfl⟩
       refine sAs rfl rfl rfl ?_
       refine nW [(0, some vl1), (1, some vsizes1), (2, some vcuts1), (3, some (vU64 feats)), (9, some (.pointer (some ⟨b1, 0, none⟩))), (11, some (.pointer (some ⟨b2, 0, none⟩))), (13, some v9), (14, some (vU64 at1)), (15, some (vI i1)), (16, some (vI (wi ((1 : Int) + pick1)))), (17, some v10)] [some (Qd b1 84 [v3, v4]), some (Qj u8S false v4 vs1 mem1.B none), some (Qd b2 82 [v7, v8]), some (Qj u8S true v8 vs2 mem2.b none), some (rowS (Shape.slice SegS) v9 posted1), some (rowS SegS v10 post1)] [Fact.sl QD vl1 l, Fact.sl iS vsizes1 sizes, Fact.sl iS vcuts1 cuts, Fact.sl Qf v3 mem1.L, Fact.sl Qf v7 mem2.l] [0, 1, 2, 3, 9, 11, 13, 14, 15, 16, 17] [0, 1, 2, 3, 4, 5] [0, 1, 2, 3, 4] rfl ?_
       refine Qe (Qe (Qb (sMv rfl rfl rfl ?_)))
       obtain ⟨total1, hx9, h⟩ := ob_e h
       refine Qt rfl (Zj [5] [0, 1, 2, 3, 4, 5] (w_ref_Total05 hx9) [] rfl rfl rfl rfl rfl callee22 rfl rfl rfl rfl rfl rfl (QV (ZO 5 rfl rfl) Xe) (by rintro _ _ _ ⟨rfl, rfl, rfl⟩; exact ⟨rfl, Ye⟩)) ?_
       rintro _ ⟨_, _, _, ⟨rfl, rfl, rfl⟩, rfl⟩
       refine sMv rfl rfl rfl ?_
       refine Qa rfl (Qs rfl rfl rfl rfl rfl) ?_
       refine Qa rfl (Qs rfl rfl rfl rfl rfl) ?_
       refine sAs rfl rfl rfl ?_
       refine sAs rfl rfl rfl ?_
       refine nW [(0, some vl1), (1, some vsizes1), (2, some vcuts1), (3, some (vU64 feats)), (9, some (.pointer (some ⟨b1, 0, none⟩))), (11, some (.pointer (some ⟨b2, 0, none⟩))), (13, some v9), (14, some (vU64 at1)), (15, some (vI i1)), (16, some (vI (wi ((1 : Int) + pick1)))), (17, some v10), (19, some (vU64 total1.2))] [some (Qd b1 84 [v3, v4]), some (Qj u8S false v4 vs1 mem1.B none), some (Qd b2 82 [v7, v8]), some (Qj u8S true v8 vs2 mem2.b none), some (rowS (Shape.slice SegS) v9 posted1), some (rowS SegS v10 post1)] [Fact.sl QD vl1 l, Fact.sl iS vsizes1 sizes, Fact.sl iS vcuts1 cuts, Fact.sl Qf v3 mem1.L, Fact.sl Qf v7 mem2.l] [0, 1, 2, 3, 9, 11, 13, 14, 15, 16, 17, 19] [0, 1, 2, 3, 4, 5] [0, 1, 2, 3, 4] rfl ?_
       refine Qe (Qb (sMv rfl rfl rfl ?_))
       refine sMv rfl rfl rfl ?_
       refine Qa rfl (QM rfl rfl rfl rfl (Yq (n := wi ((1 : Int) + pick1)) Try.underlying3 Try.underlying22)) ?_
       refine Qa rfl (Qg rfl rfl rfl rfl rfl (bin_neq_u64 (a := total1.2) (b := u64 (wi ((1 : Int) + pick1))))) ?_
       refine nW [(0, some vl1), (1, some vsizes1), (2, some vcuts1), (3, some (vU64 feats)), (9, some (.pointer (some ⟨b1, 0, none⟩))), (11, some (.pointer (some ⟨b2, 0, none⟩))), (13, some v9), (14, some (vU64 at1)), (15, some (vI i1)), (16, some (vI (wi ((1 : Int) + pick1)))), (17, some v10), (82, some (vB (total1.2 != (u64 (wi ((1 : Int) + pick1))))))] [some (Qd b1 84 [v3, v4]), some (Qj u8S false v4 vs1 mem1.B none), some (Qd b2 82 [v7, v8]), some (Qj u8S true v8 vs2 mem2.b none), some (rowS (Shape.slice SegS) v9 posted1), some (rowS SegS v10 post1)] [Fact.sl QD vl1 l, Fact.sl iS vsizes1 sizes, Fact.sl iS vcuts1 cuts, Fact.sl Qf v3 mem1.L, Fact.sl Qf v7 mem2.l] [0, 1, 2, 3, 9, 11, 13, 14, 15, 16, 17, 82] [0, 1, 2, 3, 4, 5] [0, 1, 2, 3, 4] rfl ?_
       obtain ⟨hg8, h⟩ := Zi h
       replace hg8 := not_t hg8
       refine Qm (cgb hg8) ?_
       refine Qr (Qe (Qb (sMv rfl rfl rfl ?_)))
       refine sMv rfl rfl rfl ?_
       refine Zn (i := 5) rfl ?_
       refine Qq rfl (YV (Shape.slice SegS) (vs := [v10]) (xs := [post1]) rfl rfl rfl rfl rfl slF59 (isl_cons (is_sl (i := 5) rfl) isl_nil) rfl rfl rfl (rel_cons (rel_sl (i := 5) rfl) (rel_nil rfl))) fun v11 => ?_
       refine Zn (i := 6) rfl ?_
       obtain ⟨hc1, h⟩ := Zi h
       refine Qq rfl (ZS rfl rfl rfl rfl rfl slF59 (i := 4) (j := 6) rfl rfl hc1) fun v12 => ?_
       refine sAs rfl rfl rfl ?_
       refine nW [(0, some vl1), (1, some vsizes1), (2, some vcuts1), (3, some (vU64 feats)), (9, some (.pointer (some ⟨b1, 0, none⟩))), (11, some (.pointer (some ⟨b2, 0, none⟩))), (13, some v12), (14, some (vU64 at1)), (15, some (vI i1)), (16, some (vI (wi ((1 : Int) + pick1))))] [some (Qd b1 84 [v3, v4]), some (Qj u8S false v4 vs1 mem1.B none), some (Qd b2 82 [v7, v8]), some (Qj u8S true v8 vs2 mem2.b none), some (rowS (Shape.slice SegS) v12 (posted1 ++ [post1]))] [Fact.sl QD vl1 l, Fact.sl iS vsizes1 sizes, Fact.sl iS vcuts1 cuts, Fact.sl Qf v3 mem1.L, Fact.sl Qf v7 mem2.l] [0, 1, 2, 3, 9, 11, 13, 14, 15, 16] [0, 1, 2, 3, 4] [0, 1, 2, 3, 4] rfl ?_
       refine Qb (sMv rfl rfl rfl ?_)
       refine sMv rfl rfl rfl ?_
       refine Qa rfl (QM rfl rfl rfl rfl (Yq (n := wi ((1 : Int) + pick1)) Try.underlying3 Try.underlying22)) ?_
       refine Qa rfl (Qg rfl rfl rfl rfl rfl (Zb (a := at1) (b := u64 (wi ((1 : Int) + pick1))))) ?_
       refine sAs rfl rfl rfl ?_
       refine nW [(0, some vl1), (1, some vsizes1), (2, some vcuts1), (3, some (vU64 feats)), (9, some (.pointer (some ⟨b1, 0, none⟩))), (11, some (.pointer (some ⟨b2, 0, none⟩))), (13, some v12), (14, some (vU64 (at1 + (u64 (wi ((1 : Int) + pick1)))))), (15, some (vI i1))] [some (Qd b1 84 [v3, v4]), some (Qj u8S false v4 vs1 mem1.B none), some (Qd b2 82 [v7, v8]), some (Qj u8S true v8 vs2 mem2.b none), some (rowS (Shape.slice SegS) v12 (posted1 ++ [post1]))] [Fact.sl QD vl1 l, Fact.sl iS vsizes1 sizes, Fact.sl iS vcuts1 cuts, Fact.sl Qf v3 mem1.L, Fact.sl Qf v7 mem2.l] [0, 1, 2, 3, 9, 11, 13, 14, 15] [0, 1, 2, 3, 4] [0, 1, 2, 3, 4] rfl ?_
       refine Zk (Qb (sMv rfl rfl rfl ?_))
       refine Qa rfl (Qg rfl rfl rfl rfl rfl (Qx (a := i1) (b := (1 : Int)))) ?_
       refine sAs rfl rfl rfl ?_
       refine nW [(0, some vl1), (1, some vsizes1), (2, some vcuts1), (3, some (vU64 feats)), (9, some (.pointer (some ⟨b1, 0, none⟩))), (11, some (.pointer (some ⟨b2, 0, none⟩))), (13, some v12), (14, some (vU64 (at1 + (u64 (wi ((1 : Int) + pick1)))))), (15, some (vI (wi (i1 + (1 : Int)))))] [some (Qd b1 84 [v3, v4]), some (Qj u8S false v4 vs1 mem1.B none), some (Qd b2 82 [v7, v8]), some (Qj u8S true v8 vs2 mem2.b none), some (rowS (Shape.slice SegS) v12 (posted1 ++ [post1]))] [Fact.sl QD vl1 l, Fact.sl iS vsizes1 sizes, Fact.sl iS vcuts1 cuts, Fact.sl Qf v3 mem1.L, Fact.sl Qf v7 mem2.l] [0, 1, 2, 3, 9, 11, 13, 14, 15] [0, 1, 2, 3, 4] [0, 1, 2, 3, 4] rfl ?_
       exact QN (posted1 ++ [post1], at1 + (u64 (wi ((1 : Int) + pick1))), wi (i1 + (1 : Int)), v12) h [0, 1, 2, 3, 9, 11, 13, 14, 15] [0, 1, 2, 3, 4] [0, 1, 2, 3, 4] rfl rfl rfl rfl rfl
      ·replace h := br_f hg7 h
       refine Qm (cgb hg7) ?_
       refine Zf _ rfl ?_
       refine Qe (Qb (sAs rfl rfl rfl ?_))
       refine nW [(0, some vl1), (3, some (vU64 feats)), (9, some (.pointer (some ⟨b1, 0, none⟩))), (11, some (.pointer (some ⟨b2, 0, none⟩))), (13, some v9), (20, some (.slice none 0 0))] [some (Qd b1 84 [v3, v4]), some (Qj u8S false v4 vs1 mem1.B none), some (Qd b2 82 [v7, v8]), some (Qj u8S true v8 vs2 mem2.b none), some (rowS (Shape.slice SegS) v9 posted1)] [Fact.sl QD vl1 l, Fact.sl Qf v3 mem1.L, Fact.sl Qf v7 mem2.l] [0, 3, 9, 11, 13, 20] [0, 1, 2, 3, 4] [0, 3, 4] rfl ?_
       refine Qe (Qb (sAs rfl rfl rfl ?_))
       refine QT (Qe (Qe (Qb (sAs rfl rfl rfl ?_))))
       refine QT (Qz (QI QD ?_))
       refine QI u32S ?_
       refine Zc (σ := (List (List UInt8)) × (List (List UInt8)) × (List (List Seg)) × (List Frame) × (List UInt32) × Int × Value × Value × Value) [0, 3, 9, 11, 13, 20, 21, 22] [0, 1, 2, 3, 4, 5, 6] [0, 1, 2] (fun s => ⟨[(0, some vl1), (3, some (vU64 feats)), (9, some (.pointer (some ⟨b1, 0, none⟩))), (11, some (.pointer (some ⟨b2, 0, none⟩))), (13, some (s.2.2.2.2.2.2.1)), (20, some (s.2.2.2.2.2.2.2.1)), (21, some (s.2.2.2.2.2.2.2.2)), (22, some (vI s.2.2.2.2.2.1))], [some (Qd b1 84 [v3, v4]), some (Qj u8S false v4 vs1 s.1 none), some (Qd b2 82 [v7, v8]), some (Qj u8S true v8 vs2 s.2.1 none), some (rowS (Shape.slice SegS) s.2.2.2.2.2.2.1 s.2.2.1), some (rowS QD s.2.2.2.2.2.2.2.1 s.2.2.2.1), some (rowS u32S s.2.2.2.2.2.2.2.2 s.2.2.2.2.1)], [Fact.sl QD vl1 l, Fact.sl Qf v3 mem1.L, Fact.sl Qf v7 mem2.l]⟩) (fun nf2 s => Zz l feats mem1 mem2 nf2 s.1 s.2.1 s.2.2.1 s.2.2.2.1 s.2.2.2.2.1 s.2.2.2.2.2.1 = some true) fuel (mem1.B, mem2.b, posted1, [], [], (0 : Int), v9, (.slice none 0 0), (.slice none 0 0)) h rfl rfl rfl rfl rfl (fun s h => by cases h) ?_
       rintro nf2 ⟨rows1, rows2, l1, want1, written1, i2, v13, v14, v15⟩ h
       replace h : XX l feats mem1 mem2 (Zz l feats mem1 mem2 nf2) rows1 rows2 l1 want1 written1 i2 = some true := h
       unfold XX at h
       refine Qe (Qe (Qb (sMv rfl rfl rfl ?_)))
       refine sMv rfl rfl rfl ?_
       refine Qa rfl (QB rfl rfl rfl rfl Try.underlying58 (i := 0) rfl) ?_
       refine Qa rfl (Qg rfl rfl rfl rfl rfl (QK (a := i2) (b := len l))) ?_
       refine nW [(0, some vl1), (3, some (vU64 feats)), (9, some (.pointer (some ⟨b1, 0, none⟩))), (11, some (.pointer (some ⟨b2, 0, none⟩))), (13, some v13), (20, some v14), (21, some v15), (22, some (vI i2)), (94, some (vB (decide (i2 < (len l)))))] [some (Qd b1 84 [v3, v4]), some (Qj u8S false v4 vs1 rows1 none), some (Qd b2 82 [v7, v8]), some (Qj u8S true v8 vs2 rows2 none), some (rowS (Shape.slice SegS) v13 l1), some (rowS QD v14 want1), some (rowS u32S v15 written1)] [Fact.sl QD vl1 l, Fact.sl Qf v3 mem1.L, Fact.sl Qf v7 mem2.l] [0, 3, 9, 11, 13, 20, 21, 22, 94] [0, 1, 2, 3, 4, 5, 6] [0, 1, 2] rfl ?_
       rcases bC (decide (i2 < (len l))) with hg9 | hg9
       ·replace h := br_t hg9 h
        refine Ql (cgb hg9) ?_
        refine Qr (Qe (Yu (α := (List (List UInt8)) × (List (List UInt8)) × (List (List Seg)) × (List Frame) × (List UInt32) × Value × Value × Value) (fun s => ⟨[(0, some vl1), (3, some (vU64 feats)), (9, some (.pointer (some ⟨b1, 0, none⟩))), (11, some (.pointer (some ⟨b2, 0, none⟩))), (13, some (s.2.2.2.2.2.1)), (20, some (s.2.2.2.2.2.2.1)), (21, some (s.2.2.2.2.2.2.2)), (22, some (vI i2))], [some (Qd b1 84 [v3, v4]), some (Qj u8S false v4 vs1 s.1 none), some (Qd b2 82 [v7, v8]), some (Qj u8S true v8 vs2 s.2.1 none), some (rowS (Shape.slice SegS) s.2.2.2.2.2.1 s.2.2.1), some (rowS QD s.2.2.2.2.2.2.1 s.2.2.2.1), some (rowS u32S s.2.2.2.2.2.2.2 s.2.2.2.2.1)], [Fact.sl QD vl1 l, Fact.sl Qf v3 mem1.L, Fact.sl Qf v7 mem2.l]⟩) (fun s => Xa i2 (Zz l feats mem1 mem2 nf2) s.1 s.2.1 s.2.2.1 s.2.2.2.1 s.2.2.2.2.1 = some true) ?_ ?_))
        ·rintro ⟨rows3, rows4, l2, want2, written2, v16, v17, v18⟩ h
         replace h : Xa i2 (Zz l feats mem1 mem2 nf2) rows3 rows4 l2 want2 written2 = some true := h
         unfold Xa at h
         refine Qb (sMv rfl rfl rfl ?_)
         refine Qa rfl (Qg rfl rfl rfl rfl rfl (Qx (a := i2) (b := (1 : Int)))) ?_
         refine sAs rfl rfl rfl ?_
         refine nW [(0, some vl1), (3, some (vU64 feats)), (9, some (.pointer (some ⟨b1, 0, none⟩))), (11, some (.pointer (some ⟨b2, 0, none⟩))), (13, some v16), (20, some v17), (21, some v18), (22, some (vI (wi (i2 + (1 : Int)))))] [some (Qd b1 84 [v3, v4]), some (Qj u8S false v4 vs1 rows3 none), some (Qd b2 82 [v7, v8]), some (Qj u8S true v8 vs2 rows4 none), some (rowS (Shape.slice SegS) v16 l2), some (rowS QD v17 want2), some (rowS u32S v18 written2)] [Fact.sl QD vl1 l, Fact.sl Qf v3 mem1.L, Fact.sl Qf v7 mem2.l] [0, 3, 9, 11, 13, 20, 21, 22] [0, 1, 2, 3, 4, 5, 6] [0, 1, 2] rfl ?_
         exact QN (rows3, rows4, l2, want2, written2, wi (i2 + (1 : Int)), v16, v17, v18) h [0, 3, 9, 11, 13, 20, 21, 22] [0, 1, 2, 3, 4, 5, 6] [0, 1, 2] rfl rfl rfl rfl rfl
        ·intro HJ1
         refine Qz (Qe (Zw (by kernel_rfl) ?_))
         refine TA_tb [0, 0, 0, 0, 8, 28, 0, 0, 192, 448, 1023, 2047, 4095, 4095, 8191, 32767] (by kernel_rfl) fun htb => ?_
         refine Xy (fr' := [(0, some vl1), (3, some (vU64 feats)), (9, some (.pointer (some ⟨b1, 0, none⟩))), (11, some (.pointer (some ⟨b2, 0, none⟩))), (13, some v13), (20, some v14), (21, some v15), (22, some (vI i2))]) (own' := [some (Qd b1 84 [v3, v4]), some (Qj u8S false v4 vs1 rows1 none), some (Qd b2 82 [v7, v8]), some (Qj u8S true v8 vs2 rows2 none), some (rowS (Shape.slice SegS) v13 l1), some (rowS QD v14 want1), some (rowS u32S v15 written1)]) (shr' := [Fact.sl QD vl1 l, Fact.sl Qf v3 mem1.L, Fact.sl Qf v7 mem2.l]) [0, 3, 9, 11, 13, 20, 21, 22] [0, 1, 2, 3, 4, 5, 6] [0, 1, 2] rfl rfl rfl rfl ?_
         obtain ⟨hc2, h⟩ := Zi h
         obtain ⟨f1, hx10, h⟩ := ob_e h
         refine Zs (lo := 0) (hi := 10) htb rfl rfl (by kernel_rfl) (fun c L a w => ∃ (p2 : Value), ∃ (v19 : Value), Sat c ⟨[(0, some vl1), (3, some (vU64 feats)), (9, some (.pointer (some ⟨b1, 0, none⟩))), (11, some (.pointer (some ⟨b2, 0, none⟩))), (13, some v13), (20, some v14), (21, some v15), (22, some (vI i2)), (98, bif L 0 then some (.pointer (some ⟨b1, 0, none⟩)) else none), (99, bif L 1 then some (vU64 feats) else none), (100, bif L 2 then some (v13) else none), (101, bif L 3 then some (v15) else none), (102, bif L 4 then some (vI (len written1)) else none), (103, bif L 5 then some (subV v13 1 (Int.toNat (len written1)) (Int.toNat (len l1))) else none), (104, bif L 6 then some (vl1) else none), (105, bif L 7 then some (vI i2) else none), (106, bif L 8 then some (p2) else none), (107, bif L 9 then some (.agg #[vU8 f1.Dst.a0, vU8 f1.Dst.a1, vU8 f1.Dst.a2, vU8 f1.Dst.a3, vU8 f1.Dst.a4, vU8 f1.Dst.a5, vU8 f1.Src.a0, vU8 f1.Src.a1, vU8 f1.Src.a2, vU8 f1.Src.a3, vU8 f1.Src.a4, vU8 f1.Src.a5, vI f1.Vlan, vU16 f1.Type_, v19]) else none)], [(some (Qd b1 84 [v3, v4]) : Option Res), (some (Qj u8S false v4 vs1 rows1 none) : Option Res), (some (Qd b2 82 [v7, v8]) : Option Res), (some (Qj u8S true v8 vs2 rows2 none) : Option Res), (some (rowS (Shape.slice SegS) v13 l1) : Option Res), (some (rowS QD v14 want1) : Option Res), (some (rowS u32S v15 written1) : Option Res)], [Fact.sl QD vl1 l, Fact.sl Qf v3 mem1.L, Fact.sl Qf v7 mem2.l, (bif L 8 then Fact.pt QD p2 f1 else Fact.tt), (bif L 9 then Fact.sl u8S v19 f1.Data else Fact.tt)]⟩ a w) [([], []), ([], []), ([], [5]), ([], [4, 5]), ([3], [5]), ([2, 3, 4], []), ([], [8, 9]), ([], [8, 9]), ([6, 7], [9]), ([6, 7, 8], [])] rfl (by kernel_rfl) ?_ (Qc ?_ (Qc ?_ (Qc ?_ (Qc ?_ (Qc ?_ (Qc ?_ (Qc ?_ (Qc ?_ (Qc ?_ (Qc ?_ (QH))))))))))) ?_
         ·intro a w hs
          exact ⟨undef, undef, hs.startF [98, 99, 100, 101, 102, 103, 104, 105, 106, 107] [0, 1, 2, 3, 4, 5, 6] [0, 1, 2, 3, 4] rfl rfl rfl rfl⟩
         ·intro L a w hv K Q hK
          obtain ⟨p2, v19, hs⟩ := hv
          exact wGo rfl rfl hs (Qk rfl rfl rfl rfl) fun a w hs => hK a w ⟨p2, v19, pF hs 8 [0, 1, 2, 3, 4, 5, 6] [0, 1, 2, 3, 4] rfl⟩
         ·intro L a w hv K Q hK
          obtain ⟨p2, v19, hs⟩ := hv
          exact wGo rfl rfl hs (Qk rfl rfl rfl rfl) fun a w hs => hK a w ⟨p2, v19, pF hs 9 [0, 1, 2, 3, 4, 5, 6] [0, 1, 2, 3, 4] rfl⟩
         ·intro L a w hv K Q hK
          obtain ⟨p2, v19, hs⟩ := hv
          exact wGo rfl rfl hs (Qk rfl rfl rfl rfl) fun a w hs => hK a w ⟨p2, v19, pF hs 10 [0, 1, 2, 3, 4, 5, 6] [0, 1, 2, 3, 4] rfl⟩
         ·intro L a w hv K Q hK
          obtain ⟨p2, v19, hs⟩ := hv
          exact wGo rfl rfl hs (Qk rfl rfl rfl rfl) fun a w hs => hK a w ⟨p2, v19, pF hs 11 [0, 1, 2, 3, 4, 5, 6] [0, 1, 2, 3, 4] rfl⟩
         ·intro L a w hv K Q hK
          obtain ⟨p2, v19, hs⟩ := hv
          exact wGo rfl rfl hs (Kp rfl rfl rfl rfl Try.underlying62 (i := 6) rfl) fun a w hs => hK a w ⟨p2, v19, pF hs 12 [0, 1, 2, 3, 4, 5, 6] [0, 1, 2, 3, 4] rfl⟩
         ·intro L a w hv K Q hK
          obtain ⟨p2, v19, hs⟩ := hv
          exact wGo rfl rfl hs (OpT_subL (S := (Shape.slice SegS)) (l := len written1) rfl rfl rfl rfl rfl slF59 (i := 4) rfl hc2) fun a w hs => hK a w ⟨p2, v19, pF hs 13 [0, 1, 2, 3, 4, 5, 6] [0, 1, 2, 3, 4] rfl⟩
         ·intro L a w hv K Q hK
          obtain ⟨p2, v19, hs⟩ := hv
          exact wGo rfl rfl hs (Qk rfl rfl rfl rfl) fun a w hs => hK a w ⟨p2, v19, pF hs 14 [0, 1, 2, 3, 4, 5, 6] [0, 1, 2, 3, 4] rfl⟩
         ·intro L a w hv K Q hK
          obtain ⟨p2, v19, hs⟩ := hv
          exact wGo rfl rfl hs (Qk rfl rfl rfl rfl) fun a w hs => hK a w ⟨p2, v19, pF hs 15 [0, 1, 2, 3, 4, 5, 6] [0, 1, 2, 3, 4] rfl⟩
         ·intro L a w hv K Q hK
          obtain ⟨p2, v19, hs⟩ := hv
          refine QG rfl rfl hs (QA rfl rfl rfl rfl rfl slF58 (i := 0) rfl hx10) ?_
          rintro _ ⟨p2', rfl⟩ a' w' hs'
          exact hK a' w' ⟨p2', v19, hs'.putF (i := 16) rfl [0, 1, 2, 3, 4, 5, 6] [0, 1, 2, 5, 4] rfl rfl rfl rfl⟩
         ·intro L a w hv K Q hK
          obtain ⟨p2, v19, hs⟩ := hv
          refine QG rfl rfl hs (OpT_loadP1 rfl rfl rfl rfl Xo (i := 3) rfl) ?_
          rintro _ ⟨v19', rfl⟩ a' w' hs'
          exact hK a' w' ⟨p2, v19', hs'.putF (i := 17) rfl [0, 1, 2, 3, 4, 5, 6] [0, 1, 2, 3, 5] rfl rfl rfl rfl⟩
         ·intro L a w hL hv
          rw [QZ hL] at hv
          obtain ⟨p2, v19, hs⟩ := hv
          refine (show TA _ _ _ 10 ⟨[(0, some vl1), (3, some (vU64 feats)), (9, some (.pointer (some ⟨b1, 0, none⟩))), (11, some (.pointer (some ⟨b2, 0, none⟩))), (13, some v13), (20, some v14), (21, some v15), (22, some (vI i2)), (98, some (.pointer (some ⟨b1, 0, none⟩))), (99, some (vU64 feats)), (103, some (subV v13 1 (Int.toNat (len written1)) (Int.toNat (len l1)))), (107, some (.agg #[vU8 f1.Dst.a0, vU8 f1.Dst.a1, vU8 f1.Dst.a2, vU8 f1.Dst.a3, vU8 f1.Dst.a4, vU8 f1.Dst.a5, vU8 f1.Src.a0, vU8 f1.Src.a1, vU8 f1.Src.a2, vU8 f1.Src.a3, vU8 f1.Src.a4, vU8 f1.Src.a5, vI f1.Vlan, vU16 f1.Type_, v19]))], [some (Qd b1 84 [v3, v4]), some (Qj u8S false v4 vs1 rows1 none), some (Qd b2 82 [v7, v8]), some (Qj u8S true v8 vs2 rows2 none), some (rowS (Shape.slice SegS) v13 l1), some (rowS QD v14 want1), some (rowS u32S v15 written1)], [Fact.sl QD vl1 l, Fact.sl Qf v3 mem1.L, Fact.sl Qf v7 mem2.l, Fact.sl u8S v19 f1.Data]⟩ from ?_) a w (hs.wkS [0, 3, 9, 11, 13, 20, 21, 22, 98, 99, 103, 107] [0, 1, 2, 3, 4, 5, 6] [0, 1, 2, 4] rfl rfl rfl rfl)
          clear hs hL
          obtain ⟨delive1, hx11, h⟩ := ob_e h
          refine TA_exP htb (by kernel_rfl) rfl rfl (Zj [4] [7, 8, 2, 3, 4, 5, 6, 9] (w_ref_Deliver25 hx11) [0, 1] rfl rfl rfl rfl rfl callee23 rfl rfl rfl rfl rfl rfl (QV (bor_shr 1 rfl) (QV (bor_sub (S := (Shape.slice SegS)) (l := (len written1)) (m := (len l1)) 4 rfl rfl hc2) (QV (bor_shr 3 rfl) Xe))) (by rintro _ _ _ ⟨_, rfl, rfl, rfl⟩; exact ⟨rfl, (ZL (ri_cells _ _ _) (ZL (ri_rows rfl _ _ _ _ _) (ZL (ri_row (S := u32S) rfl _ _) Ye)))⟩)) ?_
          rintro _ ⟨_, _, _, ⟨v20, rfl, rfl, rfl⟩, rfl⟩
          refine QL htb (by kernel_rfl) rfl rfl (Qk rfl rfl rfl rfl) ?_
          refine Xy (fr' := [(0, some vl1), (3, some (vU64 feats)), (9, some (.pointer (some ⟨b1, 0, none⟩))), (11, some (.pointer (some ⟨b2, 0, none⟩))), (13, some v13), (20, some v14), (21, some v15), (22, some (vI i2)), (97, some (.tuple #[v20, vI delive1.2.1]))]) (own' := [some (Qd b1 84 [v3, v4]), some (Qj u8S false v4 vs1 delive1.2.2 none), some (Qd b2 82 [v7, v8]), some (Qj u8S true v8 vs2 rows2 none), some (rowS (Shape.slice SegS) v13 l1), some (rowS QD v14 want1), some (rowS u32S v15 written1), some (rowS u32S v20 delive1.1)]) (shr' := [Fact.sl QD vl1 l, Fact.sl Qf v3 mem1.L, Fact.sl Qf v7 mem2.l]) [0, 3, 9, 11, 13, 20, 21, 22, 97] [0, 1, 2, 3, 4, 5, 6, 7] [0, 1, 2] rfl rfl rfl rfl ?_
          refine Zs (lo := 12) (hi := 15) htb rfl rfl (by kernel_rfl) (fun c L a w => Sat c ⟨[(0, some vl1), (3, some (vU64 feats)), (9, some (.pointer (some ⟨b1, 0, none⟩))), (11, some (.pointer (some ⟨b2, 0, none⟩))), (13, some v13), (20, some v14), (21, some v15), (22, some (vI i2)), (97, some (.tuple #[v20, vI delive1.2.1])), (109, bif L 12 then some (v20) else none), (110, bif L 13 then some (vI delive1.2.1) else none), (23, bif L 14 then some (v20) else none)], [(some (Qd b1 84 [v3, v4]) : Option Res), (some (Qj u8S false v4 vs1 delive1.2.2 none) : Option Res), (some (Qd b2 82 [v7, v8]) : Option Res), (some (Qj u8S true v8 vs2 rows2 none) : Option Res), (some (rowS (Shape.slice SegS) v13 l1) : Option Res), (some (rowS QD v14 want1) : Option Res), (some (rowS u32S v15 written1) : Option Res), (some (rowS u32S v20 delive1.1) : Option Res)], [Fact.sl QD vl1 l, Fact.sl Qf v3 mem1.L, Fact.sl Qf v7 mem2.l]⟩ a w) [([], [14]), ([], []), ([12], [])] rfl (by kernel_rfl) ?_ (Qc ?_ (Qc ?_ (Qc ?_ (QH)))) ?_
          ·intro a w hs
           exact hs.startF [109, 110, 23] [0, 1, 2, 3, 4, 5, 6, 7] [0, 1, 2] rfl rfl rfl rfl
          ·intro L a w hs K Q hK
           exact wGo rfl rfl hs (Qs rfl rfl rfl rfl rfl) fun a w hs => hK a w (pF hs 9 [0, 1, 2, 3, 4, 5, 6, 7] [0, 1, 2] rfl)
          ·intro L a w hs K Q hK
           exact wGo rfl rfl hs (Qs rfl rfl rfl rfl rfl) fun a w hs => hK a w (pF hs 10 [0, 1, 2, 3, 4, 5, 6, 7] [0, 1, 2] rfl)
          ·intro L a w hs K Q hK
           exact wGo rfl rfl hs (Zh rfl rfl rfl rfl) fun a w hs => hK a w (pF hs 11 [0, 1, 2, 3, 4, 5, 6, 7] [0, 1, 2] rfl)
          ·intro L a w hL hv
           rw [QZ hL] at hv
           have hs := hv
           refine (show TA _ _ _ 15 ⟨[(0, some vl1), (3, some (vU64 feats)), (9, some (.pointer (some ⟨b1, 0, none⟩))), (11, some (.pointer (some ⟨b2, 0, none⟩))), (13, some v13), (20, some v14), (21, some v15), (22, some (vI i2)), (110, some (vI delive1.2.1)), (23, some v20)], [some (Qd b1 84 [v3, v4]), some (Qj u8S false v4 vs1 delive1.2.2 none), some (Qd b2 82 [v7, v8]), some (Qj u8S true v8 vs2 rows2 none), some (rowS (Shape.slice SegS) v13 l1), some (rowS QD v14 want1), some (rowS u32S v15 written1), some (rowS u32S v20 delive1.1)], [Fact.sl QD vl1 l, Fact.sl Qf v3 mem1.L, Fact.sl Qf v7 mem2.l]⟩ from ?_) a w (hs.wkS [0, 3, 9, 11, 13, 20, 21, 22, 110, 23] [0, 1, 2, 3, 4, 5, 6, 7] [0, 1, 2] rfl rfl rfl rfl)
           clear hs hL
           refine QL htb (by kernel_rfl) rfl rfl (Zh rfl rfl rfl rfl) ?_
           refine ZW rfl ?_
           refine tW [(0, some vl1), (3, some (vU64 feats)), (9, some (.pointer (some ⟨b1, 0, none⟩))), (11, some (.pointer (some ⟨b2, 0, none⟩))), (13, some v13), (20, some v14), (21, some v15), (22, some (vI i2)), (23, some v20), (24, some (vI delive1.2.1))] [some (Qd b1 84 [v3, v4]), some (Qj u8S false v4 vs1 delive1.2.2 none), some (Qd b2 82 [v7, v8]), some (Qj u8S true v8 vs2 rows2 none), some (rowS (Shape.slice SegS) v13 l1), some (rowS QD v14 want1), some (rowS u32S v15 written1), some (rowS u32S v20 delive1.1)] [Fact.sl QD vl1 l, Fact.sl Qf v3 mem1.L, Fact.sl Qf v7 mem2.l] [0, 3, 9, 11, 13, 20, 21, 22, 23, 24] [0, 1, 2, 3, 4, 5, 6, 7] [0, 1, 2] rfl ?_
           refine Qe (Qe (Qb (sMv rfl rfl rfl ?_)))
           refine Qa rfl (Qg rfl rfl rfl rfl rfl (QU (a := delive1.2.1) (b := (0 : Int)))) ?_
           refine nW [(0, some vl1), (3, some (vU64 feats)), (9, some (.pointer (some ⟨b1, 0, none⟩))), (11, some (.pointer (some ⟨b2, 0, none⟩))), (13, some v13), (20, some v14), (21, some v15), (22, some (vI i2)), (23, some v20), (112, some (vB (delive1.2.1 != (0 : Int))))] [some (Qd b1 84 [v3, v4]), some (Qj u8S false v4 vs1 delive1.2.2 none), some (Qd b2 82 [v7, v8]), some (Qj u8S true v8 vs2 rows2 none), some (rowS (Shape.slice SegS) v13 l1), some (rowS QD v14 want1), some (rowS u32S v15 written1), some (rowS u32S v20 delive1.1)] [Fact.sl QD vl1 l, Fact.sl Qf v3 mem1.L, Fact.sl Qf v7 mem2.l] [0, 3, 9, 11, 13, 20, 21, 22, 23, 112] [0, 1, 2, 3, 4, 5, 6, 7] [0, 1, 2] rfl ?_
           rcases bC (delive1.2.1 != (0 : Int)) with hg10 | hg10
           ·replace h := br_t hg10 h
            refine Ql (cgb hg10) ?_
            refine Zf _ rfl ?_
            exact ZP (HJ1 (delive1.2.2, rows2, l1, want1, written1, v13, v14, v15) h) [0, 3, 9, 11, 13, 20, 21, 22] [0, 1, 2, 3, 4, 5, 6] [0, 1, 2] rfl rfl rfl rfl
           ·replace h := br_f hg10 h
            refine Qm (cgb hg10) ?_
            refine Qr (Qb (sMv rfl rfl rfl ?_))
            refine sMv rfl rfl rfl ?_
            refine sMv rfl rfl rfl ?_
            obtain ⟨f2, hx12, h⟩ := ob_e h
            refine Qq rfl (QA rfl rfl rfl rfl rfl slF58 (i := 0) rfl hx12) fun p3 => ?_
            refine Qq rfl (OpT_loadP1 rfl rfl rfl rfl Xo (i := 3) rfl) fun v21 => ?_
            refine Qq rfl (QF (S := QD) (xs := [f2]) (css := [[vU8 f2.Dst.a0, vU8 f2.Dst.a1, vU8 f2.Dst.a2, vU8 f2.Dst.a3, vU8 f2.Dst.a4, vU8 f2.Dst.a5, vU8 f2.Src.a0, vU8 f2.Src.a1, vU8 f2.Src.a2, vU8 f2.Src.a3, vU8 f2.Src.a4, vU8 f2.Src.a5, vI f2.Vlan, vU16 f2.Type_, v21]]) (cs := [vU8 f2.Dst.a0, vU8 f2.Dst.a1, vU8 f2.Dst.a2, vU8 f2.Dst.a3, vU8 f2.Dst.a4, vU8 f2.Dst.a5, vU8 f2.Src.a0, vU8 f2.Src.a1, vU8 f2.Src.a2, vU8 f2.Src.a3, vU8 f2.Src.a4, vU8 f2.Src.a5, vI f2.Vlan, vU16 f2.Type_, v21]) (e := 37) rfl rfl rfl rfl (bldF slF58 (by decide) (by kernel_rfl)) rfl rfl rfl rfl (rel_cons (rel_s1 (i := 4) rfl rfl rfl) (rel_nil rfl))) fun v22 => ?_
            refine Zn (i := 8) rfl ?_
            obtain ⟨hc3, h⟩ := Zi h
            refine Qq rfl (ZS rfl rfl rfl rfl rfl slF58 (i := 5) (j := 5) rfl rfl hc3) fun v23 => ?_
            refine sMv rfl rfl rfl ?_
            refine sMv rfl rfl rfl ?_
            obtain ⟨hc4, h⟩ := Zi h
            refine Qq rfl (ZH (S := u32S) rfl rfl rfl rfl rfl rfl slF62 (i := 6) (j := 7) rfl rfl hc4) fun v24 => ?_
            refine sAs rfl rfl rfl ?_
            refine sAs rfl rfl rfl ?_
            refine nW [(0, some vl1), (3, some (vU64 feats)), (9, some (.pointer (some ⟨b1, 0, none⟩))), (11, some (.pointer (some ⟨b2, 0, none⟩))), (13, some v13), (20, some v23), (21, some v24), (22, some (vI i2))] [some (Qd b1 84 [v3, v4]), some (Qj u8S false v4 vs1 delive1.2.2 none), some (Qd b2 82 [v7, v8]), some (Qj u8S true v8 vs2 rows2 none), some (rowS (Shape.slice SegS) v13 l1), some (rowS QD v23 (want1 ++ [f2])), some (rowS u32S v24 (written1 ++ delive1.1))] [Fact.sl QD vl1 l, Fact.sl Qf v3 mem1.L, Fact.sl Qf v7 mem2.l] [0, 3, 9, 11, 13, 20, 21, 22] [0, 1, 2, 3, 4, 5, 6] [0, 1, 2] rfl ?_
            refine Zk ?_
            exact ZP (HJ1 (delive1.2.2, rows2, l1, want1 ++ [f2], written1 ++ delive1.1, v13, v23, v24) h) [0, 3, 9, 11, 13, 20, 21, 22] [0, 1, 2, 3, 4, 5, 6] [0, 1, 2] rfl rfl rfl rfl
       ·replace h := br_f hg9 h
        refine Qm (cgb hg9) ?_
        refine Zf _ rfl ?_
        refine Qe (Qe (Qb (sMv rfl rfl rfl ?_)))
        refine sMv rfl rfl rfl ?_
        obtain ⟨image1, hx13, h⟩ := ob_e h
        refine Qt rfl (QW [7, 8, 2, 3, 4, 5, 6, 9] (w_ref_Mem_Image02 hx13) [0, 1] [1] rfl rfl rfl rfl rfl callee25 rfl rfl rfl rfl rfl) ?_
        rintro _ ⟨v25, _, _, ⟨_, rfl, rfl, rfl⟩, rfl⟩
        obtain ⟨write1, hx14, h⟩ := ob_e h
        refine Qt rfl (Zj [7] [0, 1, 8, 9, 4, 5, 6, 7] (w_gmem_Mem_Write hx14) [2, 3] rfl rfl rfl rfl rfl callee24 rfl rfl rfl rfl rfl rfl (QV (bor_shr 2 rfl) (QV (ZO 7 rfl rfl) Xe)) (by rintro _ _ _ ⟨rfl, rfl, rfl⟩; exact ⟨rfl, (ZL (ri_cells _ _ _) (ZL (ri_rows rfl _ _ _ _ _) Ye))⟩)) ?_
        rintro _ ⟨_, _, _, ⟨rfl, rfl, rfl⟩, rfl⟩
        refine Qa rfl (Qg rfl rfl rfl rfl rfl (QU (a := write1.1) (b := (0 : Int)))) ?_
        refine nW [(3, some (vU64 feats)), (11, some (.pointer (some ⟨b2, 0, none⟩))), (13, some v13), (20, some v14), (21, some v15), (127, some (vB (write1.1 != (0 : Int))))] [some (Qd b2 82 [v7, v8]), some (Qj u8S true v8 vs2 write1.2 none), some (rowS (Shape.slice SegS) v13 l1), some (rowS QD v14 want1), some (rowS u32S v15 written1)] [Fact.sl Qf v7 mem2.l] [3, 11, 13, 20, 21, 127] [2, 3, 4, 5, 6] [2] rfl ?_
        obtain ⟨hg11, h⟩ := Zi h
        replace hg11 := not_t hg11
        refine Qm (cgb hg11) ?_
        refine Qr (Qe (Qb (sMv rfl rfl rfl ?_)))
        refine sMv rfl rfl rfl ?_
        refine sMv rfl rfl rfl ?_
        refine sMv rfl rfl rfl ?_
        refine Qa rfl (Kp rfl rfl rfl rfl Try.underlying62 (i := 4) rfl) ?_
        obtain ⟨hc5, h⟩ := Zi h
        refine Qa rfl (OpT_subH (S := (Shape.slice SegS)) (m := len written1) rfl rfl rfl rfl rfl slF59 (i := 2) rfl hc5) ?_
        refine Zn (i := 2) rfl ?_
        refine Tops_vs (vs_subSl (l := (0 : Int)) (m := (len written1)) (i := 1) rfl hc5) ?_
        obtain ⟨bufs1, hx15, h⟩ := ob_e h
        refine Qt rfl (QO (w_kit_Bufs hx15) [] [2] rfl rfl rfl rfl rfl callee27 rfl rfl rfl rfl) ?_
        rintro _ ⟨v26, _, _, ⟨_, rfl, rfl, rfl⟩, rfl⟩
        refine sMv rfl rfl rfl ?_
        refine Zn (i := 5) rfl ?_
        refine Zn (i := 4) rfl ?_
        obtain ⟨collec1, hx16, h⟩ := ob_e h
        refine Qt rfl (QW [6, 7, 2, 3, 4, 5, 8] (w_netdrv_Collect hx16) [0, 1] [0, 3, 4] rfl rfl rfl rfl rfl callee26 rfl rfl rfl rfl rfl) ?_
        rintro _ ⟨_, _, _, ⟨v27, rfl, rfl, rfl⟩, rfl⟩
        refine sMv rfl rfl rfl ?_
        refine Qa rfl (Qs rfl rfl rfl rfl rfl) ?_
        refine Qa rfl (Qs rfl rfl rfl rfl rfl) ?_
        refine Qa rfl (Qs rfl rfl rfl rfl rfl) ?_
        refine sAs rfl rfl rfl ?_
        refine sAs rfl rfl rfl ?_
        refine sAs rfl rfl rfl ?_
        refine nW [(20, some v14), (21, some v15), (25, some v27), (26, some (vI collec1.2.1)), (12, some (vI collec1.2.2))] [some (rowS QD v14 want1), some (rowS QD v27 collec1.1)] [Fact.sl u32S v15 written1] [20, 21, 25, 26, 12] [3, 6] [4] rfl ?_
        refine Qe (Qb (sMv rfl rfl rfl ?_))
        refine Qa rfl (Qg rfl rfl rfl rfl rfl (Xh (a := collec1.2.2) (b := (0 : Int)))) ?_
        refine sMv rfl rfl rfl ?_
        obtain ⟨hg12, h⟩ := Zi h
        refine Qi rfl rfl (cgb hg12) (Qk rfl rfl rfl rfl) ?_
        rintro _ rfl
        refine Qi rfl rfl (cgb hg12) (Qk rfl rfl rfl rfl) ?_
        rintro _ rfl
        refine Qi rfl rfl (cgb hg12) (QB rfl rfl rfl rfl Try.underlying62 (i := 0) rfl) ?_
        rintro _ rfl
        refine Qi rfl rfl (cgb hg12) (Qg rfl rfl rfl rfl rfl (Xh (a := collec1.2.1) (b := len written1))) ?_
        rintro _ rfl
        refine Qa rfl (Qw rfl rfl rfl (cgb hg12) rfl) ?_
        refine sMv rfl rfl rfl ?_
        obtain ⟨hg13, h⟩ := Zi h
        refine Qi rfl rfl (cgb hg13) (Qk rfl rfl rfl rfl) ?_
        rintro _ rfl
        refine Qi rfl rfl (cgb hg13) (Qk rfl rfl rfl rfl) ?_
        rintro _ rfl
        obtain ⟨samefr1, hx17, h⟩ := ob_e h
        refine Qi rfl rfl (cgb hg13) (Zj [1, 0] [0, 1] (w_kit_SameFrames hx17) [] rfl rfl rfl rfl rfl callee28 rfl rfl rfl rfl rfl rfl (QV (ZO 1 rfl rfl) (QV (ZO 0 rfl rfl) Xe)) (by rintro _ _ _ ⟨rfl, rfl, rfl⟩; exact ⟨rfl, Ye⟩)) ?_
        rintro _ ⟨_, _, _, ⟨rfl, rfl, rfl⟩, rfl⟩
        refine Qa rfl (Qw rfl rfl rfl (cgb hg13) rfl) ?_
        refine sAs rfl rfl rfl ?_
        refine nW [(8, some (vB samefr1))] [] [] [8] [] [] rfl ?_
        obtain ⟨hg14, h⟩ := Zi h
        exact Qn rfl rfl (resA (vs := [.bool true]) rfl ⟨(cgb hg14), trivial⟩) [] [] rfl rfl rfl ⟨rfl, rfl, rfl⟩
end Go.Proofs.Ytgcbcnpbnonnjaa
