/- The law NetdrvSends is walked: it returns what its plain words say. No condition. -/
import Derived.Test.YtgcbcnpbnonnjaaWa6
namespace Go.Proofs.Ytgcbcnpbnonnjaa
attribute [local irreducible] sub

set_option maxRecDepth 100000 in
set_option maxHeartbeats 4000000 in
theorem w_law26zNetdrvSends {f : Frame} {atp1 : Int} {cuts : List Int} {off : Int} {feats : UInt64} {vf1 : Value} {vcuts1 : Value}  (h : Yu f atp1 cuts off feats = some true) :
  Ctr Try.prog 4 #[.agg #[vU8 f.Dst.a0, vU8 f.Dst.a1, vU8 f.Dst.a2, vU8 f.Dst.a3, vU8 f.Dst.a4, vU8 f.Dst.a5, vU8 f.Src.a0, vU8 f.Src.a1, vU8 f.Src.a2, vU8 f.Src.a3, vU8 f.Src.a4, vU8 f.Src.a5, vI f.Vlan, vU16 f.Type_, vf1], vI atp1, vcuts1, vI off, vU64 feats] [] [Fact.sl u8S vf1 f.Data, Fact.sl iS vcuts1 cuts]
   (fun rv own shr => rv = .bool true ∧ own = [] ∧ shr = []) := by
 unfold Yu at h
 refine Ctr.mk (args := [.agg #[vU8 f.Dst.a0, vU8 f.Dst.a1, vU8 f.Dst.a2, vU8 f.Dst.a3, vU8 f.Dst.a4, vU8 f.Dst.a5, vU8 f.Src.a0, vU8 f.Src.a1, vU8 f.Src.a2, vU8 f.Src.a3, vU8 f.Src.a4, vU8 f.Src.a5, vI f.Vlan, vU16 f.Type_, vf1], vI atp1, vcuts1, vI off, vU64 feats]) Try.func4 rfl rfl (fun R0 w0 B => ?_)
 refine Qe (Qb (Qq rfl (XZ rfl rfl rfl rfl) fun b1 => ?_))
 refine sAs rfl rfl rfl ?_
 refine nW [(1, some (vI atp1)), (2, some vcuts1), (3, some (vI off)), (4, some (vU64 feats)), (5, some (.pointer (some ⟨b1, 0, none⟩)))] [some (Qd b1 37 [vU8 f.Dst.a0, vU8 f.Dst.a1, vU8 f.Dst.a2, vU8 f.Dst.a3, vU8 f.Dst.a4, vU8 f.Dst.a5, vU8 f.Src.a0, vU8 f.Src.a1, vU8 f.Src.a2, vU8 f.Src.a3, vU8 f.Src.a4, vU8 f.Src.a5, vI f.Vlan, vU16 f.Type_, vf1])] [Fact.sl u8S vf1 f.Data, Fact.sl iS vcuts1 cuts] [1, 2, 3, 4, 5] [0] [0, 1] rfl ?_
 refine Qe (Qe (Qb ?_))
 obtain ⟨lives1, hx1, h⟩ := ob_e h
 refine Qt rfl (QP (w_law26zlives hx1) [] [] rfl rfl rfl rfl rfl callee7 rfl rfl rfl rfl) ?_
 rintro _ ⟨_, _, _, ⟨rfl, rfl, rfl⟩, rfl⟩
 refine Qa rfl (Kn rfl rfl rfl rfl) ?_
 refine nW [(1, some (vI atp1)), (2, some vcuts1), (3, some (vI off)), (4, some (vU64 feats)), (5, some (.pointer (some ⟨b1, 0, none⟩))), (20, some (vB (!lives1)))] [some (Qd b1 37 [vU8 f.Dst.a0, vU8 f.Dst.a1, vU8 f.Dst.a2, vU8 f.Dst.a3, vU8 f.Dst.a4, vU8 f.Dst.a5, vU8 f.Src.a0, vU8 f.Src.a1, vU8 f.Src.a2, vU8 f.Src.a3, vU8 f.Src.a4, vU8 f.Src.a5, vI f.Vlan, vU16 f.Type_, vf1])] [Fact.sl u8S vf1 f.Data, Fact.sl iS vcuts1 cuts] [1, 2, 3, 4, 5, 20] [0] [0, 1] rfl ?_
 obtain ⟨hg1, h⟩ := Zg h
 replace hg1 := not_t hg1
 refine Ql (cgb hg1) ?_
 refine Qr (Qe (Qe (Qb (Qa rfl (Za (vs := [vU8 f.Dst.a0, vU8 f.Dst.a1, vU8 f.Dst.a2, vU8 f.Dst.a3, vU8 f.Dst.a4, vU8 f.Dst.a5, vU8 f.Src.a0, vU8 f.Src.a1, vU8 f.Src.a2, vU8 f.Src.a3, vU8 f.Src.a4, vU8 f.Src.a5, vI f.Vlan, vU16 f.Type_, vf1]) rfl rfl rfl rfl Zs (i := 0) rfl rfl rfl) ?_))))
 obtain ⟨check1, hx2, h⟩ := ob_e h
 refine Qt rfl (QP (w_ref_Check23 hx2) [] [0] rfl rfl rfl rfl rfl callee10 rfl rfl rfl rfl) ?_
 rintro _ ⟨_, _, _, ⟨rfl, rfl, rfl⟩, rfl⟩
 refine Qa rfl (Qg rfl rfl rfl rfl rfl (QN (a := check1) (b := (0 : Int)))) ?_
 refine sMv rfl rfl rfl ?_
 rcases bC (check1 != (0 : Int)) with hg2 | hg2
 ·replace h := br_t hg2 h
  refine Qh rfl rfl (cgb hg2) rfl rfl ?_
  refine Qh rfl rfl (cgb hg2) rfl rfl ?_
  refine Qh rfl rfl (cgb hg2) rfl rfl ?_
  refine Qa rfl (Qz rfl rfl rfl (cgb hg2) rfl) ?_
  refine nW [(1, some (vI atp1)), (2, some vcuts1), (3, some (vI off)), (4, some (vU64 feats)), (5, some (.pointer (some ⟨b1, 0, none⟩))), (28, some (vB true))] [some (Qd b1 37 [vU8 f.Dst.a0, vU8 f.Dst.a1, vU8 f.Dst.a2, vU8 f.Dst.a3, vU8 f.Dst.a4, vU8 f.Dst.a5, vU8 f.Src.a0, vU8 f.Src.a1, vU8 f.Src.a2, vU8 f.Src.a3, vU8 f.Src.a4, vU8 f.Src.a5, vI f.Vlan, vU16 f.Type_, vf1])] [Fact.sl u8S vf1 f.Data, Fact.sl iS vcuts1 cuts] [1, 2, 3, 4, 5, 28] [0] [0, 1] rfl ?_
  refine Qn rfl ?_
  refine Qe (Qb (sAs rfl rfl rfl ?_))
  refine nW [(10, some (vB true))] [] [] [10] [] [] rfl ?_
  exact Qo rfl rfl (resA (vs := [.bool true]) rfl ⟨rfl, trivial⟩) [] [] rfl rfl rfl ⟨rfl, rfl, rfl⟩
 ·replace h := br_f hg2 h
  refine Qi rfl rfl (cgb hg2) (Qk rfl rfl rfl rfl) ?_
  rintro _ rfl
  refine Qi rfl rfl (cgb hg2) (QL rfl rfl rfl rfl Try.underlying23 (i := 1) rfl) ?_
  rintro _ rfl
  refine Qi rfl rfl (cgb hg2) (Qg rfl rfl rfl rfl rfl (ZN (a := len cuts) (b := (70 : Int)))) ?_
  rintro _ rfl
  refine Qa rfl (Qu rfl rfl rfl (cgb hg2) rfl) ?_
  refine nW [(1, some (vI atp1)), (2, some vcuts1), (3, some (vI off)), (4, some (vU64 feats)), (5, some (.pointer (some ⟨b1, 0, none⟩))), (28, some (vB (decide ((len cuts) > (70 : Int)))))] [some (Qd b1 37 [vU8 f.Dst.a0, vU8 f.Dst.a1, vU8 f.Dst.a2, vU8 f.Dst.a3, vU8 f.Dst.a4, vU8 f.Dst.a5, vU8 f.Src.a0, vU8 f.Src.a1, vU8 f.Src.a2, vU8 f.Src.a3, vU8 f.Src.a4, vU8 f.Src.a5, vI f.Vlan, vU16 f.Type_, vf1])] [Fact.sl u8S vf1 f.Data, Fact.sl iS vcuts1 cuts] [1, 2, 3, 4, 5, 28] [0] [0, 1] rfl ?_
  rcases bC (decide ((len cuts) > (70 : Int))) with hg3 | hg3
  ·replace h := br_t hg3 h
   refine Qn (cgb hg3) ?_
   refine Qe (Qb (sAs rfl rfl rfl ?_))
   refine nW [(10, some (vB true))] [] [] [10] [] [] rfl ?_
   exact Qo rfl rfl (resA (vs := [.bool true]) rfl ⟨rfl, trivial⟩) [] [] rfl rfl rfl ⟨rfl, rfl, rfl⟩
  ·replace h := br_f hg3 h
   refine Ql (cgb hg3) ?_
   refine Qr (Qe (Qb ?_))
   obtain ⟨memory1, hx3, h⟩ := ob_e h
   refine Qt rfl (QP (w_law26zmemory hx3) [] [] rfl rfl rfl rfl rfl callee12 rfl rfl rfl rfl) ?_
   rintro _ ⟨v1, _, _, ⟨_, rfl, rfl, rfl⟩, rfl⟩
   refine Yl (i := 1) rfl ?_
   obtain ⟨new1, hx4, h⟩ := ob_e h
   refine Qt rfl (QP (w_gmem_New hx4) [] [2] rfl rfl rfl rfl rfl callee11 rfl rfl rfl rfl) ?_
   rintro _ ⟨_, _, _, ⟨v2, rfl, rfl, rfl⟩, rfl⟩
   refine sMv rfl rfl rfl ?_
   refine Qa rfl (Qs rfl rfl rfl rfl rfl) ?_
   refine Qa rfl (Qs rfl rfl rfl rfl rfl) ?_
   refine sAs rfl rfl rfl ?_
   refine sAs rfl rfl rfl ?_
   refine nW [(1, some (vI atp1)), (2, some vcuts1), (3, some (vI off)), (4, some (vU64 feats)), (5, some (.pointer (some ⟨b1, 0, none⟩))), (11, some v2), (12, some (vI new1.2))] [some (Qd b1 37 [vU8 f.Dst.a0, vU8 f.Dst.a1, vU8 f.Dst.a2, vU8 f.Dst.a3, vU8 f.Dst.a4, vU8 f.Dst.a5, vU8 f.Src.a0, vU8 f.Src.a1, vU8 f.Src.a2, vU8 f.Src.a3, vU8 f.Src.a4, vU8 f.Src.a5, vI f.Vlan, vU16 f.Type_, vf1]), some (optR 82 Qf u8S true gmem_Mem.l gmem_Mem.b v2 new1.1)] [Fact.sl u8S vf1 f.Data, Fact.sl iS vcuts1 cuts] [1, 2, 3, 4, 5, 11, 12] [0, 2] [0, 1] rfl ?_
   rcases onO_cases h with ⟨ho1, h⟩ | ⟨mem1, ho1, h⟩
   ·cases h
   ·refine Tk_optS (i := 1) rfl ho1 ?_
    rintro b2 v3 v4 vs1 rfl
    refine Qe (Qb ?_)
    obtain ⟨memory2, hx5, h⟩ := ob_e h
    refine Qt rfl (QP (w_law26zmemory hx5) [] [] rfl rfl rfl rfl rfl callee12 rfl rfl rfl rfl) ?_
    rintro _ ⟨v5, _, _, ⟨_, rfl, rfl, rfl⟩, rfl⟩
    refine Yl (i := 3) rfl ?_
    obtain ⟨new2, hx6, h⟩ := ob_e h
    refine Qt rfl (QP (w_ref_New02 hx6) [] [3] rfl rfl rfl rfl rfl callee13 rfl rfl rfl rfl) ?_
    rintro _ ⟨_, _, _, ⟨v6, rfl, rfl, rfl⟩, rfl⟩
    refine sMv rfl rfl rfl ?_
    refine Qa rfl (Qs rfl rfl rfl rfl rfl) ?_
    refine Qa rfl (Qs rfl rfl rfl rfl rfl) ?_
    refine sAs rfl rfl rfl ?_
    refine sAs rfl rfl rfl ?_
    refine nW [(1, some (vI atp1)), (2, some vcuts1), (3, some (vI off)), (4, some (vU64 feats)), (5, some (.pointer (some ⟨b1, 0, none⟩))), (11, some (.pointer (some ⟨b2, 0, none⟩))), (12, some (vI new1.2)), (13, some v6), (14, some (vI new2.2))] [some (Qd b1 37 [vU8 f.Dst.a0, vU8 f.Dst.a1, vU8 f.Dst.a2, vU8 f.Dst.a3, vU8 f.Dst.a4, vU8 f.Dst.a5, vU8 f.Src.a0, vU8 f.Src.a1, vU8 f.Src.a2, vU8 f.Src.a3, vU8 f.Src.a4, vU8 f.Src.a5, vI f.Vlan, vU16 f.Type_, vf1]), some (Qd b2 82 [v3, v4]), some (Qj u8S true v4 vs1 mem1.b none), some (optR 84 Qf u8S false dumbwaiterref02_Mem.L dumbwaiterref02_Mem.B v6 new2.1)] [Fact.sl u8S vf1 f.Data, Fact.sl iS vcuts1 cuts, Fact.sl Qf v3 mem1.l] [1, 2, 3, 4, 5, 11, 12, 13, 14] [0, 1, 2, 4] [0, 1, 2] rfl ?_
    rcases onO_cases h with ⟨ho2, h⟩ | ⟨mem2, ho2, h⟩
    ·cases h
    ·refine Tk_optS (i := 3) rfl ho2 ?_
     rintro b3 v7 v8 vs2 rfl
     refine Qe (Qe (Qb (sMv rfl rfl rfl ?_)))
     refine Qa rfl (Qg rfl rfl rfl rfl rfl (QN (a := new1.2) (b := (0 : Int)))) ?_
     refine sMv rfl rfl rfl ?_
     obtain ⟨hg4, h⟩ := Zg h
     replace hg4 := not_t hg4
     refine Qi rfl rfl (cgb hg4) (Qk rfl rfl rfl rfl) ?_
     rintro _ rfl
     refine Qi rfl rfl (cgb hg4) (Qg rfl rfl rfl rfl rfl (QN (a := new2.2) (b := (0 : Int)))) ?_
     rintro _ rfl
     refine Qa rfl (Qu rfl rfl rfl (cgb hg4) rfl) ?_
     refine nW [(1, some (vI atp1)), (2, some vcuts1), (3, some (vI off)), (4, some (vU64 feats)), (5, some (.pointer (some ⟨b1, 0, none⟩))), (11, some (.pointer (some ⟨b2, 0, none⟩))), (13, some (.pointer (some ⟨b3, 0, none⟩))), (44, some (vB (new2.2 != (0 : Int))))] [some (Qd b1 37 [vU8 f.Dst.a0, vU8 f.Dst.a1, vU8 f.Dst.a2, vU8 f.Dst.a3, vU8 f.Dst.a4, vU8 f.Dst.a5, vU8 f.Src.a0, vU8 f.Src.a1, vU8 f.Src.a2, vU8 f.Src.a3, vU8 f.Src.a4, vU8 f.Src.a5, vI f.Vlan, vU16 f.Type_, vf1]), some (Qd b2 82 [v3, v4]), some (Qj u8S true v4 vs1 mem1.b none), some (Qd b3 84 [v7, v8]), some (Qj u8S false v8 vs2 mem2.B none)] [Fact.sl u8S vf1 f.Data, Fact.sl iS vcuts1 cuts, Fact.sl Qf v3 mem1.l, Fact.sl Qf v7 mem2.L] [1, 2, 3, 4, 5, 11, 13, 44] [0, 1, 2, 3, 4] [0, 1, 2, 3] rfl ?_
     obtain ⟨hg5, h⟩ := Zg h
     replace hg5 := not_t hg5
     refine Ql (cgb hg5) ?_
     refine Qr (Qe (Qb (sMv rfl rfl rfl ?_)))
     obtain ⟨pick1, hx7, h⟩ := ob_e h
     refine Qt rfl (QP (w_kit_Pick hx7) [] [] rfl rfl rfl rfl rfl callee14 rfl rfl rfl rfl) ?_
     rintro _ ⟨_, _, _, ⟨rfl, rfl, rfl⟩, rfl⟩
     refine Qa rfl (QF rfl rfl rfl rfl (Yi (n := pick1) Try.underlying3 Try.underlying22)) ?_
     refine sAs rfl rfl rfl ?_
     refine nW [(2, some vcuts1), (3, some (vI off)), (4, some (vU64 feats)), (5, some (.pointer (some ⟨b1, 0, none⟩))), (11, some (.pointer (some ⟨b2, 0, none⟩))), (13, some (.pointer (some ⟨b3, 0, none⟩))), (15, some (vU64 (u64 pick1)))] [some (Qd b1 37 [vU8 f.Dst.a0, vU8 f.Dst.a1, vU8 f.Dst.a2, vU8 f.Dst.a3, vU8 f.Dst.a4, vU8 f.Dst.a5, vU8 f.Src.a0, vU8 f.Src.a1, vU8 f.Src.a2, vU8 f.Src.a3, vU8 f.Src.a4, vU8 f.Src.a5, vI f.Vlan, vU16 f.Type_, vf1]), some (Qd b2 82 [v3, v4]), some (Qj u8S true v4 vs1 mem1.b none), some (Qd b3 84 [v7, v8]), some (Qj u8S false v8 vs2 mem2.B none)] [Fact.sl u8S vf1 f.Data, Fact.sl iS vcuts1 cuts, Fact.sl Qf v3 mem1.l, Fact.sl Qf v7 mem2.L] [2, 3, 4, 5, 11, 13, 15] [0, 1, 2, 3, 4] [0, 1, 2, 3] rfl ?_
     refine Qe (Qb (sMv rfl rfl rfl ?_))
     refine sMv rfl rfl rfl ?_
     refine Qa rfl (Za (vs := [vU8 f.Dst.a0, vU8 f.Dst.a1, vU8 f.Dst.a2, vU8 f.Dst.a3, vU8 f.Dst.a4, vU8 f.Dst.a5, vU8 f.Src.a0, vU8 f.Src.a1, vU8 f.Src.a2, vU8 f.Src.a3, vU8 f.Src.a4, vU8 f.Src.a5, vI f.Vlan, vU16 f.Type_, vf1]) rfl rfl rfl rfl Zs (i := 0) rfl rfl rfl) ?_
     refine sMv rfl rfl rfl ?_
     obtain ⟨lay1, hx8, h⟩ := ob_e h
     refine Qt rfl (QS [0, 5, 6, 3, 4, 7] (w_netdrv_Lay hx8) [1, 2] [2, 0, 1] rfl rfl rfl rfl rfl callee15 rfl rfl rfl rfl rfl) ?_
     rintro _ ⟨_, _, _, ⟨v9, rfl, rfl, rfl⟩, rfl⟩
     refine sMv rfl rfl rfl ?_
     refine Qa rfl (Qs rfl rfl rfl rfl rfl) ?_
     refine Qa rfl (Qs rfl rfl rfl rfl rfl) ?_
     refine sAs rfl rfl rfl ?_
     refine sAs rfl rfl rfl ?_
     refine nW [(2, some vcuts1), (3, some (vI off)), (4, some (vU64 feats)), (5, some (.pointer (some ⟨b1, 0, none⟩))), (11, some (.pointer (some ⟨b2, 0, none⟩))), (13, some (.pointer (some ⟨b3, 0, none⟩))), (15, some (vU64 (u64 pick1))), (16, some v9), (12, some (vI lay1.2.1))] [some (Qd b1 37 [vU8 f.Dst.a0, vU8 f.Dst.a1, vU8 f.Dst.a2, vU8 f.Dst.a3, vU8 f.Dst.a4, vU8 f.Dst.a5, vU8 f.Src.a0, vU8 f.Src.a1, vU8 f.Src.a2, vU8 f.Src.a3, vU8 f.Src.a4, vU8 f.Src.a5, vI f.Vlan, vU16 f.Type_, vf1]), some (Qd b2 82 [v3, v4]), some (Qj u8S true v4 vs1 lay1.2.2 none), some (Qd b3 84 [v7, v8]), some (Qj u8S false v8 vs2 mem2.B none), some (rowS SegS v9 lay1.1)] [Fact.sl u8S vf1 f.Data, Fact.sl iS vcuts1 cuts, Fact.sl Qf v3 mem1.l, Fact.sl Qf v7 mem2.L] [2, 3, 4, 5, 11, 13, 15, 16, 12] [0, 1, 2, 3, 4, 5] [0, 1, 2, 3] rfl ?_
     refine Qe (Qe (Qb (sMv rfl rfl rfl ?_)))
     refine Qa rfl (Qg rfl rfl rfl rfl rfl (QN (a := lay1.2.1) (b := (0 : Int)))) ?_
     refine sMv rfl rfl rfl ?_
     obtain ⟨hg6, h⟩ := Zg h
     replace hg6 := not_t hg6
     refine Qi rfl rfl (cgb hg6) (Qk rfl rfl rfl rfl) ?_
     rintro _ rfl
     refine Qi rfl rfl (cgb hg6) (Qk rfl rfl rfl rfl) ?_
     rintro _ rfl
     obtain ⟨image1, hx9, h⟩ := ob_e h
     refine Qi rfl rfl (cgb hg6) (QS [0, 6, 7, 3, 4, 5, 8] (w_gmem_Mem_Image hx9) [1, 2] [2] rfl rfl rfl rfl rfl callee17 rfl rfl rfl rfl rfl) ?_
     rintro _ ⟨v10, _, _, ⟨_, rfl, rfl, rfl⟩, rfl⟩
     obtain ⟨write1, hx10, h⟩ := ob_e h
     refine Qi rfl rfl (cgb hg6) (QX [6] [0, 1, 2, 7, 8, 5, 6] (w_ref_Mem_Write02 hx10) [3, 4] rfl rfl rfl rfl rfl callee16 rfl rfl rfl rfl rfl rfl (QM (YH 3 rfl) (QM (ZA 6 rfl rfl) ZB)) (by rintro _ _ _ ⟨rfl, rfl, rfl⟩; exact ⟨rfl, (Zj (Ka _ _ _) (Zj (ri_rows rfl _ _ _ _ _) Xa))⟩)) ?_
     rintro _ ⟨_, _, _, ⟨rfl, rfl, rfl⟩, rfl⟩
     refine Qi rfl rfl (cgb hg6) (Qg rfl rfl rfl rfl rfl (QN (a := write1.1) (b := (0 : Int)))) ?_
     rintro _ rfl
     refine Qa rfl (Qu rfl rfl rfl (cgb hg6) rfl) ?_
     refine nW [(2, some vcuts1), (3, some (vI off)), (4, some (vU64 feats)), (5, some (.pointer (some ⟨b1, 0, none⟩))), (11, some (.pointer (some ⟨b2, 0, none⟩))), (13, some (.pointer (some ⟨b3, 0, none⟩))), (15, some (vU64 (u64 pick1))), (16, some v9), (64, some (vB (write1.1 != (0 : Int))))] [some (Qd b1 37 [vU8 f.Dst.a0, vU8 f.Dst.a1, vU8 f.Dst.a2, vU8 f.Dst.a3, vU8 f.Dst.a4, vU8 f.Dst.a5, vU8 f.Src.a0, vU8 f.Src.a1, vU8 f.Src.a2, vU8 f.Src.a3, vU8 f.Src.a4, vU8 f.Src.a5, vI f.Vlan, vU16 f.Type_, vf1]), some (Qd b2 82 [v3, v4]), some (Qj u8S true v4 vs1 lay1.2.2 none), some (Qd b3 84 [v7, v8]), some (Qj u8S false v8 vs2 write1.2 none), some (rowS SegS v9 lay1.1)] [Fact.sl u8S vf1 f.Data, Fact.sl iS vcuts1 cuts, Fact.sl Qf v3 mem1.l, Fact.sl Qf v7 mem2.L] [2, 3, 4, 5, 11, 13, 15, 16, 64] [0, 1, 2, 3, 4, 5] [0, 1, 2, 3] rfl ?_
     obtain ⟨hg7, h⟩ := Zg h
     replace hg7 := not_t hg7
     refine Ql (cgb hg7) ?_
     refine Qr (Qe (Qb (sMv rfl rfl rfl ?_)))
     refine sMv rfl rfl rfl ?_
     refine sMv rfl rfl rfl ?_
     obtain ⟨sent1, hx11, h⟩ := ob_e h
     refine Qt rfl (QX [5] [0, 1, 2, 6, 7, 5, 8] (w_ref_Sent25 hx11) [3, 4] rfl rfl rfl rfl rfl callee18 rfl rfl rfl rfl rfl rfl (QM (YH 3 rfl) (QM (ZA 5 rfl rfl) ZB)) (by rintro _ _ _ ⟨_, rfl, rfl, rfl⟩; exact ⟨rfl, (Zj (Ka _ _ _) (Zj (ri_rows rfl _ _ _ _ _) (Zj (YK (S := u8S) rfl _ _) Xa)))⟩)) ?_
     rintro _ ⟨_, _, _, ⟨v11, rfl, rfl, rfl⟩, rfl⟩
     refine sMv rfl rfl rfl ?_
     refine Qa rfl (Qs rfl rfl rfl rfl rfl) ?_
     refine Qa rfl (Qs rfl rfl rfl rfl rfl) ?_
     refine Qq rfl (Zh rfl rfl rfl tyZ37) fun b4 => ?_
     refine Qa rfl (Xu (fun z0 => [vU8 sent1.1.Dst.a0, vU8 sent1.1.Dst.a1, vU8 sent1.1.Dst.a2, vU8 sent1.1.Dst.a3, vU8 sent1.1.Dst.a4, vU8 sent1.1.Dst.a5, vU8 sent1.1.Src.a0, vU8 sent1.1.Src.a1, vU8 sent1.1.Src.a2, vU8 sent1.1.Src.a3, vU8 sent1.1.Src.a4, vU8 sent1.1.Src.a5, vI sent1.1.Vlan, vU16 sent1.1.Type_, z0]) (cs' := [vU8 sent1.1.Dst.a0, vU8 sent1.1.Dst.a1, vU8 sent1.1.Dst.a2, vU8 sent1.1.Dst.a3, vU8 sent1.1.Dst.a4, vU8 sent1.1.Dst.a5, vU8 sent1.1.Src.a0, vU8 sent1.1.Src.a1, vU8 sent1.1.Src.a2, vU8 sent1.1.Src.a3, vU8 sent1.1.Src.a4, vU8 sent1.1.Src.a5, vI sent1.1.Vlan, vU16 sent1.1.Type_, v11]) rfl rfl rfl rfl Zs (i := 7) rfl (Yy (i := 6) rfl) (fun _ _ _ => rfl) rfl rfl rfl) ?_
     refine sAs rfl rfl rfl ?_
     refine nW [(2, some vcuts1), (3, some (vI off)), (5, some (.pointer (some ⟨b1, 0, none⟩))), (11, some (.pointer (some ⟨b2, 0, none⟩))), (13, some (.pointer (some ⟨b3, 0, none⟩))), (15, some (vU64 (u64 pick1))), (17, some (.pointer (some ⟨b4, 0, none⟩))), (14, some (vI sent1.2))] [some (Qd b1 37 [vU8 f.Dst.a0, vU8 f.Dst.a1, vU8 f.Dst.a2, vU8 f.Dst.a3, vU8 f.Dst.a4, vU8 f.Dst.a5, vU8 f.Src.a0, vU8 f.Src.a1, vU8 f.Src.a2, vU8 f.Src.a3, vU8 f.Src.a4, vU8 f.Src.a5, vI f.Vlan, vU16 f.Type_, vf1]), some (Qd b2 82 [v3, v4]), some (Qj u8S true v4 vs1 lay1.2.2 none), some (Qd b3 84 [v7, v8]), some (Qj u8S false v8 vs2 write1.2 none), some (rowS u8S v11 sent1.1.Data), some (Qd b4 37 [vU8 sent1.1.Dst.a0, vU8 sent1.1.Dst.a1, vU8 sent1.1.Dst.a2, vU8 sent1.1.Dst.a3, vU8 sent1.1.Dst.a4, vU8 sent1.1.Dst.a5, vU8 sent1.1.Src.a0, vU8 sent1.1.Src.a1, vU8 sent1.1.Src.a2, vU8 sent1.1.Src.a3, vU8 sent1.1.Src.a4, vU8 sent1.1.Src.a5, vI sent1.1.Vlan, vU16 sent1.1.Type_, v11])] [Fact.sl u8S vf1 f.Data, Fact.sl iS vcuts1 cuts, Fact.sl Qf v3 mem1.l, Fact.sl Qf v7 mem2.L] [2, 3, 5, 11, 13, 15, 17, 14] [0, 1, 2, 3, 4, 6, 7] [0, 1, 2, 3] rfl ?_
     refine Qe (Qe (Qb (sMv rfl rfl rfl ?_)))
     refine Qa rfl (Qg rfl rfl rfl rfl rfl (QN (a := sent1.2) (b := (0 : Int)))) ?_
     refine sMv rfl rfl rfl ?_
     obtain ⟨hg8, h⟩ := Zg h
     replace hg8 := not_t hg8
     refine Qi rfl rfl (cgb hg8) (Za (vs := [vU8 sent1.1.Dst.a0, vU8 sent1.1.Dst.a1, vU8 sent1.1.Dst.a2, vU8 sent1.1.Dst.a3, vU8 sent1.1.Dst.a4, vU8 sent1.1.Dst.a5, vU8 sent1.1.Src.a0, vU8 sent1.1.Src.a1, vU8 sent1.1.Src.a2, vU8 sent1.1.Src.a3, vU8 sent1.1.Src.a4, vU8 sent1.1.Src.a5, vI sent1.1.Vlan, vU16 sent1.1.Type_, v11]) rfl rfl rfl rfl Zs (i := 6) rfl rfl rfl) ?_
     rintro _ rfl
     refine Qi rfl rfl (cgb hg8) (Za (vs := [vU8 f.Dst.a0, vU8 f.Dst.a1, vU8 f.Dst.a2, vU8 f.Dst.a3, vU8 f.Dst.a4, vU8 f.Dst.a5, vU8 f.Src.a0, vU8 f.Src.a1, vU8 f.Src.a2, vU8 f.Src.a3, vU8 f.Src.a4, vU8 f.Src.a5, vI f.Vlan, vU16 f.Type_, vf1]) rfl rfl rfl rfl Zs (i := 0) rfl rfl rfl) ?_
     rintro _ rfl
     obtain ⟨frame1, hx12, h⟩ := ob_e h
     refine Qi rfl rfl (cgb hg8) (QX [5] [0, 1, 2, 3, 4, 5, 6] (w_kit_Frame hx12) [] rfl rfl rfl rfl rfl callee19 rfl rfl rfl rfl rfl rfl (QM (ZA 5 rfl rfl) (QM (YH 0 rfl) ZB)) (by rintro _ _ _ ⟨rfl, rfl, rfl⟩; exact ⟨rfl, Xa⟩)) ?_
     rintro _ ⟨_, _, _, ⟨rfl, rfl, rfl⟩, rfl⟩
     refine Qi rfl rfl (cgb hg8) (Kn rfl rfl rfl rfl) ?_
     rintro _ rfl
     refine Qa rfl (Qu rfl rfl rfl (cgb hg8) rfl) ?_
     refine nW [(2, some vcuts1), (3, some (vI off)), (5, some (.pointer (some ⟨b1, 0, none⟩))), (11, some (.pointer (some ⟨b2, 0, none⟩))), (13, some (.pointer (some ⟨b3, 0, none⟩))), (15, some (vU64 (u64 pick1))), (17, some (.pointer (some ⟨b4, 0, none⟩))), (79, some (vB (!frame1)))] [some (Qd b1 37 [vU8 f.Dst.a0, vU8 f.Dst.a1, vU8 f.Dst.a2, vU8 f.Dst.a3, vU8 f.Dst.a4, vU8 f.Dst.a5, vU8 f.Src.a0, vU8 f.Src.a1, vU8 f.Src.a2, vU8 f.Src.a3, vU8 f.Src.a4, vU8 f.Src.a5, vI f.Vlan, vU16 f.Type_, vf1]), some (Qd b2 82 [v3, v4]), some (Qj u8S true v4 vs1 lay1.2.2 none), some (Qd b3 84 [v7, v8]), some (Qj u8S false v8 vs2 write1.2 none), some (rowS u8S v11 sent1.1.Data), some (Qd b4 37 [vU8 sent1.1.Dst.a0, vU8 sent1.1.Dst.a1, vU8 sent1.1.Dst.a2, vU8 sent1.1.Dst.a3, vU8 sent1.1.Dst.a4, vU8 sent1.1.Dst.a5, vU8 sent1.1.Src.a0, vU8 sent1.1.Src.a1, vU8 sent1.1.Src.a2, vU8 sent1.1.Src.a3, vU8 sent1.1.Src.a4, vU8 sent1.1.Src.a5, vI sent1.1.Vlan, vU16 sent1.1.Type_, v11])] [Fact.sl u8S vf1 f.Data, Fact.sl iS vcuts1 cuts, Fact.sl Qf v3 mem1.l, Fact.sl Qf v7 mem2.L] [2, 3, 5, 11, 13, 15, 17, 79] [0, 1, 2, 3, 4, 5, 6] [0, 1, 2, 3] rfl ?_
     obtain ⟨hg9, h⟩ := Zg h
     replace hg9 := not_t hg9
     refine Ql (cgb hg9) ?_
     refine Qr (Qe (Qe (Qb (Qa rfl (Qm rfl rfl rfl rfl ZX) ?_))))
     refine Qa rfl (Qp rfl rfl rfl rfl Yw (i := 0) rfl rfl) ?_
     refine Qa rfl (QL rfl rfl rfl rfl Try.underlying35 (i := 0) rfl) ?_
     refine Qa rfl (Qg rfl rfl rfl rfl rfl (QJ (a := len f.Data) (b := (2 : Int)))) ?_
     refine nW [(2, some vcuts1), (3, some (vI off)), (5, some (.pointer (some ⟨b1, 0, none⟩))), (11, some (.pointer (some ⟨b2, 0, none⟩))), (13, some (.pointer (some ⟨b3, 0, none⟩))), (15, some (vU64 (u64 pick1))), (17, some (.pointer (some ⟨b4, 0, none⟩))), (83, some (vB (decide ((len f.Data) < (2 : Int)))))] [some (Qd b1 37 [vU8 f.Dst.a0, vU8 f.Dst.a1, vU8 f.Dst.a2, vU8 f.Dst.a3, vU8 f.Dst.a4, vU8 f.Dst.a5, vU8 f.Src.a0, vU8 f.Src.a1, vU8 f.Src.a2, vU8 f.Src.a3, vU8 f.Src.a4, vU8 f.Src.a5, vI f.Vlan, vU16 f.Type_, vf1]), some (Qd b2 82 [v3, v4]), some (Qj u8S true v4 vs1 lay1.2.2 none), some (Qd b3 84 [v7, v8]), some (Qj u8S false v8 vs2 write1.2 none), some (rowS u8S v11 sent1.1.Data), some (Qd b4 37 [vU8 sent1.1.Dst.a0, vU8 sent1.1.Dst.a1, vU8 sent1.1.Dst.a2, vU8 sent1.1.Dst.a3, vU8 sent1.1.Dst.a4, vU8 sent1.1.Dst.a5, vU8 sent1.1.Src.a0, vU8 sent1.1.Src.a1, vU8 sent1.1.Src.a2, vU8 sent1.1.Src.a3, vU8 sent1.1.Src.a4, vU8 sent1.1.Src.a5, vI sent1.1.Vlan, vU16 sent1.1.Type_, v11])] [Fact.sl u8S vf1 f.Data, Fact.sl iS vcuts1 cuts, Fact.sl Qf v3 mem1.l, Fact.sl Qf v7 mem2.L] [2, 3, 5, 11, 13, 15, 17, 83] [0, 1, 2, 3, 4, 5, 6] [0, 1, 2, 3] rfl ?_
     rcases bC (decide ((len f.Data) < (2 : Int))) with hg10 | hg10
     ·replace h := br_t hg10 h
      refine Qn (cgb hg10) ?_
      refine Qe (Qb (sAs rfl rfl rfl ?_))
      refine nW [(10, some (vB true))] [] [] [10] [] [] rfl ?_
      exact Qo rfl rfl (resA (vs := [.bool true]) rfl ⟨rfl, trivial⟩) [] [] rfl rfl rfl ⟨rfl, rfl, rfl⟩
     ·replace h := br_f hg10 h
      refine Ql (cgb hg10) ?_
      refine Qr (Qe (Qb (Qa rfl (Qm rfl rfl rfl rfl ZX) ?_)))
      refine Qa rfl (Qp rfl rfl rfl rfl Yw (i := 0) rfl rfl) ?_
      refine Qa rfl (Qm rfl rfl rfl rfl ZX) ?_
      refine Qa rfl (Qp rfl rfl rfl rfl Yw (i := 0) rfl rfl) ?_
      refine Qa rfl (QL rfl rfl rfl rfl Try.underlying35 (i := 0) rfl) ?_
      refine Qa rfl (Qg rfl rfl rfl rfl rfl (bin_quo_i (a := len f.Data) (b := (2 : Int)) rfl)) ?_
      refine Qa rfl (Qg rfl rfl rfl rfl rfl (bin_mul_i (a := quoi (len f.Data) (2 : Int)) (b := (2 : Int)))) ?_
      obtain ⟨hc1, h⟩ := Zg h
      refine Qq rfl (OpT_sliceH (m := wi ((quoi (len f.Data) (2 : Int)) * (2 : Int))) rfl rfl rfl rfl rfl Zf (i := 0) rfl hc1) fun v12 => ?_
      obtain ⟨own1, hx13, h⟩ := ob_e h
      refine Qt rfl (QP (w_kit_Own hx13) [] [4] rfl rfl rfl rfl rfl callee20 rfl rfl rfl rfl) ?_
      rintro _ ⟨v13, _, _, ⟨_, rfl, rfl, rfl⟩, rfl⟩
      refine Qa rfl (Qm rfl rfl rfl rfl ZX) ?_
      refine Qa rfl (YQ (cs' := [vU8 f.Dst.a0, vU8 f.Dst.a1, vU8 f.Dst.a2, vU8 f.Dst.a3, vU8 f.Dst.a4, vU8 f.Dst.a5, vU8 f.Src.a0, vU8 f.Src.a1, vU8 f.Src.a2, vU8 f.Src.a3, vU8 f.Src.a4, vU8 f.Src.a5, vI f.Vlan, vU16 f.Type_, v13]) rfl rfl rfl rfl Yw (i := 0) rfl (Yy (i := 7) rfl) rfl rfl) ?_
      refine nW [(2, some vcuts1), (3, some (vI off)), (5, some (.pointer (some ⟨b1, 0, none⟩))), (11, some (.pointer (some ⟨b2, 0, none⟩))), (13, some (.pointer (some ⟨b3, 0, none⟩))), (15, some (vU64 (u64 pick1))), (17, some (.pointer (some ⟨b4, 0, none⟩)))] [some (Qd b1 37 [vU8 f.Dst.a0, vU8 f.Dst.a1, vU8 f.Dst.a2, vU8 f.Dst.a3, vU8 f.Dst.a4, vU8 f.Dst.a5, vU8 f.Src.a0, vU8 f.Src.a1, vU8 f.Src.a2, vU8 f.Src.a3, vU8 f.Src.a4, vU8 f.Src.a5, vI f.Vlan, vU16 f.Type_, v13]), some (Qd b2 82 [v3, v4]), some (Qj u8S true v4 vs1 lay1.2.2 none), some (Qd b3 84 [v7, v8]), some (Qj u8S false v8 vs2 write1.2 none), some (rowS u8S v11 sent1.1.Data), some (Qd b4 37 [vU8 sent1.1.Dst.a0, vU8 sent1.1.Dst.a1, vU8 sent1.1.Dst.a2, vU8 sent1.1.Dst.a3, vU8 sent1.1.Dst.a4, vU8 sent1.1.Dst.a5, vU8 sent1.1.Src.a0, vU8 sent1.1.Src.a1, vU8 sent1.1.Src.a2, vU8 sent1.1.Src.a3, vU8 sent1.1.Src.a4, vU8 sent1.1.Src.a5, vI sent1.1.Vlan, vU16 sent1.1.Type_, v11]), some (rowS u8S v13 own1)] [Fact.sl iS vcuts1 cuts, Fact.sl Qf v3 mem1.l, Fact.sl Qf v7 mem2.L] [2, 3, 5, 11, 13, 15, 17] [0, 1, 2, 3, 4, 5, 6, 7] [1, 2, 3] rfl ?_
      refine Qe (Qb (sMv rfl rfl rfl ?_))
      refine Qa rfl (Qm rfl rfl rfl rfl ZX) ?_
      refine Qa rfl (Qp rfl rfl rfl rfl Yw (i := 0) rfl rfl) ?_
      refine Qa rfl (YB rfl rfl rfl rfl Try.underlying35 (i := 7) rfl) ?_
      refine Qa rfl (Qg rfl rfl rfl rfl rfl (bin_quo_i (a := len own1) (b := (2 : Int)) rfl)) ?_
      obtain ⟨pick2, hx14, h⟩ := ob_e h
      refine Qt rfl (QP (w_kit_Pick hx14) [] [] rfl rfl rfl rfl rfl callee14 rfl rfl rfl rfl) ?_
      rintro _ ⟨_, _, _, ⟨rfl, rfl, rfl⟩, rfl⟩
      refine Qa rfl (Qg rfl rfl rfl rfl rfl (bin_mul_i (a := (2 : Int)) (b := pick2))) ?_
      refine sAs rfl rfl rfl ?_
      refine nW [(2, some vcuts1), (5, some (.pointer (some ⟨b1, 0, none⟩))), (11, some (.pointer (some ⟨b2, 0, none⟩))), (13, some (.pointer (some ⟨b3, 0, none⟩))), (15, some (vU64 (u64 pick1))), (17, some (.pointer (some ⟨b4, 0, none⟩))), (18, some (vI (wi ((2 : Int) * pick2))))] [some (Qd b1 37 [vU8 f.Dst.a0, vU8 f.Dst.a1, vU8 f.Dst.a2, vU8 f.Dst.a3, vU8 f.Dst.a4, vU8 f.Dst.a5, vU8 f.Src.a0, vU8 f.Src.a1, vU8 f.Src.a2, vU8 f.Src.a3, vU8 f.Src.a4, vU8 f.Src.a5, vI f.Vlan, vU16 f.Type_, v13]), some (Qd b2 82 [v3, v4]), some (Qj u8S true v4 vs1 lay1.2.2 none), some (Qd b3 84 [v7, v8]), some (Qj u8S false v8 vs2 write1.2 none), some (rowS u8S v11 sent1.1.Data), some (Qd b4 37 [vU8 sent1.1.Dst.a0, vU8 sent1.1.Dst.a1, vU8 sent1.1.Dst.a2, vU8 sent1.1.Dst.a3, vU8 sent1.1.Dst.a4, vU8 sent1.1.Dst.a5, vU8 sent1.1.Src.a0, vU8 sent1.1.Src.a1, vU8 sent1.1.Src.a2, vU8 sent1.1.Src.a3, vU8 sent1.1.Src.a4, vU8 sent1.1.Src.a5, vI sent1.1.Vlan, vU16 sent1.1.Type_, v11]), some (rowS u8S v13 own1)] [Fact.sl iS vcuts1 cuts, Fact.sl Qf v3 mem1.l, Fact.sl Qf v7 mem2.L] [2, 5, 11, 13, 15, 17, 18] [0, 1, 2, 3, 4, 5, 6, 7] [0, 1, 2] rfl ?_
      refine Qe (Zp (by kernel_rfl) ?_)
      refine YI [0, 1, 0, 0, 8, 0, 32, 7, 135, 511, 1023] (by kernel_rfl) fun htb => ?_
      obtain ⟨y1, hx15, h⟩ := ob_e h
      refine Zr (lo := 0) (hi := 9) htb rfl rfl (by kernel_rfl) (fun c L a w => Sat c ⟨[(2, some vcuts1), (5, some (.pointer (some ⟨b1, 0, none⟩))), (11, some (.pointer (some ⟨b2, 0, none⟩))), (13, some (.pointer (some ⟨b3, 0, none⟩))), (15, some (vU64 (u64 pick1))), (17, some (.pointer (some ⟨b4, 0, none⟩))), (18, some (vI (wi ((2 : Int) * pick2)))), (101, bif L 0 then some (.pointer (some ⟨b1, 14, none⟩)) else none), (102, bif L 1 then some (v13) else none), (103, bif L 2 then some (vI (wi ((2 : Int) * pick2))) else none), (104, bif L 3 then some (.pointer (some ⟨b1, 14, none⟩)) else none), (105, bif L 4 then some (v13) else none), (106, bif L 5 then some (vI (wi ((2 : Int) * pick2))) else none), (107, bif L 6 then some (vI (wi ((wi ((2 : Int) * pick2)) + (1 : Int)))) else none), (108, bif L 7 then some (rowPtr v13 (Int.toNat (wi ((2 : Int) * pick2)) * 1)) else none)], [(some (Qd b1 37 [vU8 f.Dst.a0, vU8 f.Dst.a1, vU8 f.Dst.a2, vU8 f.Dst.a3, vU8 f.Dst.a4, vU8 f.Dst.a5, vU8 f.Src.a0, vU8 f.Src.a1, vU8 f.Src.a2, vU8 f.Src.a3, vU8 f.Src.a4, vU8 f.Src.a5, vI f.Vlan, vU16 f.Type_, v13]) : Option Res), (some (Qd b2 82 [v3, v4]) : Option Res), (some (Qj u8S true v4 vs1 lay1.2.2 none) : Option Res), (some (Qd b3 84 [v7, v8]) : Option Res), (some (Qj u8S false v8 vs2 write1.2 none) : Option Res), (some (rowS u8S v11 sent1.1.Data) : Option Res), (some (Qd b4 37 [vU8 sent1.1.Dst.a0, vU8 sent1.1.Dst.a1, vU8 sent1.1.Dst.a2, vU8 sent1.1.Dst.a3, vU8 sent1.1.Dst.a4, vU8 sent1.1.Dst.a5, vU8 sent1.1.Src.a0, vU8 sent1.1.Src.a1, vU8 sent1.1.Src.a2, vU8 sent1.1.Src.a3, vU8 sent1.1.Src.a4, vU8 sent1.1.Src.a5, vI sent1.1.Vlan, vU16 sent1.1.Type_, v11]) : Option Res), (bif L 8 then some (rowS u8S v13 (own1.set (wi ((2 : Int) * pick2)).toNat (0 : UInt8))) else some (rowS u8S v13 own1) : Option Res)], [Fact.sl iS vcuts1 cuts, Fact.sl Qf v3 mem1.l, Fact.sl Qf v7 mem2.L]⟩ a w) [([], [1, 7, 8]), ([0], [7, 8]), ([], [7, 8]), ([], [4]), ([3], []), ([], [6]), ([5], []), ([0, 1, 2], [8]), ([0, 1, 2, 7], [])] rfl (by kernel_rfl) ?_ (Qc ?_ (Qc ?_ (Qc ?_ (Qc ?_ (Qc ?_ (Qc ?_ (Qc ?_ (Qc ?_ (Qc ?_ (QI)))))))))) ?_
      ·intro a w hs
       exact hs.startF [101, 102, 103, 104, 105, 106, 107, 108] [0, 1, 2, 3, 4, 5, 6, 7] [0, 1, 2] rfl rfl rfl rfl
      ·intro L a w hs K Q hK
       exact wGo rfl rfl hs (Qm rfl rfl rfl rfl ZX) fun a w hs => hK a w (pF hs 7 [0, 1, 2, 3, 4, 5, 6, 7] [0, 1, 2] rfl)
      ·intro L a w hs K Q hK
       exact wGo rfl rfl hs (Qp rfl rfl rfl rfl Yw (i := 0) rfl rfl) fun a w hs => hK a w (pF hs 8 [0, 1, 2, 3, 4, 5, 6, 7] [0, 1, 2] rfl)
      ·intro L a w hs K Q hK
       exact wGo rfl rfl hs (Qk rfl rfl rfl rfl) fun a w hs => hK a w (pF hs 9 [0, 1, 2, 3, 4, 5, 6, 7] [0, 1, 2] rfl)
      ·intro L a w hs K Q hK
       exact wGo rfl rfl hs (Qm rfl rfl rfl rfl ZX) fun a w hs => hK a w (pF hs 10 [0, 1, 2, 3, 4, 5, 6, 7] [0, 1, 2] rfl)
      ·intro L a w hs K Q hK
       exact wGo rfl rfl hs (Qp rfl rfl rfl rfl Yw (i := 0) rfl rfl) fun a w hs => hK a w (pF hs 11 [0, 1, 2, 3, 4, 5, 6, 7] [0, 1, 2] rfl)
      ·intro L a w hs K Q hK
       exact wGo rfl rfl hs (Qk rfl rfl rfl rfl) fun a w hs => hK a w (pF hs 12 [0, 1, 2, 3, 4, 5, 6, 7] [0, 1, 2] rfl)
      ·intro L a w hs K Q hK
       exact wGo rfl rfl hs (Qg rfl rfl rfl rfl rfl (Qx (a := wi ((2 : Int) * pick2)) (b := (1 : Int)))) fun a w hs => hK a w (pF hs 13 [0, 1, 2, 3, 4, 5, 6, 7] [0, 1, 2] rfl)
      ·intro L a w hs K Q hK
       exact wGo rfl rfl hs (OpT_idxO rfl rfl rfl rfl rfl Zf (i := 7) rfl hx15) fun a w hs => hK a w (pF hs 14 [0, 1, 2, 3, 4, 5, 6, 7] [0, 1, 2] rfl)
      ·intro L a w hs K Q hK
       exact wGo rfl rfl hs (OpT_storeO (S := u8S) (u := (0 : UInt8)) rfl rfl rfl rfl rfl tyF5 (i := 7) rfl hx15 rfl) fun a w hs => hK a w (hs.sameF [0, 1, 2, 3, 4, 5, 6, 7] [0, 1, 2] rfl rfl rfl rfl)
      ·intro L a w hL hv
       rw [QZ hL] at hv
       have hs := hv
       refine (show TA _ _ _ 9 ⟨[(2, some vcuts1), (5, some (.pointer (some ⟨b1, 0, none⟩))), (11, some (.pointer (some ⟨b2, 0, none⟩))), (13, some (.pointer (some ⟨b3, 0, none⟩))), (15, some (vU64 (u64 pick1))), (17, some (.pointer (some ⟨b4, 0, none⟩))), (18, some (vI (wi ((2 : Int) * pick2)))), (105, some v13), (107, some (vI (wi ((wi ((2 : Int) * pick2)) + (1 : Int)))))], [some (Qd b1 37 [vU8 f.Dst.a0, vU8 f.Dst.a1, vU8 f.Dst.a2, vU8 f.Dst.a3, vU8 f.Dst.a4, vU8 f.Dst.a5, vU8 f.Src.a0, vU8 f.Src.a1, vU8 f.Src.a2, vU8 f.Src.a3, vU8 f.Src.a4, vU8 f.Src.a5, vI f.Vlan, vU16 f.Type_, v13]), some (Qd b2 82 [v3, v4]), some (Qj u8S true v4 vs1 lay1.2.2 none), some (Qd b3 84 [v7, v8]), some (Qj u8S false v8 vs2 write1.2 none), some (rowS u8S v11 sent1.1.Data), some (Qd b4 37 [vU8 sent1.1.Dst.a0, vU8 sent1.1.Dst.a1, vU8 sent1.1.Dst.a2, vU8 sent1.1.Dst.a3, vU8 sent1.1.Dst.a4, vU8 sent1.1.Dst.a5, vU8 sent1.1.Src.a0, vU8 sent1.1.Src.a1, vU8 sent1.1.Src.a2, vU8 sent1.1.Src.a3, vU8 sent1.1.Src.a4, vU8 sent1.1.Src.a5, vI sent1.1.Vlan, vU16 sent1.1.Type_, v11]), some (rowS u8S v13 (own1.set (wi ((2 : Int) * pick2)).toNat (0 : UInt8)))], [Fact.sl iS vcuts1 cuts, Fact.sl Qf v3 mem1.l, Fact.sl Qf v7 mem2.L]⟩ from ?_) a w (hs.wkS [2, 5, 11, 13, 15, 17, 18, 105, 107] [0, 1, 2, 3, 4, 5, 6, 7] [0, 1, 2] rfl rfl rfl rfl)
       clear hs hL
       obtain ⟨y2, hx16, h⟩ := ob_e h
       refine QG htb (by kernel_rfl) rfl rfl (OpT_idxO rfl rfl rfl rfl rfl Zf (i := 7) rfl hx16) ?_
       refine QG htb (by kernel_rfl) rfl rfl (OpT_storeO (S := u8S) (u := (0 : UInt8)) rfl rfl rfl rfl rfl tyF5 (i := 7) rfl hx16 rfl) ?_
       refine ZP rfl ?_
       refine tW [(2, some vcuts1), (5, some (.pointer (some ⟨b1, 0, none⟩))), (11, some (.pointer (some ⟨b2, 0, none⟩))), (13, some (.pointer (some ⟨b3, 0, none⟩))), (15, some (vU64 (u64 pick1))), (17, some (.pointer (some ⟨b4, 0, none⟩))), (18, some (vI (wi ((2 : Int) * pick2))))] [some (Qd b1 37 [vU8 f.Dst.a0, vU8 f.Dst.a1, vU8 f.Dst.a2, vU8 f.Dst.a3, vU8 f.Dst.a4, vU8 f.Dst.a5, vU8 f.Src.a0, vU8 f.Src.a1, vU8 f.Src.a2, vU8 f.Src.a3, vU8 f.Src.a4, vU8 f.Src.a5, vI f.Vlan, vU16 f.Type_, v13]), some (Qd b2 82 [v3, v4]), some (Qj u8S true v4 vs1 lay1.2.2 none), some (Qd b3 84 [v7, v8]), some (Qj u8S false v8 vs2 write1.2 none), some (rowS u8S v11 sent1.1.Data), some (Qd b4 37 [vU8 sent1.1.Dst.a0, vU8 sent1.1.Dst.a1, vU8 sent1.1.Dst.a2, vU8 sent1.1.Dst.a3, vU8 sent1.1.Dst.a4, vU8 sent1.1.Dst.a5, vU8 sent1.1.Src.a0, vU8 sent1.1.Src.a1, vU8 sent1.1.Src.a2, vU8 sent1.1.Src.a3, vU8 sent1.1.Src.a4, vU8 sent1.1.Src.a5, vI sent1.1.Vlan, vU16 sent1.1.Type_, v11]), some (rowS u8S v13 ((own1.set (wi ((2 : Int) * pick2)).toNat (0 : UInt8)).set (wi ((wi ((2 : Int) * pick2)) + (1 : Int))).toNat (0 : UInt8)))] [Fact.sl iS vcuts1 cuts, Fact.sl Qf v3 mem1.l, Fact.sl Qf v7 mem2.L] [2, 5, 11, 13, 15, 17, 18] [0, 1, 2, 3, 4, 5, 6, 7] [0, 1, 2] rfl ?_
       refine Qe (Qb (sMv rfl rfl rfl ?_))
       refine sMv rfl rfl rfl ?_
       refine Qa rfl (Za (vs := [vU8 f.Dst.a0, vU8 f.Dst.a1, vU8 f.Dst.a2, vU8 f.Dst.a3, vU8 f.Dst.a4, vU8 f.Dst.a5, vU8 f.Src.a0, vU8 f.Src.a1, vU8 f.Src.a2, vU8 f.Src.a3, vU8 f.Src.a4, vU8 f.Src.a5, vI f.Vlan, vU16 f.Type_, v13]) rfl rfl rfl rfl Zs (i := 0) rfl rfl rfl) ?_
       refine sMv rfl rfl rfl ?_
       refine sMv rfl rfl rfl ?_
       obtain ⟨lay2, hx17, h⟩ := ob_e h
       refine Qt rfl (QX [7] [0, 8, 9, 3, 4, 5, 6, 7, 10] (w_netdrv_Lay hx17) [1, 2] rfl rfl rfl rfl rfl callee15 rfl rfl rfl rfl rfl rfl (QM (YH 1 rfl) (QM (ZA 7 rfl rfl) (QM (YH 0 rfl) ZB))) (by rintro _ _ _ ⟨_, rfl, rfl, rfl⟩; exact ⟨rfl, (Zj (Ka _ _ _) (Zj (ri_rows rfl _ _ _ _ _) (Zj (YK (S := SegS) rfl _ _) Xa)))⟩)) ?_
       rintro _ ⟨_, _, _, ⟨v14, rfl, rfl, rfl⟩, rfl⟩
       refine sMv rfl rfl rfl ?_
       refine Qa rfl (Qs rfl rfl rfl rfl rfl) ?_
       refine Qa rfl (Qs rfl rfl rfl rfl rfl) ?_
       refine sAs rfl rfl rfl ?_
       refine sAs rfl rfl rfl ?_
       refine nW [(5, some (.pointer (some ⟨b1, 0, none⟩))), (11, some (.pointer (some ⟨b2, 0, none⟩))), (13, some (.pointer (some ⟨b3, 0, none⟩))), (17, some (.pointer (some ⟨b4, 0, none⟩))), (16, some v14), (12, some (vI lay2.2.1))] [some (Qd b1 37 [vU8 f.Dst.a0, vU8 f.Dst.a1, vU8 f.Dst.a2, vU8 f.Dst.a3, vU8 f.Dst.a4, vU8 f.Dst.a5, vU8 f.Src.a0, vU8 f.Src.a1, vU8 f.Src.a2, vU8 f.Src.a3, vU8 f.Src.a4, vU8 f.Src.a5, vI f.Vlan, vU16 f.Type_, v13]), some (Qd b2 82 [v3, v4]), some (Qj u8S true v4 vs1 lay2.2.2 none), some (Qd b3 84 [v7, v8]), some (Qj u8S false v8 vs2 write1.2 none), some (rowS u8S v11 sent1.1.Data), some (Qd b4 37 [vU8 sent1.1.Dst.a0, vU8 sent1.1.Dst.a1, vU8 sent1.1.Dst.a2, vU8 sent1.1.Dst.a3, vU8 sent1.1.Dst.a4, vU8 sent1.1.Dst.a5, vU8 sent1.1.Src.a0, vU8 sent1.1.Src.a1, vU8 sent1.1.Src.a2, vU8 sent1.1.Src.a3, vU8 sent1.1.Src.a4, vU8 sent1.1.Src.a5, vI sent1.1.Vlan, vU16 sent1.1.Type_, v11]), some (rowS u8S v13 ((own1.set (wi ((2 : Int) * pick2)).toNat (0 : UInt8)).set (wi ((wi ((2 : Int) * pick2)) + (1 : Int))).toNat (0 : UInt8))), some (rowS SegS v14 lay2.1)] [Fact.sl Qf v3 mem1.l, Fact.sl Qf v7 mem2.L] [5, 11, 13, 17, 16, 12] [0, 1, 2, 3, 4, 5, 6, 7, 8] [1, 2] rfl ?_
       refine Qe (Qe (Qb (sMv rfl rfl rfl ?_)))
       refine Qa rfl (Qg rfl rfl rfl rfl rfl (QN (a := lay2.2.1) (b := (0 : Int)))) ?_
       refine sMv rfl rfl rfl ?_
       obtain ⟨hg11, h⟩ := Zg h
       replace hg11 := not_t hg11
       refine Qi rfl rfl (cgb hg11) (Qk rfl rfl rfl rfl) ?_
       rintro _ rfl
       refine Qi rfl rfl (cgb hg11) (Qk rfl rfl rfl rfl) ?_
       rintro _ rfl
       obtain ⟨image2, hx18, h⟩ := ob_e h
       refine Qi rfl rfl (cgb hg11) (QS [0, 9, 10, 3, 4, 5, 6, 7, 8, 11] (w_gmem_Mem_Image hx18) [1, 2] [0] rfl rfl rfl rfl rfl callee17 rfl rfl rfl rfl rfl) ?_
       rintro _ ⟨v15, _, _, ⟨_, rfl, rfl, rfl⟩, rfl⟩
       obtain ⟨write2, hx19, h⟩ := ob_e h
       refine Qi rfl rfl (cgb hg11) (QX [9] [0, 1, 2, 10, 11, 5, 6, 7, 8, 9] (w_ref_Mem_Write02 hx19) [3, 4] rfl rfl rfl rfl rfl callee16 rfl rfl rfl rfl rfl rfl (QM (YH 1 rfl) (QM (ZA 9 rfl rfl) ZB)) (by rintro _ _ _ ⟨rfl, rfl, rfl⟩; exact ⟨rfl, (Zj (Ka _ _ _) (Zj (ri_rows rfl _ _ _ _ _) Xa))⟩)) ?_
       rintro _ ⟨_, _, _, ⟨rfl, rfl, rfl⟩, rfl⟩
       refine Qi rfl rfl (cgb hg11) (Qg rfl rfl rfl rfl rfl (QN (a := write2.1) (b := (0 : Int)))) ?_
       rintro _ rfl
       refine Qa rfl (Qu rfl rfl rfl (cgb hg11) rfl) ?_
       refine nW [(5, some (.pointer (some ⟨b1, 0, none⟩))), (13, some (.pointer (some ⟨b3, 0, none⟩))), (17, some (.pointer (some ⟨b4, 0, none⟩))), (16, some v14), (127, some (vB (write2.1 != (0 : Int))))] [some (Qd b1 37 [vU8 f.Dst.a0, vU8 f.Dst.a1, vU8 f.Dst.a2, vU8 f.Dst.a3, vU8 f.Dst.a4, vU8 f.Dst.a5, vU8 f.Src.a0, vU8 f.Src.a1, vU8 f.Src.a2, vU8 f.Src.a3, vU8 f.Src.a4, vU8 f.Src.a5, vI f.Vlan, vU16 f.Type_, v13]), some (Qd b3 84 [v7, v8]), some (Qj u8S false v8 vs2 write2.2 none), some (rowS u8S v11 sent1.1.Data), some (Qd b4 37 [vU8 sent1.1.Dst.a0, vU8 sent1.1.Dst.a1, vU8 sent1.1.Dst.a2, vU8 sent1.1.Dst.a3, vU8 sent1.1.Dst.a4, vU8 sent1.1.Dst.a5, vU8 sent1.1.Src.a0, vU8 sent1.1.Src.a1, vU8 sent1.1.Src.a2, vU8 sent1.1.Src.a3, vU8 sent1.1.Src.a4, vU8 sent1.1.Src.a5, vI sent1.1.Vlan, vU16 sent1.1.Type_, v11]), some (rowS u8S v13 ((own1.set (wi ((2 : Int) * pick2)).toNat (0 : UInt8)).set (wi ((wi ((2 : Int) * pick2)) + (1 : Int))).toNat (0 : UInt8))), some (rowS SegS v14 lay2.1)] [Fact.sl Qf v7 mem2.L] [5, 13, 17, 16, 127] [0, 3, 4, 5, 6, 7, 8] [1] rfl ?_
       obtain ⟨hg12, h⟩ := Zg h
       replace hg12 := not_t hg12
       refine Ql (cgb hg12) ?_
       refine Qr (Qe (Qb (sMv rfl rfl rfl ?_)))
       refine sMv rfl rfl rfl ?_
       obtain ⟨sent2, hx20, h⟩ := ob_e h
       refine Qt rfl (QX [6] [0, 7, 8, 3, 4, 5, 6, 9] (w_ref_Sent25 hx20) [1, 2] rfl rfl rfl rfl rfl callee18 rfl rfl rfl rfl rfl rfl (QM (YH 0 rfl) (QM (ZA 6 rfl rfl) ZB)) (by rintro _ _ _ ⟨_, rfl, rfl, rfl⟩; exact ⟨rfl, (Zj (Ka _ _ _) (Zj (ri_rows rfl _ _ _ _ _) (Zj (YK (S := u8S) rfl _ _) Xa)))⟩)) ?_
       rintro _ ⟨_, _, _, ⟨v16, rfl, rfl, rfl⟩, rfl⟩
       refine sMv rfl rfl rfl ?_
       refine Qa rfl (Qs rfl rfl rfl rfl rfl) ?_
       refine Qa rfl (Qs rfl rfl rfl rfl rfl) ?_
       refine Qa rfl (Xu (fun z0 => [vU8 sent2.1.Dst.a0, vU8 sent2.1.Dst.a1, vU8 sent2.1.Dst.a2, vU8 sent2.1.Dst.a3, vU8 sent2.1.Dst.a4, vU8 sent2.1.Dst.a5, vU8 sent2.1.Src.a0, vU8 sent2.1.Src.a1, vU8 sent2.1.Src.a2, vU8 sent2.1.Src.a3, vU8 sent2.1.Src.a4, vU8 sent2.1.Src.a5, vI sent2.1.Vlan, vU16 sent2.1.Type_, z0]) (cs' := [vU8 sent2.1.Dst.a0, vU8 sent2.1.Dst.a1, vU8 sent2.1.Dst.a2, vU8 sent2.1.Dst.a3, vU8 sent2.1.Dst.a4, vU8 sent2.1.Dst.a5, vU8 sent2.1.Src.a0, vU8 sent2.1.Src.a1, vU8 sent2.1.Src.a2, vU8 sent2.1.Src.a3, vU8 sent2.1.Src.a4, vU8 sent2.1.Src.a5, vI sent2.1.Vlan, vU16 sent2.1.Type_, v16]) rfl rfl rfl rfl Zs (i := 4) rfl (Yy (i := 7) rfl) (fun _ _ _ => rfl) rfl rfl rfl) ?_
       refine sAs rfl rfl rfl ?_
       refine nW [(5, some (.pointer (some ⟨b1, 0, none⟩))), (17, some (.pointer (some ⟨b4, 0, none⟩))), (14, some (vI sent2.2))] [some (Qd b1 37 [vU8 f.Dst.a0, vU8 f.Dst.a1, vU8 f.Dst.a2, vU8 f.Dst.a3, vU8 f.Dst.a4, vU8 f.Dst.a5, vU8 f.Src.a0, vU8 f.Src.a1, vU8 f.Src.a2, vU8 f.Src.a3, vU8 f.Src.a4, vU8 f.Src.a5, vI f.Vlan, vU16 f.Type_, v13]), some (Qd b4 37 [vU8 sent2.1.Dst.a0, vU8 sent2.1.Dst.a1, vU8 sent2.1.Dst.a2, vU8 sent2.1.Dst.a3, vU8 sent2.1.Dst.a4, vU8 sent2.1.Dst.a5, vU8 sent2.1.Src.a0, vU8 sent2.1.Src.a1, vU8 sent2.1.Src.a2, vU8 sent2.1.Src.a3, vU8 sent2.1.Src.a4, vU8 sent2.1.Src.a5, vI sent2.1.Vlan, vU16 sent2.1.Type_, v16]), some (rowS u8S v13 ((own1.set (wi ((2 : Int) * pick2)).toNat (0 : UInt8)).set (wi ((wi ((2 : Int) * pick2)) + (1 : Int))).toNat (0 : UInt8))), some (rowS u8S v16 sent2.1.Data)] [] [5, 17, 14] [0, 4, 5, 7] [] rfl ?_
       refine Qe (Qb (sMv rfl rfl rfl ?_))
       refine Qa rfl (Qg rfl rfl rfl rfl rfl (Xd (a := sent2.2) (b := (0 : Int)))) ?_
       refine sMv rfl rfl rfl ?_
       obtain ⟨hg13, h⟩ := Zg h
       refine Qi rfl rfl (cgb hg13) (Qm rfl rfl rfl rfl ZX) ?_
       rintro _ rfl
       refine Qi rfl rfl (cgb hg13) (Qp rfl rfl rfl rfl Yw (i := 1) rfl rfl) ?_
       rintro _ rfl
       obtain ⟨sum1, hx21, h⟩ := ob_e h
       refine Qi rfl rfl (cgb hg13) (QX [3] [0, 1, 2, 3] (w_ref_Sum23 hx21) [] rfl rfl rfl rfl rfl callee21 rfl rfl rfl rfl rfl rfl (QM (ZA 3 rfl rfl) ZB) (by rintro _ _ _ ⟨rfl, rfl, rfl⟩; exact ⟨rfl, Xa⟩)) ?_
       rintro _ ⟨_, _, _, ⟨rfl, rfl, rfl⟩, rfl⟩
       refine Qi rfl rfl (cgb hg13) (Qg rfl rfl rfl rfl rfl (bin_eql_u16 (a := sum1) (b := (0 : UInt16)))) ?_
       rintro _ rfl
       refine Qa rfl (Qz rfl rfl rfl (cgb hg13) rfl) ?_
       refine sMv rfl rfl rfl ?_
       obtain ⟨hg14, h⟩ := Zg h
       refine Qi rfl rfl (cgb hg14) (Qm rfl rfl rfl rfl ZX) ?_
       rintro _ rfl
       refine Qi rfl rfl (cgb hg14) (Qp rfl rfl rfl rfl Yw (i := 1) rfl rfl) ?_
       rintro _ rfl
       refine Qi rfl rfl (cgb hg14) (YB rfl rfl rfl rfl Try.underlying35 (i := 3) rfl) ?_
       rintro _ rfl
       refine Qi rfl rfl (cgb hg14) (Qm rfl rfl rfl rfl ZX) ?_
       rintro _ rfl
       refine Qi rfl rfl (cgb hg14) (Qp rfl rfl rfl rfl Yw (i := 0) rfl rfl) ?_
       rintro _ rfl
       refine Qi rfl rfl (cgb hg14) (YB rfl rfl rfl rfl Try.underlying35 (i := 2) rfl) ?_
       rintro _ rfl
       refine Qi rfl rfl (cgb hg14) (Qg rfl rfl rfl rfl rfl (Xd (a := len sent2.1.Data) (b := len ((own1.set (wi ((2 : Int) * pick2)).toNat (0 : UInt8)).set (wi ((wi ((2 : Int) * pick2)) + (1 : Int))).toNat (0 : UInt8))))) ?_
       rintro _ rfl
       refine Qa rfl (Qz rfl rfl rfl (cgb hg14) rfl) ?_
       refine sAs rfl rfl rfl ?_
       refine nW [(10, some (vB ((len sent2.1.Data) == (len ((own1.set (wi ((2 : Int) * pick2)).toNat (0 : UInt8)).set (wi ((wi ((2 : Int) * pick2)) + (1 : Int))).toNat (0 : UInt8))))))] [] [] [10] [] [] rfl ?_
       obtain ⟨hg15, h⟩ := Zg h
       exact Qo rfl rfl (resA (vs := [.bool true]) rfl ⟨(cgb hg15), trivial⟩) [] [] rfl rfl rfl ⟨rfl, rfl, rfl⟩
end Go.Proofs.Ytgcbcnpbnonnjaa
