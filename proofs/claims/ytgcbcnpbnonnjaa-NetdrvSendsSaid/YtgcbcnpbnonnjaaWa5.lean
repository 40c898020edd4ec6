/- The functions do what the plain words say: each is walked once. No statement of the seat is proved here; no condition. -/
import Derived.Test.YtgcbcnpbnonnjaaWa4
namespace Go.Proofs.Ytgcbcnpbnonnjaa
attribute [local irreducible] sub
set_option maxRecDepth 100000 in
set_option maxHeartbeats 4000000 in
theorem w_law26zlives  {r : Bool} (h : law26zlives = some r) :
  Ctr Try.prog 7 #[] [] []
   (fun rv own shr => rv = vB r ∧ own = [] ∧ shr = []) := by
 unfold law26zlives at h
 refine Ctr.mk (args := []) Try.func7 rfl rfl (fun R0 w0 B => ?_)
 refine Qe (Qb (sAs rfl rfl rfl ?_))
 refine nW [] [] [] [] [] [] rfl ?_
 refine Qe (Qb (Qa rfl (QT (v := .agg #[vU64 (0 : UInt64), vU64 (4096 : UInt64)]) rfl rfl rfl rfl (bldV (by kernel_rfl))) ?_))
 refine Qq rfl (QH (S := Qf) (xs := [(Region.mk (0 : UInt64) (4096 : UInt64))]) (css := [[vU64 (0 : UInt64), vU64 (4096 : UInt64)]]) (cs := [vU64 (0 : UInt64), vU64 (4096 : UInt64)]) (e := 75) rfl rfl rfl rfl (bldF slF42 (by decide) (by kernel_rfl)) rfl rfl rfl rfl (Zd (S := Qf) (xs := [(Region.mk (0 : UInt64) (4096 : UInt64))]) (css := [[vU64 (0 : UInt64), vU64 (4096 : UInt64)]]) rfl rfl)) fun v1 => ?_
 refine Yl (i := 0) rfl ?_
 obtain ⟨new1, hx1, h⟩ := ob_e h
 refine Qt rfl (QP (w_gmem_New hx1) [] [0] rfl rfl rfl rfl rfl callee11 rfl rfl rfl rfl) ?_
 rintro _ ⟨_, _, _, ⟨v2, rfl, rfl, rfl⟩, rfl⟩
 refine sMv rfl rfl rfl ?_
 refine Qa rfl (Qs rfl rfl rfl rfl rfl) ?_
 refine Qa rfl (Qs rfl rfl rfl rfl rfl) ?_
 refine sAs rfl rfl rfl ?_
 refine sAs rfl rfl rfl ?_
 refine nW [(1, some v2), (2, some (vI new1.2))] [some (optR 82 Qf u8S true gmem_Mem.l gmem_Mem.b v2 new1.1)] [] [1, 2] [1] [] rfl ?_
 rcases onO_cases h with ⟨ho1, h⟩ | ⟨mem1, ho1, h⟩
 ·cases h
 ·refine Tk_optS (i := 0) rfl ho1 ?_
  rintro b1 v3 v4 vs1 rfl
  refine Qe (Qb (Qa rfl (QT (v := .agg #[vU64 (0 : UInt64), vU64 (4096 : UInt64)]) rfl rfl rfl rfl (bldV (by kernel_rfl))) ?_))
  refine Qq rfl (QH (S := Qf) (xs := [(Region.mk (0 : UInt64) (4096 : UInt64))]) (css := [[vU64 (0 : UInt64), vU64 (4096 : UInt64)]]) (cs := [vU64 (0 : UInt64), vU64 (4096 : UInt64)]) (e := 75) rfl rfl rfl rfl (bldF slF42 (by decide) (by kernel_rfl)) rfl rfl rfl rfl (Zd (S := Qf) (xs := [(Region.mk (0 : UInt64) (4096 : UInt64))]) (css := [[vU64 (0 : UInt64), vU64 (4096 : UInt64)]]) rfl rfl)) fun v5 => ?_
  refine Yl (i := 2) rfl ?_
  obtain ⟨new2, hx2, h⟩ := ob_e h
  refine Qt rfl (QP (w_ref_New02 hx2) [] [1] rfl rfl rfl rfl rfl callee13 rfl rfl rfl rfl) ?_
  rintro _ ⟨_, _, _, ⟨v6, rfl, rfl, rfl⟩, rfl⟩
  refine sMv rfl rfl rfl ?_
  refine Qa rfl (Qs rfl rfl rfl rfl rfl) ?_
  refine Qa rfl (Qs rfl rfl rfl rfl rfl) ?_
  refine sAs rfl rfl rfl ?_
  refine sAs rfl rfl rfl ?_
  refine nW [(1, some (.pointer (some ⟨b1, 0, none⟩))), (2, some (vI new1.2)), (3, some v6), (4, some (vI new2.2))] [some (Qd b1 82 [v3, v4]), some (Qj u8S true v4 vs1 mem1.b none), some (optR 84 Qf u8S false dumbwaiterref02_Mem.L dumbwaiterref02_Mem.B v6 new2.1)] [Fact.sl Qf v3 mem1.l] [1, 2, 3, 4] [0, 1, 3] [0] rfl ?_
  rcases onO_cases h with ⟨ho2, h⟩ | ⟨mem2, ho2, h⟩
  ·cases h
  ·refine Tk_optS (i := 2) rfl ho2 ?_
   rintro b2 v7 v8 vs2 rfl
   refine Qe (Qe (Qb (sMv rfl rfl rfl ?_)))
   refine Qa rfl (Qg rfl rfl rfl rfl rfl (QN (a := new1.2) (b := (0 : Int)))) ?_
   refine sMv rfl rfl rfl ?_
   rcases bC (new1.2 != (0 : Int)) with hg1 | hg1
   ·replace h := br_t hg1 h
    refine Qh rfl rfl (cgb hg1) rfl rfl ?_
    refine Qh rfl rfl (cgb hg1) rfl rfl ?_
    refine Qa rfl (Qz rfl rfl rfl (cgb hg1) rfl) ?_
    refine nW [(1, some (.pointer (some ⟨b1, 0, none⟩))), (3, some (.pointer (some ⟨b2, 0, none⟩))), (28, some (vB true))] [some (Qd b1 82 [v3, v4]), some (Qj u8S true v4 vs1 mem1.b none), some (Qd b2 84 [v7, v8]), some (Qj u8S false v8 vs2 mem2.B none)] [Fact.sl Qf v3 mem1.l, Fact.sl Qf v7 mem2.L] [1, 3, 28] [0, 1, 2, 3] [0, 1] rfl ?_
    refine Qn rfl ?_
    refine Qe (Qb (sAs rfl rfl rfl ?_))
    refine nW [(0, some (vB false))] [] [] [0] [] [] rfl ?_
    obtain rfl := Option.some.inj h
    exact Qo rfl rfl (resA (vs := [vB false]) rfl ⟨rfl, trivial⟩) [] [] rfl rfl rfl ⟨rfl, rfl, rfl⟩
   ·replace h := br_f hg1 h
    refine Qi rfl rfl (cgb hg1) (Qk rfl rfl rfl rfl) ?_
    rintro _ rfl
    refine Qi rfl rfl (cgb hg1) (Qg rfl rfl rfl rfl rfl (QN (a := new2.2) (b := (0 : Int)))) ?_
    rintro _ rfl
    refine Qa rfl (Qu rfl rfl rfl (cgb hg1) rfl) ?_
    refine nW [(1, some (.pointer (some ⟨b1, 0, none⟩))), (3, some (.pointer (some ⟨b2, 0, none⟩))), (28, some (vB (new2.2 != (0 : Int))))] [some (Qd b1 82 [v3, v4]), some (Qj u8S true v4 vs1 mem1.b none), some (Qd b2 84 [v7, v8]), some (Qj u8S false v8 vs2 mem2.B none)] [Fact.sl Qf v3 mem1.l, Fact.sl Qf v7 mem2.L] [1, 3, 28] [0, 1, 2, 3] [0, 1] rfl ?_
    rcases bC (new2.2 != (0 : Int)) with hg2 | hg2
    ·replace h := br_t hg2 h
     refine Qn (cgb hg2) ?_
     refine Qe (Qb (sAs rfl rfl rfl ?_))
     refine nW [(0, some (vB false))] [] [] [0] [] [] rfl ?_
     obtain rfl := Option.some.inj h
     exact Qo rfl rfl (resA (vs := [vB false]) rfl ⟨rfl, trivial⟩) [] [] rfl rfl rfl ⟨rfl, rfl, rfl⟩
    ·replace h := br_f hg2 h
     refine Ql (cgb hg2) ?_
     refine Qr (Qe (Qb ?_))
     obtain ⟨hc1, h⟩ := Zg h
     refine Qq rfl (OpT_makeD u8S rfl (u := (0 : UInt8)) rfl rfl rfl rfl rfl Zf rfl hc1) fun v9 => ?_
     refine Qa rfl (OpT_build1 (fun z0 => [(2, vI ((-1) : Int)), (3, vU16 (2048 : UInt16)), (4, z0)]) (fun z0 => [vU8 (0 : UInt8), vU8 (0 : UInt8), vU8 (0 : UInt8), vU8 (0 : UInt8), vU8 (0 : UInt8), vU8 (0 : UInt8), vU8 (0 : UInt8), vU8 (0 : UInt8), vU8 (0 : UInt8), vU8 (0 : UInt8), vU8 (0 : UInt8), vU8 (0 : UInt8), vI ((-1) : Int), vU16 (2048 : UInt16), z0]) rfl rfl rfl rfl (Yy (i := 4) rfl) (by intros; kernel_rfl)) ?_
     refine Qq rfl (Zh rfl rfl rfl tyZ37) fun b3 => ?_
     refine Qa rfl (Xu (fun z0 => [vU8 (0 : UInt8), vU8 (0 : UInt8), vU8 (0 : UInt8), vU8 (0 : UInt8), vU8 (0 : UInt8), vU8 (0 : UInt8), vU8 (0 : UInt8), vU8 (0 : UInt8), vU8 (0 : UInt8), vU8 (0 : UInt8), vU8 (0 : UInt8), vU8 (0 : UInt8), vI ((-1) : Int), vU16 (2048 : UInt16), z0]) (cs' := [vU8 (0 : UInt8), vU8 (0 : UInt8), vU8 (0 : UInt8), vU8 (0 : UInt8), vU8 (0 : UInt8), vU8 (0 : UInt8), vU8 (0 : UInt8), vU8 (0 : UInt8), vU8 (0 : UInt8), vU8 (0 : UInt8), vU8 (0 : UInt8), vU8 (0 : UInt8), vI ((-1) : Int), vU16 (2048 : UInt16), v9]) rfl rfl rfl rfl Zs (i := 5) rfl (Yy (i := 4) rfl) (fun _ _ _ => rfl) rfl rfl rfl) ?_
     refine nW [(1, some (.pointer (some ⟨b1, 0, none⟩))), (3, some (.pointer (some ⟨b2, 0, none⟩))), (5, some (.pointer (some ⟨b3, 0, none⟩)))] [some (Qd b1 82 [v3, v4]), some (Qj u8S true v4 vs1 mem1.b none), some (Qd b2 84 [v7, v8]), some (Qj u8S false v8 vs2 mem2.B none), some (rowS u8S v9 (List.replicate (10 : Int).toNat (0 : UInt8))), some (Qd b3 37 [vU8 (0 : UInt8), vU8 (0 : UInt8), vU8 (0 : UInt8), vU8 (0 : UInt8), vU8 (0 : UInt8), vU8 (0 : UInt8), vU8 (0 : UInt8), vU8 (0 : UInt8), vU8 (0 : UInt8), vU8 (0 : UInt8), vU8 (0 : UInt8), vU8 (0 : UInt8), vI ((-1) : Int), vU16 (2048 : UInt16), v9])] [Fact.sl Qf v3 mem1.l, Fact.sl Qf v7 mem2.L] [1, 3, 5] [0, 1, 2, 3, 4, 5] [0, 1] rfl ?_
     refine Qe (Qb (sMv rfl rfl rfl ?_))
     refine Qa rfl (Za (vs := [vU8 (0 : UInt8), vU8 (0 : UInt8), vU8 (0 : UInt8), vU8 (0 : UInt8), vU8 (0 : UInt8), vU8 (0 : UInt8), vU8 (0 : UInt8), vU8 (0 : UInt8), vU8 (0 : UInt8), vU8 (0 : UInt8), vU8 (0 : UInt8), vU8 (0 : UInt8), vI ((-1) : Int), vU16 (2048 : UInt16), v9]) rfl rfl rfl rfl Zs (i := 5) rfl rfl rfl) ?_
     refine Qq rfl (QH (S := iS) (xs := [(12 : Int)]) (css := [[vI (12 : Int)]]) (cs := [vI (12 : Int)]) (e := 3) rfl rfl rfl rfl (bldF slF23 (by decide) (by kernel_rfl)) rfl rfl rfl rfl (Zd (S := iS) (xs := [(12 : Int)]) (css := [[vI (12 : Int)]]) rfl rfl)) fun v10 => ?_
     obtain ⟨lay1, hx3, h⟩ := ob_e h
     refine Qt rfl (QX [4, 6] [7, 8, 2, 3, 4, 5, 6, 9] (w_netdrv_Lay hx3) [0, 1] rfl rfl rfl rfl rfl callee15 rfl rfl rfl rfl rfl rfl (QM (YH 0 rfl) (QM (ZA 4 rfl rfl) (QM (ZA 6 rfl rfl) ZB))) (by rintro _ _ _ ⟨_, rfl, rfl, rfl⟩; exact ⟨rfl, (Zj (Ka _ _ _) (Zj (ri_rows rfl _ _ _ _ _) (Zj (YK (S := SegS) rfl _ _) Xa)))⟩)) ?_
     rintro _ ⟨_, _, _, ⟨v11, rfl, rfl, rfl⟩, rfl⟩
     refine sMv rfl rfl rfl ?_
     refine Qa rfl (Qs rfl rfl rfl rfl rfl) ?_
     refine Qa rfl (Qs rfl rfl rfl rfl rfl) ?_
     refine sAs rfl rfl rfl ?_
     refine sAs rfl rfl rfl ?_
     refine nW [(1, some (.pointer (some ⟨b1, 0, none⟩))), (3, some (.pointer (some ⟨b2, 0, none⟩))), (5, some (.pointer (some ⟨b3, 0, none⟩))), (6, some v11), (2, some (vI lay1.2.1))] [some (Qd b1 82 [v3, v4]), some (Qj u8S true v4 vs1 lay1.2.2 none), some (Qd b2 84 [v7, v8]), some (Qj u8S false v8 vs2 mem2.B none), some (rowS u8S v9 (List.replicate (10 : Int).toNat (0 : UInt8))), some (Qd b3 37 [vU8 (0 : UInt8), vU8 (0 : UInt8), vU8 (0 : UInt8), vU8 (0 : UInt8), vU8 (0 : UInt8), vU8 (0 : UInt8), vU8 (0 : UInt8), vU8 (0 : UInt8), vU8 (0 : UInt8), vU8 (0 : UInt8), vU8 (0 : UInt8), vU8 (0 : UInt8), vI ((-1) : Int), vU16 (2048 : UInt16), v9]), some (rowS SegS v11 lay1.1)] [Fact.sl Qf v3 mem1.l, Fact.sl Qf v7 mem2.L] [1, 3, 5, 6, 2] [0, 1, 2, 3, 4, 5, 7] [0, 1] rfl ?_
     refine Qe (Qb (Tops_nilfact iS ?_))
     obtain ⟨post1, hx4, h⟩ := ob_e h
     refine Qt rfl (QP (w_netdrv_Post hx4) [] [2] rfl rfl rfl rfl rfl callee8 rfl rfl rfl rfl) ?_
     rintro _ ⟨v12, _, _, ⟨_, rfl, rfl, rfl⟩, rfl⟩
     refine sAs rfl rfl rfl ?_
     refine nW [(1, some (.pointer (some ⟨b1, 0, none⟩))), (3, some (.pointer (some ⟨b2, 0, none⟩))), (5, some (.pointer (some ⟨b3, 0, none⟩))), (6, some v11), (2, some (vI lay1.2.1)), (7, some v12)] [some (Qd b1 82 [v3, v4]), some (Qj u8S true v4 vs1 lay1.2.2 none), some (Qd b2 84 [v7, v8]), some (Qj u8S false v8 vs2 mem2.B none), some (rowS u8S v9 (List.replicate (10 : Int).toNat (0 : UInt8))), some (Qd b3 37 [vU8 (0 : UInt8), vU8 (0 : UInt8), vU8 (0 : UInt8), vU8 (0 : UInt8), vU8 (0 : UInt8), vU8 (0 : UInt8), vU8 (0 : UInt8), vU8 (0 : UInt8), vU8 (0 : UInt8), vU8 (0 : UInt8), vU8 (0 : UInt8), vU8 (0 : UInt8), vI ((-1) : Int), vU16 (2048 : UInt16), v9]), some (rowS SegS v11 lay1.1), some (rowS SegS v12 post1)] [Fact.sl Qf v3 mem1.l, Fact.sl Qf v7 mem2.L] [1, 3, 5, 6, 2, 7] [0, 1, 2, 3, 4, 5, 6, 7] [0, 1] rfl ?_
     refine Qe (Qb (sMv rfl rfl rfl ?_))
     refine sMv rfl rfl rfl ?_
     refine Yl (i := 7) rfl ?_
     refine Qq rfl (OpT_buildSl (Shape.slice SegS) (vs := [v12]) (xs := [post1]) rfl rfl rfl rfl rfl slF59 (isl_cons (is_sl (i := 2) rfl) isl_nil) rfl rfl rfl (rel_cons (rel_sl (i := 2) rfl) (rel_nil rfl))) fun v13 => ?_
     refine Qa rfl (Za (vs := [vU8 (0 : UInt8), vU8 (0 : UInt8), vU8 (0 : UInt8), vU8 (0 : UInt8), vU8 (0 : UInt8), vU8 (0 : UInt8), vU8 (0 : UInt8), vU8 (0 : UInt8), vU8 (0 : UInt8), vU8 (0 : UInt8), vU8 (0 : UInt8), vU8 (0 : UInt8), vI ((-1) : Int), vU16 (2048 : UInt16), v9]) rfl rfl rfl rfl Zs (i := 5) rfl rfl rfl) ?_
     obtain ⟨delive1, hx5, h⟩ := ob_e h
     refine Qt rfl (QX [8, 4] [0, 1, 9, 10, 4, 5, 6, 7, 8, 11] (w_ref_Deliver25 hx5) [2, 3] rfl rfl rfl rfl rfl callee23 rfl rfl rfl rfl rfl rfl (QM (YH 1 rfl) (QM (ZA 8 rfl rfl) (QM (ZA 4 rfl rfl) ZB))) (by rintro _ _ _ ⟨_, rfl, rfl, rfl⟩; exact ⟨rfl, (Zj (Ka _ _ _) (Zj (ri_rows rfl _ _ _ _ _) (Zj (YK (S := u32S) rfl _ _) Xa)))⟩)) ?_
     rintro _ ⟨_, _, _, ⟨v14, rfl, rfl, rfl⟩, rfl⟩
     refine sMv rfl rfl rfl ?_
     refine Qa rfl (Qs rfl rfl rfl rfl rfl) ?_
     refine Qa rfl (Qs rfl rfl rfl rfl rfl) ?_
     refine sAs rfl rfl rfl ?_
     refine sAs rfl rfl rfl ?_
     refine nW [(1, some (.pointer (some ⟨b1, 0, none⟩))), (3, some (.pointer (some ⟨b2, 0, none⟩))), (5, some (.pointer (some ⟨b3, 0, none⟩))), (6, some v11), (2, some (vI lay1.2.1)), (7, some v12), (8, some v14), (4, some (vI delive1.2.1))] [some (Qd b1 82 [v3, v4]), some (Qj u8S true v4 vs1 lay1.2.2 none), some (Qd b2 84 [v7, v8]), some (Qj u8S false v8 vs2 delive1.2.2 none), some (rowS u8S v9 (List.replicate (10 : Int).toNat (0 : UInt8))), some (Qd b3 37 [vU8 (0 : UInt8), vU8 (0 : UInt8), vU8 (0 : UInt8), vU8 (0 : UInt8), vU8 (0 : UInt8), vU8 (0 : UInt8), vU8 (0 : UInt8), vU8 (0 : UInt8), vU8 (0 : UInt8), vU8 (0 : UInt8), vU8 (0 : UInt8), vU8 (0 : UInt8), vI ((-1) : Int), vU16 (2048 : UInt16), v9]), some (rowS SegS v11 lay1.1), some (rowS u32S v14 delive1.1)] [Fact.sl Qf v3 mem1.l, Fact.sl Qf v7 mem2.L, Fact.sl SegS v12 post1] [1, 3, 5, 6, 2, 7, 8, 4] [0, 1, 2, 3, 4, 5, 6, 9] [0, 1, 2] rfl ?_
     refine Qe (Qe (Qb (sMv rfl rfl rfl ?_)))
     refine Qa rfl (Qg rfl rfl rfl rfl rfl (QN (a := lay1.2.1) (b := (0 : Int)))) ?_
     refine sMv rfl rfl rfl ?_
     rcases bC (lay1.2.1 != (0 : Int)) with hg3 | hg3
     ·replace h := br_t hg3 h
      refine Qh rfl rfl (cgb hg3) rfl rfl ?_
      refine Qh rfl rfl (cgb hg3) rfl rfl ?_
      refine Qa rfl (Qz rfl rfl rfl (cgb hg3) rfl) ?_
      refine sMv rfl rfl rfl ?_
      refine Qh rfl rfl rfl rfl rfl ?_
      refine Qh rfl rfl rfl rfl rfl ?_
      refine Qh rfl rfl rfl rfl rfl ?_
      refine Qh rfl rfl rfl rfl rfl ?_
      refine Qh rfl rfl rfl rfl rfl ?_
      refine Qa rfl (Qz rfl rfl rfl rfl rfl) ?_
      refine nW [(1, some (.pointer (some ⟨b1, 0, none⟩))), (5, some (.pointer (some ⟨b3, 0, none⟩))), (6, some v11), (7, some v12), (8, some v14), (59, some (vB true))] [some (Qd b1 82 [v3, v4]), some (Qj u8S true v4 vs1 lay1.2.2 none), some (rowS u8S v9 (List.replicate (10 : Int).toNat (0 : UInt8))), some (Qd b3 37 [vU8 (0 : UInt8), vU8 (0 : UInt8), vU8 (0 : UInt8), vU8 (0 : UInt8), vU8 (0 : UInt8), vU8 (0 : UInt8), vU8 (0 : UInt8), vU8 (0 : UInt8), vU8 (0 : UInt8), vU8 (0 : UInt8), vU8 (0 : UInt8), vU8 (0 : UInt8), vI ((-1) : Int), vU16 (2048 : UInt16), v9]), some (rowS SegS v11 lay1.1), some (rowS u32S v14 delive1.1)] [Fact.sl Qf v3 mem1.l, Fact.sl SegS v12 post1] [1, 5, 6, 7, 8, 59] [0, 1, 4, 5, 6, 7] [0, 2] rfl ?_
      refine Qn rfl ?_
      refine Qe (Qb (sAs rfl rfl rfl ?_))
      refine nW [(0, some (vB false))] [] [] [0] [] [] rfl ?_
      obtain rfl := Option.some.inj h
      exact Qo rfl rfl (resA (vs := [vB false]) rfl ⟨rfl, trivial⟩) [] [] rfl rfl rfl ⟨rfl, rfl, rfl⟩
     ·replace h := br_f hg3 h
      refine Qi rfl rfl (cgb hg3) (Qk rfl rfl rfl rfl) ?_
      rintro _ rfl
      refine Qi rfl rfl (cgb hg3) (Qg rfl rfl rfl rfl rfl (QN (a := delive1.2.1) (b := (0 : Int)))) ?_
      rintro _ rfl
      refine Qa rfl (Qu rfl rfl rfl (cgb hg3) rfl) ?_
      refine sMv rfl rfl rfl ?_
      rcases bC (delive1.2.1 != (0 : Int)) with hg4 | hg4
      ·replace h := br_t hg4 h
       refine Qh rfl rfl (cgb hg4) rfl rfl ?_
       refine Qh rfl rfl (cgb hg4) rfl rfl ?_
       refine Qh rfl rfl (cgb hg4) rfl rfl ?_
       refine Qh rfl rfl (cgb hg4) rfl rfl ?_
       refine Qh rfl rfl (cgb hg4) rfl rfl ?_
       refine Qa rfl (Qz rfl rfl rfl (cgb hg4) rfl) ?_
       refine nW [(1, some (.pointer (some ⟨b1, 0, none⟩))), (5, some (.pointer (some ⟨b3, 0, none⟩))), (6, some v11), (7, some v12), (8, some v14), (59, some (vB true))] [some (Qd b1 82 [v3, v4]), some (Qj u8S true v4 vs1 lay1.2.2 none), some (rowS u8S v9 (List.replicate (10 : Int).toNat (0 : UInt8))), some (Qd b3 37 [vU8 (0 : UInt8), vU8 (0 : UInt8), vU8 (0 : UInt8), vU8 (0 : UInt8), vU8 (0 : UInt8), vU8 (0 : UInt8), vU8 (0 : UInt8), vU8 (0 : UInt8), vU8 (0 : UInt8), vU8 (0 : UInt8), vU8 (0 : UInt8), vU8 (0 : UInt8), vI ((-1) : Int), vU16 (2048 : UInt16), v9]), some (rowS SegS v11 lay1.1), some (rowS u32S v14 delive1.1)] [Fact.sl Qf v3 mem1.l, Fact.sl SegS v12 post1] [1, 5, 6, 7, 8, 59] [0, 1, 4, 5, 6, 7] [0, 2] rfl ?_
       refine Qn rfl ?_
       refine Qe (Qb (sAs rfl rfl rfl ?_))
       refine nW [(0, some (vB false))] [] [] [0] [] [] rfl ?_
       obtain rfl := Option.some.inj h
       exact Qo rfl rfl (resA (vs := [vB false]) rfl ⟨rfl, trivial⟩) [] [] rfl rfl rfl ⟨rfl, rfl, rfl⟩
      ·replace h := br_f hg4 h
       refine Qi rfl rfl (cgb hg4) (Qk rfl rfl rfl rfl) ?_
       rintro _ rfl
       refine Qi rfl rfl (cgb hg4) (Qk rfl rfl rfl rfl) ?_
       rintro _ rfl
       obtain ⟨image1, hx6, h⟩ := ob_e h
       refine Qi rfl rfl (cgb hg4) (QS [0, 1, 8, 9, 4, 5, 6, 7, 10] (w_ref_Mem_Image02 hx6) [2, 3] [1] rfl rfl rfl rfl rfl callee25 rfl rfl rfl rfl rfl) ?_
       rintro _ ⟨v15, _, _, ⟨_, rfl, rfl, rfl⟩, rfl⟩
       obtain ⟨write1, hx7, h⟩ := ob_e h
       refine Qi rfl rfl (cgb hg4) (QX [8] [9, 10, 2, 3, 4, 5, 6, 7, 8] (w_gmem_Mem_Write hx7) [0, 1] rfl rfl rfl rfl rfl callee24 rfl rfl rfl rfl rfl rfl (QM (YH 0 rfl) (QM (ZA 8 rfl rfl) ZB)) (by rintro _ _ _ ⟨rfl, rfl, rfl⟩; exact ⟨rfl, (Zj (Ka _ _ _) (Zj (ri_rows rfl _ _ _ _ _) Xa))⟩)) ?_
       rintro _ ⟨_, _, _, ⟨rfl, rfl, rfl⟩, rfl⟩
       refine Qi rfl rfl (cgb hg4) (Qg rfl rfl rfl rfl rfl (QN (a := write1.1) (b := (0 : Int)))) ?_
       rintro _ rfl
       refine Qa rfl (Qu rfl rfl rfl (cgb hg4) rfl) ?_
       refine nW [(1, some (.pointer (some ⟨b1, 0, none⟩))), (5, some (.pointer (some ⟨b3, 0, none⟩))), (6, some v11), (7, some v12), (8, some v14), (59, some (vB (write1.1 != (0 : Int))))] [some (Qd b1 82 [v3, v4]), some (Qj u8S true v4 vs1 write1.2 none), some (rowS u8S v9 (List.replicate (10 : Int).toNat (0 : UInt8))), some (Qd b3 37 [vU8 (0 : UInt8), vU8 (0 : UInt8), vU8 (0 : UInt8), vU8 (0 : UInt8), vU8 (0 : UInt8), vU8 (0 : UInt8), vU8 (0 : UInt8), vU8 (0 : UInt8), vU8 (0 : UInt8), vU8 (0 : UInt8), vU8 (0 : UInt8), vU8 (0 : UInt8), vI ((-1) : Int), vU16 (2048 : UInt16), v9]), some (rowS SegS v11 lay1.1), some (rowS u32S v14 delive1.1)] [Fact.sl Qf v3 mem1.l, Fact.sl SegS v12 post1] [1, 5, 6, 7, 8, 59] [0, 1, 4, 5, 6, 7] [0, 2] rfl ?_
       rcases bC (write1.1 != (0 : Int)) with hg5 | hg5
       ·replace h := br_t hg5 h
        refine Qn (cgb hg5) ?_
        refine Qe (Qb (sAs rfl rfl rfl ?_))
        refine nW [(0, some (vB false))] [] [] [0] [] [] rfl ?_
        obtain rfl := Option.some.inj h
        exact Qo rfl rfl (resA (vs := [vB false]) rfl ⟨rfl, trivial⟩) [] [] rfl rfl rfl ⟨rfl, rfl, rfl⟩
       ·replace h := br_f hg5 h
        refine Ql (cgb hg5) ?_
        refine Qr (Qe (Qb (sMv rfl rfl rfl ?_)))
        refine sMv rfl rfl rfl ?_
        refine Qq rfl (OpT_buildSl (Shape.slice SegS) (vs := [v12]) (xs := [post1]) rfl rfl rfl rfl rfl slF59 (isl_cons (is_sl (i := 1) rfl) isl_nil) rfl rfl rfl (rel_cons (rel_sl (i := 1) rfl) (rel_nil rfl))) fun v16 => ?_
        refine sMv rfl rfl rfl ?_
        obtain ⟨one1, hx8, h⟩ := ob_e h
        refine Qt rfl (QX [6, 5] [7, 8, 2, 3, 4, 5, 6, 9] (w_netdrv_One hx8) [0, 1] rfl rfl rfl rfl rfl callee30 rfl rfl rfl rfl rfl rfl (QM (YH 0 rfl) (QM (ZA 6 rfl rfl) (QM (ZA 5 rfl rfl) ZB))) (by rintro _ _ _ ⟨_, rfl, rfl, rfl⟩; exact ⟨rfl, (Zj (Ka _ _ _) (Zj (ri_rows rfl _ _ _ _ _) (Zj (YK (S := u8S) rfl _ _) Xa)))⟩)) ?_
        rintro _ ⟨_, _, _, ⟨v17, rfl, rfl, rfl⟩, rfl⟩
        refine sMv rfl rfl rfl ?_
        refine Qa rfl (Qs rfl rfl rfl rfl rfl) ?_
        refine Qa rfl (Qs rfl rfl rfl rfl rfl) ?_
        refine Qa rfl (Qs rfl rfl rfl rfl rfl) ?_
        refine Qq rfl (Zh rfl rfl rfl tyZ37) fun b4 => ?_
        refine Qa rfl (Xu (fun z0 => [vU8 one1.1.Dst.a0, vU8 one1.1.Dst.a1, vU8 one1.1.Dst.a2, vU8 one1.1.Dst.a3, vU8 one1.1.Dst.a4, vU8 one1.1.Dst.a5, vU8 one1.1.Src.a0, vU8 one1.1.Src.a1, vU8 one1.1.Src.a2, vU8 one1.1.Src.a3, vU8 one1.1.Src.a4, vU8 one1.1.Src.a5, vI one1.1.Vlan, vU16 one1.1.Type_, z0]) (cs' := [vU8 one1.1.Dst.a0, vU8 one1.1.Dst.a1, vU8 one1.1.Dst.a2, vU8 one1.1.Dst.a3, vU8 one1.1.Dst.a4, vU8 one1.1.Dst.a5, vU8 one1.1.Src.a0, vU8 one1.1.Src.a1, vU8 one1.1.Src.a2, vU8 one1.1.Src.a3, vU8 one1.1.Src.a4, vU8 one1.1.Src.a5, vI one1.1.Vlan, vU16 one1.1.Type_, v17]) rfl rfl rfl rfl Zs (i := 8) rfl (Yy (i := 7) rfl) (fun _ _ _ => rfl) rfl rfl rfl) ?_
        refine sAs rfl rfl rfl ?_
        refine sAs rfl rfl rfl ?_
        refine nW [(5, some (.pointer (some ⟨b3, 0, none⟩))), (6, some v11), (9, some (.pointer (some ⟨b4, 0, none⟩))), (10, some (vI one1.2.1)), (2, some (vI one1.2.2))] [some (rowS u8S v9 (List.replicate (10 : Int).toNat (0 : UInt8))), some (Qd b3 37 [vU8 (0 : UInt8), vU8 (0 : UInt8), vU8 (0 : UInt8), vU8 (0 : UInt8), vU8 (0 : UInt8), vU8 (0 : UInt8), vU8 (0 : UInt8), vU8 (0 : UInt8), vU8 (0 : UInt8), vU8 (0 : UInt8), vU8 (0 : UInt8), vU8 (0 : UInt8), vI ((-1) : Int), vU16 (2048 : UInt16), v9]), some (rowS SegS v11 lay1.1), some (rowS u8S v17 one1.1.Data), some (Qd b4 37 [vU8 one1.1.Dst.a0, vU8 one1.1.Dst.a1, vU8 one1.1.Dst.a2, vU8 one1.1.Dst.a3, vU8 one1.1.Dst.a4, vU8 one1.1.Dst.a5, vU8 one1.1.Src.a0, vU8 one1.1.Src.a1, vU8 one1.1.Src.a2, vU8 one1.1.Src.a3, vU8 one1.1.Src.a4, vU8 one1.1.Src.a5, vI one1.1.Vlan, vU16 one1.1.Type_, v17])] [] [5, 6, 9, 10, 2] [2, 3, 4, 7, 8] [] rfl ?_
        refine Qe (Qb (sMv rfl rfl rfl ?_))
        refine Qa rfl (Qg rfl rfl rfl rfl rfl (Xd (a := one1.2.2) (b := (0 : Int)))) ?_
        refine sMv rfl rfl rfl ?_
        rcases bC (one1.2.2 == (0 : Int)) with hg6 | hg6
        ·replace h := br_t hg6 h
         refine Qi rfl rfl (cgb hg6) (Qk rfl rfl rfl rfl) ?_
         rintro _ rfl
         refine Qi rfl rfl (cgb hg6) (Qg rfl rfl rfl rfl rfl (Xd (a := one1.2.1) (b := (1 : Int)))) ?_
         rintro _ rfl
         refine Qa rfl (Qz rfl rfl rfl (cgb hg6) rfl) ?_
         refine sMv rfl rfl rfl ?_
         rcases bC (one1.2.1 == (1 : Int)) with hg7 | hg7
         ·replace h := br_t hg7 h
          refine Qi rfl rfl (cgb hg7) (Za (vs := [vU8 (0 : UInt8), vU8 (0 : UInt8), vU8 (0 : UInt8), vU8 (0 : UInt8), vU8 (0 : UInt8), vU8 (0 : UInt8), vU8 (0 : UInt8), vU8 (0 : UInt8), vU8 (0 : UInt8), vU8 (0 : UInt8), vU8 (0 : UInt8), vU8 (0 : UInt8), vI ((-1) : Int), vU16 (2048 : UInt16), v9]) rfl rfl rfl rfl Zs (i := 1) rfl rfl rfl) ?_
          rintro _ rfl
          refine Qi rfl rfl (cgb hg7) (Za (vs := [vU8 one1.1.Dst.a0, vU8 one1.1.Dst.a1, vU8 one1.1.Dst.a2, vU8 one1.1.Dst.a3, vU8 one1.1.Dst.a4, vU8 one1.1.Dst.a5, vU8 one1.1.Src.a0, vU8 one1.1.Src.a1, vU8 one1.1.Src.a2, vU8 one1.1.Src.a3, vU8 one1.1.Src.a4, vU8 one1.1.Src.a5, vI one1.1.Vlan, vU16 one1.1.Type_, v17]) rfl rfl rfl rfl Zs (i := 4) rfl rfl rfl) ?_
          rintro _ rfl
          obtain ⟨frame1, hx9, h⟩ := ob_e h
          refine Qi rfl rfl (cgb hg7) (QX [0, 3] [0, 1, 2, 3, 4] (w_kit_Frame hx9) [] rfl rfl rfl rfl rfl callee19 rfl rfl rfl rfl rfl rfl (QM (ZA 0 rfl rfl) (QM (ZA 3 rfl rfl) ZB)) (by rintro _ _ _ ⟨rfl, rfl, rfl⟩; exact ⟨rfl, Xa⟩)) ?_
          rintro _ ⟨_, _, _, ⟨rfl, rfl, rfl⟩, rfl⟩
          refine Qa rfl (Qz rfl rfl rfl (cgb hg7) rfl) ?_
          refine sMv rfl rfl rfl ?_
          rcases bC (frame1) with hg8 | hg8
          ·replace h := br_t hg8 h
           refine Qi rfl rfl (cgb hg8) (Qk rfl rfl rfl rfl) ?_
           rintro _ rfl
           refine Qi rfl rfl (cgb hg8) (QT (v := .agg #[vU64 (100 : UInt64), vU32 (12 : UInt32), vB false]) rfl rfl rfl rfl (bldV (by kernel_rfl))) ?_
           rintro _ rfl
           refine Qi rfl rfl (cgb hg8) (QT (v := .agg #[vU64 (112 : UInt64), vU32 (24 : UInt32), vB false]) rfl rfl rfl rfl (bldV (by kernel_rfl))) ?_
           rintro _ rfl
           refine Qi rfl rfl (cgb hg8) (QH (S := SegS) (xs := [(Seg.mk (100 : UInt64) (12 : UInt32) false), (Seg.mk (112 : UInt64) (24 : UInt32) false)]) (css := [[vU64 (100 : UInt64), vU32 (12 : UInt32), vB false], [vU64 (112 : UInt64), vU32 (24 : UInt32), vB false]]) (cs := [vU64 (100 : UInt64), vU32 (12 : UInt32), vB false, vU64 (112 : UInt64), vU32 (24 : UInt32), vB false]) (e := 29) rfl rfl rfl rfl (bldF XM (by decide) (by kernel_rfl)) rfl rfl rfl rfl (Zd (S := SegS) (xs := [(Seg.mk (100 : UInt64) (12 : UInt32) false), (Seg.mk (112 : UInt64) (24 : UInt32) false)]) (css := [[vU64 (100 : UInt64), vU32 (12 : UInt32), vB false], [vU64 (112 : UInt64), vU32 (24 : UInt32), vB false]]) rfl rfl)) ?_
           rintro _ ⟨v18, rfl⟩
           obtain ⟨samese1, hx10, h⟩ := ob_e h
           refine Qi rfl rfl (cgb hg8) (QX [2, 5] [0, 1, 2, 3, 4, 5] (w_kit_SameSegs hx10) [] rfl rfl rfl rfl rfl callee31 rfl rfl rfl rfl rfl rfl (QM (ZA 2 rfl rfl) (QM (ZA 5 rfl rfl) ZB)) (by rintro _ _ _ ⟨rfl, rfl, rfl⟩; exact ⟨rfl, Xa⟩)) ?_
           rintro _ ⟨_, _, _, ⟨rfl, rfl, rfl⟩, rfl⟩
           refine Qa rfl (Qz rfl rfl rfl (cgb hg8) rfl) ?_
           refine sAs rfl rfl rfl ?_
           refine nW [(0, some (vB samese1))] [] [] [0] [] [] rfl ?_
           obtain rfl := Option.some.inj h
           exact Qo rfl rfl (resA (vs := [vB samese1]) rfl ⟨rfl, trivial⟩) [] [] rfl rfl rfl ⟨rfl, rfl, rfl⟩
          ·replace h := br_f hg8 h
           refine Qh rfl rfl (cgb hg8) rfl rfl ?_
           refine Qh rfl rfl (cgb hg8) rfl rfl ?_
           refine Qh rfl rfl (cgb hg8) rfl rfl ?_
           refine Qh rfl rfl (cgb hg8) rfl rfl ?_
           refine Qh rfl rfl (cgb hg8) rfl rfl ?_
           refine Qa rfl (Qu rfl rfl rfl (cgb hg8) rfl) ?_
           refine sAs rfl rfl rfl ?_
           refine nW [(0, some (vB false))] [] [] [0] [] [] rfl ?_
           obtain rfl := Option.some.inj h
           exact Qo rfl rfl (resA (vs := [vB false]) rfl ⟨rfl, trivial⟩) [] [] rfl rfl rfl ⟨rfl, rfl, rfl⟩
         ·replace h := br_f hg7 h
          refine Qh rfl rfl (cgb hg7) rfl rfl ?_
          refine Qh rfl rfl (cgb hg7) rfl rfl ?_
          refine Qh rfl rfl (cgb hg7) rfl rfl ?_
          refine Qa rfl (Qu rfl rfl rfl (cgb hg7) rfl) ?_
          refine sMv rfl rfl rfl ?_
          refine Qh rfl rfl rfl rfl rfl ?_
          refine Qh rfl rfl rfl rfl rfl ?_
          refine Qh rfl rfl rfl rfl rfl ?_
          refine Qh rfl rfl rfl rfl rfl ?_
          refine Qh rfl rfl rfl rfl rfl ?_
          refine Qa rfl (Qu rfl rfl rfl rfl rfl) ?_
          refine sAs rfl rfl rfl ?_
          refine nW [(0, some (vB false))] [] [] [0] [] [] rfl ?_
          obtain rfl := Option.some.inj h
          exact Qo rfl rfl (resA (vs := [vB false]) rfl ⟨rfl, trivial⟩) [] [] rfl rfl rfl ⟨rfl, rfl, rfl⟩
        ·replace h := br_f hg6 h
         refine Qh rfl rfl (cgb hg6) rfl rfl ?_
         refine Qh rfl rfl (cgb hg6) rfl rfl ?_
         refine Qa rfl (Qu rfl rfl rfl (cgb hg6) rfl) ?_
         refine sMv rfl rfl rfl ?_
         refine Qh rfl rfl rfl rfl rfl ?_
         refine Qh rfl rfl rfl rfl rfl ?_
         refine Qh rfl rfl rfl rfl rfl ?_
         refine Qa rfl (Qu rfl rfl rfl rfl rfl) ?_
         refine sMv rfl rfl rfl ?_
         refine Qh rfl rfl rfl rfl rfl ?_
         refine Qh rfl rfl rfl rfl rfl ?_
         refine Qh rfl rfl rfl rfl rfl ?_
         refine Qh rfl rfl rfl rfl rfl ?_
         refine Qh rfl rfl rfl rfl rfl ?_
         refine Qa rfl (Qu rfl rfl rfl rfl rfl) ?_
         refine sAs rfl rfl rfl ?_
         refine nW [(0, some (vB false))] [] [] [0] [] [] rfl ?_
         obtain rfl := Option.some.inj h
         exact Qo rfl rfl (resA (vs := [vB false]) rfl ⟨rfl, trivial⟩) [] [] rfl rfl rfl ⟨rfl, rfl, rfl⟩

set_option maxRecDepth 100000 in
set_option maxHeartbeats 4000000 in
theorem w_ref_Mem_Read02 {m : dumbwaiterref02_Mem} {atp1 : UInt64} {np2 : Int} {b_m : Nat} {vm1 : Value} {vm2 : Value} {vsm1 : List Value} {r : ((List UInt8) × Int)} (h : XV m atp1 np2 = some r) :
  Ctr Try.prog 62 #[.pointer (some ⟨b_m, 0, none⟩), vU64 atp1, vI np2] [(Qd b_m 84 [vm1, vm2]), (Qj u8S false vm2 vsm1 m.B none)] [Fact.sl Qf vm1 m.L]
   (fun rv own shr => ∃ (w1 : Value), rv = .tuple #[w1, vI r.2] ∧ own = [(Qd b_m 84 [vm1, vm2]), (Qj u8S false vm2 vsm1 m.B none), (rowS u8S w1 r.1)] ∧ shr = []) := by
 unfold XV at h
 refine Ctr.mk (args := [.pointer (some ⟨b_m, 0, none⟩), vU64 atp1, vI np2]) Try.func62 rfl rfl (fun R0 w0 B => ?_)
 refine Qe (Qb (sAs rfl rfl rfl ?_))
 refine sAs rfl rfl rfl ?_
 refine nW [(0, some (.pointer (some ⟨b_m, 0, none⟩))), (1, some (vU64 atp1)), (2, some (vI np2))] [some (Qd b_m 84 [vm1, vm2]), some (Qj u8S false vm2 vsm1 m.B none)] [Fact.sl Qf vm1 m.L] [0, 1, 2] [0, 1] [0] rfl ?_
 refine Qe (Qe (Qb (sMv rfl rfl rfl ?_)))
 refine Qa rfl (Qg rfl rfl rfl rfl rfl (QJ (a := np2) (b := (0 : Int)))) ?_
 refine nW [(0, some (.pointer (some ⟨b_m, 0, none⟩))), (1, some (vU64 atp1)), (2, some (vI np2)), (11, some (vB (decide (np2 < (0 : Int)))))] [some (Qd b_m 84 [vm1, vm2]), some (Qj u8S false vm2 vsm1 m.B none)] [Fact.sl Qf vm1 m.L] [0, 1, 2, 11] [0, 1] [0] rfl ?_
 rcases bC (decide (np2 < (0 : Int))) with hg1 | hg1
 ·replace h := br_t hg1 h
  refine Qn (cgb hg1) ?_
  refine Qe (Qb (sAs rfl rfl rfl ?_))
  refine sAs rfl rfl rfl ?_
  refine nW [(6, some (.slice none 0 0)), (7, some (vI (2 : Int)))] [some (Qd b_m 84 [vm1, vm2]), some (Qj u8S false vm2 vsm1 m.B none)] [Fact.sl Qf vm1 m.L] [6, 7] [0, 1] [0] rfl ?_
  refine QC u8S ?_
  obtain rfl := Option.some.inj h
  exact Qo rfl rfl (resA (vs := [.slice none 0 0, vI (2 : Int)]) rfl ⟨rfl, rfl, trivial⟩) [0, 1, 2] [] rfl rfl rfl ⟨(.slice none 0 0), rfl, rfl, rfl⟩
 ·replace h := br_f hg1 h
  refine Ql (cgb hg1) ?_
  refine Qr (Qe (Qe (Qb (sMv rfl rfl rfl ?_))))
  refine Qa rfl (Qg rfl rfl rfl rfl rfl (Xd (a := np2) (b := (0 : Int)))) ?_
  refine nW [(0, some (.pointer (some ⟨b_m, 0, none⟩))), (1, some (vU64 atp1)), (2, some (vI np2)), (13, some (vB (np2 == (0 : Int))))] [some (Qd b_m 84 [vm1, vm2]), some (Qj u8S false vm2 vsm1 m.B none)] [Fact.sl Qf vm1 m.L] [0, 1, 2, 13] [0, 1] [0] rfl ?_
  rcases bC (np2 == (0 : Int)) with hg2 | hg2
  ·replace h := br_t hg2 h
   refine Qn (cgb hg2) ?_
   refine Qe (Qb (sAs rfl rfl rfl ?_))
   refine sAs rfl rfl rfl ?_
   refine nW [(6, some (.slice none 0 0)), (7, some (vI (0 : Int)))] [some (Qd b_m 84 [vm1, vm2]), some (Qj u8S false vm2 vsm1 m.B none)] [Fact.sl Qf vm1 m.L] [6, 7] [0, 1] [0] rfl ?_
   refine QC u8S ?_
   obtain rfl := Option.some.inj h
   exact Qo rfl rfl (resA (vs := [.slice none 0 0, vI (0 : Int)]) rfl ⟨rfl, rfl, trivial⟩) [0, 1, 2] [] rfl rfl rfl ⟨(.slice none 0 0), rfl, rfl, rfl⟩
  ·replace h := br_f hg2 h
   refine Ql (cgb hg2) ?_
   refine Qr (Qe (Qb (sMv rfl rfl rfl ?_)))
   refine sMv rfl rfl rfl ?_
   refine sMv rfl rfl rfl ?_
   refine Qa rfl (QF rfl rfl rfl rfl (Yi (n := np2) Try.underlying3 Try.underlying22)) ?_
   obtain ⟨ZG, hx1, h⟩ := ob_e h
   refine Qt rfl (QS [2, 3] (w_ref_Mem_find02 hx1) [0, 1] [0] rfl rfl rfl rfl rfl callee38 rfl rfl rfl rfl rfl) ?_
   rintro _ ⟨_, _, _, ⟨rfl, rfl, rfl⟩, rfl⟩
   refine sMv rfl rfl rfl ?_
   refine Qa rfl (Qs rfl rfl rfl rfl rfl) ?_
   refine Qa rfl (Qs rfl rfl rfl rfl rfl) ?_
   refine sAs rfl rfl rfl ?_
   refine sAs rfl rfl rfl ?_
   refine nW [(0, some (.pointer (some ⟨b_m, 0, none⟩))), (2, some (vI np2)), (8, some (vI ZG.1)), (9, some (vI ZG.2))] [some (Qd b_m 84 [vm1, vm2]), some (Qj u8S false vm2 vsm1 m.B none)] [Fact.sl Qf vm1 m.L] [0, 2, 8, 9] [0, 1] [0] rfl ?_
   refine Qe (Qe (Qb (sMv rfl rfl rfl ?_)))
   refine Qa rfl (Qg rfl rfl rfl rfl rfl (QJ (a := ZG.1) (b := (0 : Int)))) ?_
   refine nW [(0, some (.pointer (some ⟨b_m, 0, none⟩))), (2, some (vI np2)), (8, some (vI ZG.1)), (9, some (vI ZG.2)), (23, some (vB (decide (ZG.1 < (0 : Int)))))] [some (Qd b_m 84 [vm1, vm2]), some (Qj u8S false vm2 vsm1 m.B none)] [Fact.sl Qf vm1 m.L] [0, 2, 8, 9, 23] [0, 1] [0] rfl ?_
   rcases bC (decide (ZG.1 < (0 : Int))) with hg3 | hg3
   ·replace h := br_t hg3 h
    refine Qn (cgb hg3) ?_
    refine Qe (Qb (sAs rfl rfl rfl ?_))
    refine sAs rfl rfl rfl ?_
    refine nW [(6, some (.slice none 0 0)), (7, some (vI (5 : Int)))] [some (Qd b_m 84 [vm1, vm2]), some (Qj u8S false vm2 vsm1 m.B none)] [Fact.sl Qf vm1 m.L] [6, 7] [0, 1] [0] rfl ?_
    refine QC u8S ?_
    obtain rfl := Option.some.inj h
    exact Qo rfl rfl (resA (vs := [.slice none 0 0, vI (5 : Int)]) rfl ⟨rfl, rfl, trivial⟩) [0, 1, 2] [] rfl rfl rfl ⟨(.slice none 0 0), rfl, rfl, rfl⟩
   ·replace h := br_f hg3 h
    refine Ql (cgb hg3) ?_
    refine Qr (Qe (Qb (Qq rfl (QH (S := u8S) (xs := ([] : List UInt8)) (css := []) (cs := []) (e := 5) rfl rfl rfl rfl (bldF Zf (by decide) (by kernel_rfl)) rfl rfl rfl rfl (Zd (S := u8S) (xs := ([] : List UInt8)) (css := []) rfl rfl)) fun v1 => ?_)))
    refine sMv rfl rfl rfl ?_
    refine Qa rfl (QO rfl rfl rfl rfl) ?_
    refine Qa rfl (Qm rfl rfl rfl rfl fldF84x1) ?_
    refine Qa rfl (Qp rfl rfl rfl rfl tyF80 (i := 0) rfl rfl) ?_
    refine sMv rfl rfl rfl ?_
    obtain ⟨row1, hx2, h⟩ := ob_e h
    refine Qa rfl (OpT_idxRows rfl rfl rfl rfl rfl slF80 (i := 1) rfl hx2) ?_
    refine Tops_vs (vs_focus (i := 1) (j := ZG.1) rfl hx2) ?_
    refine Qa rfl (OpT_loadRow (m := ZG.1) rfl rfl rfl rfl Yw (i := 1) rfl) ?_
    refine sMv rfl rfl rfl ?_
    refine sMv rfl rfl rfl ?_
    refine sMv rfl rfl rfl ?_
    refine Qa rfl (Qg rfl rfl rfl rfl rfl (Qx (a := ZG.2) (b := np2))) ?_
    obtain ⟨hc1, h⟩ := Zg h
    refine Qa rfl (OpT_subLH (S := u8S) (l := ZG.2) (m := wi (ZG.2 + np2)) rfl rfl rfl rfl rfl rfl Zf (i := 3) rfl hc1) ?_
    obtain ⟨hc2, h⟩ := Zg h
    refine Qq rfl (OpT_appendBs (S := u8S) (l := ZG.2) (m := (wi (ZG.2 + np2))) rfl rfl rfl rfl rfl rfl Zf (i := 2) (j := 3) rfl rfl hc1 hc2) fun v2 => ?_
    refine sAs rfl rfl rfl ?_
    refine sAs rfl rfl rfl ?_
    refine nW [(6, some v2), (7, some (vI (0 : Int)))] [some (Qd b_m 84 [vm1, vm2]), some (Qj u8S false vm2 vsm1 m.B (some (Int.toNat ZG.1, vsAt vsm1 (Int.toNat ZG.1)))), some (rowS u8S v2 (sub row1 ZG.2 (wi (ZG.2 + np2)))), some (rowS u8S (vsAt vsm1 (Int.toNat ZG.1)) row1)] [Fact.sl Qf vm1 m.L] [6, 7] [0, 1, 2, 3] [0] rfl ?_
    refine Tk_vs (vs_unfocus0 (i := 1) (q := 3) rfl rfl rfl hx2) ?_
    obtain rfl := Option.some.inj h
    exact Qo rfl rfl (resA (vs := [v2, vI (0 : Int)]) rfl ⟨rfl, rfl, trivial⟩) [0, 1, 2] [] rfl rfl rfl ⟨v2, rfl, rfl, rfl⟩

set_option maxRecDepth 100000 in
set_option maxHeartbeats 4000000 in
theorem w_ref_Gather05 {m : dumbwaiterref02_Mem} {l : List Seg} {b_m : Nat} {vm1 : Value} {vm2 : Value} {vsm1 : List Value} {vl1 : Value} {r : ((List UInt8) × Int)} (h : Xz m l = some r) :
  Ctr Try.prog 41 #[.pointer (some ⟨b_m, 0, none⟩), vl1] [(Qd b_m 84 [vm1, vm2]), (Qj u8S false vm2 vsm1 m.B none)] [Fact.sl Qf vm1 m.L, Fact.sl SegS vl1 l]
   (fun rv own shr => ∃ (w1 : Value), rv = .tuple #[w1, vI r.2] ∧ own = [(Qd b_m 84 [vm1, vm2]), (Qj u8S false vm2 vsm1 m.B none), (rowS u8S w1 r.1)] ∧ shr = []) := by
 unfold Xz at h
 refine Ctr.mk (args := [.pointer (some ⟨b_m, 0, none⟩), vl1]) Try.func41 rfl rfl (fun R0 w0 B => ?_)
 refine Qe (Qb (sAs rfl rfl rfl ?_))
 refine sAs rfl rfl rfl ?_
 refine nW [(0, some (.pointer (some ⟨b_m, 0, none⟩))), (1, some vl1)] [some (Qd b_m 84 [vm1, vm2]), some (Qj u8S false vm2 vsm1 m.B none)] [Fact.sl Qf vm1 m.L, Fact.sl SegS vl1 l] [0, 1] [0, 1] [0, 1] rfl ?_
 refine Qe (Qb (sMv rfl rfl rfl ?_))
 refine sMv rfl rfl rfl ?_
 obtain ⟨in1, hx1, h⟩ := ob_e h
 refine Qt rfl (QS [2, 3] (w_ref_In05 hx1) [0, 1] [0, 1] rfl rfl rfl rfl rfl callee48 rfl rfl rfl rfl rfl) ?_
 rintro _ ⟨_, _, _, ⟨rfl, rfl, rfl⟩, rfl⟩
 refine sAs rfl rfl rfl ?_
 refine nW [(0, some (.pointer (some ⟨b_m, 0, none⟩))), (1, some vl1), (6, some (vI in1))] [some (Qd b_m 84 [vm1, vm2]), some (Qj u8S false vm2 vsm1 m.B none)] [Fact.sl Qf vm1 m.L, Fact.sl SegS vl1 l] [0, 1, 6] [0, 1] [0, 1] rfl ?_
 refine Qe (Qe (Qb (sMv rfl rfl rfl ?_)))
 refine Qa rfl (Qg rfl rfl rfl rfl rfl (QN (a := in1) (b := (0 : Int)))) ?_
 refine nW [(0, some (.pointer (some ⟨b_m, 0, none⟩))), (1, some vl1), (6, some (vI in1)), (15, some (vB (in1 != (0 : Int))))] [some (Qd b_m 84 [vm1, vm2]), some (Qj u8S false vm2 vsm1 m.B none)] [Fact.sl Qf vm1 m.L, Fact.sl SegS vl1 l] [0, 1, 6, 15] [0, 1] [0, 1] rfl ?_
 rcases bC (in1 != (0 : Int)) with hg1 | hg1
 ·replace h := br_t hg1 h
  refine Qn (cgb hg1) ?_
  refine Qe (Qb (sMv rfl rfl rfl ?_))
  refine sAs rfl rfl rfl ?_
  refine sAs rfl rfl rfl ?_
  refine nW [(4, some (.slice none 0 0)), (5, some (vI in1))] [some (Qd b_m 84 [vm1, vm2]), some (Qj u8S false vm2 vsm1 m.B none)] [Fact.sl Qf vm1 m.L] [4, 5] [0, 1] [0] rfl ?_
  refine QC u8S ?_
  obtain rfl := Option.some.inj h
  exact Qo rfl rfl (resA (vs := [.slice none 0 0, vI in1]) rfl ⟨rfl, rfl, trivial⟩) [0, 1, 2] [] rfl rfl rfl ⟨(.slice none 0 0), rfl, rfl, rfl⟩
 ·replace h := br_f hg1 h
  refine Ql (cgb hg1) ?_
  refine Qr (Qe (Qb (sAs rfl rfl rfl ?_)))
  refine nW [(0, some (.pointer (some ⟨b_m, 0, none⟩))), (1, some vl1), (7, some (.slice none 0 0))] [some (Qd b_m 84 [vm1, vm2]), some (Qj u8S false vm2 vsm1 m.B none)] [Fact.sl Qf vm1 m.L, Fact.sl SegS vl1 l] [0, 1, 7] [0, 1] [0, 1] rfl ?_
  refine Qe (Qe (Qb (sAs rfl rfl rfl ?_)))
  refine QY (QD (QC u8S ?_))
  refine Zl (σ := (List UInt8) × Int × Value) [0, 1, 7, 8] [0, 1, 2] [0, 1] (fun s => ⟨[(0, some (.pointer (some ⟨b_m, 0, none⟩))), (1, some vl1), (7, some (s.2.2)), (8, some (vI s.2.1))], [some (Qd b_m 84 [vm1, vm2]), some (Qj u8S false vm2 vsm1 m.B none), some (rowS u8S s.2.2 s.1)], [Fact.sl Qf vm1 m.L, Fact.sl SegS vl1 l]⟩) (fun nf1 s => ZO m l nf1 s.1 s.2.1 = some r) fuel ([], (0 : Int), (.slice none 0 0)) h rfl rfl rfl rfl rfl (fun s h => by cases h) ?_
  rintro nf1 ⟨out1, i1, v1⟩ h
  replace h : Kg m l (ZO m l nf1) out1 i1 = some r := h
  unfold Kg at h
  refine Qe (Qe (Qb (sMv rfl rfl rfl ?_)))
  refine sMv rfl rfl rfl ?_
  refine Qa rfl (QL rfl rfl rfl rfl Try.underlying25 (i := 1) rfl) ?_
  refine Qa rfl (Qg rfl rfl rfl rfl rfl (QJ (a := i1) (b := len l))) ?_
  refine nW [(0, some (.pointer (some ⟨b_m, 0, none⟩))), (1, some vl1), (7, some v1), (8, some (vI i1)), (20, some (vB (decide (i1 < (len l)))))] [some (Qd b_m 84 [vm1, vm2]), some (Qj u8S false vm2 vsm1 m.B none), some (rowS u8S v1 out1)] [Fact.sl Qf vm1 m.L, Fact.sl SegS vl1 l] [0, 1, 7, 8, 20] [0, 1, 2] [0, 1] rfl ?_
  rcases bC (decide (i1 < (len l))) with hg2 | hg2
  ·replace h := br_t hg2 h
   refine Qn (cgb hg2) ?_
   refine Qr (Qe (XH (α := (List UInt8) × Value) (fun s => ⟨[(0, some (.pointer (some ⟨b_m, 0, none⟩))), (1, some vl1), (7, some (s.2)), (8, some (vI i1))], [some (Qd b_m 84 [vm1, vm2]), some (Qj u8S false vm2 vsm1 m.B none), some (rowS u8S s.2 s.1)], [Fact.sl Qf vm1 m.L, Fact.sl SegS vl1 l]⟩) (fun s => XW i1 (ZO m l nf1) s.1 = some r) ?_ ?_))
   ·rintro ⟨out2, v2⟩ h
    replace h : XW i1 (ZO m l nf1) out2 = some r := h
    unfold XW at h
    refine Qb (sMv rfl rfl rfl ?_)
    refine Qa rfl (Qg rfl rfl rfl rfl rfl (Qx (a := i1) (b := (1 : Int)))) ?_
    refine sAs rfl rfl rfl ?_
    refine nW [(0, some (.pointer (some ⟨b_m, 0, none⟩))), (1, some vl1), (7, some v2), (8, some (vI (wi (i1 + (1 : Int)))))] [some (Qd b_m 84 [vm1, vm2]), some (Qj u8S false vm2 vsm1 m.B none), some (rowS u8S v2 out2)] [Fact.sl Qf vm1 m.L, Fact.sl SegS vl1 l] [0, 1, 7, 8] [0, 1, 2] [0, 1] rfl ?_
    exact QQ (out2, wi (i1 + (1 : Int)), v2) h [0, 1, 7, 8] [0, 1, 2] [0, 1] rfl rfl rfl rfl rfl
   ·intro HJ1
    refine QD (Qe (Qb (sMv rfl rfl rfl ?_)))
    refine sMv rfl rfl rfl ?_
    obtain ⟨s1, hx2, h⟩ := ob_e h
    refine Qq rfl (Qy rfl rfl rfl rfl rfl XM (i := 1) rfl hx2) fun p1 => ?_
    refine Qq rfl (QK (S' := bS) (y := s1.Write) rfl rfl rfl rfl YA (i := 2) rfl (by intro h cs hr; subst hr; rfl)) fun p2 => ?_
    refine Qa rfl (Qv rfl rfl rfl rfl tyF4 (i := 3) rfl rfl) ?_
    refine Qa rfl (Kn rfl rfl rfl rfl) ?_
    refine nW [(0, some (.pointer (some ⟨b_m, 0, none⟩))), (1, some vl1), (7, some v1), (8, some (vI i1)), (28, some (vB (!s1.Write)))] [some (Qd b_m 84 [vm1, vm2]), some (Qj u8S false vm2 vsm1 m.B none), some (rowS u8S v1 out1)] [Fact.sl Qf vm1 m.L, Fact.sl SegS vl1 l] [0, 1, 7, 8, 28] [0, 1, 2] [0, 1] rfl ?_
    refine XH (α := (List UInt8) × Value) (fun s => ⟨[(0, some (.pointer (some ⟨b_m, 0, none⟩))), (1, some vl1), (7, some (s.2)), (8, some (vI i1))], [some (Qd b_m 84 [vm1, vm2]), some (Qj u8S false vm2 vsm1 m.B none), some (rowS u8S s.2 s.1)], [Fact.sl Qf vm1 m.L, Fact.sl SegS vl1 l]⟩) (fun s => XD i1 (ZO m l nf1) s.1 = some r) ?_ ?_
    ·rintro ⟨out3, v3⟩ h
     replace h : XD i1 (ZO m l nf1) out3 = some r := h
     unfold XD at h
     refine Zz ?_
     exact ZE (HJ1 (out3, v3) h) [0, 1, 7, 8] [0, 1, 2] [0, 1] rfl rfl rfl rfl
    ·intro HJ2
     rcases bC ((!s1.Write)) with hg3 | hg3
     ·replace h := br_t hg3 h
      refine Qn (cgb hg3) ?_
      refine Qe (Zp (by kernel_rfl) ?_)
      refine YI [0, 0, 0, 6, 14, 30, 0, 0, 192, 448, 960, 1984, 4095, 8191, 16383, 16383, 32767, 131071] (by kernel_rfl) fun htb => ?_
      refine Xn (fr' := [(0, some (.pointer (some ⟨b_m, 0, none⟩))), (1, some vl1), (7, some v1), (8, some (vI i1))]) (own' := [some (Qd b_m 84 [vm1, vm2]), some (Qj u8S false vm2 vsm1 m.B none), some (rowS u8S v1 out1)]) (shr' := [Fact.sl Qf vm1 m.L, Fact.sl SegS vl1 l]) [0, 1, 7, 8] [0, 1, 2] [0, 1] rfl rfl rfl rfl ?_
      obtain ⟨s2, hx3, h⟩ := ob_e h
      obtain ⟨s3, hx4, h⟩ := ob_e h
      refine Zr (lo := 0) (hi := 12) htb rfl rfl (by kernel_rfl) (fun c L a w => ∃ (p3 : Value), ∃ (p4 : Value), ∃ (p5 : Value), ∃ (p6 : Value), Sat c ⟨[(0, some (.pointer (some ⟨b_m, 0, none⟩))), (1, some vl1), (7, some v1), (8, some (vI i1)), (30, bif L 0 then some (.pointer (some ⟨b_m, 0, none⟩)) else none), (31, bif L 1 then some (vl1) else none), (32, bif L 2 then some (vI i1) else none), (33, bif L 3 then some (p3) else none), (34, bif L 4 then some (p4) else none), (35, bif L 5 then some (vU64 s2.At) else none), (36, bif L 6 then some (vl1) else none), (37, bif L 7 then some (vI i1) else none), (38, bif L 8 then some (p5) else none), (39, bif L 9 then some (p6) else none), (40, bif L 10 then some (vU32 s3.Len) else none), (41, bif L 11 then some (vI (i32 s3.Len)) else none)], [(some (Qd b_m 84 [vm1, vm2]) : Option Res), (some (Qj u8S false vm2 vsm1 m.B none) : Option Res), (some (rowS u8S v1 out1) : Option Res)], [Fact.sl Qf vm1 m.L, Fact.sl SegS vl1 l, (bif L 3 then Fact.pt SegS p3 s2 else Fact.tt), (bif L 4 then Fact.pt u64S p4 s2.At else Fact.tt), (bif L 8 then Fact.pt SegS p5 s3 else Fact.tt), (bif L 9 then Fact.pt u32S p6 s3.Len else Fact.tt)]⟩ a w) [([], []), ([], [3, 4, 5]), ([], [3, 4, 5]), ([1, 2], [4, 5]), ([1, 2, 3], [5]), ([1, 2, 3, 4], []), ([], [8, 9, 10, 11]), ([], [8, 9, 10, 11]), ([6, 7], [9, 10, 11]), ([6, 7, 8], [10, 11]), ([6, 7, 8, 9], [11]), ([6, 7, 8, 9, 10], [])] rfl (by kernel_rfl) ?_ (Qc ?_ (Qc ?_ (Qc ?_ (Qc ?_ (Qc ?_ (Qc ?_ (Qc ?_ (Qc ?_ (Qc ?_ (Qc ?_ (Qc ?_ (Qc ?_ (QI))))))))))))) ?_
      ·intro a w hs
       exact ⟨undef, undef, undef, undef, hs.startF [30, 31, 32, 33, 34, 35, 36, 37, 38, 39, 40, 41] [0, 1, 2] [0, 1, 2, 3, 4, 5] rfl rfl rfl rfl⟩
      ·intro L a w hv K Q hK
       obtain ⟨p3, p4, p5, p6, hs⟩ := hv
       exact wGo rfl rfl hs (Qk rfl rfl rfl rfl) fun a w hs => hK a w ⟨p3, p4, p5, p6, pF hs 4 [0, 1, 2] [0, 1, 2, 3, 4, 5] rfl⟩
      ·intro L a w hv K Q hK
       obtain ⟨p3, p4, p5, p6, hs⟩ := hv
       exact wGo rfl rfl hs (Qk rfl rfl rfl rfl) fun a w hs => hK a w ⟨p3, p4, p5, p6, pF hs 5 [0, 1, 2] [0, 1, 2, 3, 4, 5] rfl⟩
      ·intro L a w hv K Q hK
       obtain ⟨p3, p4, p5, p6, hs⟩ := hv
       exact wGo rfl rfl hs (Qk rfl rfl rfl rfl) fun a w hs => hK a w ⟨p3, p4, p5, p6, pF hs 6 [0, 1, 2] [0, 1, 2, 3, 4, 5] rfl⟩
      ·intro L a w hv K Q hK
       obtain ⟨p3, p4, p5, p6, hs⟩ := hv
       refine QE rfl rfl hs (Qy rfl rfl rfl rfl rfl XM (i := 1) rfl hx3) ?_
       rintro _ ⟨p3', rfl⟩ a' w' hs'
       exact hK a' w' ⟨p3', p4, p5, p6, hs'.putF (i := 7) rfl [0, 1, 2] [0, 1, 6, 3, 4, 5] rfl rfl rfl rfl⟩
      ·intro L a w hv K Q hK
       obtain ⟨p3, p4, p5, p6, hs⟩ := hv
       refine QE rfl rfl hs (QK (S' := u64S) (y := s2.At) rfl rfl rfl rfl fldF29x0 (i := 2) rfl (by intro h cs hr; subst hr; rfl)) ?_
       rintro _ ⟨p4', rfl⟩ a' w' hs'
       exact hK a' w' ⟨p3, p4', p5, p6, hs'.putF (i := 8) rfl [0, 1, 2] [0, 1, 2, 6, 4, 5] rfl rfl rfl rfl⟩
      ·intro L a w hv K Q hK
       obtain ⟨p3, p4, p5, p6, hs⟩ := hv
       exact wGo rfl rfl hs (Qv rfl rfl rfl rfl Xe (i := 3) rfl rfl) fun a w hs => hK a w ⟨p3, p4, p5, p6, pF hs 9 [0, 1, 2] [0, 1, 2, 3, 4, 5] rfl⟩
      ·intro L a w hv K Q hK
       obtain ⟨p3, p4, p5, p6, hs⟩ := hv
       exact wGo rfl rfl hs (Qk rfl rfl rfl rfl) fun a w hs => hK a w ⟨p3, p4, p5, p6, pF hs 10 [0, 1, 2] [0, 1, 2, 3, 4, 5] rfl⟩
      ·intro L a w hv K Q hK
       obtain ⟨p3, p4, p5, p6, hs⟩ := hv
       exact wGo rfl rfl hs (Qk rfl rfl rfl rfl) fun a w hs => hK a w ⟨p3, p4, p5, p6, pF hs 11 [0, 1, 2] [0, 1, 2, 3, 4, 5] rfl⟩
      ·intro L a w hv K Q hK
       obtain ⟨p3, p4, p5, p6, hs⟩ := hv
       refine QE rfl rfl hs (Qy rfl rfl rfl rfl rfl XM (i := 1) rfl hx4) ?_
       rintro _ ⟨p5', rfl⟩ a' w' hs'
       exact hK a' w' ⟨p3, p4, p5', p6, hs'.putF (i := 12) rfl [0, 1, 2] [0, 1, 2, 3, 6, 5] rfl rfl rfl rfl⟩
      ·intro L a w hv K Q hK
       obtain ⟨p3, p4, p5, p6, hs⟩ := hv
       refine QE rfl rfl hs (QK (S' := u32S) (y := s3.Len) rfl rfl rfl rfl ZS (i := 4) rfl (by intro h cs hr; subst hr; rfl)) ?_
       rintro _ ⟨p6', rfl⟩ a' w' hs'
       exact hK a' w' ⟨p3, p4, p5, p6', hs'.putF (i := 13) rfl [0, 1, 2] [0, 1, 2, 3, 4, 6] rfl rfl rfl rfl⟩
      ·intro L a w hv K Q hK
       obtain ⟨p3, p4, p5, p6, hs⟩ := hv
       exact wGo rfl rfl hs (Qv rfl rfl rfl rfl tyF27 (i := 5) rfl rfl) fun a w hs => hK a w ⟨p3, p4, p5, p6, pF hs 14 [0, 1, 2] [0, 1, 2, 3, 4, 5] rfl⟩
      ·intro L a w hv K Q hK
       obtain ⟨p3, p4, p5, p6, hs⟩ := hv
       exact wGo rfl rfl hs (QF rfl rfl rfl rfl (cnv_u32_i (n := s3.Len) Try.underlying27 Try.underlying3)) fun a w hs => hK a w ⟨p3, p4, p5, p6, pF hs 15 [0, 1, 2] [0, 1, 2, 3, 4, 5] rfl⟩
      ·intro L a w hL hv
       rw [QZ hL] at hv
       obtain ⟨p3, p4, p5, p6, hs⟩ := hv
       refine (show TA _ _ _ 12 ⟨[(0, some (.pointer (some ⟨b_m, 0, none⟩))), (1, some vl1), (7, some v1), (8, some (vI i1)), (30, some (.pointer (some ⟨b_m, 0, none⟩))), (35, some (vU64 s2.At)), (41, some (vI (i32 s3.Len)))], [some (Qd b_m 84 [vm1, vm2]), some (Qj u8S false vm2 vsm1 m.B none), some (rowS u8S v1 out1)], [Fact.sl Qf vm1 m.L, Fact.sl SegS vl1 l]⟩ from ?_) a w (hs.wkS [0, 1, 7, 8, 30, 35, 41] [0, 1, 2] [0, 1] rfl rfl rfl rfl)
       clear hs hL
       obtain ⟨read1, hx5, h⟩ := ob_e h
       refine TA_exP htb (by kernel_rfl) rfl rfl (QS [3, 4, 2, 5] (w_ref_Mem_Read02 hx5) [0, 1] [0] rfl rfl rfl rfl rfl callee62 rfl rfl rfl rfl rfl) ?_
       rintro _ ⟨_, _, _, ⟨v4, rfl, rfl, rfl⟩, rfl⟩
       refine QG htb (by kernel_rfl) rfl rfl (Qk rfl rfl rfl rfl) ?_
       refine Xn (fr' := [(0, some (.pointer (some ⟨b_m, 0, none⟩))), (1, some vl1), (7, some v1), (8, some (vI i1)), (29, some (.tuple #[v4, vI read1.2]))]) (own' := [some (Qd b_m 84 [vm1, vm2]), some (Qj u8S false vm2 vsm1 m.B none), some (rowS u8S v1 out1), some (rowS u8S v4 read1.1)]) (shr' := [Fact.sl Qf vm1 m.L, Fact.sl SegS vl1 l]) [0, 1, 7, 8, 29] [0, 1, 2, 3] [0, 1] rfl rfl rfl rfl ?_
       refine Zr (lo := 14) (hi := 17) htb rfl rfl (by kernel_rfl) (fun c L a w => Sat c ⟨[(0, some (.pointer (some ⟨b_m, 0, none⟩))), (1, some vl1), (7, some v1), (8, some (vI i1)), (29, some (.tuple #[v4, vI read1.2])), (43, bif L 14 then some (v4) else none), (44, bif L 15 then some (vI read1.2) else none), (9, bif L 16 then some (v4) else none)], [(some (Qd b_m 84 [vm1, vm2]) : Option Res), (some (Qj u8S false vm2 vsm1 m.B none) : Option Res), (some (rowS u8S v1 out1) : Option Res), (some (rowS u8S v4 read1.1) : Option Res)], [Fact.sl Qf vm1 m.L, Fact.sl SegS vl1 l]⟩ a w) [([], [16]), ([], []), ([14], [])] rfl (by kernel_rfl) ?_ (Qc ?_ (Qc ?_ (Qc ?_ (QI)))) ?_
       ·intro a w hs
        exact hs.startF [43, 44, 9] [0, 1, 2, 3] [0, 1] rfl rfl rfl rfl
       ·intro L a w hs K Q hK
        exact wGo rfl rfl hs (Qs rfl rfl rfl rfl rfl) fun a w hs => hK a w (pF hs 5 [0, 1, 2, 3] [0, 1] rfl)
       ·intro L a w hs K Q hK
        exact wGo rfl rfl hs (Qs rfl rfl rfl rfl rfl) fun a w hs => hK a w (pF hs 6 [0, 1, 2, 3] [0, 1] rfl)
       ·intro L a w hs K Q hK
        exact wGo rfl rfl hs (Zv rfl rfl rfl rfl) fun a w hs => hK a w (pF hs 7 [0, 1, 2, 3] [0, 1] rfl)
       ·intro L a w hL hv
        rw [QZ hL] at hv
        have hs := hv
        refine (show TA _ _ _ 17 ⟨[(0, some (.pointer (some ⟨b_m, 0, none⟩))), (1, some vl1), (7, some v1), (8, some (vI i1)), (44, some (vI read1.2)), (9, some v4)], [some (Qd b_m 84 [vm1, vm2]), some (Qj u8S false vm2 vsm1 m.B none), some (rowS u8S v1 out1), some (rowS u8S v4 read1.1)], [Fact.sl Qf vm1 m.L, Fact.sl SegS vl1 l]⟩ from ?_) a w (hs.wkS [0, 1, 7, 8, 44, 9] [0, 1, 2, 3] [0, 1] rfl rfl rfl rfl)
        clear hs hL
        refine QG htb (by kernel_rfl) rfl rfl (Zv rfl rfl rfl rfl) ?_
        refine ZP rfl ?_
        refine tW [(0, some (.pointer (some ⟨b_m, 0, none⟩))), (1, some vl1), (7, some v1), (8, some (vI i1)), (9, some v4)] [some (Qd b_m 84 [vm1, vm2]), some (Qj u8S false vm2 vsm1 m.B none), some (rowS u8S v1 out1), some (rowS u8S v4 read1.1)] [Fact.sl Qf vm1 m.L, Fact.sl SegS vl1 l] [0, 1, 7, 8, 9] [0, 1, 2, 3] [0, 1] rfl ?_
        refine Qb (sMv rfl rfl rfl ?_)
        refine sMv rfl rfl rfl ?_
        obtain ⟨hc1, h⟩ := Zg h
        refine Qq rfl (ZI (S := u8S) rfl rfl rfl rfl rfl rfl Zf (i := 2) (j := 3) rfl rfl hc1) fun v5 => ?_
        refine sAs rfl rfl rfl ?_
        refine nW [(0, some (.pointer (some ⟨b_m, 0, none⟩))), (1, some vl1), (7, some v5), (8, some (vI i1))] [some (Qd b_m 84 [vm1, vm2]), some (Qj u8S false vm2 vsm1 m.B none), some (rowS u8S v5 (out1 ++ read1.1))] [Fact.sl Qf vm1 m.L, Fact.sl SegS vl1 l] [0, 1, 7, 8] [0, 1, 2] [0, 1] rfl ?_
        exact ZE (HJ2 (out1 ++ read1.1, v5) h) [0, 1, 7, 8] [0, 1, 2] [0, 1] rfl rfl rfl rfl
     ·replace h := br_f hg3 h
      refine Ql (cgb hg3) ?_
      refine Qr ?_
      exact ZE (HJ2 (out1, v1) h) [0, 1, 7, 8] [0, 1, 2] [0, 1] rfl rfl rfl rfl
  ·replace h := br_f hg2 h
   refine Ql (cgb hg2) ?_
   refine Zo _ rfl ?_
   refine Qe (Qb (sMv rfl rfl rfl ?_))
   refine sAs rfl rfl rfl ?_
   refine sAs rfl rfl rfl ?_
   refine nW [(4, some v1), (5, some (vI (0 : Int)))] [some (Qd b_m 84 [vm1, vm2]), some (Qj u8S false vm2 vsm1 m.B none), some (rowS u8S v1 out1)] [Fact.sl Qf vm1 m.L] [4, 5] [0, 1, 2] [0] rfl ?_
   obtain rfl := Option.some.inj h
   exact Qo rfl rfl (resA (vs := [v1, vI (0 : Int)]) rfl ⟨rfl, rfl, trivial⟩) [0, 1, 2] [] rfl rfl rfl ⟨v1, rfl, rfl, rfl⟩

set_option maxRecDepth 100000 in
set_option maxHeartbeats 4000000 in
theorem w_ref_ReadHdr23 {b : List UInt8} {vb1 : Value} {r : (Hdr × Int)} (h : Yn b = some r) :
  Ctr Try.prog 42 #[vb1] [] [Fact.sl u8S vb1 b]
   (fun rv own shr => rv = .tuple #[.agg #[vU8 r.1.Flags, vU16 r.1.Start, vU16 r.1.Off, vU16 r.1.Buffers], vI r.2] ∧ own = [] ∧ shr = []) := by
 unfold Yn at h
 refine Ctr.mk (args := [vb1]) Try.func42 rfl rfl (fun R0 w0 B => ?_)
 refine Qe (Qb (Qq rfl (Zh rfl rfl rfl tyZ88) fun b1 => ?_))
 refine sAs rfl rfl rfl ?_
 refine nW [(0, some vb1), (2, some (.pointer (some ⟨b1, 0, none⟩)))] [some (Qd b1 88 [vU8 (0 : UInt8), vU16 (0 : UInt16), vU16 (0 : UInt16), vU16 (0 : UInt16)])] [Fact.sl u8S vb1 b] [0, 2] [0] [0] rfl ?_
 refine Qe (Qe (Qb (sMv rfl rfl rfl ?_)))
 refine Qa rfl (QL rfl rfl rfl rfl Try.underlying35 (i := 0) rfl) ?_
 refine Qa rfl (Qg rfl rfl rfl rfl rfl (QJ (a := len b) (b := (12 : Int)))) ?_
 refine nW [(0, some vb1), (2, some (.pointer (some ⟨b1, 0, none⟩))), (6, some (vB (decide ((len b) < (12 : Int)))))] [some (Qd b1 88 [vU8 (0 : UInt8), vU16 (0 : UInt16), vU16 (0 : UInt16), vU16 (0 : UInt16)])] [Fact.sl u8S vb1 b] [0, 2, 6] [0] [0] rfl ?_
 rcases bC (decide ((len b) < (12 : Int))) with hg1 | hg1
 ·replace h := br_t hg1 h
  refine Qn (cgb hg1) ?_
  refine Qe (Qb (Qa rfl (QT (v := .agg #[vU8 (0 : UInt8), vU16 (0 : UInt16), vU16 (0 : UInt16), vU16 (0 : UInt16)]) rfl rfl rfl rfl (bldV (by kernel_rfl))) ?_))
  refine Qa rfl (QA (cs' := [vU8 (0 : UInt8), vU16 (0 : UInt16), vU16 (0 : UInt16), vU16 (0 : UInt16)]) rfl rfl rfl rfl tyF88 (i := 0) rfl rfl rfl (Zi rfl) rfl) ?_
  refine sAs rfl rfl rfl ?_
  refine nW [(2, some (.pointer (some ⟨b1, 0, none⟩))), (3, some (vI (4 : Int)))] [some (Qd b1 88 [vU8 (0 : UInt8), vU16 (0 : UInt16), vU16 (0 : UInt16), vU16 (0 : UInt16)])] [] [2, 3] [0] [] rfl ?_
  obtain rfl := Option.some.inj h
  exact Qo rfl rfl (resA (vs := [.agg #[vU8 (0 : UInt8), vU16 (0 : UInt16), vU16 (0 : UInt16), vU16 (0 : UInt16)], vI (4 : Int)]) rfl ⟨⟨_, 0, _, _, _, rfl, rfl, .inl ⟨tyF88, rfl, rfl⟩⟩, rfl, trivial⟩) [] [] rfl rfl rfl ⟨rfl, rfl, rfl⟩
 ·replace h := br_f hg1 h
  refine Ql (cgb hg1) ?_
  refine Qr (Qe (Zp (by kernel_rfl) ?_))
  refine YI [0, 1, 3, 0, 8, 24, 56, 0, 128, 384, 896, 1920, 4088, 0, 8192, 24576, 57344, 0, 131072, 393216, 917504, 1966080, 4186112, 0, 8388608, 25165824, 58720256, 0, 134217728, 402653184, 939524096, 2013265920, 4286578688, 8589934591, 17179869183, 34359738367] (by kernel_rfl) fun htb => ?_
  refine Xn (fr' := [(0, some vb1), (2, some (.pointer (some ⟨b1, 0, none⟩)))]) (own' := [some (Qd b1 88 [vU8 (0 : UInt8), vU16 (0 : UInt16), vU16 (0 : UInt16), vU16 (0 : UInt16)])]) (shr' := [Fact.sl u8S vb1 b]) [0, 2] [0] [0] rfl rfl rfl rfl ?_
  obtain ⟨y1, hx1, h⟩ := ob_e h
  obtain ⟨y2, hx2, h⟩ := ob_e h
  obtain ⟨y3, hx3, h⟩ := ob_e h
  obtain ⟨y4, hx4, h⟩ := ob_e h
  obtain ⟨y5, hx5, h⟩ := ob_e h
  obtain ⟨y6, hx6, h⟩ := ob_e h
  obtain ⟨y7, hx7, h⟩ := ob_e h
  refine Zr (lo := 0) (hi := 33) htb rfl rfl (by kernel_rfl) (fun c L a w => ∃ (p1 : Value), ∃ (p2 : Value), ∃ (p3 : Value), ∃ (p4 : Value), ∃ (p5 : Value), ∃ (p6 : Value), ∃ (p7 : Value), Sat c ⟨[(0, some vb1), (2, some (.pointer (some ⟨b1, 0, none⟩))), (8, bif L 0 then some (vb1) else none), (9, bif L 1 then some (p1) else none), (10, bif L 2 then some (vU8 y1) else none), (11, bif L 3 then some (vb1) else none), (12, bif L 4 then some (p2) else none), (13, bif L 5 then some (vU8 y2) else none), (14, bif L 6 then some (vU16 y2.toUInt16) else none), (15, bif L 7 then some (vb1) else none), (16, bif L 8 then some (p3) else none), (17, bif L 9 then some (vU8 y3) else none), (18, bif L 10 then some (vU16 y3.toUInt16) else none), (19, bif L 11 then some (vU16 (Zm y3.toUInt16 ((8 : UInt64).toNat))) else none), (20, bif L 12 then some (vU16 (y2.toUInt16 ||| (Zm y3.toUInt16 ((8 : UInt64).toNat)))) else none), (21, bif L 13 then some (vb1) else none), (22, bif L 14 then some (p4) else none), (23, bif L 15 then some (vU8 y4) else none), (24, bif L 16 then some (vU16 y4.toUInt16) else none), (25, bif L 17 then some (vb1) else none), (26, bif L 18 then some (p5) else none), (27, bif L 19 then some (vU8 y5) else none), (28, bif L 20 then some (vU16 y5.toUInt16) else none), (29, bif L 21 then some (vU16 (Zm y5.toUInt16 ((8 : UInt64).toNat))) else none), (30, bif L 22 then some (vU16 (y4.toUInt16 ||| (Zm y5.toUInt16 ((8 : UInt64).toNat)))) else none), (31, bif L 23 then some (vb1) else none), (32, bif L 24 then some (p6) else none), (33, bif L 25 then some (vU8 y6) else none), (34, bif L 26 then some (vU16 y6.toUInt16) else none), (35, bif L 27 then some (vb1) else none), (36, bif L 28 then some (p7) else none), (37, bif L 29 then some (vU8 y7) else none), (38, bif L 30 then some (vU16 y7.toUInt16) else none), (39, bif L 31 then some (vU16 (Zm y7.toUInt16 ((8 : UInt64).toNat))) else none), (40, bif L 32 then some (vU16 (y6.toUInt16 ||| (Zm y7.toUInt16 ((8 : UInt64).toNat)))) else none)], [(some (Qd b1 88 [vU8 (0 : UInt8), vU16 (0 : UInt16), vU16 (0 : UInt16), vU16 (0 : UInt16)]) : Option Res)], [Fact.sl u8S vb1 b, (bif L 1 then Fact.pt u8S p1 y1 else Fact.tt), (bif L 4 then Fact.pt u8S p2 y2 else Fact.tt), (bif L 8 then Fact.pt u8S p3 y3 else Fact.tt), (bif L 14 then Fact.pt u8S p4 y4 else Fact.tt), (bif L 18 then Fact.pt u8S p5 y5 else Fact.tt), (bif L 24 then Fact.pt u8S p6 y6 else Fact.tt), (bif L 28 then Fact.pt u8S p7 y7 else Fact.tt)]⟩ a w) [([], [1, 2]), ([0], [2]), ([0, 1], []), ([], [4, 5, 6, 12]), ([3], [5, 6, 12]), ([3, 4], [6, 12]), ([3, 4, 5], [12]), ([], [8, 9, 10, 11, 12]), ([7], [9, 10, 11, 12]), ([7, 8], [10, 11, 12]), ([7, 8, 9], [11, 12]), ([7, 8, 9, 10], [12]), ([3, 4, 5, 6, 7, 8, 9, 10, 11], []), ([], [14, 15, 16, 22]), ([13], [15, 16, 22]), ([13, 14], [16, 22]), ([13, 14, 15], [22]), ([], [18, 19, 20, 21, 22]), ([17], [19, 20, 21, 22]), ([17, 18], [20, 21, 22]), ([17, 18, 19], [21, 22]), ([17, 18, 19, 20], [22]), ([13, 14, 15, 16, 17, 18, 19, 20, 21], []), ([], [24, 25, 26, 32]), ([23], [25, 26, 32]), ([23, 24], [26, 32]), ([23, 24, 25], [32]), ([], [28, 29, 30, 31, 32]), ([27], [29, 30, 31, 32]), ([27, 28], [30, 31, 32]), ([27, 28, 29], [31, 32]), ([27, 28, 29, 30], [32]), ([23, 24, 25, 26, 27, 28, 29, 30, 31], [])] rfl (by kernel_rfl) ?_ (Qc ?_ (Qc ?_ (Qc ?_ (Qc ?_ (Qc ?_ (Qc ?_ (Qc ?_ (Qc ?_ (Qc ?_ (Qc ?_ (Qc ?_ (Qc ?_ (Qc ?_ (Qc ?_ (Qc ?_ (Qc ?_ (Qc ?_ (Qc ?_ (Qc ?_ (Qc ?_ (Qc ?_ (Qc ?_ (Qc ?_ (Qc ?_ (Qc ?_ (Qc ?_ (Qc ?_ (Qc ?_ (Qc ?_ (Qc ?_ (Qc ?_ (Qc ?_ (Qc ?_ (QI)))))))))))))))))))))))))))))))))) ?_
  ·intro a w hs
   exact ⟨undef, undef, undef, undef, undef, undef, undef, hs.startF [8, 9, 10, 11, 12, 13, 14, 15, 16, 17, 18, 19, 20, 21, 22, 23, 24, 25, 26, 27, 28, 29, 30, 31, 32, 33, 34, 35, 36, 37, 38, 39, 40] [0] [0, 1, 2, 3, 4, 5, 6, 7] rfl rfl rfl rfl⟩
  ·intro L a w hv K Q hK
   obtain ⟨p1, p2, p3, p4, p5, p6, p7, hs⟩ := hv
   exact wGo rfl rfl hs (Qk rfl rfl rfl rfl) fun a w hs => hK a w ⟨p1, p2, p3, p4, p5, p6, p7, pF hs 2 [0] [0, 1, 2, 3, 4, 5, 6, 7] rfl⟩
  ·intro L a w hv K Q hK
   obtain ⟨p1, p2, p3, p4, p5, p6, p7, hs⟩ := hv
   refine QE rfl rfl hs (Qy rfl rfl rfl rfl rfl Zf (i := 0) rfl hx1) ?_
   rintro _ ⟨p1', rfl⟩ a' w' hs'
   exact hK a' w' ⟨p1', p2, p3, p4, p5, p6, p7, hs'.putF (i := 3) rfl [0] [0, 8, 2, 3, 4, 5, 6, 7] rfl rfl rfl rfl⟩
  ·intro L a w hv K Q hK
   obtain ⟨p1, p2, p3, p4, p5, p6, p7, hs⟩ := hv
   exact wGo rfl rfl hs (Qv rfl rfl rfl rfl tyF5 (i := 1) rfl rfl) fun a w hs => hK a w ⟨p1, p2, p3, p4, p5, p6, p7, pF hs 4 [0] [0, 1, 2, 3, 4, 5, 6, 7] rfl⟩
  ·intro L a w hv K Q hK
   obtain ⟨p1, p2, p3, p4, p5, p6, p7, hs⟩ := hv
   exact wGo rfl rfl hs (Qk rfl rfl rfl rfl) fun a w hs => hK a w ⟨p1, p2, p3, p4, p5, p6, p7, pF hs 5 [0] [0, 1, 2, 3, 4, 5, 6, 7] rfl⟩
  ·intro L a w hv K Q hK
   obtain ⟨p1, p2, p3, p4, p5, p6, p7, hs⟩ := hv
   refine QE rfl rfl hs (Qy rfl rfl rfl rfl rfl Zf (i := 0) rfl hx2) ?_
   rintro _ ⟨p2', rfl⟩ a' w' hs'
   exact hK a' w' ⟨p1, p2', p3, p4, p5, p6, p7, hs'.putF (i := 6) rfl [0] [0, 1, 8, 3, 4, 5, 6, 7] rfl rfl rfl rfl⟩
  ·intro L a w hv K Q hK
   obtain ⟨p1, p2, p3, p4, p5, p6, p7, hs⟩ := hv
   exact wGo rfl rfl hs (Qv rfl rfl rfl rfl tyF5 (i := 2) rfl rfl) fun a w hs => hK a w ⟨p1, p2, p3, p4, p5, p6, p7, pF hs 7 [0] [0, 1, 2, 3, 4, 5, 6, 7] rfl⟩
  ·intro L a w hv K Q hK
   obtain ⟨p1, p2, p3, p4, p5, p6, p7, hs⟩ := hv
   exact wGo rfl rfl hs (QF rfl rfl rfl rfl (Xg (n := y2) Try.underlying5 Try.underlying34)) fun a w hs => hK a w ⟨p1, p2, p3, p4, p5, p6, p7, pF hs 8 [0] [0, 1, 2, 3, 4, 5, 6, 7] rfl⟩
  ·intro L a w hv K Q hK
   obtain ⟨p1, p2, p3, p4, p5, p6, p7, hs⟩ := hv
   exact wGo rfl rfl hs (Qk rfl rfl rfl rfl) fun a w hs => hK a w ⟨p1, p2, p3, p4, p5, p6, p7, pF hs 9 [0] [0, 1, 2, 3, 4, 5, 6, 7] rfl⟩
  ·intro L a w hv K Q hK
   obtain ⟨p1, p2, p3, p4, p5, p6, p7, hs⟩ := hv
   refine QE rfl rfl hs (Qy rfl rfl rfl rfl rfl Zf (i := 0) rfl hx3) ?_
   rintro _ ⟨p3', rfl⟩ a' w' hs'
   exact hK a' w' ⟨p1, p2, p3', p4, p5, p6, p7, hs'.putF (i := 10) rfl [0] [0, 1, 2, 8, 4, 5, 6, 7] rfl rfl rfl rfl⟩
  ·intro L a w hv K Q hK
   obtain ⟨p1, p2, p3, p4, p5, p6, p7, hs⟩ := hv
   exact wGo rfl rfl hs (Qv rfl rfl rfl rfl tyF5 (i := 3) rfl rfl) fun a w hs => hK a w ⟨p1, p2, p3, p4, p5, p6, p7, pF hs 11 [0] [0, 1, 2, 3, 4, 5, 6, 7] rfl⟩
  ·intro L a w hv K Q hK
   obtain ⟨p1, p2, p3, p4, p5, p6, p7, hs⟩ := hv
   exact wGo rfl rfl hs (QF rfl rfl rfl rfl (Xg (n := y3) Try.underlying5 Try.underlying34)) fun a w hs => hK a w ⟨p1, p2, p3, p4, p5, p6, p7, pF hs 12 [0] [0, 1, 2, 3, 4, 5, 6, 7] rfl⟩
  ·intro L a w hv K Q hK
   obtain ⟨p1, p2, p3, p4, p5, p6, p7, hs⟩ := hv
   exact wGo rfl rfl hs (Qg rfl rfl rfl rfl rfl (Xt (a := y3.toUInt16) (n := (8 : UInt64)))) fun a w hs => hK a w ⟨p1, p2, p3, p4, p5, p6, p7, pF hs 13 [0] [0, 1, 2, 3, 4, 5, 6, 7] rfl⟩
  ·intro L a w hv K Q hK
   obtain ⟨p1, p2, p3, p4, p5, p6, p7, hs⟩ := hv
   exact wGo rfl rfl hs (Qg rfl rfl rfl rfl rfl (bin_or_u16 (a := y2.toUInt16) (b := Zm y3.toUInt16 ((8 : UInt64).toNat)))) fun a w hs => hK a w ⟨p1, p2, p3, p4, p5, p6, p7, pF hs 14 [0] [0, 1, 2, 3, 4, 5, 6, 7] rfl⟩
  ·intro L a w hv K Q hK
   obtain ⟨p1, p2, p3, p4, p5, p6, p7, hs⟩ := hv
   exact wGo rfl rfl hs (Qk rfl rfl rfl rfl) fun a w hs => hK a w ⟨p1, p2, p3, p4, p5, p6, p7, pF hs 15 [0] [0, 1, 2, 3, 4, 5, 6, 7] rfl⟩
  ·intro L a w hv K Q hK
   obtain ⟨p1, p2, p3, p4, p5, p6, p7, hs⟩ := hv
   refine QE rfl rfl hs (Qy rfl rfl rfl rfl rfl Zf (i := 0) rfl hx4) ?_
   rintro _ ⟨p4', rfl⟩ a' w' hs'
   exact hK a' w' ⟨p1, p2, p3, p4', p5, p6, p7, hs'.putF (i := 16) rfl [0] [0, 1, 2, 3, 8, 5, 6, 7] rfl rfl rfl rfl⟩
  ·intro L a w hv K Q hK
   obtain ⟨p1, p2, p3, p4, p5, p6, p7, hs⟩ := hv
   exact wGo rfl rfl hs (Qv rfl rfl rfl rfl tyF5 (i := 4) rfl rfl) fun a w hs => hK a w ⟨p1, p2, p3, p4, p5, p6, p7, pF hs 17 [0] [0, 1, 2, 3, 4, 5, 6, 7] rfl⟩
  ·intro L a w hv K Q hK
   obtain ⟨p1, p2, p3, p4, p5, p6, p7, hs⟩ := hv
   exact wGo rfl rfl hs (QF rfl rfl rfl rfl (Xg (n := y4) Try.underlying5 Try.underlying34)) fun a w hs => hK a w ⟨p1, p2, p3, p4, p5, p6, p7, pF hs 18 [0] [0, 1, 2, 3, 4, 5, 6, 7] rfl⟩
  ·intro L a w hv K Q hK
   obtain ⟨p1, p2, p3, p4, p5, p6, p7, hs⟩ := hv
   exact wGo rfl rfl hs (Qk rfl rfl rfl rfl) fun a w hs => hK a w ⟨p1, p2, p3, p4, p5, p6, p7, pF hs 19 [0] [0, 1, 2, 3, 4, 5, 6, 7] rfl⟩
  ·intro L a w hv K Q hK
   obtain ⟨p1, p2, p3, p4, p5, p6, p7, hs⟩ := hv
   refine QE rfl rfl hs (Qy rfl rfl rfl rfl rfl Zf (i := 0) rfl hx5) ?_
   rintro _ ⟨p5', rfl⟩ a' w' hs'
   exact hK a' w' ⟨p1, p2, p3, p4, p5', p6, p7, hs'.putF (i := 20) rfl [0] [0, 1, 2, 3, 4, 8, 6, 7] rfl rfl rfl rfl⟩
  ·intro L a w hv K Q hK
   obtain ⟨p1, p2, p3, p4, p5, p6, p7, hs⟩ := hv
   exact wGo rfl rfl hs (Qv rfl rfl rfl rfl tyF5 (i := 5) rfl rfl) fun a w hs => hK a w ⟨p1, p2, p3, p4, p5, p6, p7, pF hs 21 [0] [0, 1, 2, 3, 4, 5, 6, 7] rfl⟩
  ·intro L a w hv K Q hK
   obtain ⟨p1, p2, p3, p4, p5, p6, p7, hs⟩ := hv
   exact wGo rfl rfl hs (QF rfl rfl rfl rfl (Xg (n := y5) Try.underlying5 Try.underlying34)) fun a w hs => hK a w ⟨p1, p2, p3, p4, p5, p6, p7, pF hs 22 [0] [0, 1, 2, 3, 4, 5, 6, 7] rfl⟩
  ·intro L a w hv K Q hK
   obtain ⟨p1, p2, p3, p4, p5, p6, p7, hs⟩ := hv
   exact wGo rfl rfl hs (Qg rfl rfl rfl rfl rfl (Xt (a := y5.toUInt16) (n := (8 : UInt64)))) fun a w hs => hK a w ⟨p1, p2, p3, p4, p5, p6, p7, pF hs 23 [0] [0, 1, 2, 3, 4, 5, 6, 7] rfl⟩
  ·intro L a w hv K Q hK
   obtain ⟨p1, p2, p3, p4, p5, p6, p7, hs⟩ := hv
   exact wGo rfl rfl hs (Qg rfl rfl rfl rfl rfl (bin_or_u16 (a := y4.toUInt16) (b := Zm y5.toUInt16 ((8 : UInt64).toNat)))) fun a w hs => hK a w ⟨p1, p2, p3, p4, p5, p6, p7, pF hs 24 [0] [0, 1, 2, 3, 4, 5, 6, 7] rfl⟩
  ·intro L a w hv K Q hK
   obtain ⟨p1, p2, p3, p4, p5, p6, p7, hs⟩ := hv
   exact wGo rfl rfl hs (Qk rfl rfl rfl rfl) fun a w hs => hK a w ⟨p1, p2, p3, p4, p5, p6, p7, pF hs 25 [0] [0, 1, 2, 3, 4, 5, 6, 7] rfl⟩
  ·intro L a w hv K Q hK
   obtain ⟨p1, p2, p3, p4, p5, p6, p7, hs⟩ := hv
   refine QE rfl rfl hs (Qy rfl rfl rfl rfl rfl Zf (i := 0) rfl hx6) ?_
   rintro _ ⟨p6', rfl⟩ a' w' hs'
   exact hK a' w' ⟨p1, p2, p3, p4, p5, p6', p7, hs'.putF (i := 26) rfl [0] [0, 1, 2, 3, 4, 5, 8, 7] rfl rfl rfl rfl⟩
  ·intro L a w hv K Q hK
   obtain ⟨p1, p2, p3, p4, p5, p6, p7, hs⟩ := hv
   exact wGo rfl rfl hs (Qv rfl rfl rfl rfl tyF5 (i := 6) rfl rfl) fun a w hs => hK a w ⟨p1, p2, p3, p4, p5, p6, p7, pF hs 27 [0] [0, 1, 2, 3, 4, 5, 6, 7] rfl⟩
  ·intro L a w hv K Q hK
   obtain ⟨p1, p2, p3, p4, p5, p6, p7, hs⟩ := hv
   exact wGo rfl rfl hs (QF rfl rfl rfl rfl (Xg (n := y6) Try.underlying5 Try.underlying34)) fun a w hs => hK a w ⟨p1, p2, p3, p4, p5, p6, p7, pF hs 28 [0] [0, 1, 2, 3, 4, 5, 6, 7] rfl⟩
  ·intro L a w hv K Q hK
   obtain ⟨p1, p2, p3, p4, p5, p6, p7, hs⟩ := hv
   exact wGo rfl rfl hs (Qk rfl rfl rfl rfl) fun a w hs => hK a w ⟨p1, p2, p3, p4, p5, p6, p7, pF hs 29 [0] [0, 1, 2, 3, 4, 5, 6, 7] rfl⟩
  ·intro L a w hv K Q hK
   obtain ⟨p1, p2, p3, p4, p5, p6, p7, hs⟩ := hv
   refine QE rfl rfl hs (Qy rfl rfl rfl rfl rfl Zf (i := 0) rfl hx7) ?_
   rintro _ ⟨p7', rfl⟩ a' w' hs'
   exact hK a' w' ⟨p1, p2, p3, p4, p5, p6, p7', hs'.putF (i := 30) rfl [0] [0, 1, 2, 3, 4, 5, 6, 8] rfl rfl rfl rfl⟩
  ·intro L a w hv K Q hK
   obtain ⟨p1, p2, p3, p4, p5, p6, p7, hs⟩ := hv
   exact wGo rfl rfl hs (Qv rfl rfl rfl rfl tyF5 (i := 7) rfl rfl) fun a w hs => hK a w ⟨p1, p2, p3, p4, p5, p6, p7, pF hs 31 [0] [0, 1, 2, 3, 4, 5, 6, 7] rfl⟩
  ·intro L a w hv K Q hK
   obtain ⟨p1, p2, p3, p4, p5, p6, p7, hs⟩ := hv
   exact wGo rfl rfl hs (QF rfl rfl rfl rfl (Xg (n := y7) Try.underlying5 Try.underlying34)) fun a w hs => hK a w ⟨p1, p2, p3, p4, p5, p6, p7, pF hs 32 [0] [0, 1, 2, 3, 4, 5, 6, 7] rfl⟩
  ·intro L a w hv K Q hK
   obtain ⟨p1, p2, p3, p4, p5, p6, p7, hs⟩ := hv
   exact wGo rfl rfl hs (Qg rfl rfl rfl rfl rfl (Xt (a := y7.toUInt16) (n := (8 : UInt64)))) fun a w hs => hK a w ⟨p1, p2, p3, p4, p5, p6, p7, pF hs 33 [0] [0, 1, 2, 3, 4, 5, 6, 7] rfl⟩
  ·intro L a w hv K Q hK
   obtain ⟨p1, p2, p3, p4, p5, p6, p7, hs⟩ := hv
   exact wGo rfl rfl hs (Qg rfl rfl rfl rfl rfl (bin_or_u16 (a := y6.toUInt16) (b := Zm y7.toUInt16 ((8 : UInt64).toNat)))) fun a w hs => hK a w ⟨p1, p2, p3, p4, p5, p6, p7, pF hs 34 [0] [0, 1, 2, 3, 4, 5, 6, 7] rfl⟩
  ·intro L a w hL hv
   rw [QZ hL] at hv
   obtain ⟨p1, p2, p3, p4, p5, p6, p7, hs⟩ := hv
   refine (show TA _ _ _ 33 ⟨[(2, some (.pointer (some ⟨b1, 0, none⟩))), (10, some (vU8 y1)), (20, some (vU16 (y2.toUInt16 ||| (Zm y3.toUInt16 ((8 : UInt64).toNat))))), (30, some (vU16 (y4.toUInt16 ||| (Zm y5.toUInt16 ((8 : UInt64).toNat))))), (40, some (vU16 (y6.toUInt16 ||| (Zm y7.toUInt16 ((8 : UInt64).toNat)))))], [some (Qd b1 88 [vU8 (0 : UInt8), vU16 (0 : UInt16), vU16 (0 : UInt16), vU16 (0 : UInt16)])], []⟩ from ?_) a w (hs.wkS [2, 10, 20, 30, 40] [0] [] rfl rfl rfl rfl)
   clear hs hL
   refine QG htb (by kernel_rfl) rfl rfl (QT (v := .agg #[vU8 y1, vU16 (y2.toUInt16 ||| (Zm y3.toUInt16 ((8 : UInt64).toNat))), vU16 (y4.toUInt16 ||| (Zm y5.toUInt16 ((8 : UInt64).toNat))), vU16 (y6.toUInt16 ||| (Zm y7.toUInt16 ((8 : UInt64).toNat)))]) rfl rfl rfl rfl (bldV (by kernel_rfl))) ?_
   refine QG htb (by kernel_rfl) rfl rfl (QA (cs' := [vU8 y1, vU16 (y2.toUInt16 ||| (Zm y3.toUInt16 ((8 : UInt64).toNat))), vU16 (y4.toUInt16 ||| (Zm y5.toUInt16 ((8 : UInt64).toNat))), vU16 (y6.toUInt16 ||| (Zm y7.toUInt16 ((8 : UInt64).toNat)))]) rfl rfl rfl rfl tyF88 (i := 0) rfl rfl rfl (Zi rfl) rfl) ?_
   refine QG htb (by kernel_rfl) rfl rfl (Zv rfl rfl rfl rfl) ?_
   refine ZP rfl ?_
   refine tW [(2, some (.pointer (some ⟨b1, 0, none⟩))), (3, some (vI (0 : Int)))] [some (Qd b1 88 [vU8 y1, vU16 (y2.toUInt16 ||| (Zm y3.toUInt16 ((8 : UInt64).toNat))), vU16 (y4.toUInt16 ||| (Zm y5.toUInt16 ((8 : UInt64).toNat))), vU16 (y6.toUInt16 ||| (Zm y7.toUInt16 ((8 : UInt64).toNat)))])] [] [2, 3] [0] [] rfl ?_
   obtain rfl := Option.some.inj h
   exact Qo rfl rfl (resA (vs := [.agg #[vU8 y1, vU16 (y2.toUInt16 ||| (Zm y3.toUInt16 ((8 : UInt64).toNat))), vU16 (y4.toUInt16 ||| (Zm y5.toUInt16 ((8 : UInt64).toNat))), vU16 (y6.toUInt16 ||| (Zm y7.toUInt16 ((8 : UInt64).toNat)))], vI (0 : Int)]) rfl ⟨⟨_, 0, _, _, _, rfl, rfl, .inl ⟨tyF88, rfl, rfl⟩⟩, rfl, trivial⟩) [] [] rfl rfl rfl ⟨rfl, rfl, rfl⟩

set_option maxRecDepth 100000 in
set_option maxHeartbeats 4000000 in
theorem w_ref_Sum23 {b : List UInt8} {vb1 : Value} {r : UInt16} (h : ref_Sum23 b = some r) :
  Ctr Try.prog 21 #[vb1] [] [Fact.sl u8S vb1 b]
   (fun rv own shr => rv = vU16 r ∧ own = [] ∧ shr = []) := by
 unfold ref_Sum23 at h
 refine Ctr.mk (args := [vb1]) Try.func21 rfl rfl (fun R0 w0 B => ?_)
 refine Qe (Qb (sAs rfl rfl rfl ?_))
 refine nW [(0, some vb1)] [] [Fact.sl u8S vb1 b] [0] [] [0] rfl ?_
 refine Qe (Qb (sAs rfl rfl rfl ?_))
 refine QY (Qe (Qe (Qb (sAs rfl rfl rfl ?_))))
 refine QY (QD (Zl (σ := UInt64 × Int) [0, 3, 4] [] [0] (fun s => ⟨[(0, some vb1), (3, some (vU64 s.1)), (4, some (vI s.2))], [], [Fact.sl u8S vb1 b]⟩) (fun nf1 s => Xl b nf1 s.1 s.2 = some r) fuel ((0 : UInt64), (0 : Int)) h rfl rfl rfl rfl rfl (fun s h => by cases h) ?_))
 rintro nf1 ⟨n1, i1⟩ h
 replace h : ref_Sum23L1B b (Xl b nf1) n1 i1 = some r := h
 unfold ref_Sum23L1B at h
 refine Qe (Qe (Qb (sMv rfl rfl rfl ?_)))
 refine sMv rfl rfl rfl ?_
 refine Qa rfl (QL rfl rfl rfl rfl Try.underlying35 (i := 0) rfl) ?_
 refine Qa rfl (Qg rfl rfl rfl rfl rfl (QJ (a := i1) (b := len b))) ?_
 refine nW [(0, some vb1), (3, some (vU64 n1)), (4, some (vI i1)), (8, some (vB (decide (i1 < (len b)))))] [] [Fact.sl u8S vb1 b] [0, 3, 4, 8] [] [0] rfl ?_
 rcases bC (decide (i1 < (len b))) with hg1 | hg1
 ·replace h := br_t hg1 h
  refine Qn (cgb hg1) ?_
  refine Qr (Qe (XH (α := UInt64) (fun s => ⟨[(0, some vb1), (3, some (vU64 s)), (4, some (vI i1))], [], [Fact.sl u8S vb1 b]⟩) (fun s => ref_Sum23J2 i1 (Xl b nf1) s = some r) ?_ ?_))
  ·rintro n2 h
   replace h : ref_Sum23J2 i1 (Xl b nf1) n2 = some r := h
   unfold ref_Sum23J2 at h
   refine Qb (sMv rfl rfl rfl ?_)
   refine Qa rfl (Qg rfl rfl rfl rfl rfl (Qx (a := i1) (b := (2 : Int)))) ?_
   refine sAs rfl rfl rfl ?_
   refine nW [(0, some vb1), (3, some (vU64 n2)), (4, some (vI (wi (i1 + (2 : Int)))))] [] [Fact.sl u8S vb1 b] [0, 3, 4] [] [0] rfl ?_
   exact QQ (n2, wi (i1 + (2 : Int))) h [0, 3, 4] [] [0] rfl rfl rfl rfl rfl
  ·intro HJ1
   refine QD (Qe (Qb (sMv rfl rfl rfl ?_)))
   refine sMv rfl rfl rfl ?_
   refine sMv rfl rfl rfl ?_
   obtain ⟨y1, hx1, h⟩ := ob_e h
   refine Qq rfl (Qy rfl rfl rfl rfl rfl Zf (i := 0) rfl hx1) fun p1 => ?_
   refine Qa rfl (Qv rfl rfl rfl rfl tyF5 (i := 1) rfl rfl) ?_
   refine Qa rfl (QF rfl rfl rfl rfl (cnv_u8_u64 (n := y1) Try.underlying5 Try.underlying22)) ?_
   refine Qa rfl (Qg rfl rfl rfl rfl rfl (bin_shl_u64_u64 (a := y1.toUInt64) (n := (8 : UInt64)))) ?_
   refine Qa rfl (Qg rfl rfl rfl rfl rfl (Zb (a := n1) (b := shl64 y1.toUInt64 ((8 : UInt64).toNat)))) ?_
   refine sAs rfl rfl rfl ?_
   refine nW [(0, some vb1), (3, some (vU64 (n1 + (shl64 y1.toUInt64 ((8 : UInt64).toNat))))), (4, some (vI i1))] [] [Fact.sl u8S vb1 b] [0, 3, 4] [] [0] rfl ?_
   refine Qe (Qb (sMv rfl rfl rfl ?_))
   refine Qa rfl (Qg rfl rfl rfl rfl rfl (Qx (a := i1) (b := (1 : Int)))) ?_
   refine sMv rfl rfl rfl ?_
   refine Qa rfl (QL rfl rfl rfl rfl Try.underlying35 (i := 0) rfl) ?_
   refine Qa rfl (Qg rfl rfl rfl rfl rfl (QJ (a := wi (i1 + (1 : Int))) (b := len b))) ?_
   refine nW [(0, some vb1), (3, some (vU64 (n1 + (shl64 y1.toUInt64 ((8 : UInt64).toNat))))), (4, some (vI i1)), (23, some (vB (decide ((wi (i1 + (1 : Int))) < (len b)))))] [] [Fact.sl u8S vb1 b] [0, 3, 4, 23] [] [0] rfl ?_
   refine XH (α := UInt64) (fun s => ⟨[(0, some vb1), (3, some (vU64 s)), (4, some (vI i1))], [], [Fact.sl u8S vb1 b]⟩) (fun s => YE i1 (Xl b nf1) s = some r) ?_ ?_
   ·rintro n3 h
    replace h : YE i1 (Xl b nf1) n3 = some r := h
    unfold YE at h
    refine Zz ?_
    exact ZE (HJ1 n3 h) [0, 3, 4] [] [0] rfl rfl rfl rfl
   ·intro HJ2
    rcases bC (decide ((wi (i1 + (1 : Int))) < (len b))) with hg2 | hg2
    ·replace h := br_t hg2 h
     refine Qn (cgb hg2) ?_
     refine Qb (sMv rfl rfl rfl ?_)
     refine sMv rfl rfl rfl ?_
     refine sMv rfl rfl rfl ?_
     refine Qa rfl (Qg rfl rfl rfl rfl rfl (Qx (a := i1) (b := (1 : Int)))) ?_
     obtain ⟨y2, hx2, h⟩ := ob_e h
     refine Qq rfl (Qy rfl rfl rfl rfl rfl Zf (i := 0) rfl hx2) fun p2 => ?_
     refine Qa rfl (Qv rfl rfl rfl rfl tyF5 (i := 1) rfl rfl) ?_
     refine Qa rfl (QF rfl rfl rfl rfl (cnv_u8_u64 (n := y2) Try.underlying5 Try.underlying22)) ?_
     refine Qa rfl (Qg rfl rfl rfl rfl rfl (Zb (a := n1 + (shl64 y1.toUInt64 ((8 : UInt64).toNat))) (b := y2.toUInt64))) ?_
     refine sAs rfl rfl rfl ?_
     refine nW [(0, some vb1), (3, some (vU64 ((n1 + (shl64 y1.toUInt64 ((8 : UInt64).toNat))) + y2.toUInt64))), (4, some (vI i1))] [] [Fact.sl u8S vb1 b] [0, 3, 4] [] [0] rfl ?_
     exact ZE (HJ2 ((n1 + (shl64 y1.toUInt64 ((8 : UInt64).toNat))) + y2.toUInt64) h) [0, 3, 4] [] [0] rfl rfl rfl rfl
    ·replace h := br_f hg2 h
     refine Ql (cgb hg2) ?_
     refine Qr ?_
     exact ZE (HJ2 (n1 + (shl64 y1.toUInt64 ((8 : UInt64).toNat))) h) [0, 3, 4] [] [0] rfl rfl rfl rfl
 ·replace h := br_f hg1 h
  refine Ql (cgb hg1) ?_
  refine Zo _ rfl ?_
  refine Qe (QD (Zl (σ := UInt64) [3] [] [] (fun s => ⟨[(3, some (vU64 s))], [], []⟩) (fun nf4 s => ref_Sum23L4 nf4 s = some r) fuel n1 h rfl rfl rfl rfl rfl (fun s h => by cases h) ?_))
  rintro nf4 n4 h
  replace h : ref_Sum23L4B (ref_Sum23L4 nf4) n4 = some r := h
  unfold ref_Sum23L4B at h
  refine Qe (Qe (Qb (sMv rfl rfl rfl ?_)))
  refine Qa rfl (Qg rfl rfl rfl rfl rfl (XR (a := n4) (b := (65535 : UInt64)))) ?_
  refine nW [(3, some (vU64 n4)), (33, some (vB (decide (n4 > (65535 : UInt64)))))] [] [] [3, 33] [] [] rfl ?_
  rcases bC (decide (n4 > (65535 : UInt64))) with hg3 | hg3
  ·replace h := br_t hg3 h
   refine Qn (cgb hg3) ?_
   refine Qr (QD (Qb (sMv rfl rfl rfl ?_)))
   refine Qa rfl (Qg rfl rfl rfl rfl rfl (bin_rem_u64 (a := n4) (b := (65536 : UInt64)) rfl)) ?_
   refine sMv rfl rfl rfl ?_
   refine Qa rfl (Qg rfl rfl rfl rfl rfl (bin_quo_u64 (a := n4) (b := (65536 : UInt64)) rfl)) ?_
   refine Qa rfl (Qg rfl rfl rfl rfl rfl (Zb (a := n4 % (65536 : UInt64)) (b := n4 / (65536 : UInt64)))) ?_
   refine sAs rfl rfl rfl ?_
   refine nW [(3, some (vU64 ((n4 % (65536 : UInt64)) + (n4 / (65536 : UInt64)))))] [] [] [3] [] [] rfl ?_
   refine Zz ?_
   exact QQ ((n4 % (65536 : UInt64)) + (n4 / (65536 : UInt64))) h [3] [] [] rfl rfl rfl rfl rfl
  ·replace h := br_f hg3 h
   refine Ql (cgb hg3) ?_
   refine Zo _ rfl ?_
   refine Qe (Qb (sMv rfl rfl rfl ?_))
   refine Qa rfl (QF rfl rfl rfl rfl (cnv_u64_u16 (n := n4) Try.underlying22 Try.underlying34)) ?_
   refine Qa rfl (OpT_xor_u16 (z := n4.toUInt16) rfl rfl rfl rfl) ?_
   refine sAs rfl rfl rfl ?_
   refine nW [(2, some (vU16 (~~~n4.toUInt16)))] [] [] [2] [] [] rfl ?_
   obtain rfl := Option.some.inj h
   exact Qo rfl rfl (resA (vs := [vU16 (~~~n4.toUInt16)]) rfl ⟨rfl, trivial⟩) [] [] rfl rfl rfl ⟨rfl, rfl, rfl⟩

set_option maxRecDepth 100000 in
set_option maxHeartbeats 4000000 in
theorem w_ref_Fill23 {b : List UInt8} {hp1 : Hdr} {vb1 : Value} {r : ((List UInt8) × Int)} (h : YM b hp1 = some r) :
  Ctr Try.prog 44 #[vb1, .agg #[vU8 hp1.Flags, vU16 hp1.Start, vU16 hp1.Off, vU16 hp1.Buffers]] [] [Fact.sl u8S vb1 b]
   (fun rv own shr => ∃ (w1 : Value), rv = .tuple #[w1, vI r.2] ∧ own = [(rowS u8S w1 r.1)] ∧ shr = []) := by
 unfold YM at h
 refine Ctr.mk (args := [vb1, .agg #[vU8 hp1.Flags, vU16 hp1.Start, vU16 hp1.Off, vU16 hp1.Buffers]]) Try.func44 rfl rfl (fun R0 w0 B => ?_)
 refine Qe (Qb (Qq rfl (XZ rfl rfl rfl rfl) fun b1 => ?_))
 refine sAs rfl rfl rfl ?_
 refine sAs rfl rfl rfl ?_
 refine nW [(0, some vb1), (3, some (.pointer (some ⟨b1, 0, none⟩)))] [some (Qd b1 88 [vU8 hp1.Flags, vU16 hp1.Start, vU16 hp1.Off, vU16 hp1.Buffers])] [Fact.sl u8S vb1 b] [0, 3] [0] [0] rfl ?_
 refine Qe (Qb (Qq rfl (QH (S := u8S) (xs := ([] : List UInt8)) (css := []) (cs := []) (e := 5) rfl rfl rfl rfl (bldF Zf (by decide) (by kernel_rfl)) rfl rfl rfl rfl (Zd (S := u8S) (xs := ([] : List UInt8)) (css := []) rfl rfl)) fun v1 => ?_))
 refine sMv rfl rfl rfl ?_
 obtain ⟨hc1, h⟩ := Zg h
 refine Qq rfl (Xk rfl rfl rfl rfl rfl Zf (i := 1) (j := 0) rfl rfl hc1) fun v2 => ?_
 refine sAs rfl rfl rfl ?_
 refine nW [(0, some vb1), (3, some (.pointer (some ⟨b1, 0, none⟩))), (6, some v2)] [some (Qd b1 88 [vU8 hp1.Flags, vU16 hp1.Start, vU16 hp1.Off, vU16 hp1.Buffers]), some (rowS u8S v2 b)] [Fact.sl u8S vb1 b] [0, 3, 6] [0, 1] [0] rfl ?_
 refine Qe (Qe (Qb (Qa rfl (Qm rfl rfl rfl rfl fldF88x0) ?_)))
 refine Qa rfl (Qp rfl rfl rfl rfl tyF5 (i := 0) rfl rfl) ?_
 refine Qa rfl (Qg rfl rfl rfl rfl rfl (bin_and_u8 (a := hp1.Flags) (b := (1 : UInt8)))) ?_
 refine Qa rfl (Qg rfl rfl rfl rfl rfl (bin_eql_u8 (a := hp1.Flags &&& (1 : UInt8)) (b := (0 : UInt8)))) ?_
 refine nW [(0, some vb1), (3, some (.pointer (some ⟨b1, 0, none⟩))), (6, some v2), (15, some (vB ((hp1.Flags &&& (1 : UInt8)) == (0 : UInt8))))] [some (Qd b1 88 [vU8 hp1.Flags, vU16 hp1.Start, vU16 hp1.Off, vU16 hp1.Buffers]), some (rowS u8S v2 b)] [Fact.sl u8S vb1 b] [0, 3, 6, 15] [0, 1] [0] rfl ?_
 rcases bC ((hp1.Flags &&& (1 : UInt8)) == (0 : UInt8)) with hg1 | hg1
 ·replace h := br_t hg1 h
  refine Qn (cgb hg1) ?_
  refine Qe (Qb (sMv rfl rfl rfl ?_))
  refine sAs rfl rfl rfl ?_
  refine sAs rfl rfl rfl ?_
  refine nW [(4, some v2), (5, some (vI (0 : Int)))] [some (rowS u8S v2 b)] [] [4, 5] [1] [] rfl ?_
  obtain rfl := Option.some.inj h
  exact Qo rfl rfl (resA (vs := [v2, vI (0 : Int)]) rfl ⟨rfl, rfl, trivial⟩) [0] [] rfl rfl rfl ⟨v2, rfl, rfl, rfl⟩
 ·replace h := br_f hg1 h
  refine Ql (cgb hg1) ?_
  refine Qr (Qe (Qb (Qa rfl (Qm rfl rfl rfl rfl fldF88x1) ?_)))
  refine Qa rfl (Qp rfl rfl rfl rfl tyF34 (i := 0) rfl rfl) ?_
  refine Qa rfl (QF rfl rfl rfl rfl (cnv_u16_i (n := hp1.Start) Try.underlying34 Try.underlying3)) ?_
  refine Qa rfl (Qm rfl rfl rfl rfl fldF88x2) ?_
  refine Qa rfl (Qp rfl rfl rfl rfl tyF34 (i := 0) rfl rfl) ?_
  refine Qa rfl (QF rfl rfl rfl rfl (cnv_u16_i (n := hp1.Off) Try.underlying34 Try.underlying3)) ?_
  refine Qa rfl (Qg rfl rfl rfl rfl rfl (Qx (a := i16 hp1.Start) (b := i16 hp1.Off))) ?_
  refine sAs rfl rfl rfl ?_
  refine nW [(0, some vb1), (3, some (.pointer (some ⟨b1, 0, none⟩))), (6, some v2), (7, some (vI (wi ((i16 hp1.Start) + (i16 hp1.Off)))))] [some (Qd b1 88 [vU8 hp1.Flags, vU16 hp1.Start, vU16 hp1.Off, vU16 hp1.Buffers]), some (rowS u8S v2 b)] [Fact.sl u8S vb1 b] [0, 3, 6, 7] [0, 1] [0] rfl ?_
  refine Qe (Qe (Qb (Qa rfl (Qm rfl rfl rfl rfl fldF88x1) ?_)))
  refine Qa rfl (Qp rfl rfl rfl rfl tyF34 (i := 0) rfl rfl) ?_
  refine Qa rfl (QF rfl rfl rfl rfl (cnv_u16_i (n := hp1.Start) Try.underlying34 Try.underlying3)) ?_
  refine sMv rfl rfl rfl ?_
  refine Qa rfl (QL rfl rfl rfl rfl Try.underlying35 (i := 0) rfl) ?_
  refine Qa rfl (Qg rfl rfl rfl rfl rfl (ZN (a := i16 hp1.Start) (b := len b))) ?_
  refine sMv rfl rfl rfl ?_
  rcases bC (decide ((i16 hp1.Start) > (len b))) with hg2 | hg2
  ·replace h := br_t hg2 h
   refine Qh rfl rfl (cgb hg2) rfl rfl ?_
   refine Qh rfl rfl (cgb hg2) rfl rfl ?_
   refine Qh rfl rfl (cgb hg2) rfl rfl ?_
   refine Qh rfl rfl (cgb hg2) rfl rfl ?_
   refine Qh rfl rfl (cgb hg2) rfl rfl ?_
   refine Qa rfl (Qz rfl rfl rfl (cgb hg2) rfl) ?_
   refine nW [(0, some vb1), (3, some (.pointer (some ⟨b1, 0, none⟩))), (6, some v2), (7, some (vI (wi ((i16 hp1.Start) + (i16 hp1.Off))))), (36, some (vB true))] [some (Qd b1 88 [vU8 hp1.Flags, vU16 hp1.Start, vU16 hp1.Off, vU16 hp1.Buffers]), some (rowS u8S v2 b)] [Fact.sl u8S vb1 b] [0, 3, 6, 7, 36] [0, 1] [0] rfl ?_
   refine Qn rfl ?_
   refine Qe (Qb (sAs rfl rfl rfl ?_))
   refine sAs rfl rfl rfl ?_
   refine nW [(4, some (.slice none 0 0)), (5, some (vI (4 : Int)))] [] [] [4, 5] [] [] rfl ?_
   refine QC u8S ?_
   obtain rfl := Option.some.inj h
   exact Qo rfl rfl (resA (vs := [.slice none 0 0, vI (4 : Int)]) rfl ⟨rfl, rfl, trivial⟩) [0] [] rfl rfl rfl ⟨(.slice none 0 0), rfl, rfl, rfl⟩
  ·replace h := br_f hg2 h
   refine Qi rfl rfl (cgb hg2) (Qk rfl rfl rfl rfl) ?_
   rintro _ rfl
   refine Qi rfl rfl (cgb hg2) (Qg rfl rfl rfl rfl rfl (Qx (a := wi ((i16 hp1.Start) + (i16 hp1.Off))) (b := (2 : Int)))) ?_
   rintro _ rfl
   refine Qi rfl rfl (cgb hg2) (Qk rfl rfl rfl rfl) ?_
   rintro _ rfl
   refine Qi rfl rfl (cgb hg2) (QL rfl rfl rfl rfl Try.underlying35 (i := 0) rfl) ?_
   rintro _ rfl
   refine Qi rfl rfl (cgb hg2) (Qg rfl rfl rfl rfl rfl (ZN (a := wi ((wi ((i16 hp1.Start) + (i16 hp1.Off))) + (2 : Int))) (b := len b))) ?_
   rintro _ rfl
   refine Qa rfl (Qu rfl rfl rfl (cgb hg2) rfl) ?_
   refine nW [(0, some vb1), (3, some (.pointer (some ⟨b1, 0, none⟩))), (6, some v2), (7, some (vI (wi ((i16 hp1.Start) + (i16 hp1.Off))))), (36, some (vB (decide ((wi ((wi ((i16 hp1.Start) + (i16 hp1.Off))) + (2 : Int))) > (len b)))))] [some (Qd b1 88 [vU8 hp1.Flags, vU16 hp1.Start, vU16 hp1.Off, vU16 hp1.Buffers]), some (rowS u8S v2 b)] [Fact.sl u8S vb1 b] [0, 3, 6, 7, 36] [0, 1] [0] rfl ?_
   rcases bC (decide ((wi ((wi ((i16 hp1.Start) + (i16 hp1.Off))) + (2 : Int))) > (len b))) with hg3 | hg3
   ·replace h := br_t hg3 h
    refine Qn (cgb hg3) ?_
    refine Qe (Qb (sAs rfl rfl rfl ?_))
    refine sAs rfl rfl rfl ?_
    refine nW [(4, some (.slice none 0 0)), (5, some (vI (4 : Int)))] [] [] [4, 5] [] [] rfl ?_
    refine QC u8S ?_
    obtain rfl := Option.some.inj h
    exact Qo rfl rfl (resA (vs := [.slice none 0 0, vI (4 : Int)]) rfl ⟨rfl, rfl, trivial⟩) [0] [] rfl rfl rfl ⟨(.slice none 0 0), rfl, rfl, rfl⟩
   ·replace h := br_f hg3 h
    refine Ql (cgb hg3) ?_
    refine Qr (Qe (Qb (sMv rfl rfl rfl ?_)))
    refine Qa rfl (Qm rfl rfl rfl rfl fldF88x1) ?_
    refine Qa rfl (Qp rfl rfl rfl rfl tyF34 (i := 0) rfl rfl) ?_
    obtain ⟨hc2, h⟩ := Zg h
    refine Qq rfl (Xw (l := (hp1.Start.toNat : Int)) rfl rfl rfl rfl rfl Zf (i := 0) rfl hc2) fun v3 => ?_
    obtain ⟨sum1, hx1, h⟩ := ob_e h
    refine Qt rfl (QP (w_ref_Sum23 hx1) [] [1] rfl rfl rfl rfl rfl callee21 rfl rfl rfl rfl) ?_
    rintro _ ⟨_, _, _, ⟨rfl, rfl, rfl⟩, rfl⟩
    refine sAs rfl rfl rfl ?_
    refine nW [(6, some v2), (7, some (vI (wi ((i16 hp1.Start) + (i16 hp1.Off))))), (8, some (vU16 sum1))] [some (rowS u8S v2 b)] [] [6, 7, 8] [1] [] rfl ?_
    refine Qe (Qb (sMv rfl rfl rfl ?_))
    refine sMv rfl rfl rfl ?_
    refine sMv rfl rfl rfl ?_
    refine sMv rfl rfl rfl ?_
    refine Qa rfl (Qg rfl rfl rfl rfl rfl (Qx (a := wi ((i16 hp1.Start) + (i16 hp1.Off))) (b := (1 : Int)))) ?_
    refine sMv rfl rfl rfl ?_
    refine Qa rfl (Qg rfl rfl rfl rfl rfl (Xs (a := sum1) (n := (8 : UInt64)))) ?_
    refine Qa rfl (QF rfl rfl rfl rfl (Xh (n := Zt sum1 ((8 : UInt64).toNat)) Try.underlying34 Try.underlying5)) ?_
    refine sMv rfl rfl rfl ?_
    refine Qa rfl (QF rfl rfl rfl rfl (Xh (n := sum1) Try.underlying34 Try.underlying5)) ?_
    obtain ⟨y1, hx2, h⟩ := ob_e h
    refine Qa rfl (OpT_idxO rfl rfl rfl rfl rfl Zf (i := 0) rfl hx2) ?_
    refine Qa rfl (OpT_storeO (S := u8S) (u := (Zt sum1 ((8 : UInt64).toNat)).toUInt8) rfl rfl rfl rfl rfl tyF5 (i := 0) rfl hx2 rfl) ?_
    obtain ⟨y2, hx3, h⟩ := ob_e h
    refine Qa rfl (OpT_idxO rfl rfl rfl rfl rfl Zf (i := 0) rfl hx3) ?_
    refine Qa rfl (OpT_storeO (S := u8S) (u := sum1.toUInt8) rfl rfl rfl rfl rfl tyF5 (i := 0) rfl hx3 rfl) ?_
    refine nW [(6, some v2)] [some (rowS u8S v2 ((b.set (wi ((i16 hp1.Start) + (i16 hp1.Off))).toNat ((Zt sum1 ((8 : UInt64).toNat)).toUInt8)).set (wi ((wi ((i16 hp1.Start) + (i16 hp1.Off))) + (1 : Int))).toNat sum1.toUInt8))] [] [6] [0] [] rfl ?_
    refine Qe (Qb (sMv rfl rfl rfl ?_))
    refine sAs rfl rfl rfl ?_
    refine sAs rfl rfl rfl ?_
    refine nW [(4, some v2), (5, some (vI (0 : Int)))] [some (rowS u8S v2 ((b.set (wi ((i16 hp1.Start) + (i16 hp1.Off))).toNat ((Zt sum1 ((8 : UInt64).toNat)).toUInt8)).set (wi ((wi ((i16 hp1.Start) + (i16 hp1.Off))) + (1 : Int))).toNat sum1.toUInt8))] [] [4, 5] [0] [] rfl ?_
    obtain rfl := Option.some.inj h
    exact Qo rfl rfl (resA (vs := [v2, vI (0 : Int)]) rfl ⟨rfl, rfl, trivial⟩) [0] [] rfl rfl rfl ⟨v2, rfl, rfl, rfl⟩

set_option maxRecDepth 100000 in
set_option maxHeartbeats 4000000 in
theorem w_ref_Read23 {b : List UInt8} {vb1 : Value} {r : (Frame × Int)} (h : Yo b = some r) :
  Ctr Try.prog 45 #[vb1] [] [Fact.sl u8S vb1 b]
   (fun rv own shr => ∃ (w1 : Value), rv = .tuple #[.agg #[vU8 r.1.Dst.a0, vU8 r.1.Dst.a1, vU8 r.1.Dst.a2, vU8 r.1.Dst.a3, vU8 r.1.Dst.a4, vU8 r.1.Dst.a5, vU8 r.1.Src.a0, vU8 r.1.Src.a1, vU8 r.1.Src.a2, vU8 r.1.Src.a3, vU8 r.1.Src.a4, vU8 r.1.Src.a5, vI r.1.Vlan, vU16 r.1.Type_, w1], vI r.2] ∧ own = [(rowS u8S w1 r.1.Data)] ∧ shr = []) := by
 unfold Yo at h
 refine Ctr.mk (args := [vb1]) Try.func45 rfl rfl (fun R0 w0 B => ?_)
 refine Qe (Qb (Qq rfl (Zh rfl rfl rfl tyZ37) fun b1 => ?_))
 refine sAs rfl rfl rfl ?_
 refine nW [(0, some vb1), (2, some (.pointer (some ⟨b1, 0, none⟩)))] [some (Qd b1 37 [vU8 (0 : UInt8), vU8 (0 : UInt8), vU8 (0 : UInt8), vU8 (0 : UInt8), vU8 (0 : UInt8), vU8 (0 : UInt8), vU8 (0 : UInt8), vU8 (0 : UInt8), vU8 (0 : UInt8), vU8 (0 : UInt8), vU8 (0 : UInt8), vU8 (0 : UInt8), vI (0 : Int), vU16 (0 : UInt16), .slice none 0 0])] [Fact.sl u8S vb1 b] [0, 2] [0] [0] rfl ?_
 refine Qe (Qe (Qb (sMv rfl rfl rfl ?_)))
 refine Qa rfl (QL rfl rfl rfl rfl Try.underlying35 (i := 0) rfl) ?_
 refine Qa rfl (Qg rfl rfl rfl rfl rfl (QJ (a := len b) (b := (14 : Int)))) ?_
 refine nW [(0, some vb1), (2, some (.pointer (some ⟨b1, 0, none⟩))), (9, some (vB (decide ((len b) < (14 : Int)))))] [some (Qd b1 37 [vU8 (0 : UInt8), vU8 (0 : UInt8), vU8 (0 : UInt8), vU8 (0 : UInt8), vU8 (0 : UInt8), vU8 (0 : UInt8), vU8 (0 : UInt8), vU8 (0 : UInt8), vU8 (0 : UInt8), vU8 (0 : UInt8), vU8 (0 : UInt8), vU8 (0 : UInt8), vI (0 : Int), vU16 (0 : UInt16), .slice none 0 0])] [Fact.sl u8S vb1 b] [0, 2, 9] [0] [0] rfl ?_
 rcases bC (decide ((len b) < (14 : Int))) with hg1 | hg1
 ·replace h := br_t hg1 h
  refine Qn (cgb hg1) ?_
  refine Qe (Qb (Qa rfl (QT (v := .agg #[vU8 (0 : UInt8), vU8 (0 : UInt8), vU8 (0 : UInt8), vU8 (0 : UInt8), vU8 (0 : UInt8), vU8 (0 : UInt8), vU8 (0 : UInt8), vU8 (0 : UInt8), vU8 (0 : UInt8), vU8 (0 : UInt8), vU8 (0 : UInt8), vU8 (0 : UInt8), vI (0 : Int), vU16 (0 : UInt16), .slice none 0 0]) rfl rfl rfl rfl (bldV (by kernel_rfl))) ?_))
  refine Qa rfl (QA (cs' := [vU8 (0 : UInt8), vU8 (0 : UInt8), vU8 (0 : UInt8), vU8 (0 : UInt8), vU8 (0 : UInt8), vU8 (0 : UInt8), vU8 (0 : UInt8), vU8 (0 : UInt8), vU8 (0 : UInt8), vU8 (0 : UInt8), vU8 (0 : UInt8), vU8 (0 : UInt8), vI (0 : Int), vU16 (0 : UInt16), .slice none 0 0]) rfl rfl rfl rfl Zs (i := 0) rfl rfl rfl (Zi rfl) rfl) ?_
  refine sAs rfl rfl rfl ?_
  refine nW [(2, some (.pointer (some ⟨b1, 0, none⟩))), (3, some (vI (4 : Int)))] [some (Qd b1 37 [vU8 (0 : UInt8), vU8 (0 : UInt8), vU8 (0 : UInt8), vU8 (0 : UInt8), vU8 (0 : UInt8), vU8 (0 : UInt8), vU8 (0 : UInt8), vU8 (0 : UInt8), vU8 (0 : UInt8), vU8 (0 : UInt8), vU8 (0 : UInt8), vU8 (0 : UInt8), vI (0 : Int), vU16 (0 : UInt16), .slice none 0 0])] [] [2, 3] [0] [] rfl ?_
  refine QC u8S ?_
  obtain rfl := Option.some.inj h
  exact Qo rfl rfl (resA (vs := [.agg #[vU8 (0 : UInt8), vU8 (0 : UInt8), vU8 (0 : UInt8), vU8 (0 : UInt8), vU8 (0 : UInt8), vU8 (0 : UInt8), vU8 (0 : UInt8), vU8 (0 : UInt8), vU8 (0 : UInt8), vU8 (0 : UInt8), vU8 (0 : UInt8), vU8 (0 : UInt8), vI (0 : Int), vU16 (0 : UInt16), .slice none 0 0], vI (4 : Int)]) rfl ⟨⟨_, 0, _, _, _, rfl, rfl, .inl ⟨Zs, rfl, rfl⟩⟩, rfl, trivial⟩) [1] [] rfl rfl rfl ⟨(.slice none 0 0), rfl, rfl, rfl⟩
 ·replace h := br_f hg1 h
  refine Ql (cgb hg1) ?_
  refine Qr (Qe (Qb (Qa rfl (QT (v := .agg #[vU8 (0 : UInt8), vU8 (0 : UInt8), vU8 (0 : UInt8), vU8 (0 : UInt8), vU8 (0 : UInt8), vU8 (0 : UInt8), vU8 (0 : UInt8), vU8 (0 : UInt8), vU8 (0 : UInt8), vU8 (0 : UInt8), vU8 (0 : UInt8), vU8 (0 : UInt8), vI ((-1) : Int), vU16 (0 : UInt16), .slice none 0 0]) rfl rfl rfl rfl (bldV (by kernel_rfl))) ?_)))
  refine Qq rfl (Zh rfl rfl rfl tyZ37) fun b2 => ?_
  refine Qa rfl (QA (cs' := [vU8 (0 : UInt8), vU8 (0 : UInt8), vU8 (0 : UInt8), vU8 (0 : UInt8), vU8 (0 : UInt8), vU8 (0 : UInt8), vU8 (0 : UInt8), vU8 (0 : UInt8), vU8 (0 : UInt8), vU8 (0 : UInt8), vU8 (0 : UInt8), vU8 (0 : UInt8), vI ((-1) : Int), vU16 (0 : UInt16), .slice none 0 0]) rfl rfl rfl rfl Zs (i := 1) rfl rfl rfl (Zi rfl) rfl) ?_
  refine nW [(0, some vb1), (2, some (.pointer (some ⟨b1, 0, none⟩))), (4, some (.pointer (some ⟨b2, 0, none⟩)))] [some (Qd b1 37 [vU8 (0 : UInt8), vU8 (0 : UInt8), vU8 (0 : UInt8), vU8 (0 : UInt8), vU8 (0 : UInt8), vU8 (0 : UInt8), vU8 (0 : UInt8), vU8 (0 : UInt8), vU8 (0 : UInt8), vU8 (0 : UInt8), vU8 (0 : UInt8), vU8 (0 : UInt8), vI (0 : Int), vU16 (0 : UInt16), .slice none 0 0]), some (Qd b2 37 [vU8 (0 : UInt8), vU8 (0 : UInt8), vU8 (0 : UInt8), vU8 (0 : UInt8), vU8 (0 : UInt8), vU8 (0 : UInt8), vU8 (0 : UInt8), vU8 (0 : UInt8), vU8 (0 : UInt8), vU8 (0 : UInt8), vU8 (0 : UInt8), vU8 (0 : UInt8), vI ((-1) : Int), vU16 (0 : UInt16), .slice none 0 0])] [Fact.sl u8S vb1 b] [0, 2, 4] [0, 1] [0] rfl ?_
  refine Qe (Qe (Qb (sAs rfl rfl rfl ?_)))
  refine QY (QD (Tk_nilfact u8S ?_))
  refine Tk_nilfact u8S ?_
  refine Zl (σ := (A6 UInt8) × (A6 UInt8) × Int × UInt16 × (List UInt8) × (A6 UInt8) × (A6 UInt8) × Int × UInt16 × (List UInt8) × Int × Value × Value) [0, 2, 4, 5] [0, 1] [0, 1, 2] (fun s => ⟨[(0, some vb1), (2, some (.pointer (some ⟨b1, 0, none⟩))), (4, some (.pointer (some ⟨b2, 0, none⟩))), (5, some (vI s.2.2.2.2.2.2.2.2.2.2.1))], [some (Qd b1 37 [vU8 s.1.a0, vU8 s.1.a1, vU8 s.1.a2, vU8 s.1.a3, vU8 s.1.a4, vU8 s.1.a5, vU8 s.2.1.a0, vU8 s.2.1.a1, vU8 s.2.1.a2, vU8 s.2.1.a3, vU8 s.2.1.a4, vU8 s.2.1.a5, vI s.2.2.1, vU16 s.2.2.2.1, s.2.2.2.2.2.2.2.2.2.2.2.1]), some (Qd b2 37 [vU8 s.2.2.2.2.2.1.a0, vU8 s.2.2.2.2.2.1.a1, vU8 s.2.2.2.2.2.1.a2, vU8 s.2.2.2.2.2.1.a3, vU8 s.2.2.2.2.2.1.a4, vU8 s.2.2.2.2.2.1.a5, vU8 s.2.2.2.2.2.2.1.a0, vU8 s.2.2.2.2.2.2.1.a1, vU8 s.2.2.2.2.2.2.1.a2, vU8 s.2.2.2.2.2.2.1.a3, vU8 s.2.2.2.2.2.2.1.a4, vU8 s.2.2.2.2.2.2.1.a5, vI s.2.2.2.2.2.2.2.1, vU16 s.2.2.2.2.2.2.2.2.1, s.2.2.2.2.2.2.2.2.2.2.2.2])], [Fact.sl u8S vb1 b, Fact.sl u8S s.2.2.2.2.2.2.2.2.2.2.2.1 s.2.2.2.2.1, Fact.sl u8S s.2.2.2.2.2.2.2.2.2.2.2.2 s.2.2.2.2.2.2.2.2.2.1]⟩) (fun nf1 s => ref_Read23L1 b nf1 s.1 s.2.1 s.2.2.1 s.2.2.2.1 s.2.2.2.2.1 s.2.2.2.2.2.1 s.2.2.2.2.2.2.1 s.2.2.2.2.2.2.2.1 s.2.2.2.2.2.2.2.2.1 s.2.2.2.2.2.2.2.2.2.1 s.2.2.2.2.2.2.2.2.2.2.1 = some r) fuel ((A6.mk (0 : UInt8) (0 : UInt8) (0 : UInt8) (0 : UInt8) (0 : UInt8) (0 : UInt8)), (A6.mk (0 : UInt8) (0 : UInt8) (0 : UInt8) (0 : UInt8) (0 : UInt8) (0 : UInt8)), (0 : Int), (0 : UInt16), ([] : List UInt8), (A6.mk (0 : UInt8) (0 : UInt8) (0 : UInt8) (0 : UInt8) (0 : UInt8) (0 : UInt8)), (A6.mk (0 : UInt8) (0 : UInt8) (0 : UInt8) (0 : UInt8) (0 : UInt8) (0 : UInt8)), ((-1) : Int), (0 : UInt16), ([] : List UInt8), (0 : Int), .slice none 0 0, .slice none 0 0) h rfl rfl rfl rfl rfl (fun s h => by cases h) ?_
  rintro nf1 ⟨Dst1, Src1, Vlan1, Type1, Data1, Dst2, Src2, Vlan2, Type2, Data2, i1, v1, v2⟩ h
  replace h : Kd b (ref_Read23L1 b nf1) Dst1 Src1 Vlan1 Type1 Data1 Dst2 Src2 Vlan2 Type2 Data2 i1 = some r := h
  unfold Kd at h
  refine Qe (Qe (Qb (sMv rfl rfl rfl ?_)))
  refine Qa rfl (Qg rfl rfl rfl rfl rfl (QJ (a := i1) (b := (6 : Int)))) ?_
  refine nW [(0, some vb1), (2, some (.pointer (some ⟨b1, 0, none⟩))), (4, some (.pointer (some ⟨b2, 0, none⟩))), (5, some (vI i1)), (13, some (vB (decide (i1 < (6 : Int)))))] [some (Qd b1 37 [vU8 Dst1.a0, vU8 Dst1.a1, vU8 Dst1.a2, vU8 Dst1.a3, vU8 Dst1.a4, vU8 Dst1.a5, vU8 Src1.a0, vU8 Src1.a1, vU8 Src1.a2, vU8 Src1.a3, vU8 Src1.a4, vU8 Src1.a5, vI Vlan1, vU16 Type1, v1]), some (Qd b2 37 [vU8 Dst2.a0, vU8 Dst2.a1, vU8 Dst2.a2, vU8 Dst2.a3, vU8 Dst2.a4, vU8 Dst2.a5, vU8 Src2.a0, vU8 Src2.a1, vU8 Src2.a2, vU8 Src2.a3, vU8 Src2.a4, vU8 Src2.a5, vI Vlan2, vU16 Type2, v2])] [Fact.sl u8S vb1 b, Fact.sl u8S v1 Data1, Fact.sl u8S v2 Data2] [0, 2, 4, 5, 13] [0, 1] [0, 1, 2] rfl ?_
  rcases bC (decide (i1 < (6 : Int))) with hg2 | hg2
  ·replace h := br_t hg2 h
   refine Qn (cgb hg2) ?_
   refine Qr (Qe (QD (Zp (by kernel_rfl) ?_)))
   refine YI [0, 0, 0, 0, 12, 28, 0, 0, 128, 448, 960, 0, 2109, 6205, 0, 32767, 65535] (by kernel_rfl) fun htb => ?_
   refine Xn (fr' := [(0, some vb1), (2, some (.pointer (some ⟨b1, 0, none⟩))), (4, some (.pointer (some ⟨b2, 0, none⟩))), (5, some (vI i1))]) (own' := [some (Qd b1 37 [vU8 Dst1.a0, vU8 Dst1.a1, vU8 Dst1.a2, vU8 Dst1.a3, vU8 Dst1.a4, vU8 Dst1.a5, vU8 Src1.a0, vU8 Src1.a1, vU8 Src1.a2, vU8 Src1.a3, vU8 Src1.a4, vU8 Src1.a5, vI Vlan1, vU16 Type1, v1]), some (Qd b2 37 [vU8 Dst2.a0, vU8 Dst2.a1, vU8 Dst2.a2, vU8 Dst2.a3, vU8 Dst2.a4, vU8 Dst2.a5, vU8 Src2.a0, vU8 Src2.a1, vU8 Src2.a2, vU8 Src2.a3, vU8 Src2.a4, vU8 Src2.a5, vI Vlan2, vU16 Type2, v2])]) (shr' := [Fact.sl u8S vb1 b, Fact.sl u8S v1 Data1, Fact.sl u8S v2 Data2]) [0, 2, 4, 5] [0, 1] [0, 1, 2] rfl rfl rfl rfl ?_
   obtain ⟨y1, hx1, h⟩ := ob_e h
   obtain ⟨y2, hx2, h⟩ := ob_e h
   obtain ⟨hc1, h⟩ := Zg h
   obtain ⟨hc2, h⟩ := Zg h
   refine Zr (lo := 0) (hi := 15) htb rfl rfl (by kernel_rfl) (fun c L a w => ∃ (p1 : Value), ∃ (p2 : Value), Sat c ⟨[(0, some vb1), (2, some (.pointer (some ⟨b1, 0, none⟩))), (4, some (.pointer (some ⟨b2, 0, none⟩))), (5, some (vI i1)), (16, bif L 0 then some (vI i1) else none), (17, bif L 1 then some (vI i1) else none), (18, bif L 2 then some (vb1) else none), (19, bif L 3 then some (vI i1) else none), (20, bif L 4 then some (p1) else none), (21, bif L 5 then some (vU8 y1) else none), (22, bif L 6 then some (vb1) else none), (23, bif L 7 then some (vI i1) else none), (24, bif L 8 then some (vI (wi ((6 : Int) + i1))) else none), (25, bif L 9 then some (p2) else none), (26, bif L 10 then some (vU8 y2) else none), (27, bif L 11 then some (.pointer (some ⟨b2, 0, none⟩)) else none), (28, bif L 12 then some (.pointer (some ⟨b2, 0 + Int.toNat i1 * 1, none⟩)) else none), (29, bif L 14 then some (.pointer (some ⟨b2, 6, none⟩)) else none)], [(some (Qd b1 37 [vU8 Dst1.a0, vU8 Dst1.a1, vU8 Dst1.a2, vU8 Dst1.a3, vU8 Dst1.a4, vU8 Dst1.a5, vU8 Src1.a0, vU8 Src1.a1, vU8 Src1.a2, vU8 Src1.a3, vU8 Src1.a4, vU8 Src1.a5, vI Vlan1, vU16 Type1, v1]) : Option Res), (bif L 13 then some (Qd b2 37 [vU8 ((Dst2.st i1.toNat y1).a0), vU8 ((Dst2.st i1.toNat y1).a1), vU8 ((Dst2.st i1.toNat y1).a2), vU8 ((Dst2.st i1.toNat y1).a3), vU8 ((Dst2.st i1.toNat y1).a4), vU8 ((Dst2.st i1.toNat y1).a5), vU8 Src2.a0, vU8 Src2.a1, vU8 Src2.a2, vU8 Src2.a3, vU8 Src2.a4, vU8 Src2.a5, vI Vlan2, vU16 Type2, v2]) else some (Qd b2 37 [vU8 Dst2.a0, vU8 Dst2.a1, vU8 Dst2.a2, vU8 Dst2.a3, vU8 Dst2.a4, vU8 Dst2.a5, vU8 Src2.a0, vU8 Src2.a1, vU8 Src2.a2, vU8 Src2.a3, vU8 Src2.a4, vU8 Src2.a5, vI Vlan2, vU16 Type2, v2]) : Option Res)], [Fact.sl u8S vb1 b, Fact.sl u8S v1 Data1, Fact.sl u8S v2 Data2, (bif L 4 then Fact.pt u8S p1 y1 else Fact.tt), (bif L 9 then Fact.pt u8S p2 y2 else Fact.tt)]⟩ a w) [([], [12, 13]), ([], []), ([], [4, 5, 12, 13]), ([], [4, 5, 12, 13]), ([2, 3], [5, 12, 13]), ([2, 3, 4], [12, 13]), ([], [9, 10]), ([], [8, 9, 10]), ([7], [9, 10]), ([6, 7, 8], [10]), ([6, 7, 8, 9], []), ([], [12, 13]), ([0, 2, 3, 4, 5, 11], [13]), ([0, 2, 3, 4, 5, 11, 12], []), ([], [])] rfl (by kernel_rfl) ?_ (Qc ?_ (Qc ?_ (Qc ?_ (Qc ?_ (Qc ?_ (Qc ?_ (Qc ?_ (Qc ?_ (Qc ?_ (Qc ?_ (Qc ?_ (Qc ?_ (Qc ?_ (Qc ?_ (Qc ?_ (QI)))))))))))))))) ?_
   ·intro a w hs
    exact ⟨undef, undef, hs.startF [16, 17, 18, 19, 20, 21, 22, 23, 24, 25, 26, 27, 28, 29] [0, 1] [0, 1, 2, 3, 4] rfl rfl rfl rfl⟩
   ·intro L a w hv K Q hK
    obtain ⟨p1, p2, hs⟩ := hv
    exact wGo rfl rfl hs (Qk rfl rfl rfl rfl) fun a w hs => hK a w ⟨p1, p2, pF hs 4 [0, 1] [0, 1, 2, 3, 4] rfl⟩
   ·intro L a w hv K Q hK
    obtain ⟨p1, p2, hs⟩ := hv
    exact wGo rfl rfl hs (Qk rfl rfl rfl rfl) fun a w hs => hK a w ⟨p1, p2, pF hs 5 [0, 1] [0, 1, 2, 3, 4] rfl⟩
   ·intro L a w hv K Q hK
    obtain ⟨p1, p2, hs⟩ := hv
    exact wGo rfl rfl hs (Qk rfl rfl rfl rfl) fun a w hs => hK a w ⟨p1, p2, pF hs 6 [0, 1] [0, 1, 2, 3, 4] rfl⟩
   ·intro L a w hv K Q hK
    obtain ⟨p1, p2, hs⟩ := hv
    exact wGo rfl rfl hs (Qk rfl rfl rfl rfl) fun a w hs => hK a w ⟨p1, p2, pF hs 7 [0, 1] [0, 1, 2, 3, 4] rfl⟩
   ·intro L a w hv K Q hK
    obtain ⟨p1, p2, hs⟩ := hv
    refine QE rfl rfl hs (Qy rfl rfl rfl rfl rfl Zf (i := 0) rfl hx1) ?_
    rintro _ ⟨p1', rfl⟩ a' w' hs'
    exact hK a' w' ⟨p1', p2, hs'.putF (i := 8) rfl [0, 1] [0, 1, 2, 5, 4] rfl rfl rfl rfl⟩
   ·intro L a w hv K Q hK
    obtain ⟨p1, p2, hs⟩ := hv
    exact wGo rfl rfl hs (Qv rfl rfl rfl rfl tyF5 (i := 3) rfl rfl) fun a w hs => hK a w ⟨p1, p2, pF hs 9 [0, 1] [0, 1, 2, 3, 4] rfl⟩
   ·intro L a w hv K Q hK
    obtain ⟨p1, p2, hs⟩ := hv
    exact wGo rfl rfl hs (Qk rfl rfl rfl rfl) fun a w hs => hK a w ⟨p1, p2, pF hs 10 [0, 1] [0, 1, 2, 3, 4] rfl⟩
   ·intro L a w hv K Q hK
    obtain ⟨p1, p2, hs⟩ := hv
    exact wGo rfl rfl hs (Qk rfl rfl rfl rfl) fun a w hs => hK a w ⟨p1, p2, pF hs 11 [0, 1] [0, 1, 2, 3, 4] rfl⟩
   ·intro L a w hv K Q hK
    obtain ⟨p1, p2, hs⟩ := hv
    exact wGo rfl rfl hs (Qg rfl rfl rfl rfl rfl (Qx (a := (6 : Int)) (b := i1))) fun a w hs => hK a w ⟨p1, p2, pF hs 12 [0, 1] [0, 1, 2, 3, 4] rfl⟩
   ·intro L a w hv K Q hK
    obtain ⟨p1, p2, hs⟩ := hv
    refine QE rfl rfl hs (Qy rfl rfl rfl rfl rfl Zf (i := 0) rfl hx2) ?_
    rintro _ ⟨p2', rfl⟩ a' w' hs'
    exact hK a' w' ⟨p1, p2', hs'.putF (i := 13) rfl [0, 1] [0, 1, 2, 3, 5] rfl rfl rfl rfl⟩
   ·intro L a w hv K Q hK
    obtain ⟨p1, p2, hs⟩ := hv
    exact wGo rfl rfl hs (Qv rfl rfl rfl rfl tyF5 (i := 4) rfl rfl) fun a w hs => hK a w ⟨p1, p2, pF hs 14 [0, 1] [0, 1, 2, 3, 4] rfl⟩
   ·intro L a w hv K Q hK
    obtain ⟨p1, p2, hs⟩ := hv
    exact wGo rfl rfl hs (Qm rfl rfl rfl rfl fldF37x0) fun a w hs => hK a w ⟨p1, p2, pF hs 15 [0, 1] [0, 1, 2, 3, 4] rfl⟩
   ·intro L a w hv K Q hK
    obtain ⟨p1, p2, hs⟩ := hv
    exact wGo rfl rfl hs (OpT_indexC rfl rfl rfl rfl rfl arrF33 hc1) fun a w hs => hK a w ⟨p1, p2, pF hs 16 [0, 1] [0, 1, 2, 3, 4] rfl⟩
   ·intro L a w hv K Q hK
    obtain ⟨p1, p2, hs⟩ := hv
    exact wGo rfl rfl hs (OpT_storeX (fun x => [vU8 x]) [Dst2.a0, Dst2.a1, Dst2.a2, Dst2.a3, Dst2.a4, Dst2.a5] [(Dst2.st i1.toNat y1).a0, (Dst2.st i1.toNat y1).a1, (Dst2.st i1.toNat y1).a2, (Dst2.st i1.toNat y1).a3, (Dst2.st i1.toNat y1).a4, (Dst2.st i1.toNat y1).a5] [] [vU8 Src2.a0, vU8 Src2.a1, vU8 Src2.a2, vU8 Src2.a3, vU8 Src2.a4, vU8 Src2.a5, vI Vlan2, vU16 Type2, v2] (u := y1) (cs' := [vU8 ((Dst2.st i1.toNat y1).a0), vU8 ((Dst2.st i1.toNat y1).a1), vU8 ((Dst2.st i1.toNat y1).a2), vU8 ((Dst2.st i1.toNat y1).a3), vU8 ((Dst2.st i1.toNat y1).a4), vU8 ((Dst2.st i1.toNat y1).a5), vU8 Src2.a0, vU8 Src2.a1, vU8 Src2.a2, vU8 Src2.a3, vU8 Src2.a4, vU8 Src2.a5, vI Vlan2, vU16 Type2, v2]) rfl rfl rfl rfl tyF5 (i := 1) rfl (fun _ => rfl) (fun _ => rfl) rfl rfl rfl rfl hc2 (A6.st_set _ _ _)) fun a w hs => hK a w ⟨p1, p2, hs.sameF [0, 1] [0, 1, 2, 3, 4] rfl rfl rfl rfl⟩
   ·intro L a w hv K Q hK
    obtain ⟨p1, p2, hs⟩ := hv
    exact wGo rfl rfl hs (Qm rfl rfl rfl rfl fldF37x1) fun a w hs => hK a w ⟨p1, p2, pF hs 17 [0, 1] [0, 1, 2, 3, 4] rfl⟩
   ·intro L a w hL hv
    rw [QZ hL] at hv
    obtain ⟨p1, p2, hs⟩ := hv
    refine (show TA _ _ _ 15 ⟨[(0, some vb1), (2, some (.pointer (some ⟨b1, 0, none⟩))), (4, some (.pointer (some ⟨b2, 0, none⟩))), (5, some (vI i1)), (17, some (vI i1)), (26, some (vU8 y2)), (29, some (.pointer (some ⟨b2, 6, none⟩)))], [some (Qd b1 37 [vU8 Dst1.a0, vU8 Dst1.a1, vU8 Dst1.a2, vU8 Dst1.a3, vU8 Dst1.a4, vU8 Dst1.a5, vU8 Src1.a0, vU8 Src1.a1, vU8 Src1.a2, vU8 Src1.a3, vU8 Src1.a4, vU8 Src1.a5, vI Vlan1, vU16 Type1, v1]), some (Qd b2 37 [vU8 ((Dst2.st i1.toNat y1).a0), vU8 ((Dst2.st i1.toNat y1).a1), vU8 ((Dst2.st i1.toNat y1).a2), vU8 ((Dst2.st i1.toNat y1).a3), vU8 ((Dst2.st i1.toNat y1).a4), vU8 ((Dst2.st i1.toNat y1).a5), vU8 Src2.a0, vU8 Src2.a1, vU8 Src2.a2, vU8 Src2.a3, vU8 Src2.a4, vU8 Src2.a5, vI Vlan2, vU16 Type2, v2])], [Fact.sl u8S vb1 b, Fact.sl u8S v1 Data1, Fact.sl u8S v2 Data2]⟩ from ?_) a w (hs.wkS [0, 2, 4, 5, 17, 26, 29] [0, 1] [0, 1, 2] rfl rfl rfl rfl)
    clear hs hL
    obtain ⟨hc3, h⟩ := Zg h
    refine QG htb (by kernel_rfl) rfl rfl (OpT_indexC rfl rfl rfl rfl rfl arrF33 hc3) ?_
    obtain ⟨hc4, h⟩ := Zg h
    refine QG htb (by kernel_rfl) rfl rfl (OpT_storeX (fun x => [vU8 x]) [Src2.a0, Src2.a1, Src2.a2, Src2.a3, Src2.a4, Src2.a5] [(Src2.st i1.toNat y2).a0, (Src2.st i1.toNat y2).a1, (Src2.st i1.toNat y2).a2, (Src2.st i1.toNat y2).a3, (Src2.st i1.toNat y2).a4, (Src2.st i1.toNat y2).a5] [vU8 ((Dst2.st i1.toNat y1).a0), vU8 ((Dst2.st i1.toNat y1).a1), vU8 ((Dst2.st i1.toNat y1).a2), vU8 ((Dst2.st i1.toNat y1).a3), vU8 ((Dst2.st i1.toNat y1).a4), vU8 ((Dst2.st i1.toNat y1).a5)] [vI Vlan2, vU16 Type2, v2] (u := y2) (cs' := [vU8 ((Dst2.st i1.toNat y1).a0), vU8 ((Dst2.st i1.toNat y1).a1), vU8 ((Dst2.st i1.toNat y1).a2), vU8 ((Dst2.st i1.toNat y1).a3), vU8 ((Dst2.st i1.toNat y1).a4), vU8 ((Dst2.st i1.toNat y1).a5), vU8 ((Src2.st i1.toNat y2).a0), vU8 ((Src2.st i1.toNat y2).a1), vU8 ((Src2.st i1.toNat y2).a2), vU8 ((Src2.st i1.toNat y2).a3), vU8 ((Src2.st i1.toNat y2).a4), vU8 ((Src2.st i1.toNat y2).a5), vI Vlan2, vU16 Type2, v2]) rfl rfl rfl rfl tyF5 (i := 1) rfl (fun _ => rfl) (fun _ => rfl) rfl rfl rfl rfl hc4 (A6.st_set _ _ _)) ?_
    refine ZP rfl ?_
    refine tW [(0, some vb1), (2, some (.pointer (some ⟨b1, 0, none⟩))), (4, some (.pointer (some ⟨b2, 0, none⟩))), (5, some (vI i1))] [some (Qd b1 37 [vU8 Dst1.a0, vU8 Dst1.a1, vU8 Dst1.a2, vU8 Dst1.a3, vU8 Dst1.a4, vU8 Dst1.a5, vU8 Src1.a0, vU8 Src1.a1, vU8 Src1.a2, vU8 Src1.a3, vU8 Src1.a4, vU8 Src1.a5, vI Vlan1, vU16 Type1, v1]), some (Qd b2 37 [vU8 ((Dst2.st i1.toNat y1).a0), vU8 ((Dst2.st i1.toNat y1).a1), vU8 ((Dst2.st i1.toNat y1).a2), vU8 ((Dst2.st i1.toNat y1).a3), vU8 ((Dst2.st i1.toNat y1).a4), vU8 ((Dst2.st i1.toNat y1).a5), vU8 ((Src2.st i1.toNat y2).a0), vU8 ((Src2.st i1.toNat y2).a1), vU8 ((Src2.st i1.toNat y2).a2), vU8 ((Src2.st i1.toNat y2).a3), vU8 ((Src2.st i1.toNat y2).a4), vU8 ((Src2.st i1.toNat y2).a5), vI Vlan2, vU16 Type2, v2])] [Fact.sl u8S vb1 b, Fact.sl u8S v1 Data1, Fact.sl u8S v2 Data2] [0, 2, 4, 5] [0, 1] [0, 1, 2] rfl ?_
    refine Zz (Qb (sMv rfl rfl rfl ?_))
    refine Qa rfl (Qg rfl rfl rfl rfl rfl (Qx (a := i1) (b := (1 : Int)))) ?_
    refine sAs rfl rfl rfl ?_
    refine nW [(0, some vb1), (2, some (.pointer (some ⟨b1, 0, none⟩))), (4, some (.pointer (some ⟨b2, 0, none⟩))), (5, some (vI (wi (i1 + (1 : Int)))))] [some (Qd b1 37 [vU8 Dst1.a0, vU8 Dst1.a1, vU8 Dst1.a2, vU8 Dst1.a3, vU8 Dst1.a4, vU8 Dst1.a5, vU8 Src1.a0, vU8 Src1.a1, vU8 Src1.a2, vU8 Src1.a3, vU8 Src1.a4, vU8 Src1.a5, vI Vlan1, vU16 Type1, v1]), some (Qd b2 37 [vU8 ((Dst2.st i1.toNat y1).a0), vU8 ((Dst2.st i1.toNat y1).a1), vU8 ((Dst2.st i1.toNat y1).a2), vU8 ((Dst2.st i1.toNat y1).a3), vU8 ((Dst2.st i1.toNat y1).a4), vU8 ((Dst2.st i1.toNat y1).a5), vU8 ((Src2.st i1.toNat y2).a0), vU8 ((Src2.st i1.toNat y2).a1), vU8 ((Src2.st i1.toNat y2).a2), vU8 ((Src2.st i1.toNat y2).a3), vU8 ((Src2.st i1.toNat y2).a4), vU8 ((Src2.st i1.toNat y2).a5), vI Vlan2, vU16 Type2, v2])] [Fact.sl u8S vb1 b, Fact.sl u8S v1 Data1, Fact.sl u8S v2 Data2] [0, 2, 4, 5] [0, 1] [0, 1, 2] rfl ?_
    exact QQ (Dst1, Src1, Vlan1, Type1, Data1, (Dst2.st i1.toNat y1), (Src2.st i1.toNat y2), Vlan2, Type2, Data2, wi (i1 + (1 : Int)), v1, v2) h [0, 2, 4, 5] [0, 1] [0, 1, 2] rfl rfl rfl rfl rfl
  ·replace h := br_f hg2 h
   refine Ql (cgb hg2) ?_
   refine Zo _ rfl ?_
   refine Qe (Qb (sAs rfl rfl rfl ?_))
   refine nW [(0, some vb1), (2, some (.pointer (some ⟨b1, 0, none⟩))), (4, some (.pointer (some ⟨b2, 0, none⟩))), (6, some (vI (12 : Int)))] [some (Qd b1 37 [vU8 Dst1.a0, vU8 Dst1.a1, vU8 Dst1.a2, vU8 Dst1.a3, vU8 Dst1.a4, vU8 Dst1.a5, vU8 Src1.a0, vU8 Src1.a1, vU8 Src1.a2, vU8 Src1.a3, vU8 Src1.a4, vU8 Src1.a5, vI Vlan1, vU16 Type1, v1]), some (Qd b2 37 [vU8 Dst2.a0, vU8 Dst2.a1, vU8 Dst2.a2, vU8 Dst2.a3, vU8 Dst2.a4, vU8 Dst2.a5, vU8 Src2.a0, vU8 Src2.a1, vU8 Src2.a2, vU8 Src2.a3, vU8 Src2.a4, vU8 Src2.a5, vI Vlan2, vU16 Type2, v2])] [Fact.sl u8S vb1 b, Fact.sl u8S v1 Data1, Fact.sl u8S v2 Data2] [0, 2, 4, 6] [0, 1] [0, 1, 2] rfl ?_
   refine Qe (Qe (Qb (sMv rfl rfl rfl ?_)))
   obtain ⟨y3, hx3, h⟩ := ob_e h
   refine Qq rfl (Qy rfl rfl rfl rfl rfl Zf (i := 0) rfl hx3) fun p3 => ?_
   refine Qa rfl (Qv rfl rfl rfl rfl tyF5 (i := 3) rfl rfl) ?_
   refine Qa rfl (Qg rfl rfl rfl rfl rfl (bin_eql_u8 (a := y3) (b := (129 : UInt8)))) ?_
   refine sMv rfl rfl rfl ?_
   rcases bC (y3 == (129 : UInt8)) with hg3 | hg3
   ·replace h := br_t hg3 h
    refine Qi rfl rfl (cgb hg3) (Qk rfl rfl rfl rfl) ?_
    rintro _ rfl
    obtain ⟨y4, hx4, h⟩ := ob_e h
    refine Qi rfl rfl (cgb hg3) (Qy rfl rfl rfl rfl rfl Zf (i := 0) rfl hx4) ?_
    rintro _ ⟨p4, rfl⟩
    refine Qi rfl rfl (cgb hg3) (Qv rfl rfl rfl rfl tyF5 (i := 4) rfl rfl) ?_
    rintro _ rfl
    refine Qi rfl rfl (cgb hg3) (Qg rfl rfl rfl rfl rfl (bin_eql_u8 (a := y4) (b := (0 : UInt8)))) ?_
    rintro _ rfl
    refine Qa rfl (Qz rfl rfl rfl (cgb hg3) rfl) ?_
    refine nW [(0, some vb1), (2, some (.pointer (some ⟨b1, 0, none⟩))), (4, some (.pointer (some ⟨b2, 0, none⟩))), (6, some (vI (12 : Int))), (40, some (vB (y4 == (0 : UInt8))))] [some (Qd b1 37 [vU8 Dst1.a0, vU8 Dst1.a1, vU8 Dst1.a2, vU8 Dst1.a3, vU8 Dst1.a4, vU8 Dst1.a5, vU8 Src1.a0, vU8 Src1.a1, vU8 Src1.a2, vU8 Src1.a3, vU8 Src1.a4, vU8 Src1.a5, vI Vlan1, vU16 Type1, v1]), some (Qd b2 37 [vU8 Dst2.a0, vU8 Dst2.a1, vU8 Dst2.a2, vU8 Dst2.a3, vU8 Dst2.a4, vU8 Dst2.a5, vU8 Src2.a0, vU8 Src2.a1, vU8 Src2.a2, vU8 Src2.a3, vU8 Src2.a4, vU8 Src2.a5, vI Vlan2, vU16 Type2, v2])] [Fact.sl u8S vb1 b, Fact.sl u8S v1 Data1, Fact.sl u8S v2 Data2] [0, 2, 4, 6, 40] [0, 1] [0, 1, 2] rfl ?_
    refine XH (α := (A6 UInt8) × (A6 UInt8) × Int × UInt16 × (List UInt8) × (A6 UInt8) × (A6 UInt8) × Int × UInt16 × (List UInt8) × Int × Value × Value) (fun s => ⟨[(0, some vb1), (2, some (.pointer (some ⟨b1, 0, none⟩))), (4, some (.pointer (some ⟨b2, 0, none⟩))), (6, some (vI s.2.2.2.2.2.2.2.2.2.2.1))], [some (Qd b1 37 [vU8 s.1.a0, vU8 s.1.a1, vU8 s.1.a2, vU8 s.1.a3, vU8 s.1.a4, vU8 s.1.a5, vU8 s.2.1.a0, vU8 s.2.1.a1, vU8 s.2.1.a2, vU8 s.2.1.a3, vU8 s.2.1.a4, vU8 s.2.1.a5, vI s.2.2.1, vU16 s.2.2.2.1, s.2.2.2.2.2.2.2.2.2.2.2.1]), some (Qd b2 37 [vU8 s.2.2.2.2.2.1.a0, vU8 s.2.2.2.2.2.1.a1, vU8 s.2.2.2.2.2.1.a2, vU8 s.2.2.2.2.2.1.a3, vU8 s.2.2.2.2.2.1.a4, vU8 s.2.2.2.2.2.1.a5, vU8 s.2.2.2.2.2.2.1.a0, vU8 s.2.2.2.2.2.2.1.a1, vU8 s.2.2.2.2.2.2.1.a2, vU8 s.2.2.2.2.2.2.1.a3, vU8 s.2.2.2.2.2.2.1.a4, vU8 s.2.2.2.2.2.2.1.a5, vI s.2.2.2.2.2.2.2.1, vU16 s.2.2.2.2.2.2.2.2.1, s.2.2.2.2.2.2.2.2.2.2.2.2])], [Fact.sl u8S vb1 b, Fact.sl u8S s.2.2.2.2.2.2.2.2.2.2.2.1 s.2.2.2.2.1, Fact.sl u8S s.2.2.2.2.2.2.2.2.2.2.2.2 s.2.2.2.2.2.2.2.2.2.1]⟩) (fun s => XN b s.1 s.2.1 s.2.2.1 s.2.2.2.1 s.2.2.2.2.1 s.2.2.2.2.2.1 s.2.2.2.2.2.2.1 s.2.2.2.2.2.2.2.1 s.2.2.2.2.2.2.2.2.1 s.2.2.2.2.2.2.2.2.2.1 s.2.2.2.2.2.2.2.2.2.2.1 = some r) ?_ ?_
    ·rintro ⟨Dst3, Src3, Vlan3, Type3, Data3, Dst4, Src4, Vlan4, Type4, Data4, at1, v3, v4⟩ h
     replace h : XN b Dst3 Src3 Vlan3 Type3 Data3 Dst4 Src4 Vlan4 Type4 Data4 at1 = some r := h
     unfold XN at h
     refine Qe (Zp (by kernel_rfl) ?_)
     refine YI [0, 0, 3, 7, 15, 31, 0, 0, 128, 448, 960, 1984, 4095, 8191, 16383] (by kernel_rfl) fun htb => ?_
     obtain ⟨y5, hx5, h⟩ := ob_e h
     obtain ⟨y6, hx6, h⟩ := ob_e h
     refine Zr (lo := 0) (hi := 12) htb rfl rfl (by kernel_rfl) (fun c L a w => ∃ (p5 : Value), ∃ (p6 : Value), Sat c ⟨[(0, some vb1), (2, some (.pointer (some ⟨b1, 0, none⟩))), (4, some (.pointer (some ⟨b2, 0, none⟩))), (6, some (vI at1)), (62, bif L 0 then some (vb1) else none), (63, bif L 1 then some (vI at1) else none), (64, bif L 2 then some (p5) else none), (65, bif L 3 then some (vU8 y5) else none), (66, bif L 4 then some (vU16 y5.toUInt16) else none), (67, bif L 5 then some (vU16 (Zm y5.toUInt16 ((8 : UInt64).toNat))) else none), (68, bif L 6 then some (vb1) else none), (69, bif L 7 then some (vI at1) else none), (70, bif L 8 then some (vI (wi (at1 + (1 : Int)))) else none), (71, bif L 9 then some (p6) else none), (72, bif L 10 then some (vU8 y6) else none), (73, bif L 11 then some (vU16 y6.toUInt16) else none)], [(some (Qd b1 37 [vU8 Dst3.a0, vU8 Dst3.a1, vU8 Dst3.a2, vU8 Dst3.a3, vU8 Dst3.a4, vU8 Dst3.a5, vU8 Src3.a0, vU8 Src3.a1, vU8 Src3.a2, vU8 Src3.a3, vU8 Src3.a4, vU8 Src3.a5, vI Vlan3, vU16 Type3, v3]) : Option Res), (some (Qd b2 37 [vU8 Dst4.a0, vU8 Dst4.a1, vU8 Dst4.a2, vU8 Dst4.a3, vU8 Dst4.a4, vU8 Dst4.a5, vU8 Src4.a0, vU8 Src4.a1, vU8 Src4.a2, vU8 Src4.a3, vU8 Src4.a4, vU8 Src4.a5, vI Vlan4, vU16 Type4, v4]) : Option Res)], [Fact.sl u8S vb1 b, Fact.sl u8S v3 Data3, Fact.sl u8S v4 Data4, (bif L 2 then Fact.pt u8S p5 y5 else Fact.tt), (bif L 9 then Fact.pt u8S p6 y6 else Fact.tt)]⟩ a w) [([], [2, 3, 4, 5]), ([], [2, 3, 4, 5]), ([0, 1], [3, 4, 5]), ([0, 1, 2], [4, 5]), ([0, 1, 2, 3], [5]), ([0, 1, 2, 3, 4], []), ([], [9, 10, 11]), ([], [8, 9, 10, 11]), ([7], [9, 10, 11]), ([6, 7, 8], [10, 11]), ([6, 7, 8, 9], [11]), ([6, 7, 8, 9, 10], [])] rfl (by kernel_rfl) ?_ (Qc ?_ (Qc ?_ (Qc ?_ (Qc ?_ (Qc ?_ (Qc ?_ (Qc ?_ (Qc ?_ (Qc ?_ (Qc ?_ (Qc ?_ (Qc ?_ (QI))))))))))))) ?_
     ·intro a w hs
      exact ⟨undef, undef, hs.startF [62, 63, 64, 65, 66, 67, 68, 69, 70, 71, 72, 73] [0, 1] [0, 1, 2, 3, 4] rfl rfl rfl rfl⟩
     ·intro L a w hv K Q hK
      obtain ⟨p5, p6, hs⟩ := hv
      exact wGo rfl rfl hs (Qk rfl rfl rfl rfl) fun a w hs => hK a w ⟨p5, p6, pF hs 4 [0, 1] [0, 1, 2, 3, 4] rfl⟩
     ·intro L a w hv K Q hK
      obtain ⟨p5, p6, hs⟩ := hv
      exact wGo rfl rfl hs (Qk rfl rfl rfl rfl) fun a w hs => hK a w ⟨p5, p6, pF hs 5 [0, 1] [0, 1, 2, 3, 4] rfl⟩
     ·intro L a w hv K Q hK
      obtain ⟨p5, p6, hs⟩ := hv
      refine QE rfl rfl hs (Qy rfl rfl rfl rfl rfl Zf (i := 0) rfl hx5) ?_
      rintro _ ⟨p5', rfl⟩ a' w' hs'
      exact hK a' w' ⟨p5', p6, hs'.putF (i := 6) rfl [0, 1] [0, 1, 2, 5, 4] rfl rfl rfl rfl⟩
     ·intro L a w hv K Q hK
      obtain ⟨p5, p6, hs⟩ := hv
      exact wGo rfl rfl hs (Qv rfl rfl rfl rfl tyF5 (i := 3) rfl rfl) fun a w hs => hK a w ⟨p5, p6, pF hs 7 [0, 1] [0, 1, 2, 3, 4] rfl⟩
     ·intro L a w hv K Q hK
      obtain ⟨p5, p6, hs⟩ := hv
      exact wGo rfl rfl hs (QF rfl rfl rfl rfl (Xg (n := y5) Try.underlying5 Try.underlying34)) fun a w hs => hK a w ⟨p5, p6, pF hs 8 [0, 1] [0, 1, 2, 3, 4] rfl⟩
     ·intro L a w hv K Q hK
      obtain ⟨p5, p6, hs⟩ := hv
      exact wGo rfl rfl hs (Qg rfl rfl rfl rfl rfl (Xt (a := y5.toUInt16) (n := (8 : UInt64)))) fun a w hs => hK a w ⟨p5, p6, pF hs 9 [0, 1] [0, 1, 2, 3, 4] rfl⟩
     ·intro L a w hv K Q hK
      obtain ⟨p5, p6, hs⟩ := hv
      exact wGo rfl rfl hs (Qk rfl rfl rfl rfl) fun a w hs => hK a w ⟨p5, p6, pF hs 10 [0, 1] [0, 1, 2, 3, 4] rfl⟩
     ·intro L a w hv K Q hK
      obtain ⟨p5, p6, hs⟩ := hv
      exact wGo rfl rfl hs (Qk rfl rfl rfl rfl) fun a w hs => hK a w ⟨p5, p6, pF hs 11 [0, 1] [0, 1, 2, 3, 4] rfl⟩
     ·intro L a w hv K Q hK
      obtain ⟨p5, p6, hs⟩ := hv
      exact wGo rfl rfl hs (Qg rfl rfl rfl rfl rfl (Qx (a := at1) (b := (1 : Int)))) fun a w hs => hK a w ⟨p5, p6, pF hs 12 [0, 1] [0, 1, 2, 3, 4] rfl⟩
     ·intro L a w hv K Q hK
      obtain ⟨p5, p6, hs⟩ := hv
      refine QE rfl rfl hs (Qy rfl rfl rfl rfl rfl Zf (i := 0) rfl hx6) ?_
      rintro _ ⟨p6', rfl⟩ a' w' hs'
      exact hK a' w' ⟨p5, p6', hs'.putF (i := 13) rfl [0, 1] [0, 1, 2, 3, 5] rfl rfl rfl rfl⟩
     ·intro L a w hv K Q hK
      obtain ⟨p5, p6, hs⟩ := hv
      exact wGo rfl rfl hs (Qv rfl rfl rfl rfl tyF5 (i := 4) rfl rfl) fun a w hs => hK a w ⟨p5, p6, pF hs 14 [0, 1] [0, 1, 2, 3, 4] rfl⟩
     ·intro L a w hv K Q hK
      obtain ⟨p5, p6, hs⟩ := hv
      exact wGo rfl rfl hs (QF rfl rfl rfl rfl (Xg (n := y6) Try.underlying5 Try.underlying34)) fun a w hs => hK a w ⟨p5, p6, pF hs 15 [0, 1] [0, 1, 2, 3, 4] rfl⟩
     ·intro L a w hL hv
      rw [QZ hL] at hv
      obtain ⟨p5, p6, hs⟩ := hv
      refine (show TA _ _ _ 12 ⟨[(0, some vb1), (2, some (.pointer (some ⟨b1, 0, none⟩))), (4, some (.pointer (some ⟨b2, 0, none⟩))), (6, some (vI at1)), (67, some (vU16 (Zm y5.toUInt16 ((8 : UInt64).toNat)))), (73, some (vU16 y6.toUInt16))], [some (Qd b1 37 [vU8 Dst3.a0, vU8 Dst3.a1, vU8 Dst3.a2, vU8 Dst3.a3, vU8 Dst3.a4, vU8 Dst3.a5, vU8 Src3.a0, vU8 Src3.a1, vU8 Src3.a2, vU8 Src3.a3, vU8 Src3.a4, vU8 Src3.a5, vI Vlan3, vU16 Type3, v3]), some (Qd b2 37 [vU8 Dst4.a0, vU8 Dst4.a1, vU8 Dst4.a2, vU8 Dst4.a3, vU8 Dst4.a4, vU8 Dst4.a5, vU8 Src4.a0, vU8 Src4.a1, vU8 Src4.a2, vU8 Src4.a3, vU8 Src4.a4, vU8 Src4.a5, vI Vlan4, vU16 Type4, v4])], [Fact.sl u8S vb1 b, Fact.sl u8S v3 Data3, Fact.sl u8S v4 Data4]⟩ from ?_) a w (hs.wkS [0, 2, 4, 6, 67, 73] [0, 1] [0, 1, 2] rfl rfl rfl rfl)
      clear hs hL
      refine QG htb (by kernel_rfl) rfl rfl (Qg rfl rfl rfl rfl rfl (bin_or_u16 (a := Zm y5.toUInt16 ((8 : UInt64).toNat)) (b := y6.toUInt16))) ?_
      refine QG htb (by kernel_rfl) rfl rfl (Qm rfl rfl rfl rfl Kl) ?_
      refine QG htb (by kernel_rfl) rfl rfl (QA (cs' := [vU8 Dst4.a0, vU8 Dst4.a1, vU8 Dst4.a2, vU8 Dst4.a3, vU8 Dst4.a4, vU8 Dst4.a5, vU8 Src4.a0, vU8 Src4.a1, vU8 Src4.a2, vU8 Src4.a3, vU8 Src4.a4, vU8 Src4.a5, vI Vlan4, vU16 ((Zm y5.toUInt16 ((8 : UInt64).toNat)) ||| y6.toUInt16), v4]) rfl rfl rfl rfl tyF34 (i := 1) rfl rfl rfl (Zi rfl) rfl) ?_
      refine ZP rfl ?_
      refine tW [(0, some vb1), (2, some (.pointer (some ⟨b1, 0, none⟩))), (4, some (.pointer (some ⟨b2, 0, none⟩))), (6, some (vI at1))] [some (Qd b1 37 [vU8 Dst3.a0, vU8 Dst3.a1, vU8 Dst3.a2, vU8 Dst3.a3, vU8 Dst3.a4, vU8 Dst3.a5, vU8 Src3.a0, vU8 Src3.a1, vU8 Src3.a2, vU8 Src3.a3, vU8 Src3.a4, vU8 Src3.a5, vI Vlan3, vU16 Type3, v3]), some (Qd b2 37 [vU8 Dst4.a0, vU8 Dst4.a1, vU8 Dst4.a2, vU8 Dst4.a3, vU8 Dst4.a4, vU8 Dst4.a5, vU8 Src4.a0, vU8 Src4.a1, vU8 Src4.a2, vU8 Src4.a3, vU8 Src4.a4, vU8 Src4.a5, vI Vlan4, vU16 ((Zm y5.toUInt16 ((8 : UInt64).toNat)) ||| y6.toUInt16), v4])] [Fact.sl u8S vb1 b, Fact.sl u8S v3 Data3, Fact.sl u8S v4 Data4] [0, 2, 4, 6] [0, 1] [0, 1, 2] rfl ?_
      refine Qe (Qb (Qq rfl (QH (S := u8S) (xs := ([] : List UInt8)) (css := []) (cs := []) (e := 5) rfl rfl rfl rfl (bldF Zf (by decide) (by kernel_rfl)) rfl rfl rfl rfl (Zd (S := u8S) (xs := ([] : List UInt8)) (css := []) rfl rfl)) fun v5 => ?_))
      refine sMv rfl rfl rfl ?_
      refine sMv rfl rfl rfl ?_
      refine Qa rfl (Qg rfl rfl rfl rfl rfl (Qx (a := at1) (b := (2 : Int)))) ?_
      obtain ⟨hc5, h⟩ := Zg h
      refine Qq rfl (Xw (l := wi (at1 + (2 : Int))) rfl rfl rfl rfl rfl Zf (i := 0) rfl hc5) fun v6 => ?_
      obtain ⟨hc6, h⟩ := Zg h
      refine Qq rfl (Xk rfl rfl rfl rfl rfl Zf (i := 2) (j := 3) rfl rfl hc6) fun v7 => ?_
      refine Qa rfl (Qm rfl rfl rfl rfl ZX) ?_
      refine Qa rfl (YQ (cs' := [vU8 Dst4.a0, vU8 Dst4.a1, vU8 Dst4.a2, vU8 Dst4.a3, vU8 Dst4.a4, vU8 Dst4.a5, vU8 Src4.a0, vU8 Src4.a1, vU8 Src4.a2, vU8 Src4.a3, vU8 Src4.a4, vU8 Src4.a5, vI Vlan4, vU16 ((Zm y5.toUInt16 ((8 : UInt64).toNat)) ||| y6.toUInt16), v7]) rfl rfl rfl rfl Yw (i := 1) rfl (Yy (i := 2) rfl) rfl rfl) ?_
      refine nW [(2, some (.pointer (some ⟨b1, 0, none⟩))), (4, some (.pointer (some ⟨b2, 0, none⟩)))] [some (Qd b1 37 [vU8 Dst3.a0, vU8 Dst3.a1, vU8 Dst3.a2, vU8 Dst3.a3, vU8 Dst3.a4, vU8 Dst3.a5, vU8 Src3.a0, vU8 Src3.a1, vU8 Src3.a2, vU8 Src3.a3, vU8 Src3.a4, vU8 Src3.a5, vI Vlan3, vU16 Type3, v3]), some (Qd b2 37 [vU8 Dst4.a0, vU8 Dst4.a1, vU8 Dst4.a2, vU8 Dst4.a3, vU8 Dst4.a4, vU8 Dst4.a5, vU8 Src4.a0, vU8 Src4.a1, vU8 Src4.a2, vU8 Src4.a3, vU8 Src4.a4, vU8 Src4.a5, vI Vlan4, vU16 ((Zm y5.toUInt16 ((8 : UInt64).toNat)) ||| y6.toUInt16), v7]), some (rowS u8S v7 (sub b (wi (at1 + (2 : Int))) (len b)))] [Fact.sl u8S v3 Data3] [2, 4] [0, 1, 2] [1] rfl ?_
      refine Qe (Qe (Qb (Qa rfl (Za (vs := [vU8 Dst4.a0, vU8 Dst4.a1, vU8 Dst4.a2, vU8 Dst4.a3, vU8 Dst4.a4, vU8 Dst4.a5, vU8 Src4.a0, vU8 Src4.a1, vU8 Src4.a2, vU8 Src4.a3, vU8 Src4.a4, vU8 Src4.a5, vI Vlan4, vU16 ((Zm y5.toUInt16 ((8 : UInt64).toNat)) ||| y6.toUInt16), v7]) rfl rfl rfl rfl Zs (i := 1) rfl rfl rfl) ?_)))
      obtain ⟨check1, hx7, h⟩ := ob_e h
      refine Qt rfl (QX [2] [0, 1, 2] (w_ref_Check23 hx7) [] rfl rfl rfl rfl rfl callee10 rfl rfl rfl rfl rfl rfl (QM (ZA 2 rfl rfl) ZB) (by rintro _ _ _ ⟨rfl, rfl, rfl⟩; exact ⟨rfl, Xa⟩)) ?_
      rintro _ ⟨_, _, _, ⟨rfl, rfl, rfl⟩, rfl⟩
      refine Qa rfl (Qg rfl rfl rfl rfl rfl (QN (a := check1) (b := (0 : Int)))) ?_
      refine nW [(2, some (.pointer (some ⟨b1, 0, none⟩))), (4, some (.pointer (some ⟨b2, 0, none⟩))), (85, some (vB (check1 != (0 : Int))))] [some (Qd b1 37 [vU8 Dst3.a0, vU8 Dst3.a1, vU8 Dst3.a2, vU8 Dst3.a3, vU8 Dst3.a4, vU8 Dst3.a5, vU8 Src3.a0, vU8 Src3.a1, vU8 Src3.a2, vU8 Src3.a3, vU8 Src3.a4, vU8 Src3.a5, vI Vlan3, vU16 Type3, v3]), some (Qd b2 37 [vU8 Dst4.a0, vU8 Dst4.a1, vU8 Dst4.a2, vU8 Dst4.a3, vU8 Dst4.a4, vU8 Dst4.a5, vU8 Src4.a0, vU8 Src4.a1, vU8 Src4.a2, vU8 Src4.a3, vU8 Src4.a4, vU8 Src4.a5, vI Vlan4, vU16 ((Zm y5.toUInt16 ((8 : UInt64).toNat)) ||| y6.toUInt16), v7]), some (rowS u8S v7 (sub b (wi (at1 + (2 : Int))) (len b)))] [Fact.sl u8S v3 Data3] [2, 4, 85] [0, 1, 2] [0] rfl ?_
      rcases bC (check1 != (0 : Int)) with hg4 | hg4
      ·replace h := br_t hg4 h
       refine Qn (cgb hg4) ?_
       refine Qe (Qb (Qa rfl (QT (v := .agg #[vU8 (0 : UInt8), vU8 (0 : UInt8), vU8 (0 : UInt8), vU8 (0 : UInt8), vU8 (0 : UInt8), vU8 (0 : UInt8), vU8 (0 : UInt8), vU8 (0 : UInt8), vU8 (0 : UInt8), vU8 (0 : UInt8), vU8 (0 : UInt8), vU8 (0 : UInt8), vI (0 : Int), vU16 (0 : UInt16), .slice none 0 0]) rfl rfl rfl rfl (bldV (by kernel_rfl))) ?_))
       refine Qa rfl (QA (cs' := [vU8 (0 : UInt8), vU8 (0 : UInt8), vU8 (0 : UInt8), vU8 (0 : UInt8), vU8 (0 : UInt8), vU8 (0 : UInt8), vU8 (0 : UInt8), vU8 (0 : UInt8), vU8 (0 : UInt8), vU8 (0 : UInt8), vU8 (0 : UInt8), vU8 (0 : UInt8), vI (0 : Int), vU16 (0 : UInt16), .slice none 0 0]) rfl rfl rfl rfl Zs (i := 0) rfl rfl rfl (Zi rfl) rfl) ?_
       refine sAs rfl rfl rfl ?_
       refine nW [(2, some (.pointer (some ⟨b1, 0, none⟩))), (3, some (vI (4 : Int)))] [some (Qd b1 37 [vU8 (0 : UInt8), vU8 (0 : UInt8), vU8 (0 : UInt8), vU8 (0 : UInt8), vU8 (0 : UInt8), vU8 (0 : UInt8), vU8 (0 : UInt8), vU8 (0 : UInt8), vU8 (0 : UInt8), vU8 (0 : UInt8), vU8 (0 : UInt8), vU8 (0 : UInt8), vI (0 : Int), vU16 (0 : UInt16), .slice none 0 0])] [] [2, 3] [0] [] rfl ?_
       refine QC u8S ?_
       obtain rfl := Option.some.inj h
       exact Qo rfl rfl (resA (vs := [.agg #[vU8 (0 : UInt8), vU8 (0 : UInt8), vU8 (0 : UInt8), vU8 (0 : UInt8), vU8 (0 : UInt8), vU8 (0 : UInt8), vU8 (0 : UInt8), vU8 (0 : UInt8), vU8 (0 : UInt8), vU8 (0 : UInt8), vU8 (0 : UInt8), vU8 (0 : UInt8), vI (0 : Int), vU16 (0 : UInt16), .slice none 0 0], vI (4 : Int)]) rfl ⟨⟨_, 0, _, _, _, rfl, rfl, .inl ⟨Zs, rfl, rfl⟩⟩, rfl, trivial⟩) [1] [] rfl rfl rfl ⟨(.slice none 0 0), rfl, rfl, rfl⟩
      ·replace h := br_f hg4 h
       refine Ql (cgb hg4) ?_
       refine Qr (Qe (Qb (Qa rfl (Za (vs := [vU8 Dst4.a0, vU8 Dst4.a1, vU8 Dst4.a2, vU8 Dst4.a3, vU8 Dst4.a4, vU8 Dst4.a5, vU8 Src4.a0, vU8 Src4.a1, vU8 Src4.a2, vU8 Src4.a3, vU8 Src4.a4, vU8 Src4.a5, vI Vlan4, vU16 ((Zm y5.toUInt16 ((8 : UInt64).toNat)) ||| y6.toUInt16), v7]) rfl rfl rfl rfl Zs (i := 1) rfl rfl rfl) ?_)))
       refine Qa rfl (Xu (fun z0 => [vU8 Dst4.a0, vU8 Dst4.a1, vU8 Dst4.a2, vU8 Dst4.a3, vU8 Dst4.a4, vU8 Dst4.a5, vU8 Src4.a0, vU8 Src4.a1, vU8 Src4.a2, vU8 Src4.a3, vU8 Src4.a4, vU8 Src4.a5, vI Vlan4, vU16 ((Zm y5.toUInt16 ((8 : UInt64).toNat)) ||| y6.toUInt16), z0]) (cs' := [vU8 Dst4.a0, vU8 Dst4.a1, vU8 Dst4.a2, vU8 Dst4.a3, vU8 Dst4.a4, vU8 Dst4.a5, vU8 Src4.a0, vU8 Src4.a1, vU8 Src4.a2, vU8 Src4.a3, vU8 Src4.a4, vU8 Src4.a5, vI Vlan4, vU16 ((Zm y5.toUInt16 ((8 : UInt64).toNat)) ||| y6.toUInt16), v7]) rfl rfl rfl rfl Zs (i := 0) rfl (Yy (i := 2) rfl) (fun _ _ _ => rfl) rfl rfl rfl) ?_
       refine sAs rfl rfl rfl ?_
       refine nW [(2, some (.pointer (some ⟨b1, 0, none⟩))), (3, some (vI (0 : Int)))] [some (Qd b1 37 [vU8 Dst4.a0, vU8 Dst4.a1, vU8 Dst4.a2, vU8 Dst4.a3, vU8 Dst4.a4, vU8 Dst4.a5, vU8 Src4.a0, vU8 Src4.a1, vU8 Src4.a2, vU8 Src4.a3, vU8 Src4.a4, vU8 Src4.a5, vI Vlan4, vU16 ((Zm y5.toUInt16 ((8 : UInt64).toNat)) ||| y6.toUInt16), v7]), some (rowS u8S v7 (sub b (wi (at1 + (2 : Int))) (len b)))] [] [2, 3] [0, 2] [] rfl ?_
       obtain rfl := Option.some.inj h
       exact Qo rfl rfl (resA (vs := [.agg #[vU8 Dst4.a0, vU8 Dst4.a1, vU8 Dst4.a2, vU8 Dst4.a3, vU8 Dst4.a4, vU8 Dst4.a5, vU8 Src4.a0, vU8 Src4.a1, vU8 Src4.a2, vU8 Src4.a3, vU8 Src4.a4, vU8 Src4.a5, vI Vlan4, vU16 ((Zm y5.toUInt16 ((8 : UInt64).toNat)) ||| y6.toUInt16), v7], vI (0 : Int)]) rfl ⟨⟨_, 0, _, _, _, rfl, rfl, .inl ⟨Zs, rfl, rfl⟩⟩, rfl, trivial⟩) [1] [] rfl rfl rfl ⟨v7, rfl, rfl, rfl⟩
    ·intro HJ1
     rcases bC (y4 == (0 : UInt8)) with hg5 | hg5
     ·replace h := br_t hg5 h
      refine Qn (cgb hg5) ?_
      refine Qe (Qe (Qb (sMv rfl rfl rfl ?_)))
      refine Qa rfl (QL rfl rfl rfl rfl Try.underlying35 (i := 0) rfl) ?_
      refine Qa rfl (Qg rfl rfl rfl rfl rfl (QJ (a := len b) (b := (18 : Int)))) ?_
      refine sMv rfl rfl rfl ?_
      rcases bC (decide ((len b) < (18 : Int))) with hg6 | hg6
      ·replace h := br_t hg6 h
       refine Qh rfl rfl (cgb hg6) rfl rfl ?_
       refine Qh rfl rfl (cgb hg6) rfl rfl ?_
       refine Qh rfl rfl (cgb hg6) rfl rfl ?_
       refine Qh rfl rfl (cgb hg6) rfl rfl ?_
       refine Qa rfl (Qz rfl rfl rfl (cgb hg6) rfl) ?_
       refine nW [(0, some vb1), (2, some (.pointer (some ⟨b1, 0, none⟩))), (4, some (.pointer (some ⟨b2, 0, none⟩))), (49, some (vB true))] [some (Qd b1 37 [vU8 Dst1.a0, vU8 Dst1.a1, vU8 Dst1.a2, vU8 Dst1.a3, vU8 Dst1.a4, vU8 Dst1.a5, vU8 Src1.a0, vU8 Src1.a1, vU8 Src1.a2, vU8 Src1.a3, vU8 Src1.a4, vU8 Src1.a5, vI Vlan1, vU16 Type1, v1]), some (Qd b2 37 [vU8 Dst2.a0, vU8 Dst2.a1, vU8 Dst2.a2, vU8 Dst2.a3, vU8 Dst2.a4, vU8 Dst2.a5, vU8 Src2.a0, vU8 Src2.a1, vU8 Src2.a2, vU8 Src2.a3, vU8 Src2.a4, vU8 Src2.a5, vI Vlan2, vU16 Type2, v2])] [Fact.sl u8S vb1 b, Fact.sl u8S v1 Data1, Fact.sl u8S v2 Data2] [0, 2, 4, 49] [0, 1] [0, 1, 2] rfl ?_
       refine Qn rfl ?_
       refine Qe (Qb (Qa rfl (QT (v := .agg #[vU8 (0 : UInt8), vU8 (0 : UInt8), vU8 (0 : UInt8), vU8 (0 : UInt8), vU8 (0 : UInt8), vU8 (0 : UInt8), vU8 (0 : UInt8), vU8 (0 : UInt8), vU8 (0 : UInt8), vU8 (0 : UInt8), vU8 (0 : UInt8), vU8 (0 : UInt8), vI (0 : Int), vU16 (0 : UInt16), .slice none 0 0]) rfl rfl rfl rfl (bldV (by kernel_rfl))) ?_))
       refine Qa rfl (QA (cs' := [vU8 (0 : UInt8), vU8 (0 : UInt8), vU8 (0 : UInt8), vU8 (0 : UInt8), vU8 (0 : UInt8), vU8 (0 : UInt8), vU8 (0 : UInt8), vU8 (0 : UInt8), vU8 (0 : UInt8), vU8 (0 : UInt8), vU8 (0 : UInt8), vU8 (0 : UInt8), vI (0 : Int), vU16 (0 : UInt16), .slice none 0 0]) rfl rfl rfl rfl Zs (i := 0) rfl rfl rfl (Zi rfl) rfl) ?_
       refine sAs rfl rfl rfl ?_
       refine nW [(2, some (.pointer (some ⟨b1, 0, none⟩))), (3, some (vI (4 : Int)))] [some (Qd b1 37 [vU8 (0 : UInt8), vU8 (0 : UInt8), vU8 (0 : UInt8), vU8 (0 : UInt8), vU8 (0 : UInt8), vU8 (0 : UInt8), vU8 (0 : UInt8), vU8 (0 : UInt8), vU8 (0 : UInt8), vU8 (0 : UInt8), vU8 (0 : UInt8), vU8 (0 : UInt8), vI (0 : Int), vU16 (0 : UInt16), .slice none 0 0])] [] [2, 3] [0] [] rfl ?_
       refine QC u8S ?_
       obtain rfl := Option.some.inj h
       exact Qo rfl rfl (resA (vs := [.agg #[vU8 (0 : UInt8), vU8 (0 : UInt8), vU8 (0 : UInt8), vU8 (0 : UInt8), vU8 (0 : UInt8), vU8 (0 : UInt8), vU8 (0 : UInt8), vU8 (0 : UInt8), vU8 (0 : UInt8), vU8 (0 : UInt8), vU8 (0 : UInt8), vU8 (0 : UInt8), vI (0 : Int), vU16 (0 : UInt16), .slice none 0 0], vI (4 : Int)]) rfl ⟨⟨_, 0, _, _, _, rfl, rfl, .inl ⟨Zs, rfl, rfl⟩⟩, rfl, trivial⟩) [1] [] rfl rfl rfl ⟨(.slice none 0 0), rfl, rfl, rfl⟩
      ·replace h := br_f hg6 h
       refine Qi rfl rfl (cgb hg6) (Qk rfl rfl rfl rfl) ?_
       rintro _ rfl
       obtain ⟨y7, hx8, h⟩ := ob_e h
       refine Qi rfl rfl (cgb hg6) (Qy rfl rfl rfl rfl rfl Zf (i := 0) rfl hx8) ?_
       rintro _ ⟨p7, rfl⟩
       refine Qi rfl rfl (cgb hg6) (Qv rfl rfl rfl rfl tyF5 (i := 3) rfl rfl) ?_
       rintro _ rfl
       refine Qi rfl rfl (cgb hg6) (Qg rfl rfl rfl rfl rfl (bin_gtr_u8 (a := y7) (b := (15 : UInt8)))) ?_
       rintro _ rfl
       refine Qa rfl (Qu rfl rfl rfl (cgb hg6) rfl) ?_
       refine nW [(0, some vb1), (2, some (.pointer (some ⟨b1, 0, none⟩))), (4, some (.pointer (some ⟨b2, 0, none⟩))), (49, some (vB (decide (y7 > (15 : UInt8)))))] [some (Qd b1 37 [vU8 Dst1.a0, vU8 Dst1.a1, vU8 Dst1.a2, vU8 Dst1.a3, vU8 Dst1.a4, vU8 Dst1.a5, vU8 Src1.a0, vU8 Src1.a1, vU8 Src1.a2, vU8 Src1.a3, vU8 Src1.a4, vU8 Src1.a5, vI Vlan1, vU16 Type1, v1]), some (Qd b2 37 [vU8 Dst2.a0, vU8 Dst2.a1, vU8 Dst2.a2, vU8 Dst2.a3, vU8 Dst2.a4, vU8 Dst2.a5, vU8 Src2.a0, vU8 Src2.a1, vU8 Src2.a2, vU8 Src2.a3, vU8 Src2.a4, vU8 Src2.a5, vI Vlan2, vU16 Type2, v2])] [Fact.sl u8S vb1 b, Fact.sl u8S v1 Data1, Fact.sl u8S v2 Data2] [0, 2, 4, 49] [0, 1] [0, 1, 2] rfl ?_
       rcases bC (decide (y7 > (15 : UInt8))) with hg7 | hg7
       ·replace h := br_t hg7 h
        refine Qn (cgb hg7) ?_
        refine Qe (Qb (Qa rfl (QT (v := .agg #[vU8 (0 : UInt8), vU8 (0 : UInt8), vU8 (0 : UInt8), vU8 (0 : UInt8), vU8 (0 : UInt8), vU8 (0 : UInt8), vU8 (0 : UInt8), vU8 (0 : UInt8), vU8 (0 : UInt8), vU8 (0 : UInt8), vU8 (0 : UInt8), vU8 (0 : UInt8), vI (0 : Int), vU16 (0 : UInt16), .slice none 0 0]) rfl rfl rfl rfl (bldV (by kernel_rfl))) ?_))
        refine Qa rfl (QA (cs' := [vU8 (0 : UInt8), vU8 (0 : UInt8), vU8 (0 : UInt8), vU8 (0 : UInt8), vU8 (0 : UInt8), vU8 (0 : UInt8), vU8 (0 : UInt8), vU8 (0 : UInt8), vU8 (0 : UInt8), vU8 (0 : UInt8), vU8 (0 : UInt8), vU8 (0 : UInt8), vI (0 : Int), vU16 (0 : UInt16), .slice none 0 0]) rfl rfl rfl rfl Zs (i := 0) rfl rfl rfl (Zi rfl) rfl) ?_
        refine sAs rfl rfl rfl ?_
        refine nW [(2, some (.pointer (some ⟨b1, 0, none⟩))), (3, some (vI (4 : Int)))] [some (Qd b1 37 [vU8 (0 : UInt8), vU8 (0 : UInt8), vU8 (0 : UInt8), vU8 (0 : UInt8), vU8 (0 : UInt8), vU8 (0 : UInt8), vU8 (0 : UInt8), vU8 (0 : UInt8), vU8 (0 : UInt8), vU8 (0 : UInt8), vU8 (0 : UInt8), vU8 (0 : UInt8), vI (0 : Int), vU16 (0 : UInt16), .slice none 0 0])] [] [2, 3] [0] [] rfl ?_
        refine QC u8S ?_
        obtain rfl := Option.some.inj h
        exact Qo rfl rfl (resA (vs := [.agg #[vU8 (0 : UInt8), vU8 (0 : UInt8), vU8 (0 : UInt8), vU8 (0 : UInt8), vU8 (0 : UInt8), vU8 (0 : UInt8), vU8 (0 : UInt8), vU8 (0 : UInt8), vU8 (0 : UInt8), vU8 (0 : UInt8), vU8 (0 : UInt8), vU8 (0 : UInt8), vI (0 : Int), vU16 (0 : UInt16), .slice none 0 0], vI (4 : Int)]) rfl ⟨⟨_, 0, _, _, _, rfl, rfl, .inl ⟨Zs, rfl, rfl⟩⟩, rfl, trivial⟩) [1] [] rfl rfl rfl ⟨(.slice none 0 0), rfl, rfl, rfl⟩
       ·replace h := br_f hg7 h
        refine Ql (cgb hg7) ?_
        refine Qr (Qe (Zp (by kernel_rfl) ?_))
        refine YI [0, 1, 3, 7, 15, 0, 32, 96, 224, 511, 1023, 2047] (by kernel_rfl) fun htb => ?_
        refine Xn (fr' := [(0, some vb1), (2, some (.pointer (some ⟨b1, 0, none⟩))), (4, some (.pointer (some ⟨b2, 0, none⟩)))]) (own' := [some (Qd b1 37 [vU8 Dst1.a0, vU8 Dst1.a1, vU8 Dst1.a2, vU8 Dst1.a3, vU8 Dst1.a4, vU8 Dst1.a5, vU8 Src1.a0, vU8 Src1.a1, vU8 Src1.a2, vU8 Src1.a3, vU8 Src1.a4, vU8 Src1.a5, vI Vlan1, vU16 Type1, v1]), some (Qd b2 37 [vU8 Dst2.a0, vU8 Dst2.a1, vU8 Dst2.a2, vU8 Dst2.a3, vU8 Dst2.a4, vU8 Dst2.a5, vU8 Src2.a0, vU8 Src2.a1, vU8 Src2.a2, vU8 Src2.a3, vU8 Src2.a4, vU8 Src2.a5, vI Vlan2, vU16 Type2, v2])]) (shr' := [Fact.sl u8S vb1 b, Fact.sl u8S v1 Data1, Fact.sl u8S v2 Data2]) [0, 2, 4] [0, 1] [0, 1, 2] rfl rfl rfl rfl ?_
        obtain ⟨y8, hx9, h⟩ := ob_e h
        obtain ⟨y9, hx10, h⟩ := ob_e h
        refine Zr (lo := 0) (hi := 9) htb rfl rfl (by kernel_rfl) (fun c L a w => ∃ (p8 : Value), ∃ (p9 : Value), Sat c ⟨[(0, some vb1), (2, some (.pointer (some ⟨b1, 0, none⟩))), (4, some (.pointer (some ⟨b2, 0, none⟩))), (51, bif L 0 then some (vb1) else none), (52, bif L 1 then some (p8) else none), (53, bif L 2 then some (vU8 y8) else none), (54, bif L 3 then some (vI (i8 y8)) else none), (55, bif L 4 then some (vI (shli (i8 y8) ((8 : UInt64).toNat))) else none), (56, bif L 5 then some (vb1) else none), (57, bif L 6 then some (p9) else none), (58, bif L 7 then some (vU8 y9) else none), (59, bif L 8 then some (vI (i8 y9)) else none)], [(some (Qd b1 37 [vU8 Dst1.a0, vU8 Dst1.a1, vU8 Dst1.a2, vU8 Dst1.a3, vU8 Dst1.a4, vU8 Dst1.a5, vU8 Src1.a0, vU8 Src1.a1, vU8 Src1.a2, vU8 Src1.a3, vU8 Src1.a4, vU8 Src1.a5, vI Vlan1, vU16 Type1, v1]) : Option Res), (some (Qd b2 37 [vU8 Dst2.a0, vU8 Dst2.a1, vU8 Dst2.a2, vU8 Dst2.a3, vU8 Dst2.a4, vU8 Dst2.a5, vU8 Src2.a0, vU8 Src2.a1, vU8 Src2.a2, vU8 Src2.a3, vU8 Src2.a4, vU8 Src2.a5, vI Vlan2, vU16 Type2, v2]) : Option Res)], [Fact.sl u8S vb1 b, Fact.sl u8S v1 Data1, Fact.sl u8S v2 Data2, (bif L 1 then Fact.pt u8S p8 y8 else Fact.tt), (bif L 6 then Fact.pt u8S p9 y9 else Fact.tt)]⟩ a w) [([], [1, 2, 3, 4]), ([0], [2, 3, 4]), ([0, 1], [3, 4]), ([0, 1, 2], [4]), ([0, 1, 2, 3], []), ([], [6, 7, 8]), ([5], [7, 8]), ([5, 6], [8]), ([5, 6, 7], [])] rfl (by kernel_rfl) ?_ (Qc ?_ (Qc ?_ (Qc ?_ (Qc ?_ (Qc ?_ (Qc ?_ (Qc ?_ (Qc ?_ (Qc ?_ (QI)))))))))) ?_
        ·intro a w hs
         exact ⟨undef, undef, hs.startF [51, 52, 53, 54, 55, 56, 57, 58, 59] [0, 1] [0, 1, 2, 3, 4] rfl rfl rfl rfl⟩
        ·intro L a w hv K Q hK
         obtain ⟨p8, p9, hs⟩ := hv
         exact wGo rfl rfl hs (Qk rfl rfl rfl rfl) fun a w hs => hK a w ⟨p8, p9, pF hs 3 [0, 1] [0, 1, 2, 3, 4] rfl⟩
        ·intro L a w hv K Q hK
         obtain ⟨p8, p9, hs⟩ := hv
         refine QE rfl rfl hs (Qy rfl rfl rfl rfl rfl Zf (i := 0) rfl hx9) ?_
         rintro _ ⟨p8', rfl⟩ a' w' hs'
         exact hK a' w' ⟨p8', p9, hs'.putF (i := 4) rfl [0, 1] [0, 1, 2, 5, 4] rfl rfl rfl rfl⟩
        ·intro L a w hv K Q hK
         obtain ⟨p8, p9, hs⟩ := hv
         exact wGo rfl rfl hs (Qv rfl rfl rfl rfl tyF5 (i := 3) rfl rfl) fun a w hs => hK a w ⟨p8, p9, pF hs 5 [0, 1] [0, 1, 2, 3, 4] rfl⟩
        ·intro L a w hv K Q hK
         obtain ⟨p8, p9, hs⟩ := hv
         exact wGo rfl rfl hs (QF rfl rfl rfl rfl (cnv_u8_i (n := y8) Try.underlying5 Try.underlying3)) fun a w hs => hK a w ⟨p8, p9, pF hs 6 [0, 1] [0, 1, 2, 3, 4] rfl⟩
        ·intro L a w hv K Q hK
         obtain ⟨p8, p9, hs⟩ := hv
         exact wGo rfl rfl hs (Qg rfl rfl rfl rfl rfl (bin_shl_i_u64 (a := i8 y8) (n := (8 : UInt64)))) fun a w hs => hK a w ⟨p8, p9, pF hs 7 [0, 1] [0, 1, 2, 3, 4] rfl⟩
        ·intro L a w hv K Q hK
         obtain ⟨p8, p9, hs⟩ := hv
         exact wGo rfl rfl hs (Qk rfl rfl rfl rfl) fun a w hs => hK a w ⟨p8, p9, pF hs 8 [0, 1] [0, 1, 2, 3, 4] rfl⟩
        ·intro L a w hv K Q hK
         obtain ⟨p8, p9, hs⟩ := hv
         refine QE rfl rfl hs (Qy rfl rfl rfl rfl rfl Zf (i := 0) rfl hx10) ?_
         rintro _ ⟨p9', rfl⟩ a' w' hs'
         exact hK a' w' ⟨p8, p9', hs'.putF (i := 9) rfl [0, 1] [0, 1, 2, 3, 5] rfl rfl rfl rfl⟩
        ·intro L a w hv K Q hK
         obtain ⟨p8, p9, hs⟩ := hv
         exact wGo rfl rfl hs (Qv rfl rfl rfl rfl tyF5 (i := 4) rfl rfl) fun a w hs => hK a w ⟨p8, p9, pF hs 10 [0, 1] [0, 1, 2, 3, 4] rfl⟩
        ·intro L a w hv K Q hK
         obtain ⟨p8, p9, hs⟩ := hv
         exact wGo rfl rfl hs (QF rfl rfl rfl rfl (cnv_u8_i (n := y9) Try.underlying5 Try.underlying3)) fun a w hs => hK a w ⟨p8, p9, pF hs 11 [0, 1] [0, 1, 2, 3, 4] rfl⟩
        ·intro L a w hL hv
         rw [QZ hL] at hv
         obtain ⟨p8, p9, hs⟩ := hv
         refine (show TA _ _ _ 9 ⟨[(0, some vb1), (2, some (.pointer (some ⟨b1, 0, none⟩))), (4, some (.pointer (some ⟨b2, 0, none⟩))), (55, some (vI (shli (i8 y8) ((8 : UInt64).toNat)))), (59, some (vI (i8 y9)))], [some (Qd b1 37 [vU8 Dst1.a0, vU8 Dst1.a1, vU8 Dst1.a2, vU8 Dst1.a3, vU8 Dst1.a4, vU8 Dst1.a5, vU8 Src1.a0, vU8 Src1.a1, vU8 Src1.a2, vU8 Src1.a3, vU8 Src1.a4, vU8 Src1.a5, vI Vlan1, vU16 Type1, v1]), some (Qd b2 37 [vU8 Dst2.a0, vU8 Dst2.a1, vU8 Dst2.a2, vU8 Dst2.a3, vU8 Dst2.a4, vU8 Dst2.a5, vU8 Src2.a0, vU8 Src2.a1, vU8 Src2.a2, vU8 Src2.a3, vU8 Src2.a4, vU8 Src2.a5, vI Vlan2, vU16 Type2, v2])], [Fact.sl u8S vb1 b, Fact.sl u8S v1 Data1, Fact.sl u8S v2 Data2]⟩ from ?_) a w (hs.wkS [0, 2, 4, 55, 59] [0, 1] [0, 1, 2] rfl rfl rfl rfl)
         clear hs hL
         refine QG htb (by kernel_rfl) rfl rfl (Qg rfl rfl rfl rfl rfl (bin_or_i (a := shli (i8 y8) ((8 : UInt64).toNat)) (b := i8 y9))) ?_
         refine QG htb (by kernel_rfl) rfl rfl (Qm rfl rfl rfl rfl Yb) ?_
         refine QG htb (by kernel_rfl) rfl rfl (QA (cs' := [vU8 Dst2.a0, vU8 Dst2.a1, vU8 Dst2.a2, vU8 Dst2.a3, vU8 Dst2.a4, vU8 Dst2.a5, vU8 Src2.a0, vU8 Src2.a1, vU8 Src2.a2, vU8 Src2.a3, vU8 Src2.a4, vU8 Src2.a5, vI (ori (shli (i8 y8) ((8 : UInt64).toNat)) (i8 y9)), vU16 Type2, v2]) rfl rfl rfl rfl tyF3 (i := 1) rfl rfl rfl (Zi rfl) rfl) ?_
         refine ZP rfl ?_
         refine tW [(0, some vb1), (2, some (.pointer (some ⟨b1, 0, none⟩))), (4, some (.pointer (some ⟨b2, 0, none⟩)))] [some (Qd b1 37 [vU8 Dst1.a0, vU8 Dst1.a1, vU8 Dst1.a2, vU8 Dst1.a3, vU8 Dst1.a4, vU8 Dst1.a5, vU8 Src1.a0, vU8 Src1.a1, vU8 Src1.a2, vU8 Src1.a3, vU8 Src1.a4, vU8 Src1.a5, vI Vlan1, vU16 Type1, v1]), some (Qd b2 37 [vU8 Dst2.a0, vU8 Dst2.a1, vU8 Dst2.a2, vU8 Dst2.a3, vU8 Dst2.a4, vU8 Dst2.a5, vU8 Src2.a0, vU8 Src2.a1, vU8 Src2.a2, vU8 Src2.a3, vU8 Src2.a4, vU8 Src2.a5, vI (ori (shli (i8 y8) ((8 : UInt64).toNat)) (i8 y9)), vU16 Type2, v2])] [Fact.sl u8S vb1 b, Fact.sl u8S v1 Data1, Fact.sl u8S v2 Data2] [0, 2, 4] [0, 1] [0, 1, 2] rfl ?_
         refine Qb (sAs rfl rfl rfl ?_)
         refine nW [(0, some vb1), (2, some (.pointer (some ⟨b1, 0, none⟩))), (4, some (.pointer (some ⟨b2, 0, none⟩))), (6, some (vI (16 : Int)))] [some (Qd b1 37 [vU8 Dst1.a0, vU8 Dst1.a1, vU8 Dst1.a2, vU8 Dst1.a3, vU8 Dst1.a4, vU8 Dst1.a5, vU8 Src1.a0, vU8 Src1.a1, vU8 Src1.a2, vU8 Src1.a3, vU8 Src1.a4, vU8 Src1.a5, vI Vlan1, vU16 Type1, v1]), some (Qd b2 37 [vU8 Dst2.a0, vU8 Dst2.a1, vU8 Dst2.a2, vU8 Dst2.a3, vU8 Dst2.a4, vU8 Dst2.a5, vU8 Src2.a0, vU8 Src2.a1, vU8 Src2.a2, vU8 Src2.a3, vU8 Src2.a4, vU8 Src2.a5, vI (ori (shli (i8 y8) ((8 : UInt64).toNat)) (i8 y9)), vU16 Type2, v2])] [Fact.sl u8S vb1 b, Fact.sl u8S v1 Data1, Fact.sl u8S v2 Data2] [0, 2, 4, 6] [0, 1] [0, 1, 2] rfl ?_
         exact ZE (HJ1 (Dst1, Src1, Vlan1, Type1, Data1, Dst2, Src2, ori (shli (i8 y8) ((8 : UInt64).toNat)) (i8 y9), Type2, Data2, (16 : Int), v1, v2) h) [0, 2, 4, 6] [0, 1] [0, 1, 2] rfl rfl rfl rfl
     ·replace h := br_f hg5 h
      refine Ql (cgb hg5) ?_
      refine Qr ?_
      exact ZE (HJ1 (Dst1, Src1, Vlan1, Type1, Data1, Dst2, Src2, Vlan2, Type2, Data2, (12 : Int), v1, v2) h) [0, 2, 4, 6] [0, 1] [0, 1, 2] rfl rfl rfl rfl
   ·replace h := br_f hg3 h
    refine Qh rfl rfl (cgb hg3) rfl rfl ?_
    refine Qh rfl rfl (cgb hg3) rfl rfl ?_
    refine Qh rfl rfl (cgb hg3) rfl rfl ?_
    refine Qh rfl rfl (cgb hg3) rfl rfl ?_
    refine Qa rfl (Qu rfl rfl rfl (cgb hg3) rfl) ?_
    refine nW [(0, some vb1), (2, some (.pointer (some ⟨b1, 0, none⟩))), (4, some (.pointer (some ⟨b2, 0, none⟩))), (6, some (vI (12 : Int))), (40, some (vB false))] [some (Qd b1 37 [vU8 Dst1.a0, vU8 Dst1.a1, vU8 Dst1.a2, vU8 Dst1.a3, vU8 Dst1.a4, vU8 Dst1.a5, vU8 Src1.a0, vU8 Src1.a1, vU8 Src1.a2, vU8 Src1.a3, vU8 Src1.a4, vU8 Src1.a5, vI Vlan1, vU16 Type1, v1]), some (Qd b2 37 [vU8 Dst2.a0, vU8 Dst2.a1, vU8 Dst2.a2, vU8 Dst2.a3, vU8 Dst2.a4, vU8 Dst2.a5, vU8 Src2.a0, vU8 Src2.a1, vU8 Src2.a2, vU8 Src2.a3, vU8 Src2.a4, vU8 Src2.a5, vI Vlan2, vU16 Type2, v2])] [Fact.sl u8S vb1 b, Fact.sl u8S v1 Data1, Fact.sl u8S v2 Data2] [0, 2, 4, 6, 40] [0, 1] [0, 1, 2] rfl ?_
    refine Ql rfl ?_
    refine Qr (Qe (Zp (by kernel_rfl) ?_))
    refine YI [0, 0, 3, 7, 15, 31, 0, 0, 128, 448, 960, 1984, 4095, 8191, 16383] (by kernel_rfl) fun htb => ?_
    refine Xn (fr' := [(0, some vb1), (2, some (.pointer (some ⟨b1, 0, none⟩))), (4, some (.pointer (some ⟨b2, 0, none⟩))), (6, some (vI (12 : Int)))]) (own' := [some (Qd b1 37 [vU8 Dst1.a0, vU8 Dst1.a1, vU8 Dst1.a2, vU8 Dst1.a3, vU8 Dst1.a4, vU8 Dst1.a5, vU8 Src1.a0, vU8 Src1.a1, vU8 Src1.a2, vU8 Src1.a3, vU8 Src1.a4, vU8 Src1.a5, vI Vlan1, vU16 Type1, v1]), some (Qd b2 37 [vU8 Dst2.a0, vU8 Dst2.a1, vU8 Dst2.a2, vU8 Dst2.a3, vU8 Dst2.a4, vU8 Dst2.a5, vU8 Src2.a0, vU8 Src2.a1, vU8 Src2.a2, vU8 Src2.a3, vU8 Src2.a4, vU8 Src2.a5, vI Vlan2, vU16 Type2, v2])]) (shr' := [Fact.sl u8S vb1 b, Fact.sl u8S v1 Data1, Fact.sl u8S v2 Data2]) [0, 2, 4, 6] [0, 1] [0, 1, 2] rfl rfl rfl rfl ?_
    obtain ⟨y10, hx11, h⟩ := ob_e h
    obtain ⟨y11, hx12, h⟩ := ob_e h
    refine Zr (lo := 0) (hi := 12) htb rfl rfl (by kernel_rfl) (fun c L a w => ∃ (p10 : Value), ∃ (p11 : Value), Sat c ⟨[(0, some vb1), (2, some (.pointer (some ⟨b1, 0, none⟩))), (4, some (.pointer (some ⟨b2, 0, none⟩))), (6, some (vI (12 : Int))), (62, bif L 0 then some (vb1) else none), (63, bif L 1 then some (vI (12 : Int)) else none), (64, bif L 2 then some (p10) else none), (65, bif L 3 then some (vU8 y10) else none), (66, bif L 4 then some (vU16 y10.toUInt16) else none), (67, bif L 5 then some (vU16 (Zm y10.toUInt16 ((8 : UInt64).toNat))) else none), (68, bif L 6 then some (vb1) else none), (69, bif L 7 then some (vI (12 : Int)) else none), (70, bif L 8 then some (vI (wi ((12 : Int) + (1 : Int)))) else none), (71, bif L 9 then some (p11) else none), (72, bif L 10 then some (vU8 y11) else none), (73, bif L 11 then some (vU16 y11.toUInt16) else none)], [(some (Qd b1 37 [vU8 Dst1.a0, vU8 Dst1.a1, vU8 Dst1.a2, vU8 Dst1.a3, vU8 Dst1.a4, vU8 Dst1.a5, vU8 Src1.a0, vU8 Src1.a1, vU8 Src1.a2, vU8 Src1.a3, vU8 Src1.a4, vU8 Src1.a5, vI Vlan1, vU16 Type1, v1]) : Option Res), (some (Qd b2 37 [vU8 Dst2.a0, vU8 Dst2.a1, vU8 Dst2.a2, vU8 Dst2.a3, vU8 Dst2.a4, vU8 Dst2.a5, vU8 Src2.a0, vU8 Src2.a1, vU8 Src2.a2, vU8 Src2.a3, vU8 Src2.a4, vU8 Src2.a5, vI Vlan2, vU16 Type2, v2]) : Option Res)], [Fact.sl u8S vb1 b, Fact.sl u8S v1 Data1, Fact.sl u8S v2 Data2, (bif L 2 then Fact.pt u8S p10 y10 else Fact.tt), (bif L 9 then Fact.pt u8S p11 y11 else Fact.tt)]⟩ a w) [([], [2, 3, 4, 5]), ([], [2, 3, 4, 5]), ([0, 1], [3, 4, 5]), ([0, 1, 2], [4, 5]), ([0, 1, 2, 3], [5]), ([0, 1, 2, 3, 4], []), ([], [9, 10, 11]), ([], [8, 9, 10, 11]), ([7], [9, 10, 11]), ([6, 7, 8], [10, 11]), ([6, 7, 8, 9], [11]), ([6, 7, 8, 9, 10], [])] rfl (by kernel_rfl) ?_ (Qc ?_ (Qc ?_ (Qc ?_ (Qc ?_ (Qc ?_ (Qc ?_ (Qc ?_ (Qc ?_ (Qc ?_ (Qc ?_ (Qc ?_ (Qc ?_ (QI))))))))))))) ?_
    ·intro a w hs
     exact ⟨undef, undef, hs.startF [62, 63, 64, 65, 66, 67, 68, 69, 70, 71, 72, 73] [0, 1] [0, 1, 2, 3, 4] rfl rfl rfl rfl⟩
    ·intro L a w hv K Q hK
     obtain ⟨p10, p11, hs⟩ := hv
     exact wGo rfl rfl hs (Qk rfl rfl rfl rfl) fun a w hs => hK a w ⟨p10, p11, pF hs 4 [0, 1] [0, 1, 2, 3, 4] rfl⟩
    ·intro L a w hv K Q hK
     obtain ⟨p10, p11, hs⟩ := hv
     exact wGo rfl rfl hs (Qk rfl rfl rfl rfl) fun a w hs => hK a w ⟨p10, p11, pF hs 5 [0, 1] [0, 1, 2, 3, 4] rfl⟩
    ·intro L a w hv K Q hK
     obtain ⟨p10, p11, hs⟩ := hv
     refine QE rfl rfl hs (Qy rfl rfl rfl rfl rfl Zf (i := 0) rfl hx11) ?_
     rintro _ ⟨p10', rfl⟩ a' w' hs'
     exact hK a' w' ⟨p10', p11, hs'.putF (i := 6) rfl [0, 1] [0, 1, 2, 5, 4] rfl rfl rfl rfl⟩
    ·intro L a w hv K Q hK
     obtain ⟨p10, p11, hs⟩ := hv
     exact wGo rfl rfl hs (Qv rfl rfl rfl rfl tyF5 (i := 3) rfl rfl) fun a w hs => hK a w ⟨p10, p11, pF hs 7 [0, 1] [0, 1, 2, 3, 4] rfl⟩
    ·intro L a w hv K Q hK
     obtain ⟨p10, p11, hs⟩ := hv
     exact wGo rfl rfl hs (QF rfl rfl rfl rfl (Xg (n := y10) Try.underlying5 Try.underlying34)) fun a w hs => hK a w ⟨p10, p11, pF hs 8 [0, 1] [0, 1, 2, 3, 4] rfl⟩
    ·intro L a w hv K Q hK
     obtain ⟨p10, p11, hs⟩ := hv
     exact wGo rfl rfl hs (Qg rfl rfl rfl rfl rfl (Xt (a := y10.toUInt16) (n := (8 : UInt64)))) fun a w hs => hK a w ⟨p10, p11, pF hs 9 [0, 1] [0, 1, 2, 3, 4] rfl⟩
    ·intro L a w hv K Q hK
     obtain ⟨p10, p11, hs⟩ := hv
     exact wGo rfl rfl hs (Qk rfl rfl rfl rfl) fun a w hs => hK a w ⟨p10, p11, pF hs 10 [0, 1] [0, 1, 2, 3, 4] rfl⟩
    ·intro L a w hv K Q hK
     obtain ⟨p10, p11, hs⟩ := hv
     exact wGo rfl rfl hs (Qk rfl rfl rfl rfl) fun a w hs => hK a w ⟨p10, p11, pF hs 11 [0, 1] [0, 1, 2, 3, 4] rfl⟩
    ·intro L a w hv K Q hK
     obtain ⟨p10, p11, hs⟩ := hv
     exact wGo rfl rfl hs (Qg rfl rfl rfl rfl rfl (Qx (a := (12 : Int)) (b := (1 : Int)))) fun a w hs => hK a w ⟨p10, p11, pF hs 12 [0, 1] [0, 1, 2, 3, 4] rfl⟩
    ·intro L a w hv K Q hK
     obtain ⟨p10, p11, hs⟩ := hv
     refine QE rfl rfl hs (Qy rfl rfl rfl rfl rfl Zf (i := 0) rfl hx12) ?_
     rintro _ ⟨p11', rfl⟩ a' w' hs'
     exact hK a' w' ⟨p10, p11', hs'.putF (i := 13) rfl [0, 1] [0, 1, 2, 3, 5] rfl rfl rfl rfl⟩
    ·intro L a w hv K Q hK
     obtain ⟨p10, p11, hs⟩ := hv
     exact wGo rfl rfl hs (Qv rfl rfl rfl rfl tyF5 (i := 4) rfl rfl) fun a w hs => hK a w ⟨p10, p11, pF hs 14 [0, 1] [0, 1, 2, 3, 4] rfl⟩
    ·intro L a w hv K Q hK
     obtain ⟨p10, p11, hs⟩ := hv
     exact wGo rfl rfl hs (QF rfl rfl rfl rfl (Xg (n := y11) Try.underlying5 Try.underlying34)) fun a w hs => hK a w ⟨p10, p11, pF hs 15 [0, 1] [0, 1, 2, 3, 4] rfl⟩
    ·intro L a w hL hv
     rw [QZ hL] at hv
     obtain ⟨p10, p11, hs⟩ := hv
     refine (show TA _ _ _ 12 ⟨[(0, some vb1), (2, some (.pointer (some ⟨b1, 0, none⟩))), (4, some (.pointer (some ⟨b2, 0, none⟩))), (6, some (vI (12 : Int))), (67, some (vU16 (Zm y10.toUInt16 ((8 : UInt64).toNat)))), (73, some (vU16 y11.toUInt16))], [some (Qd b1 37 [vU8 Dst1.a0, vU8 Dst1.a1, vU8 Dst1.a2, vU8 Dst1.a3, vU8 Dst1.a4, vU8 Dst1.a5, vU8 Src1.a0, vU8 Src1.a1, vU8 Src1.a2, vU8 Src1.a3, vU8 Src1.a4, vU8 Src1.a5, vI Vlan1, vU16 Type1, v1]), some (Qd b2 37 [vU8 Dst2.a0, vU8 Dst2.a1, vU8 Dst2.a2, vU8 Dst2.a3, vU8 Dst2.a4, vU8 Dst2.a5, vU8 Src2.a0, vU8 Src2.a1, vU8 Src2.a2, vU8 Src2.a3, vU8 Src2.a4, vU8 Src2.a5, vI Vlan2, vU16 Type2, v2])], [Fact.sl u8S vb1 b, Fact.sl u8S v1 Data1, Fact.sl u8S v2 Data2]⟩ from ?_) a w (hs.wkS [0, 2, 4, 6, 67, 73] [0, 1] [0, 1, 2] rfl rfl rfl rfl)
     clear hs hL
     refine QG htb (by kernel_rfl) rfl rfl (Qg rfl rfl rfl rfl rfl (bin_or_u16 (a := Zm y10.toUInt16 ((8 : UInt64).toNat)) (b := y11.toUInt16))) ?_
     refine QG htb (by kernel_rfl) rfl rfl (Qm rfl rfl rfl rfl Kl) ?_
     refine QG htb (by kernel_rfl) rfl rfl (QA (cs' := [vU8 Dst2.a0, vU8 Dst2.a1, vU8 Dst2.a2, vU8 Dst2.a3, vU8 Dst2.a4, vU8 Dst2.a5, vU8 Src2.a0, vU8 Src2.a1, vU8 Src2.a2, vU8 Src2.a3, vU8 Src2.a4, vU8 Src2.a5, vI Vlan2, vU16 ((Zm y10.toUInt16 ((8 : UInt64).toNat)) ||| y11.toUInt16), v2]) rfl rfl rfl rfl tyF34 (i := 1) rfl rfl rfl (Zi rfl) rfl) ?_
     refine ZP rfl ?_
     refine tW [(0, some vb1), (2, some (.pointer (some ⟨b1, 0, none⟩))), (4, some (.pointer (some ⟨b2, 0, none⟩))), (6, some (vI (12 : Int)))] [some (Qd b1 37 [vU8 Dst1.a0, vU8 Dst1.a1, vU8 Dst1.a2, vU8 Dst1.a3, vU8 Dst1.a4, vU8 Dst1.a5, vU8 Src1.a0, vU8 Src1.a1, vU8 Src1.a2, vU8 Src1.a3, vU8 Src1.a4, vU8 Src1.a5, vI Vlan1, vU16 Type1, v1]), some (Qd b2 37 [vU8 Dst2.a0, vU8 Dst2.a1, vU8 Dst2.a2, vU8 Dst2.a3, vU8 Dst2.a4, vU8 Dst2.a5, vU8 Src2.a0, vU8 Src2.a1, vU8 Src2.a2, vU8 Src2.a3, vU8 Src2.a4, vU8 Src2.a5, vI Vlan2, vU16 ((Zm y10.toUInt16 ((8 : UInt64).toNat)) ||| y11.toUInt16), v2])] [Fact.sl u8S vb1 b, Fact.sl u8S v1 Data1, Fact.sl u8S v2 Data2] [0, 2, 4, 6] [0, 1] [0, 1, 2] rfl ?_
     refine Qe (Qb (Qq rfl (QH (S := u8S) (xs := ([] : List UInt8)) (css := []) (cs := []) (e := 5) rfl rfl rfl rfl (bldF Zf (by decide) (by kernel_rfl)) rfl rfl rfl rfl (Zd (S := u8S) (xs := ([] : List UInt8)) (css := []) rfl rfl)) fun v8 => ?_))
     refine sMv rfl rfl rfl ?_
     refine sMv rfl rfl rfl ?_
     refine Qa rfl (Qg rfl rfl rfl rfl rfl (Qx (a := (12 : Int)) (b := (2 : Int)))) ?_
     obtain ⟨hc7, h⟩ := Zg h
     refine Qq rfl (Xw (l := wi ((12 : Int) + (2 : Int))) rfl rfl rfl rfl rfl Zf (i := 0) rfl hc7) fun v9 => ?_
     obtain ⟨hc8, h⟩ := Zg h
     refine Qq rfl (Xk rfl rfl rfl rfl rfl Zf (i := 2) (j := 3) rfl rfl hc8) fun v10 => ?_
     refine Qa rfl (Qm rfl rfl rfl rfl ZX) ?_
     refine Qa rfl (YQ (cs' := [vU8 Dst2.a0, vU8 Dst2.a1, vU8 Dst2.a2, vU8 Dst2.a3, vU8 Dst2.a4, vU8 Dst2.a5, vU8 Src2.a0, vU8 Src2.a1, vU8 Src2.a2, vU8 Src2.a3, vU8 Src2.a4, vU8 Src2.a5, vI Vlan2, vU16 ((Zm y10.toUInt16 ((8 : UInt64).toNat)) ||| y11.toUInt16), v10]) rfl rfl rfl rfl Yw (i := 1) rfl (Yy (i := 2) rfl) rfl rfl) ?_
     refine nW [(2, some (.pointer (some ⟨b1, 0, none⟩))), (4, some (.pointer (some ⟨b2, 0, none⟩)))] [some (Qd b1 37 [vU8 Dst1.a0, vU8 Dst1.a1, vU8 Dst1.a2, vU8 Dst1.a3, vU8 Dst1.a4, vU8 Dst1.a5, vU8 Src1.a0, vU8 Src1.a1, vU8 Src1.a2, vU8 Src1.a3, vU8 Src1.a4, vU8 Src1.a5, vI Vlan1, vU16 Type1, v1]), some (Qd b2 37 [vU8 Dst2.a0, vU8 Dst2.a1, vU8 Dst2.a2, vU8 Dst2.a3, vU8 Dst2.a4, vU8 Dst2.a5, vU8 Src2.a0, vU8 Src2.a1, vU8 Src2.a2, vU8 Src2.a3, vU8 Src2.a4, vU8 Src2.a5, vI Vlan2, vU16 ((Zm y10.toUInt16 ((8 : UInt64).toNat)) ||| y11.toUInt16), v10]), some (rowS u8S v10 (sub b (wi ((12 : Int) + (2 : Int))) (len b)))] [Fact.sl u8S v1 Data1] [2, 4] [0, 1, 2] [1] rfl ?_
     refine Qe (Qe (Qb (Qa rfl (Za (vs := [vU8 Dst2.a0, vU8 Dst2.a1, vU8 Dst2.a2, vU8 Dst2.a3, vU8 Dst2.a4, vU8 Dst2.a5, vU8 Src2.a0, vU8 Src2.a1, vU8 Src2.a2, vU8 Src2.a3, vU8 Src2.a4, vU8 Src2.a5, vI Vlan2, vU16 ((Zm y10.toUInt16 ((8 : UInt64).toNat)) ||| y11.toUInt16), v10]) rfl rfl rfl rfl Zs (i := 1) rfl rfl rfl) ?_)))
     obtain ⟨check2, hx13, h⟩ := ob_e h
     refine Qt rfl (QX [2] [0, 1, 2] (w_ref_Check23 hx13) [] rfl rfl rfl rfl rfl callee10 rfl rfl rfl rfl rfl rfl (QM (ZA 2 rfl rfl) ZB) (by rintro _ _ _ ⟨rfl, rfl, rfl⟩; exact ⟨rfl, Xa⟩)) ?_
     rintro _ ⟨_, _, _, ⟨rfl, rfl, rfl⟩, rfl⟩
     refine Qa rfl (Qg rfl rfl rfl rfl rfl (QN (a := check2) (b := (0 : Int)))) ?_
     refine nW [(2, some (.pointer (some ⟨b1, 0, none⟩))), (4, some (.pointer (some ⟨b2, 0, none⟩))), (85, some (vB (check2 != (0 : Int))))] [some (Qd b1 37 [vU8 Dst1.a0, vU8 Dst1.a1, vU8 Dst1.a2, vU8 Dst1.a3, vU8 Dst1.a4, vU8 Dst1.a5, vU8 Src1.a0, vU8 Src1.a1, vU8 Src1.a2, vU8 Src1.a3, vU8 Src1.a4, vU8 Src1.a5, vI Vlan1, vU16 Type1, v1]), some (Qd b2 37 [vU8 Dst2.a0, vU8 Dst2.a1, vU8 Dst2.a2, vU8 Dst2.a3, vU8 Dst2.a4, vU8 Dst2.a5, vU8 Src2.a0, vU8 Src2.a1, vU8 Src2.a2, vU8 Src2.a3, vU8 Src2.a4, vU8 Src2.a5, vI Vlan2, vU16 ((Zm y10.toUInt16 ((8 : UInt64).toNat)) ||| y11.toUInt16), v10]), some (rowS u8S v10 (sub b (wi ((12 : Int) + (2 : Int))) (len b)))] [Fact.sl u8S v1 Data1] [2, 4, 85] [0, 1, 2] [0] rfl ?_
     rcases bC (check2 != (0 : Int)) with hg8 | hg8
     ·replace h := br_t hg8 h
      refine Qn (cgb hg8) ?_
      refine Qe (Qb (Qa rfl (QT (v := .agg #[vU8 (0 : UInt8), vU8 (0 : UInt8), vU8 (0 : UInt8), vU8 (0 : UInt8), vU8 (0 : UInt8), vU8 (0 : UInt8), vU8 (0 : UInt8), vU8 (0 : UInt8), vU8 (0 : UInt8), vU8 (0 : UInt8), vU8 (0 : UInt8), vU8 (0 : UInt8), vI (0 : Int), vU16 (0 : UInt16), .slice none 0 0]) rfl rfl rfl rfl (bldV (by kernel_rfl))) ?_))
      refine Qa rfl (QA (cs' := [vU8 (0 : UInt8), vU8 (0 : UInt8), vU8 (0 : UInt8), vU8 (0 : UInt8), vU8 (0 : UInt8), vU8 (0 : UInt8), vU8 (0 : UInt8), vU8 (0 : UInt8), vU8 (0 : UInt8), vU8 (0 : UInt8), vU8 (0 : UInt8), vU8 (0 : UInt8), vI (0 : Int), vU16 (0 : UInt16), .slice none 0 0]) rfl rfl rfl rfl Zs (i := 0) rfl rfl rfl (Zi rfl) rfl) ?_
      refine sAs rfl rfl rfl ?_
      refine nW [(2, some (.pointer (some ⟨b1, 0, none⟩))), (3, some (vI (4 : Int)))] [some (Qd b1 37 [vU8 (0 : UInt8), vU8 (0 : UInt8), vU8 (0 : UInt8), vU8 (0 : UInt8), vU8 (0 : UInt8), vU8 (0 : UInt8), vU8 (0 : UInt8), vU8 (0 : UInt8), vU8 (0 : UInt8), vU8 (0 : UInt8), vU8 (0 : UInt8), vU8 (0 : UInt8), vI (0 : Int), vU16 (0 : UInt16), .slice none 0 0])] [] [2, 3] [0] [] rfl ?_
      refine QC u8S ?_
      obtain rfl := Option.some.inj h
      exact Qo rfl rfl (resA (vs := [.agg #[vU8 (0 : UInt8), vU8 (0 : UInt8), vU8 (0 : UInt8), vU8 (0 : UInt8), vU8 (0 : UInt8), vU8 (0 : UInt8), vU8 (0 : UInt8), vU8 (0 : UInt8), vU8 (0 : UInt8), vU8 (0 : UInt8), vU8 (0 : UInt8), vU8 (0 : UInt8), vI (0 : Int), vU16 (0 : UInt16), .slice none 0 0], vI (4 : Int)]) rfl ⟨⟨_, 0, _, _, _, rfl, rfl, .inl ⟨Zs, rfl, rfl⟩⟩, rfl, trivial⟩) [1] [] rfl rfl rfl ⟨(.slice none 0 0), rfl, rfl, rfl⟩
     ·replace h := br_f hg8 h
      refine Ql (cgb hg8) ?_
      refine Qr (Qe (Qb (Qa rfl (Za (vs := [vU8 Dst2.a0, vU8 Dst2.a1, vU8 Dst2.a2, vU8 Dst2.a3, vU8 Dst2.a4, vU8 Dst2.a5, vU8 Src2.a0, vU8 Src2.a1, vU8 Src2.a2, vU8 Src2.a3, vU8 Src2.a4, vU8 Src2.a5, vI Vlan2, vU16 ((Zm y10.toUInt16 ((8 : UInt64).toNat)) ||| y11.toUInt16), v10]) rfl rfl rfl rfl Zs (i := 1) rfl rfl rfl) ?_)))
      refine Qa rfl (Xu (fun z0 => [vU8 Dst2.a0, vU8 Dst2.a1, vU8 Dst2.a2, vU8 Dst2.a3, vU8 Dst2.a4, vU8 Dst2.a5, vU8 Src2.a0, vU8 Src2.a1, vU8 Src2.a2, vU8 Src2.a3, vU8 Src2.a4, vU8 Src2.a5, vI Vlan2, vU16 ((Zm y10.toUInt16 ((8 : UInt64).toNat)) ||| y11.toUInt16), z0]) (cs' := [vU8 Dst2.a0, vU8 Dst2.a1, vU8 Dst2.a2, vU8 Dst2.a3, vU8 Dst2.a4, vU8 Dst2.a5, vU8 Src2.a0, vU8 Src2.a1, vU8 Src2.a2, vU8 Src2.a3, vU8 Src2.a4, vU8 Src2.a5, vI Vlan2, vU16 ((Zm y10.toUInt16 ((8 : UInt64).toNat)) ||| y11.toUInt16), v10]) rfl rfl rfl rfl Zs (i := 0) rfl (Yy (i := 2) rfl) (fun _ _ _ => rfl) rfl rfl rfl) ?_
      refine sAs rfl rfl rfl ?_
      refine nW [(2, some (.pointer (some ⟨b1, 0, none⟩))), (3, some (vI (0 : Int)))] [some (Qd b1 37 [vU8 Dst2.a0, vU8 Dst2.a1, vU8 Dst2.a2, vU8 Dst2.a3, vU8 Dst2.a4, vU8 Dst2.a5, vU8 Src2.a0, vU8 Src2.a1, vU8 Src2.a2, vU8 Src2.a3, vU8 Src2.a4, vU8 Src2.a5, vI Vlan2, vU16 ((Zm y10.toUInt16 ((8 : UInt64).toNat)) ||| y11.toUInt16), v10]), some (rowS u8S v10 (sub b (wi ((12 : Int) + (2 : Int))) (len b)))] [] [2, 3] [0, 2] [] rfl ?_
      obtain rfl := Option.some.inj h
      exact Qo rfl rfl (resA (vs := [.agg #[vU8 Dst2.a0, vU8 Dst2.a1, vU8 Dst2.a2, vU8 Dst2.a3, vU8 Dst2.a4, vU8 Dst2.a5, vU8 Src2.a0, vU8 Src2.a1, vU8 Src2.a2, vU8 Src2.a3, vU8 Src2.a4, vU8 Src2.a5, vI Vlan2, vU16 ((Zm y10.toUInt16 ((8 : UInt64).toNat)) ||| y11.toUInt16), v10], vI (0 : Int)]) rfl ⟨⟨_, 0, _, _, _, rfl, rfl, .inl ⟨Zs, rfl, rfl⟩⟩, rfl, trivial⟩) [1] [] rfl rfl rfl ⟨v10, rfl, rfl, rfl⟩

set_option maxRecDepth 100000 in
set_option maxHeartbeats 4000000 in
theorem w_ref_Sent25 {m : dumbwaiterref02_Mem} {feats : UInt64} {l : List Seg} {b_m : Nat} {vm1 : Value} {vm2 : Value} {vsm1 : List Value} {vl1 : Value} {r : (Frame × Int)} (h : YL m feats l = some r) :
  Ctr Try.prog 18 #[.pointer (some ⟨b_m, 0, none⟩), vU64 feats, vl1] [(Qd b_m 84 [vm1, vm2]), (Qj u8S false vm2 vsm1 m.B none)] [Fact.sl Qf vm1 m.L, Fact.sl SegS vl1 l]
   (fun rv own shr => ∃ (w1 : Value), rv = .tuple #[.agg #[vU8 r.1.Dst.a0, vU8 r.1.Dst.a1, vU8 r.1.Dst.a2, vU8 r.1.Dst.a3, vU8 r.1.Dst.a4, vU8 r.1.Dst.a5, vU8 r.1.Src.a0, vU8 r.1.Src.a1, vU8 r.1.Src.a2, vU8 r.1.Src.a3, vU8 r.1.Src.a4, vU8 r.1.Src.a5, vI r.1.Vlan, vU16 r.1.Type_, w1], vI r.2] ∧ own = [(Qd b_m 84 [vm1, vm2]), (Qj u8S false vm2 vsm1 m.B none), (rowS u8S w1 r.1.Data)] ∧ shr = []) := by
 unfold YL at h
 refine Ctr.mk (args := [.pointer (some ⟨b_m, 0, none⟩), vU64 feats, vl1]) Try.func18 rfl rfl (fun R0 w0 B => ?_)
 refine Qe (Qb (Qq rfl (Zh rfl rfl rfl tyZ37) fun b1 => ?_))
 refine sAs rfl rfl rfl ?_
 refine nW [(0, some (.pointer (some ⟨b_m, 0, none⟩))), (1, some (vU64 feats)), (2, some vl1), (6, some (.pointer (some ⟨b1, 0, none⟩)))] [some (Qd b_m 84 [vm1, vm2]), some (Qj u8S false vm2 vsm1 m.B none), some (Qd b1 37 [vU8 (0 : UInt8), vU8 (0 : UInt8), vU8 (0 : UInt8), vU8 (0 : UInt8), vU8 (0 : UInt8), vU8 (0 : UInt8), vU8 (0 : UInt8), vU8 (0 : UInt8), vU8 (0 : UInt8), vU8 (0 : UInt8), vU8 (0 : UInt8), vU8 (0 : UInt8), vI (0 : Int), vU16 (0 : UInt16), .slice none 0 0])] [Fact.sl Qf vm1 m.L, Fact.sl SegS vl1 l] [0, 1, 2, 6] [0, 1, 2] [0, 1] rfl ?_
 refine Qe (Qe (Qb (sMv rfl rfl rfl ?_)))
 refine Qa rfl (OpT_ptrNil rfl rfl rfl (.inl rfl) rfl rfl ptrF44) ?_
 refine nW [(0, some (.pointer (some ⟨b_m, 0, none⟩))), (1, some (vU64 feats)), (2, some vl1), (6, some (.pointer (some ⟨b1, 0, none⟩))), (12, some (vB false))] [some (Qd b_m 84 [vm1, vm2]), some (Qj u8S false vm2 vsm1 m.B none), some (Qd b1 37 [vU8 (0 : UInt8), vU8 (0 : UInt8), vU8 (0 : UInt8), vU8 (0 : UInt8), vU8 (0 : UInt8), vU8 (0 : UInt8), vU8 (0 : UInt8), vU8 (0 : UInt8), vU8 (0 : UInt8), vU8 (0 : UInt8), vU8 (0 : UInt8), vU8 (0 : UInt8), vI (0 : Int), vU16 (0 : UInt16), .slice none 0 0])] [Fact.sl Qf vm1 m.L, Fact.sl SegS vl1 l] [0, 1, 2, 6, 12] [0, 1, 2] [0, 1] rfl ?_
 refine Ql rfl ?_
 refine Qr (Qe (Qb (sMv rfl rfl rfl ?_)))
 refine sMv rfl rfl rfl ?_
 obtain ⟨Zu, hx1, h⟩ := ob_e h
 refine Qt rfl (QS [3, 4, 2, 5] (w_ref_Gather05 hx1) [0, 1] [0, 1] rfl rfl rfl rfl rfl callee41 rfl rfl rfl rfl rfl) ?_
 rintro _ ⟨_, _, _, ⟨v1, rfl, rfl, rfl⟩, rfl⟩
 refine sMv rfl rfl rfl ?_
 refine Qa rfl (Qs rfl rfl rfl rfl rfl) ?_
 refine Qa rfl (Qs rfl rfl rfl rfl rfl) ?_
 refine sAs rfl rfl rfl ?_
 refine sAs rfl rfl rfl ?_
 refine nW [(1, some (vU64 feats)), (6, some (.pointer (some ⟨b1, 0, none⟩))), (8, some v1), (9, some (vI Zu.2))] [some (Qd b_m 84 [vm1, vm2]), some (Qj u8S false vm2 vsm1 m.B none), some (Qd b1 37 [vU8 (0 : UInt8), vU8 (0 : UInt8), vU8 (0 : UInt8), vU8 (0 : UInt8), vU8 (0 : UInt8), vU8 (0 : UInt8), vU8 (0 : UInt8), vU8 (0 : UInt8), vU8 (0 : UInt8), vU8 (0 : UInt8), vU8 (0 : UInt8), vU8 (0 : UInt8), vI (0 : Int), vU16 (0 : UInt16), .slice none 0 0]), some (rowS u8S v1 Zu.1)] [Fact.sl Qf vm1 m.L] [1, 6, 8, 9] [0, 1, 2, 3] [0] rfl ?_
 refine Qe (Qe (Qb (sMv rfl rfl rfl ?_)))
 refine Qa rfl (Qg rfl rfl rfl rfl rfl (QN (a := Zu.2) (b := (0 : Int)))) ?_
 refine nW [(1, some (vU64 feats)), (6, some (.pointer (some ⟨b1, 0, none⟩))), (8, some v1), (9, some (vI Zu.2)), (21, some (vB (Zu.2 != (0 : Int))))] [some (Qd b_m 84 [vm1, vm2]), some (Qj u8S false vm2 vsm1 m.B none), some (Qd b1 37 [vU8 (0 : UInt8), vU8 (0 : UInt8), vU8 (0 : UInt8), vU8 (0 : UInt8), vU8 (0 : UInt8), vU8 (0 : UInt8), vU8 (0 : UInt8), vU8 (0 : UInt8), vU8 (0 : UInt8), vU8 (0 : UInt8), vU8 (0 : UInt8), vU8 (0 : UInt8), vI (0 : Int), vU16 (0 : UInt16), .slice none 0 0]), some (rowS u8S v1 Zu.1)] [Fact.sl Qf vm1 m.L] [1, 6, 8, 9, 21] [0, 1, 2, 3] [0] rfl ?_
 rcases bC (Zu.2 != (0 : Int)) with hg1 | hg1
 ·replace h := br_t hg1 h
  refine Qn (cgb hg1) ?_
  refine Qe (Qb (Qa rfl (QT (v := .agg #[vU8 (0 : UInt8), vU8 (0 : UInt8), vU8 (0 : UInt8), vU8 (0 : UInt8), vU8 (0 : UInt8), vU8 (0 : UInt8), vU8 (0 : UInt8), vU8 (0 : UInt8), vU8 (0 : UInt8), vU8 (0 : UInt8), vU8 (0 : UInt8), vU8 (0 : UInt8), vI (0 : Int), vU16 (0 : UInt16), .slice none 0 0]) rfl rfl rfl rfl (bldV (by kernel_rfl))) ?_))
  refine sMv rfl rfl rfl ?_
  refine Qa rfl (QA (cs' := [vU8 (0 : UInt8), vU8 (0 : UInt8), vU8 (0 : UInt8), vU8 (0 : UInt8), vU8 (0 : UInt8), vU8 (0 : UInt8), vU8 (0 : UInt8), vU8 (0 : UInt8), vU8 (0 : UInt8), vU8 (0 : UInt8), vU8 (0 : UInt8), vU8 (0 : UInt8), vI (0 : Int), vU16 (0 : UInt16), .slice none 0 0]) rfl rfl rfl rfl Zs (i := 2) rfl rfl rfl (Zi rfl) rfl) ?_
  refine sAs rfl rfl rfl ?_
  refine nW [(6, some (.pointer (some ⟨b1, 0, none⟩))), (7, some (vI Zu.2))] [some (Qd b_m 84 [vm1, vm2]), some (Qj u8S false vm2 vsm1 m.B none), some (Qd b1 37 [vU8 (0 : UInt8), vU8 (0 : UInt8), vU8 (0 : UInt8), vU8 (0 : UInt8), vU8 (0 : UInt8), vU8 (0 : UInt8), vU8 (0 : UInt8), vU8 (0 : UInt8), vU8 (0 : UInt8), vU8 (0 : UInt8), vU8 (0 : UInt8), vU8 (0 : UInt8), vI (0 : Int), vU16 (0 : UInt16), .slice none 0 0])] [Fact.sl Qf vm1 m.L] [6, 7] [0, 1, 2] [0] rfl ?_
  refine QC u8S ?_
  obtain rfl := Option.some.inj h
  exact Qo rfl rfl (resA (vs := [.agg #[vU8 (0 : UInt8), vU8 (0 : UInt8), vU8 (0 : UInt8), vU8 (0 : UInt8), vU8 (0 : UInt8), vU8 (0 : UInt8), vU8 (0 : UInt8), vU8 (0 : UInt8), vU8 (0 : UInt8), vU8 (0 : UInt8), vU8 (0 : UInt8), vU8 (0 : UInt8), vI (0 : Int), vU16 (0 : UInt16), .slice none 0 0], vI Zu.2]) rfl ⟨⟨_, 2, _, _, _, rfl, rfl, .inl ⟨Zs, rfl, rfl⟩⟩, rfl, trivial⟩) [0, 1, 3] [] rfl rfl rfl ⟨(.slice none 0 0), rfl, rfl, rfl⟩
 ·replace h := br_f hg1 h
  refine Ql (cgb hg1) ?_
  refine Qr (Qe (Qb (sMv rfl rfl rfl ?_)))
  obtain ⟨readhd1, hx2, h⟩ := ob_e h
  refine Qt rfl (QX [3] [0, 1, 2, 3] (w_ref_ReadHdr23 hx2) [] rfl rfl rfl rfl rfl callee42 rfl rfl rfl rfl rfl rfl (QM (ZA 3 rfl rfl) ZB) (by rintro _ _ _ ⟨rfl, rfl, rfl⟩; exact ⟨rfl, Xa⟩)) ?_
  rintro _ ⟨_, _, _, ⟨rfl, rfl, rfl⟩, rfl⟩
  refine sMv rfl rfl rfl ?_
  refine Qa rfl (Qs rfl rfl rfl rfl rfl) ?_
  refine Qa rfl (Qs rfl rfl rfl rfl rfl) ?_
  refine Qq rfl (Zh rfl rfl rfl tyZ88) fun b2 => ?_
  refine Qa rfl (QA (cs' := [vU8 readhd1.1.Flags, vU16 readhd1.1.Start, vU16 readhd1.1.Off, vU16 readhd1.1.Buffers]) rfl rfl rfl rfl tyF88 (i := 4) rfl rfl rfl (Zi rfl) rfl) ?_
  refine sAs rfl rfl rfl ?_
  refine nW [(1, some (vU64 feats)), (6, some (.pointer (some ⟨b1, 0, none⟩))), (8, some v1), (9, some (vI readhd1.2)), (10, some (.pointer (some ⟨b2, 0, none⟩)))] [some (Qd b_m 84 [vm1, vm2]), some (Qj u8S false vm2 vsm1 m.B none), some (Qd b1 37 [vU8 (0 : UInt8), vU8 (0 : UInt8), vU8 (0 : UInt8), vU8 (0 : UInt8), vU8 (0 : UInt8), vU8 (0 : UInt8), vU8 (0 : UInt8), vU8 (0 : UInt8), vU8 (0 : UInt8), vU8 (0 : UInt8), vU8 (0 : UInt8), vU8 (0 : UInt8), vI (0 : Int), vU16 (0 : UInt16), .slice none 0 0]), some (rowS u8S v1 Zu.1), some (Qd b2 88 [vU8 readhd1.1.Flags, vU16 readhd1.1.Start, vU16 readhd1.1.Off, vU16 readhd1.1.Buffers])] [Fact.sl Qf vm1 m.L] [1, 6, 8, 9, 10] [0, 1, 2, 3, 4] [0] rfl ?_
  refine Qe (Qe (Qb (sMv rfl rfl rfl ?_)))
  refine Qa rfl (Qg rfl rfl rfl rfl rfl (QN (a := readhd1.2) (b := (0 : Int)))) ?_
  refine nW [(1, some (vU64 feats)), (6, some (.pointer (some ⟨b1, 0, none⟩))), (8, some v1), (10, some (.pointer (some ⟨b2, 0, none⟩))), (30, some (vB (readhd1.2 != (0 : Int))))] [some (Qd b_m 84 [vm1, vm2]), some (Qj u8S false vm2 vsm1 m.B none), some (Qd b1 37 [vU8 (0 : UInt8), vU8 (0 : UInt8), vU8 (0 : UInt8), vU8 (0 : UInt8), vU8 (0 : UInt8), vU8 (0 : UInt8), vU8 (0 : UInt8), vU8 (0 : UInt8), vU8 (0 : UInt8), vU8 (0 : UInt8), vU8 (0 : UInt8), vU8 (0 : UInt8), vI (0 : Int), vU16 (0 : UInt16), .slice none 0 0]), some (rowS u8S v1 Zu.1), some (Qd b2 88 [vU8 readhd1.1.Flags, vU16 readhd1.1.Start, vU16 readhd1.1.Off, vU16 readhd1.1.Buffers])] [Fact.sl Qf vm1 m.L] [1, 6, 8, 10, 30] [0, 1, 2, 3, 4] [0] rfl ?_
  rcases bC (readhd1.2 != (0 : Int)) with hg2 | hg2
  ·replace h := br_t hg2 h
   refine Qn (cgb hg2) ?_
   refine Qe (Qb (Qa rfl (QT (v := .agg #[vU8 (0 : UInt8), vU8 (0 : UInt8), vU8 (0 : UInt8), vU8 (0 : UInt8), vU8 (0 : UInt8), vU8 (0 : UInt8), vU8 (0 : UInt8), vU8 (0 : UInt8), vU8 (0 : UInt8), vU8 (0 : UInt8), vU8 (0 : UInt8), vU8 (0 : UInt8), vI (0 : Int), vU16 (0 : UInt16), .slice none 0 0]) rfl rfl rfl rfl (bldV (by kernel_rfl))) ?_))
   refine Qa rfl (QA (cs' := [vU8 (0 : UInt8), vU8 (0 : UInt8), vU8 (0 : UInt8), vU8 (0 : UInt8), vU8 (0 : UInt8), vU8 (0 : UInt8), vU8 (0 : UInt8), vU8 (0 : UInt8), vU8 (0 : UInt8), vU8 (0 : UInt8), vU8 (0 : UInt8), vU8 (0 : UInt8), vI (0 : Int), vU16 (0 : UInt16), .slice none 0 0]) rfl rfl rfl rfl Zs (i := 2) rfl rfl rfl (Zi rfl) rfl) ?_
   refine sAs rfl rfl rfl ?_
   refine nW [(6, some (.pointer (some ⟨b1, 0, none⟩))), (7, some (vI (4 : Int)))] [some (Qd b_m 84 [vm1, vm2]), some (Qj u8S false vm2 vsm1 m.B none), some (Qd b1 37 [vU8 (0 : UInt8), vU8 (0 : UInt8), vU8 (0 : UInt8), vU8 (0 : UInt8), vU8 (0 : UInt8), vU8 (0 : UInt8), vU8 (0 : UInt8), vU8 (0 : UInt8), vU8 (0 : UInt8), vU8 (0 : UInt8), vU8 (0 : UInt8), vU8 (0 : UInt8), vI (0 : Int), vU16 (0 : UInt16), .slice none 0 0])] [Fact.sl Qf vm1 m.L] [6, 7] [0, 1, 2] [0] rfl ?_
   refine QC u8S ?_
   obtain rfl := Option.some.inj h
   exact Qo rfl rfl (resA (vs := [.agg #[vU8 (0 : UInt8), vU8 (0 : UInt8), vU8 (0 : UInt8), vU8 (0 : UInt8), vU8 (0 : UInt8), vU8 (0 : UInt8), vU8 (0 : UInt8), vU8 (0 : UInt8), vU8 (0 : UInt8), vU8 (0 : UInt8), vU8 (0 : UInt8), vU8 (0 : UInt8), vI (0 : Int), vU16 (0 : UInt16), .slice none 0 0], vI (4 : Int)]) rfl ⟨⟨_, 2, _, _, _, rfl, rfl, .inl ⟨Zs, rfl, rfl⟩⟩, rfl, trivial⟩) [0, 1, 3] [] rfl rfl rfl ⟨(.slice none 0 0), rfl, rfl, rfl⟩
  ·replace h := br_f hg2 h
   refine Ql (cgb hg2) ?_
   refine Qr (Qe (Qb (sMv rfl rfl rfl ?_)))
   obtain ⟨hc1, h⟩ := Zg h
   refine Qa rfl (OpT_subL (S := u8S) (l := (12 : Int)) rfl rfl rfl rfl rfl Zf (i := 3) rfl hc1) ?_
   refine sAs rfl rfl rfl ?_
   refine nW [(1, some (vU64 feats)), (6, some (.pointer (some ⟨b1, 0, none⟩))), (8, some (subV v1 1 (Int.toNat (12 : Int)) (Int.toNat (len Zu.1)))), (10, some (.pointer (some ⟨b2, 0, none⟩)))] [some (Qd b_m 84 [vm1, vm2]), some (Qj u8S false vm2 vsm1 m.B none), some (Qd b1 37 [vU8 (0 : UInt8), vU8 (0 : UInt8), vU8 (0 : UInt8), vU8 (0 : UInt8), vU8 (0 : UInt8), vU8 (0 : UInt8), vU8 (0 : UInt8), vU8 (0 : UInt8), vU8 (0 : UInt8), vU8 (0 : UInt8), vU8 (0 : UInt8), vU8 (0 : UInt8), vI (0 : Int), vU16 (0 : UInt16), .slice none 0 0]), some (rowS u8S v1 Zu.1), some (Qd b2 88 [vU8 readhd1.1.Flags, vU16 readhd1.1.Start, vU16 readhd1.1.Off, vU16 readhd1.1.Buffers])] [Fact.sl Qf vm1 m.L] [1, 6, 8, 10] [0, 1, 2, 3, 4] [0] rfl ?_
   refine Qe (Qe (Qb (sMv rfl rfl rfl ?_)))
   obtain ⟨has1, hx3, h⟩ := ob_e h
   refine Qt rfl (QP (w_ref_Has06 hx3) [] [] rfl rfl rfl rfl rfl callee43 rfl rfl rfl rfl) ?_
   rintro _ ⟨_, _, _, ⟨rfl, rfl, rfl⟩, rfl⟩
   refine nW [(6, some (.pointer (some ⟨b1, 0, none⟩))), (8, some (subV v1 1 (Int.toNat (12 : Int)) (Int.toNat (len Zu.1)))), (10, some (.pointer (some ⟨b2, 0, none⟩))), (35, some (vB has1))] [some (Qd b_m 84 [vm1, vm2]), some (Qj u8S false vm2 vsm1 m.B none), some (Qd b1 37 [vU8 (0 : UInt8), vU8 (0 : UInt8), vU8 (0 : UInt8), vU8 (0 : UInt8), vU8 (0 : UInt8), vU8 (0 : UInt8), vU8 (0 : UInt8), vU8 (0 : UInt8), vU8 (0 : UInt8), vU8 (0 : UInt8), vU8 (0 : UInt8), vU8 (0 : UInt8), vI (0 : Int), vU16 (0 : UInt16), .slice none 0 0]), some (rowS u8S v1 Zu.1), some (Qd b2 88 [vU8 readhd1.1.Flags, vU16 readhd1.1.Start, vU16 readhd1.1.Off, vU16 readhd1.1.Buffers])] [Fact.sl Qf vm1 m.L] [6, 8, 10, 35] [0, 1, 2, 3, 4] [0] rfl ?_
   rcases bC (has1) with hg3 | hg3
   ·replace h := br_t hg3 h
    refine Qn (cgb hg3) ?_
    refine Qe (Qb (sMv rfl rfl rfl ?_))
    refine Qa rfl (Za (vs := [vU8 readhd1.1.Flags, vU16 readhd1.1.Start, vU16 readhd1.1.Off, vU16 readhd1.1.Buffers]) rfl rfl rfl rfl tyF88 (i := 4) rfl rfl rfl) ?_
    obtain ⟨fill1, hx4, h⟩ := ob_e h
    refine Qt rfl (QX [3] [0, 1, 2, 3, 4, 5] (w_ref_Fill23 hx4) [] rfl rfl rfl rfl rfl callee44 rfl rfl rfl rfl rfl rfl (QM (bor_sub (S := u8S) (l := (12 : Int)) (m := (len Zu.1)) 3 rfl rfl hc1) ZB) (by rintro _ _ _ ⟨_, rfl, rfl, rfl⟩; exact ⟨rfl, (Zj (YK (S := u8S) rfl _ _) Xa)⟩)) ?_
    rintro _ ⟨_, _, _, ⟨v2, rfl, rfl, rfl⟩, rfl⟩
    refine sMv rfl rfl rfl ?_
    refine Qa rfl (Qs rfl rfl rfl rfl rfl) ?_
    refine Qa rfl (Qs rfl rfl rfl rfl rfl) ?_
    refine sAs rfl rfl rfl ?_
    refine sAs rfl rfl rfl ?_
    refine nW [(6, some (.pointer (some ⟨b1, 0, none⟩))), (8, some v2), (9, some (vI fill1.2))] [some (Qd b_m 84 [vm1, vm2]), some (Qj u8S false vm2 vsm1 m.B none), some (Qd b1 37 [vU8 (0 : UInt8), vU8 (0 : UInt8), vU8 (0 : UInt8), vU8 (0 : UInt8), vU8 (0 : UInt8), vU8 (0 : UInt8), vU8 (0 : UInt8), vU8 (0 : UInt8), vU8 (0 : UInt8), vU8 (0 : UInt8), vU8 (0 : UInt8), vU8 (0 : UInt8), vI (0 : Int), vU16 (0 : UInt16), .slice none 0 0]), some (rowS u8S v2 fill1.1)] [Fact.sl Qf vm1 m.L] [6, 8, 9] [0, 1, 2, 5] [0] rfl ?_
    refine Qe (Qb (sMv rfl rfl rfl ?_))
    refine Qa rfl (Qg rfl rfl rfl rfl rfl (QN (a := fill1.2) (b := (0 : Int)))) ?_
    refine nW [(6, some (.pointer (some ⟨b1, 0, none⟩))), (8, some v2), (43, some (vB (fill1.2 != (0 : Int))))] [some (Qd b_m 84 [vm1, vm2]), some (Qj u8S false vm2 vsm1 m.B none), some (Qd b1 37 [vU8 (0 : UInt8), vU8 (0 : UInt8), vU8 (0 : UInt8), vU8 (0 : UInt8), vU8 (0 : UInt8), vU8 (0 : UInt8), vU8 (0 : UInt8), vU8 (0 : UInt8), vU8 (0 : UInt8), vU8 (0 : UInt8), vU8 (0 : UInt8), vU8 (0 : UInt8), vI (0 : Int), vU16 (0 : UInt16), .slice none 0 0]), some (rowS u8S v2 fill1.1)] [Fact.sl Qf vm1 m.L] [6, 8, 43] [0, 1, 2, 3] [0] rfl ?_
    rcases bC (fill1.2 != (0 : Int)) with hg4 | hg4
    ·replace h := br_t hg4 h
     refine Qn (cgb hg4) ?_
     refine Qe (Qb (Qa rfl (QT (v := .agg #[vU8 (0 : UInt8), vU8 (0 : UInt8), vU8 (0 : UInt8), vU8 (0 : UInt8), vU8 (0 : UInt8), vU8 (0 : UInt8), vU8 (0 : UInt8), vU8 (0 : UInt8), vU8 (0 : UInt8), vU8 (0 : UInt8), vU8 (0 : UInt8), vU8 (0 : UInt8), vI (0 : Int), vU16 (0 : UInt16), .slice none 0 0]) rfl rfl rfl rfl (bldV (by kernel_rfl))) ?_))
     refine Qa rfl (QA (cs' := [vU8 (0 : UInt8), vU8 (0 : UInt8), vU8 (0 : UInt8), vU8 (0 : UInt8), vU8 (0 : UInt8), vU8 (0 : UInt8), vU8 (0 : UInt8), vU8 (0 : UInt8), vU8 (0 : UInt8), vU8 (0 : UInt8), vU8 (0 : UInt8), vU8 (0 : UInt8), vI (0 : Int), vU16 (0 : UInt16), .slice none 0 0]) rfl rfl rfl rfl Zs (i := 2) rfl rfl rfl (Zi rfl) rfl) ?_
     refine sAs rfl rfl rfl ?_
     refine nW [(6, some (.pointer (some ⟨b1, 0, none⟩))), (7, some (vI (4 : Int)))] [some (Qd b_m 84 [vm1, vm2]), some (Qj u8S false vm2 vsm1 m.B none), some (Qd b1 37 [vU8 (0 : UInt8), vU8 (0 : UInt8), vU8 (0 : UInt8), vU8 (0 : UInt8), vU8 (0 : UInt8), vU8 (0 : UInt8), vU8 (0 : UInt8), vU8 (0 : UInt8), vU8 (0 : UInt8), vU8 (0 : UInt8), vU8 (0 : UInt8), vU8 (0 : UInt8), vI (0 : Int), vU16 (0 : UInt16), .slice none 0 0])] [Fact.sl Qf vm1 m.L] [6, 7] [0, 1, 2] [0] rfl ?_
     refine QC u8S ?_
     obtain rfl := Option.some.inj h
     exact Qo rfl rfl (resA (vs := [.agg #[vU8 (0 : UInt8), vU8 (0 : UInt8), vU8 (0 : UInt8), vU8 (0 : UInt8), vU8 (0 : UInt8), vU8 (0 : UInt8), vU8 (0 : UInt8), vU8 (0 : UInt8), vU8 (0 : UInt8), vU8 (0 : UInt8), vU8 (0 : UInt8), vU8 (0 : UInt8), vI (0 : Int), vU16 (0 : UInt16), .slice none 0 0], vI (4 : Int)]) rfl ⟨⟨_, 2, _, _, _, rfl, rfl, .inl ⟨Zs, rfl, rfl⟩⟩, rfl, trivial⟩) [0, 1, 3] [] rfl rfl rfl ⟨(.slice none 0 0), rfl, rfl, rfl⟩
    ·replace h := br_f hg4 h
     refine Ql (cgb hg4) ?_
     refine Qr (Qe (Qb (sMv rfl rfl rfl ?_)))
     obtain ⟨read1, hx5, h⟩ := ob_e h
     refine Qt rfl (QX [3] [0, 1, 2, 3, 4] (w_ref_Read23 hx5) [] rfl rfl rfl rfl rfl callee45 rfl rfl rfl rfl rfl rfl (QM (ZA 3 rfl rfl) ZB) (by rintro _ _ _ ⟨_, rfl, rfl, rfl⟩; exact ⟨rfl, (Zj (YK (S := u8S) rfl _ _) Xa)⟩)) ?_
     rintro _ ⟨_, _, _, ⟨v3, rfl, rfl, rfl⟩, rfl⟩
     refine Qa rfl (Qs rfl rfl rfl rfl rfl) ?_
     refine Qa rfl (Qs rfl rfl rfl rfl rfl) ?_
     refine Qa rfl (Xu (fun z0 => [vU8 read1.1.Dst.a0, vU8 read1.1.Dst.a1, vU8 read1.1.Dst.a2, vU8 read1.1.Dst.a3, vU8 read1.1.Dst.a4, vU8 read1.1.Dst.a5, vU8 read1.1.Src.a0, vU8 read1.1.Src.a1, vU8 read1.1.Src.a2, vU8 read1.1.Src.a3, vU8 read1.1.Src.a4, vU8 read1.1.Src.a5, vI read1.1.Vlan, vU16 read1.1.Type_, z0]) (cs' := [vU8 read1.1.Dst.a0, vU8 read1.1.Dst.a1, vU8 read1.1.Dst.a2, vU8 read1.1.Dst.a3, vU8 read1.1.Dst.a4, vU8 read1.1.Dst.a5, vU8 read1.1.Src.a0, vU8 read1.1.Src.a1, vU8 read1.1.Src.a2, vU8 read1.1.Src.a3, vU8 read1.1.Src.a4, vU8 read1.1.Src.a5, vI read1.1.Vlan, vU16 read1.1.Type_, v3]) rfl rfl rfl rfl Zs (i := 2) rfl (Yy (i := 4) rfl) (fun _ _ _ => rfl) rfl rfl rfl) ?_
     refine sAs rfl rfl rfl ?_
     refine nW [(6, some (.pointer (some ⟨b1, 0, none⟩))), (7, some (vI read1.2))] [some (Qd b_m 84 [vm1, vm2]), some (Qj u8S false vm2 vsm1 m.B none), some (Qd b1 37 [vU8 read1.1.Dst.a0, vU8 read1.1.Dst.a1, vU8 read1.1.Dst.a2, vU8 read1.1.Dst.a3, vU8 read1.1.Dst.a4, vU8 read1.1.Dst.a5, vU8 read1.1.Src.a0, vU8 read1.1.Src.a1, vU8 read1.1.Src.a2, vU8 read1.1.Src.a3, vU8 read1.1.Src.a4, vU8 read1.1.Src.a5, vI read1.1.Vlan, vU16 read1.1.Type_, v3]), some (rowS u8S v3 read1.1.Data)] [Fact.sl Qf vm1 m.L] [6, 7] [0, 1, 2, 4] [0] rfl ?_
     obtain rfl := Option.some.inj h
     exact Qo rfl rfl (resA (vs := [.agg #[vU8 read1.1.Dst.a0, vU8 read1.1.Dst.a1, vU8 read1.1.Dst.a2, vU8 read1.1.Dst.a3, vU8 read1.1.Dst.a4, vU8 read1.1.Dst.a5, vU8 read1.1.Src.a0, vU8 read1.1.Src.a1, vU8 read1.1.Src.a2, vU8 read1.1.Src.a3, vU8 read1.1.Src.a4, vU8 read1.1.Src.a5, vI read1.1.Vlan, vU16 read1.1.Type_, v3], vI read1.2]) rfl ⟨⟨_, 2, _, _, _, rfl, rfl, .inl ⟨Zs, rfl, rfl⟩⟩, rfl, trivial⟩) [0, 1, 3] [] rfl rfl rfl ⟨v3, rfl, rfl, rfl⟩
   ·replace h := br_f hg3 h
    refine Ql (cgb hg3) ?_
    refine Qr (Qe (Qb (sMv rfl rfl rfl ?_)))
    obtain ⟨read2, hx6, h⟩ := ob_e h
    refine Qt rfl (QX [3] [0, 1, 2, 3, 4, 5] (w_ref_Read23 hx6) [] rfl rfl rfl rfl rfl callee45 rfl rfl rfl rfl rfl rfl (QM (bor_sub (S := u8S) (l := (12 : Int)) (m := (len Zu.1)) 3 rfl rfl hc1) ZB) (by rintro _ _ _ ⟨_, rfl, rfl, rfl⟩; exact ⟨rfl, (Zj (YK (S := u8S) rfl _ _) Xa)⟩)) ?_
    rintro _ ⟨_, _, _, ⟨v4, rfl, rfl, rfl⟩, rfl⟩
    refine Qa rfl (Qs rfl rfl rfl rfl rfl) ?_
    refine Qa rfl (Qs rfl rfl rfl rfl rfl) ?_
    refine Qa rfl (Xu (fun z0 => [vU8 read2.1.Dst.a0, vU8 read2.1.Dst.a1, vU8 read2.1.Dst.a2, vU8 read2.1.Dst.a3, vU8 read2.1.Dst.a4, vU8 read2.1.Dst.a5, vU8 read2.1.Src.a0, vU8 read2.1.Src.a1, vU8 read2.1.Src.a2, vU8 read2.1.Src.a3, vU8 read2.1.Src.a4, vU8 read2.1.Src.a5, vI read2.1.Vlan, vU16 read2.1.Type_, z0]) (cs' := [vU8 read2.1.Dst.a0, vU8 read2.1.Dst.a1, vU8 read2.1.Dst.a2, vU8 read2.1.Dst.a3, vU8 read2.1.Dst.a4, vU8 read2.1.Dst.a5, vU8 read2.1.Src.a0, vU8 read2.1.Src.a1, vU8 read2.1.Src.a2, vU8 read2.1.Src.a3, vU8 read2.1.Src.a4, vU8 read2.1.Src.a5, vI read2.1.Vlan, vU16 read2.1.Type_, v4]) rfl rfl rfl rfl Zs (i := 2) rfl (Yy (i := 5) rfl) (fun _ _ _ => rfl) rfl rfl rfl) ?_
    refine sAs rfl rfl rfl ?_
    refine nW [(6, some (.pointer (some ⟨b1, 0, none⟩))), (7, some (vI read2.2))] [some (Qd b_m 84 [vm1, vm2]), some (Qj u8S false vm2 vsm1 m.B none), some (Qd b1 37 [vU8 read2.1.Dst.a0, vU8 read2.1.Dst.a1, vU8 read2.1.Dst.a2, vU8 read2.1.Dst.a3, vU8 read2.1.Dst.a4, vU8 read2.1.Dst.a5, vU8 read2.1.Src.a0, vU8 read2.1.Src.a1, vU8 read2.1.Src.a2, vU8 read2.1.Src.a3, vU8 read2.1.Src.a4, vU8 read2.1.Src.a5, vI read2.1.Vlan, vU16 read2.1.Type_, v4]), some (rowS u8S v4 read2.1.Data)] [Fact.sl Qf vm1 m.L] [6, 7] [0, 1, 2, 5] [0] rfl ?_
    obtain rfl := Option.some.inj h
    exact Qo rfl rfl (resA (vs := [.agg #[vU8 read2.1.Dst.a0, vU8 read2.1.Dst.a1, vU8 read2.1.Dst.a2, vU8 read2.1.Dst.a3, vU8 read2.1.Dst.a4, vU8 read2.1.Dst.a5, vU8 read2.1.Src.a0, vU8 read2.1.Src.a1, vU8 read2.1.Src.a2, vU8 read2.1.Src.a3, vU8 read2.1.Src.a4, vU8 read2.1.Src.a5, vI read2.1.Vlan, vU16 read2.1.Type_, v4], vI read2.2]) rfl ⟨⟨_, 2, _, _, _, rfl, rfl, .inl ⟨Zs, rfl, rfl⟩⟩, rfl, trivial⟩) [0, 1, 3] [] rfl rfl rfl ⟨v4, rfl, rfl, rfl⟩
end Go.Proofs.Ytgcbcnpbnonnjaa
